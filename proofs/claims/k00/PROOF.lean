import PyProof.Rows.All
import Wide.All
import OpenK.AllK
import Wide.FinOn
import HandS.ForMost
import HandS.Exc
import HandS.ExcOwn
import HandS.TryMany
import HandS.TryOnly
import HandS.WordsExc
import HandS.CallSlots
import HandS.TupAny
import HandS.TupMul
import HandS.Wide
import HandS.WideBits
import HandS.IsInst
import HandS.Style
import HandS.TupLe
import HandS.Conv
import HandS.SortInts
import HandS.WordsDict
import HandS.Text
import KE.SortData
import PyProof.ReprRoads
import HandS.Deep
import KE.KRevSl
import KE.GoesMore
import PyProof.Draws
import KE.KExcSuper
import KE.KSuper
import HandS.Zip
import KE.KExcIs
import HandS.ExcIs
import HandS.SetFor
import HandS.TupSets
import HandS.Strs
import KE.KTupSum
import KE.KTab
import HandS.Replace
import KE.DatumOrd
import HandS.Flow
import HandS.Codes
import HandS.NoneIn
import PySem.Challenge.RW_lampkinds_k00_fractions
set_option Elab.async false
set_option linter.all false
set_option maxRecDepth 100000
namespace L2
namespace G
open PySem PySem.Spec PyProof.Rows

/-! ### data, slots, results -/
abbrev D := PyData
/-- what is known of a local name: nothing, shared data, an own list (w: may be written), a range -/
inductive Sl where
  | un | sh (d : D) | ow (w : Bool) (d : D) | rg (lo hi : Int)
abbrev En := List Sl
/-- an exception: the class's number, the own field's value -/
structure Exn where
  cls : Nat
  arg : Option D
inductive Res (α : Type) where
  | st | ok (a : α) (e : En) | ex (x : Exn)
structure Rs where
  d : D
  fr : Bool
abbrev XF := En → Res Rs

/-- classes of exceptions: where they stand, and the name of their field -/
structure Ct where
  K : PySem.W.Frag
  cl : Nat → Addr
  fl : Nat → Str

/-- a dict's key as data -/
def keyD : Key → D
  | .inl i => .int i
  | .inr x => .str x
mutual
inductive Rep (K : PySem.W.Frag) (H : Hp) (B : Addr → Prop) : V → D → Prop
  | non : Rep K H B .non .none
  | bl (b : Bool) : Rep K H B (.bl b) (.bool b)
  | int (i : Int) : Rep K H B (.int i) (.int i)
  | str (x : Str) : Rep K H B (.str x) (.str x)
  | lst {a : Addr} {xs : List V} {ds : List D} : H a = some (.lst xs) → ¬ B a → Reps K H B xs ds → Rep K H B (.ref a) (.list ds)
  | tup {a : Addr} {xs : List V} {ds : List D} : SqT K H a xs → Reps K H B xs ds → Rep K H B (.ref a) (.tuple ds)
  | dct {a : Addr} {kvs : List (Key × V)} {ks : List (D × D)} : H a = some (.dK kvs) → ¬ B a → RepK K H B kvs ks → Rep K H B (.ref a) (.dict ks)
inductive Reps (K : PySem.W.Frag) (H : Hp) (B : Addr → Prop) : List V → List D → Prop
  | nil : Reps K H B [] []
  | cons {v : V} {vs : List V} {d : D} {ds : List D} : Rep K H B v d → Reps K H B vs ds → Reps K H B (v :: vs) (d :: ds)
inductive RepK (K : PySem.W.Frag) (H : Hp) (B : Addr → Prop) : List (Key × V) → List (D × D) → Prop
  | nil : RepK K H B [] []
  | cons {k : Key} {v : V} {kvs : List (Key × V)} {d : D} {ks : List (D × D)} : Rep K H B v d → RepK K H B kvs ks → RepK K H B ((k, v) :: kvs) ((keyD k, d) :: ks)
end
/-- what stands at an own address: the list itself is not looked at -/
inductive Top (K : PySem.W.Frag) (H : Hp) (B : Addr → Prop) (a : Addr) : D → Prop
  | lst {xs : List V} {ds : List D} : H a = some (.lst xs) → Reps K H B xs ds → Top K H B a (.list ds)
  | dct {kvs : List (Key × V)} {ks : List (D × D)} : H a = some (.dK kvs) → RepK K H B kvs ks → Top K H B a (.dict ks)

section
variable {K : PySem.W.Frag} {H H' H'' : Hp} {B B' : Addr → Prop} {a p : Addr} {d : D} {ds : List D} {v : V} {vs : List V}
theorem rd_keep {u : HO} (h : Rd H a u) (k : ∀ o, H a = some o → H' a = some o) : Rd H' a u := by
  rcases h with h | ⟨o, h⟩
  · exact .inl (k _ h)
  · exact .inr ⟨o, k _ h⟩
theorem rd_there {u : HO} (h : Rd H a u) : H a ≠ none := by
  rcases h with h | ⟨o, h⟩ <;> (rw [h]; intro z; cases z)
/-- what the heap may do to data that avoid B: all but B is kept; tuples are kept anyhow -/
structure Kp (B : Addr → Prop) (H H' : Hp) : Prop where
  keep : ∀ a o, H a = some o → ¬ B a → H' a = some o
  there : ∀ a, H a ≠ none → H' a ≠ none
  tup : ∀ a xs, Rd H a (.tup xs) → Rd H' a (.tup xs)
  rng : ∀ a lo hi, H a = some (.rng lo hi) → H' a = some (.rng lo hi)
theorem Kp.refl : Kp B H H := ⟨fun _ _ h _ => h, fun _ h => h, fun _ _ h => h, fun _ _ _ h => h⟩
theorem Kp.trans (k : Kp B H H') (k' : Kp B H' H'') : Kp B H H'' := ⟨fun a o h n => k'.keep a o (k.keep a o h n) n, fun a h => k'.there a (k.there a h), fun a xs h => k'.tup a xs (k.tup a xs h), fun a lo hi h => k'.rng a lo hi (k.rng a lo hi h)⟩
theorem Kp.anti (k : Kp B H H') (h : ∀ a, B a → B' a) : Kp B' H H' := ⟨fun a o e n => k.keep a o e fun z => n (h a z), k.there, k.tup, k.rng⟩
theorem Kp.ext (k : ∀ a o, H a = some o → H' a = some o) : Kp B H H' := ⟨fun a o h _ => k a o h, fun a h => (by cases q : H a with | none => exact absurd q h | some o => rw [k a o q]; intro z; cases z), fun _ _ h => rd_keep h (k _), fun a lo hi h => k a _ h⟩
theorem ext_new {o : HO} (h : H p = none) : ∀ a u, H a = some u → upd H p o a = some u := fun a u e => by rw [upd_ne (ne_of_none e h)]; exact e
theorem Kp.new {o : HO} (h : H p = none) : Kp B H (upd H p o) := .ext (ext_new h)
/-- what may be written: a list, a dict -/
def Mo : HO → Prop
  | .lst _ => True | .dK _ => True | .dT _ => True | _ => False
/-- such a thing at an address of B is written -/
theorem Kp.write {u o : HO} (h : H a = some u) (m : Mo u) (b : B a) : Kp B H (upd H a o) :=
  ⟨fun c o e n => by rw [upd_ne (fun z => n (by rw [z]; exact b))]; exact e, fun c n => by
    rcases Classical.em (c = a) with z | z
    · rw [z, upd_same]; intro z; cases z
    · rw [upd_ne z]; exact n, fun c zs r => by
    have hc : c ≠ a := fun z => by
      subst z
      rcases r with r | ⟨o, r⟩ <;> (rw [h] at r; cases r; exact m)
    exact rd_keep r fun o e => by rw [upd_ne hc]; exact e, fun c lo hi e => by
    have hc : c ≠ a := fun z => by subst z; rw [h] at e; cases e; exact m
    rw [upd_ne hc]; exact e⟩
mutual
theorem Rep.go (k : Kp B H H') (hB : ∀ a, B' a → H a ≠ none → B a) : ∀ {d : D} {v : V}, Rep K H B v d → Rep K H' B' v d
  | .none, _, h => by cases h; exact .non
  | .bool b, _, h => by cases h; exact .bl b
  | .int i, _, h => by cases h; exact .int i
  | .str x, _, h => by cases h; exact .str x
  | .list ds, _, h => by
    cases h with
    | lst q nb r => exact .lst (k.keep _ _ q nb) (fun z => nb (hB _ z (by rw [q]; intro z; cases z))) (Reps.go k hB r)
  | .tuple ds, _, h => by
    cases h with
    | tup q r =>
      refine .tup ?_ (Reps.go k hB r)
      rcases q with q | q
      · exact .inl (k.tup _ _ q)
      · exact .inr q
  | .dict ks, _, h => by
    cases h with
    | dct q nb r => exact .dct (k.keep _ _ q nb) (fun z => nb (hB _ z (by rw [q]; intro z; cases z))) (RepK.go k hB r)
theorem Reps.go (k : Kp B H H') (hB : ∀ a, B' a → H a ≠ none → B a) : ∀ {ds : List D} {vs : List V}, Reps K H B vs ds → Reps K H' B' vs ds
  | [], _, h => by cases h; exact .nil
  | d :: ds, _, h => by
    cases h with
    | cons a b => exact .cons (Rep.go k hB a) (Reps.go k hB b)
theorem RepK.go (k : Kp B H H') (hB : ∀ a, B' a → H a ≠ none → B a) : ∀ {ks : List (D × D)} {kvs : List (Key × V)}, RepK K H B kvs ks → RepK K H' B' kvs ks
  | [], _, h => by cases h; exact .nil
  | (_, d) :: ks, _, h => by
    cases h with
    | cons a b => exact .cons (Rep.go k hB a) (RepK.go k hB b)
end
theorem Rep.anti (r : Rep K H B v d) (h : ∀ a, B' a → B a) : Rep K H B' v d := r.go .refl fun a z _ => h a z
theorem RepK.anti {kvs : List (Key × V)} {ks : List (D × D)} (r : RepK K H B kvs ks) (h : ∀ a, B' a → B a) : RepK K H B' kvs ks := r.go .refl fun a z _ => h a z
theorem RepK.keep {kvs : List (Key × V)} {ks : List (D × D)} (r : RepK K H B kvs ks) (k : Kp B H H') : RepK K H' B kvs ks := r.go k fun _ z _ => z
theorem Reps.anti (r : Reps K H B vs ds) (h : ∀ a, B' a → B a) : Reps K H B' vs ds := r.go .refl fun a z _ => h a z
theorem Rep.keep (r : Rep K H B v d) (k : Kp B H H') : Rep K H' B v d := r.go k fun _ z _ => z
theorem Reps.keep (r : Reps K H B vs ds) (k : Kp B H H') : Reps K H' B vs ds := r.go k fun _ z _ => z
theorem Reps.length (r : Reps K H B vs ds) : vs.length = ds.length := by
  induction ds generalizing vs with
  | nil => cases r; rfl
  | cons d ds ih => cases r with | cons a b => simp [ih b]
theorem Reps.get {i : Nat} (r : Reps K H B vs ds) (h : vs[i]? = some v) : ∃ d, ds[i]? = some d ∧ Rep K H B v d := by
  induction ds generalizing vs i with
  | nil => cases r; simp at h
  | cons d ds ih =>
    cases r with
    | cons a b =>
      cases i with
      | zero => simp at h; subst h; exact ⟨d, rfl, a⟩
      | succ i => simpa using ih b (by simpa using h)
theorem Reps.getD {i : Nat} (r : Reps K H B vs ds) (h : ds[i]? = some d) : ∃ v, vs[i]? = some v ∧ Rep K H B v d := by
  induction ds generalizing vs i with
  | nil => simp at h
  | cons d' ds ih =>
    cases r with
    | cons a b =>
      cases i with
      | zero => simp at h; subst h; exact ⟨_, rfl, a⟩
      | succ i => simpa using ih b (by simpa using h)
theorem Reps.append {vs' : List V} {ds' : List D} (r : Reps K H B vs ds) (r' : Reps K H B vs' ds') : Reps K H B (vs ++ vs') (ds ++ ds') := by
  induction ds generalizing vs with
  | nil => cases r; exact r'
  | cons d ds ih => cases r with | cons a b => exact .cons a (ih b)
theorem Reps.take (n : Nat) (r : Reps K H B vs ds) : Reps K H B (vs.take n) (ds.take n) := by
  induction ds generalizing vs n with
  | nil => cases r; simp; exact .nil
  | cons d ds ih =>
    cases r with
    | cons a b =>
      cases n with
      | zero => exact .nil
      | succ n => exact .cons a (ih n b)
theorem Reps.drop (n : Nat) (r : Reps K H B vs ds) : Reps K H B (vs.drop n) (ds.drop n) := by
  induction ds generalizing vs n with
  | nil => cases r; simp; exact .nil
  | cons d ds ih =>
    cases r with
    | cons a b =>
      cases n with
      | zero => exact .cons a b
      | succ n => exact ih n b
theorem Reps.set (i : Nat) (r : Reps K H B vs ds) (q : Rep K H B v d) : Reps K H B (vs.set i v) (ds.set i d) := by
  induction ds generalizing vs i with
  | nil => cases r; exact .nil
  | cons d' ds ih =>
    cases r with
    | cons a b =>
      cases i with
      | zero => exact .cons q b
      | succ i => exact .cons a (ih i b)
theorem Reps.reverse (r : Reps K H B vs ds) : Reps K H B vs.reverse ds.reverse := by
  induction ds generalizing vs with
  | nil => cases r; exact .nil
  | cons d ds ih =>
    cases r with
    | cons a b =>
      rw [List.reverse_cons, List.reverse_cons]
      exact (ih b).append (.cons a .nil)
theorem Reps.eraseIdx (i : Nat) (r : Reps K H B vs ds) : Reps K H B (vs.eraseIdx i) (ds.eraseIdx i) := by
  induction ds generalizing vs i with
  | nil => cases r; exact .nil
  | cons d ds ih =>
    cases r with
    | cons a b =>
      cases i with
      | zero => exact b
      | succ i => exact .cons a (ih i b)
theorem Reps.dropLast (r : Reps K H B vs ds) : Reps K H B vs.dropLast ds.dropLast := by
  rw [List.dropLast_eq_take, List.dropLast_eq_take, r.length]; exact r.take _
theorem Top.go (k : Kp B H H') (hB : ∀ a, B' a → H a ≠ none → B a) (ha : ∀ o, H a = some o → H' a = some o) (t : Top K H B a d) : Top K H' B' a d := by
  cases t with
  | lst q r => exact .lst (ha _ q) (r.go k hB)
  | dct q r => exact .dct (ha _ q) (r.go k hB)
theorem Top.anti (t : Top K H B a d) (h : ∀ a, B' a → B a) : Top K H B' a d := t.go .refl (fun a z _ => h a z) fun _ e => e
theorem Top.rep (t : Top K H B a d) (nb : ¬ B' a) (h : ∀ a, B' a → B a) : Rep K H B' (.ref a) d := by
  cases t with
  | lst q r => exact .lst q nb (r.anti h)
  | dct q r => exact .dct q nb (r.go .refl fun a z _ => h a z)
/-- data that are read at once -/
abbrev Rdd (K : PySem.W.Frag) (H : Hp) (v : V) (d : D) : Prop := Rep K H (fun _ => False) v d
theorem Rep.rdd (r : Rep K H B v d) : Rdd K H v d := r.anti fun _ z => z.elim
theorem Top.rdd (t : Top K H B a d) : Rdd K H (.ref a) d := t.rep (fun z => z) fun _ z => z.elim
/-- an operand: its items avoid B, itself perhaps not -/
inductive Opd (K : PySem.W.Frag) (H : Hp) (B : Addr → Prop) : V → D → Prop
  | rep {v : V} {d : D} : Rep K H B v d → Opd K H B v d
  | top {a : Addr} {d : D} : Top K H B a d → Opd K H B (.ref a) d
theorem Opd.rdd (o : Opd K H B v d) : Rdd K H v d := by
  cases o with
  | rep r => exact r.rdd
  | top t => exact t.rdd
theorem Opd.list (o : Opd K H B v (.list ds)) : ∃ a xs, v = .ref a ∧ H a = some (.lst xs) ∧ Reps K H B xs ds := by
  cases o with
  | rep r => cases r with | lst q _ r => exact ⟨_, _, rfl, q, r⟩
  | top t => cases t with | lst q r => exact ⟨_, _, rfl, q, r⟩
theorem Opd.tuple (o : Opd K H B v (.tuple ds)) : ∃ a xs, v = .ref a ∧ SqT K H a xs ∧ Reps K H B xs ds := by
  cases o with
  | rep r => cases r with | tup q r => exact ⟨_, _, rfl, q, r⟩
  | top t => cases t
theorem Opd.int {i : Int} (o : Opd K H B v (.int i)) : v = .int i := by
  cases o with
  | rep r => cases r; rfl
  | top t => cases t
theorem Opd.str {i : Str} (o : Opd K H B v (.str i)) : v = .str i := by
  cases o with
  | rep r => cases r; rfl
  | top t => cases t
theorem Opd.bool {i : Bool} (o : Opd K H B v (.bool i)) : v = .bl i := by
  cases o with
  | rep r => cases r; rfl
  | top t => cases t
theorem Opd.none (o : Opd K H B v .none) : v = .non := by
  cases o with
  | rep r => cases r; rfl
  | top t => cases t
end

/-! ### the state -/
section
variable {K : PySem.W.Frag} {H H' H1 H2 : Hp} {Bx Bx' : Addr → Prop} {σ σ' : St} {e e' e1 e2 : En} {a p : Addr} {d : D} {v : V} {r : Rs}
def Wr (σ : St) (e : En) (a : Addr) : Prop := ∃ (i : Nat) (d : D), e[i]? = some (Sl.ow true d) ∧ σ[i]? = some (some (V.ref a))
def Av (σ : St) (e : En) (a : Addr) : Prop := ∃ (i : Nat) (w : Bool) (d : D), e[i]? = some (Sl.ow w d) ∧ σ[i]? = some (some (V.ref a))
theorem Wr.av (h : Wr σ e a) : Av σ e a := let ⟨i, d, h1, h2⟩ := h; ⟨i, true, d, h1, h2⟩
def Avo (Bx : Addr → Prop) (σ : St) (e : En) (a : Addr) : Prop := Av σ e a ∨ Bx a
/-- one more -/
def ad (Bx : Addr → Prop) (p : Addr) (a : Addr) : Prop := Bx a ∨ a = p
structure Sim (K : PySem.W.Frag) (Bx : Addr → Prop) (σ : St) (H : Hp) (e : En) : Prop where
  len : e.length = σ.length
  sh : ∀ (i : Nat) (d : D), e[i]? = some (Sl.sh d) → ∃ v, σ[i]? = some (some v) ∧ Rep K H (Avo Bx σ e) v d
  ow : ∀ (i : Nat) (w : Bool) (d : D), e[i]? = some (Sl.ow w d) → ∃ a, σ[i]? = some (some (V.ref a)) ∧ ¬ Bx a ∧ Top K H (Avo Bx σ e) a d
  inj : ∀ (i j : Nat) (w w' : Bool) (d d' : D) (a : Addr), e[i]? = some (Sl.ow w d) → e[j]? = some (Sl.ow w' d') → σ[i]? = some (some (V.ref a)) → σ[j]? = some (some (V.ref a)) → i = j
  bx : ∀ a, Bx a → H a ≠ none
  rg : ∀ (i : Nat) (lo hi : Int), e[i]? = some (Sl.rg lo hi) → ∃ a, σ[i]? = some (some (V.ref a)) ∧ H a = some (.rng lo hi)
/-- all is kept but what may be written -/
def Fr (σ : St) (e : En) (H H' : Hp) : Prop := Kp (Wr σ e) H H'
structure Le (σ : St) (e e' : En) : Prop where
  wr : ∀ a, Wr σ e' a → Wr σ e a
  av : ∀ a, Av σ e' a → Av σ e a
theorem Le.refl : Le σ e e := ⟨fun _ h => h, fun _ h => h⟩
theorem Le.trans (h : Le σ e e1) (h' : Le σ e1 e2) : Le σ e e2 := ⟨fun a z => h.wr a (h'.wr a z), fun a z => h.av a (h'.av a z)⟩
theorem Fr.refl : Fr σ e H H := Kp.refl
theorem Fr.trans (h : Fr σ e H H1) (l : Le σ e e1) (h' : Fr σ e1 H1 H2) : Fr σ e H H2 := Kp.trans h (Kp.anti h' l.wr)
theorem Sim.there (s : Sim K Bx σ H e) (h : Av σ e a) : H a ≠ none := by
  obtain ⟨i, w, d, h1, h2⟩ := h
  obtain ⟨b, q1, q2, q3⟩ := s.ow i w d h1
  rw [h2] at q1; cases q1
  cases q3 with
  | lst q _ => rw [q]; intro z; cases z
  | dct q _ => rw [q]; intro z; cases z
theorem Sim.avo_there (s : Sim K Bx σ H e) (h : Avo Bx σ e a) : H a ≠ none := h.elim s.there (s.bx a)
/-- less is avoided -/
theorem Sim.weaken (s : Sim K Bx' σ H e) (h : ∀ a, Bx a → Bx' a) : Sim K Bx σ H e := by
  have hh : ∀ a, Avo Bx σ e a → Avo Bx' σ e a := fun a z => z.imp id (h a)
  refine ⟨s.len, fun i d q => ?_, fun i w d q => ?_, s.inj, fun a z => s.bx a (h a z), s.rg⟩
  · obtain ⟨v, q1, q2⟩ := s.sh i d q
    exact ⟨v, q1, q2.anti hh⟩
  · obtain ⟨a, q1, q2, q3⟩ := s.ow i w d q
    exact ⟨a, q1, fun z => q2 (h a z), q3.anti hh⟩
/-- the heap turns, what is avoided stands -/
theorem Sim.heap (s : Sim K Bx σ H e) (k : ∀ a o, H a = some o → H' a = some o) : Sim K Bx σ H' e := by
  have kp : ∀ {B}, Kp B H H' := .ext k
  refine ⟨s.len, fun i d q => ?_, fun i w d q => ?_, s.inj, fun a z => ?_, fun i lo hi h1 => (let ⟨a, r1, r2⟩ := s.rg i lo hi h1; ⟨a, r1, k a _ r2⟩)⟩
  · obtain ⟨v, q1, q2⟩ := s.sh i d q
    exact ⟨v, q1, q2.keep kp⟩
  · obtain ⟨a, q1, q2, q3⟩ := s.ow i w d q
    exact ⟨a, q1, q2, q3.go kp (fun _ z _ => z) (k a)⟩
  · cases q : H a with
    | none => exact absurd q (s.bx a z)
    | some o => rw [k a o q]; intro z; cases z
/-- a new object is laid: it may be avoided from now on -/
theorem Sim.laid {o : HO} (s : Sim K Bx σ H e) (h : H p = none) : Sim K (ad Bx p) σ (upd H p o) e := by
  have kp : ∀ {B}, Kp B H (upd H p o) := .new h
  have hh : ∀ a, Avo (ad Bx p) σ e a → H a ≠ none → Avo Bx σ e a := fun a z n => by
    rcases z with z | z | z
    · exact .inl z
    · exact .inr z
    · rw [z] at n; exact absurd h n
  refine ⟨s.len, fun i d q => ?_, fun i w d q => ?_, s.inj, fun a z => ?_, fun i lo hi h1 => (let ⟨a, r1, r2⟩ := s.rg i lo hi h1; ⟨a, r1, ext_new h a _ r2⟩)⟩
  · obtain ⟨v, q1, q2⟩ := s.sh i d q
    exact ⟨v, q1, q2.go kp hh⟩
  · obtain ⟨a, q1, q2, q3⟩ := s.ow i w d q
    refine ⟨a, q1, fun z => ?_, q3.go kp hh (ext_new h a)⟩
    rcases z with z | z
    · exact q2 z
    · subst z; exact s.there ⟨i, w, d, q, q1⟩ h
  · rcases z with z | z
    · cases q : H a with
      | none => exact absurd q (s.bx a z)
      | some u => rw [ext_new h a u q]; intro z; cases z
    · rw [z, upd_same]; intro z; cases z
/-- behind an expression: r, new e', v, H' -/
def Holds (K : PySem.W.Frag) (Bx : Addr → Prop) (σ : St) (H : Hp) (e : En) (r : Rs) (v : V) : Prop :=
  match r.fr with
  | false => Sim K Bx σ H e ∧ Rep K H (Avo Bx σ e) v r.d
  | true => ∃ p, v = .ref p ∧ ¬ Bx p ∧ Sim K (ad Bx p) σ H e ∧ Top K H (Avo (ad Bx p) σ e) p r.d
structure Post (K : PySem.W.Frag) (Bx : Addr → Prop) (σ : St) (H : Hp) (e : En) (r : Rs) (e' : En) (v : V) (H' : Hp) : Prop where
  fr : Fr σ e H H'
  le : Le σ e e'
  is : Holds K Bx σ H' e' r v
  new : r.fr = true → ∀ p, v = .ref p → H p = none
theorem Holds.sh (h : Holds K Bx σ H e r v) : Sim K Bx σ H e ∧ Rep K H (Avo Bx σ e) v r.d := by
  obtain ⟨d, fr⟩ := r
  cases fr with
  | false => exact h
  | true =>
    obtain ⟨p, rfl, nb, s, t⟩ := h
    refine ⟨s.weaken fun a z => .inl z, t.rep (fun z => ?_) fun a z => z.imp id .inl⟩
    rcases z with ⟨i, w, d', h1, h2⟩ | z
    · obtain ⟨b, q1, q2, _⟩ := s.ow i w d' h1
      rw [h2] at q1; cases q1
      exact q2 (.inr rfl)
    · exact nb z
theorem Post.s (h : Post K Bx σ H e r e' v H') : Sim K Bx σ H' e' := h.is.sh.1
theorem Post.rp (h : Post K Bx σ H e r e' v H') : Rep K H' (Avo Bx σ e') v r.d := h.is.sh.2
theorem Post.mk0 (fr : Fr σ e H H') (le : Le σ e e') (s : Sim K Bx σ H' e') (r : Rep K H' (Avo Bx σ e') v d) : Post K Bx σ H e ⟨d, false⟩ e' v H' := ⟨fr, le, ⟨s, r⟩, fun z => nomatch z⟩
/-- first, then -/
theorem Post.after {r1 : Rs} {v1 : V} (h : Post K Bx σ H e r1 e1 v1 H1) (h' : Post K Bx σ H1 e1 r e' v H') : Post K Bx σ H e r e' v H' :=
  ⟨h.fr.trans h.le h'.fr, h.le.trans h'.le, h'.is, fun z p q => Classical.byContradiction fun o => h.fr.there p o (h'.new z p q)⟩
end
end G
end L2
namespace L2
namespace G
open PySem PySem.Spec PyProof.Rows

def Res.bind {α β : Type} (x : Res α) (g : α → En → Res β) : Res β := match x with
  | .st => .st
  | .ok a e => g a e
  | .ex y => .ex y
def Res.run {α : Type} (x : Res α) (P : α → En → Prop) (E : Exn → Prop) : Prop := match x with
  | .st => False
  | .ok a e => P a e
  | .ex y => E y
theorem bind_run {α β : Type} {x : Res α} {g : α → En → Res β} {P : β → En → Prop} {E : Exn → Prop} (h : (x.bind g).run P E) : x.run (fun a e => (g a e).run P E) E := by
  cases x <;> exact h
theorem run_mono {α : Type} {x : Res α} {P P' : α → En → Prop} {E E' : Exn → Prop} (h : x.run P E) (h1 : ∀ a e, P a e → P' a e) (h2 : ∀ y, E y → E' y) : x.run P' E' := by
  cases x with
  | st => exact h
  | ok a e => exact h1 a e h
  | ex y => exact h2 y h

def ExR (C : Ct) (x : Exn) (cls : Value) (d : Option Addr) (H : Hp) : Prop :=
  cls = .ref (C.cl x.cls) ∧ (∀ p, x.arg = some p → ∃ (a : Addr) (v : V), d = some a ∧ H a = some (.xd [(C.fl x.cls, v)]) ∧ Rdd C.K H v p) ∧ (x.arg = none → d = none)
/-- what is wished of an exception -/
def EX (C : Ct) (W : WX) (σ : L2.St) (H : Hp) (e : En) (x : Exn) : Prop := ∀ cls d (σ' : L2.St) H', σ'.length = σ.length → ExR C x cls d H' → Fr σ e H H' → W cls d σ' H'
theorem EX.after {C : Ct} {W : WX} {σ : L2.St} {H H1 : Hp} {e e1 : En} {x : Exn} (h : EX C W σ H e x) (f : Fr σ e H H1) (l : Le σ e e1) : EX C W σ H1 e1 x :=
  fun cls d σ' H' q r f' => h cls d σ' H' q r (f.trans l f')

/-- readings -/
def TD (C : Ct) (W : WX) (f : XF) : TE := fun σ H Q => ∃ e Bx, Sim C.K Bx σ H e ∧ (f e).run (fun r e' => ∀ v H', Post C.K Bx σ H e r e' v H' → Q v H') (EX C W σ H e)
structure PostO (K : PySem.W.Frag) (Bx : Addr → Prop) (σ : L2.St) (H : Hp) (e : En) (d : D) (e' : En) (v : V) (H' : Hp) : Prop where
  fr : Fr σ e H H'
  le : Le σ e e'
  s : Sim K Bx σ H' e'
  o : Opd K H' (Avo Bx σ e') v d
def TDo (C : Ct) (W : WX) (f : En → Res D) : TE := fun σ H Q => ∃ e Bx, Sim C.K Bx σ H e ∧ (f e).run (fun d e' => ∀ v H', PostO C.K Bx σ H e d e' v H' → Q v H') (EX C W σ H e)
structure PostT (K : PySem.W.Frag) (Bx : Addr → Prop) (σ : L2.St) (H : Hp) (e : En) (e' : En) (H' : Hp) : Prop where
  fr : Fr σ e H H'
  le : Le σ e e'
  s : Sim K Bx σ H' e'
def TDt (C : Ct) (W : WX) (f : En → Res Bool) : TT := fun σ H Q => ∃ e Bx, Sim C.K Bx σ H e ∧ (f e).run (fun b e' => ∀ H', PostT C.K Bx σ H e e' H' → Q b H') (EX C W σ H e)
structure PostA (K : PySem.W.Frag) (Bx : Addr → Prop) (σ : L2.St) (H : Hp) (e : En) (ds : List D) (e' : En) (vs : List V) (H' : Hp) : Prop where
  fr : Fr σ e H H'
  le : Le σ e e'
  s : Sim K Bx σ H' e'
  r : Reps K H' (Avo Bx σ e') vs ds
def TDa (C : Ct) (W : WX) (f : En → Res (List D)) : TA := fun σ H Q => ∃ e Bx, Sim C.K Bx σ H e ∧ (f e).run (fun ds e' => ∀ vs H', PostA C.K Bx σ H e ds e' vs H' → Q vs H') (EX C W σ H e)
abbrev GE (C : Ct) (X : Cx) (W : WX) (e : Expr) (f : XF) : Prop := PE X e (TD C W f)
abbrev GO (C : Ct) (X : Cx) (W : WX) (e : Expr) (f : En → Res D) : Prop := PE X e (TDo C W f)
abbrev GT (C : Ct) (X : Cx) (W : WX) (e : Expr) (f : En → Res Bool) : Prop := PT X e (TDt C W f)
abbrev GW (C : Ct) (X : Cx) (W : WX) (e : Expr) (f : En → Res Bool) : Prop := PW X e (TDt C W f)
abbrev GA (C : Ct) (X : Cx) (W : WX) (es : List Expr) (f : En → Res (List D)) : Prop := PA X es (TDa C W f)

theorem pe_imp {X : Cx} {e : Expr} {t t' : TE} (h : PE X e t) (i : ∀ σ H Q, t' σ H Q → t σ H Q) : PE X e t' := ⟨fun pins s σ H Q I q => h.run pins s σ H Q I (i σ H Q q)⟩
theorem pt_imp {X : Cx} {e : Expr} {t t' : TT} (h : PT X e t) (i : ∀ σ H Q, t' σ H Q → t σ H Q) : PT X e t' := ⟨fun pins s σ H Q I q => h.run pins s σ H Q I (i σ H Q q)⟩
theorem pw_imp {X : Cx} {e : Expr} {t t' : TT} (h : PW X e t) (i : ∀ σ H Q, t' σ H Q → t σ H Q) : PW X e t' := ⟨fun wh pins s σ H Q I q => h.run wh pins s σ H Q I (i σ H Q q)⟩
theorem pa_imp {X : Cx} {e : List Expr} {t t' : TA} (h : PA X e t) (i : ∀ σ H Q, t' σ H Q → t σ H Q) : PA X e t' := ⟨fun pos pins s σ H Q I q => h.run pos pins s σ H Q I (i σ H Q q)⟩

section
variable {C : Ct} {X : Cx} {W : WX} {K : PySem.W.Frag} {Bx : Addr → Prop} {σ : L2.St} {H H' H1 H2 : Hp} {e0 e' e1 e2 : En} {e a b : Expr} {pos : Pos} {d : D} {v : V}

theorem Avo.le (l : Le σ e0 e') : ∀ a, Avo Bx σ e' a → Avo Bx σ e0 a := fun a z => z.imp (l.av a) id
/-- a value held while something else is run -/
theorem rep_after (r : Rep K H (Avo Bx σ e0) v d) (f : Fr σ e0 H H') (l : Le σ e0 e') : Rep K H' (Avo Bx σ e') v d :=
  (r.keep (f.anti fun a z => .inl z.av)).anti (Avo.le l)
theorem reps_after {vs : List V} {ds : List D} (r : Reps K H (Avo Bx σ e0) vs ds) (f : Fr σ e0 H H') (l : Le σ e0 e') : Reps K H' (Avo Bx σ e') vs ds :=
  (r.keep (f.anti fun a z => .inl z.av)).anti (Avo.le l)
theorem Post.same (s : Sim K Bx σ H e0) (r : Rep K H (Avo Bx σ e0) v d) : Post K Bx σ H e0 ⟨d, false⟩ e0 v H := .mk0 .refl .refl s r
/-- a new list -/
theorem Post.newL {p : Addr} {xs : List V} {ds : List D} (s : Sim K Bx σ H e0) (h : H p = none) (r : Reps K H (Avo Bx σ e0) xs ds) : Post K Bx σ H e0 ⟨.list ds, true⟩ e0 (.ref p) (upd H p (.lst xs)) :=
  ⟨.new h, .refl, ⟨p, rfl, fun z => s.bx p z h, s.laid h, .lst upd_same (r.go (.new h) fun a z n => by
    rcases z with z | z | z
    · exact .inl z
    · exact .inr z
    · rw [z] at n; exact absurd h n)⟩, fun _ q e => by cases e; exact h⟩
/-- a new tuple -/
theorem Post.newT {p : Addr} {xs : List V} {ds : List D} (s : Sim K Bx σ H e0) (h : H p = none) (r : Reps K H (Avo Bx σ e0) xs ds) : Post K Bx σ H e0 ⟨.tuple ds, false⟩ e0 (.ref p) (upd H p (.tup xs)) :=
  .mk0 (.new h) .refl (s.heap (ext_new h)) (.tup (.inl (.inl upd_same)) (r.keep (.new h)))

/-! ### names and constants -/
/-- the value of a name, handed on: an own list is shared from now on -/
def xV (i : Nat) : XF := fun e => match e[i]? with
  | some (Sl.sh d) => .ok ⟨d, false⟩ e
  | some (Sl.ow true d) => .ok ⟨d, false⟩ (e.set i (.sh d))
  | _ => .st
/-- .. looked at -/
def xB (i : Nat) : En → Res D := fun e => match e[i]? with
  | some (Sl.sh d) => .ok d e
  | some (Sl.ow _ d) => .ok d e
  | _ => .st
def xC (d : D) : XF := fun e => .ok ⟨d, false⟩ e

theorem Sim.look {i : Nat} (s : Sim K Bx σ H e0) (h : xB i e0 = .ok d e') : e' = e0 ∧ ∃ v, σ[i]? = some (some v) ∧ Opd K H (Avo Bx σ e0) v d := by
  unfold xB at h
  split at h
  · rename_i d' q
    cases h
    obtain ⟨v, h1, h2⟩ := s.sh i d q
    exact ⟨rfl, v, h1, .rep h2⟩
  · rename_i w d' q
    cases h
    obtain ⟨a, h1, h2, h3⟩ := s.ow i w d q
    exact ⟨rfl, _, h1, .top h3⟩
  · cases h
theorem set_look {i : Nat} {z : Sl} {j : Nat} {y : Sl} (h : (e0.set i z)[j]? = some y) : (j = i ∧ y = z) ∨ (j ≠ i ∧ e0[j]? = some y) := by
  by_cases c : i = j
  · subst c
    by_cases hl : i < e0.length
    · rw [List.getElem?_set_self hl] at h; exact .inl ⟨rfl, (Option.some.inj h).symm⟩
    · rw [List.getElem?_eq_none (by simpa using hl)] at h; cases h
  · rw [List.getElem?_set_ne c] at h; exact .inr ⟨fun q => c q.symm, h⟩
/-- an own list is shared from now on -/
theorem Sim.share {i : Nat} {w : Bool} {p : Addr} (s : Sim K Bx σ H e0) (h : e0[i]? = some (Sl.ow w d)) (hp : σ[i]? = some (some (V.ref p))) :
    Sim K Bx σ H (e0.set i (.sh d)) ∧ Le σ e0 (e0.set i (.sh d)) ∧ Rep K H (Avo Bx σ (e0.set i (.sh d))) (.ref p) d := by
  obtain ⟨p', q1, q2, q3⟩ := s.ow i w d h
  rw [hp] at q1; cases q1
  have av : ∀ a, Av σ (e0.set i (.sh d)) a → Av σ e0 a := fun a ⟨j, w', d', h1, h2⟩ => by
    rcases set_look h1 with ⟨_, z⟩ | ⟨_, z⟩
    · cases z
    · exact ⟨j, w', d', z, h2⟩
  have le : Le σ e0 (e0.set i (.sh d)) := ⟨fun a ⟨j, d', h1, h2⟩ => by
    rcases set_look h1 with ⟨_, z⟩ | ⟨_, z⟩
    · cases z
    · exact ⟨j, d', z, h2⟩, av⟩
  have na : ¬ Avo Bx σ (e0.set i (.sh d)) p := fun z => by
    rcases z with ⟨j, w', d', h1, h2⟩ | z
    · rcases set_look h1 with ⟨_, z⟩ | ⟨z0, z⟩
      · cases z
      · exact z0 (s.inj j i _ _ _ _ p z h h2 hp)
    · exact q2 z
  have rp : Rep K H (Avo Bx σ (e0.set i (.sh d))) (.ref p) d := q3.rep na (Avo.le le)
  refine ⟨⟨by rw [List.length_set]; exact s.len, fun j d' h1 => ?_, fun j w' d' h1 => ?_, fun j k w' w'' d' d'' a h1 h2 h3 h4 => ?_, s.bx, fun j lo hi h1 => (by rcases set_look h1 with ⟨_, z⟩ | ⟨_, z⟩ <;> first | (cases z; done) | exact s.rg j lo hi z)⟩, le, rp⟩
  · rcases set_look h1 with ⟨rfl, z⟩ | ⟨_, z⟩
    · cases z; exact ⟨_, hp, rp⟩
    · obtain ⟨v, r1, r2⟩ := s.sh j d' z
      exact ⟨v, r1, r2.anti (Avo.le le)⟩
  · rcases set_look h1 with ⟨_, z⟩ | ⟨_, z⟩
    · cases z
    · obtain ⟨a, r1, r2, r3⟩ := s.ow j w' d' z
      exact ⟨a, r1, r2, r3.anti (Avo.le le)⟩
  · rcases set_look h1 with ⟨_, z⟩ | ⟨_, z⟩
    · cases z
    · rcases set_look h2 with ⟨_, z'⟩ | ⟨_, z'⟩
      · cases z'
      · exact s.inj j k _ _ _ _ a z z' h3 h4

theorem ge_v {i : Nat} {x : Str} (hN : X.N[i]? = some x) (hv : Vis X.env.scope x) (hd : (x == ("__debug__" : Str)) = false := by decide) (hcd : (x == ("__classdict__" : Str)) = false := by decide) : GE C X W (.Name x pos) (xV i) := by
  refine pe_imp (pe_var hN hv hd hcd) fun σ H Q ⟨e, Bx, s, h⟩ => ?_
  unfold xV at h
  split at h
  · rename_i d q
    obtain ⟨v, h1, h2⟩ := s.sh i d q
    exact ⟨v, h1, h v H (.same s h2)⟩
  · rename_i d q
    obtain ⟨p, h1, h2, h3⟩ := s.ow i true d q
    obtain ⟨s', le, r⟩ := s.share q h1
    exact ⟨_, h1, h _ H (.mk0 .refl le s' r)⟩
  · exact h.elim
theorem go_v {i : Nat} {x : Str} (hN : X.N[i]? = some x) (hv : Vis X.env.scope x) (hd : (x == ("__debug__" : Str)) = false := by decide) (hcd : (x == ("__classdict__" : Str)) = false := by decide) : GO C X W (.Name x pos) (xB i) := by
  refine pe_imp (pe_var hN hv hd hcd) fun σ H Q ⟨e, Bx, s, h⟩ => ?_
  cases q : xB i e with
  | st => rw [q] at h; exact h.elim
  | ex y => unfold xB at q; split at q <;> cases q
  | ok d e' =>
    rw [q] at h
    obtain ⟨rfl, v, h1, h2⟩ := s.look q
    exact ⟨v, h1, h v H ⟨.refl, .refl, s, h2⟩⟩
/-- looked at only -/
def xO (f : XF) : En → Res D := fun e => (f e).bind fun r e' => .ok r.d e'
theorem go_e {f : XF} (h : GE C X W e f) : GO C X W e (xO f) := by
  refine pe_imp h fun σ H Q ⟨e, Bx, s, q⟩ => ⟨e, Bx, s, run_mono (bind_run q) (fun r e' q v H' p => q v H' ⟨p.fr, p.le, p.s, .rep p.rp⟩) fun _ z => z⟩
theorem ge_c {t : TE} (h : PE X e t) (hv : ∀ σ H Q, Q v H → t σ H Q) (r : ∀ K H B, Rep K H B v d) : GE C X W e (xC d) := by
  refine pe_imp h fun σ H Q ⟨e, Bx, s, q⟩ => hv σ H Q (q v H (.same s (r _ _ _)))
theorem ge_int {i j pos} : GE C X W (.Constant (.int i) j pos) (xC (.int i)) := ge_c pe_int (fun _ _ _ h => h) fun _ _ _ => .int _
theorem ge_str {i j pos} : GE C X W (.Constant (.str i) j pos) (xC (.str i)) := ge_c pe_str (fun _ _ _ h => h) fun _ _ _ => .str _
theorem ge_bl {i j pos} : GE C X W (.Constant (.bool i) j pos) (xC (.bool i)) := ge_c pe_bl (fun _ _ _ h => h) fun _ _ _ => .bl _
theorem ge_non {j pos} : GE C X W (.Constant .none j pos) (xC .none) := ge_c pe_non (fun _ _ _ h => h) fun _ _ _ => .non
theorem ge_glob {x : Str} {u : Value} (hg : Gl X x) (hm : X.mg x = some u) (rv : RelV v u) (r : ∀ H B, Rep C.K H B v d) (hd : (x == ("__debug__" : Str)) = false := by decide) : GE C X W (.Name x pos) (xC d) := by
  refine pe_imp (pe_glob hg hm rv hd) fun σ H Q ⟨e, Bx, s, q⟩ => q v H (.same s (r _ _))

/-! ### argument lists, displays -/
def xNil : En → Res (List D) := fun e => .ok [] e
def xCons (f : XF) (g : En → Res (List D)) : En → Res (List D) := fun e => (f e).bind fun r e1 => (g e1).bind fun ds e2 => .ok (r.d :: ds) e2
theorem ga_nil : GA C X W [] xNil := pa_imp pa_nil fun σ H Q ⟨e, Bx, s, q⟩ => q [] H ⟨.refl, .refl, s, .nil⟩
theorem ga_cons {es : List Expr} {f : XF} {g : En → Res (List D)} (ha : GE C X W e f) (hr : GA C X W es g) (hs : starEach (e :: es) X.env = (false, eval e X.env) :: starEach es X.env := by rfl) : GA C X W (e :: es) (xCons f g) := by
  refine pa_imp (pa_cons ha hr hs) fun σ H Q ⟨e, Bx, s, q⟩ => ⟨e, Bx, s, run_mono (bind_run q) (fun r e1 q v H1 p1 => ?_) fun _ z => z⟩
  refine ⟨e1, Bx, p1.s, run_mono (bind_run q) (fun ds e2 q vs H2 p2 => ?_) fun y z => EX.after z p1.fr p1.le⟩
  exact q (v :: vs) H2 ⟨p1.fr.trans p1.le p2.fr, p1.le.trans p2.le, p2.s, .cons (rep_after p1.rp p2.fr p2.le) p2.r⟩
def most : Nat := 1000000
theorem most_ok {n : Nat} (h : n ≤ most) : n ≤ sizeLine := Nat.le_trans h (by rw [sizeLine_eq]; decide)
theorem most_lt {n : Nat} (h : n ≤ most) : n < sizeLine := Nat.lt_of_le_of_lt h (by rw [sizeLine_eq]; decide)
def xTup (g : En → Res (List D)) : XF := fun e => (g e).bind fun ds e1 => if ds.length ≤ most then .ok ⟨.tuple ds, false⟩ e1 else .st
def xLst (g : En → Res (List D)) : XF := fun e => (g e).bind fun ds e1 => if ds.length ≤ most then .ok ⟨.list ds, true⟩ e1 else .st
theorem Post.after_a {ds : List D} {vs : List V} {r : Rs} (h : PostA K Bx σ H e0 ds e1 vs H1) (h' : Post K Bx σ H1 e1 r e' v H') : Post K Bx σ H e0 r e' v H' :=
  ⟨h.fr.trans h.le h'.fr, h.le.trans h'.le, h'.is, fun z p q => Classical.byContradiction fun o => h.fr.there p o (h'.new z p q)⟩
theorem ge_tup {es : List Expr} {x1} {g : En → Res (List D)} (h : GA C X W es g) : GE C X W (.Tuple es x1 pos) (xTup g) := by
  refine pe_imp (pe_tup h) fun σ H Q ⟨e, Bx, s, q⟩ => ⟨e, Bx, s, run_mono (bind_run q) (fun ds e1 q vs H1 p1 => ?_) fun _ z => z⟩
  split at q
  · rename_i hl
    exact ⟨by rw [p1.r.length]; exact most_ok hl, fun p hp => q _ _ (p1.fr |> fun f => Post.after_a p1 (.newT p1.s hp p1.r))⟩
  · exact q.elim
theorem ge_lst {es : List Expr} {g : En → Res (List D)} (h : GA C X W es g) : GE C X W (.List es pos) (xLst g) := by
  refine pe_imp (pe_lst h) fun σ H Q ⟨e, Bx, s, q⟩ => ⟨e, Bx, s, run_mono (bind_run q) (fun ds e1 q vs H1 p1 => ?_) fun _ z => z⟩
  split at q
  · rename_i hl
    exact ⟨by rw [p1.r.length]; exact most_ok hl, fun p hp => q _ _ (Post.after_a p1 (.newL p1.s hp p1.r))⟩
  · exact q.elim

/-! ### two operands -/
/-- the left one: run, or a name looked at when both are there -/
inductive Lf where
  | ex (f : XF) | br (i : Nat)
def xTwo {β : Type} (l : Lf) (g : En → Res D) (k : D → D → En → Res β) : En → Res β := match l with
  | .ex f => fun e => (f e).bind fun r e1 => (g e1).bind fun y e2 => k r.d y e2
  | .br i => fun e => (xB i e).bind fun _ e1 => (g e1).bind fun y e2 => (xB i e2).bind fun x e3 => k x y e3
def tL (C : Ct) (W : WX) : Lf → TE
  | .ex f => TD C W f
  | .br i => tVar i
abbrev GL (C : Ct) (X : Cx) (W : WX) (e : Expr) (l : Lf) : Prop := PE X e (tL C W l)
theorem gl_e {f : XF} (h : GE C X W e f) : GL C X W e (.ex f) := h
theorem gl_v {i : Nat} {x : Str} (hN : X.N[i]? = some x) (hv : Vis X.env.scope x) (hd : (x == ("__debug__" : Str)) = false := by decide) (hcd : (x == ("__classdict__" : Str)) = false := by decide) : GL C X W (.Name x pos) (.br i) := pe_var hN hv hd hcd
structure Post2 (K : PySem.W.Frag) (Bx : Addr → Prop) (σ : L2.St) (H : Hp) (e : En) (d1 d2 : D) (e' : En) (v1 v2 : V) (H' : Hp) : Prop where
  fr : Fr σ e H H'
  le : Le σ e e'
  s : Sim K Bx σ H' e'
  o1 : Opd K H' (Avo Bx σ e') v1 d1
  o2 : Opd K H' (Avo Bx σ e') v2 d2
theorem look_run {β : Type} {i : Nat} {g : D → En → Res β} {P : β → En → Prop} {E : Exn → Prop} (s : Sim K Bx σ H e0) (h : ((xB i e0).bind g).run P E) :
    ∃ d v, xB i e0 = .ok d e0 ∧ σ[i]? = some (some v) ∧ Opd K H (Avo Bx σ e0) v d ∧ (g d e0).run P E := by
  cases q : xB i e0 with
  | st => rw [q] at h; exact h.elim
  | ex y => unfold xB at q; split at q <;> cases q
  | ok d e' =>
    rw [q] at h
    obtain ⟨rfl, v, h1, h2⟩ := s.look q
    exact ⟨d, v, rfl, h1, h2, h⟩
/-- THE RULE of two operands -/
theorem two {β : Type} {l : Lf} {g : En → Res D} {k : D → D → En → Res β} {P : β → En → Prop} {R : V → V → Hp → Prop} (s : Sim C.K Bx σ H e0) (q : (xTwo l g k e0).run P (EX C W σ H e0))
    (hR : ∀ d1 d2 e' v1 v2 H', Post2 C.K Bx σ H e0 d1 d2 e' v1 v2 H' → (k d1 d2 e').run P (EX C W σ H e0) → R v1 v2 H') : tL C W l σ H fun x H1 => TDo C W g σ H1 fun y H2 => R x y H2 := by
  cases l with
  | ex f =>
    refine ⟨e0, Bx, s, run_mono (bind_run q) (fun r e1 q v H1 p1 => ?_) fun _ z => z⟩
    refine ⟨e1, Bx, p1.s, run_mono (bind_run q) (fun d2 e2 q v2 H2 p2 => ?_) fun y z => EX.after z p1.fr p1.le⟩
    exact hR _ _ _ _ _ _ ⟨p1.fr.trans p1.le p2.fr, p1.le.trans p2.le, p2.s, .rep (rep_after p1.rp p2.fr p2.le), p2.o⟩ q
  | br i =>
    obtain ⟨d, v, _, hv, _, q⟩ := look_run s q
    refine ⟨v, hv, e0, Bx, s, run_mono (bind_run q) (fun d2 e2 q v2 H2 p2 => ?_) fun y z => z⟩
    obtain ⟨d', v', _, hv', o', q⟩ := look_run p2.s q
    rw [hv] at hv'; cases hv'
    exact hR _ _ _ _ _ _ ⟨p2.fr, p2.le, p2.s, o', p2.o⟩ q
theorem Post.after_2 {d1 d2 : D} {v1 v2 : V} {r : Rs} (h : Post2 K Bx σ H e0 d1 d2 e1 v1 v2 H1) (h' : Post K Bx σ H1 e1 r e' v H') : Post K Bx σ H e0 r e' v H' :=
  ⟨h.fr.trans h.le h'.fr, h.le.trans h'.le, h'.is, fun z p q => Classical.byContradiction fun o => h.fr.there p o (h'.new z p q)⟩
/-- an operation on two values, that leaves the slots as they are -/
def xOp (F : D → D → Option Rs) (l : Lf) (g : En → Res D) : XF := xTwo l g fun x y e => match F x y with | some r => .ok r e | none => .st
/-- F is what the operation r does -/
def OpOk (C : Ct) (F : D → D → Option Rs) (r : R2) : Prop := ∀ (Bx : Addr → Prop) (σ : L2.St) (H : Hp) (e0 : En) (d1 d2 : D) (v1 v2 : V) (z : Rs) (Q : VK), F d1 d2 = some z → Sim C.K Bx σ H e0 →
  Opd C.K H (Avo Bx σ e0) v1 d1 → Opd C.K H (Avo Bx σ e0) v2 d2 → (∀ v H', Post C.K Bx σ H e0 z e0 v H' → Q v H') → r v1 v2 H Q
theorem op_run {F : D → D → Option Rs} {r : R2} {l : Lf} {g : En → Res D} (ho : OpOk C F r) {Q : VK} (h : TD C W (xOp F l g) σ H Q) : tOp r (tL C W l) (TDo C W g) σ H Q := by
  obtain ⟨e0, Bx, s, q⟩ := h
  refine two s q fun d1 d2 e' v1 v2 H' p q => ?_
  cases z : F d1 d2 with
  | none => rw [z] at q; exact q.elim
  | some r => rw [z] at q; exact ho Bx σ H' e' d1 d2 v1 v2 r Q z p.s p.o1 p.o2 fun v H2 p2 => q v H2 (Post.after_2 p p2)
theorem ge_op {F : D → D → Option Rs} {op : Operator} {r : R2} {l : Lf} {g : En → Res D} (hr : OpR X (binaryOp op) r) (ho : OpOk C F r) (ha : GL C X W a l) (hb : GO C X W b g) : GE C X W (.BinOp a op b pos) (xOp F l g) :=
  pe_imp (pe_op hr ha hb) fun _ _ _ h => op_run ho h
theorem ge_cmp {F : D → D → Option Rs} {op : CmpOp} {r : R2} {l : Lf} {g : En → Res D} (hr : OpR X (compareOp op) r) (ho : OpOk C F r) (ha : GL C X W a l) (hb : GO C X W b g) (hm : behindInMarks op b = false) : GE C X W (.Compare a [op] [b] pos) (xOp F l g) :=
  pe_imp (pe_cmpR hr ha hb hm) fun _ _ _ h => op_run ho h
theorem ge_ix {F : D → D → Option Rs} {r : R2} {l : Lf} {g : En → Res D} (hr : IxR X r) (ho : OpOk C F r) (ha : GL C X W a l) (hb : GO C X W b g) (hs : PlainIx b) : GE C X W (.Subscript a b pos) (xOp F l g) :=
  pe_imp (pe_ix hr ha hb hs) fun _ _ _ h => op_run ho h

/-! ### tests -/
def xTest (f : XF) : En → Res Bool := fun e => (f e).bind fun r e1 => match r.d with | .bool b => .ok b e1 | _ => .st
theorem test_run {f : XF} {Q : Bool → Hp → Prop} (h : TDt C W (xTest f) σ H Q) : TD C W f σ H fun x H' => ∃ k, x = .bl k ∧ Q k H' := by
  obtain ⟨e0, Bx, s, q⟩ := h
  refine ⟨e0, Bx, s, run_mono (bind_run q) (fun r e1 q v H1 p => ?_) fun _ z => z⟩
  obtain ⟨d, fr⟩ := r
  cases d with
  | bool k =>
    have z := p.rp
    cases z
    exact ⟨k, rfl, q H1 ⟨p.fr, p.le, p.s⟩⟩
  | _ => exact q.elim
/-- a value that is a bool, as a test (not a comparison, and, or, not, if) -/
theorem gt_e {f : XF} (h : GE C X W e f) (he : ∀ whole, isTrue e X.env whole = (do let v ← whole; standAt e.pos; holding [v] (truthy v)) := by intro _; rfl) : GT C X W e (xTest f) :=
  pt_imp (pt_val h he) fun _ _ _ q => test_run q
theorem gt_cmp {F : D → D → Option Rs} {op : CmpOp} {r : R2} {l : Lf} {g : En → Res D} (hr : OpR X (compareOp op) r) (ho : OpOk C F r) (ha : GL C X W a l) (hb : GO C X W b g) (hm : behindInMarks op b = false) : GT C X W (.Compare a [op] [b] pos) (xTest (xOp F l g)) :=
  pt_imp (pt_cmpR hr ha hb hm) fun _ _ _ h => op_run ho (test_run h)
def tAndT (f g : En → Res Bool) : En → Res Bool := fun e => (f e).bind fun b e1 => if b then g e1 else .ok false e1
def tOrT (f g : En → Res Bool) : En → Res Bool := fun e => (f e).bind fun b e1 => if b then .ok true e1 else g e1
def tNotT (f : En → Res Bool) : En → Res Bool := fun e => (f e).bind fun b e1 => .ok (!b) e1
theorem PostT.after (h : PostT K Bx σ H e0 e1 H1) (h' : PostT K Bx σ H1 e1 e' H') : PostT K Bx σ H e0 e' H' := ⟨h.fr.trans h.le h'.fr, h.le.trans h'.le, h'.s⟩
theorem gw_and1 {f : En → Res Bool} (h : GT C X W a f) : GW C X W (.BoolOp .And [a] pos) f := pw_and1 h
theorem gw_or1 {f : En → Res Bool} (h : GT C X W a f) : GW C X W (.BoolOp .Or [a] pos) f := pw_or1 h
theorem gw_and {f g : En → Res Bool} {rest : List Expr} (h : GT C X W a f) (h' : GW C X W (.BoolOp .And (b :: rest) pos) g) : GW C X W (.BoolOp .And (a :: b :: rest) pos) (tAndT f g) := by
  refine pw_imp (pw_and h h') fun σ H Q ⟨e0, Bx, s, q⟩ => ⟨e0, Bx, s, run_mono (bind_run q) (fun b e1 q H1 p => ?_) fun _ z => z⟩
  cases b with
  | true => exact iteT ⟨e1, Bx, p.s, run_mono q (fun b' e2 q H2 p2 => q H2 (p.after p2)) fun y z => EX.after z p.fr p.le⟩
  | false => exact iteF (q H1 p)
theorem gw_or {f g : En → Res Bool} {rest : List Expr} (h : GT C X W a f) (h' : GW C X W (.BoolOp .Or (b :: rest) pos) g) : GW C X W (.BoolOp .Or (a :: b :: rest) pos) (tOrT f g) := by
  refine pw_imp (pw_or h h') fun σ H Q ⟨e0, Bx, s, q⟩ => ⟨e0, Bx, s, run_mono (bind_run q) (fun b e1 q H1 p => ?_) fun _ z => z⟩
  cases b with
  | false => exact iteF ⟨e1, Bx, p.s, run_mono q (fun b' e2 q H2 p2 => q H2 (p.after p2)) fun y z => EX.after z p.fr p.le⟩
  | true => exact iteT (q H1 p)
theorem gt_w {f : En → Res Bool} (h : GW C X W e f) : GT C X W e f := PW.pt h
theorem gt_not {f : En → Res Bool} (h : GT C X W a f) : GT C X W (.UnaryOp .Not a pos) (tNotT f) :=
  pt_imp (pt_not h) fun σ H Q ⟨e0, Bx, s, q⟩ => ⟨e0, Bx, s, run_mono (bind_run q) (fun b e1 q H1 p => q H1 p) fun _ z => z⟩
/-- .. as values -/
def xAnd (f g : XF) : XF := fun e => (f e).bind fun r e1 => match r.d with | .bool true => g e1 | .bool false => .ok ⟨.bool false, false⟩ e1 | _ => .st
def xOr (f g : XF) : XF := fun e => (f e).bind fun r e1 => match r.d with | .bool true => .ok ⟨.bool true, false⟩ e1 | .bool false => g e1 | _ => .st
def xNot (f : XF) : XF := fun e => (f e).bind fun r e1 => match r.d with | .bool b => .ok ⟨.bool (!b), false⟩ e1 | _ => .st
theorem ge_one {op : BoolOp} {f : XF} (h : GE C X W a f) : GE C X W (.BoolOp op [a] pos) f := pe_one h
theorem ge_and {f g : XF} {rest : List Expr} (h : GE C X W a f) (h' : GE C X W (.BoolOp .And (b :: rest) pos) g) : GE C X W (.BoolOp .And (a :: b :: rest) pos) (xAnd f g) := by
  refine pe_imp (pe_and h h') fun σ H Q ⟨e0, Bx, s, q⟩ => ⟨e0, Bx, s, run_mono (bind_run q) (fun r e1 q v H1 p => ?_) fun _ z => z⟩
  obtain ⟨d, fr⟩ := r
  cases d with
  | bool k =>
    have z := p.rp
    cases z
    refine ⟨k, rfl, ?_⟩
    cases k with
    | true => exact iteT ⟨e1, Bx, p.s, run_mono q (fun b' e2 q v2 H2 p2 => q v2 H2 (p.after p2)) fun y z => EX.after z p.fr p.le⟩
    | false => exact iteF (q _ H1 (.mk0 p.fr p.le p.s (.bl false)))
  | _ => exact q.elim
theorem ge_or {f g : XF} {rest : List Expr} (h : GE C X W a f) (h' : GE C X W (.BoolOp .Or (b :: rest) pos) g) : GE C X W (.BoolOp .Or (a :: b :: rest) pos) (xOr f g) := by
  refine pe_imp (pe_or h h') fun σ H Q ⟨e0, Bx, s, q⟩ => ⟨e0, Bx, s, run_mono (bind_run q) (fun r e1 q v H1 p => ?_) fun _ z => z⟩
  obtain ⟨d, fr⟩ := r
  cases d with
  | bool k =>
    have z := p.rp
    cases z
    refine ⟨k, rfl, ?_⟩
    cases k with
    | false => exact iteF ⟨e1, Bx, p.s, run_mono q (fun b' e2 q v2 H2 p2 => q v2 H2 (p.after p2)) fun y z => EX.after z p.fr p.le⟩
    | true => exact iteT (q _ H1 (.mk0 p.fr p.le p.s (.bl true)))
  | _ => exact q.elim
theorem ge_not {f : XF} (h : GE C X W a f) : GE C X W (.UnaryOp .Not a pos) (xNot f) := by
  refine pe_imp (pe_not h) fun σ H Q ⟨e0, Bx, s, q⟩ => ⟨e0, Bx, s, run_mono (bind_run q) (fun r e1 q v H1 p => ?_) fun _ z => z⟩
  obtain ⟨d, fr⟩ := r
  cases d with
  | bool k =>
    have z := p.rp
    cases z
    exact ⟨k, rfl, q _ H1 (.mk0 p.fr p.le p.s (.bl (!k)))⟩
  | _ => exact q.elim
def xIf (t : En → Res Bool) (f g : XF) : XF := fun e => (t e).bind fun b e1 => if b then f e1 else g e1
theorem Post.after_t {r : Rs} (h : PostT K Bx σ H e0 e1 H1) (h' : Post K Bx σ H1 e1 r e' v H') : Post K Bx σ H e0 r e' v H' :=
  ⟨h.fr.trans h.le h'.fr, h.le.trans h'.le, h'.is, fun z p q => Classical.byContradiction fun o => h.fr.there p o (h'.new z p q)⟩
theorem ge_if {c : Expr} {t : En → Res Bool} {f g : XF} (hc : GT C X W c t) (ha : GE C X W a f) (hb : GE C X W b g) : GE C X W (.IfExp c a b pos) (xIf t f g) := by
  refine pe_imp (pe_ifExp hc ha hb) fun σ H Q ⟨e0, Bx, s, q⟩ => ⟨e0, Bx, s, run_mono (bind_run q) (fun b e1 q H1 p => ?_) fun _ z => z⟩
  cases b with
  | true => exact iteT ⟨e1, Bx, p.s, run_mono q (fun b' e2 q v2 H2 p2 => q v2 H2 (Post.after_t p p2)) fun y z => EX.after z p.fr p.le⟩
  | false => exact iteF ⟨e1, Bx, p.s, run_mono q (fun b' e2 q v2 H2 p2 => q v2 H2 (Post.after_t p p2)) fun y z => EX.after z p.fr p.le⟩
/-- one operand -/
def xOne (F : D → Option Rs) (g : En → Res D) : XF := fun e => (g e).bind fun d e1 => match F d with | some r => .ok r e1 | none => .st
theorem Post.after_o {r : Rs} {d1 : D} {v1 : V} (h : PostO K Bx σ H e0 d1 e1 v1 H1) (h' : Post K Bx σ H1 e1 r e' v H') : Post K Bx σ H e0 r e' v H' :=
  ⟨h.fr.trans h.le h'.fr, h.le.trans h'.le, h'.is, fun z p q => Classical.byContradiction fun o => h.fr.there p o (h'.new z p q)⟩
def UnOk (C : Ct) (F : D → Option Rs) (r : V → Hp → VK → Prop) : Prop := ∀ (Bx : Addr → Prop) (σ : L2.St) (H : Hp) (e0 : En) (d1 : D) (v1 : V) (z : Rs) (Q : VK), F d1 = some z → Sim C.K Bx σ H e0 →
  Opd C.K H (Avo Bx σ e0) v1 d1 → (∀ v H', Post C.K Bx σ H e0 z e0 v H' → Q v H') → r v1 H Q
theorem un_run {F : D → Option Rs} {r : V → Hp → VK → Prop} {g : En → Res D} (ho : UnOk C F r) {Q : VK} (h : TD C W (xOne F g) σ H Q) : TDo C W g σ H fun x H1 => r x H1 Q := by
  obtain ⟨e0, Bx, s, q⟩ := h
  refine ⟨e0, Bx, s, run_mono (bind_run q) (fun d e1 q v H1 p => ?_) fun _ z => z⟩
  cases z : F d with
  | none => rw [z] at q; exact q.elim
  | some r => rw [z] at q; exact ho Bx σ H1 e1 d v r Q z p.s p.o fun v H2 p2 => q v H2 (Post.after_o p p2)
theorem ge_un {F : D → Option Rs} {op : UnaryOp} {r : V → Hp → VK → Prop} {g : En → Res D} (hr : UnR X (unaryOp op) r) (ho : UnOk C F r) (ha : GO C X W a g) : GE C X W (.UnaryOp op a pos) (xOne F g) :=
  pe_imp (pe_un hr ha) fun _ _ _ h => un_run ho h
end
end G
end L2
namespace L2
namespace G
open PySem PySem.Spec PyProof.Rows

inductive Fl where
  | nx | ct | rt (r : Rs)
abbrev SF := En → Res Fl
structure SPost (K : PySem.W.Frag) (Bx : Addr → Prop) (io : List Nat) (σ : L2.St) (H : Hp) (e : En) (σ' : L2.St) (H' : Hp) (e' : En) : Prop where
  k : Fr σ e H H'
  wr : ∀ a, Wr σ' e' a → Wr σ e a ∨ H a = none
  av : ∀ a, Av σ' e' a → Av σ e a ∨ H a = none
  s : Sim K Bx σ' H' e'
  io : ∀ i ∈ io, σ'[i]? = σ[i]?
  len : σ'.length = σ.length
structure RPost (K : PySem.W.Frag) (Bx : Addr → Prop) (io : List Nat) (σ : L2.St) (H : Hp) (e : En) (r : Rs) (σ' : L2.St) (H' : Hp) (e' : En) (v : V) : Prop where
  k : Fr σ e H H'
  av : ∀ a, Av σ' e' a → Av σ e a ∨ H a = none
  is : Holds K Bx σ' H' e' r v
  new : r.fr = true → ∀ p, v = .ref p → Wr σ e p ∨ H p = none
  io : ∀ i ∈ io, σ'[i]? = σ[i]?
def FlP (K : PySem.W.Frag) (Bx : Addr → Prop) (io : List Nat) (σ : L2.St) (H : Hp) (e : En) (Dd : Ends) (fl : Fl) (e' : En) : Prop := match fl with
  | .nx => ∀ σ' H', SPost K Bx io σ H e σ' H' e' → Dd.nx σ' H'
  | .ct => ∀ σ' H', SPost K Bx io σ H e σ' H' e' → Dd.ct σ' H'
  | .rt r => ∀ σ' v H', RPost K Bx io σ H e r σ' H' e' v → Dd.rt v H'
def TDs (C : Ct) (W : WX) (io : List Nat) (f : SF) : TS := fun Dd σ H => ∃ e Bx, Sim C.K Bx σ H e ∧ (f e).run (FlP C.K Bx io σ H e Dd) (EX C W σ H e)
abbrev GS (C : Ct) (X : Cx) (W : WX) (io : List Nat) (st : Stmt) (f : SF) : Prop := PS X st (TDs C W io f)
abbrev GSs (C : Ct) (X : Cx) (W : WX) (io : List Nat) (st : List Stmt) (f : SF) : Prop := PSs X st (TDs C W io f)
theorem ps_imp {X : Cx} {st : Stmt} {t t' : TS} (h : PS X st t) (i : ∀ D σ H, t' D σ H → t D σ H) : PS X st t' := ⟨fun pins s σ H D I q => h.run pins s σ H D I (i D σ H q)⟩
theorem pss_imp {X : Cx} {st : List Stmt} {t t' : TS} (h : PSs X st t) (i : ∀ D σ H, t' D σ H → t D σ H) : PSs X st t' := ⟨fun pins s σ H D I q => h.run pins s σ H D I (i D σ H q)⟩
theorem pg_imp {X : Cx} {e : Expr} {t t' : TG} (h : PG X e t) (i : ∀ v σ H Q, t' v σ H Q → t v σ H Q) : PG X e t' := ⟨fun pins s σ H v u Q I r q => h.run pins s σ H v u Q I r (i v σ H Q q)⟩
theorem pgs_imp {X : Cx} {e : List Expr} {t t' : TGs} (h : PGs X e t) (i : ∀ v σ H Q, t' v σ H Q → t v σ H Q) : PGs X e t' := ⟨fun pins s σ H v u Q I r q => h.run pins s σ H v u Q I r (i v σ H Q q)⟩

section
variable {C : Ct} {X : Cx} {W : WX} {K : PySem.W.Frag} {Bx : Addr → Prop} {io : List Nat} {σ σ' σ1 σ2 : L2.St} {H H' H1 H2 : Hp} {e0 e' e1 e2 : En} {e a b : Expr} {pos : Pos} {d : D} {v : V} {st : Stmt} {r : Rs} {p : Addr}

theorem Fr.transS (h : Fr σ e0 H H1) (w : ∀ a, Wr σ1 e1 a → Wr σ e0 a ∨ H a = none) (h' : Fr σ1 e1 H1 H') : Fr σ e0 H H' :=
  ⟨fun a o q n => h'.keep a o (h.keep a o q n) fun z => (w a z).elim n fun z => (by rw [z] at q; cases q), fun a n => h'.there a (h.there a n), fun a xs q => h'.tup a xs (h.tup a xs q), fun a lo hi q => h'.rng a lo hi (h.rng a lo hi q)⟩
theorem orS {P1 P Q1 : Prop} (h : P1 → P ∨ H p = none) (n : H1 p = none → H p = none) (q : P1 ∨ H1 p = none) : P ∨ H p = none := q.elim h fun z => .inr (n z)
theorem Fr.new (h : Fr σ e0 H H1) (z : H1 p = none) : H p = none := Classical.byContradiction fun o => h.there p o z
theorem SPost.refl (s : Sim K Bx σ H e0) : SPost K Bx io σ H e0 σ H e0 := ⟨.refl, fun _ z => .inl z, fun _ z => .inl z, s, fun _ _ => rfl, rfl⟩
theorem SPost.trans (h : SPost K Bx io σ H e0 σ1 H1 e1) (h' : SPost K Bx io σ1 H1 e1 σ' H' e') : SPost K Bx io σ H e0 σ' H' e' :=
  ⟨h.k.transS h.wr h'.k, fun a z => (h'.wr a z).elim (h.wr a) fun z => .inr (h.k.new z), fun a z => (h'.av a z).elim (h.av a) fun z => .inr (h.k.new z), h'.s, fun i m => (h'.io i m).trans (h.io i m), h'.len.trans h.len⟩
theorem SPost.ret {r : Rs} (h : SPost K Bx io σ H e0 σ1 H1 e1) (h' : RPost K Bx io σ1 H1 e1 r σ' H' e' v) : RPost K Bx io σ H e0 r σ' H' e' v :=
  ⟨h.k.transS h.wr h'.k, fun a z => (h'.av a z).elim (h.av a) fun z => .inr (h.k.new z), h'.is, fun z p q => (h'.new z p q).elim (h.wr p) fun z => .inr (h.k.new z), fun i m => (h'.io i m).trans (h.io i m)⟩
theorem EX.afterS {x : Exn} (h : EX C W σ H e0 x) (p : SPost K Bx io σ H e0 σ1 H1 e1) : EX C W σ1 H1 e1 x := fun cls d σ' H' q r f => h cls d σ' H' (q.trans p.len) r (p.k.transS p.wr f)
/-- behind a test, an expression: the slots stand -/
theorem SPost.of (fr : Fr σ e0 H H1) (le : Le σ e0 e1) (s : Sim K Bx σ H1 e1) : SPost K Bx io σ H e0 σ H1 e1 := ⟨fr, fun a z => .inl (le.wr a z), fun a z => .inl (le.av a z), s, fun _ _ => rfl, rfl⟩
theorem FlP.after {Dd : Ends} (h : SPost K Bx io σ H e0 σ1 H1 e1) : ∀ fl e', FlP K Bx io σ H e0 Dd fl e' → FlP K Bx io σ1 H1 e1 Dd fl e'
  | .nx, _, q => fun σ' H' p => q σ' H' (h.trans p)
  | .ct, _, q => fun σ' H' p => q σ' H' (h.trans p)
  | .rt r, _, q => fun σ' v H' p => q σ' v H' (h.ret p)
theorem run_after {Dd : Ends} {x : Res Fl} (h : SPost C.K Bx io σ H e0 σ1 H1 e1) (q : x.run (FlP C.K Bx io σ H e0 Dd) (EX C W σ H e0)) : x.run (FlP C.K Bx io σ1 H1 e1 Dd) (EX C W σ1 H1 e1) :=
  run_mono q (FlP.after h) fun y z => EX.afterS z h

/-! ### blocks -/
def sNil : SF := fun e => .ok .nx e
def sSeq (f g : SF) : SF := fun e => (f e).bind fun fl e1 => match fl with | .nx => g e1 | fl => .ok fl e1
theorem gss_nil : GSs C X W io [] sNil := pss_imp pss_nil fun D σ H ⟨e, Bx, s, q⟩ => q σ H (.refl s)
theorem gss_cons {rest : List Stmt} {f g : SF} (h : GS C X W io st f) (h' : GSs C X W io rest g) : GSs C X W io (st :: rest) (sSeq f g) := by
  refine pss_imp (pss_cons h h') fun D σ H ⟨e, Bx, s, q⟩ => ⟨e, Bx, s, run_mono (bind_run q) (fun fl e1 q => ?_) fun _ z => z⟩
  cases fl with
  | nx => exact fun σ' H' p => ⟨e1, Bx, p.s, run_after p q⟩
  | ct => exact q
  | rt r => exact q
theorem gss_one {f : SF} (h : GS C X W io st f) : GSs C X W io [st] f := pss_one h
theorem gs_pass : GS C X W io (.Pass pos) sNil := ps_imp ps_pass fun D σ H ⟨e, Bx, s, q⟩ => q σ H (.refl s)
theorem gs_cont : GS C X W io (.Continue pos) (fun e => .ok .ct e) := ps_imp ps_continue fun D σ H ⟨e, Bx, s, q⟩ => q σ H (.refl s)
def sExpr (f : XF) : SF := fun e => (f e).bind fun _ e1 => .ok .nx e1
theorem gs_expr {f : XF} (h : GE C X W e f) (hs : swapsWith e none pos.line X.env = pure false := by rfl) : GS C X W io (.Expr e pos) (sExpr f) :=
  ps_imp (ps_expr h hs) fun D σ H ⟨e, Bx, s, q⟩ => ⟨e, Bx, s, run_mono (bind_run q) (fun r e1 q v H1 p => q σ H1 (.of p.fr p.le p.s)) fun _ z => z⟩
def sRet (f : XF) : SF := fun e => (f e).bind fun r e1 => .ok (.rt r) e1
theorem gs_ret {f : XF} (h : GE C X W e f) : GS C X W io (.Return (some e) pos) (sRet f) :=
  ps_imp (ps_ret h) fun D σ H ⟨e, Bx, s, q⟩ => ⟨e, Bx, s, run_mono (bind_run q) (fun r e1 q v H1 p => q σ v H1 ⟨p.fr, fun a z => .inl (p.le.av a z), p.is, fun z u w => .inr (p.new z u w), fun _ _ => rfl⟩) fun _ z => z⟩
theorem gs_retN : GS C X W io (.Return none pos) (sRet (xC .none)) :=
  ps_imp ps_retN fun D σ H ⟨e, Bx, s, q⟩ => q σ _ H ⟨.refl, fun a z => .inl z, ⟨s, .non⟩, (fun z => nomatch z), fun _ _ => rfl⟩
/-- return x, x an own list of this def: it goes out as a new one -/
def sRetV (i : Nat) : SF := fun e => match e[i]? with
  | some (Sl.ow true d) => .ok (.rt ⟨d, true⟩) (e.set i .un)
  | some (Sl.sh d) => .ok (.rt ⟨d, false⟩) e
  | _ => .st
def sIf (t : En → Res Bool) (f g : SF) : SF := fun e => (t e).bind fun b e1 => if b then f e1 else g e1
theorem gs_if {c : Expr} {x y : List Stmt} {t : En → Res Bool} {f g : SF} (hc : GT C X W c t) (ha : GSs C X W io x f) (hb : GSs C X W io y g) : GS C X W io (.If c x y pos) (sIf t f g) := by
  refine ps_imp (ps_if hc ha hb) fun D σ H ⟨e, Bx, s, q⟩ => ⟨e, Bx, s, run_mono (bind_run q) (fun b e1 q H1 p => ?_) fun _ z => z⟩
  have sp : SPost C.K Bx io σ H e σ H1 e1 := .of p.fr p.le p.s
  cases b with
  | true => exact iteT ⟨e1, Bx, p.s, run_after sp q⟩
  | false => exact iteF ⟨e1, Bx, p.s, run_after sp q⟩

/-! ### targets -/
structure GPost (K : PySem.W.Frag) (Bx : Addr → Prop) (io : List Nat) (σ : L2.St) (H : Hp) (e : En) (r : Rs) (v : V) (σ' : L2.St) (e' : En) : Prop where
  s : Sim K Bx σ' H e'
  wr : ∀ a, Wr σ' e' a → Wr σ e a ∨ (r.fr = true ∧ v = .ref a)
  av : ∀ a, Av σ' e' a → Av σ e a ∨ (r.fr = true ∧ v = .ref a)
  io : ∀ i ∈ io, σ'[i]? = σ[i]?
  len : σ'.length = σ.length
def TDg (C : Ct) (io : List Nat) (g : Rs → En → Option En) : TG := fun v σ H Q => ∃ e Bx r e', Holds C.K Bx σ H e r v ∧ g r e = some e' ∧ ∀ σ', GPost C.K Bx io σ H e r v σ' e' → Q σ' H
structure GPosts (K : PySem.W.Frag) (Bx : Addr → Prop) (io : List Nat) (σ : L2.St) (H : Hp) (e : En) (σ' : L2.St) (e' : En) : Prop where
  s : Sim K Bx σ' H e'
  wr : ∀ a, Wr σ' e' a → Wr σ e a
  av : ∀ a, Av σ' e' a → Av σ e a
  io : ∀ i ∈ io, σ'[i]? = σ[i]?
  len : σ'.length = σ.length
def TDgs (C : Ct) (io : List Nat) (g : List D → En → Option En) : TGs := fun vs σ H Q => ∃ e Bx ds e', Sim C.K Bx σ H e ∧ Reps C.K H (Avo Bx σ e) vs ds ∧ g ds e = some e' ∧ ∀ σ', GPosts C.K Bx io σ H e σ' e' → Q σ' H
abbrev GG (C : Ct) (X : Cx) (io : List Nat) (tg : Expr) (g : Rs → En → Option En) : Prop := PG X tg (TDg C io g)
abbrev GGs (C : Ct) (X : Cx) (io : List Nat) (tg : List Expr) (g : List D → En → Option En) : Prop := PGs X tg (TDgs C io g)
theorem set_st {i j : Nat} {z : V} {y : Option V} (h : (σ.set i (some z))[j]? = some y) : (j = i ∧ y = some z) ∨ (j ≠ i ∧ σ[j]? = some y) := by
  by_cases c : i = j
  · subst c
    by_cases hl : i < σ.length
    · rw [List.getElem?_set_self hl] at h; exact .inl ⟨rfl, (Option.some.inj h).symm⟩
    · rw [List.getElem?_eq_none (by simpa using hl)] at h; cases h
  · rw [List.getElem?_set_ne c] at h; exact .inr ⟨fun q => c q.symm, h⟩
theorem st_set {i j : Nat} {z : V} (c : j ≠ i) : (σ.set i (some z))[j]? = σ[j]? := List.getElem?_set_ne (Ne.symm c)
theorem en_lt {i : Nat} {y : Sl} (h : e0[i]? = some y) : i < e0.length := (List.getElem?_eq_some_iff.mp h).1
/-- a slot is stored: shared data -/
theorem Sim.setSh {i : Nat} (s : Sim K Bx σ H e0) (hi : i < e0.length) (rp : Rep K H (Avo Bx σ e0) v d) :
    Sim K Bx (σ.set i (some v)) H (e0.set i (.sh d)) ∧ (∀ a, Wr (σ.set i (some v)) (e0.set i (.sh d)) a → Wr σ e0 a) ∧ ∀ a, Av (σ.set i (some v)) (e0.set i (.sh d)) a → Av σ e0 a := by
  have hi' : i < σ.length := by rw [← s.len]; exact hi
  have wr : ∀ a, Wr (σ.set i (some v)) (e0.set i (.sh d)) a → Wr σ e0 a := fun a ⟨j, d', h1, h2⟩ => by
    rcases set_look h1 with ⟨_, z⟩ | ⟨n, z⟩
    · cases z
    · rw [st_set n] at h2; exact ⟨j, d', z, h2⟩
  have av : ∀ a, Av (σ.set i (some v)) (e0.set i (.sh d)) a → Av σ e0 a := fun a ⟨j, w', d', h1, h2⟩ => by
    rcases set_look h1 with ⟨_, z⟩ | ⟨n, z⟩
    · cases z
    · rw [st_set n] at h2; exact ⟨j, w', d', z, h2⟩
  have an : ∀ a, Avo Bx (σ.set i (some v)) (e0.set i (.sh d)) a → Avo Bx σ e0 a := fun a z => z.imp (av a) id
  refine ⟨⟨by simpa using s.len, fun j d' h1 => ?_, fun j w' d' h1 => ?_, fun j k w' w'' d' d'' a h1 h2 h3 h4 => ?_, s.bx, fun j lo hi h1 => (by
    rcases set_look h1 with ⟨_, z⟩ | ⟨n, z⟩
    · cases z
    · obtain ⟨a, r1, r2⟩ := s.rg j lo hi z
      exact ⟨a, by rw [st_set n]; exact r1, r2⟩)⟩, wr, av⟩
  · rcases set_look h1 with ⟨rfl, z⟩ | ⟨n, z⟩
    · cases z; exact ⟨v, List.getElem?_set_self hi', rp.anti an⟩
    · obtain ⟨u, r1, r2⟩ := s.sh j d' z
      exact ⟨u, by rw [st_set n]; exact r1, r2.anti an⟩
  · rcases set_look h1 with ⟨_, z⟩ | ⟨n, z⟩
    · cases z
    · obtain ⟨a, r1, r2, r3⟩ := s.ow j w' d' z
      exact ⟨a, by rw [st_set n]; exact r1, r2, r3.anti an⟩
  · rcases set_look h1 with ⟨_, z⟩ | ⟨n, z⟩
    · cases z
    · rcases set_look h2 with ⟨_, z'⟩ | ⟨n', z'⟩
      · cases z'
      · rw [st_set n] at h3; rw [st_set n'] at h4
        exact s.inj j k _ _ _ _ a z z' h3 h4
/-- an own list -/
theorem Sim.setOw {i : Nat} (s : Sim K (ad Bx p) σ H e0) (nb : ¬ Bx p) (hi : i < e0.length) (t : Top K H (Avo (ad Bx p) σ e0) p d) :
    Sim K Bx (σ.set i (some (.ref p))) H (e0.set i (.ow true d)) ∧ (∀ a, Wr (σ.set i (some (.ref p))) (e0.set i (.ow true d)) a → Wr σ e0 a ∨ a = p) ∧ ∀ a, Av (σ.set i (some (.ref p))) (e0.set i (.ow true d)) a → Av σ e0 a ∨ a = p := by
  have hi' : i < σ.length := by rw [← s.len]; exact hi
  have wr : ∀ a, Wr (σ.set i (some (.ref p))) (e0.set i (.ow true d)) a → Wr σ e0 a ∨ a = p := fun a ⟨j, d', h1, h2⟩ => by
    rcases set_look h1 with ⟨rfl, z⟩ | ⟨n, z⟩
    · rw [List.getElem?_set_self hi'] at h2; cases h2; exact .inr rfl
    · rw [st_set n] at h2; exact .inl ⟨j, d', z, h2⟩
  have av : ∀ a, Av (σ.set i (some (.ref p))) (e0.set i (.ow true d)) a → Av σ e0 a ∨ a = p := fun a ⟨j, w', d', h1, h2⟩ => by
    rcases set_look h1 with ⟨rfl, z⟩ | ⟨n, z⟩
    · rw [List.getElem?_set_self hi'] at h2; cases h2; exact .inr rfl
    · rw [st_set n] at h2; exact .inl ⟨j, w', d', z, h2⟩
  have an : ∀ a, Avo Bx (σ.set i (some (.ref p))) (e0.set i (.ow true d)) a → Avo (ad Bx p) σ e0 a := fun a z => by
    rcases z with z | z
    · exact (av a z).imp id .inr
    · exact .inr (.inl z)
  have np : ∀ j w' d', e0[j]? = some (Sl.ow w' d') → σ[j]? = some (some (V.ref p)) → False := fun j w' d' h1 h2 => by
    obtain ⟨a, r1, r2, _⟩ := s.ow j w' d' h1
    rw [h2] at r1; cases r1
    exact r2 (.inr rfl)
  refine ⟨⟨by simpa using s.len, fun j d' h1 => ?_, fun j w' d' h1 => ?_, fun j k w' w'' d' d'' a h1 h2 h3 h4 => ?_, fun a z => s.bx a (.inl z), fun j lo hi h1 => (by
    rcases set_look h1 with ⟨_, z⟩ | ⟨n, z⟩
    · cases z
    · obtain ⟨a, r1, r2⟩ := s.rg j lo hi z
      exact ⟨a, by rw [st_set n]; exact r1, r2⟩)⟩, wr, av⟩
  · rcases set_look h1 with ⟨_, z⟩ | ⟨n, z⟩
    · cases z
    · obtain ⟨u, r1, r2⟩ := s.sh j d' z
      exact ⟨u, by rw [st_set n]; exact r1, r2.anti an⟩
  · rcases set_look h1 with ⟨rfl, z⟩ | ⟨n, z⟩
    · cases z; exact ⟨p, List.getElem?_set_self hi', nb, t.anti an⟩
    · obtain ⟨a, r1, r2, r3⟩ := s.ow j w' d' z
      exact ⟨a, by rw [st_set n]; exact r1, fun z => r2 (.inl z), r3.anti an⟩
  · rcases set_look h1 with ⟨rfl, z⟩ | ⟨n, z⟩
    · rw [List.getElem?_set_self hi'] at h3; cases h3
      rcases set_look h2 with ⟨rfl, z'⟩ | ⟨n', z'⟩
      · rfl
      · rw [st_set n'] at h4; exact (np k _ _ z' h4).elim
    · rw [st_set n] at h3
      rcases set_look h2 with ⟨rfl, z'⟩ | ⟨n', z'⟩
      · rw [List.getElem?_set_self hi'] at h4; cases h4
        exact (np j _ _ z h3).elim
      · rw [st_set n'] at h4
        exact s.inj j k _ _ _ _ a z z' h3 h4
def slOf (r : Rs) : Sl := if r.fr then .ow true r.d else .sh r.d
def gV (i : Nat) : Rs → En → Option En := fun r e => if i < e.length then some (e.set i (slOf r)) else none
theorem gg_v {i : Nat} {x : Str} (hN : X.N.Nodup) (hi : X.N[i]? = some x) (hx : Loc X.env.scope x) (hio : i ∉ io) (hf : X.fn x = true ∨ X.env.scope.names.lookup x = some .local := by first | exact .inl rfl | exact .inr rfl | assumption) : GG C X io (.Name x pos) (gV i) := by
  refine pg_imp (pg_name hN hi hx hf) fun v σ H Q ⟨e, Bx, r, e', hh, hg, q⟩ => q _ ?_
  unfold gV at hg
  split at hg
  · rename_i hl
    cases hg
    obtain ⟨d, fr⟩ := r
    cases fr with
    | false =>
      obtain ⟨s, rp⟩ := hh
      obtain ⟨s', wr, av⟩ := s.setSh hl rp
      exact ⟨s', fun a z => .inl (wr a z), fun a z => .inl (av a z), fun j m => st_set fun z => hio (z ▸ m), by simp⟩
    | true =>
      obtain ⟨p, rfl, nb, s, t⟩ := hh
      obtain ⟨s', wr, av⟩ := s.setOw nb hl t
      exact ⟨s', fun a z => (wr a z).imp id fun z => ⟨rfl, by rw [z]⟩, fun a z => (av a z).imp id fun z => ⟨rfl, by rw [z]⟩, fun j m => st_set fun z => hio (z ▸ m), by simp⟩
  · cases hg
def gsNil : List D → En → Option En := fun ds e => if ds.isEmpty then some e else none
def gsCons (g : Rs → En → Option En) (h : List D → En → Option En) : List D → En → Option En := fun ds e => match ds with
  | d :: ds => (g ⟨d, false⟩ e).bind fun e1 => h ds e1
  | [] => none
theorem ggs_nil : GGs C X io [] gsNil := pgs_imp pgs_nil fun vs σ H Q ⟨e, Bx, ds, e', s, rp, hg, q⟩ => by
  unfold gsNil at hg
  cases ds with
  | nil => cases rp; cases hg; exact ⟨rfl, q σ ⟨s, fun _ z => z, fun _ z => z, fun _ _ => rfl, rfl⟩⟩
  | cons d ds => cases hg
theorem ggs_cons {es : List Expr} {g : Rs → En → Option En} {h : List D → En → Option En} (h1 : GG C X io e g) (h2 : GGs C X io es h) (hs : (assignEach (e :: es) X.env).map (·.2) = assign e X.env :: (assignEach es X.env).map (·.2) := by rfl) : GGs C X io (e :: es) (gsCons g h) :=
  pgs_imp (pgs_cons h1 h2 hs) fun vs σ H Q ⟨e, Bx, ds, e', s, rp, hg, q⟩ => by
    cases ds with
    | nil => cases hg
    | cons d ds =>
      cases rp with
      | @cons v vs _ _ r1 r2 =>
        have hg' : (g ⟨d, false⟩ e).bind (fun e1 => h ds e1) = some e' := hg
        cases z : g ⟨d, false⟩ e with
        | none => rw [z] at hg'; cases hg'
        | some e1 =>
          rw [z] at hg'
          refine ⟨v, vs, rfl, e, Bx, ⟨d, false⟩, e1, ⟨s, r1⟩, z, fun σ1 p1 => ?_⟩
          have av : ∀ a, Av σ1 e1 a → Av σ e a := fun a z => (p1.av a z).elim id fun q => nomatch q.1
          have wr : ∀ a, Wr σ1 e1 a → Wr σ e a := fun a z => (p1.wr a z).elim id fun q => nomatch q.1
          refine ⟨e1, Bx, ds, e', p1.s, r2.anti fun a z => z.imp (av a) id, hg', fun σ2 p2 => q σ2 ⟨p2.s, fun a z => wr a (p2.wr a z), fun a z => av a (p2.av a z), fun i m => (p2.io i m).trans (p1.io i m), p2.len.trans p1.len⟩⟩
def gTp (n : Nat) (h : List D → En → Option En) : Rs → En → Option En := fun r e => match r.d with
  | .tuple ds => if ds.length = n then h ds e else none
  | _ => none
theorem gg_tup {es : List Expr} {k n : Nat} {h : List D → En → Option En} (hc : X.calm = true) (hK : X.K = C.K) (hh : GGs C X io es h) (hn : (assignEach es X.env).length = n := by rfl) (hst : (assignEach es X.env).findIdx? (·.1) = none := by rfl) : GG C X io (.Tuple es k pos) (gTp n h) :=
  pg_imp (pg_tup hc hh hn hst) fun v σ H Q ⟨e, Bx, r, e', hs, hg, q⟩ => by
    obtain ⟨d, fr⟩ := r
    have hsh := hs.sh
    cases d with
    | tuple ds =>
      have hg' : (if ds.length = n then h ds e else none) = some e' := hg
      split at hg'
      · rename_i hl
        obtain ⟨s, rp⟩ := hsh
        cases rp with
        | @tup a xs _ sq rs =>
          refine ⟨a, xs, rfl, by rw [hK]; exact sq, by rw [rs.length]; exact hl, e, Bx, ds, e', s, rs, hg', fun σ' p => q σ' ⟨p.s, fun a z => .inl (p.wr a z), fun a z => .inl (p.av a z), p.io, p.len⟩⟩
      · cases hg'
    | _ => cases hg
def sAsg (f : XF) (g : Rs → En → Option En) : SF := fun e => (f e).bind fun r e1 => match g r e1 with | some e2 => .ok .nx e2 | none => .st
theorem asg_run {f : XF} {g : Rs → En → Option En} {Dd : Ends} (h : TDs C W io (sAsg f g) Dd σ H) : tAsg (TD C W f) (TDg C io g) Dd σ H := by
  obtain ⟨e, Bx, s, q⟩ := h
  refine ⟨e, Bx, s, run_mono (bind_run q) (fun r e1 q v H1 p => ?_) fun _ z => z⟩
  cases z : g r e1 with
  | none => rw [z] at q; exact q.elim
  | some e2 =>
    rw [z] at q
    refine ⟨e1, Bx, r, e2, p.is, z, fun σ' g' => q σ' H1 ⟨p.fr.trans .refl ?_, fun a w => ?_, fun a w => ?_, g'.s, g'.io, g'.len⟩⟩
    · exact .refl
    · exact (g'.wr a w).elim (fun z => .inl (p.le.wr a z)) fun z => .inr (p.new z.1 a z.2)
    · exact (g'.av a w).elim (fun z => .inl (p.le.av a z)) fun z => .inr (p.new z.1 a z.2)
theorem gs_asg {tg : Expr} {f : XF} {g : Rs → En → Option En} (he : GE C X W e f) (hg : GG C X io tg g) (hs : swapsWithSole [tg] e pos.line X.env = pure false := by rfl) (hw : swappedStores [tg] e X.env = pure none := by rfl)
    (h1 : (assignEach [tg] X.env).map (·.2) = [assign tg X.env] := by rfl) : GS C X W io (.Assign [tg] e pos) (sAsg f g) := ps_imp (ps_asg he hg hs hw h1) fun _ _ _ h => asg_run h
end
end G
end L2
namespace L2
namespace G
open PySem PySem.Spec PyProof.Rows
section
variable {C : Ct} {X : Cx} {W : WX} {K : PySem.W.Frag} {Bx : Addr → Prop} {io : List Nat} {σ σ' σ1 σ2 : L2.St} {H H' H1 H2 : Hp} {e0 e' e1 e2 : En} {e a b : Expr} {pos : Pos} {d : D} {v : V} {st : Stmt} {r : Rs} {p : Addr}

/-! ### own lists let go, written -/
theorem Sim.drop {i : Nat} {w : Bool} (s : Sim K Bx σ H e0) (h : e0[i]? = some (Sl.ow w d)) (hp : σ[i]? = some (some (V.ref p))) :
    ¬ Bx p ∧ Sim K (ad Bx p) σ H (e0.set i .un) ∧ Top K H (Avo (ad Bx p) σ (e0.set i .un)) p d ∧ Le σ e0 (e0.set i .un) := by
  obtain ⟨p', q1, q2, q3⟩ := s.ow i w d h
  rw [hp] at q1; cases q1
  have av : ∀ a, Av σ (e0.set i .un) a → Av σ e0 a := fun a ⟨j, w', d', h1, h2⟩ => by
    rcases set_look h1 with ⟨_, z⟩ | ⟨_, z⟩
    · cases z
    · exact ⟨j, w', d', z, h2⟩
  have wr : ∀ a, Wr σ (e0.set i .un) a → Wr σ e0 a := fun a ⟨j, d', h1, h2⟩ => by
    rcases set_look h1 with ⟨_, z⟩ | ⟨_, z⟩
    · cases z
    · exact ⟨j, d', z, h2⟩
  have an : ∀ a, Avo (ad Bx p) σ (e0.set i .un) a → Avo Bx σ e0 a := fun a z => by
    rcases z with z | z | z
    · exact .inl (av a z)
    · exact .inr z
    · rw [z]; exact .inl ⟨i, w, d, h, hp⟩
  refine ⟨q2, ⟨by rw [List.length_set]; exact s.len, fun j d' h1 => ?_, fun j w' d' h1 => ?_, fun j k w' w'' d' d'' a h1 h2 h3 h4 => ?_, fun a z => ?_, fun j lo hi h1 => (by rcases set_look h1 with ⟨_, z⟩ | ⟨_, z⟩ <;> first | (cases z; done) | exact s.rg j lo hi z)⟩, q3.anti an, wr, av⟩
  · rcases set_look h1 with ⟨rfl, z⟩ | ⟨_, z⟩
    · cases z
    · obtain ⟨v, r1, r2⟩ := s.sh j d' z
      exact ⟨v, r1, r2.anti an⟩
  · rcases set_look h1 with ⟨_, z⟩ | ⟨n, z⟩
    · cases z
    · obtain ⟨a, r1, r2, r3⟩ := s.ow j w' d' z
      refine ⟨a, r1, fun q => ?_, r3.anti an⟩
      rcases q with q | q
      · exact r2 q
      · subst q; exact n (s.inj j i _ _ _ _ a z h r1 hp)
  · rcases set_look h1 with ⟨_, z⟩ | ⟨_, z⟩
    · cases z
    · rcases set_look h2 with ⟨_, z'⟩ | ⟨_, z'⟩
      · cases z'
      · exact s.inj j k _ _ _ _ a z z' h3 h4
  · rcases z with z | z
    · exact s.bx a z
    · rw [z]; exact s.there ⟨i, w, d, h, hp⟩
theorem gs_retV {i : Nat} {x : Str} {np : Pos} (hN : X.N[i]? = some x) (hv : Vis X.env.scope x) (hd : (x == ("__debug__" : Str)) = false := by decide) (hcd : (x == ("__classdict__" : Str)) = false := by decide) : GS C X W io (.Return (some (.Name x np)) pos) (sRetV i) := by
  refine ps_imp (ps_ret (pe_var hN hv hd hcd)) fun D σ H ⟨e, Bx, s, q⟩ => ?_
  unfold sRetV at q
  split at q
  · rename_i d z
    obtain ⟨p, h1, _, _⟩ := s.ow i true d z
    obtain ⟨nb, s', t, le⟩ := s.drop z h1
    exact ⟨_, h1, q σ _ H ⟨.refl, fun a z => .inl (le.av a z), ⟨p, rfl, nb, s', t⟩, fun _ _ w => .inl (by cases w; exact ⟨i, d, z, h1⟩), fun _ _ => rfl⟩⟩
  · rename_i d z
    obtain ⟨v, h1, h2⟩ := s.sh i d z
    exact ⟨v, h1, q σ v H ⟨.refl, fun a z => .inl z, ⟨s, h2⟩, (fun z => nomatch z), fun _ _ => rfl⟩⟩
  · exact q.elim
/-- an own thing is written -/
theorem Sim.writeG {i : Nat} {d dn : D} {u o : HO} (s : Sim K Bx σ H e0) (h : e0[i]? = some (Sl.ow true d)) (hp : σ[i]? = some (some (V.ref p))) (ho : H p = some u) (mo : Mo u) (tn : Kp (Avo Bx σ e0) H (upd H p o) → Top K (upd H p o) (Avo Bx σ e0) p dn) :
    Sim K Bx σ (upd H p o) (e0.set i (.ow true dn)) ∧ Fr σ e0 H (upd H p o) ∧ Le σ e0 (e0.set i (.ow true dn)) := by
  have pw : Wr σ e0 p := ⟨i, d, h, hp⟩
  have fr : Fr σ e0 H (upd H p o) := .write ho mo pw
  have fa : Kp (Avo Bx σ e0) H (upd H p o) := .write ho mo (.inl pw.av)
  have av : ∀ a, Av σ (e0.set i (.ow true dn)) a → Av σ e0 a := fun a ⟨j, w', d', h1, h2⟩ => by
    rcases set_look h1 with ⟨rfl, z⟩ | ⟨_, z⟩
    · rw [hp] at h2; cases h2; exact pw.av
    · exact ⟨j, w', d', z, h2⟩
  have wr : ∀ a, Wr σ (e0.set i (.ow true dn)) a → Wr σ e0 a := fun a ⟨j, d', h1, h2⟩ => by
    rcases set_look h1 with ⟨rfl, z⟩ | ⟨_, z⟩
    · rw [hp] at h2; cases h2; exact pw
    · exact ⟨j, d', z, h2⟩
  have an : ∀ a, Avo Bx σ (e0.set i (.ow true dn)) a → Avo Bx σ e0 a := fun a z => z.imp (av a) id
  obtain ⟨p', q1, q2, _⟩ := s.ow i true d h
  rw [hp] at q1; cases q1
  refine ⟨⟨by rw [List.length_set]; exact s.len, fun j d' h1 => ?_, fun j w' d' h1 => ?_, fun j k w' w'' d' d'' a h1 h2 h3 h4 => ?_, fun a z => ?_, fun j lo hi h1 => (by
    rcases set_look h1 with ⟨_, z⟩ | ⟨_, z⟩
    · cases z
    · obtain ⟨a, r1, r2⟩ := s.rg j lo hi z
      exact ⟨a, r1, fr.rng _ _ _ r2⟩)⟩, fr, wr, av⟩
  · rcases set_look h1 with ⟨rfl, z⟩ | ⟨_, z⟩
    · cases z
    · obtain ⟨v, r1, r2⟩ := s.sh j d' z
      exact ⟨v, r1, (r2.keep fa).anti an⟩
  · rcases set_look h1 with ⟨rfl, z⟩ | ⟨n, z⟩
    · cases z; exact ⟨p, hp, q2, (tn fa).anti an⟩
    · obtain ⟨a, r1, r2, r3⟩ := s.ow j w' d' z
      have na : a ≠ p := fun q => by subst q; exact n (s.inj j i _ _ _ _ a z h r1 hp)
      exact ⟨a, r1, r2, (r3.go fa (fun _ z _ => z) fun o q => by rw [upd_ne na]; exact q).anti an⟩
  · have key : ∀ {j w d}, (e0.set i (.ow true dn))[j]? = some (Sl.ow w d) → ∃ w' d', e0[j]? = some (Sl.ow w' d') := fun {j w d} h => by
      rcases set_look h with ⟨rfl, _⟩ | ⟨_, z⟩
      · exact ⟨_, _, by assumption⟩
      · exact ⟨_, _, z⟩
    obtain ⟨_, _, k1⟩ := key h1
    obtain ⟨_, _, k2⟩ := key h2
    exact s.inj j k _ _ _ _ a k1 k2 h3 h4
  · exact fa.there a (s.bx a z)
/-- an own list is written -/
theorem Sim.write {i : Nat} {d : D} {xs ys : List V} {ds : List D} (s : Sim K Bx σ H e0) (h : e0[i]? = some (Sl.ow true d)) (hp : σ[i]? = some (some (V.ref p))) (ho : H p = some (.lst xs)) (rs : Reps K H (Avo Bx σ e0) ys ds) :
    Sim K Bx σ (upd H p (.lst ys)) (e0.set i (.ow true (.list ds))) ∧ Fr σ e0 H (upd H p (.lst ys)) ∧ Le σ e0 (e0.set i (.ow true (.list ds))) :=
  s.writeG h hp ho trivial fun k => .lst upd_same (rs.keep k)
/-- the slot of an own list that may be written -/
def ownL (i : Nat) (e : En) : Option (List D) := match e[i]? with
  | some (Sl.ow true (.list ds)) => some ds
  | _ => none
theorem Sim.own {i : Nat} {ds : List D} (s : Sim K Bx σ H e0) (h : ownL i e0 = some ds) : ∃ p xs, e0[i]? = some (Sl.ow true (.list ds)) ∧ σ[i]? = some (some (V.ref p)) ∧ H p = some (.lst xs) ∧ Reps K H (Avo Bx σ e0) xs ds := by
  unfold ownL at h
  split at h
  · rename_i ds' z
    cases h
    obtain ⟨p, h1, _, t⟩ := s.ow i true _ z
    cases t with | lst q r => exact ⟨p, _, z, h1, q, r⟩
  · cases h
/-- xs.append(e) -/
def xApp (i : Nat) (f : XF) : XF := fun e => if (ownL i e).isSome then (f e).bind fun r e1 => match ownL i e1 with
  | some ds => if ds.length < most then .ok ⟨.none, false⟩ (e1.set i (.ow true (.list (ds ++ [r.d])))) else .st
  | none => .st else .st
theorem Post.after_w {d' : D} {v1 : V} {r1 : Rs} (h : Post K Bx σ H e0 r1 e1 v1 H1) (f : Fr σ e1 H1 H2) (l : Le σ e1 e2) (s : Sim K Bx σ H2 e2) (rp : Rep K H2 (Avo Bx σ e2) v d') : Post K Bx σ H e0 ⟨d', false⟩ e2 v H2 :=
  .mk0 (h.fr.trans h.le f) (h.le.trans l) s rp
theorem app_run {i : Nat} {f : XF} {Q : VK} (h : TD C W (xApp i f) σ H Q) : tBM C.K "list" rAppend (tVar i) (tCons (TD C W f) tNil) σ H Q := by
  obtain ⟨e, Bx, s, q⟩ := h
  unfold xApp at q
  split at q
  · rename_i hs
    obtain ⟨ds, hds⟩ := Option.isSome_iff_exists.mp hs
    obtain ⟨p, xs, z1, z2, z3, z4⟩ := s.own hds
    refine ⟨_, z2, .inl ⟨rfl, _, .inl (.inl z3)⟩, e, Bx, s, run_mono (bind_run q) (fun r e1 q v H1 p1 => ?_) fun _ z => z⟩
    cases w : ownL i e1 with
    | none => rw [w] at q; exact q.elim
    | some ds1 =>
      rw [w] at q
      dsimp only at q
      split at q
      · rename_i hl
        obtain ⟨p', xs1, w1, w2, w3, w4⟩ := p1.s.own w
        rw [z2] at w2; cases w2
        obtain ⟨s', fr, le⟩ := p1.s.write w1 z2 w3 (w4.append (.cons p1.rp .nil))
        refine ⟨p, xs1, v, rfl, rfl, w3, by rw [w4.length]; exact most_lt (Nat.le_of_lt hl), q _ _ (p1.after_w fr le s' .non)⟩
      · exact q.elim
  · exact q.elim
theorem ge_app {i : Nat} {f : XF} {x : Str} {np pos apos : Pos} (hK : X.K = C.K) (hN : X.N[i]? = some x) (hv : Vis X.env.scope x) (hf : GE C X W e f) (hd : (x == ("__debug__" : Str)) = false := by decide) (hcd : (x == ("__classdict__" : Str)) = false := by decide)
    (hbase : attributeBase (.Name x np) "append" X.env (eval (.Name x np) X.env) = eval (.Name x np) X.env := by rfl)
    (hfew : ((backTo pos (starEach [e] X.env)).all (fun x => !x.1) && (backToKw pos (keywordEach [] X.env)).all (fun x => x.1.isSome)
      && decide (([e] : List Expr).length + ([] : List Keyword).length + (if ([] : List Keyword).isEmpty then 0 else 1) < 30)) = true := by rfl)
    (hline : (apos.endLine == pos.line) = true := by rfl) (hs : starEach [e] X.env = (false, eval e X.env) :: starEach [] X.env := by rfl) :
    GE C X W (.Call (.Attribute (.Name x np) "append" apos) [e] [] pos) (xApp i f) := by
  refine pe_imp (pe_bm PySem.F.plainAttrs_list PySem.F.slot_list_append PySem.F.type_list_append mt_append (pe_var hN hv hd hcd) (pa_cons hf pa_nil hs) hbase hfew hline hs rfl) fun σ H Q h => ?_
  rw [hK]
  exact app_run h
/-- xs[i] = v -/
def sSetI (i : Nat) (f g : XF) : SF := fun e => (f e).bind fun r e1 => if (ownL i e1).isSome then (g e1).bind fun k e2 => match k.d, ownL i e2 with
  | .int j, some ds => match ixN ds.length j with
    | some m => .ok .nx (e2.set i (.ow true (.list (ds.set m r.d))))
    | none => .st
  | _, _ => .st else .st
theorem seti_run {i : Nat} {f g : XF} {Dd : Ends} (h : TDs C W io (sSetI i f g) Dd σ H) : tAsg (TD C W f) (gSub (tVar i) (TD C W g) rSetL) Dd σ H := by
  obtain ⟨e, Bx, s, q⟩ := h
  refine ⟨e, Bx, s, run_mono (bind_run q) (fun r e1 q v H1 p1 => ?_) fun _ z => z⟩
  split at q
  · rename_i hs
    obtain ⟨ds, hds⟩ := Option.isSome_iff_exists.mp hs
    obtain ⟨p, xs, z1, z2, z3, z4⟩ := p1.s.own hds
    refine ⟨_, z2, e1, Bx, p1.s, run_mono (bind_run q) (fun k e2 q u H2 p2 => ?_) fun _ z => EX.after z p1.fr p1.le⟩
    obtain ⟨kd, kf⟩ := k
    cases w : ownL i e2 with
    | none => rw [w] at q; cases kd <;> exact q.elim
    | some ds2 =>
      rw [w] at q
      cases kd with
      | int j =>
        dsimp only at q
        cases y : ixN ds2.length j with
        | none => rw [y] at q; exact q.elim
        | some m =>
          rw [y] at q
          have rp := p2.rp
          cases rp
          obtain ⟨p', xs2, w1, w2, w3, w4⟩ := p2.s.own w
          rw [z2] at w2; cases w2
          obtain ⟨s', fr, le⟩ := p2.s.write w1 z2 w3 (w4.set m (rep_after p1.rp p2.fr p2.le))
          exact ⟨p, xs2, j, m, rfl, rfl, w3, by rw [w4.length]; exact y, q σ _ (.of ((p1.fr.trans p1.le p2.fr).trans (p1.le.trans p2.le) fr) ((p1.le.trans p2.le).trans le) s')⟩
      | _ => exact q.elim
  · exact q.elim
theorem gs_setI {i : Nat} {f g : XF} {x : Str} {np spos : Pos} {e ix : Expr} (hN : X.N[i]? = some x) (hv : Vis X.env.scope x) (hf : GE C X W e f) (hg : GE C X W ix g) (hd : (x == ("__debug__" : Str)) = false := by decide) (hcd : (x == ("__classdict__" : Str)) = false := by decide)
    (ha : ∀ v, assign (.Subscript (.Name x np) ix spos) X.env v = (do
      let ov ← holding [v] (eval (.Name x np) X.env)
      let iv ← holding [v, ov] (eval ix X.env)
      standAt spos
      holding [v, ov, iv] (setItem ov iv v)
      release [v, ov, iv] []) := by intro _; rfl)
    (hs : swapsWithSole [.Subscript (.Name x np) ix spos] e pos.line X.env = pure false := by rfl) (hw : swappedStores [.Subscript (.Name x np) ix spos] e X.env = pure none := by rfl)
    (h1 : (assignEach [.Subscript (.Name x np) ix spos] X.env).map (·.2) = [assign (.Subscript (.Name x np) ix spos) X.env] := by rfl) :
    GS C X W io (.Assign [.Subscript (.Name x np) ix spos] e pos) (sSetI i f g) :=
  ps_imp (ps_asg hf (pg_sub (pe_var hN hv hd hcd) hg set_list ha) hs hw h1) fun _ _ _ h => seti_run h

/-! ### x op= e -/
def scal1 : D → Bool
  | .int _ => true | .str _ => true | .bool _ => true | _ => false
def sAug (F : D → D → Option Rs) (i : Nat) (g : En → Res D) : SF := fun e => (xB i e).bind fun x e0 => if scal1 x then (g e0).bind fun y e1 => match F x y with
  | some r => if scal1 r.d && decide (i < e1.length) then .ok .nx (e1.set i (.sh r.d)) else .st
  | none => .st else .st
theorem scal_rep {B B' : Addr → Prop} (h : scal1 d = true) (r : Rep K H B v d) : Rep K H' B' v d := by
  cases r with
  | int i => exact .int i
  | str i => exact .str i
  | bl i => exact .bl i
  | non => cases h
  | lst _ _ _ => cases h
  | tup _ _ => cases h
  | dct _ _ _ => cases h
theorem gs_aug {i : Nat} {x : Str} {op : Operator} {r : R2} {F : D → D → Option Rs} {g : En → Res D} {np : Pos} (hr : OpR X (inplaceOp op) r) (ho : OpOk C F r) (hN : X.N.Nodup) (hi : X.N[i]? = some x) (hx : Loc X.env.scope x) (hg : GO C X W e g) (hio : i ∉ io)
    (hf : X.fn x = true ∨ X.env.scope.names.lookup x = some .local := by first | exact .inl rfl | exact .inr rfl | assumption) : GS C X W io (.AugAssign (.Name x np) op e pos) (sAug F i g) := by
  refine ps_imp (ps_aug hN hi hx hg (ti := r) hr hf) fun D σ H ⟨e, Bx, s, q⟩ => ?_
  obtain ⟨d, v, _, hv, o, q⟩ := look_run s q
  split at q
  · rename_i sc
    refine ⟨v, hv, e, Bx, s, run_mono (bind_run q) (fun y e1 q u H1 p => ?_) fun _ z => z⟩
    cases z : F d y with
    | none => rw [z] at q; exact q.elim
    | some r =>
      rw [z] at q
      dsimp only at q
      split at q
      · rename_i c
        simp only [Bool.and_eq_true, decide_eq_true_eq] at c
        obtain ⟨c1, c2⟩ := c
        have o' : Rep C.K H1 (Avo Bx σ e1) v d := by
          cases o with
          | rep r => exact scal_rep sc r
          | top t => cases t <;> cases sc
        refine ho Bx σ H1 e1 d y v u r _ z p.s (.rep o') p.o fun w H2 p2 => ?_
        obtain ⟨s', wr, av⟩ := p2.s.setSh c2 p2.rp
        exact q _ _ ⟨(p.fr.trans p.le p2.fr), fun a z => .inl (p.le.wr a (p2.le.wr a (wr a z))), fun a z => .inl (p.le.av a (p2.le.av a (av a z))), s', fun j m => st_set fun z => hio (z ▸ m), by simp⟩
      · exact q.elim
  · exact q.elim

/-! ### while -/
def wloop (c : En → Res Bool) (b : SF) : Nat → SF
  | 0, _ => .st
  | n + 1, e => (c e).bind fun k e1 => if k then (b e1).bind fun fl e2 => match fl with | .rt r => .ok (.rt r) e2 | _ => wloop c b n e2 else .ok .nx e1
def big : Nat := 1000000000000
def sWhile (c : En → Res Bool) (b : SF) : SF := wloop c b big
theorem gs_while {c : Expr} {body : List Stmt} {t : En → Res Bool} {f : SF} (hp : PassesOwn (model X.prog X.w) X.A X.env X.xe) (hc : GT C X W c t) (hb : GSs C X W io body f) : GS C X W io (.While c body [] pos) (sWhile t f) := by
  refine ps_imp (ps_while hp hc hb) fun D σ H ⟨e, Bx, s, q⟩ => ?_
  refine ⟨fun m σ1 H1 => ∃ e1, SPost C.K Bx io σ H e σ1 H1 e1 ∧ (wloop t f m e1).run (FlP C.K Bx io σ H e D) (EX C W σ H e), ⟨big, e, .refl s, q⟩, fun m σ1 H1 ⟨e1, p1, q⟩ => ?_⟩
  cases m with
  | zero => exact q.elim
  | succ m =>
    refine ⟨e1, Bx, p1.s, run_mono (bind_run q) (fun k e2 q H2 p2 => ?_) fun _ z => EX.afterS z p1⟩
    have p2' : SPost C.K Bx io σ H e σ1 H2 e2 := p1.trans (.of p2.fr p2.le p2.s)
    cases k with
    | false => exact iteF (q _ _ p2')
    | true =>
      refine iteT ⟨fun σ3 H3 => ∃ e3, SPost C.K Bx io σ H e σ3 H3 e3 ∧ (wloop t f m e3).run (FlP C.K Bx io σ H e D) (EX C W σ H e), fun σ3 H3 h3 => ⟨m, Nat.lt_succ_self m, h3⟩, e2, Bx, p2.s, run_mono (bind_run q) (fun fl e3 q => ?_) fun _ z => EX.afterS z p2'⟩
      cases fl with
      | nx => exact fun σ3 H3 p3 => ⟨e3, p2'.trans p3, q⟩
      | ct => exact fun σ3 H3 p3 => ⟨e3, p2'.trans p3, q⟩
      | rt r => exact fun σ3 v H3 p3 => q σ3 v H3 (p2'.ret p3)

/-! ### what is walked -/
/-- J walks the items ds, while what stood at H0 stands, but for S -/
def Wk (K : PySem.W.Frag) (S B : Addr → Prop) (J : It) (H0 : Hp) (ds : List D) : Prop := ∀ (H : Hp) (B' : Addr → Prop), Kp S H0 H → (∀ a, B' a → H0 a ≠ none → B a) → ∀ i,
  (∀ d, ds[i]? = some d → J.go i H ∧ ∀ x H', J.yld i H x H' → (∀ a o, H a = some o → H' a = some o) ∧ Rep K H' B' x d) ∧ (ds.length ≤ i → J.stop i H)
/-- what must stand still while a walk goes on: what is not written, and is not avoided -/
def Wx (Bx : Addr → Prop) (σ : L2.St) (e : En) (a : Addr) : Prop := Wr σ e a ∨ Bx a
theorem Wx.avo {Bx : Addr → Prop} {σ : L2.St} {e : En} {a : Addr} (h : Wx Bx σ e a) : Avo Bx σ e a := h.elim (fun z => .inl z.av) .inr
structure PostI (K : PySem.W.Frag) (Bx : Addr → Prop) (σ : L2.St) (H : Hp) (e : En) (ds : List D) (e' : En) (J : It) (H' : Hp) : Prop where
  fr : Fr σ e H H'
  le : Le σ e e'
  s : Sim K Bx σ H' e'
  w : Wk K (Wx Bx σ e') (Avo Bx σ e') J H' ds
def TDi (C : Ct) (W : WX) (f : En → Res (List D)) : TI := fun σ H R => ∃ e Bx, Sim C.K Bx σ H e ∧ (f e).run (fun ds e' => ∀ J H', PostI C.K Bx σ H e ds e' J H' → R J H') (EX C W σ H e)
abbrev GI (C : Ct) (X : Cx) (W : WX) (tg it : Expr) (f : En → Res (List D)) : Prop := PI X tg it (TDi C W f)
theorem pi_imp {X : Cx} {tg it : Expr} {t t' : TI} (h : PI X tg it t) (i : ∀ σ H R, t' σ H R → t σ H R) : PI X tg it t' := ⟨fun pins s σ H R I q => h.run pins s σ H R I (i σ H R q)⟩
def floop (g : Rs → En → Option En) (b : SF) : List D → SF
  | [], e => .ok .nx e
  | d :: ds, e => match g ⟨d, false⟩ e with
    | some e1 => (b e1).bind fun fl e2 => match fl with | .rt r => .ok (.rt r) e2 | _ => floop g b ds e2
    | none => .st
def sFor (it : En → Res (List D)) (g : Rs → En → Option En) (b : SF) : SF := fun e => (it e).bind fun ds e1 => floop g b ds e1
theorem for_run {it : En → Res (List D)} {g : Rs → En → Option En} {b : SF} {Dd : Ends} (h : TDs C W io (sFor it g b) Dd σ H) : tFor (TDi C W it) (TDg C io g) (TDs C W io b) Dd σ H := by
  obtain ⟨e, Bx, s, q⟩ := h
  refine ⟨e, Bx, s, run_mono (bind_run q) (fun ds e1 q J H1 p => ?_) fun _ z => z⟩
  refine ⟨fun i m σ2 H2 => m = ds.length - i ∧ i ≤ ds.length ∧ ∃ e2, SPost C.K Bx io σ H1 e1 σ2 H2 e2 ∧ (floop g b (ds.drop i) e2).run (FlP C.K Bx io σ H e Dd) (EX C W σ H e), ⟨ds.length, by simp, Nat.zero_le _, e1, .refl p.s, q⟩, ?_⟩
  have p1 : SPost C.K Bx io σ H e σ H1 e1 := .of p.fr p.le p.s
  rintro i m σ2 H2 ⟨rfl, hi, e2, p2, q⟩
  have hB : ∀ a, Avo Bx σ2 e2 a → H1 a ≠ none → Avo Bx σ e1 a := fun a z n => z.elim (fun z => (p2.av a z).elim .inl fun z => absurd z n) .inr
  obtain ⟨w1, w2⟩ := p.w H2 (Avo Bx σ2 e2) (p2.k.anti fun _ z => .inl z) hB i
  by_cases hl : i < ds.length
  · obtain ⟨go, yl⟩ := w1 ds[i] (List.getElem?_eq_getElem hl)
    rw [List.drop_eq_getElem_cons hl] at q
    refine .inr ⟨go, fun σ3 H3 => ∃ e3, SPost C.K Bx io σ H1 e1 σ3 H3 e3 ∧ (floop g b (ds.drop (i + 1)) e3).run (FlP C.K Bx io σ H e Dd) (EX C W σ H e), fun σ3 H3 ⟨e3, p3, q3⟩ => ⟨ds.length - (i + 1), by omega, rfl, hl, e3, p3, q3⟩, fun x H3 y => ?_⟩
    obtain ⟨k3, rp⟩ := yl x H3 y
    have s3 := p2.s.heap k3
    unfold floop at q
    cases z : g ⟨ds[i], false⟩ e2 with
    | none => rw [z] at q; exact q.elim
    | some e3 =>
      rw [z] at q
      refine ⟨e2, Bx, ⟨ds[i], false⟩, e3, ⟨s3, rp⟩, z, fun σ4 g4 => ?_⟩
      have p4 : SPost C.K Bx io σ H1 e1 σ4 H3 e3 := p2.trans ⟨.ext k3, fun a z => (g4.wr a z).elim .inl fun z => (nomatch z.1), fun a z => (g4.av a z).elim .inl fun z => (nomatch z.1), g4.s, g4.io, g4.len⟩
      have p5 := p1.trans p4
      refine ⟨e3, Bx, g4.s, run_mono (bind_run q) (fun fl e5 q => ?_) fun _ z => EX.afterS z p5⟩
      cases fl with
      | nx => exact fun σ5 H5 p6 => ⟨e5, p4.trans p6, q⟩
      | ct => exact fun σ5 H5 p6 => ⟨e5, p4.trans p6, q⟩
      | rt r => exact fun σ5 v H5 p6 => q σ5 v H5 (p5.ret p6)
  · have e : i = ds.length := by omega
    subst e
    rw [List.drop_length] at q
    exact .inl ⟨w2 (Nat.le_refl _), q σ2 H2 (p1.trans p2)⟩
theorem gs_for {tg it : Expr} {body : List Stmt} {w : En → Res (List D)} {g : Rs → En → Option En} {f : SF} (hp : PassesOwn (model X.prog X.w) X.A X.env X.xe) (hc : X.calm = true) (hi : GI C X W tg it w) (hg : GG C X io tg g) (hb : GSs C X W io body f)
    (hs : ∀ x, foldedSetIterable it X.env x = pure x := by intro _; rfl) : GS C X W io (.For tg it body [] pos) (sFor w g f) :=
  ps_imp (ps_for hp hc hi hg hb hs) fun _ _ _ h => for_run h
/-- items of a value that is run -/
def itemsOf : D → Option (List D)
  | .list ds => some ds
  | .tuple ds => some ds
  | _ => none
def iE (f : XF) : En → Res (List D) := fun e => (f e).bind fun r e1 => match r.d with | .list ds => .ok ds e1 | _ => .st
def iT (f : XF) : En → Res (List D) := fun e => (f e).bind fun r e1 => match r.d with | .tuple ds => .ok ds e1 | _ => .st
end
end G
end L2
namespace L2
namespace G
open PySem PySem.Spec PyProof.Rows
section
variable {C : Ct} {X : Cx} {W : WX} {K : PySem.W.Frag} {Bx S B : Addr → Prop} {io : List Nat} {σ σ' σ1 σ2 : L2.St} {H H' H1 H2 : Hp} {e0 e' e1 e2 : En} {e a b : Expr} {pos : Pos} {d : D} {v : V} {st : Stmt} {r : Rs} {p : Addr} {ds : List D} {xs : List V}

/-! ### walks -/
theorem sql_rd {K : PySem.W.Frag} {l : Addr} (h : H l = some (.lst xs)) : SqL K H l xs := .inl (.inl h)
/-- how a list at l is walked -/
theorem wk_list {l : Addr} (q : H1 l = some (.lst xs)) (nS : ¬ S l) (rs : Reps K H1 B xs ds) (hSB : ∀ a, S a → B a) : Wk K S B (Itl K l) H1 ds := by
  intro H B' k hB i
  have q' : SqL K H l xs := sql_rd (k.keep l _ q nS)
  have rs' : Reps K H B' xs ds := rs.go (k.anti hSB) hB
  refine ⟨fun d hd => ?_, fun hl => ⟨xs, q', by rw [rs.length]; exact hl⟩⟩
  obtain ⟨x, hx, rx⟩ := rs'.getD hd
  refine ⟨⟨xs, x, q', hx⟩, fun y H' ⟨e, hy⟩ => ?_⟩
  subst e
  have := hy xs q'
  rw [hx] at this; cases this
  exact ⟨fun _ _ e => e, rx⟩
theorem sqt_kp {l : Addr} (q : SqT K H1 l xs) (k : Kp S H1 H) : SqT K H l xs := by
  rcases q with q | q
  · exact .inl (k.tup _ _ q)
  · exact .inr q
theorem wk_tup {l : Addr} (q : SqT K H1 l xs) (rs : Reps K H1 B xs ds) (hSB : ∀ a, S a → B a) : Wk K S B (Itt K l) H1 ds := by
  intro H B' k hB i
  have q' : SqT K H l xs := sqt_kp q k
  have rs' : Reps K H B' xs ds := rs.go (k.anti hSB) hB
  refine ⟨fun d hd => ?_, fun hl => ⟨xs, q', by rw [rs.length]; exact hl⟩⟩
  obtain ⟨x, hx, rx⟩ := rs'.getD hd
  refine ⟨⟨xs, x, q', hx⟩, fun y H' ⟨e, hy⟩ => ?_⟩
  subst e
  have := hy xs q'
  rw [hx] at this; cases this
  exact ⟨fun _ _ e => e, rx⟩
theorem gi_list {tg : Expr} {f : XF} (hK : X.K = C.K) (h : GE C X W e f) : GI C X W tg e (iE f) := by
  refine pi_imp (pi_list h) fun σ H R ⟨e, Bx, s, q⟩ => ⟨e, Bx, s, run_mono (bind_run q) (fun r e1 q v H1 p => ?_) fun _ z => z⟩
  obtain ⟨d, fr⟩ := r
  have hp := p.rp
  have hs := p.s
  cases d with
  | list ds =>
    cases hp with
    | @lst l xs _ qd nb rs =>
      refine ⟨l, rfl, ⟨xs, sql_rd qd⟩, q _ H1 ⟨p.fr, p.le, hs, ?_⟩⟩
      rw [hK]
      exact wk_list qd (fun z => nb z.avo) rs fun a z => z.avo
  | _ => exact q.elim
theorem gi_tup {tg : Expr} {f : XF} (hK : X.K = C.K) (h : GE C X W e f) : GI C X W tg e (iT f) := by
  refine pi_imp (pi_tup h) fun σ H R ⟨e, Bx, s, q⟩ => ⟨e, Bx, s, run_mono (bind_run q) (fun r e1 q v H1 p => ?_) fun _ z => z⟩
  obtain ⟨d, fr⟩ := r
  have hp := p.rp
  have hs := p.s
  cases d with
  | tuple ds =>
    cases hp with
    | @tup l xs _ qd rs =>
      rw [hK]
      exact ⟨l, rfl, ⟨xs, qd⟩, q _ H1 ⟨p.fr, p.le, hs, wk_tup qd rs fun a z => z.avo⟩⟩
  | _ => exact q.elim
/-! own lists walked: locked meanwhile -/
def lockE (e : En) (i : Nat) : En := match e[i]? with
  | some (Sl.ow true d) => e.set i (.ow false d)
  | _ => e
def relock (e0 e1 : En) (i : Nat) : En := match e0[i]?, e1[i]? with
  | some (Sl.ow true _), some (Sl.ow false d) => e1.set i (.ow true d)
  | _, _ => e1
theorem Sim.flag {i : Nat} {w w' : Bool} (s : Sim K Bx σ H e0) (h : e0[i]? = some (Sl.ow w d)) : Sim K Bx σ H (e0.set i (.ow w' d)) ∧ ∀ a, Av σ (e0.set i (.ow w' d)) a → Av σ e0 a := by
  have av : ∀ a, Av σ (e0.set i (.ow w' d)) a → Av σ e0 a := fun a ⟨j, w2, d', h1, h2⟩ => by
    rcases set_look h1 with ⟨rfl, z⟩ | ⟨_, z⟩
    · exact ⟨j, w, d, h, h2⟩
    · exact ⟨j, w2, d', z, h2⟩
  have an : ∀ a, Avo Bx σ (e0.set i (.ow w' d)) a → Avo Bx σ e0 a := fun a z => z.imp (av a) id
  have key : ∀ {j w2 d2}, (e0.set i (.ow w' d))[j]? = some (Sl.ow w2 d2) → ∃ w3, e0[j]? = some (Sl.ow w3 d2) := fun {j w2 d2} h1 => by
    rcases set_look h1 with ⟨rfl, z⟩ | ⟨_, z⟩
    · cases z; exact ⟨w, h⟩
    · exact ⟨_, z⟩
  refine ⟨⟨by rw [List.length_set]; exact s.len, fun j d' h1 => ?_, fun j w2 d' h1 => ?_, fun j k w2 w3 d' d'' a h1 h2 h3 h4 => ?_, s.bx, fun j lo hi h1 => (by rcases set_look h1 with ⟨_, z⟩ | ⟨_, z⟩ <;> first | (cases z; done) | exact s.rg j lo hi z)⟩, av⟩
  · rcases set_look h1 with ⟨rfl, z⟩ | ⟨_, z⟩
    · cases z
    · obtain ⟨v, r1, r2⟩ := s.sh j d' z
      exact ⟨v, r1, r2.anti an⟩
  · obtain ⟨w3, z⟩ := key h1
    obtain ⟨a, r1, r2, r3⟩ := s.ow j w3 d' z
    exact ⟨a, r1, r2, r3.anti an⟩
  · obtain ⟨_, k1⟩ := key h1
    obtain ⟨_, k2⟩ := key h2
    exact s.inj j k _ _ _ _ a k1 k2 h3 h4
theorem lock_le (s : Sim K Bx σ H e0) (i : Nat) : Sim K Bx σ H (lockE e0 i) ∧ Le σ e0 (lockE e0 i) := by
  unfold lockE
  split
  · rename_i d h
    obtain ⟨s', av⟩ := s.flag (w' := false) h
    refine ⟨s', fun a ⟨j, d', h1, h2⟩ => ?_, av⟩
    rcases set_look h1 with ⟨rfl, z⟩ | ⟨_, z⟩
    · cases z
    · exact ⟨j, d', z, h2⟩
  · exact ⟨s, .refl⟩
theorem relock_sim {i : Nat} (s : Sim K Bx σ' H e1) : Sim K Bx σ' H (relock e0 e1 i) ∧ (∀ a, Av σ' (relock e0 e1 i) a → Av σ' e1 a) ∧ ∀ a, σ'[i]? = σ[i]? → Wr σ' (relock e0 e1 i) a → Wr σ' e1 a ∨ Wr σ e0 a := by
  unfold relock
  split
  · rename_i d0 d h0 h1
    obtain ⟨s', av⟩ := s.flag (w' := true) h1
    refine ⟨s', av, fun a hs ⟨j, d', h2, h3⟩ => ?_⟩
    rcases set_look h2 with ⟨rfl, z⟩ | ⟨_, z⟩
    · rw [hs] at h3; exact .inr ⟨j, d0, h0, h3⟩
    · exact .inl ⟨j, d', z, h3⟩
  · exact ⟨s, fun _ z => z, fun _ _ z => .inl z⟩
theorem SPost.relock {i : Nat} (h : SPost K Bx (i :: io) σ H e0 σ' H' e1) : SPost K Bx io σ H e0 σ' H' (relock e0 e1 i) := by
  obtain ⟨s, av, wr⟩ := relock_sim (e0 := e0) (σ := σ) (i := i) h.s
  exact ⟨h.k, fun a z => (wr a (h.io i List.mem_cons_self) z).elim (h.wr a) .inl, fun a z => h.av a (av a z), s, fun j m => h.io j (List.mem_cons_of_mem _ m), h.len⟩
theorem Post.relock {i : Nat} (h : Post K Bx σ H e0 r e1 v H') : Post K Bx σ H e0 r (relock e0 e1 i) v H' := by
  obtain ⟨d, fr⟩ := r
  have hi := h.is
  cases fr with
  | false =>
    obtain ⟨s, rp⟩ := hi
    obtain ⟨s', av, wr⟩ := relock_sim (e0 := e0) (σ := σ) (i := i) s
    exact .mk0 h.fr ⟨fun a z => (wr a rfl z).elim (h.le.wr a) id, fun a z => h.le.av a (av a z)⟩ s' (rp.anti fun a z => z.imp (av a) id)
  | true =>
    obtain ⟨p, e, nb, s, t⟩ := hi
    obtain ⟨s', av, wr⟩ := relock_sim (e0 := e0) (σ := σ) (i := i) s
    exact ⟨h.fr, ⟨fun a z => (wr a rfl z).elim (h.le.wr a) id, fun a z => h.le.av a (av a z)⟩, ⟨p, e, nb, s', t.anti fun a z => z.imp (av a) id⟩, h.new⟩
/-- a name that holds a list, walked -/
def iB (i : Nat) : En → Res (List D) := fun e => (xB i e).bind fun d _ => match d with | .list ds => .ok ds (lockE e i) | _ => .st
theorem gi_v {i : Nat} {x : Str} {tg : Expr} (hK : X.K = C.K) (hN : X.N[i]? = some x) (hv : Vis X.env.scope x) (hd : (x == ("__debug__" : Str)) = false := by decide) (hcd : (x == ("__classdict__" : Str)) = false := by decide) : GI C X W tg (.Name x pos) (iB i) := by
  refine pi_imp (pi_list (pe_var hN hv hd hcd)) fun σ H R ⟨e, Bx, s, q⟩ => ?_
  obtain ⟨d, v, hx, hv', o, q⟩ := look_run s q
  cases d with
  | list ds =>
    obtain ⟨l, xs, rfl, qd, rs⟩ := o.list
    obtain ⟨s', le⟩ := lock_le s i
    have an : ∀ a, Avo Bx σ (lockE e i) a → Avo Bx σ e a := Avo.le le
    refine ⟨_, hv', l, rfl, ⟨xs, sql_rd qd⟩, q _ H ⟨.refl, le, s', ?_⟩⟩
    rw [hK]
    refine wk_list qd (fun z => ?_) (rs.anti an) fun a z => z.avo
    -- the list is not written
    unfold xB at hx
    split at hx
    · rename_i d' h1
      cases hx
      obtain ⟨v, r1, r2⟩ := s.sh i _ h1
      rw [hv'] at r1; cases r1
      cases r2 with | lst _ nb _ => exact nb (z.elim (fun z => .inl (le.wr _ z).av) .inr)
    · rename_i w d' h1
      cases hx
      rcases z with ⟨j, d2, h2, h3⟩ | z
      case inr =>
        obtain ⟨a', t1, t2, _⟩ := s.ow i _ _ h1
        rw [hv'] at t1; cases t1
        exact t2 z
      have h2' : e[j]? = some (Sl.ow true d2) ∧ j ≠ i := by
        unfold lockE at h2
        rw [h1] at h2
        cases w with
        | true =>
          rcases set_look h2 with ⟨_, z⟩ | ⟨n, z⟩
          · cases z
          · exact ⟨z, n⟩
        | false =>
          refine ⟨h2, fun n => ?_⟩
          subst n; rw [h1] at h2; cases h2
      exact h2'.2 (s.inj j i _ _ _ _ l h2'.1 h1 h3 hv')
    · cases hx
  | _ => exact q.elim
def sForV (i : Nat) (g : Rs → En → Option En) (b : SF) : SF := fun e => (sFor (iB i) g b e).bind fun fl e2 => match fl with | .rt r => .ok (.rt r) e2 | fl => .ok fl (relock e e2 i)
theorem gs_forV {i : Nat} {x : Str} {np : Pos} {tg : Expr} {body : List Stmt} {g : Rs → En → Option En} {f : SF} (hp : PassesOwn (model X.prog X.w) X.A X.env X.xe) (hc : X.calm = true) (hi : GI C X W tg (.Name x np) (iB i)) (hg : GG C X (i :: io) tg g) (hb : GSs C X W (i :: io) body f)
    (hs : ∀ z, foldedSetIterable (.Name x np) X.env z = pure z := by intro _; rfl) : GS C X W io (.For tg (.Name x np) body [] pos) (sForV i g f) :=
  ps_imp (ps_for hp hc hi hg hb hs) fun Dd σ H ⟨e, Bx, s, q⟩ => for_run ⟨e, Bx, s, run_mono (bind_run q) (fun fl e2 q => by
    cases fl with
    | nx => exact fun σ' H' p => q σ' H' p.relock
    | ct => exact fun σ' H' p => q σ' H' p.relock
    | rt r => exact fun σ' v H' p => q σ' v H' ⟨p.k, p.av, p.is, p.new, fun j m => p.io j (List.mem_cons_of_mem _ m)⟩) fun _ z => z⟩
/-! ranges -/
def iseq (lo c : Int) (n : Nat) : List D := (List.range n).map fun (k : Nat) => PyData.int (lo + (k : Int) * c)
theorem wk_rng {lo : Int} {n : Nat} : Wk K S B (Itr lo n) H1 (iseq lo 1 n) := by
  intro H B' k hB i
  refine ⟨fun d hd => ?_, fun hl => show n ≤ i by simpa [iseq] using hl⟩
  have hi : i < n := by
    have := (List.getElem?_eq_some_iff.mp hd).1
    simpa [iseq] using this
  refine ⟨hi, fun x H' ⟨e1, e2⟩ => ?_⟩
  subst e1 e2
  refine ⟨fun _ _ e => e, ?_⟩
  have : d = PyData.int (lo + i) := by
    have h := hd
    simp [iseq, hi] at h
    exact h.symm
  subst this
  exact .int _
theorem wk_rngC {lo c : Int} {n : Nat} : Wk K S B (Itc lo c n) H1 (iseq lo c n) := by
  intro H B' k hB i
  refine ⟨fun d hd => ?_, fun hl => show n ≤ i by simpa [iseq] using hl⟩
  have hi : i < n := by
    have := (List.getElem?_eq_some_iff.mp hd).1
    simpa [iseq] using this
  refine ⟨hi, fun x H' ⟨e1, e2⟩ => ?_⟩
  subst e1 e2
  refine ⟨fun _ _ e => e, ?_⟩
  have : d = PyData.int (lo + i * c) := by
    have h := hd
    simp [iseq, hi] at h
    exact h.symm
  subst this
  exact .int _
def near (j : Int) : Bool := decide (-(2 ^ 62) ≤ j) && decide (j < 2 ^ 62)
theorem near_of {j : Int} (h : near j = true) : -(2 ^ 62) ≤ j ∧ j < 2 ^ 62 := by simpa [near] using h
def iR1 (g : En → Res (List D)) : En → Res (List D) := fun e => (g e).bind fun ds e1 => match ds with
  | [.int j] => if near j then .ok (iseq 0 1 j.toNat) e1 else .st
  | _ => .st
def iR2 (g : En → Res (List D)) : En → Res (List D) := fun e => (g e).bind fun ds e1 => match ds with
  | [.int i, .int j] => if near i && near j then .ok (iseq i 1 (j - i).toNat) e1 else .st
  | _ => .st
/-- a step of -1, or a small one upward -/
def iR3 (g : En → Res (List D)) : En → Res (List D) := fun e => (g e).bind fun ds e1 => match ds with
  | [.int i, .int j, .int c] => if near i && near j && decide (c = -1) then .ok (iseq i (-1) (i - j).toNat) e1 else .st
  | _ => .st
theorem reps1 (r : Reps K H B xs [.int j]) : xs = [.int j] := by
  cases r with | cons a b => cases a; cases b; rfl
theorem reps2 {i j : Int} (r : Reps K H B xs [.int i, .int j]) : xs = [.int i, .int j] := by
  cases r with | cons a b => cases a; rw [reps1 b]
theorem reps3 {i j k : Int} (r : Reps K H B xs [.int i, .int j, .int k]) : xs = [.int i, .int j, .int k] := by
  cases r with | cons a b => cases a; rw [reps2 b]
theorem gi_r1 {tg : Expr} {p : Pos} {g : En → Res (List D)} (hg : Gl X "range") (hm : X.mg "range" = none) (ha : GA C X W [a] g) (hs : starEach [a] X.env = [(false, eval a X.env)] := by rfl) : GI C X W tg (.Call (.Name "range" p) [a] [] pos) (iR1 g) := by
  refine pi_imp (pi_range1 hg hm ha hs) fun σ H R ⟨e, Bx, s, q⟩ => ⟨e, Bx, s, run_mono (bind_run q) (fun ds e1 q vs H1 p => ?_) fun _ z => z⟩
  split at q
  · rename_i j
    split at q
    · rename_i hn
      obtain ⟨n1, n2⟩ := near_of hn
      exact ⟨j, reps1 p.r, n1, n2, q _ H1 ⟨p.fr, p.le, p.s, wk_rng⟩⟩
    · exact q.elim
  · exact q.elim
theorem gi_r2 {tg : Expr} {p : Pos} {g : En → Res (List D)} (hg : Gl X "range") (hm : X.mg "range" = none) (ha : GA C X W [a, b] g) (hs : starEach [a, b] X.env = [(false, eval a X.env), (false, eval b X.env)] := by rfl) (hs2 : starEach [b] X.env = [(false, eval b X.env)] := by rfl) : GI C X W tg (.Call (.Name "range" p) [a, b] [] pos) (iR2 g) := by
  refine pi_imp (pi_range2 hg hm ha hs hs2) fun σ H R ⟨e, Bx, s, q⟩ => ⟨e, Bx, s, run_mono (bind_run q) (fun ds e1 q vs H1 p => ?_) fun _ z => z⟩
  split at q
  · rename_i i j
    split at q
    · rename_i hn
      simp only [Bool.and_eq_true] at hn
      obtain ⟨n1, n2⟩ := near_of hn.1
      obtain ⟨n3, n4⟩ := near_of hn.2
      exact ⟨i, j, reps2 p.r, ⟨n1, n2, n3, n4⟩, q _ H1 ⟨p.fr, p.le, p.s, wk_rng⟩⟩
    · exact q.elim
  · exact q.elim
theorem gi_r3 {tg c : Expr} {p : Pos} {g : En → Res (List D)} (hg : Gl X "range") (hm : X.mg "range" = none) (ha : GA C X W [a, b, c] g) (hs : starEach [a, b, c] X.env = (false, eval a X.env) :: starEach [b, c] X.env := by rfl) (hpl : (backTo pos (starEach [b, c] X.env)).any (·.1) = false := by rfl) : GI C X W tg (.Call (.Name "range" p) [a, b, c] [] pos) (iR3 g) := by
  refine pi_imp (pi_range3 hg hm ha hs hpl) fun σ H R ⟨e, Bx, s, q⟩ => ⟨e, Bx, s, run_mono (bind_run q) (fun ds e1 q vs H1 p => ?_) fun _ z => z⟩
  split at q
  · rename_i i j c
    split at q
    · rename_i hn
      simp only [Bool.and_eq_true, decide_eq_true_eq] at hn
      obtain ⟨n1, n2⟩ := near_of hn.1.1
      obtain ⟨n3, n4⟩ := near_of hn.1.2
      obtain rfl := hn.2
      exact ⟨i, j, -1, _, reps3 p.r, .neg n1 n2 n3 n4, q _ H1 ⟨p.fr, p.le, p.s, wk_rngC⟩⟩
    · exact q.elim
  · exact q.elim
/-! a text, sign by sign -/
def signs (x : Str) : List D := x.cps.toList.map fun c => PyData.str ⟨#[c]⟩
theorem wk_str {x : Str} : Wk K S B (Its x) H1 (signs x) := by
  intro H B' k hB i
  refine ⟨fun d hd => ?_, fun hl => show x.cps.size ≤ i by simpa [signs] using hl⟩
  have hi : i < x.cps.size := by
    have := (List.getElem?_eq_some_iff.mp hd).1
    simpa [signs] using this
  refine ⟨hi, fun v H' ⟨e1, c, e2, e3⟩ => ?_⟩
  subst e1 e3
  refine ⟨fun _ _ e => e, ?_⟩
  have : d = PyData.str ⟨#[c]⟩ := by
    have h := hd
    simp [signs, e2] at h
    exact h.symm
  subst this
  exact .str _
def iS (g : En → Res D) : En → Res (List D) := fun e => (g e).bind fun d e1 => match d with | .str x => .ok (signs x) e1 | _ => .st
theorem gi_str {tg : Expr} {g : En → Res D} (h : GO C X W e g) : GI C X W tg e (iS g) := by
  refine pi_imp (pi_str h) fun σ H R ⟨e, Bx, s, q⟩ => ⟨e, Bx, s, run_mono (bind_run q) (fun d e1 q v H1 p => ?_) fun _ z => z⟩
  cases d with
  | str x => exact ⟨x, p.o.str, q _ H1 ⟨p.fr, p.le, p.s, wk_str⟩⟩
  | _ => exact q.elim

/-! ### comprehensions -/
def wipeE (e : En) : List Nat → En
  | [] => e
  | v :: vs => (wipeE e vs).set v .un
def resE (e1 e2 : En) : List Nat → En
  | [] => e2
  | v :: vs => match e1[v]? with | some s => (resE e1 e2 vs).set v s | none => resE e1 e2 vs
def okW (e : En) (vs : List Nat) : Bool := vs.all fun i => match e[i]? with | some (.ow _ _) => false | _ => true
theorem wipeE_length : ∀ vs : List Nat, (wipeE e0 vs).length = e0.length
  | [] => rfl
  | v :: vs => by unfold wipeE; rw [List.length_set, wipeE_length vs]
theorem wipeE_some {i : Nat} {y : Sl} : ∀ {vs : List Nat}, (wipeE e0 vs)[i]? = some y → y = .un ∨ (i ∉ vs ∧ e0[i]? = some y)
  | [], h => .inr ⟨by simp, h⟩
  | v :: vs, h => by
    unfold wipeE at h
    rcases set_look h with ⟨_, z⟩ | ⟨n, z⟩
    · exact .inl z
    · rcases wipeE_some z with z | ⟨z1, z2⟩
      · exact .inl z
      · exact .inr ⟨by simp only [List.mem_cons, not_or]; exact ⟨n, z1⟩, z2⟩
theorem wipe_in {i : Nat} : ∀ {vs : List Nat}, i ∉ vs → (wipe σ vs)[i]? = σ[i]? := fun h => wipe_out h
theorem resE_length : ∀ vs : List Nat, (resE e1 e2 vs).length = e2.length
  | [] => rfl
  | v :: vs => by
    unfold resE
    split
    · rw [List.length_set, resE_length vs]
    · exact resE_length vs
theorem resE_some {i : Nat} {y : Sl} : ∀ {vs : List Nat}, (resE e1 e2 vs)[i]? = some y → e1.length = e2.length → (i ∈ vs ∧ e1[i]? = some y) ∨ (i ∉ vs ∧ e2[i]? = some y)
  | [], h, _ => .inr ⟨by simp, h⟩
  | v :: vs, h, hl => by
    unfold resE at h
    split at h
    · rename_i s q
      rcases set_look h with ⟨z0, z⟩ | ⟨n, z⟩
      · subst z0 z; exact .inl ⟨List.mem_cons_self, q⟩
      · rcases resE_some z hl with ⟨z1, z2⟩ | ⟨z1, z2⟩
        · exact .inl ⟨List.mem_cons_of_mem _ z1, z2⟩
        · exact .inr ⟨by simp only [List.mem_cons, not_or]; exact ⟨n, z1⟩, z2⟩
    · rename_i q
      rcases resE_some h hl with ⟨z1, z2⟩ | ⟨z1, z2⟩
      · exact .inl ⟨List.mem_cons_of_mem _ z1, z2⟩
      · refine .inr ⟨?_, z2⟩
        simp only [List.mem_cons, not_or]
        refine ⟨fun z => ?_, z1⟩
        subst z
        have := en_lt z2
        rw [← hl] at this
        rw [List.getElem?_eq_getElem this] at q; cases q
/-- the block's own names forgotten -/
theorem Sim.wipe (s : Sim K Bx σ H e0) (vs : List Nat) : Sim K Bx (wipe σ vs) H (wipeE e0 vs) ∧ (∀ a, Wr (L2.wipe σ vs) (wipeE e0 vs) a → Wr σ e0 a) ∧ ∀ a, Av (L2.wipe σ vs) (wipeE e0 vs) a → Av σ e0 a := by
  have wr : ∀ a, Wr (L2.wipe σ vs) (wipeE e0 vs) a → Wr σ e0 a := fun a ⟨j, d', h1, h2⟩ => by
    rcases wipeE_some h1 with z | ⟨z1, z2⟩
    · cases z
    · rw [wipe_in z1] at h2; exact ⟨j, d', z2, h2⟩
  have av : ∀ a, Av (L2.wipe σ vs) (wipeE e0 vs) a → Av σ e0 a := fun a ⟨j, w', d', h1, h2⟩ => by
    rcases wipeE_some h1 with z | ⟨z1, z2⟩
    · cases z
    · rw [wipe_in z1] at h2; exact ⟨j, w', d', z2, h2⟩
  have an : ∀ a, Avo Bx (L2.wipe σ vs) (wipeE e0 vs) a → Avo Bx σ e0 a := fun a z => z.imp (av a) id
  refine ⟨⟨by rw [wipeE_length, wipe_length]; exact s.len, fun j d' h1 => ?_, fun j w' d' h1 => ?_, fun j k w' w'' d' d'' a h1 h2 h3 h4 => ?_, s.bx, fun j lo hi h1 => (by
    rcases wipeE_some h1 with z | ⟨z1, z2⟩
    · cases z
    · obtain ⟨a, r1, r2⟩ := s.rg j lo hi z2
      exact ⟨a, by rw [wipe_in z1]; exact r1, r2⟩)⟩, wr, av⟩
  · rcases wipeE_some h1 with z | ⟨z1, z2⟩
    · cases z
    · obtain ⟨v, r1, r2⟩ := s.sh j d' z2
      exact ⟨v, by rw [wipe_in z1]; exact r1, r2.anti an⟩
  · rcases wipeE_some h1 with z | ⟨z1, z2⟩
    · cases z
    · obtain ⟨a, r1, r2, r3⟩ := s.ow j w' d' z2
      exact ⟨a, by rw [wipe_in z1]; exact r1, r2, r3.anti an⟩
  · rcases wipeE_some h1 with z | ⟨z1, z2⟩
    · cases z
    · rcases wipeE_some h2 with z' | ⟨z1', z2'⟩
      · cases z'
      · rw [wipe_in z1] at h3; rw [wipe_in z1'] at h4
        exact s.inj j k _ _ _ _ a z2 z2' h3 h4
/-- a list that is avoided is written -/
theorem Sim.writeB {ys : List V} (s : Sim K (ad Bx p) σ H e0) (h : H p = some (.lst xs)) : Sim K (ad Bx p) σ (upd H p (.lst ys)) e0 := by
  have kp : Kp (Avo (ad Bx p) σ e0) H (upd H p (.lst ys)) := .write h trivial (.inr (.inr rfl))
  refine ⟨s.len, fun i d q => ?_, fun i w d q => ?_, s.inj, fun a z => kp.there a (s.bx a z), fun j lo hi h1 => (let ⟨a, r1, r2⟩ := s.rg j lo hi h1; ⟨a, r1, kp.rng _ _ _ r2⟩)⟩
  · obtain ⟨v, q1, q2⟩ := s.sh i d q
    exact ⟨v, q1, q2.keep kp⟩
  · obtain ⟨a, q1, q2, q3⟩ := s.ow i w d q
    refine ⟨a, q1, q2, q3.go kp (fun _ z _ => z) fun o z => ?_⟩
    rw [upd_ne fun y => q2 (.inr y)]; exact z
end
end G
end L2
namespace L2
namespace G
open PySem PySem.Spec PyProof.Rows
section
variable {C : Ct} {X : Cx} {W : WX} {K : PySem.W.Frag} {Bx S B : Addr → Prop} {io : List Nat} {σ σ' σ1 σ2 : L2.St} {H H' H1 H2 : Hp} {e0 e' e1 e2 : En} {e a b : Expr} {pos : Pos} {d : D} {v : V} {st : Stmt} {r : Rs} {p : Addr} {ds : List D} {xs : List V}

/-- within a block nothing is raised -/
abbrev W0 : WX := fun _ _ _ _ => False
/-- the slots that are not the block's own -/
def oth (n : Nat) (vs : List Nat) : List Nat := (List.range n).filter fun i => !vs.contains i
theorem wipe_eq {vs : List Nat} (h : σ'.length = σ.length) (k : ∀ i ∈ oth σ.length vs, σ'[i]? = σ[i]?) : L2.wipe σ' vs = L2.wipe σ vs := by
  apply List.ext_getElem?
  intro i
  by_cases m : i ∈ vs
  · have : ∀ (τ : L2.St) (us : List Nat), i ∈ us → (L2.wipe τ us)[i]? = if i < τ.length then some none else none := by
      intro τ us
      induction us with
      | nil => intro m; simp at m
      | cons u us ih =>
        intro m
        unfold L2.wipe
        by_cases c : u = i
        · subst c
          by_cases hl : u < τ.length
          · rw [List.getElem?_set_self (by rw [wipe_length]; exact hl), if_pos hl]
          · rw [List.getElem?_eq_none (by rw [List.length_set, wipe_length]; omega), if_neg hl]
        · rw [List.getElem?_set_ne c]
          rcases List.mem_cons.mp m with z | z
          · exact absurd z.symm c
          · exact ih z
    rw [this _ _ m, this _ _ m, h]
  · rw [wipe_out m, wipe_out m]
    by_cases hl : i < σ.length
    · exact k i (by simp [oth, hl, m])
    · rw [List.getElem?_eq_none (by omega), List.getElem?_eq_none (by omega)]
theorem wipe_wipe {vs : List Nat} : L2.wipe (L2.wipe σ vs) vs = L2.wipe σ vs :=
  wipe_eq (by rw [wipe_length]) fun i m => wipe_out (by simpa [oth] using (List.mem_filter.mp m).2)
def lcLoop (g : Rs → En → Option En) (tt : En → Res Bool) (te : XF) (vs : List Nat) : List D → List D → En → Res (List D)
  | [], acc, e => .ok acc e
  | d :: ds, acc, e => match g ⟨d, false⟩ (wipeE e vs) with
    | none => .st
    | some e2 => match tt e2 with
      | .ok true e3 => match te e3 with
        | .ok r e4 => if acc.length < most then lcLoop g tt te vs ds (acc ++ [r.d]) e4 else .st
        | _ => .st
      | .ok false e3 => lcLoop g tt te vs ds acc e3
      | _ => .st
/-- [te for g in it if tt], vs the block's own slots -/
def xLc (it : En → Res (List D)) (g : Rs → En → Option En) (tt : En → Res Bool) (te : XF) (vs : List Nat) : XF := fun e => (it e).bind fun ds e1 => if okW e1 vs then (lcLoop g tt te vs ds [] e1).bind fun ys e2 => .ok ⟨.list ys, true⟩ (resE e1 e2 vs) else .st
/-- what stands between the turns; e1, H1: at the loop's start, σ's slots; L the new list -/
structure LcI (K : PySem.W.Frag) (Bx : Addr → Prop) (σ : L2.St) (vs : List Nat) (H1 : Hp) (e1 : En) (L : Addr) (acc : List D) (H : Hp) (e : En) : Prop where
  k : Kp (Wr σ e1) H1 H
  s : Sim K (ad Bx L) (L2.wipe σ vs) H (wipeE e vs)
  len : e.length = e1.length
  wr : ∀ a, Wr (L2.wipe σ vs) (wipeE e vs) a → Wr σ e1 a
  av : ∀ a, Av (L2.wipe σ vs) (wipeE e vs) a → Av σ e1 a
  l : ∃ xs, H L = some (.lst xs) ∧ Reps K H (Avo (ad Bx L) (L2.wipe σ vs) (wipeE e vs)) xs acc
theorem wipeE_out {i : Nat} : ∀ {vs : List Nat}, i ∉ vs → (wipeE e0 vs)[i]? = e0[i]?
  | [], _ => rfl
  | u :: us, m => by simp only [List.mem_cons, not_or] at m; unfold wipeE; rw [List.getElem?_set_ne (Ne.symm m.1)]; exact wipeE_out m.2
theorem LcI.start {L : Addr} {vs : List Nat} (s : Sim K Bx σ H1 e1) (h : H1 L = none) : LcI K Bx σ vs H1 e1 L [] (upd H1 L (.lst [])) e1 := by
  obtain ⟨s', wr, av⟩ := (s.laid (o := .lst []) h).wipe vs
  exact ⟨.new h, s', rfl, wr, av, [], upd_same, .nil⟩
/-- a turn that adds an item -/
theorem LcI.turn {L : Addr} {vs : List Nat} {acc : List D} {Hy H3 H4 : Hp} {e2 e3 e4 : En} {x y : V} {io' : List Nat} (hio : io' = oth σ.length vs) (h : LcI K Bx σ vs H1 e1 L acc H e0) (hL : H1 L = none) (s1 : Sim K Bx σ H1 e1) (ky : ∀ a o, H a = some o → Hy a = some o)
    (g : GPost K (ad Bx L) io' (L2.wipe σ vs) Hy (wipeE e0 vs) ⟨d, false⟩ x σ2 e2) (t : PostT K (ad Bx L) σ2 Hy e2 e3 H3) :
    L2.wipe σ2 vs = L2.wipe σ vs ∧ LcI K Bx σ vs H1 e1 L acc H3 e3 ∧ (∀ {r}, Post K (ad Bx L) σ2 H3 e3 r e4 y H4 → ∃ xs, H4 L = some (.lst xs) ∧ xs.length = acc.length ∧ LcI K Bx σ vs H1 e1 L (acc ++ [r.d]) (upd H4 L (.lst (xs ++ [y]))) e4) := by
  subst hio
  have hw : L2.wipe σ2 vs = L2.wipe σ vs := (wipe_eq (σ := L2.wipe σ vs) (by rw [g.len]) (by rw [wipe_length]; exact g.io)).trans wipe_wipe
  obtain ⟨xs, hx, rx⟩ := h.l
  have lB : ∀ {τ e}, Avo (ad Bx L) τ e L := .inr (.inr rfl)
  have wr2 : ∀ a, Wr σ2 e2 a → Wr (L2.wipe σ vs) (wipeE e0 vs) a := fun a z => (g.wr a z).elim id fun z => nomatch z.1
  have av2 : ∀ a, Av σ2 e2 a → Av (L2.wipe σ vs) (wipeE e0 vs) a := fun a z => (g.av a z).elim id fun z => nomatch z.1
  have wr3 : ∀ a, Wr σ2 e3 a → Wr (L2.wipe σ vs) (wipeE e0 vs) a := fun a z => wr2 a (t.le.wr a z)
  have av3 : ∀ a, Av σ2 e3 a → Av (L2.wipe σ vs) (wipeE e0 vs) a := fun a z => av2 a (t.le.av a z)
  have nLown : ¬ Wr σ2 e2 L := fun ⟨j, d', q1, q2⟩ => by
    obtain ⟨a, r1, r2, _⟩ := g.s.ow j true d' q1
    rw [q2] at r1; cases r1; exact r2 (.inr rfl)
  have k3 : Kp (Wr (L2.wipe σ vs) (wipeE e0 vs)) H H3 := Kp.trans (.ext ky) (t.fr.anti wr2)
  have K3 : Kp (Wr σ e1) H1 H3 := h.k.trans (k3.anti h.wr)
  have hx3 : H3 L = some (.lst xs) := t.fr.keep L _ (ky L _ hx) nLown
  have len3 : e3.length = e1.length := by rw [t.s.len, g.len, wipe_length, ← s1.len]
  obtain ⟨s3, w3, a3⟩ := t.s.wipe vs
  rw [hw] at s3 w3 a3
  have rx3 : Reps K H3 (Avo (ad Bx L) (L2.wipe σ vs) (wipeE e3 vs)) xs acc := (rx.keep (k3.anti fun a z => .inl z.av)).anti fun a z => z.imp (fun z => av3 a (a3 a z)) id
  refine ⟨hw, ⟨K3, s3, len3, fun a z => h.wr a (wr3 a (w3 a z)), fun a z => h.av a (av3 a (a3 a z)), xs, hx3, rx3⟩, fun {r} p => ?_⟩
  have nL3 : ¬ Wr σ2 e3 L := fun z => nLown (t.le.wr L z)
  have hx4 : H4 L = some (.lst xs) := p.fr.keep L _ hx3 nL3
  have K4 : Kp (Wr σ e1) H1 H4 := K3.trans (p.fr.anti fun a z => h.wr a (wr3 a z))
  have k5 : ∀ {B : Addr → Prop}, B L → Kp B H4 (upd H4 L (.lst (xs ++ [y]))) := fun b => .write hx4 trivial b
  have K5 : Kp (Wr σ e1) H1 (upd H4 L (.lst (xs ++ [y]))) := by
    have w := k5 (B := fun _ => True) trivial
    refine ⟨fun a o q n => ?_, fun a n => w.there a (K4.there a n), fun a zs q => w.tup a zs (K4.tup a zs q), fun a lo hi q => w.rng a lo hi (K4.rng a lo hi q)⟩
    rw [upd_ne (ne_of_none q hL)]; exact K4.keep a o q n
  obtain ⟨s5, w5, a5⟩ := (p.s.writeB (ys := xs ++ [y]) hx4).wipe vs
  rw [hw] at s5 w5 a5
  have le4 : ∀ a, Av (L2.wipe σ vs) (wipeE e4 vs) a → Av σ2 e3 a := fun a z => p.le.av a (a5 a z)
  refine ⟨xs, hx4, rx.length, K5, s5, by rw [p.s.len, g.len, wipe_length, ← s1.len], fun a z => h.wr a (wr3 a (p.le.wr a (w5 a z))), fun a z => h.av a (av3 a (le4 a z)), xs ++ [y], upd_same, ?_⟩
  have q1 : Reps K (upd H4 L (.lst (xs ++ [y]))) (Avo (ad Bx L) (L2.wipe σ vs) (wipeE e4 vs)) xs acc := by
    have z1 : Reps K H4 (Avo (ad Bx L) (L2.wipe σ vs) (wipeE e0 vs)) xs acc := rx.keep ((k3.trans (p.fr.anti wr3)).anti fun a z => .inl z.av)
    exact (z1.keep (k5 lB)).anti fun a z => z.imp (fun z => av3 a (le4 a z)) id
  have q2 : Rep K (upd H4 L (.lst (xs ++ [y]))) (Avo (ad Bx L) (L2.wipe σ vs) (wipeE e4 vs)) y r.d := (p.rp.keep (k5 lB)).anti fun a z => z.imp (fun z => a5 a z) id
  exact q1.append (.cons q2 .nil)
theorem LcI.done {L : Addr} {vs : List Nat} {acc : List D} (h : LcI K Bx σ vs H1 e1 L acc H e0) (hL : H1 L = none) (s1 : Sim K Bx σ H1 e1) (ok : okW e1 vs = true) : Post K Bx σ H1 e1 ⟨.list acc, true⟩ (resE e1 e0 vs) (.ref L) H := by
  have notow : ∀ j ∈ vs, ∀ w d, e1[j]? ≠ some (Sl.ow w d) := fun j m w d q => by
    have := List.all_eq_true.mp ok j m
    rw [q] at this; cases this
  have look : ∀ {j y}, (resE e1 e0 vs)[j]? = some y → (j ∈ vs ∧ e1[j]? = some y) ∨ (j ∉ vs ∧ (wipeE e0 vs)[j]? = some y) := fun {j y} q => by
    rcases resE_some q h.len.symm with z | ⟨z1, z2⟩
    · exact .inl z
    · exact .inr ⟨z1, by rw [wipeE_out z1]; exact z2⟩
  have av : ∀ a, Av σ (resE e1 e0 vs) a → Av (L2.wipe σ vs) (wipeE e0 vs) a := fun a ⟨j, w, d', q1, q2⟩ => by
    rcases look q1 with ⟨z1, z2⟩ | ⟨z1, z2⟩
    · exact absurd z2 (notow j z1 w d')
    · exact ⟨j, w, d', z2, by rw [wipe_out z1]; exact q2⟩
  have wr : ∀ a, Wr σ (resE e1 e0 vs) a → Wr (L2.wipe σ vs) (wipeE e0 vs) a := fun a ⟨j, d', q1, q2⟩ => by
    rcases look q1 with ⟨z1, z2⟩ | ⟨z1, z2⟩
    · exact absurd z2 (notow j z1 true d')
    · exact ⟨j, d', z2, by rw [wipe_out z1]; exact q2⟩
  have an : ∀ a, Avo (ad Bx L) σ (resE e1 e0 vs) a → Avo (ad Bx L) (L2.wipe σ vs) (wipeE e0 vs) a := fun a z => z.imp (av a) id
  obtain ⟨xs, hx, rx⟩ := h.l
  refine ⟨h.k, ⟨fun a z => h.wr a (wr a z), fun a z => h.av a (av a z)⟩, ⟨L, rfl, fun z => s1.bx L z hL, ⟨?_, fun j d' q => ?_, fun j w d' q => ?_, fun j k w' w'' d' d'' a q1 q2 q3 q4 => ?_, h.s.bx, fun j lo hi q => (by
    rcases look q with ⟨z1, z2⟩ | ⟨z1, z2⟩
    · obtain ⟨a, r1, r2⟩ := s1.rg j lo hi z2
      exact ⟨a, r1, h.k.rng _ _ _ r2⟩
    · obtain ⟨a, r1, r2⟩ := h.s.rg j lo hi z2
      exact ⟨a, by rw [wipe_out z1] at r1; exact r1, r2⟩)⟩, .lst hx (rx.anti an)⟩, fun _ _ z => by cases z; exact hL⟩
  · rw [resE_length, h.len]; exact s1.len
  · rcases look q with ⟨z1, z2⟩ | ⟨z1, z2⟩
    · obtain ⟨v, r1, r2⟩ := s1.sh j d' z2
      refine ⟨v, r1, r2.go (h.k.anti fun a z => .inl z.av) fun a z n => ?_⟩
      rcases z with z | z | z
      · exact .inl (h.av a (av a z))
      · exact .inr z
      · rw [z] at n; exact absurd hL n
    · obtain ⟨v, r1, r2⟩ := h.s.sh j d' z2
      exact ⟨v, by rw [wipe_out z1] at r1; exact r1, r2.anti an⟩
  · rcases look q with ⟨z1, z2⟩ | ⟨z1, z2⟩
    · exact absurd z2 (notow j z1 w d')
    · obtain ⟨a, r1, r2, r3⟩ := h.s.ow j w d' z2
      exact ⟨a, by rw [wipe_out z1] at r1; exact r1, r2, r3.anti an⟩
  · rcases look q1 with ⟨z1, z2⟩ | ⟨z1, z2⟩
    · exact absurd z2 (notow j z1 w' d')
    · rcases look q2 with ⟨z1', z2'⟩ | ⟨z1', z2'⟩
      · exact absurd z2' (notow k z1' w'' d'')
      · exact h.s.inj j k _ _ _ _ a z2 z2' (by rw [wipe_out z1]; exact q3) (by rw [wipe_out z1']; exact q4)
theorem Post.after_i {J : It} (h : PostI K Bx σ H e0 ds e1 J H1) (h' : Post K Bx σ H1 e1 r e' v H') : Post K Bx σ H e0 r e' v H' :=
  ⟨h.fr.trans h.le h'.fr, h.le.trans h'.le, h'.is, fun z p q => h.fr.new (h'.new z p q)⟩
theorem oth_len {vs : List Nat} (hN : X.N.length = σ.length) : oth X.N.length vs = oth σ.length vs := by rw [hN]
/-- the reading of a comprehension -/
theorem lc_run {it : En → Res (List D)} {g : Rs → En → Option En} {tt : En → Res Bool} {te : XF} {vs : List Nat} {n : Nat} {Q : VK} (hn : σ.length = n) (h : TD C W (xLc it g tt te vs) σ H Q) : tLc (TDi C W it) (TDg C (oth n vs) g) (TDt C W0 tt) (TD C W0 te) vs σ H Q := by
  subst hn
  obtain ⟨e, Bx, s, q⟩ := h
  refine ⟨e, Bx, s, run_mono (bind_run q) (fun ds e1 q J H1 p => ?_) fun _ z => z⟩
  split at q
  case isFalse => exact q.elim
  rename_i ok
  intro L hL
  refine ⟨fun i m Hh => m = ds.length - i ∧ i ≤ ds.length ∧ ∃ e2 acc, LcI C.K Bx σ vs H1 e1 L acc Hh e2 ∧ ((lcLoop g tt te vs (ds.drop i) acc e2).bind fun ys e2 => (.ok ⟨.list ys, true⟩ (resE e1 e2 vs) : Res Rs)).run (fun r e' => ∀ v H', Post C.K Bx σ H e r e' v H' → Q v H') (EX C W σ H1 e1), ⟨ds.length, by simp, Nat.zero_le _, e1, [], .start p.s hL, ?_⟩, ?_⟩
  · cases z : lcLoop g tt te vs ds [] e1 with
    | st => rw [z] at q; exact q.elim
    | ok a b => rw [z] at q; rw [List.drop_zero, z]; exact q
    | ex y => rw [z] at q; rw [List.drop_zero, z]; exact EX.after q p.fr p.le
  rintro i m H2 ⟨rfl, hi, e2, acc, I, q⟩
  have hB : ∀ a, Avo (ad Bx L) (L2.wipe σ vs) (wipeE e2 vs) a → H1 a ≠ none → Avo Bx σ e1 a := fun a z n => by
    rcases z with z | z | z
    · exact .inl (I.av a z)
    · exact .inr z
    · rw [z] at n; exact absurd hL n
  obtain ⟨w1, w2⟩ := p.w H2 (Avo (ad Bx L) (L2.wipe σ vs) (wipeE e2 vs)) (I.k.anti fun _ z => .inl z) hB i
  by_cases hl : i < ds.length
  · obtain ⟨go, yl⟩ := w1 ds[i] (List.getElem?_eq_getElem hl)
    rw [List.drop_eq_getElem_cons hl] at q
    refine .inr ⟨go, fun Hh => ∃ e3 acc', LcI C.K Bx σ vs H1 e1 L acc' Hh e3 ∧ ((lcLoop g tt te vs (ds.drop (i + 1)) acc' e3).bind fun ys e2 => (.ok ⟨.list ys, true⟩ (resE e1 e2 vs) : Res Rs)).run (fun r e' => ∀ v H', Post C.K Bx σ H e r e' v H' → Q v H') (EX C W σ H1 e1), fun H3 ⟨e3, acc', p3, q3⟩ => ⟨ds.length - (i + 1), by omega, rfl, hl, e3, acc', p3, q3⟩, fun x Hy y => ?_⟩
    obtain ⟨ky, rp⟩ := yl x Hy y
    have sy := I.s.heap ky
    unfold lcLoop at q
    cases z : g ⟨ds[i], false⟩ (wipeE e2 vs) with
    | none => rw [z] at q; exact q.elim
    | some e3 =>
      rw [z] at q
      refine ⟨wipeE e2 vs, ad Bx L, ⟨ds[i], false⟩, e3, ⟨sy, rp⟩, z, fun σ2 g2 => ?_⟩
      have hw : L2.wipe σ2 vs = L2.wipe σ vs := (wipe_eq (σ := L2.wipe σ vs) (by rw [g2.len]) (by rw [wipe_length]; exact g2.io)).trans wipe_wipe
      refine ⟨hw, e3, ad Bx L, g2.s, ?_⟩
      cases zt : tt e3 with
      | st => simp only [zt] at q; exact q.elim
      | ex _ => simp only [zt] at q; exact q.elim
      | ok b e4 =>
        simp only [zt] at q
        show ∀ H3, PostT C.K (ad Bx L) σ2 Hy e3 e4 H3 → _
        intro H3 t
        cases b with
        | false =>
          obtain ⟨_, I3, _⟩ := LcI.turn (e4 := e4) (y := x) (H4 := H3) rfl I hL p.s ky g2 t
          exact iteF ⟨e4, acc, I3, q⟩
        | true =>
          refine iteT ⟨e4, ad Bx L, t.s, ?_⟩
          simp only at q
          cases ze : te e4 with
          | st => simp only [ze] at q; exact q.elim
          | ex _ => simp only [ze] at q; exact q.elim
          | ok r e5 =>
            simp only [ze] at q
            show ∀ v H', Post C.K (ad Bx L) σ2 H3 e4 r e5 v H' → _
            intro yv H4 p4
            obtain ⟨_, _, I4⟩ := LcI.turn (e4 := e5) (y := yv) (H4 := H4) rfl I hL p.s ky g2 t
            obtain ⟨xs, hx, hxl, I5⟩ := I4 p4
            split at q
            · rename_i hm
              exact ⟨xs, hx, by rw [hxl]; exact most_lt (Nat.le_of_lt hm), e5, _, I5, q⟩
            · exact q.elim
  · have e : i = ds.length := by omega
    subst e
    rw [List.drop_length] at q
    exact .inl ⟨w2 (Nat.le_refl _), q _ H2 (Post.after_i p (I.done hL p.s ok))⟩
def xRe (i : Nat) (f : XF) : XF := fun e => (f e).bind fun r e2 => .ok r (relock e e2 i)
theorem re_run {i : Nat} {f : XF} {Q : VK} (h : TD C W (xRe i f) σ H Q) : TD C W f σ H Q := by
  obtain ⟨e, Bx, s, q⟩ := h
  exact ⟨e, Bx, s, run_mono (bind_run q) (fun r e2 q v H' p => q v H' p.relock) fun _ z => z⟩
/-- the list that is walked, locked meanwhile -/
def xLk (lk : Option Nat) (f : XF) : XF := match lk with
  | none => f
  | some i => xRe i f
theorem lk_run {lk : Option Nat} {f : XF} {Q : VK} (h : TD C W (xLk lk f) σ H Q) : TD C W f σ H Q := by
  cases lk with
  | none => exact h
  | some i => exact re_run h
abbrev GTs (C : Ct) (X : Cx) (W : WX) (ifs : List Expr) (f : En → Res Bool) : Prop := PTs X ifs (TDt C W f)
def tTrue : En → Res Bool := fun e => .ok true e
theorem gts_nil : GTs C X W [] tTrue := ⟨fun pins s σ H Q I ⟨e, Bx, si, q⟩ => (pts_nil (X := X)).run pins s σ H Q I (q H ⟨.refl, .refl, si⟩)⟩
theorem gts_one {c : Expr} {f : En → Res Bool} (h : GT C X W c f) : GTs C X W [c] f := pts_one h
section
variable {elt tg iter : Expr} {ifs : List Expr} {scope : Scope} {own : List (Str × Nat)} {it : En → Res (List D)} {g : Rs → En → Option En} {tt : En → Res Bool} {te : XF} {lk : Option Nat}
theorem ge_lc (lk : Option Nat) (hc : X.calm = true) (hN : X.N.Nodup) (hi : GI C X W tg iter it) (ok : BlkOk X.N X.env.scope scope own)
    (hg : ∀ (s : Shared) (H : Hp) (A : Addr) (cl : List (Str × Addr)) (fp : List Addr), GG C (X.blk s H scope (compEnvC scope cl A X.env) fp) (oth X.N.length (own.map (·.2))) tg g)
    (ht : ∀ (s : Shared) (H : Hp) (A : Addr) (cl : List (Str × Addr)) (fp : List Addr), GTs C (X.blk s H scope (compEnvC scope cl A X.env) fp) W0 ifs tt)
    (he : ∀ (s : Shared) (H : Hp) (A : Addr) (cl : List (Str × Addr)) (fp : List Addr), GE C (X.blk s H scope (compEnvC scope cl A X.env) fp) W0 elt te) (hs : ∀ x, foldedSetIterable iter X.env x = pure x := by intro _; rfl) :
    GE C X W (.ListComp elt [⟨tg, iter, ifs, 0⟩] scope pos) (xLk lk (xLc it g tt te (own.map (·.2)))) :=
  ⟨fun pins s σ H Q I q => (pe_lc hc hN hi ok hg ht he hs).run pins s σ H Q I (lc_run I.len (lk_run q))⟩
theorem gv_run {i : Nat} {Q : L2.St → Hp → Prop} (hio : i ∉ io) (h : TDg C io (gV i) v σ H Q) : gName i v σ H Q := by
  obtain ⟨e, Bx, r, e', hh, hg, q⟩ := h
  refine q _ ?_
  unfold gV at hg
  split at hg
  · rename_i hl
    cases hg
    obtain ⟨d, fr⟩ := r
    cases fr with
    | false =>
      obtain ⟨s, rp⟩ := hh
      obtain ⟨s', wr, av⟩ := s.setSh hl rp
      exact ⟨s', fun a z => .inl (wr a z), fun a z => .inl (av a z), fun j m => st_set fun z => hio (z ▸ m), by simp⟩
    | true =>
      obtain ⟨p, rfl, nb, s, t⟩ := hh
      obtain ⟨s', wr, av⟩ := s.setOw nb hl t
      exact ⟨s', fun a z => (wr a z).imp id fun z => ⟨rfl, by rw [z]⟩, fun a z => (av a z).imp id fun z => ⟨rfl, by rw [z]⟩, fun j m => st_set fun z => hio (z ▸ m), by simp⟩
  · cases hg
theorem gs_setLc (lk : Option Nat) {i : Nat} {y : Str} {py spos : Pos} (hc : X.calm = true) (hN : X.N.Nodup) (hy : X.N[i]? = some y) (hyl : X.env.scope.names.lookup y = some .local) (hio : i ∉ io)
    (hsw : swapsWith (.ListComp elt [⟨tg, iter, ifs, 0⟩] scope pos) (some (.Name y py)) spos.line X.env = pure true) (hi : GI C X W tg iter it) (ok : BlkOk X.N X.env.scope scope own)
    (hg : ∀ (s : Shared) (H : Hp) (A : Addr) (cl : List (Str × Addr)) (fp : List Addr), GG C (X.blk s H scope (compEnvC scope cl A X.env) fp) (oth X.N.length (own.map (·.2))) tg g)
    (ht : ∀ (s : Shared) (H : Hp) (A : Addr) (cl : List (Str × Addr)) (fp : List Addr), GTs C (X.blk s H scope (compEnvC scope cl A X.env) fp) W0 ifs tt)
    (he : ∀ (s : Shared) (H : Hp) (A : Addr) (cl : List (Str × Addr)) (fp : List Addr), GE C (X.blk s H scope (compEnvC scope cl A X.env) fp) W0 elt te) (hs : ∀ x, foldedSetIterable iter X.env x = pure x := by intro _; rfl) :
    GS C X W io (.Assign [.Name y py] (.ListComp elt [⟨tg, iter, ifs, 0⟩] scope pos) spos) (sAsg (xLk lk (xLc it g tt te (own.map (·.2)))) (gV i)) :=
  ⟨fun pins s σ H Dd I q => (ps_setLc hc hN hy hyl hsw hi ok hg ht he hs).run pins s σ H Dd I (by
    have q' := asg_run q
    have q2 : TD C W (xLk lk (xLc it g tt te (own.map (·.2)))) σ H fun x H1 => gName i x σ H1 Dd.nx := by
      obtain ⟨e, Bx, s, q⟩ := q'
      exact ⟨e, Bx, s, run_mono q (fun r e1 q v H1 p => gv_run hio (q v H1 p)) fun _ z => z⟩
    exact lc_run I.len (lk_run q2))⟩
end
end
end G
end L2
namespace L2
namespace G
open PySem PySem.Spec PyProof.Rows

/-! ### functions -/
/-- the arguments as slots: an own list where the def writes -/
def slP : List Bool → List D → En
  | true :: ps, d :: ds => .ow true d :: slP ps ds
  | false :: ps, d :: ds => .sh d :: slP ps ds
  | _, _ => []
def backP : List Bool → En → En → Option En
  | true :: ps, _ :: e0, .ow true d :: eb => (backP ps e0 eb).map (.ow true d :: ·)
  | false :: ps, s :: e0, _ :: eb => (backP ps e0 eb).map (s :: ·)
  | [], _, _ => some []
  | _, _, _ => none
def ioP : Nat → List Bool → List Nat
  | _, [] => []
  | k, true :: ps => k :: ioP (k + 1) ps
  | k, false :: ps => ioP (k + 1) ps
/-- what a def's body makes of the arguments; n: the other names -/
def fnD (body : SF) (pat : List Bool) (n : Nat) : XF := fun e0 => match body (e0 ++ List.replicate n .un) with
  | .ok (.rt r) eb => (match backP pat e0 eb with | some e' => .ok r e' | none => .st)
  | .ok .nx eb => (match backP pat e0 eb with | some e' => .ok ⟨.none, false⟩ e' | none => .st)
  | .ex x => .ex x
  | _ => .st
/-- room for k calls, and no repr under way -/
structure Rm (k : Nat) (A : Around) : Prop where
  r : Room k A
  g : A.guards = some []
theorem Rm.mono {j k : Nat} {A : Around} (h : Rm k A) (hj : j ≤ k) : Rm j A := ⟨h.r.mono hj, h.g⟩
theorem Rm.deeper {k : Nat} {A : Around} (h : Rm (k + 1) A) (env : Env) : Rm k (A.deeper env) := ⟨h.r.deeper env, h.g⟩
/-- a def's promise where no repr is under way -/
structure FnG (P : Program) (w : World) (K : PySem.W.Frag) (mg : Str → Option Value) (base : Heap) (k : Nat) (f : Addr) (fd : FuncData) (ps : List Str) (sp : Sp) : Prop where
  len : ∀ vs H Q E, sp vs H Q E → vs.length = ps.length
  run : ∀ (A : Around) (outer : List Env) (s : Shared) (H : Hp) (args : Args) (us : List Value) (vs : List V) (Q : VK) (E : XK),
    Rm k A → Env0 P w K mg base A outer s H → BindsTo s fd args (ps.zip us) → Vals vs us → sp vs H Q E →
    codeAny (model P w) A (.call (.ref f) args) (CR (L2.CX P w) outer P w H s Q E) s
theorem FnG.mono {P : Program} {w : World} {K : PySem.W.Frag} {mg : Str → Option Value} {base : Heap} {j k : Nat} {f : Addr} {fd : FuncData} {ps : List Str} {sp : Sp} (F : FnG P w K mg base j f fd ps sp) (h : j ≤ k) : FnG P w K mg base k f fd ps sp :=
  ⟨F.len, fun A outer s H args us vs Q E hr => F.run A outer s H args us vs Q E (hr.mono h)⟩
theorem FnG.imp {P : Program} {w : World} {K : PySem.W.Frag} {mg : Str → Option Value} {base : Heap} {k : Nat} {f : Addr} {fd : FuncData} {ps : List Str} {sp sp' : Sp} (F : FnG P w K mg base k f fd ps sp) (h : ∀ vs H Q E, sp' vs H Q E → sp vs H Q E) : FnG P w K mg base k f fd ps sp' :=
  ⟨fun vs H Q E x => F.len vs H Q E (h _ _ _ _ x), fun A outer s H args us vs Q E hr e b r x => F.run A outer s H args us vs Q E hr e b r (h _ _ _ _ x)⟩
/-- from a def's body -/
theorem Fun.okG {P : Program} {w : World} {K : PySem.W.Frag} {mg : Str → Option Value} {base : Heap} {x qual : Str} {st : Stmt} {f : Addr} {fd : FuncData} {N ps : List Str} {k : Nat} {sp : Sp} (F : Fun K x qual st f fd) (S : FnScope N ps (defScope st)) (len : ∀ vs H Q E, sp vs H Q E → vs.length = ps.length)
    (hbody : ∀ (cdv : Value) (A : Around) (outer : List Env) (s : Shared) (H : Hp) (vs : List V) (Q : VK) (E : XK), Rm k (A.deeper (envOfC qual (defScope st) s.heap.objs.size f cdv)) → sp vs H Q E →
      ∃ t, PSs (cxOf (L2.CX P w) P w K mg base N qual (defScope st) f cdv A outer s H E) (defBody st) t ∧ t { nx := fun _ H' => Q .non H', rt := Q } (L2.start N vs) H) : FnG P w K mg base (k + 1) f fd ps sp := by
  obtain ⟨oc, od, kV, doc, pm, an, cdv, ct, osl, rfl, lk, hcd⟩ := F.ex
  constructor
  · exact len
  intro A outer s H args us vs Q E hr e0 hb r hsp
  have below : ∀ b o, base.get? b = some o → s.heap.get? b = some o := fun b o e => (e0.bs b o e).1
  have KX : K.In s.heap := e0.mod.kin.keeps below
  have hk : ∀ y ∈ ps.zip us, (defScope st).names.lookup y.1 = some .local ∨ ((defScope st).names.lookup y.1 = some .cell ∧
      ((cellsFrom (s.heap.objs.size + 1) (defScope st).names []).lookup y.1).isSome = true) := by
    rintro ⟨n, v⟩ hy
    have hm := (List.of_mem_zip hy).1
    exact (S.par n hm).imp id fun q => ⟨q, PySem.W.cellsFrom_some _ _ _ (.inl q)⟩
  apply codeAny_call_function hr.r.depth (KX _ _ lk) rfl S.co S.gen rfl
    (PySem.W.codeRec_of KX hcd)
  apply hb
  apply wpAny_newFunctionEnv_cells S.kind hk
  rintro env rfl s1 x
  refine ⟨(e0.mod.nolimit.keeps below).keeps x.toInCall.keep, ?_⟩
  apply codeAny_func
  obtain ⟨t, ht, hq⟩ := hbody cdv A outer s H vs Q E (hr.deeper _) hsp
  have I := inv_start (CX := L2.CX P w) (P := P) (w := w) (K := K) (mg := mg) (base := base) (qual := qual) (f := f) (cd := cdv) (E := E) S hr.r.hd e0 (len _ _ _ _ hsp) r x
  refine wpAny_mono (ht.run [] s1 (L2.start N vs) H _ I hq)
    (fun fl s' hs => ?_) fun _ _ z => z
  match fl, hs with
  | .ret u, ⟨v, σ', H', J, rv, q⟩ => exact ⟨v, H', J.os, J.bare, J.base, J.hok, rv, q⟩
  | .next, ⟨σ', H', J, q⟩ => exact ⟨.non, H', J.os, J.bare, J.base, J.hok, rfl, q⟩
  | .brk, ⟨_, _, _, q⟩ => exact q.elim
  | .cont, ⟨_, _, _, q⟩ => exact q.elim
theorem run_fnG {X : Cx} {k : Nat} {f : Addr} {fd : FuncData} {ps : List Str} {sp : Sp} {W : WX} {pins : List (Addr × Obj)} {σ : L2.St} {H : Hp} {s : Shared} {Q : VK} {us : List Value} {vs : List V} (F : FnG X.prog X.w X.K X.mg X.base k f fd ps sp) (hr : Rm k X.A) (hb : Binds X.K fd ps []) (tk : Takes X W)
    (I : Inv X pins σ H s) (r : Vals vs us) (h : sp vs H Q (WE W σ)) : wpAny (model X.prog X.w) X.A (call (.ref f) us) (EP X pins σ Q) X.xe s := by
  have b := hb s us I.kIn
  rw [List.append_nil] at b
  have b := b (by rw [← r.length]; exact F.len _ _ _ _ h)
  apply wpAny_call
  refine codeAny_mono (F.run X.A X.stack s H ⟨us, []⟩ us vs Q (WE W σ) hr I.env0 b r h) fun r s' hq => ?_
  match r, hq with
  | .error e, hq => exact passAt tk σ pins H s e s' I hq
  | .ok (.ret u), hq => exact I.after hq
theorem pe_callG {X : Cx} {k : Nat} {f : Addr} {fd : FuncData} {ps : List Str} {sp : Sp} {W : WX} {x : Str} {p pos : Pos} {e : Expr} {es : List Expr} {t : TA} (F : FnG X.prog X.w X.K X.mg X.base k f fd ps sp) (hr : Rm k X.A) (hg : Gl X x) (hm : X.mg x = some (.ref f)) (hk : PySem.W.keepIn X.K (.ref f) = true) (hb : Binds X.K fd ps []) (tk : Takes X W)
    (ha : PA X (e :: es) t) (hdb : (x == ("__debug__" : Str)) = false := by decide) (he : starEach (e :: es) X.env = (false, eval e X.env) :: starEach es X.env := by rfl) (hpl : (backTo pos (starEach es X.env)).any (·.1) = false := by rfl) :
    PE X (.Call (.Name x p) (e :: es) [] pos) (tCallS sp (WE W) t) :=
  ⟨fun pins s σ H Q I h => wpAny_Call_Name_kw (ld_glob I hg hm (PySem.W.callWith_K (h₀ := X.base) I.ok.mod.kin hk
    (thn (ha.run pos pins s σ H _ I h) fun us s1 ⟨vs, H1, I1, r, q⟩ => ⟨I1.kIn, run_fnG F hr hb tk I1 r q⟩) he hpl) hdb)⟩
/-- φ says what ψ says, or nothing -/
def Sub (φ ψ : XF) : Prop := ∀ e, φ e = .st ∨ φ e = ψ e
def spF (C : Ct) (pat : List Bool) (φ : XF) : Sp := fun vs H Q E => ∃ (ds : List D) (Bx : Addr → Prop), vs.length = pat.length ∧ ds.length = pat.length ∧ Sim C.K Bx (vs.map some) H (slP pat ds) ∧
  (φ (slP pat ds)).run (fun r e' => ∀ v H', Post C.K Bx (vs.map some) H (slP pat ds) r e' v H' → Q v H') (fun x => ∀ cls d H', ExR C x cls d H' → Fr (vs.map some) (slP pat ds) H H' → E cls d H')
/-- a def of the text that does what φ says, with at most k calls in one another -/
structure GF (C : Ct) (P : Program) (w : World) (mg : Str → Option Value) (base : Heap) (k : Nat) (x : Str) (pat : List Bool) (φ : XF) : Prop where
  ex : ∃ (f : Addr) (fd : FuncData) (ps : List Str), FnG P w C.K mg base k f fd ps (spF C pat φ) ∧ mg x = some (.ref f) ∧ PySem.W.keepIn C.K (.ref f) = true ∧ Binds C.K fd ps []
theorem GF.imp {C : Ct} {P : Program} {w : World} {mg : Str → Option Value} {base : Heap} {k j : Nat} {x : Str} {pat : List Bool} {φ ψ : XF} (h : GF C P w mg base k x pat ψ) (s : Sub φ ψ) (hk : k ≤ j) : GF C P w mg base j x pat φ := by
  obtain ⟨f, fd, ps, F, m, kp, b⟩ := h.ex
  refine ⟨f, fd, ps, (F.mono hk).imp fun vs H Q E ⟨ds, Bx, h1, h2, h3, h4⟩ => ⟨ds, Bx, h1, h2, h3, ?_⟩, m, kp, b⟩
  rcases s (slP pat ds) with z | z
  · rw [z] at h4; exact h4.elim
  · rw [← z]; exact h4

section
variable {C : Ct} {X : Cx} {W : WX} {K : PySem.W.Frag} {Bx S B : Addr → Prop} {io : List Nat} {σ σ' σ1 σ2 : L2.St} {H H' H1 H2 : Hp} {e0 e' e1 e2 : En} {e a b : Expr} {pos : Pos} {d : D} {v : V} {st : Stmt} {r : Rs} {p : Addr} {ds : List D} {xs : List V}

theorem slP_length : ∀ {pat : List Bool} {ds : List D}, ds.length = pat.length → (slP pat ds).length = pat.length
  | [], [], _ => rfl
  | true :: ps, d :: ds, h => by simp only [slP, List.length_cons] at *; rw [slP_length (by omega)]
  | false :: ps, d :: ds, h => by simp only [slP, List.length_cons] at *; rw [slP_length (by omega)]
  | [], d :: ds, h => by simp at h
  | _ :: _, [], h => by simp at h
theorem slP_get : ∀ {pat : List Bool} {ds : List D} {i : Nat} {y : Sl}, (slP pat ds)[i]? = some y → ∃ d, ds[i]? = some d ∧ ((pat[i]? = some true ∧ y = .ow true d) ∨ (pat[i]? = some false ∧ y = .sh d))
  | true :: ps, d :: ds, 0, y, h => by simp [slP] at h; exact ⟨d, rfl, .inl ⟨rfl, h.symm⟩⟩
  | false :: ps, d :: ds, 0, y, h => by simp [slP] at h; exact ⟨d, rfl, .inr ⟨rfl, h.symm⟩⟩
  | true :: ps, d :: ds, i + 1, y, h => by simp only [slP, List.getElem?_cons_succ] at *; exact slP_get h
  | false :: ps, d :: ds, i + 1, y, h => by simp only [slP, List.getElem?_cons_succ] at *; exact slP_get h
  | [], _, _, _, h => by simp [slP] at h
  | true :: _, [], _, _, h => by simp [slP] at h
  | false :: _, [], _, _, h => by simp [slP] at h
/-- all shared -/
theorem slP_all : ∀ {n : Nat} {ds : List D}, ds.length = n → slP (List.replicate n false) ds = ds.map .sh
  | 0, [], _ => rfl
  | n + 1, d :: ds, h => by simp only [List.replicate_succ, slP, List.map_cons]; rw [slP_all (by simpa using h)]
  | 0, _ :: _, h => by simp at h
  | n + 1, [], h => by simp at h
theorem backP_get : ∀ {pat : List Bool} {e0 eb e' : En} {i : Nat} {y : Sl}, backP pat e0 eb = some e' → e'[i]? = some y → (pat[i]? = some true ∧ ∃ d, y = .ow true d ∧ eb[i]? = some y) ∨ (pat[i]? = some false ∧ e0[i]? = some y)
  | true :: ps, _ :: e0, .ow true d :: eb, e', i, y, h, q => by
    unfold backP at h
    cases z : backP ps e0 eb with
    | none => rw [z] at h; cases h
    | some t =>
      rw [z] at h; cases h
      cases i with
      | zero => simp at q; subst q; exact .inl ⟨rfl, d, rfl, rfl⟩
      | succ i => simpa using backP_get z (by simpa using q)
  | false :: ps, s :: e0, _ :: eb, e', i, y, h, q => by
    unfold backP at h
    cases z : backP ps e0 eb with
    | none => rw [z] at h; cases h
    | some t =>
      rw [z] at h; cases h
      cases i with
      | zero => simp at q; subst q; exact .inr ⟨rfl, rfl⟩
      | succ i => simpa using backP_get z (by simpa using q)
  | [], _, _, e', i, y, h, q => by unfold backP at h; cases h; simp at q
  | true :: _, _, [], _, _, _, h, _ => by simp [backP] at h
  | true :: _, _, .un :: _, _, _, _, h, _ => by simp [backP] at h
  | true :: _, _, .sh _ :: _, _, _, _, h, _ => by simp [backP] at h
  | true :: _, _, .ow false _ :: _, _, _, _, h, _ => by simp [backP] at h
  | true :: _, [], .ow true _ :: _, _, _, _, h, _ => by simp [backP] at h
  | false :: _, [], _, _, _, _, h, _ => by simp [backP] at h
  | false :: _, _ :: _, [], _, _, _, h, _ => by simp [backP] at h
theorem backP_length : ∀ {pat : List Bool} {e0 eb e' : En}, backP pat e0 eb = some e' → e'.length = pat.length
  | true :: ps, _ :: e0, .ow true d :: eb, e', h => by
    unfold backP at h
    cases z : backP ps e0 eb with
    | none => rw [z] at h; cases h
    | some t => rw [z] at h; cases h; simp [backP_length z]
  | false :: ps, s :: e0, _ :: eb, e', h => by
    unfold backP at h
    cases z : backP ps e0 eb with
    | none => rw [z] at h; cases h
    | some t => rw [z] at h; cases h; simp [backP_length z]
  | [], _, _, e', h => by unfold backP at h; cases h; rfl
  | true :: _, _, [], _, h => by simp [backP] at h
  | true :: _, _, .un :: _, _, h => by simp [backP] at h
  | true :: _, _, .sh _ :: _, _, h => by simp [backP] at h
  | true :: _, _, .ow false _ :: _, _, h => by simp [backP] at h
  | true :: _, [], .ow true _ :: _, _, h => by simp [backP] at h
  | false :: _, [], _, _, h => by simp [backP] at h
  | false :: _, _ :: _, [], _, h => by simp [backP] at h
theorem ioP_mem : ∀ {pat : List Bool} {k i : Nat}, pat[i]? = some true → k + i ∈ ioP k pat
  | true :: ps, k, 0, _ => by simp [ioP]
  | true :: ps, k, i + 1, h => by
    have := ioP_mem (k := k + 1) (i := i) (pat := ps) (by simpa using h)
    simp only [ioP, List.mem_cons]; right
    rw [show k + (i + 1) = k + 1 + i by omega]; exact this
  | false :: ps, k, 0, h => by simp at h
  | false :: ps, k, i + 1, h => by
    have := ioP_mem (k := k + 1) (i := i) (pat := ps) (by simpa using h)
    simp only [ioP]
    rw [show k + (i + 1) = k + 1 + i by omega]; exact this
  | [], _, _, h => by simp at h

theorem app_look {i n : Nat} {y : Sl} (h : (e0 ++ List.replicate n Sl.un)[i]? = some y) : y = .un ∨ e0[i]? = some y := by
  rw [List.getElem?_append] at h
  split at h
  · exact .inr h
  · rw [List.getElem?_replicate] at h
    split at h
    · exact .inl (Option.some.inj h).symm
    · cases h
/-- a def's first state -/
theorem Sim.begin {vs : List V} {n : Nat} (s : Sim K Bx (vs.map some) H e0) : Sim K Bx (vs.map some ++ List.replicate n none) H (e0 ++ List.replicate n .un) ∧ (∀ a, Wr (vs.map some ++ List.replicate n none) (e0 ++ List.replicate n .un) a ↔ Wr (vs.map some) e0 a) ∧ ∀ a, Av (vs.map some ++ List.replicate n none) (e0 ++ List.replicate n .un) a ↔ Av (vs.map some) e0 a := by
  have lk : ∀ {i : Nat} {v : Option V}, e0[i]? ≠ none → ((vs.map some ++ List.replicate n none)[i]? = some v ↔ (vs.map some)[i]? = some v) := fun {i v} h => by
    have hl : i < (vs.map some).length := by
      rw [← s.len]
      rcases Nat.lt_or_ge i e0.length with z | z
      · exact z
      · exact absurd (List.getElem?_eq_none z) h
    rw [List.getElem?_append_left hl]
  have en : ∀ {i : Nat} {y : Sl}, e0[i]? = some y → (e0 ++ List.replicate n Sl.un)[i]? = some y := fun {i y} h => by
    rw [List.getElem?_append_left (en_lt h)]; exact h
  have nn : ∀ {i : Nat} {y : Sl}, e0[i]? = some y → e0[i]? ≠ none := fun h z => by rw [h] at z; cases z
  have wr : ∀ a, Wr (vs.map some ++ List.replicate n none) (e0 ++ List.replicate n .un) a ↔ Wr (vs.map some) e0 a := fun a => ⟨fun ⟨j, d', q1, q2⟩ => by
    rcases app_look q1 with z | z
    · cases z
    · exact ⟨j, d', z, (lk (nn z)).mp q2⟩, fun ⟨j, d', q1, q2⟩ => ⟨j, d', en q1, (lk (nn q1)).mpr q2⟩⟩
  have av : ∀ a, Av (vs.map some ++ List.replicate n none) (e0 ++ List.replicate n .un) a ↔ Av (vs.map some) e0 a := fun a => ⟨fun ⟨j, w, d', q1, q2⟩ => by
    rcases app_look q1 with z | z
    · cases z
    · exact ⟨j, w, d', z, (lk (nn z)).mp q2⟩, fun ⟨j, w, d', q1, q2⟩ => ⟨j, w, d', en q1, (lk (nn q1)).mpr q2⟩⟩
  have an : ∀ a, Avo Bx (vs.map some ++ List.replicate n none) (e0 ++ List.replicate n .un) a → Avo Bx (vs.map some) e0 a := fun a z => z.imp (av a).mp id
  refine ⟨⟨by simp [s.len], fun j d' q => ?_, fun j w d' q => ?_, fun j k w' w'' d' d'' a q1 q2 q3 q4 => ?_, s.bx, fun j lo hi q => (by
    rcases app_look q with z | z
    · cases z
    · obtain ⟨a, r1, r2⟩ := s.rg j lo hi z
      exact ⟨a, (lk (nn z)).mpr r1, r2⟩)⟩, wr, av⟩
  · rcases app_look q with z | z
    · cases z
    · obtain ⟨v, r1, r2⟩ := s.sh j d' z
      exact ⟨v, (lk (nn z)).mpr r1, r2.anti an⟩
  · rcases app_look q with z | z
    · cases z
    · obtain ⟨a, r1, r2, r3⟩ := s.ow j w d' z
      exact ⟨a, (lk (nn z)).mpr r1, r2, r3.anti an⟩
  · rcases app_look q1 with z | z
    · cases z
    · rcases app_look q2 with z' | z'
      · cases z'
      · exact s.inj j k _ _ _ _ a z z' ((lk (nn z)).mp q3) ((lk (nn z')).mp q4)
/-- a def's end -/
theorem fn_end {vs : List V} {n : Nat} {pat : List Bool} {eb : En} (hl : vs.length = pat.length) (s : Sim K Bx (vs.map some) H (slP pat ds)) (hb : backP pat (slP pat ds) eb = some e')
    (h : RPost K Bx (ioP 0 pat) (vs.map some ++ List.replicate n none) H (slP pat ds ++ List.replicate n .un) r σ' H' eb v) : Post K Bx (vs.map some) H (slP pat ds) r e' v H' := by
  obtain ⟨s0, wr0, av0⟩ := s.begin (n := n)
  have fr : Fr (vs.map some) (slP pat ds) H H' := h.k.anti fun a z => (wr0 a).mp z
  have io : ∀ {i : Nat}, pat[i]? = some true → σ'[i]? = (vs.map some)[i]? := fun {i} q => by
    have m := ioP_mem (k := 0) q
    rw [Nat.zero_add] at m
    rw [h.io i m, List.getElem?_append_left]
    have := (List.getElem?_eq_some_iff.mp q).1
    simp; omega
  -- an own slot of e' is one of eb, at the same address
  have ow : ∀ {i : Nat} {w : Bool} {d : D}, e'[i]? = some (Sl.ow w d) → eb[i]? = some (Sl.ow w d) ∧ w = true ∧ σ'[i]? = (vs.map some)[i]? ∧ pat[i]? = some true := fun {i w d} q => by
    rcases backP_get hb q with ⟨z1, d', z2, z3⟩ | ⟨z1, z2⟩
    · cases z2; exact ⟨z3, rfl, io z1, z1⟩
    · obtain ⟨d', _, z | z⟩ := slP_get z2
      · rw [z1] at z; cases z.1
      · cases z.2
  have toEb : ∀ a, Av (vs.map some) e' a → Av σ' eb a := fun a ⟨j, w, d', q1, q2⟩ => by
    obtain ⟨z1, z2, z3, _⟩ := ow q1
    exact ⟨j, w, d', z1, by rw [z3]; exact q2⟩
  have to0 : ∀ a, Av (vs.map some) e' a → Wr (vs.map some) (slP pat ds) a := fun a ⟨j, w, d', q1, q2⟩ => by
    obtain ⟨_, _, _, z4⟩ := ow q1
    have : ∃ d0, (slP pat ds)[j]? = some (.ow true d0) := by
      rcases backP_get hb q1 with ⟨z1, _⟩ | ⟨z1, z2⟩
      · have hj : j < (slP pat ds).length := by
          rw [s.len]
          have := (List.getElem?_eq_some_iff.mp q2).1
          exact this
        obtain ⟨d0, _, z | z⟩ := slP_get (List.getElem?_eq_getElem hj)
        · exact ⟨d0, by rw [List.getElem?_eq_getElem hj, z.2]⟩
        · rw [z4] at z; cases z.1
      · rw [z4] at z1; cases z1
    obtain ⟨d0, z⟩ := this
    exact ⟨j, d0, z, q2⟩
  have le : Le (vs.map some) (slP pat ds) e' := ⟨fun a z => to0 a z.av, fun a z => (to0 a z).av⟩
  have len : e'.length = (vs.map some).length := by rw [backP_length hb, List.length_map, hl]
  have body : ∀ (By : Addr → Prop), (∀ a, By a → H a ≠ none → Bx a) → Sim K By σ' H' eb → Sim K By (vs.map some) H' e' := fun By hy sb => by
    have an : ∀ a, Avo By (vs.map some) e' a → Avo By σ' eb a := fun a z => z.imp (toEb a) id
    refine ⟨len, fun j d' q => ?_, fun j w d' q => ?_, fun j k w' w'' d' d'' a q1 q2 q3 q4 => ?_, sb.bx, fun j lo hi q => (by
      rcases backP_get hb q with ⟨_, d2, z2, _⟩ | ⟨z1, z2⟩
      · cases z2
      · obtain ⟨a, r1, r2⟩ := s.rg j lo hi z2
        exact ⟨a, r1, fr.rng _ _ _ r2⟩)⟩
    · rcases backP_get hb q with ⟨_, d2, z2, _⟩ | ⟨z1, z2⟩
      · cases z2
      · obtain ⟨v, r1, r2⟩ := s.sh j d' z2
        exact ⟨v, r1, r2.go (fr.anti fun a z => .inl z.av) fun a z n => z.elim (fun z => .inl (to0 a z).av) fun z => .inr (hy a z n)⟩
    · obtain ⟨z1, _, z3, _⟩ := ow q
      obtain ⟨a, r1, r2, r3⟩ := sb.ow j w d' z1
      exact ⟨a, by rw [← z3]; exact r1, r2, r3.anti an⟩
    · obtain ⟨z1, _, z3, _⟩ := ow q1
      obtain ⟨y1, _, y3, _⟩ := ow q2
      exact sb.inj j k _ _ _ _ a z1 y1 (by rw [z3]; exact q3) (by rw [y3]; exact q4)
  obtain ⟨dd, fr'⟩ := r
  have hi := h.is
  cases fr' with
  | false =>
    obtain ⟨sb, rp⟩ := hi
    exact .mk0 fr le (body Bx (fun _ z _ => z) sb) (rp.anti fun a z => z.imp (toEb a) id)
  | true =>
    obtain ⟨p, rfl, nb, sb, t⟩ := hi
    have np : H p = none := by
      rcases h.new rfl p rfl with z | z
      · obtain ⟨j, d', q1, q2⟩ := (wr0 p).mp z
        obtain ⟨d0, _, y | y⟩ := slP_get q1
        · -- an own argument: it stands at the end, p is another
          have hj : j < e'.length := by rw [len]; exact (List.getElem?_eq_some_iff.mp q2).1
          have g := List.getElem?_eq_getElem hj
          rcases backP_get hb g with ⟨z1, d2, z2, z3⟩ | ⟨z1, _⟩
          · rw [z2] at z3
            obtain ⟨a, r1, r2, _⟩ := sb.ow j true d2 z3
            rw [io z1, q2] at r1; cases r1
            exact absurd (.inr rfl) r2
          · rw [y.1] at z1; cases z1
        · cases y.2
      · exact z
    refine ⟨fr, le, ⟨p, rfl, nb, body (ad Bx p) (fun a z n => ?_) sb, t.anti fun a z => z.imp (toEb a) id⟩, fun _ _ z => by cases z; exact np⟩
    rcases z with z | z
    · exact z
    · rw [z] at n; exact absurd np n
/-- THE RULE of a def -/
theorem gf_mk {P : Program} {w : World} {mg : Str → Option Value} {base : Heap} {k : Nat} {x qual : Str} {f : Addr} {fd : FuncData} {N ps : List Str} {pat : List Bool} {body : SF} (F : Fun C.K x qual st f fd) (hm : mg x = some (.ref f)) (bd : Binds C.K fd ps []) (Sc : FnScope N ps (defScope st)) (hp : ps.length = pat.length)
    (hb : ∀ (cdv : Value) (A : Around) (outer : List Env) (s : Shared) (H : Hp) (E : XK), Rm k (A.deeper (envOfC qual (defScope st) s.heap.objs.size f cdv)) →
      GSs C (cxOf (L2.CX P w) P w C.K mg base N qual (defScope st) f cdv A outer s H E) (fun cls d _ H => E cls d H) (ioP 0 pat) (defBody st) body) : GF C P w mg base (k + 1) x pat (fnD body pat (N.length - ps.length)) := by
  refine ⟨f, fd, ps, Fun.okG F Sc (fun vs H Q E ⟨ds, Bx, h1, _⟩ => by rw [h1, hp]) (fun cdv A outer s H vs Q E hr ⟨ds, Bx, h1, h2, h3, h4⟩ => ⟨_, hb cdv A outer s H E hr, ?_⟩), hm, F.kp, bd⟩
  have hn : N.length - vs.length = N.length - ps.length := by rw [h1, hp]
  obtain ⟨s0, wr0, av0⟩ := h3.begin (n := N.length - ps.length)
  refine ⟨slP pat ds ++ List.replicate (N.length - ps.length) .un, Bx, by unfold L2.start; rw [hn]; exact s0, ?_⟩
  unfold L2.start
  rw [hn]
  unfold fnD at h4
  cases z : body (slP pat ds ++ List.replicate (N.length - ps.length) .un) with
  | st => rw [z] at h4; exact h4.elim
  | ex y =>
    rw [z] at h4
    exact fun cls d σ' H' _ r q => h4 cls d H' r (q.anti fun a z => (wr0 a).mp z)
  | ok fl eb =>
    rw [z] at h4
    cases fl with
    | ct => exact h4.elim
    | rt r =>
      dsimp only at h4
      cases y : backP pat (slP pat ds) eb with
      | none => rw [y] at h4; exact h4.elim
      | some e' =>
        rw [y] at h4
        exact fun σ' v H' p => h4 v H' (fn_end h1 h3 y p)
    | nx =>
      dsimp only at h4
      cases y : backP pat (slP pat ds) eb with
      | none => rw [y] at h4; exact h4.elim
      | some e' =>
        rw [y] at h4
        exact fun σ' H' p => h4 .non H' (fn_end h1 h3 y ⟨p.k, p.av, ⟨p.s, .non⟩, (fun z => nomatch z), p.io⟩)
end
end G
end L2
namespace L2
namespace G
open PySem PySem.Spec PyProof.Rows
section
variable {C : Ct} {X : Cx} {W : WX} {K : PySem.W.Frag} {Bx By S B : Addr → Prop} {io : List Nat} {σ σ' σ1 σ2 : L2.St} {H H' H1 H2 : Hp} {e0 e' e1 e2 : En} {e a b : Expr} {pos : Pos} {d d' : D} {v : V} {st : Stmt} {r : Rs} {p : Addr} {ds : List D} {xs : List V}

/-- the heap turns at p alone, the own list i; more may be avoided, if it is new -/
theorem Sim.turn {i : Nat} {w : Bool} (s : Sim K Bx σ H e0) (h : e0[i]? = some (Sl.ow w d)) (hp : σ[i]? = some (some (V.ref p))) (kp : Kp (· = p) H H') (hy : ∀ a, By a → H a ≠ none → Bx a) (hz : ∀ a, By a → H' a ≠ none) (nb : ¬ By p)
    (t : Top K H' (Avo By σ e0) p d') : Sim K By σ H' (e0.set i (.ow true d')) ∧ ∀ a, Av σ (e0.set i (.ow true d')) a → Av σ e0 a := by
  have pa : Av σ e0 p := ⟨i, w, d, h, hp⟩
  have fa : Kp (Avo Bx σ e0) H H' := kp.anti fun a z => by rw [z]; exact .inl pa
  have av : ∀ a, Av σ (e0.set i (.ow true d')) a → Av σ e0 a := fun a ⟨j, w', d', h1, h2⟩ => by
    rcases set_look h1 with ⟨rfl, z⟩ | ⟨_, z⟩
    · rw [hp] at h2; cases h2; exact pa
    · exact ⟨j, w', d', z, h2⟩
  have an : ∀ a, Avo By σ (e0.set i (.ow true d')) a → H a ≠ none → Avo Bx σ e0 a := fun a z n => z.elim (fun z => .inl (av a z)) fun z => .inr (hy a z n)
  refine ⟨⟨by rw [List.length_set]; exact s.len, fun j d' h1 => ?_, fun j w' d' h1 => ?_, fun j k w' w'' da db a h1 h2 h3 h4 => ?_, hz, fun j lo hi h1 => (by
    rcases set_look h1 with ⟨_, z⟩ | ⟨_, z⟩
    · cases z
    · obtain ⟨a, r1, r2⟩ := s.rg j lo hi z
      exact ⟨a, r1, kp.rng _ _ _ r2⟩)⟩, av⟩
  · rcases set_look h1 with ⟨rfl, z⟩ | ⟨_, z⟩
    · cases z
    · obtain ⟨v, r1, r2⟩ := s.sh j d' z
      exact ⟨v, r1, r2.go fa an⟩
  · rcases set_look h1 with ⟨rfl, z⟩ | ⟨n, z⟩
    · cases z; exact ⟨p, hp, nb, t.anti fun a z => z.imp (av a) id⟩
    · obtain ⟨a, r1, r2, r3⟩ := s.ow j w' d' z
      have na : a ≠ p := fun q => by subst q; exact n (s.inj j i _ _ _ _ a z h r1 hp)
      refine ⟨a, r1, fun q => r2 (hy a q (s.there ⟨j, w', d', z, r1⟩)), r3.go fa an fun o q => kp.keep a o q na⟩
  · have key : ∀ {j w d}, (e0.set i (.ow true d'))[j]? = some (Sl.ow w d) → ∃ w' d', e0[j]? = some (Sl.ow w' d') := fun {j w d} h => by
      rcases set_look h with ⟨rfl, _⟩ | ⟨_, z⟩
      · exact ⟨_, _, by assumption⟩
      · exact ⟨_, _, z⟩
    obtain ⟨_, _, k1⟩ := key h1
    obtain ⟨_, _, k2⟩ := key h2
    exact s.inj j k _ _ _ _ a k1 k2 h3 h4
/-- all is kept; more may be avoided, if it is new -/
theorem Sim.grow (s : Sim K Bx σ H e0) (kp : Kp (fun _ => False) H H') (hy : ∀ a, By a → H a ≠ none → Bx a) (hz : ∀ a, By a → H' a ≠ none) : Sim K By σ H' e0 := by
  have fa : ∀ {B}, Kp B H H' := kp.anti fun _ z => z.elim
  have an : ∀ a, Avo By σ e0 a → H a ≠ none → Avo Bx σ e0 a := fun a z n => z.elim .inl fun z => .inr (hy a z n)
  refine ⟨s.len, fun j d' h1 => ?_, fun j w' d' h1 => ?_, s.inj, hz, fun j lo hi h1 => (let ⟨a, r1, r2⟩ := s.rg j lo hi h1; ⟨a, r1, kp.rng _ _ _ r2⟩)⟩
  · obtain ⟨v, r1, r2⟩ := s.sh j d' h1
    exact ⟨v, r1, r2.go fa an⟩
  · obtain ⟨a, r1, r2, r3⟩ := s.ow j w' d' h1
    exact ⟨a, r1, fun q => r2 (hy a q (s.there ⟨j, w', d', h1, r1⟩)), r3.go fa an fun o q => kp.keep a o q fun z => z⟩
theorem map_get {i : Nat} {y : Sl} (h : (ds.map Sl.sh)[i]? = some y) : ∃ d, y = .sh d ∧ ds[i]? = some d := by
  rw [List.getElem?_map] at h
  cases z : ds[i]? with
  | none => rw [z] at h; cases h
  | some d => rw [z] at h; cases h; exact ⟨d, rfl, rfl⟩
theorem av_sh {a : Addr} (h : Av σ (ds.map Sl.sh) a) : False := by
  obtain ⟨i, w, d, h1, _⟩ := h
  obtain ⟨_, z, _⟩ := map_get h1
  cases z
/-- shared arguments -/
theorem Sim.args (rs : Reps K H B xs ds) (hb : ∀ a, B a → H a ≠ none) : Sim K B (xs.map some) H (ds.map .sh) := by
  refine ⟨by simp [rs.length], fun j d' h1 => ?_, fun j w' d' h1 => ?_, fun j k w' w'' d' d'' a h1 h2 h3 h4 => ?_, hb, fun j lo hi h1 => (by obtain ⟨_, z, _⟩ := map_get h1; cases z)⟩
  · obtain ⟨d, z, y⟩ := map_get h1
    cases z
    obtain ⟨v, r1, r2⟩ := rs.getD y
    exact ⟨v, by rw [List.getElem?_map, r1]; rfl, r2.anti fun a z => z.elim (fun z => (av_sh z).elim) id⟩
  · obtain ⟨_, z, _⟩ := map_get h1
    cases z
  · obtain ⟨_, z, _⟩ := map_get h1
    cases z
/-- f(..), all arguments handed on -/
def xCall0 (n : Nat) (φ : XF) (g : En → Res (List D)) : XF := fun e => (g e).bind fun ds e1 => if ds.length = n then (match φ (ds.map .sh) with
  | .ok r _ => .ok r e1
  | .ex x => .ex x
  | .st => .st) else .st
theorem call0_run {n : Nat} {φ : XF} {g : En → Res (List D)} {Q : VK} (h : TD C W (xCall0 n φ g) σ H Q) : tCallS (spF C (List.replicate n false) φ) (WE W) (TDa C W g) σ H Q := by
  obtain ⟨e, Bx, s, q⟩ := h
  refine ⟨e, Bx, s, run_mono (bind_run q) (fun ds e1 q vs H1 p => ?_) fun _ z => z⟩
  split at q
  case isFalse => exact q.elim
  rename_i hl
  have hs : slP (List.replicate n false) ds = ds.map .sh := slP_all hl
  refine ⟨ds, Avo Bx σ e1, by rw [List.length_replicate, ← hl, p.r.length], by rw [List.length_replicate, hl], by rw [hs]; exact .args p.r fun a z => p.s.avo_there z, ?_⟩
  rw [hs]
  have none_wr : ∀ {B : Addr → Prop} a, Wr (vs.map some) (ds.map Sl.sh) a → B a := fun a z => (av_sh z.av).elim
  cases z : φ (ds.map .sh) with
  | st => rw [z] at q; exact q.elim
  | ex x =>
    rw [z] at q
    exact fun cls d H' r f => q cls d σ H' rfl r (p.fr.trans p.le (f.anti none_wr))
  | ok r ec =>
    rw [z] at q
    intro v H2 pc
    have k : Kp (fun _ => False) H1 H2 := pc.fr.anti none_wr
    refine q v H2 (Post.after_a p ⟨k.anti fun _ z => z.elim, .refl, ?_, pc.new⟩)
    obtain ⟨dd, fr⟩ := r
    have hi := pc.is
    have avc : ∀ a, Av (vs.map some) ec a → False := fun a z => av_sh (pc.le.av a z)
    cases fr with
    | false =>
      obtain ⟨sc, rp⟩ := hi
      exact ⟨p.s.grow k (fun _ z _ => z) fun a z => k.there a (p.s.bx a z), rp.anti fun a z => .inr z⟩
    | true =>
      obtain ⟨p', e, nb, sc, t⟩ := hi
      have np := pc.new rfl p' e
      refine ⟨p', e, fun z => nb (.inr z), p.s.grow k (fun a z n => ?_) fun a z => ?_, t.anti fun a z => ?_⟩
      · rcases z with z | z
        · exact z
        · rw [z] at n; exact absurd np n
      · rcases z with z | z
        · exact k.there a (p.s.bx a z)
        · rw [z]; exact sc.bx p' (.inr rfl)
      · rcases z with z | z | z
        · exact .inr (.inl (.inl z))
        · exact .inr (.inl (.inr z))
        · exact .inr (.inr z)
theorem ge_call0 {k n : Nat} {φ : XF} {x : Str} {np : Pos} {as : List Expr} {g : En → Res (List D)} (F : GF C X.prog X.w X.mg X.base k x (List.replicate n false) φ) (hK : X.K = C.K) (tk : Takes X W) (hr : Rm k X.A) (hg : Gl X x) (ha : GA C X W (a :: as) g) (hdb : (x == ("__debug__" : Str)) = false := by decide)
    (he : starEach (a :: as) X.env = (false, eval a X.env) :: starEach as X.env := by rfl) (hpl : (backTo pos (starEach as X.env)).any (·.1) = false := by rfl) : GE C X W (.Call (.Name x np) (a :: as) [] pos) (xCall0 n φ g) := by
  obtain ⟨f, fd, ps, Fk, hm, kp, b⟩ := F.ex
  rw [← hK] at Fk kp b
  exact pe_imp (pe_callG Fk hr hg hm kp b tk ha hdb he hpl) fun σ H Q h => call0_run h
/-- f(x, ..), x an own list that f writes, the others handed on -/
def xCallD (i n : Nat) (φ : XF) (g : En → Res (List D)) : XF := fun e => if (ownL i e).isSome then (g e).bind fun ds e1 => (if ds.length = n then (match ownL i e1 with
  | some d0 => (match φ (.ow true (.list d0) :: ds.map .sh) with
    | .ok r (.ow true (.list d1) :: _) => .ok r (e1.set i (.ow true (.list d1)))
    | .ok _ _ => .st
    | .ex x => .ex x
    | .st => .st)
  | none => .st) else .st) else .st
theorem callD_run {i n : Nat} {φ : XF} {g : En → Res (List D)} {Q : VK} (h : TD C W (xCallD i n φ g) σ H Q) : tCallS (spF C (true :: List.replicate n false) φ) (WE W) (tCons (tVar i) (TDa C W g)) σ H Q := by
  obtain ⟨e, Bx, s, q⟩ := h
  unfold xCallD at q
  split at q
  case isFalse => exact q.elim
  rename_i hs
  obtain ⟨d00, hd0⟩ := Option.isSome_iff_exists.mp hs
  obtain ⟨p0, _, _, z2, _, _⟩ := s.own hd0
  refine ⟨_, z2, e, Bx, s, run_mono (bind_run q) (fun ds e1 q vs H1 p => ?_) fun _ z => z⟩
  split at q
  case isFalse => exact q.elim
  rename_i hl
  cases w : ownL i e1 with
  | none => rw [w] at q; exact q.elim
  | some d0 =>
    rw [w] at q
    dsimp only at q
    obtain ⟨p', xs, w1, w2, w3, w4⟩ := p.s.own w
    rw [z2] at w2; cases w2
    have hsl : slP (true :: List.replicate n false) (.list d0 :: ds) = .ow true (.list d0) :: ds.map .sh := by simp only [slP]; rw [slP_all hl]
    have wrp : Wr σ e1 p0 := ⟨i, _, w1, z2⟩
    obtain ⟨q0, r1, r2, r3⟩ := p.s.ow i true _ w1
    rw [z2] at r1; cases r1
    -- the callee's own address
    have wc : ∀ a, Av ((V.ref p0 :: vs).map some) (Sl.ow true (.list d0) :: ds.map Sl.sh) a → a = p0 := fun a ⟨j, w', d', y1, y2⟩ => by
      cases j with
      | zero => simp at y2; exact y2.symm
      | succ j =>
        rw [List.getElem?_cons_succ] at y1
        obtain ⟨_, y, _⟩ := map_get y1
        cases y
    have cw : Wr ((V.ref p0 :: vs).map some) (Sl.ow true (.list d0) :: ds.map Sl.sh) p0 := ⟨0, _, rfl, rfl⟩
    have sc : Sim C.K (fun a => Avo Bx σ e1 a ∧ a ≠ p0) ((V.ref p0 :: vs).map some) H1 (.ow true (.list d0) :: ds.map .sh) := by
      have an : ∀ a, Avo (fun a => Avo Bx σ e1 a ∧ a ≠ p0) ((V.ref p0 :: vs).map some) (Sl.ow true (.list d0) :: ds.map Sl.sh) a → Avo Bx σ e1 a := fun a z => z.elim (fun z => by rw [wc a z]; exact .inl wrp.av) fun z => z.1
      refine ⟨by simp [p.r.length], fun j d' y => ?_, fun j w' d' y => ?_, fun j k w' w'' d' d'' a y1 y2 y3 y4 => ?_, fun a z => p.s.avo_there z.1, fun j lo hi y => (by
        cases j with
        | zero => cases y
        | succ j =>
          rw [List.getElem?_cons_succ] at y
          obtain ⟨_, z, _⟩ := map_get y
          cases z)⟩
      · cases j with
        | zero => cases y
        | succ j =>
          rw [List.getElem?_cons_succ] at y
          obtain ⟨d, z, y⟩ := map_get y
          cases z
          obtain ⟨v, t1, t2⟩ := p.r.getD y
          exact ⟨v, by rw [List.map_cons, List.getElem?_cons_succ, List.getElem?_map, t1]; rfl, t2.anti an⟩
      · cases j with
        | zero => cases y; exact ⟨p0, rfl, fun z => z.2 rfl, r3.anti an⟩
        | succ j =>
          rw [List.getElem?_cons_succ] at y
          obtain ⟨_, z, _⟩ := map_get y
          cases z
      · cases j with
        | zero =>
          cases k with
          | zero => rfl
          | succ k =>
            rw [List.getElem?_cons_succ] at y2
            obtain ⟨_, z, _⟩ := map_get y2
            cases z
        | succ j =>
          rw [List.getElem?_cons_succ] at y1
          obtain ⟨_, z, _⟩ := map_get y1
          cases z
    refine ⟨.list d0 :: ds, _, by simp [p.r.length, hl], by simp [hl], by rw [hsl]; exact sc, ?_⟩
    rw [hsl]
    have kc : ∀ {H'}, Fr ((V.ref p0 :: vs).map some) (Sl.ow true (.list d0) :: ds.map Sl.sh) H1 H' → Kp (· = p0) H1 H' := fun f => f.anti fun a z => wc a z.av
    have kf : ∀ {H'}, Kp (· = p0) H1 H' → Fr σ e1 H1 H' := fun k => k.anti fun a z => by rw [z]; exact wrp
    cases z : φ (.ow true (.list d0) :: ds.map .sh) with
    | st => rw [z] at q; exact q.elim
    | ex x =>
      rw [z] at q
      exact fun cls d H' r f => q cls d σ H' rfl r (p.fr.trans p.le (kf (kc f)))
    | ok r ec =>
      rw [z] at q
      intro v H2 pc
      have k := kc pc.fr
      split at q
      case h_2 => exact q.elim
      case h_3 => rename_i y; cases y
      case h_4 => rename_i y; cases y
      rename_i r' d1 er y
      cases y
      refine q v H2 (Post.after_a p ?_)
      have hi := pc.is
      have key : ∀ By : Addr → Prop, (∀ a, By a → H1 a ≠ none → Bx a) → ∀ Bc : Addr → Prop, Sim C.K Bc ((V.ref p0 :: vs).map some) H2 (.ow true (.list d1) :: er) → (∀ a, By a → Bc a ∨ a = p0) → (∀ a, Avo Bx σ e1 a → a ≠ p0 → Bc a) → ¬ By p0 → (∀ a, By a → H2 a ≠ none) →
          Sim C.K By σ H2 (e1.set i (.ow true (.list d1))) ∧ ∀ a, Av σ (e1.set i (.ow true (.list d1))) a → Av σ e1 a := fun By hy Bc sx h1 h2 nb hz => by
        obtain ⟨q1, t1, t2, t3⟩ := sx.ow 0 true _ rfl
        cases t1
        refine p.s.turn w1 z2 k hy hz nb (t3.anti fun a z => ?_)
        by_cases ea : a = p0
        · subst ea; exact .inl ⟨0, true, _, rfl, rfl⟩
        · rcases z with z | z
          · exact .inr (h2 a (.inl z) ea)
          · rcases h1 a z with z | z
            · exact .inr z
            · exact absurd z ea
      have wrl : ∀ {e2 : En}, (∀ a, Av σ e2 a → Av σ e1 a) → e2 = e1.set i (.ow true (.list d1)) → Le σ e1 e2 := fun {e2} av he => ⟨fun a ⟨j, d', y1, y2⟩ => by
        subst he
        rcases set_look y1 with ⟨rfl, _⟩ | ⟨_, y⟩
        · exact ⟨j, _, w1, y2⟩
        · exact ⟨j, d', y, y2⟩, av⟩
      obtain ⟨dd, fr⟩ := r
      cases fr with
      | false =>
        obtain ⟨sx, rp⟩ := hi
        obtain ⟨s2, av⟩ := key Bx (fun _ z _ => z) _ sx (fun a z => by
          by_cases ea : a = p0
          · exact .inr ea
          · exact .inl ⟨.inr z, ea⟩) (fun a z n => ⟨z, n⟩) r2 fun a z => k.there a (p.s.bx a z)
        refine .mk0 (kf k) (wrl av rfl) s2 (rp.anti fun a z => ?_)
        by_cases ea : a = p0
        · subst ea; exact .inl ⟨0, true, _, rfl, rfl⟩
        · exact .inr ⟨z.imp (av a) id, ea⟩
      | true =>
        obtain ⟨p', ev, nb, sx, t⟩ := hi
        have np := pc.new rfl p' ev
        have ne : p' ≠ p0 := fun z => by rw [z, w3] at np; cases np
        obtain ⟨s2, av⟩ := key (ad Bx p') (fun a z n => z.elim id fun z => absurd np (by rw [z] at n; exact n)) _ sx (fun a z => by
          by_cases ea : a = p0
          · exact .inr ea
          · exact .inl (z.imp (fun z => ⟨.inr z, ea⟩) id)) (fun a z n => .inl ⟨z, n⟩) (fun z => z.elim r2 fun z => ne z.symm) fun a z => z.elim (fun z => k.there a (p.s.bx a z)) fun z => by rw [z]; exact sx.bx p' (.inr rfl)
        refine ⟨kf k, wrl av rfl, ⟨p', ev, fun z => p.s.bx p' z np, s2, t.anti fun a z => ?_⟩, pc.new⟩
        by_cases ea : a = p0
        · subst ea; exact .inl ⟨0, true, _, rfl, rfl⟩
        · rcases z with z | z | z
          · exact .inr (.inl ⟨.inl (av a z), ea⟩)
          · exact .inr (.inl ⟨.inr z, ea⟩)
          · exact .inr (.inr z)
theorem ge_callD {i k n : Nat} {φ : XF} {x y : Str} {np yp : Pos} {as : List Expr} {g : En → Res (List D)} (F : GF C X.prog X.w X.mg X.base k x (true :: List.replicate n false) φ) (hK : X.K = C.K) (tk : Takes X W) (hr : Rm k X.A) (hg : Gl X x) (hN : X.N[i]? = some y) (hv : Vis X.env.scope y) (ha : GA C X W as g) (hdb : (x == ("__debug__" : Str)) = false := by decide)
    (hd : (y == ("__debug__" : Str)) = false := by decide) (hcd : (y == ("__classdict__" : Str)) = false := by decide)
    (he : starEach (.Name y yp :: as) X.env = (false, eval (.Name y yp) X.env) :: starEach as X.env := by rfl) (hpl : (backTo pos (starEach as X.env)).any (·.1) = false := by rfl) : GE C X W (.Call (.Name x np) (.Name y yp :: as) [] pos) (xCallD i n φ g) := by
  obtain ⟨f, fd, ps, Fk, hm, kp, b⟩ := F.ex
  rw [← hK] at Fk kp b
  exact pe_imp (pe_callG Fk hr hg hm kp b tk (pa_cons (pe_var hN hv hd hcd) ha he) hdb he hpl) fun σ H Q h => callD_run h
end
end G
end L2
namespace L2
namespace G
open PySem PySem.Spec PyProof.Rows
section
variable {C : Ct} {X : Cx} {W : WX} {K : PySem.W.Frag} {Bx By S B : Addr → Prop} {io : List Nat} {σ σ' σ1 σ2 : L2.St} {H H' H1 H2 : Hp} {e0 e' e1 e2 : En} {e a b : Expr} {pos : Pos} {d d' : D} {v : V} {st : Stmt} {r : Rs} {p : Addr} {ds : List D} {xs : List V}

/-! ### operations -/
abbrev si (i : Int) : Option Rs := some ⟨.int i, false⟩
abbrev sb (b : Bool) : Option Rs := some ⟨.bool b, false⟩
theorem post_i {i : Int} (s : Sim K Bx σ H e0) : Post K Bx σ H e0 ⟨.int i, false⟩ e0 (.int i) H := .same s (.int i)
theorem post_b {i : Bool} (s : Sim K Bx σ H e0) : Post K Bx σ H e0 ⟨.bool i, false⟩ e0 (.bl i) H := .same s (.bl i)
theorem post_s {i : Str} (s : Sim K Bx σ H e0) : Post K Bx σ H e0 ⟨.str i, false⟩ e0 (.str i) H := .same s (.str i)
theorem post_n (s : Sim K Bx σ H e0) : Post K Bx σ H e0 ⟨.none, false⟩ e0 .non H := .same s .non
/-- ints under a condition -/
def fII (c : Int → Int → Bool) (g : Int → Int → Int) : D → D → Option Rs
  | .int i, .int j => if c i j then si (g i j) else none
  | _, _ => none
theorem okI {c : Int → Int → Bool} {g : Int → Int → Int} {Cd : Int → Int → Prop} (hc : ∀ i j, c i j = true → Cd i j) : OpOk C (fII c g) (rI Cd fun i j => .int (g i j)) := by
  intro Bx σ H e0 d1 d2 v1 v2 z Q hz s o1 o2 q
  unfold fII at hz
  split at hz
  · rename_i i j
    split at hz
    · rename_i h
      cases hz
      exact ⟨i, j, o1.int, o2.int, hc i j h, q _ _ (post_i s)⟩
    · cases hz
  · cases hz
theorem okI0 {g : Int → Int → Int} : OpOk C (fII (fun _ _ => true) g) (rI0 fun i j => .int (g i j)) := by
  intro Bx σ H e0 d1 d2 v1 v2 z Q hz s o1 o2 q
  unfold fII at hz
  split at hz
  · rename_i i j
    cases hz
    exact ⟨i, j, o1.int, o2.int, q _ _ (post_i s)⟩
  · cases hz
def fIB (g : Int → Int → Bool) : D → D → Option Rs
  | .int i, .int j => sb (g i j)
  | _, _ => none
theorem okB {g : Int → Int → Bool} : OpOk C (fIB g) (rI0 fun i j => .bl (g i j)) := by
  intro Bx σ H e0 d1 d2 v1 v2 z Q hz s o1 o2 q
  unfold fIB at hz
  split at hz
  · rename_i i j
    cases hz
    exact ⟨i, j, o1.int, o2.int, q _ _ (post_b s)⟩
  · cases hz
theorem OpOk.or {F G : D → D → Option Rs} {r r' : R2} (h : OpOk C F r) (h' : OpOk C G r') : OpOk C (fun x y => match F x y with | some z => some z | none => G x y) (fun x y H Q => r x y H Q ∨ r' x y H Q) := by
  intro Bx σ H e0 d1 d2 v1 v2 z Q hz s o1 o2 q
  cases w : F d1 d2 with
  | some y => simp only [w] at hz; cases hz; exact .inl (h Bx σ H e0 d1 d2 v1 v2 _ Q w s o1 o2 q)
  | none => simp only [w] at hz; exact .inr (h' Bx σ H e0 d1 d2 v1 v2 z Q hz s o1 o2 q)
theorem OpOk.eq {F G : D → D → Option Rs} {r : R2} (h : OpOk C F r) (e : ∀ x y, G x y = F x y) : OpOk C G r := by
  intro Bx σ H e0 d1 d2 v1 v2 z Q hz
  rw [e] at hz
  exact h Bx σ H e0 d1 d2 v1 v2 z Q hz
/-! + -/
def fCatL : D → D → Option Rs
  | .list xs, .list ys => if xs.length + ys.length ≤ most then some ⟨.list (xs ++ ys), true⟩ else none
  | _, _ => none
theorem okCatL : OpOk C fCatL rCat := by
  intro Bx σ H e0 d1 d2 v1 v2 z Q hz s o1 o2 q
  unfold fCatL at hz
  split at hz
  · split at hz
    · rename_i hl
      cases hz
      obtain ⟨a, xs, rfl, h1, r1⟩ := o1.list
      obtain ⟨b, ys, rfl, h2, r2⟩ := o2.list
      exact ⟨a, b, xs, ys, rfl, rfl, h1, h2, by rw [r1.length, r2.length]; exact most_ok hl, fun p hp => q _ _ (.newL s hp (r1.append r2))⟩
    · cases hz
  · cases hz
def fCatT : D → D → Option Rs
  | .tuple xs, .tuple ys => if xs.length + ys.length ≤ most then some ⟨.tuple (xs ++ ys), false⟩ else none
  | _, _ => none
theorem Opd.tupRep {K : PySem.W.Frag} (o : Opd K H B v (.tuple ds)) : Rep K H B v (.tuple ds) := by
  cases o with
  | rep r => exact r
  | top t => cases t
theorem okCatT : OpOk C fCatT (rCatA C.K) := by
  intro Bx σ H e0 d1 d2 v1 v2 z Q hz s o1 o2 q
  unfold fCatT at hz
  split at hz
  · split at hz
    · rename_i ds1 ds2 hl
      cases hz
      have p1 := o1.tupRep
      have p2 := o2.tupRep
      obtain ⟨a, xs, rfl, h1, r1⟩ := o1.tuple
      obtain ⟨b, ys, rfl, h2, r2⟩ := o2.tuple
      refine ⟨a, b, xs, ys, rfl, rfl, h1, h2, by rw [r1.length, r2.length]; exact most_ok hl, fun h => ?_, fun _ h => ?_, fun _ _ p hp => q _ _ (.newT s hp (r1.append r2))⟩
      · subst h; cases r1; exact q _ _ (.same s p2)
      · subst h; cases r2; rw [List.append_nil] at q; exact q _ _ (.same s p1)
    · cases hz
  · cases hz
def fCatS : D → D → Option Rs
  | .str x, .str y => if x.length + y.length ≤ most then some ⟨.str (x ++ y), false⟩ else none
  | _, _ => none
theorem okCatS : OpOk C fCatS (fun x y H Q => ∃ i j, x = .str i ∧ y = .str j ∧ i.length + j.length ≤ sizeLine ∧ Q (.str (i ++ j)) H) := by
  intro Bx σ H e0 d1 d2 v1 v2 z Q hz s o1 o2 q
  unfold fCatS at hz
  split at hz
  · split at hz
    · rename_i hl
      cases hz
      exact ⟨_, _, o1.str, o2.str, most_ok hl, q _ _ (post_s s)⟩
    · cases hz
  · cases hz
def fAdd : D → D → Option Rs
  | .int i, .int j => si (i + j)
  | .str x, .str y => if x.length + y.length ≤ most then some ⟨.str (x ++ y), false⟩ else none
  | .list xs, .list ys => if xs.length + ys.length ≤ most then some ⟨.list (xs ++ ys), true⟩ else none
  | .tuple xs, .tuple ys => if xs.length + ys.length ≤ most then some ⟨.tuple (xs ++ ys), false⟩ else none
  | _, _ => none
abbrev rAddA (K : PySem.W.Frag) : R2 := fun x y H Q => rI0 (fun i j => .int (i + j)) x y H Q ∨ ((∃ i j, x = .str i ∧ y = .str j ∧ i.length + j.length ≤ sizeLine ∧ Q (.str (i ++ j)) H) ∨ (rCat x y H Q ∨ rCatA K x y H Q))
theorem op_addA : OpR X (binaryOp .Add) (rAddA X.K) := op_add.or (op_add_str.or (op_cat.or op_catA))
theorem ok_add : OpOk C fAdd (rAddA C.K) := (okI0.or (okCatS.or (okCatL.or okCatT))).eq fun x y => by
  cases x <;> cases y <;> first | rfl | (simp only [fAdd, fII, fCatS, fCatL, fCatT]; try (split <;> rfl))
/-! the others, of ints -/
def fSub := fII (fun _ _ => true) fun i j => i - j
def cMul (i j : Int) : Bool := decide (i.natAbs.log2 + j.natAbs.log2 < 1000000)
def fMulI := fII cMul fun i j => i * j
def cDiv (_i j : Int) : Bool := decide (0 < j) && decide (j.natAbs.log2 < 9000)
def fDiv := fII cDiv fun i j => i / j
def cMod (_i j : Int) : Bool := decide (0 < j)
def fMod := fII cMod fun i j => i % j
def cSh (i j : Int) : Bool := decide (0 ≤ j) && decide (j ≤ 1000000) && decide (i.natAbs < 2 ^ 64)
def fShl := fII cSh fun i j => i * 2 ^ j.toNat
def cShr (_i j : Int) : Bool := decide (0 ≤ j)
def fShr := fII cShr fun i j => i / 2 ^ j.toNat
def fAnd := fII (fun _ _ => true) Builtin.bitAnd
def fOr := fII (fun _ _ => true) Builtin.bitOr
def fXor := fII (fun _ _ => true) Builtin.bitXor
theorem ok_sub : OpOk C fSub (rI0 fun i j => .int (i - j)) := okI0
theorem ok_div : OpOk C fDiv (rI CDivW fun i j => .int (i / j)) := okI fun i j h => by simpa [cDiv, CDivW] using h
theorem ok_mod : OpOk C fMod (rI (fun _ j => 0 < j) fun i j => .int (i % j)) := okI fun i j h => by simpa [cMod] using h
theorem ok_shl : OpOk C fShl (rI CPow fun i j => .int (i * 2 ^ j.toNat)) := okI fun i j h => by
  simp only [cSh, Bool.and_eq_true, decide_eq_true_eq] at h
  exact ⟨h.1.1, h.1.2, h.2⟩
theorem ok_shr : OpOk C fShr (rI (fun _ j => 0 ≤ j) fun i j => .int (i / 2 ^ j.toNat)) := okI fun i j h => by simpa [cShr] using h
theorem ok_and : OpOk C fAnd (rI0 fun i j => .int (Builtin.bitAnd i j)) := okI0
theorem ok_or : OpOk C fOr (rI0 fun i j => .int (Builtin.bitOr i j)) := okI0
theorem ok_xor : OpOk C fXor (rI0 fun i j => .int (Builtin.bitXor i j)) := okI0
/-! * : ints, a list times an int -/
def fRepL : D → D → Option Rs
  | .list xs, .int k => if k ≤ 100000 && -100000 ≤ k && xs.length * k.toNat ≤ most then some ⟨.list (List.replicate k.toNat xs).flatten, true⟩ else none
  | _, _ => none
theorem Reps.flat (rs : Reps K H B xs ds) : ∀ k : Nat, Reps K H B (List.replicate k xs).flatten (List.replicate k ds).flatten
  | 0 => .nil
  | k + 1 => by rw [List.replicate_succ, List.replicate_succ, List.flatten_cons, List.flatten_cons]; exact rs.append (rs.flat k)
theorem okRepL : OpOk C fRepL rRep := by
  intro Bx σ H e0 d1 d2 v1 v2 z Q hz s o1 o2 q
  unfold fRepL at hz
  split at hz
  · rename_i ds k
    split at hz
    · rename_i hl
      cases hz
      simp only [Bool.and_eq_true, decide_eq_true_eq] at hl
      obtain ⟨⟨h1, h2⟩, h3⟩ := hl
      obtain ⟨a, xs, rfl, hq, r1⟩ := o1.list
      have z1 : -(2 ^ 63) ≤ k := by omega
      have z2 : k < 2 ^ 63 := by omega
      exact ⟨a, k, xs, rfl, o2.int, hq, z1, z2, by rw [r1.length]; exact most_ok h3, fun p hp => q _ _ (.newL s hp (r1.flat _))⟩
    · cases hz
  · cases hz
def fMul : D → D → Option Rs
  | .int i, .int j => if cMul i j then si (i * j) else none
  | .list xs, .int k => if k ≤ 100000 && -100000 ≤ k && xs.length * k.toNat ≤ most then some ⟨.list (List.replicate k.toNat xs).flatten, true⟩ else none
  | _, _ => none
abbrev rMulA : R2 := fun x y H Q => rI CMulW (fun i j => .int (i * j)) x y H Q ∨ rRep x y H Q
theorem op_mulA : OpR X (binaryOp .Mult) rMulA := op_mulW.or op_rep
theorem ok_mul : OpOk C fMul rMulA := ((okI (c := cMul) fun i j h => (by simpa [cMul, CMulW] using h : CMulW i j)).or okRepL).eq fun x y => by
  cases x <;> cases y <;> first | rfl | (simp only [fMul, fII, fRepL]; try (split <;> rfl))
/-! comparisons -/
def fLt := fIB fun i j => decide (i < j)
def fLe := fIB fun i j => decide (i ≤ j)
def fGt := fIB fun i j => decide (j < i)
def fGe := fIB fun i j => decide (j ≤ i)
mutual
theorem Rep.dp : ∀ {d : D} {v : V}, d.canLay0 = true → Rep K H B v d → Dp K H v d
  | .none, _, _, h => by cases h; exact .non
  | .bool b, _, _, h => by cases h; exact .bl b
  | .int i, _, _, h => by cases h; exact .int i
  | .str x, _, _, h => by cases h; exact .str x
  | .list ds, _, c, h => by cases h with | lst q _ r => exact .lst (.inl (.inl q)) (Reps.dp (by simpa [PyData.canLay0] using c) r)
  | .tuple ds, _, c, h => by cases h with | tup q r => exact .tup q (Reps.dp (by simpa [PyData.canLay0] using c) r)
  | .dict kvs, _, c, _ => by simp [PyData.canLay0] at c
theorem Reps.dp : ∀ {ds : List D} {vs : List V}, PyData.canLayAll0 ds = true → Reps K H B vs ds → DpAll K H vs ds
  | [], _, _, h => by cases h; exact .nil
  | d :: ds, _, c, h => by
    simp only [PyData.canLayAll0, Bool.and_eq_true] at c
    cases h with | cons a b => exact .cons (Rep.dp c.1 a) (Reps.dp c.2 b)
end
/-- == on data -/
def fEq : D → D → Option Rs := fun x y => if SeqAt.shaped x && SeqAt.shaped y then sb (PyData.eqv x y) else none
def fNe : D → D → Option Rs := fun x y => if SeqAt.shaped x && SeqAt.shaped y then sb (!PyData.eqv x y) else none
theorem ok_eq : OpOk C fEq (rEqD C.K) := by
  intro Bx σ H e0 d1 d2 v1 v2 z Q hz s o1 o2 q
  unfold fEq at hz
  split at hz
  · rename_i h
    cases hz
    simp only [Bool.and_eq_true] at h
    exact ⟨d1, d2, o1.rdd.dp (SeqAt.canLay_of_shaped h.1), o2.rdd.dp (SeqAt.canLay_of_shaped h.2), h.1, h.2, q _ _ (post_b s)⟩
  · cases hz
theorem ok_ne : OpOk C fNe (rNeD C.K) := by
  intro Bx σ H e0 d1 d2 v1 v2 z Q hz s o1 o2 q
  unfold fNe at hz
  split at hz
  · rename_i h
    cases hz
    simp only [Bool.and_eq_true] at h
    exact ⟨d1, d2, o1.rdd.dp (SeqAt.canLay_of_shaped h.1), o2.rdd.dp (SeqAt.canLay_of_shaped h.2), h.1, h.2, q _ _ (post_b s)⟩
  · cases hz
/-- is None -/
def isNone : D → Bool | .none => true | _ => false
def fIsN : D → D → Option Rs := fun x y => match y with | .none => sb (isNone x) | _ => none
def fNotN : D → D → Option Rs := fun x y => match y with | .none => sb (!isNone x) | _ => none
theorem isNone_opd (o : Opd K H B v d) : decide (v = .non) = isNone d := by
  cases o with
  | rep r => cases r <;> rfl
  | top t => cases t <;> rfl
theorem ok_isN : OpOk C fIsN (fun x y H Q => y = .non ∧ Q (.bl (decide (x = .non))) H) := by
  intro Bx σ H e0 d1 d2 v1 v2 z Q hz s o1 o2 q
  cases d2 <;> try (cases hz; done)
  cases hz
  exact ⟨o2.none, by rw [isNone_opd o1]; exact q _ _ (post_b s)⟩
theorem ok_notN : OpOk C fNotN (fun x y H Q => y = .non ∧ Q (.bl (!decide (x = .non))) H) := by
  intro Bx σ H e0 d1 d2 v1 v2 z Q hz s o1 o2 q
  cases d2 <;> try (cases hz; done)
  cases hz
  exact ⟨o2.none, by rw [isNone_opd o1]; exact q _ _ (post_b s)⟩
/-- in a list, a tuple, of flat things; a sign in a text -/
def flatD : D → Bool
  | .none => true | .bool _ => true | .int _ => true | .str _ => true | _ => false
theorem flat_rep (r : Rep K H B v d) (h : flatD d = true) : flatV v = true := by
  cases r <;> first | rfl | cases h
theorem eqv_rep {v' : V} (r : Rep K H B v d) (r' : Rep K H B v' d') (h : flatD d = true) (h' : flatD d' = true) : eqV v v' = PyData.eqv d d' := by
  cases r <;> cases r' <;> first | rfl | cases h | cases h'
theorem inv_reps {x : V} {y : D} (rs : Reps K H B xs ds) (r : Rep K H B x y) (h : flatD y = true) (ha : ds.all flatD = true) : inV x xs = ds.any (fun z => PyData.eqv z y) ∧ xs.all flatV = true := by
  induction ds generalizing xs with
  | nil => cases rs; exact ⟨rfl, rfl⟩
  | cons d ds ih =>
    cases rs with
    | cons a b =>
      simp only [List.all_cons, Bool.and_eq_true] at ha
      obtain ⟨z1, z2⟩ := ih b ha.2
      refine ⟨?_, by simp [flat_rep a ha.1, z2]⟩
      unfold inV at z1 ⊢
      rw [List.any_cons, List.any_cons, z1, eqv_rep a r ha.1 h]
def inD (y : D) : List D → Bool := fun ds => ds.any fun z => PyData.eqv z y
def fIn (neg : Bool) : D → D → Option Rs := fun x y => match y with
  | .list ds => if flatD x && ds.all flatD then sb (if neg then !inD x ds else inD x ds) else none
  | .tuple ds => if flatD x && ds.all flatD then sb (if neg then !inD x ds else inD x ds) else none
  | .str z => match x with | .str w => if w.cps.toList.length = 1 then sb (if neg then !decide (w.cps.toList.headD 0 ∈ z.cps.toList) else decide (w.cps.toList.headD 0 ∈ z.cps.toList)) else none | _ => none
  | _ => none
abbrev rInA (K : PySem.W.Frag) (neg : Bool) : R2 := fun x y H Q => rIn K neg x y H Q ∨ ∃ (c : Nat) (z : Str), x = .str ⟨#[c]⟩ ∧ y = .str z ∧ Q (.bl (if neg then !decide (c ∈ z.cps.toList) else decide (c ∈ z.cps.toList))) H
theorem op_inA : OpR X (compareOp .In) (rInA X.K false) := op_in_seq.or op_in_sign
theorem op_notInA : OpR X (compareOp .NotIn) (rInA X.K true) := op_notIn_seq.or op_notIn_sign
theorem one_sign {w : Str} (h : w.cps.toList.length = 1) : w = ⟨#[w.cps.toList.headD 0]⟩ := by
  obtain ⟨⟨l⟩⟩ := w
  cases l with
  | nil => simp at h
  | cons a t => cases t with | nil => rfl | cons _ _ => simp at h
theorem ok_in {neg : Bool} : OpOk C (fIn neg) (rInA C.K neg) := by
  intro Bx σ H e0 d1 d2 v1 v2 z Q hz s o1 o2 q
  unfold fIn at hz
  split at hz
  · rename_i ds
    split at hz
    · rename_i h
      cases hz
      simp only [Bool.and_eq_true] at h
      obtain ⟨a, xs, rfl, hq, rs⟩ := o2.list
      have r1 : Rep C.K H (Avo Bx σ e0) v1 d1 := by
        cases o1 with
        | rep r => exact r
        | top t => cases t <;> cases h.1
      obtain ⟨z1, z2⟩ := inv_reps rs r1 h.1 h.2
      refine .inl ⟨a, xs, rfl, .inl (.inl (.inl hq)), flat_rep r1 h.1, z2, ?_⟩
      rw [z1]; exact q _ _ (post_b s)
    · cases hz
  · rename_i ds
    split at hz
    · rename_i h
      cases hz
      simp only [Bool.and_eq_true] at h
      obtain ⟨a, xs, rfl, hq, rs⟩ := o2.tuple
      have r1 : Rep C.K H (Avo Bx σ e0) v1 d1 := by
        cases o1 with
        | rep r => exact r
        | top t => cases t <;> cases h.1
      obtain ⟨z1, z2⟩ := inv_reps rs r1 h.1 h.2
      refine .inl ⟨a, xs, rfl, .inr hq, flat_rep r1 h.1, z2, ?_⟩
      rw [z1]; exact q _ _ (post_b s)
    · cases hz
  · split at hz
    · split at hz
      · rename_i h
        cases hz
        refine .inr ⟨_, _, ?_, o2.str, q _ _ (post_b s)⟩
        rw [o1.str]; exact congrArg V.str (one_sign h)
      · cases hz
    · cases hz
  · cases hz
/-! an item -/
def fIx : D → D → Option Rs := fun x y => match y with
  | .int i => (match x with
    | .list ds => (atI ds i).map fun d => ⟨d, false⟩
    | .tuple ds => (atI ds i).map fun d => ⟨d, false⟩
    | .str z => if z.length ≤ most then (atI z.cps.toList i).map fun c => ⟨.str ⟨#[c]⟩, false⟩ else none
    | _ => none)
  | _ => none
theorem at_reps {i : Int} (rs : Reps K H B xs ds) (h : atI ds i = some d) : ∃ v, atI xs i = some v ∧ Rep K H B v d := by
  unfold atI at h ⊢
  rw [rs.length]
  cases z : ixN ds.length i with
  | none => rw [z] at h; cases h
  | some j =>
    rw [z] at h
    exact rs.getD h
theorem ok_ix : OpOk C fIx (rIx C.K) := by
  intro Bx σ H e0 d1 d2 v1 v2 z Q hz s o1 o2 q
  unfold fIx at hz
  split at hz
  · rename_i i
    split at hz
    · rename_i ds
      cases w : atI ds i with
      | none => rw [w] at hz; cases hz
      | some d =>
        rw [w] at hz; cases hz
        obtain ⟨a, xs, rfl, hq, rs⟩ := o1.list
        obtain ⟨v, h1, h2⟩ := at_reps rs w
        exact .inl ⟨a, xs, i, v, rfl, o2.int, .inl (.inl hq), h1, q _ _ (.same s h2)⟩
    · rename_i ds
      cases w : atI ds i with
      | none => rw [w] at hz; cases hz
      | some d =>
        rw [w] at hz; cases hz
        obtain ⟨a, xs, rfl, hq, rs⟩ := o1.tuple
        obtain ⟨v, h1, h2⟩ := at_reps rs w
        exact .inr (.inl ⟨a, xs, i, v, rfl, o2.int, hq, h1, q _ _ (.same s h2)⟩)
    · rename_i t
      split at hz
      · rename_i hl
        cases w : atI t.cps.toList i with
        | none => rw [w] at hz; cases hz
        | some c =>
          rw [w] at hz; cases hz
          exact .inr (.inr ⟨t, i, c, o1.str, o2.int, most_ok hl, w, q _ _ (post_s s)⟩)
      · cases hz
    · cases hz
  · cases hz
/-! one operand -/
def fNeg : D → Option Rs | .int i => si (-i) | _ => none
def fInv : D → Option Rs | .int i => si (Builtin.bitNot i) | _ => none
theorem ok_neg : UnOk C fNeg (rU fun i => .int (-i)) := by
  intro Bx σ H e0 d1 v1 z Q hz s o q
  cases d1 <;> try (cases hz; done)
  cases hz
  exact ⟨_, o.int, q _ _ (post_i s)⟩
theorem ok_inv : UnOk C fInv (rU fun i => .int (Builtin.bitNot i)) := by
  intro Bx σ H e0 d1 v1 z Q hz s o q
  cases d1 <;> try (cases hz; done)
  cases hz
  exact ⟨_, o.int, q _ _ (post_i s)⟩
end
end G
end L2
namespace L2
namespace G
open PySem PySem.Spec PyProof.Rows
section
variable {C : Ct} {X : Cx} {W : WX} {K : PySem.W.Frag} {Bx By S B : Addr → Prop} {io : List Nat} {σ σ' σ1 σ2 : L2.St} {H H' H1 H2 : Hp} {e0 e' e1 e2 : En} {e a b : Expr} {pos : Pos} {d d' : D} {v : V} {st : Stmt} {r : Rs} {p : Addr} {ds : List D} {xs : List V}

/-! ### built-in functions: one operand, two operands -/
theorem ge_b1 {id : String} {x : Str} {np : Pos} {rr : List V → Hp → VK → Prop} {F : D → Option Rs} {g : En → Res D} (hc : CallR X (.builtin id) rr) (ho : UnOk C F fun v => rr [v]) (hv : bootBuiltins x = some (.builtin id)) (hg : Gl X x) (hm : X.mg x = none) (ha : GO C X W a g) (hn : x ≠ "__name__" := by decide) (hdb : (x == ("__debug__" : Str)) = false := by decide)
    (hs : starEach [a] X.env = (false, eval a X.env) :: starEach [] X.env := by rfl) (hpl : (backTo pos (starEach [] X.env)).any (·.1) = false := by rfl) : GE C X W (.Call (.Name x np) [a] [] pos) (xOne F g) :=
  pe_imp (pe_callB hc hg hm hv (pa_cons ha pa_nil hs) hn hdb hs hpl) fun _ _ _ h => un_run ho h
theorem ge_ty1 {T : String} {x : Str} {np : Pos} {rr : List V → Hp → VK → Prop} {F : D → Option Rs} {g : En → Res D} (hc : CallR X (.type T) rr) (ho : UnOk C F fun v => rr [v]) (hv : bootBuiltins x = some (.type T)) (hg : Gl X x) (hm : X.mg x = none) (ha : GO C X W a g) (hn : x ≠ "__name__" := by decide) (hdb : (x == ("__debug__" : Str)) = false := by decide)
    (hs : starEach [a] X.env = (false, eval a X.env) :: starEach [] X.env := by rfl) (hpl : (backTo pos (starEach [] X.env)).any (·.1) = false := by rfl) : GE C X W (.Call (.Name x np) [a] [] pos) (xOne F g) :=
  pe_imp (pe_callTy hc hg hm hv (pa_cons ha pa_nil hs) hn hdb hs hpl) fun _ _ _ h => un_run ho h
theorem ge_b2 {id : String} {x : Str} {np : Pos} {rr : List V → Hp → VK → Prop} {F : D → D → Option Rs} {l : Lf} {g : En → Res D} (hc : CallR X (.builtin id) rr) (ho : OpOk C F fun v w => rr [v, w]) (hv : bootBuiltins x = some (.builtin id)) (hg : Gl X x) (hm : X.mg x = none) (ha : GL C X W a l) (hb : GO C X W b g) (hn : x ≠ "__name__" := by decide) (hdb : (x == ("__debug__" : Str)) = false := by decide)
    (hs : starEach [a, b] X.env = (false, eval a X.env) :: starEach [b] X.env := by rfl) (hs2 : starEach [b] X.env = (false, eval b X.env) :: starEach [] X.env := by rfl) (hpl : (backTo pos (starEach [b] X.env)).any (·.1) = false := by rfl) : GE C X W (.Call (.Name x np) [a, b] [] pos) (xOp F l g) :=
  pe_imp (pe_callB hc hg hm hv (pa_cons ha (pa_cons hb pa_nil hs2) hs) hn hdb hs hpl) fun _ _ _ h => op_run ho h
theorem UnOk.or {F G : D → Option Rs} {r r' : V → Hp → VK → Prop} (h : UnOk C F r) (h' : UnOk C G r') : UnOk C (fun x => match F x with | some z => some z | none => G x) (fun x H Q => r x H Q ∨ r' x H Q) := by
  intro Bx σ H e0 d1 v1 z Q hz s o1 q
  cases w : F d1 with
  | some y => simp only [w] at hz; cases hz; exact .inl (h Bx σ H e0 d1 v1 _ Q w s o1 q)
  | none => simp only [w] at hz; exact .inr (h' Bx σ H e0 d1 v1 z Q hz s o1 q)
/-! len -/
def fLen : D → Option Rs
  | .list ds => si ds.length
  | .tuple ds => si ds.length
  | .str x => if x.length ≤ most then si x.length else none
  | .dict ks => si ks.length
  | _ => none
theorem Opd.dict {ks : List (D × D)} (o : Opd K H B v (.dict ks)) : ∃ a kvs, v = .ref a ∧ H a = some (.dK kvs) ∧ RepK K H B kvs ks := by
  cases o with
  | rep r => cases r with | dct q _ r => exact ⟨_, _, rfl, q, r⟩
  | top t => cases t with | dct q r => exact ⟨_, _, rfl, q, r⟩
theorem RepK.length {kvs : List (Key × V)} {ks : List (D × D)} (r : RepK K H B kvs ks) : kvs.length = ks.length := by
  induction ks generalizing kvs with
  | nil => cases r; rfl
  | cons d ds ih => cases r with | cons a b => simp [ih b]
abbrev rLn (K : PySem.W.Frag) : List V → Hp → VK → Prop := fun xs H Q => (∃ x n, xs = [x] ∧ LenV K x H n ∧ Q (.int n) H) ∨ ∃ a kvs, xs = [V.ref a] ∧ H a = some (.dK kvs) ∧ Q (.int kvs.length) H
theorem cr_len : CallR X (.builtin "len") (rLn X.K) := call_len.or call_lenD
theorem ok_len : UnOk C fLen fun v => rLn C.K [v] := by
  intro Bx σ H e0 d1 v1 z Q hz s o q
  unfold fLen at hz
  split at hz
  · cases hz
    obtain ⟨a, xs, rfl, hq, rs⟩ := o.list
    exact .inl ⟨_, _, rfl, .inl ⟨xs, .inl (.inl hq), rs.length.symm⟩, q _ _ (post_i s)⟩
  · cases hz
    obtain ⟨a, xs, rfl, hq, rs⟩ := o.tuple
    exact .inl ⟨_, _, rfl, .inr ⟨xs, hq, rs.length.symm⟩, q _ _ (post_i s)⟩
  · split at hz
    · rename_i hl
      cases hz
      have := o.str; subst this
      exact .inl ⟨_, _, rfl, ⟨most_ok hl, rfl⟩, q _ _ (post_i s)⟩
    · cases hz
  · cases hz
    obtain ⟨a, xs, rfl, hq, rs⟩ := o.dict
    exact .inr ⟨_, _, rfl, hq, by rw [rs.length]; exact q _ _ (post_i s)⟩
  · cases hz
theorem ge_len {np : Pos} {g : En → Res D} (hK : X.K = C.K) (hg : Gl X "len") (hm : X.mg "len" = none) (ha : GO C X W a g)
    (hs : starEach [a] X.env = (false, eval a X.env) :: starEach [] X.env := by rfl) (hpl : (backTo pos (starEach [] X.env)).any (·.1) = false := by rfl) : GE C X W (.Call (.Name "len" np) [a] [] pos) (xOne fLen g) :=
  ge_b1 (rr := rLn C.K) (by rw [← hK]; exact cr_len) ok_len boot_len hg hm ha (hs := hs) (hpl := hpl)
/-! sum, any, all, max, min of lists -/
def intsD : List D → Option (List Int)
  | [] => some []
  | .int i :: ds => (intsD ds).map (i :: ·)
  | _ => none
def boolsD : List D → Option (List Bool)
  | [] => some []
  | .bool i :: ds => (boolsD ds).map (i :: ·)
  | _ => none
theorem reps_ints : ∀ {ds : List D} {xs : List V} {ns : List Int}, intsD ds = some ns → Reps K H B xs ds → xs = ns.map V.int
  | [], _, _, h, r => by cases r; cases h; rfl
  | .int i :: ds, _, _, h, r => by
    cases r with
    | cons a b =>
      cases a
      unfold intsD at h
      cases z : intsD ds with
      | none => rw [z] at h; cases h
      | some ns => rw [z] at h; cases h; rw [reps_ints z b]; rfl
  | .none :: _, _, _, h, _ => by cases h
  | .bool _ :: _, _, _, h, _ => by cases h
  | .str _ :: _, _, _, h, _ => by cases h
  | .list _ :: _, _, _, h, _ => by cases h
  | .tuple _ :: _, _, _, h, _ => by cases h
  | .dict _ :: _, _, _, h, _ => by cases h
theorem reps_bools : ∀ {ds : List D} {xs : List V} {ns : List Bool}, boolsD ds = some ns → Reps K H B xs ds → xs = ns.map V.bl
  | [], _, _, h, r => by cases r; cases h; rfl
  | .bool i :: ds, _, _, h, r => by
    cases r with
    | cons a b =>
      cases a
      unfold boolsD at h
      cases z : boolsD ds with
      | none => rw [z] at h; cases h
      | some ns => rw [z] at h; cases h; rw [reps_bools z b]; rfl
  | .none :: _, _, _, h, _ => by cases h
  | .int _ :: _, _, _, h, _ => by cases h
  | .str _ :: _, _, _, h, _ => by cases h
  | .list _ :: _, _, _, h, _ => by cases h
  | .tuple _ :: _, _, _, h, _ => by cases h
  | .dict _ :: _, _, _, h, _ => by cases h
def fSum : D → Option Rs
  | .list ds => (intsD ds).map fun ns => ⟨.int ns.sum, false⟩
  | _ => none
def fAny : D → Option Rs
  | .list ds => (boolsD ds).map fun ns => ⟨.bool (ns.any id), false⟩
  | _ => none
def fAll : D → Option Rs
  | .list ds => (boolsD ds).map fun ns => ⟨.bool (ns.all id), false⟩
  | _ => none
def topI : List Int → Int
  | [] => 0
  | i :: is => is.foldl (fun a b => if a < b then b else a) i
def lowI : List Int → Int
  | [] => 0
  | i :: is => is.foldl (fun a b => if b < a then b else a) i
def fMaxL : D → Option Rs
  | .list ds => (intsD ds).bind fun ns => if ns.isEmpty then none else si (topI ns)
  | _ => none
def fMinL : D → Option Rs
  | .list ds => (intsD ds).bind fun ns => if ns.isEmpty then none else si (lowI ns)
  | _ => none
theorem ok_sum : UnOk C fSum fun v => rSum C.K [v] := by
  intro Bx σ H e0 d1 v1 z Q hz s o q
  cases d1 <;> try (cases hz; done)
  rename_i ds
  simp only [fSum] at hz
  cases w : intsD ds with
  | none => rw [w] at hz; cases hz
  | some ns =>
    rw [w] at hz; cases hz
    obtain ⟨a, xs, rfl, hq, rs⟩ := o.list
    obtain rfl := reps_ints w rs
    exact ⟨a, ns, rfl, .inl (.inl hq), q _ _ (post_i s)⟩
theorem ok_any : UnOk C fAny fun v => rAny C.K [v] := by
  intro Bx σ H e0 d1 v1 z Q hz s o q
  cases d1 <;> try (cases hz; done)
  rename_i ds
  simp only [fAny] at hz
  cases w : boolsD ds with
  | none => rw [w] at hz; cases hz
  | some ns =>
    rw [w] at hz; cases hz
    obtain ⟨a, xs, rfl, hq, rs⟩ := o.list
    obtain rfl := reps_bools w rs
    exact ⟨a, ns, rfl, .inl (.inl hq), q _ _ (post_b s)⟩
theorem ok_all : UnOk C fAll fun v => rAll C.K [v] := by
  intro Bx σ H e0 d1 v1 z Q hz s o q
  cases d1 <;> try (cases hz; done)
  rename_i ds
  simp only [fAll] at hz
  cases w : boolsD ds with
  | none => rw [w] at hz; cases hz
  | some ns =>
    rw [w] at hz; cases hz
    obtain ⟨a, xs, rfl, hq, rs⟩ := o.list
    obtain rfl := reps_bools w rs
    exact ⟨a, ns, rfl, .inl (.inl hq), q _ _ (post_b s)⟩
theorem topI_aux : ∀ (is : List Int) (i : Int), let t := is.foldl (fun a b => if a < b then b else a) i; i ≤ t ∧ (∀ y ∈ is, y ≤ t) ∧ (t = i ∨ t ∈ is)
  | [], i => by simp
  | j :: is, i => by
    rw [List.foldl_cons]
    by_cases c : i < j
    · rw [if_pos c]
      obtain ⟨h1, h2, h3⟩ := topI_aux is j
      refine ⟨by omega, fun y m => ?_, ?_⟩
      · rcases List.mem_cons.mp m with rfl | m
        · exact h1
        · exact h2 y m
      · rcases h3 with h3 | h3
        · exact .inr (List.mem_cons.mpr (.inl h3))
        · exact .inr (List.mem_cons_of_mem _ h3)
    · rw [if_neg c]
      obtain ⟨h1, h2, h3⟩ := topI_aux is i
      refine ⟨h1, fun y m => ?_, ?_⟩
      · rcases List.mem_cons.mp m with rfl | m
        · omega
        · exact h2 y m
      · rcases h3 with h3 | h3
        · exact .inl h3
        · exact .inr (List.mem_cons_of_mem _ h3)
theorem lowI_aux : ∀ (is : List Int) (i : Int), let t := is.foldl (fun a b => if b < a then b else a) i; t ≤ i ∧ (∀ y ∈ is, t ≤ y) ∧ (t = i ∨ t ∈ is)
  | [], i => by simp
  | j :: is, i => by
    rw [List.foldl_cons]
    by_cases c : j < i
    · rw [if_pos c]
      obtain ⟨h1, h2, h3⟩ := lowI_aux is j
      refine ⟨by omega, fun y m => ?_, ?_⟩
      · rcases List.mem_cons.mp m with rfl | m
        · exact h1
        · exact h2 y m
      · rcases h3 with h3 | h3
        · exact .inr (List.mem_cons.mpr (.inl h3))
        · exact .inr (List.mem_cons_of_mem _ h3)
    · rw [if_neg c]
      obtain ⟨h1, h2, h3⟩ := lowI_aux is i
      refine ⟨h1, fun y m => ?_, ?_⟩
      · rcases List.mem_cons.mp m with rfl | m
        · omega
        · exact h2 y m
      · rcases h3 with h3 | h3
        · exact .inl h3
        · exact .inr (List.mem_cons_of_mem _ h3)
theorem topI_mem {ns : List Int} (h : ns ≠ []) : topI ns ∈ ns := by
  cases ns with
  | nil => exact absurd rfl h
  | cons i is =>
    obtain ⟨_, _, h3⟩ := topI_aux is i
    rcases h3 with h3 | h3
    · exact List.mem_cons.mpr (.inl h3)
    · exact List.mem_cons_of_mem _ h3
theorem topI_le {ns : List Int} : ∀ y ∈ ns, y ≤ topI ns := by
  cases ns with
  | nil => intro y m; cases m
  | cons i is =>
    obtain ⟨h1, h2, _⟩ := topI_aux is i
    intro y m
    rcases List.mem_cons.mp m with rfl | m
    · exact h1
    · exact h2 y m
theorem lowI_mem {ns : List Int} (h : ns ≠ []) : lowI ns ∈ ns := by
  cases ns with
  | nil => exact absurd rfl h
  | cons i is =>
    obtain ⟨_, _, h3⟩ := lowI_aux is i
    rcases h3 with h3 | h3
    · exact List.mem_cons.mpr (.inl h3)
    · exact List.mem_cons_of_mem _ h3
theorem lowI_le {ns : List Int} : ∀ y ∈ ns, lowI ns ≤ y := by
  cases ns with
  | nil => intro y m; cases m
  | cons i is =>
    obtain ⟨h1, h2, _⟩ := lowI_aux is i
    intro y m
    rcases List.mem_cons.mp m with rfl | m
    · exact h1
    · exact h2 y m
theorem ok_maxL : UnOk C fMaxL fun v => rMax C.K [v] := by
  intro Bx σ H e0 d1 v1 z Q hz s o q
  cases d1 <;> try (cases hz; done)
  rename_i ds
  simp only [fMaxL] at hz
  cases w : intsD ds with
  | none => rw [w] at hz; cases hz
  | some ns =>
    rw [w] at hz
    simp only [Option.bind_some] at hz
    split at hz
    · cases hz
    · rename_i he
      cases hz
      obtain ⟨a, xs, rfl, hq, rs⟩ := o.list
      obtain rfl := reps_ints w rs
      have hn : ns ≠ [] := fun z => he (by rw [z]; rfl)
      refine ⟨a, ns, rfl, .inl (.inl hq), List.length_pos_iff.mpr hn, fun m h1 h2 => ?_⟩
      have : m = topI ns := by
        have := topI_le m h1
        have := h2 _ (topI_mem hn)
        omega
      rw [this]; exact q _ _ (post_i s)
theorem ok_minL : UnOk C fMinL fun v => rMin C.K [v] := by
  intro Bx σ H e0 d1 v1 z Q hz s o q
  cases d1 <;> try (cases hz; done)
  rename_i ds
  simp only [fMinL] at hz
  cases w : intsD ds with
  | none => rw [w] at hz; cases hz
  | some ns =>
    rw [w] at hz
    simp only [Option.bind_some] at hz
    split at hz
    · cases hz
    · rename_i he
      cases hz
      obtain ⟨a, xs, rfl, hq, rs⟩ := o.list
      obtain rfl := reps_ints w rs
      have hn : ns ≠ [] := fun z => he (by rw [z]; rfl)
      refine ⟨a, ns, rfl, .inl (.inl hq), List.length_pos_iff.mpr hn, fun m h1 h2 => ?_⟩
      have : m = lowI ns := by
        have := lowI_le m h1
        have := h2 _ (lowI_mem hn)
        omega
      rw [this]; exact q _ _ (post_i s)
/-! abs, int, max and min of two -/
def fAbs : D → Option Rs | .int i => si (if i < 0 then -i else i) | _ => none
theorem ok_abs : UnOk C fAbs fun v => (fun xs H Q => ∃ i, xs = [V.int i] ∧ Q (.int (if i < 0 then -i else i)) H : List V → Hp → VK → Prop) [v] := by
  intro Bx σ H e0 d1 v1 z Q hz s o q
  cases d1 <;> try (cases hz; done)
  cases hz
  exact ⟨_, by rw [o.int], q _ _ (post_i s)⟩
def fInt : D → Option Rs | .int i => si i | .bool k => si (if k then 1 else 0) | _ => none
theorem ok_int : UnOk C fInt fun v => (fun xs H Q => (∃ i, xs = [.int i] ∧ Q (.int i) H) ∨ ∃ k, xs = [.bl k] ∧ Q (.int (if k then 1 else 0)) H : List V → Hp → VK → Prop) [v] := by
  intro Bx σ H e0 d1 v1 z Q hz s o q
  cases d1 <;> try (cases hz; done)
  · cases hz
    exact .inr ⟨_, by rw [o.bool], q _ _ (post_i s)⟩
  · cases hz
    exact .inl ⟨_, by rw [o.int], q _ _ (post_i s)⟩
def fMax2 := fII (fun _ _ => true) fun i j => if j > i then j else i
def fMin2 := fII (fun _ _ => true) fun i j => if j < i then j else i
theorem ok_max2 : OpOk C fMax2 fun v w => (fun xs H Q => ∃ i j, xs = [V.int i, V.int j] ∧ Q (.int (if j > i then j else i)) H : List V → Hp → VK → Prop) [v, w] := by
  intro Bx σ H e0 d1 d2 v1 v2 z Q hz s o1 o2 q
  obtain ⟨i, j, rfl, rfl, h⟩ := okI0 (C := C) (g := fun i j => if j > i then j else i) Bx σ H e0 d1 d2 v1 v2 z Q hz s o1 o2 q
  exact ⟨i, j, rfl, h⟩
theorem ok_min2 : OpOk C fMin2 fun v w => (fun xs H Q => ∃ i j, xs = [V.int i, V.int j] ∧ Q (.int (if j < i then j else i)) H : List V → Hp → VK → Prop) [v, w] := by
  intro Bx σ H e0 d1 d2 v1 v2 z Q hz s o1 o2 q
  obtain ⟨i, j, rfl, rfl, h⟩ := okI0 (C := C) (g := fun i j => if j < i then j else i) Bx σ H e0 d1 d2 v1 v2 z Q hz s o1 o2 q
  exact ⟨i, j, rfl, h⟩
/-! list(..), tuple(..), str(int) -/
def fList : D → Option Rs
  | .list ds => some ⟨.list ds, true⟩
  | .tuple ds => some ⟨.list ds, true⟩
  | _ => none
theorem ok_list : UnOk C fList fun v => (fun xs H Q => ∃ p ys, xs = [.ref p] ∧ (SqL C.K H p ys ∨ SqT C.K H p ys) ∧ ∀ l, H l = none → Q (.ref l) (upd H l (.lst ys)) : List V → Hp → VK → Prop) [v] := by
  intro Bx σ H e0 d1 v1 z Q hz s o q
  cases d1 <;> try (cases hz; done)
  · cases hz
    obtain ⟨a, xs, rfl, hq, rs⟩ := o.list
    exact ⟨a, xs, rfl, .inl (.inl (.inl hq)), fun l hl => q _ _ (.newL s hl rs)⟩
  · cases hz
    obtain ⟨a, xs, rfl, hq, rs⟩ := o.tuple
    exact ⟨a, xs, rfl, .inr hq, fun l hl => q _ _ (.newL s hl rs)⟩
def fTuple : D → Option Rs
  | .list ds => some ⟨.tuple ds, false⟩
  | .tuple ds => some ⟨.tuple ds, false⟩
  | _ => none
theorem ok_tuple : UnOk C fTuple fun v => (fun xs H Q => ∃ p ys, xs = [.ref p] ∧ ((SqL C.K H p ys ∧ ∀ l, H l = none → Q (.ref l) (upd H l (.tup ys))) ∨ (SqT C.K H p ys ∧ Q (.ref p) H)) : List V → Hp → VK → Prop) [v] := by
  intro Bx σ H e0 d1 v1 z Q hz s o q
  cases d1 <;> try (cases hz; done)
  · cases hz
    obtain ⟨a, xs, rfl, hq, rs⟩ := o.list
    exact ⟨a, xs, rfl, .inl ⟨.inl (.inl hq), fun l hl => q _ _ (.newT s hl rs)⟩⟩
  · cases hz
    have rp := o.tupRep
    obtain ⟨a, xs, rfl, hq, rs⟩ := o.tuple
    exact ⟨a, xs, rfl, .inr ⟨hq, q _ _ (.same s rp)⟩⟩
def fStrI : D → Option Rs | .int i => if i.natAbs.log2 < 1920 then some ⟨.str (toString i), false⟩ else none | _ => none
theorem ok_strI : UnOk C fStrI fun v => (fun xs H Q => ∃ i, xs = [V.int i] ∧ i.natAbs.log2 < 1920 ∧ Q (.str (toString i)) H : List V → Hp → VK → Prop) [v] := by
  intro Bx σ H e0 d1 v1 z Q hz s o q
  cases d1 <;> try (cases hz; done)
  simp only [fStrI] at hz
  split at hz
  · rename_i hl
    cases hz
    exact ⟨_, by rw [o.int], hl, q _ _ (post_s s)⟩
  · cases hz
/-! isinstance(x, T) -/
def tyN : D → String
  | .none => "NoneType" | .bool _ => "bool" | .int _ => "int" | .str _ => "str" | .list _ => "list" | .tuple _ => "tuple" | .dict _ => "dict"
inductive Ty where | int | bool | str | list | tuple | dict
def Ty.nm : Ty → String
  | .int => "int" | .bool => "bool" | .str => "str" | .list => "list" | .tuple => "tuple" | .dict => "dict"
def isT : Ty → D → Bool
  | .int, .int _ => true | .int, .bool _ => true | .bool, .bool _ => true | .str, .str _ => true | .list, .list _ => true | .tuple, .tuple _ => true | .dict, .dict _ => true | _, _ => false
theorem kit_tab : ∀ (t : Ty) (d : D), kitB (tyN d) t.nm = some (isT t d) := by
  intro t d
  cases t <;> cases d <;> (show kitB _ _ = some _; simp only [tyN, Ty.nm, isT]; decide +kernel)
theorem tyx_rep (o : Opd K H B v d) : TyX K H v (.type (tyN d)) := by
  have r := o.rdd
  cases r with
  | non => exact .base .non
  | bl b => exact .base (.bl b)
  | int i => exact .base (.int i)
  | str i => exact .base (.str i)
  | lst q _ _ => exact .base (.lst q)
  | dct q _ _ => exact .base (.dK q)
  | tup q _ =>
    rcases q with (q | ⟨o, q⟩) | q
    · exact .base (.tup q)
    · exact .fTuple q
    · obtain ⟨ob, _, _, h1, h2, _⟩ := q
      exact .kTuple h1 h2
theorem pe_tyv {T : String} {x : Str} {np : Pos} (hg : Gl X x) (hm : X.mg x = none) (hv : bootBuiltins x = some (.type T)) (hn : x ≠ "__name__" := by decide) (hdb : (x == ("__debug__" : Str)) = false := by decide) : PE X (.Name x np) (tC (.ty T)) :=
  ⟨fun _ s σ H Q I h => ld_blt I hg hm hv ⟨.ty T, H, I, rfl, h⟩ hn hdb⟩
def fIs (t : Ty) : D → Option Rs := fun d => sb (isT t d)
theorem ge_isi {np tp : Pos} {x : Str} {g : En → Res D} (t : Ty) (hK : X.K = C.K) (hg : Gl X "isinstance") (hm : X.mg "isinstance" = none) (hgT : Gl X x) (hmT : X.mg x = none) (hvT : bootBuiltins x = some (.type t.nm)) (ha : GO C X W a g) (hn : x ≠ "__name__" := by decide) (hdb : (x == ("__debug__" : Str)) = false := by decide)
    (hs : starEach [a, .Name x tp] X.env = (false, eval a X.env) :: starEach [.Name x tp] X.env := by rfl) (hs2 : starEach [.Name x tp] X.env = (false, eval (.Name x tp) X.env) :: starEach [] X.env := by rfl) (hpl : (backTo pos (starEach [.Name x tp] X.env)).any (·.1) = false := by rfl) :
    GE C X W (.Call (.Name "isinstance" np) [a, .Name x tp] [] pos) (xOne (fIs t) g) := by
  refine pe_imp (pe_callB call_isi hg hm PyProof.Rows.boot_isinstance (pa_cons ha (pa_cons (pe_tyv hgT hmT hvT hn hdb) pa_nil hs2) hs) (by decide) (by decide) hs hpl) fun σ H Q h => ?_
  refine un_run (F := fIs t) (r := fun v H Q => rIsi X.K [v, .ty t.nm] H Q) ?_ h
  intro Bx σ H e0 d1 v1 z Q hz s o q
  cases hz
  exact ⟨v1, _, _, _, _, rfl, .ty _, by rw [hK]; exact tyx_rep o, kit_ty (kit_tab t d1), q _ _ (post_b s)⟩
end
end G
end L2
namespace L2
namespace G
open PySem PySem.Spec PyProof.Rows
section
variable {C : Ct} {X : Cx} {W : WX} {K : PySem.W.Frag} {Bx By S B : Addr → Prop} {io : List Nat} {σ σ' σ1 σ2 : L2.St} {H H' H1 H2 : Hp} {e0 e' e1 e2 : En} {e a b : Expr} {pos : Pos} {d d' : D} {v : V} {st : Stmt} {r : Rs} {p : Addr} {ds : List D} {xs : List V}

/-! ### slices -/
def TDp (C : Ct) (W : WX) (f : En → Res (Option Int)) : TO := fun σ H Q => ∃ e Bx, Sim C.K Bx σ H e ∧ (f e).run (fun b e' => ∀ H', PostT C.K Bx σ H e e' H' → Q b H') (EX C W σ H e)
abbrev GP (C : Ct) (X : Cx) (W : WX) (e : Option Expr) (f : En → Res (Option Int)) : Prop := PO X e (TDp C W f)
theorem po_imp {e : Option Expr} {t t' : TO} (h : PO X e t) (i : ∀ σ H Q, t' σ H Q → t σ H Q) : PO X e t' := ⟨fun pins s σ H Q I q => h.run pins s σ H Q I (i σ H Q q)⟩
def pNo : En → Res (Option Int) := fun e => .ok none e
def pAt (g : En → Res D) : En → Res (Option Int) := fun e => (g e).bind fun d e1 => match d with | .int i => .ok (some i) e1 | _ => .st
theorem gp_no : GP C X W none pNo := po_imp po_none fun σ H Q ⟨e, Bx, s, q⟩ => q H ⟨.refl, .refl, s⟩
theorem gp_at {g : En → Res D} (h : GO C X W e g) : GP C X W (some e) (pAt g) := po_imp (po_some h) fun σ H Q ⟨e, Bx, s, q⟩ => ⟨e, Bx, s, run_mono (bind_run q) (fun d e1 q v H1 p => by
  cases d with
  | int i => exact ⟨i, p.o.int, q H1 ⟨p.fr, p.le, p.s⟩⟩
  | _ => exact q.elim) fun _ z => z⟩
def cutD (ds : List D) (lo hi : Option Int) : List D := (ds.drop (HT.sIx ds.length 0 lo)).take (HT.sIx ds.length ds.length hi - HT.sIx ds.length 0 lo)
def fSl : D → Option Int → Option Int → Option Rs
  | .list ds, lo, hi => some ⟨.list (cutD ds lo hi), true⟩
  | .tuple ds, lo, hi => some ⟨.tuple (cutD ds lo hi), false⟩
  | .str x, lo, hi => if x.length ≤ most then some ⟨.str (cutS x lo hi), false⟩ else none
  | _, _, _ => none
abbrev rSlAll (K : PySem.W.Frag) : V → Option Int → Option Int → Hp → VK → Prop := fun x lo hi H Q => rSlL K x lo hi H Q ∨ (rSlA K x lo hi H Q ∨ rSlS x lo hi H Q)
theorem sl_all : SlR X (rSlAll X.K) := sl_list.or (sl_tupA.or sl_str)
theorem Reps.cut {lo hi : Option Int} (rs : Reps K H B xs ds) : Reps K H B (cutV xs lo hi) (cutD ds lo hi) := by
  unfold cutV cutD
  rw [rs.length]
  exact (rs.drop _).take _
theorem ok_sl {lo hi : Option Int} {v1 : V} {d1 : D} {z : Rs} {Q : VK} (hz : fSl d1 lo hi = some z) (s : Sim C.K Bx σ H e0) (o : Opd C.K H (Avo Bx σ e0) v1 d1) (q : ∀ v H', Post C.K Bx σ H e0 z e0 v H' → Q v H') : rSlAll C.K v1 lo hi H Q := by
  unfold fSl at hz
  split at hz
  · cases hz
    obtain ⟨a, xs, rfl, hq, rs⟩ := o.list
    exact .inl ⟨a, xs, rfl, .inl (.inl hq), fun p hp => q _ _ (.newL s hp rs.cut)⟩
  · cases hz
    have rp := o.tupRep
    obtain ⟨a, xs, rfl, hq, rs⟩ := o.tuple
    refine .inr (.inl ⟨a, xs, rfl, hq, fun w => ?_, fun _ p hp => q _ _ (.newT s hp rs.cut)⟩)
    have : ∀ {ds : List D}, xs.length = ds.length → cutD ds lo hi = ds := fun {ds} hl => by
      unfold cutD
      rw [← hl, w.1, w.2, List.drop_zero, Nat.sub_zero, hl, List.take_length]
    rw [this rs.length] at q
    exact q _ _ (.same s rp)
  · split at hz
    · rename_i hl
      cases hz
      exact .inr (.inr ⟨_, o.str, most_ok hl, q _ _ (post_s s)⟩)
    · cases hz
  · cases hz
/-- a base, a middle that leaves no value, then k of the base -/
def xMid {α : Type} (l : Lf) (g : En → Res α) (k : D → α → En → Res Rs) : XF := match l with
  | .ex f => fun e => (f e).bind fun r e1 => (g e1).bind fun y e2 => k r.d y e2
  | .br i => fun e => (xB i e).bind fun _ e1 => (g e1).bind fun y e2 => (xB i e2).bind fun x e3 => k x y e3
def pTwo (f g : En → Res (Option Int)) : En → Res (Option Int × Option Int) := fun e => (f e).bind fun x e1 => (g e1).bind fun y e2 => .ok (x, y) e2
def xSlc (l : Lf) (f g : En → Res (Option Int)) : XF := xMid l (pTwo f g) fun d p e => match fSl d p.1 p.2 with | some r => .ok r e | none => .st
theorem Post.after_2t {r : Rs} {e3 : En} {H3 : Hp} (h : PostT K Bx σ H e0 e1 H1) (h' : PostT K Bx σ H1 e1 e2 H2) (h2 : Post K Bx σ H2 e2 r e3 v H3) : Post K Bx σ H e0 r e3 v H3 :=
  Post.after_t h (Post.after_t h' h2)
theorem ge_slice {l : Lf} {lo hi : Option Expr} {f g : En → Res (Option Int)} {p2 : Pos} (hK : X.K = C.K) (ha : GL C X W a l) (hl : GP C X W lo f) (hh : GP C X W hi g) : GE C X W (.Subscript a (.Slice lo hi none p2) pos) (xSlc l f g) := by
  refine pe_imp (pe_slice sl_all ha hl hh) fun σ H Q ⟨e, Bx, s, q⟩ => ?_
  rw [hK]
  cases l with
  | ex F =>
    refine ⟨e, Bx, s, run_mono (bind_run q) (fun r e1 q v H1 p1 => ?_) fun _ z => z⟩
    have q := bind_run q
    have q := bind_run q
    refine ⟨e1, Bx, p1.s, run_mono q (fun x e2 q H2 p2 => ?_) fun _ z => EX.after z p1.fr p1.le⟩
    have q := bind_run q
    refine ⟨e2, Bx, p2.s, run_mono q (fun y e3 q H3 p3 => ?_) fun _ z => EX.after (EX.after z p1.fr p1.le) p2.fr p2.le⟩
    have q' : ((match fSl r.d x y with | some r => (.ok r e3 : Res Rs) | none => .st)).run (fun r e' => ∀ v H', Post C.K Bx σ H e r e' v H' → Q v H') (EX C W σ H e) := q
    cases z : fSl r.d x y with
    | none => rw [z] at q'; exact q'.elim
    | some w =>
      rw [z] at q'
      exact ok_sl z p3.s (.rep (rep_after (rep_after p1.rp p2.fr p2.le) p3.fr p3.le)) fun v H4 p4 => q' v H4 (p1.after (Post.after_2t p2 p3 p4))
  | br i =>
    obtain ⟨d, v, _, hv, _, q⟩ := look_run s q
    refine ⟨v, hv, ?_⟩
    have q := bind_run q
    have q := bind_run q
    refine ⟨e, Bx, s, run_mono q (fun x e2 q H2 p2 => ?_) fun _ z => z⟩
    have q := bind_run q
    refine ⟨e2, Bx, p2.s, run_mono q (fun y e3 q H3 p3 => ?_) fun _ z => EX.after z p2.fr p2.le⟩
    have q' : ((xB i e3).bind fun d e4 => (match fSl d x y with | some r => (.ok r e4 : Res Rs) | none => .st)).run (fun r e' => ∀ v H', Post C.K Bx σ H e r e' v H' → Q v H') (EX C W σ H e) := q
    obtain ⟨d', v', _, hv', o', q'⟩ := look_run p3.s q'
    rw [hv] at hv'; cases hv'
    cases z : fSl d' x y with
    | none => rw [z] at q'; exact q'.elim
    | some w =>
      rw [z] at q'
      exact ok_sl z p3.s o' fun v H4 p4 => q' v H4 (Post.after_2t p2 p3 p4)
/-! xs[::-1] of a list -/
def fRev : D → Option Rs
  | .list ds => some ⟨.list ds.reverse, true⟩
  | _ => none
theorem ge_rev {g : En → Res D} {k : Nat} {p1 p2 p3 : Pos} (hK : X.K = C.K) (h : GO C X W a g) : GE C X W (.Subscript a (.Slice none none (some (.UnaryOp .USub (.Constant (.int 1) k p1) p2)) p3) pos) (xOne fRev g) := by
  refine pe_imp (pe_revL h) fun σ H Q q => ?_
  refine un_run (F := fRev) (r := fun x H1 Q => ∃ a xs, x = .ref a ∧ SqL X.K H1 a xs ∧ ∀ p, H1 p = none → Q (.ref p) (upd H1 p (.lst xs.reverse))) ?_ q
  intro Bx σ H e0 d1 v1 z Q hz s o q
  cases d1 <;> try (cases hz; done)
  cases hz
  obtain ⟨a, xs, rfl, hq, rs⟩ := o.list
  exact ⟨a, xs, rfl, .inl (.inl hq), fun p hp => q _ _ (.newL s hp rs.reverse)⟩

/-! ### a value's truth -/
def truD : D → Option Bool
  | .none => some false
  | .bool b => some b
  | .int i => some (i != 0)
  | .str y => if y.length ≤ most then some ((y.length : Int) != 0) else none
  | .list ds => some (!ds.isEmpty)
  | .tuple ds => some (!ds.isEmpty)
  | .dict ks => some (!ks.isEmpty)
theorem tru_rep {k : Bool} (h : truD d = some k) (o : Opd K H B v d) : TruV K v H k := by
  cases d with
  | none => cases h; rw [o.none]; rfl
  | bool b => cases h; rw [o.bool]; rfl
  | int i => cases h; rw [o.int]; rfl
  | str y =>
    simp only [truD] at h
    split at h
    · rename_i hl
      cases h
      rw [o.str]
      exact ⟨most_ok hl, rfl⟩
    · cases h
  | list ds =>
    cases h
    obtain ⟨a, xs, rfl, hq, rs⟩ := o.list
    exact .inl ⟨xs, .inl (.inl hq), by cases rs <;> rfl⟩
  | tuple ds =>
    cases h
    obtain ⟨a, xs, rfl, hq, rs⟩ := o.tuple
    exact .inr (.inl ⟨xs, hq, by cases rs <;> rfl⟩)
  | dict ks =>
    cases h
    obtain ⟨a, xs, rfl, hq, rs⟩ := o.dict
    exact .inr (.inr ⟨xs, hq, by cases rs <;> rfl⟩)
def tTru (g : En → Res D) : En → Res Bool := fun e => (g e).bind fun d e1 => match truD d with | some b => .ok b e1 | none => .st
theorem gt_tru {g : En → Res D} (hK : X.K = C.K) (h : GO C X W a g) (he : ∀ whole, isTrue a X.env whole = (do let v ← whole; standAt a.pos; holding [v] (truthy v)) := by intro _; rfl) : GT C X W a (tTru g) := by
  refine pt_imp (pt_truth h he) fun σ H Q ⟨e, Bx, s, q⟩ => ⟨e, Bx, s, run_mono (bind_run q) (fun d e1 q v H1 p => ?_) fun _ z => z⟩
  cases z : truD d with
  | none => rw [z] at q; exact q.elim
  | some k => rw [z] at q; exact ⟨k, by rw [hK]; exact tru_rep z p.o, q H1 ⟨p.fr, p.le, p.s⟩⟩

/-! ### a op b op c -/
def xChn (F G : D → D → Option Rs) (f g : XF) (h : En → Res D) : XF := fun e => (f e).bind fun x e1 => (g e1).bind fun y e2 => match F x.d y.d with
  | some ⟨.bool true, false⟩ => (h e2).bind fun w e3 => (match G y.d w with | some r => .ok r e3 | none => .st)
  | some ⟨.bool false, false⟩ => .ok ⟨.bool false, false⟩ e2
  | _ => .st
theorem chain_run {F G : D → D → Option Rs} {r r' : R2} {f g : XF} {h : En → Res D} (ho : OpOk C F r) (ho' : OpOk C G r') {Q : VK} (q : TD C W (xChn F G f g h) σ H Q) : tChain r r' (TD C W f) (TD C W g) (TDo C W h) σ H Q := by
  obtain ⟨e, Bx, s, q⟩ := q
  refine ⟨e, Bx, s, run_mono (bind_run q) (fun x e1 q v1 H1 p1 => ?_) fun _ z => z⟩
  refine ⟨e1, Bx, p1.s, run_mono (bind_run q) (fun y e2 q v2 H2 p2 => ?_) fun _ z => EX.after z p1.fr p1.le⟩
  have p12 := p1.after p2
  cases z : F x.d y.d with
  | none => rw [z] at q; exact q.elim
  | some w =>
    rw [z] at q
    obtain ⟨wd, wf⟩ := w
    cases wd with
    | bool k =>
      cases wf with
      | true => cases k <;> exact q.elim
      | false =>
        refine ho Bx σ H2 e2 x.d y.d v1 v2 _ _ z p2.s (.rep (rep_after p1.rp p2.fr p2.le)) (.rep p2.rp) fun u H3 p3 => ?_
        have rp := p3.rp
        cases rp
        refine ⟨k, rfl, ?_⟩
        cases k with
        | true =>
          refine iteT ⟨e2, Bx, p3.s, run_mono (bind_run q) (fun d3 e3 q v3 H4 p4 => ?_) fun _ z => EX.after (EX.after z p12.fr p12.le) p3.fr p3.le⟩
          cases z' : G y.d d3 with
          | none => rw [z'] at q; exact q.elim
          | some r3 =>
            rw [z'] at q
            exact ho' Bx σ H4 e3 y.d d3 v2 v3 r3 Q z' p4.s (.rep (rep_after (rep_after p2.rp p3.fr p3.le) p4.fr p4.le)) p4.o fun u H5 p5 => q u H5 (p12.after (p3.after (Post.after_o p4 p5)))
        | false => exact iteF (q _ _ (p12.after p3))
    | _ => cases wf <;> exact q.elim
theorem ge_chain {c : Expr} {op op' : CmpOp} {F G : D → D → Option Rs} {r r' : R2} {f g : XF} {h : En → Res D} (hr : OpR X (compareOp op) r) (hr' : OpR X (compareOp op') r') (ho : OpOk C F r) (ho' : OpOk C G r') (ha : GE C X W a f) (hb : GE C X W b g) (hc : GO C X W c h)
    (hm : lastMarks [op, op'] [b, c] = false := by with_unfolding_all rfl) : GE C X W (.Compare a [op, op'] [b, c] pos) (xChn F G f g h) :=
  pe_imp (pe_chain hr hr' ha hb hc hm) fun _ _ _ q => chain_run ho ho' q
theorem gt_chain {c : Expr} {op op' : CmpOp} {F G : D → D → Option Rs} {r r' : R2} {f g : XF} {h : En → Res D} (hr : OpR X (compareOp op) r) (hr' : OpR X (compareOp op') r') (ho : OpOk C F r) (ho' : OpOk C G r') (ha : GE C X W a f) (hb : GE C X W b g) (hc : GO C X W c h)
    (hm : lastMarks [op, op'] [b, c] = false := by with_unfolding_all rfl) : GT C X W (.Compare a [op, op'] [b, c] pos) (xTest (xChn F G f g h)) :=
  pt_imp (pt_chain hr hr' ha hb hc hm) fun _ _ _ q => chain_run ho ho' (test_run q)

/-! ### dicts -/
def keyEq : D → D → Bool
  | .int i, .int j => decide (i = j)
  | .str x, .str y => decide (x = y)
  | _, _ => false
def isKey : D → Bool
  | .int _ => true | .str _ => true | _ => false
def getD (ks : List (D × D)) (k : D) : Option D := (ks.find? fun q => keyEq q.1 k).map (·.2)
def putD (ks : List (D × D)) (k v : D) : List (D × D) := if ks.any (fun q => keyEq q.1 k) then ks.map (fun q => if keyEq q.1 k then (q.1, v) else q) else ks ++ [(k, v)]
theorem key_of {d : D} (h : isKey d = true) : ∃ k : Key, d = keyD k := by
  cases d with
  | int i => exact ⟨.inl i, rfl⟩
  | str x => exact ⟨.inr x, rfl⟩
  | _ => cases h
theorem keyEq_iff (k j : Key) : keyEq (keyD k) (keyD j) = decide (k = j) := by
  cases k <;> cases j <;> simp [keyD, keyEq]
theorem Opd.key {k : Key} (o : Opd K H B v (keyD k)) : v = kV k := by
  cases k with
  | inl i => exact o.int
  | inr x => exact o.str
theorem RepK.get {kvs : List (Key × V)} {ks : List (D × D)} {k : Key} (r : RepK K H B kvs ks) : (∀ d, getD ks (keyD k) = some d → ∃ v, valV kvs k = some v ∧ Rep K H B v d) ∧ (getD ks (keyD k)).isSome = (valV kvs k).isSome := by
  induction ks generalizing kvs with
  | nil => cases r; exact ⟨fun d h => (by cases h), rfl⟩
  | cons q ks ih =>
    cases r with
    | @cons j v kvs d ks ra rb =>
      by_cases c : j = k
      · subst c
        have e1 : getD ((keyD j, d) :: ks) (keyD j) = some d := by simp [getD, List.find?_cons, keyEq_iff]
        have e2 : valV ((j, v) :: kvs) j = some v := valV_pos rfl
        rw [e1, e2]
        exact ⟨fun d' h => (by cases h; exact ⟨v, rfl, ra⟩), rfl⟩
      · have e1 : getD ((keyD j, d) :: ks) (keyD k) = getD ks (keyD k) := by simp [getD, List.find?_cons, keyEq_iff, c]
        have e2 : valV ((j, v) :: kvs) k = valV kvs k := valV_neg c
        rw [e1, e2]
        exact ih rb
theorem RepK.put {kvs : List (Key × V)} {ks : List (D × D)} {k : Key} (r : RepK K H B kvs ks) (rv : Rep K H B v d) : RepK K H B (putK kvs k v) (putD ks (keyD k) d) := by
  have an : (kvs.any fun kv => decide (kv.1 = k)) = ks.any fun q => keyEq q.1 (keyD k) := by
    induction ks generalizing kvs with
    | nil => cases r; rfl
    | cons q ks ih => cases r with | cons ra rb => rw [List.any_cons, List.any_cons, ih rb, keyEq_iff]
  have mp : RepK K H B (kvs.map fun kv => if kv.1 = k then (kv.1, v) else kv) (ks.map fun q => if keyEq q.1 (keyD k) then (q.1, d) else q) := by
    clear an
    induction ks generalizing kvs with
    | nil => cases r; exact .nil
    | cons q ks ih =>
      cases r with
      | @cons j u kvs du ks ra rb =>
        rw [List.map_cons, List.map_cons]
        by_cases c : j = k
        · rw [if_pos c, if_pos (by rw [keyEq_iff]; simpa using c)]; exact .cons rv (ih rb)
        · rw [if_neg c, if_neg (by rw [keyEq_iff]; simpa using c)]; exact .cons ra (ih rb)
  have ap : RepK K H B (kvs ++ [(k, v)]) (ks ++ [(keyD k, d)]) := by
    clear an mp
    induction ks generalizing kvs with
    | nil => cases r; exact .cons rv .nil
    | cons q ks ih => cases r with | cons ra rb => exact .cons ra (ih rb)
  unfold putK putD
  rw [an]
  split
  · exact mp
  · exact ap
/-- y in d -/
def rDIn (neg : Bool) : R2 := fun y x H Q => ∃ a o, x = .ref a ∧ DGet H a y o ∧ Q (.bl (if neg then !o.isSome else o.isSome)) H
theorem op_din (hu : X.A.units + 1 < cLine) : OpR X (compareOp .In) (rDIn false) := by
  intro pins s σ H x y v u Q I rx ry h
  obtain ⟨a, o, rfl, g, q⟩ := h
  cases (show u = Value.ref a from ry)
  exact d_in hu I g rx fun s3 I3 => ⟨.bl o.isSome, H, I3, rfl, q⟩
theorem op_dnotin (hu : X.A.units + 1 < cLine) : OpR X (compareOp .NotIn) (rDIn true) := by
  intro pins s σ H x y v u Q I rx ry h
  obtain ⟨a, o, rfl, g, q⟩ := h
  cases (show u = Value.ref a from ry)
  exact d_notIn hu I g rx fun s3 I3 => ⟨.bl (!o.isSome), H, I3, rfl, q⟩
def fDIn (neg : Bool) : D → D → Option Rs := fun k x => match x with
  | .dict ks => if isKey k then sb (if neg then !(getD ks k).isSome else (getD ks k).isSome) else none
  | _ => none
theorem ok_din {neg : Bool} : OpOk C (fDIn neg) (rDIn neg) := by
  intro Bx σ H e0 d1 d2 v1 v2 z Q hz s o1 o2 q
  cases d2 <;> try (cases hz; done)
  simp only [fDIn] at hz
  split at hz
  · rename_i hk
    cases hz
    obtain ⟨k, rfl⟩ := key_of hk
    obtain ⟨a, kvs, rfl, hq, rs⟩ := o2.dict
    refine ⟨a, valV kvs k, rfl, by rw [o1.key]; exact .k hq, ?_⟩
    rw [← rs.get.2]
    exact q _ _ (post_b s)
  · cases hz
/-- all of `in` -/
def fInA (neg : Bool) : D → D → Option Rs := fun x y => match fIn neg x y with | some z => some z | none => fDIn neg x y
abbrev rInAll (K : PySem.W.Frag) (neg : Bool) : R2 := fun x y H Q => rInA K neg x y H Q ∨ rDIn neg x y H Q
theorem op_inAll (hu : X.A.units + 1 < cLine) : OpR X (compareOp .In) (rInAll X.K false) := op_inA.or (op_din hu)
theorem op_notInAll (hu : X.A.units + 1 < cLine) : OpR X (compareOp .NotIn) (rInAll X.K true) := op_notInA.or (op_dnotin hu)
theorem ok_inAll {neg : Bool} : OpOk C (fInA neg) (rInAll C.K neg) := ok_in.or ok_din
/-- d[y] -/
def rDGet : R2 := fun x y H Q => ∃ a v, x = .ref a ∧ DGet H a y (some v) ∧ Q v H
theorem ix_dict (hu : X.A.units + 1 < cLine) : IxR X rDGet := by
  intro value slice pins s σ H x y v u Q I rx ry h hs
  obtain ⟨a, w, rfl, g, q⟩ := h
  cases (show v = Value.ref a from rx)
  have hT := dict_typeIs I g
  unfold subscriptTail
  refine wpAny_bind ?_
  rw [getitemInPython_of_ne hT.not_modules]
  refine wpAny_bind (wpAny_specialOf hT PySem.F.slot_dict_getitem.lookup ?_)
  have fin : wpAny (model X.prog X.w) X.A (subscripted slice false (.ref a) u) (fun r s₃ => wpAny (model X.prog X.w) X.A (letTemporaryGo value (.ref a) r >>= fun _ => pure r) (EP X pins σ Q) X.xe s₃) X.xe s := by
    rw [hs]
    exact wpAny_operating (wpAny_mono (d_getItem (Q := EP X pins σ Q) hu I g ry fun w' s3 I3 rw' => ⟨w, H, I3, rw', q⟩) (fun r s₃ h₃ => wpAny_bind (wpAny_letTemporaryGo (wpAny_pure h₃))) fun _ _ x => x)
  first
    | exact wpAny_pure (wpAny_bind fin)
    | exact wpAny_bind fin
    | exact wpAny_pure fin
    | exact fin
def fDGet : D → D → Option Rs := fun x k => match x with
  | .dict ks => if isKey k then (getD ks k).map fun d => ⟨d, false⟩ else none
  | _ => none
theorem ok_dget : OpOk C fDGet rDGet := by
  intro Bx σ H e0 d1 d2 v1 v2 z Q hz s o1 o2 q
  cases d1 <;> try (cases hz; done)
  rename_i ks
  simp only [fDGet] at hz
  split at hz
  · rename_i hk
    obtain ⟨k, rfl⟩ := key_of hk
    obtain ⟨a, kvs, rfl, hq, rs⟩ := o1.dict
    cases w : getD ks (keyD k) with
    | none => rw [w] at hz; cases hz
    | some d =>
      rw [w] at hz; cases hz
      obtain ⟨v, h1, h2⟩ := rs.get.1 d w
      refine ⟨a, v, rfl, ?_, q _ _ (.same s h2)⟩
      rw [o2.key, ← h1]; exact .k hq
  · cases hz
def fIxA : D → D → Option Rs := fun x y => match fIx x y with | some z => some z | none => fDGet x y
abbrev rIxAll (K : PySem.W.Frag) : R2 := fun x y H Q => rIx K x y H Q ∨ rDGet x y H Q
theorem ix_all (hu : X.A.units + 1 < cLine) : IxR X (rIxAll X.K) := ix_seq.or (ix_dict hu)
theorem ok_ixAll : OpOk C fIxA (rIxAll C.K) := ok_ix.or ok_dget
end
end G
end L2
namespace L2
namespace G
open PySem PySem.Spec PyProof.Rows
section
variable {C : Ct} {X : Cx} {W : WX} {K : PySem.W.Frag} {Bx By S B : Addr → Prop} {io : List Nat} {σ σ' σ1 σ2 : L2.St} {H H' H1 H2 : Hp} {e0 e' e1 e2 : En} {e a b : Expr} {pos : Pos} {d d' : D} {v : V} {st : Stmt} {r : Rs} {p : Addr} {ds : List D} {xs : List V}

/-! ### d[k] = v, an own dict -/
def ownD (i : Nat) (e : En) : Option (List (D × D)) := match e[i]? with
  | some (Sl.ow true (.dict ks)) => some ks
  | _ => none
theorem Sim.ownDict {i : Nat} {ks : List (D × D)} (s : Sim K Bx σ H e0) (h : ownD i e0 = some ks) : ∃ p kvs, e0[i]? = some (Sl.ow true (.dict ks)) ∧ σ[i]? = some (some (V.ref p)) ∧ H p = some (.dK kvs) ∧ RepK K H (Avo Bx σ e0) kvs ks := by
  unfold ownD at h
  split at h
  · rename_i ks' z
    cases h
    obtain ⟨p, h1, _, t⟩ := s.ow i true _ z
    cases t with | dct q r => exact ⟨p, _, z, h1, q, r⟩
  · cases h
theorem Sim.writeD {i : Nat} {d : D} {kvs kv' : List (Key × V)} {ks : List (D × D)} (s : Sim K Bx σ H e0) (h : e0[i]? = some (Sl.ow true d)) (hp : σ[i]? = some (some (V.ref p))) (ho : H p = some (.dK kvs)) (rs : RepK K H (Avo Bx σ e0) kv' ks) :
    Sim K Bx σ (upd H p (.dK kv')) (e0.set i (.ow true (.dict ks))) ∧ Fr σ e0 H (upd H p (.dK kv')) ∧ Le σ e0 (e0.set i (.ow true (.dict ks))) :=
  s.writeG h hp ho trivial fun k => .dct upd_same (rs.keep k)
def sDPt (i : Nat) (f : XF) (g : En → Res D) : SF := fun e => (f e).bind fun r e1 => if (ownD i e1).isSome then (g e1).bind fun k e2 => match ownD i e2 with
  | some ks => if isKey k && decide (ks.length < most) then .ok .nx (e2.set i (.ow true (.dict (putD ks k r.d)))) else .st
  | none => .st else .st
theorem dput_run {i : Nat} {f : XF} {g : En → Res D} {Dd : Ends} (h : TDs C W io (sDPt i f g) Dd σ H) : sDPut (tVar i) (TDo C W g) (TD C W f) Dd σ H := by
  obtain ⟨e, Bx, s, q⟩ := h
  refine ⟨e, Bx, s, run_mono (bind_run q) (fun r e1 q v H1 p1 => ?_) fun _ z => z⟩
  split at q
  · rename_i hs
    obtain ⟨ds, hds⟩ := Option.isSome_iff_exists.mp hs
    obtain ⟨p, xs, z1, z2, z3, z4⟩ := p1.s.ownDict hds
    refine ⟨_, z2, e1, Bx, p1.s, run_mono (bind_run q) (fun k e2 q u H2 p2 => ?_) fun _ z => EX.after z p1.fr p1.le⟩
    cases w : ownD i e2 with
    | none => rw [w] at q; exact q.elim
    | some ks =>
      rw [w] at q
      dsimp only at q
      split at q
      · rename_i hk
        simp only [Bool.and_eq_true, decide_eq_true_eq] at hk
        obtain ⟨k', rfl⟩ := key_of hk.1
        obtain ⟨p', kvs, w1, w2, w3, w4⟩ := p2.s.ownDict w
        rw [z2] at w2; cases w2
        obtain ⟨s', fr, le⟩ := p2.s.writeD w1 z2 w3 (w4.put (k := k') (rep_after p1.rp p2.fr p2.le))
        refine ⟨p, _, rfl, ?_, q σ _ (.of ((p1.fr.trans p1.le p2.fr).trans (p1.le.trans p2.le) fr) ((p1.le.trans p2.le).trans le) s')⟩
        rw [p2.o.key]
        exact .k w3 (by rw [w4.length]; exact most_lt (Nat.le_of_lt hk.2))
      · exact q.elim
  · exact q.elim
theorem gs_dput {i : Nat} {f : XF} {g : En → Res D} {x : Str} {np spos : Pos} {ix : Expr} (hu : X.A.units + 1 < cLine) (hN : X.N[i]? = some x) (hv : Vis X.env.scope x) (hf : GE C X W e f) (hg : GO C X W ix g) (hd : (x == ("__debug__" : Str)) = false := by decide) (hcd : (x == ("__classdict__" : Str)) = false := by decide)
    (hs : swapsWith e (some (.Subscript (.Name x np) ix spos)) pos.line X.env = pure false := by rfl) : GS C X W io (.Assign [.Subscript (.Name x np) ix spos] e pos) (sDPt i f g) :=
  ps_imp (ps_dput hu (pe_var hN hv hd hcd) hg hf hs) fun _ _ _ h => dput_run h

/-! ### {}, {k: v, ..} -/
def dispL : List (XF × XF) → En → Res (List (D × D))
  | [], e => .ok [] e
  | (f, g) :: r, e => (f e).bind fun k e1 => (g e1).bind fun y e2 => (dispL r e2).bind fun ks e3 => if isKey k.d then .ok ((k.d, y.d) :: ks) e3 else .st
def mergeD (ks more : List (D × D)) : List (D × D) := more.foldl (fun acc q => putD acc q.1 q.2) ks
def xDsp (l : List (XF × XF)) : XF := fun e => (dispL l e).bind fun ks e1 => if ks.length ≤ 15 then .ok ⟨.dict (mergeD [] ks), true⟩ e1 else .st
structure GPs (C : Ct) (X : Cx) (W : WX) (pos : Pos) (keys : List (Option Expr)) (values : List Expr) (l : List (XF × XF)) : Prop where
  h : PPs X pos keys values (l.map fun q => (TD C W q.1, TD C W q.2))
theorem gps_nil : GPs C X W pos [] [] [] := ⟨pps_nil⟩
theorem gps_cons {k y : Expr} {ks : List (Option Expr)} {ys : List Expr} {f g : XF} {l : List (XF × XF)} (hk : GE C X W k f) (hy : GE C X W y g) (hr : GPs C X W pos ks ys l) : GPs C X W pos (some k :: ks) (y :: ys) ((f, g) :: l) := ⟨pps_cons hk hy hr.h⟩
theorem RepK.merge {more : List (Key × V)} {mks : List (D × D)} : ∀ {kvs : List (Key × V)} {ks : List (D × D)}, RepK K H B kvs ks → RepK K H B more mks → RepK K H B (mergeK kvs more) (mergeD ks mks) := by
  induction mks generalizing more with
  | nil => intro kvs ks r m; cases m; exact r
  | cons q mks ih =>
    intro kvs ks r m
    cases m with
    | @cons j v more d mks ra rb => exact ih (kvs := putK kvs j v) (r.put ra) rb
theorem pairs_run {l : List (XF × XF)} : ∀ {σ : L2.St} {Bx : Addr → Prop} {H : Hp} {e0 : En} {Q : List (V × V) → Hp → Prop} {P : List (D × D) → En → Prop} {E : Exn → Prop}, Sim C.K Bx σ H e0 → (dispL l e0).run P E →
    (∀ x, E x → EX C W σ H e0 x) → (∀ ks e1, P ks e1 → ∀ kvs H1, Fr σ e0 H H1 → Le σ e0 e1 → Sim C.K Bx σ H1 e1 → RepK C.K H1 (Avo Bx σ e1) kvs ks → Q (kvs.map fun kv => (kV kv.1, kv.2)) H1) → tPairs (l.map fun q => (TD C W q.1, TD C W q.2)) σ H Q := by
  induction l with
  | nil => intro σ Bx H e0 Q P E s q _ h; exact h [] e0 q [] H .refl .refl s .nil
  | cons fg l ih =>
    obtain ⟨f, g⟩ := fg
    intro σ Bx H e0 Q P E s q hE h
    refine ⟨e0, Bx, s, run_mono (bind_run q) (fun k e1 q u H1 p1 => ?_) hE⟩
    refine ⟨e1, Bx, p1.s, run_mono (bind_run q) (fun y e2 q w H2 p2 => ?_) fun x z => EX.after (hE x z) p1.fr p1.le⟩
    have p12 := p1.after p2
    refine ih (P := fun ks e3 => ((if isKey k.d then .ok ((k.d, y.d) :: ks) e3 else .st : Res (List (D × D)))).run P E) (E := E) p2.s (run_mono (bind_run q) (fun _ _ z => z) fun _ z => z) (fun x z => EX.after (hE x z) p12.fr p12.le) fun ks e3 q kvs H3 fr le s3 rk => ?_
    split at q
    · rename_i hk
      obtain ⟨j, hj⟩ := key_of hk
      have rp := p1.rp
      rw [hj] at rp q
      have := (Opd.rep rp).key; subst this
      exact h _ _ q ((j, w) :: kvs) H3 (p12.fr.trans p12.le fr) (p12.le.trans le) s3 (.cons (rep_after p2.rp fr le) rk)
    · exact q.elim
theorem ge_disp {keys : List (Option Expr)} {values : List Expr} {l : List (XF × XF)} (h : GPs C X W pos keys values l) (hall : keys.all (·.isSome) = true := by rfl) (hl : keys.length = values.length := by rfl) (h0 : keys ≠ [] := by simp) (h15 : keys.length ≤ 15 := by decide) : GE C X W (.Dict keys values pos) (xDsp l) := by
  refine pe_imp (pe_disp h.h hall hl h0 h15) fun σ H Q ⟨e, Bx, s, q⟩ p hp => ?_
  have s1 : Sim C.K (ad Bx p) σ (upd H p (.dK [])) e := s.laid hp
  have f1 : Fr σ e H (upd H p (.dK [])) := Kp.new hp
  refine pairs_run s1 (bind_run q) (fun x z => EX.after z f1 .refl) fun ks e1 q kvs H2 fr le s2 rk => ?_
  split at q
  · rename_i hl
    have np : ¬ Bx p := fun z => s.bx p z hp
    have nw : ¬ Wr σ e p := fun z => s.there z.av hp
    have h2 : H2 p = some (.dK []) := fr.keep p _ upd_same nw
    refine ⟨h2, kvs, rfl, by rw [rk.length]; exact hl, ?_⟩
    have kw : Kp (Avo (ad Bx p) σ e1) H2 (upd H2 p (.dK (mergeK [] kvs))) := .write h2 trivial (.inr (.inr rfl))
    have f2 : Kp (fun a => Wr σ e a ∨ a = p) H2 (upd H2 p (.dK (mergeK [] kvs))) := .write h2 trivial (.inr rfl)
    refine q _ _ ⟨?_, le, ⟨p, rfl, np, ?_, .dct upd_same ((RepK.merge .nil rk).keep kw)⟩, fun _ q z => by cases z; exact hp⟩
    · have k1 : Fr σ e H H2 := f1.trans .refl fr
      refine ⟨fun a o z n => ?_, fun a z => f2.there a (k1.there a z), fun a zs z => f2.tup a zs (k1.tup a zs z), fun a lo hi z => f2.rng a lo hi (k1.rng a lo hi z)⟩
      rw [upd_ne (ne_of_none z hp)]; exact k1.keep a o z n
    · refine ⟨s2.len, fun i d z => ?_, fun i w d z => ?_, s2.inj, fun a z => kw.there a (s2.bx a z), fun j lo hi h1 => (let ⟨a, r1, r2⟩ := s2.rg j lo hi h1; ⟨a, r1, kw.rng _ _ _ r2⟩)⟩
      · obtain ⟨v, q1, q2⟩ := s2.sh i d z
        exact ⟨v, q1, q2.keep kw⟩
      · obtain ⟨a, q1, q2, q3⟩ := s2.ow i w d z
        refine ⟨a, q1, q2, q3.go kw (fun _ z _ => z) fun o z => ?_⟩
        rw [upd_ne fun y => q2 (.inr y)]; exact z
  · exact q.elim
def xD0 : XF := fun e => .ok ⟨.dict [], true⟩ e
theorem ge_d0 : GE C X W (.Dict [] [] pos) xD0 := by
  refine pe_imp pe_dnewK fun σ H Q ⟨e, Bx, s, q⟩ p hp => q _ _ ⟨Kp.new hp, .refl, ⟨p, rfl, fun z => s.bx p z hp, s.laid hp, .dct upd_same .nil⟩, fun _ q z => by cases z; exact hp⟩

/-! ### xs.pop(), xs.pop(k) -/
def xPop (i : Nat) : XF := fun e => match ownL i e with
  | some ds => (match ds[ds.length - 1]? with | some d => .ok ⟨d, false⟩ (e.set i (.ow true (.list ds.dropLast))) | none => .st)
  | none => .st
theorem ge_pop {i : Nat} {x : Str} {np apos cpos : Pos} (hK : X.K = C.K) (hN : X.N[i]? = some x) (hv : Vis X.env.scope x) (hd : (x == ("__debug__" : Str)) = false := by decide) (hcd : (x == ("__classdict__" : Str)) = false := by decide)
    (hbase : attributeBase (.Name x np) "pop" X.env (eval (.Name x np) X.env) = eval (.Name x np) X.env := by rfl) (hline : (apos.endLine == cpos.line) = true := by rfl) : GE C X W (.Call (.Attribute (.Name x np) "pop" apos) [] [] cpos) (xPop i) := by
  refine pe_imp (pe_bm0 PySem.F.plainAttrs_list PySem.F.slot_list_pop PySem.F.type_list_pop mt_pop (pe_var hN hv hd hcd) hbase hline) fun σ H Q ⟨e, Bx, s, q⟩ => ?_
  unfold xPop at q
  cases w : ownL i e with
  | none => rw [w] at q; exact q.elim
  | some ds =>
    rw [w] at q
    dsimp only at q
    obtain ⟨p, xs, z1, z2, z3, z4⟩ := s.own w
    cases y : ds[ds.length - 1]? with
    | none => rw [y] at q; exact q.elim
    | some d =>
      rw [y] at q
      obtain ⟨u, hu, ru⟩ := z4.getD y
      obtain ⟨s', fr, le⟩ := s.write z1 z2 z3 z4.dropLast
      refine ⟨_, z2, .inl ⟨rfl, _, .inl (.inl z3)⟩, p, xs, u, rfl, rfl, z3, by rw [z4.length]; exact hu, q _ _ (.mk0 fr le s' (rep_after ru fr le))⟩
def xPopA (i : Nat) (g : En → Res D) : XF := fun e => if (ownL i e).isSome then (g e).bind fun k e1 => match k, ownL i e1 with
  | .int j, some ds => if ds.length ≤ most then (match ixN ds.length j with
    | some m => (match ds[m]? with | some d => .ok ⟨d, false⟩ (e1.set i (.ow true (.list (ds.eraseIdx m)))) | none => .st)
    | none => .st) else .st
  | _, _ => .st else .st
theorem ge_popA {i : Nat} {g : En → Res D} {x : Str} {np apos cpos : Pos} (hK : X.K = C.K) (hN : X.N[i]? = some x) (hv : Vis X.env.scope x) (hg : GO C X W a g) (hd : (x == ("__debug__" : Str)) = false := by decide) (hcd : (x == ("__classdict__" : Str)) = false := by decide)
    (hbase : attributeBase (.Name x np) "pop" X.env (eval (.Name x np) X.env) = eval (.Name x np) X.env := by rfl)
    (hfew : ((backTo cpos (starEach [a] X.env)).all (fun x => !x.1) && (backToKw cpos (keywordEach [] X.env)).all (fun x => x.1.isSome)
      && decide (([a] : List Expr).length + ([] : List Keyword).length + (if ([] : List Keyword).isEmpty then 0 else 1) < 30)) = true := by rfl)
    (hline : (apos.endLine == cpos.line) = true := by rfl) (hs : starEach [a] X.env = (false, eval a X.env) :: starEach [] X.env := by rfl) : GE C X W (.Call (.Attribute (.Name x np) "pop" apos) [a] [] cpos) (xPopA i g) := by
  refine pe_imp (pe_bm PySem.F.plainAttrs_list PySem.F.slot_list_pop PySem.F.type_list_pop mt_popAt (pe_var hN hv hd hcd) (pa_cons hg pa_nil hs) hbase hfew hline hs rfl) fun σ H Q ⟨e, Bx, s, q⟩ => ?_
  unfold xPopA at q
  split at q
  · rename_i hs
    obtain ⟨ds0, hds⟩ := Option.isSome_iff_exists.mp hs
    obtain ⟨p, xs0, y1, y2, y3, y4⟩ := s.own hds
    refine ⟨_, y2, .inl ⟨rfl, _, .inl (.inl y3)⟩, e, Bx, s, run_mono (bind_run q) (fun k e1 q v H1 p1 => ?_) fun _ z => z⟩
    cases k with
    | int j =>
      cases w : ownL i e1 with
      | none => rw [w] at q; exact q.elim
      | some ds =>
        rw [w] at q
        dsimp only at q
        split at q
        case isFalse => exact q.elim
        rename_i hmost
        obtain ⟨p', xs, z1, z2, z3, z4⟩ := p1.s.own w
        rw [y2] at z2; cases z2
        cases m : ixN ds.length j with
        | none => rw [m] at q; exact q.elim
        | some m' =>
          rw [m] at q
          dsimp only at q
          cases y : ds[m']? with
          | none => rw [y] at q; exact q.elim
          | some d =>
            rw [y] at q
            obtain ⟨u, hu, ru⟩ := z4.getD y
            obtain ⟨n1, n2, n3, n4⟩ := ixN_seq m
            obtain ⟨s', fr, le⟩ := p1.s.write z1 y2 z3 (z4.eraseIdx m')
            have hl := line63
            have := most_ok hmost
            exact ⟨p, xs, j, m', u, rfl, by rw [p1.o.int], z3, by omega, by omega, by rw [z4.length]; exact n1, hu, q _ _ (Post.after_o p1 (.mk0 fr le s' (rep_after ru fr le)))⟩
    | _ => exact q.elim
  · exact q.elim
end
end G
end L2
namespace L2
namespace G
open PySem PySem.Spec PyProof.Rows
section
variable {C : Ct} {X : Cx} {W : WX} {K : PySem.W.Frag} {Bx By S B : Addr → Prop} {io : List Nat} {σ σ' σ1 σ2 : L2.St} {H H' H1 H2 : Hp} {e0 e' e1 e2 : En} {e a b : Expr} {pos : Pos} {d d' : D} {v : V} {st : Stmt} {r : Rs} {p : Addr} {ds : List D} {xs : List V}

/-! ### raise X('..') -/
def sRaise (c : Nat) : SF := fun _ => .ex ⟨c, none⟩
theorem gs_raise {c : Nat} {x m : Str} {j : Nat} {p p2 cpos : Pos} {bmB : List Value} {Bs newId initId : String} (hK : X.K = C.K) (hc : X.calm = true) (tk : Takes X W) (F : ExcBaseFacts Bs newId initId bmB) (q : PySem.W.excIn C.K (C.cl c) bmB newId = true) (gC : X.mg x = some (.ref (C.cl c)))
    (kC : PySem.W.keepIn C.K (.ref (C.cl c)) = true) (h1 : PySem.W.subIn C.K (.ref (C.cl c)) (.type "BaseException") = some true) (h2 : PySem.W.typeIn C.K (.ref (C.cl c)) = some (.type "type")) (hg : Gl X x) (hdb : (x == ("__debug__" : Str)) = false := by decide) :
    GS C X W io (.Raise (some (.Call (.Name x p) [.Constant (.str m) j p2] [] cpos)) none pos) (sRaise c) := by
  rw [← hK] at q kC h1 h2
  exact ps_imp (ps_raise hc tk (pmk_own F q gC kC (raises_own h1 h2) hg hdb)) fun D σ H ⟨e, Bx, s, q⟩ => q _ _ σ H rfl ⟨rfl, fun _ z => (nomatch z), fun _ => rfl⟩ .refl

/-! ### try .. except X: .. except Y: .. -/
abbrev Hs := List ((Nat → Option Bool) × SF)
def pick : Hs → Exn → SF
  | [], x, _ => .ex x
  | (m, h) :: r, x, e => match m x.cls with
    | some true => h e
    | some false => pick r x e
    | none => .st
def sTry (f : SF) (l : Hs) : SF := fun e => match f e with
  | .ex x => pick l x (List.replicate e.length .un)
  | .ok fl e1 => .ok fl e1
  | .st => .st
inductive HdC (C : Ct) (X : Cx) (W : WX) : List ExceptHandler → Hs → List (Value × (Addr → Value → Option Addr → TS)) → Prop
  | nil : HdC C X W [] [] []
  | cons {x : Str} {c : Value} {m : Nat → Option Bool} {h : SF} {b₀ : Stmt} {suite : List Stmt} {np pos' : Pos} {hds : List ExceptHandler} {l : Hs} {tl : List (Value × (Addr → Value → Option Addr → TS))} (hc : Names X x c)
      (hm : ∀ k b, m k = some b → PySem.W.exmOne C.K (.ref (C.cl k)) c = some b)
      (hsu : ∀ (a : Addr) (oe : Obj) (pn : List (Addr × Obj)), GSs C (X.suite a ((a, oe) :: pn)) W [] (b₀ :: suite) h) (r : HdC C X W hds l tl) :
      HdC C X W (.ExceptHandler (some (.Name x np)) none (b₀ :: suite) pos' :: hds) ((m, h) :: l) ((c, fun _ _ _ => TDs C W [] h) :: tl)
theorem HdC.ok {hds : List ExceptHandler} {l : Hs} {tl : List (Value × (Addr → Value → Option Addr → TS))} (h : HdC C X W hds l tl) : HdsOk X hds tl := by
  induction h with
  | nil => exact .nil
  | cons hc hm hsu r ih => exact .cons hc (fun a oe cls d pn _ _ => hsu a oe pn) ih
theorem un_none {n i : Nat} {y : Sl} (h : (List.replicate n Sl.un)[i]? = some y) : y = .un := by
  rw [List.getElem?_replicate] at h
  split at h
  · exact (Option.some.inj h).symm
  · cases h
theorem SPost.lost (s : Sim K Bx σ H e0) (hl : σ'.length = σ.length) (f : Fr σ e0 H H') : SPost K Bx [] σ H e0 σ' H' (List.replicate e0.length .un) := by
  refine ⟨f, fun a ⟨i, d, h, _⟩ => ?_, fun a ⟨i, w, d, h, _⟩ => ?_, ⟨by rw [List.length_replicate, hl]; exact s.len, fun i d h => ?_, fun i w d h => ?_, fun i j w w' d d' a h => ?_, fun a z => f.there a (s.bx a z), fun i lo hi h => (by have := un_none h; cases this)⟩, fun i m => (by cases m), hl⟩
  all_goals (have := un_none h; cases this)
theorem pick_run {hds : List ExceptHandler} {l : Hs} {tl : List (Value × (Addr → Value → Option Addr → TS))} {Dd : Ends} {x : Exn} {cls : Value} {od : Option Addr} (h : HdC C X W hds l tl) (s : Sim C.K Bx σ H e0) (hl : σ'.length = σ.length) (f : Fr σ e0 H H') (hx : ExR C x cls od H')
    (q : (pick l x (List.replicate e0.length .un)).run (FlP C.K Bx [] σ H e0 Dd) (EX C W σ H e0)) : wMany C.K W Dd tl cls od σ' H' := by
  induction h with
  | nil => exact q cls od σ' H' hl hx f
  | @cons y c m h b₀ suite np pos' hds l tl hc hm hsu r ih =>
    unfold pick at q
    cases z : m x.cls with
    | none => rw [z] at q; exact q.elim
    | some b =>
      rw [z] at q
      have e1 := hm _ _ z
      rw [← hx.1] at e1
      refine ⟨b, e1, fun hb a _ => ?_, fun hb => ?_⟩
      · subst hb
        have sp := SPost.lost s hl f
        exact ⟨_, Bx, sp.s, run_after sp q⟩
      · subst hb
        exact ih q
theorem gs_try {h₀ : ExceptHandler} {body : List Stmt} {hds : List ExceptHandler} {f : SF} {l : Hs} {tl : List (Value × (Addr → Value → Option Addr → TS))} (hK : X.K = C.K) (hs : X.stack = X.env :: X.outer) (hf : X.env.frame = some X.env.locals) (tk : Takes X W)
    (hb : ∀ (W : WX) (pn : List (Addr × Obj)) (xe : Value → Shared → Prop), Takes (X.tr pn xe) W → PassesOwn (model X.prog X.w) X.A X.env xe → GSs C (X.tr pn xe) W [] body f) (hh : HdC C X W (h₀ :: hds) l tl) : GS C X W [] (.Try body (h₀ :: hds) [] [] pos) (sTry f l) := by
  refine ps_imp (ps_try_many hs hf tk (tb := fun W => TDs C W [] f) hb hh.ok) fun Dd σ H ⟨e, Bx, s, q⟩ => ⟨e, Bx, s, ?_⟩
  rw [hK]
  unfold sTry at q
  cases z : f e with
  | st => rw [z] at q; exact q.elim
  | ok fl e1 => rw [z] at q; exact q
  | ex x =>
    rw [z] at q
    exact fun cls od σ' H' hl hx fr => pick_run hh s hl fr hx q

/-! ### a, b = x, y -/
theorem gV_post {i : Nat} (h : Holds K Bx σ H e0 r v) (hg : gV i r e0 = some e') (hio : i ∉ io) : GPost K Bx io σ H e0 r v (σ.set i (some v)) e' := by
  unfold gV at hg
  split at hg
  · rename_i hl
    cases hg
    obtain ⟨d, fr⟩ := r
    cases fr with
    | false =>
      obtain ⟨s, rp⟩ := h
      obtain ⟨s', wr, av⟩ := s.setSh hl rp
      exact ⟨s', fun a z => .inl (wr a z), fun a z => .inl (av a z), fun j m => st_set fun z => hio (z ▸ m), by simp⟩
    | true =>
      obtain ⟨p, rfl, nb, s, t⟩ := h
      obtain ⟨s', wr, av⟩ := s.setOw nb hl t
      exact ⟨s', fun a z => (wr a z).imp id fun z => ⟨rfl, by rw [z]⟩, fun a z => (av a z).imp id fun z => ⟨rfl, by rw [z]⟩, fun j m => st_set fun z => hio (z ▸ m), by simp⟩
  · cases hg
def sPar (i j : Nat) (f g : XF) : SF := fun e => (f e).bind fun r1 e1 => (g e1).bind fun r2 e2 => match gV j r2 e2 with
  | some e3 => (match gV i r1 e3 with | some e4 => .ok .nx e4 | none => .st)
  | none => .st
theorem par_run {i j : Nat} {f g : XF} {Dd : Ends} (hij : i ≠ j) (hi : i ∉ io) (hj : j ∉ io) (h : TDs C W io (sPar i j f g) Dd σ H) : tPar i j (tCons (TD C W f) (tCons (TD C W g) tNil)) Dd σ H := by
  obtain ⟨e, Bx, s, q⟩ := h
  refine ⟨e, Bx, s, run_mono (bind_run q) (fun r1 e1 q v1 H1 p1 => ?_) fun _ z => z⟩
  obtain ⟨d1, f1⟩ := r1
  have i1 := p1.is
  -- what the second value's part may not touch
  have fin : ∀ (By : Addr → Prop), Sim C.K By σ H1 e1 → (∀ {r2 : Rs} {e2 e3 : En} {v2 : V} {H2 : Hp} {σ2 : L2.St}, Fr σ e1 H1 H2 → (∀ a, Av σ2 e3 a → Av σ e1 a ∨ H1 a = none) → Sim C.K By σ2 H2 e3 → Holds C.K Bx σ2 H2 e3 ⟨d1, f1⟩ v1) →
      TD C W g σ H1 fun w H2 => ∃ v w', [v1, w] = [v, w'] ∧ Dd.nx ((σ.set i (some v)).set j (some w')) H2 := fun By sB k => by
    refine ⟨e1, By, sB, run_mono (bind_run q) (fun r2 e2 q v2 H2 p2 => ?_) fun _ z => EX.after z p1.fr p1.le⟩
    cases z : gV j r2 e2 with
    | none => rw [z] at q; exact q.elim
    | some e3 =>
      rw [z] at q
      dsimp only at q
      have g2 := gV_post p2.is z hj
      have h3 := k (r2 := r2) (e2 := e2) (v2 := v2) p2.fr (fun a w => (g2.av a w).elim (fun w => .inl (p2.le.av a w)) fun w => .inr (p2.new w.1 a w.2)) g2.s
      cases z' : gV i ⟨d1, f1⟩ e3 with
      | none => rw [z'] at q; exact q.elim
      | some e4 =>
        rw [z'] at q
        have g1 := gV_post h3 z' hi
        have wr2 : ∀ a, Wr (σ.set j (some v2)) e3 a → Wr σ e a ∨ H a = none := fun a w => (g2.wr a w).elim (fun w => .inl (p1.le.wr a (p2.le.wr a w))) fun w => .inr (p1.fr.new (p2.new w.1 a w.2))
        have av2 : ∀ a, Av (σ.set j (some v2)) e3 a → Av σ e a ∨ H a = none := fun a w => (g2.av a w).elim (fun w => .inl (p1.le.av a (p2.le.av a w))) fun w => .inr (p1.fr.new (p2.new w.1 a w.2))
        refine ⟨v1, v2, rfl, ?_⟩
        rw [← List.set_comm _ _ (Ne.symm hij)]
        exact q _ _ ⟨p1.fr.trans p1.le p2.fr, fun a w => (g1.wr a w).elim (wr2 a) fun w => .inr (p1.new w.1 a w.2), fun a w => (g1.av a w).elim (av2 a) fun w => .inr (p1.new w.1 a w.2), g1.s, fun k m => (g1.io k m).trans (g2.io k m), g1.len.trans g2.len⟩
  have an : ∀ {By : Addr → Prop} {σ2 : L2.St} {e3 : En} {H2 : Hp}, (∀ a, Av σ2 e3 a → Av σ e1 a ∨ H1 a = none) → ∀ a, Avo By σ2 e3 a → H1 a ≠ none → Avo By σ e1 a := fun av a z n => z.elim (fun z => (av a z).elim .inl fun z => absurd z n) .inr
  cases f1 with
  | false => exact fin Bx i1.1 fun f av s3 => ⟨s3, i1.2.go (f.anti fun a z => .inl z.av) fun a z n => an (H2 := H1) av a z n⟩
  | true =>
    obtain ⟨p, rfl, nb, sp, t⟩ := i1
    refine fin (ad Bx p) sp fun f av s3 => ⟨p, rfl, nb, s3, t.go (f.anti fun a z => .inl z.av) (fun a z n => an (H2 := H1) av a z n) fun o w => f.keep p o w fun z => ?_⟩
    obtain ⟨k, dk, y1, y2⟩ := z
    obtain ⟨b, y3, y4, _⟩ := sp.ow k true dk y1
    rw [y2] at y3; cases y3
    exact y4 (.inr rfl)
theorem gs_par {i j : Nat} {x y : Str} {f g : XF} {px py pt : Pos} {kt k2 pt2} (hc : X.calm = true) (hN : X.N.Nodup) (hi : X.N[i]? = some x) (hj : X.N[j]? = some y) (hij : i ≠ j) (hx : X.env.scope.names.lookup x = some .local) (hy : X.env.scope.names.lookup y = some .local)
    (hf : GE C X W a f) (hg : GE C X W b g) (hi' : i ∉ io) (hj' : j ∉ io)
    (hw : swappedStores [.Tuple [.Name x px, .Name y py] kt pt] (.Tuple [a, b] k2 pt2) X.env = pure (some [x, y]))
    (h1 : starEach [a, b] X.env = (false, eval a X.env) :: starEach [b] X.env := by rfl) (h2 : starEach [b] X.env = (false, eval b X.env) :: starEach [] X.env := by rfl)
    (hs : swapsWithSole [.Tuple [.Name x px, .Name y py] kt pt] (.Tuple [a, b] k2 pt2) pos.line X.env = pure false := by rfl) :
    GS C X W io (.Assign [.Tuple [.Name x px, .Name y py] kt pt] (.Tuple [a, b] k2 pt2) pos) (sPar i j f g) :=
  ps_imp (ps_par hc hN hi hj hij hx hy (pa_cons hf (pa_cons hg pa_nil h2) h1) hw hs) fun _ _ _ h => par_run hij hi' hj' h

/-! ### [f, g][k](..) -/
inductive Sel (C : Ct) (X : Cx) (k n : Nat) : List Expr → List XF → List Addr → Prop
  | nil : Sel C X k n [] [] []
  | cons {x : Str} {np : Pos} {f : Addr} {fd : FuncData} {ps : List Str} {φ : XF} {es : List Expr} {φs : List XF} {as : List Addr} (F : FnG X.prog X.w C.K X.mg X.base k f fd ps (spF C (List.replicate n false) φ)) (hm : X.mg x = some (.ref f)) (kp : PySem.W.keepIn C.K (.ref f) = true) (b : Binds C.K fd ps [])
      (hg : Gl X x) (hd : (x == ("__debug__" : Str)) = false) (hs : starEach (.Name x np :: es) X.env = (false, eval (.Name x np) X.env) :: starEach es X.env) (r : Sel C X k n es φs as) : Sel C X k n (.Name x np :: es) (φ :: φs) (f :: as)
theorem Sel.add {k j n : Nat} {x : Str} {np : Pos} {φ : XF} {es : List Expr} {φs : List XF} (F : GF C X.prog X.w X.mg X.base j x (List.replicate n false) φ) (hk : j ≤ k) (hg : Gl X x) (r : ∃ as, Sel C X k n es φs as) (hd : (x == ("__debug__" : Str)) = false := by decide)
    (hs : starEach (.Name x np :: es) X.env = (false, eval (.Name x np) X.env) :: starEach es X.env := by rfl) : ∃ as, Sel C X k n (.Name x np :: es) (φ :: φs) as := by
  obtain ⟨f, fd, ps, Fk, hm, kp, b⟩ := F.ex
  obtain ⟨as, r⟩ := r
  exact ⟨_, .cons (Fk.mono hk) hm kp b hg hd hs r⟩
theorem Sel.pa {k n : Nat} {es : List Expr} {φs : List XF} {as : List Addr} (h : Sel C X k n es φs as) : PA X es (fun _ H Q => Q (as.map V.ref) H) := by
  induction h with
  | nil => exact pa_nil
  | cons F hm kp b hg hd hs r ih => exact pa_imp (pa_cons (pe_glob hg hm (v := V.ref _) rfl hd) ih hs) fun _ _ _ h => h
theorem Sel.at {k n : Nat} {es : List Expr} {φs : List XF} {as : List Addr} (h : Sel C X k n es φs as) : as.length = φs.length ∧ ∀ (i : Nat) φ, φs[i]? = some φ → ∃ f fd ps, as[i]? = some f ∧ FnG X.prog X.w C.K X.mg X.base k f fd ps (spF C (List.replicate n false) φ) ∧ PySem.W.keepIn C.K (.ref f) = true ∧ Binds C.K fd ps [] := by
  induction h with
  | nil => exact ⟨rfl, fun i φ h => by simp at h⟩
  | cons F hm kp b hg hd hs r ih =>
    refine ⟨by simp [ih.1], fun i φ h => ?_⟩
    cases i with
    | zero => simp at h; subst h; exact ⟨_, _, _, rfl, F, kp, b⟩
    | succ i => simpa using ih.2 i φ (by simpa using h)
def xSel (n : Nat) (φs : List XF) (f : XF) (g : En → Res (List D)) : XF := fun e => if φs.length ≤ 100 then (f e).bind fun r e1 => match r.d with
  | .int j => (match atI φs j with | some φ => xCall0 n φ g e1 | none => .st)
  | _ => .st else .st
theorem ge_sel {k n : Nat} {names as : List Expr} {φs : List XF} {f : XF} {g : En → Res (List D)} {ix : Expr} {lp sp : Pos} (S : ∃ as, Sel C X k n names φs as) (hK : X.K = C.K) (tk : Takes X W) (hr : Rm k X.A) (hi : GE C X W ix f) (hix : PlainIx ix) (ha : GA C X W (a :: as) g)
    (he : starEach (a :: as) X.env = (false, eval a X.env) :: starEach as X.env := by rfl) (hpl : (backTo pos (starEach as X.env)).any (·.1) = false := by rfl)
    (hcall : eval (.Call (.Subscript (.List names lp) ix sp) (a :: as) [] pos) X.env = (do callWith pos (← eval (.Subscript (.List names lp) ix sp) X.env) [] (backTo pos (starEach (a :: as) X.env)) (backToKw pos (keywordEach [] X.env))) := by rfl) :
    GE C X W (.Call (.Subscript (.List names lp) ix sp) (a :: as) [] pos) (xSel n φs f g) := by
  obtain ⟨fs, S⟩ := S
  refine ⟨fun pins s σ H Q I ⟨e, Bx, si, q⟩ => ?_⟩
  obtain ⟨hlen, hat⟩ := S.at
  unfold xSel at q
  split at q
  case isFalse => exact q.elim
  rename_i h100
  refine PyProof.Rows.Call_ (thn ((pe_ix ix_list (pe_lst S.pa) hi hix).run pins s σ H (fun x H1 => ∃ (F : Addr) (fd : FuncData) (ps : List Str) (φ : XF), x = .ref F ∧ FnG X.prog X.w C.K X.mg X.base k F fd ps (spF C (List.replicate n false) φ) ∧ PySem.W.keepIn C.K (.ref F) = true ∧ Binds C.K fd ps [] ∧
    tCallS (spF C (List.replicate n false) φ) (WE W) (TDa C W g) σ H1 Q) I ?_) fun fv s1 ⟨x, H1, I1, r1, F, fd, ps, φ, ex, Fk, kp, b, q1⟩ => ?_) hcall
  · refine ⟨by rw [List.length_map, hlen]; exact Nat.le_trans h100 (most_ok (by decide)), fun p0 hp => ?_⟩
    have f0 : Fr σ e H (upd H p0 (.lst (fs.map V.ref))) := Kp.new hp
    refine ⟨e, Bx, si.heap (ext_new hp), run_mono (bind_run q) (fun r e1 q v H1 p1 => ?_) fun _ z => EX.after z f0 .refl⟩
    obtain ⟨d, fr⟩ := r
    cases d with
    | int j =>
      have rp := p1.rp
      cases rp
      dsimp only at q
      cases z : atI φs j with
      | none => rw [z] at q; exact q.elim
      | some φ =>
        rw [z] at q
        have z' := z
        unfold atI at z'
        cases y : ixN φs.length j with
        | none => rw [y] at z'; cases z'
        | some m =>
          rw [y] at z'
          obtain ⟨F, fd, ps, h1, h2, h3, h4⟩ := hat m φ z'
          have nw : ¬ Wr σ e p0 := fun z => si.there z.av hp
          refine ⟨p0, fs.map V.ref, j, V.ref F, rfl, rfl, .inl (.inl (p1.fr.keep p0 _ upd_same nw)), ?_, F, fd, ps, φ, rfl, h2, h3, h4, call0_run ⟨e1, Bx, p1.s, run_mono q (fun r e2 q v H2 p2 => q v H2 ?_) fun _ z => EX.after (EX.after z f0 .refl) p1.fr p1.le⟩⟩
          · unfold atI
            rw [List.length_map, hlen, y]
            simp [h1]
          · have p3 := p1.after p2
            exact ⟨f0.trans .refl p3.fr, p3.le, p3.is, fun z u w => Classical.byContradiction fun o => by
              have h5 := p3.new z u w
              exact f0.there u o h5⟩
    | _ => exact q.elim
  · subst ex
    cases (show fv = Value.ref F from r1)
    rw [← hK] at Fk kp b
    refine PySem.W.callWith_K (h₀ := X.base) I1.ok.mod.kin kp (thn (ha.run pos pins s1 σ H1 _ I1 q1) fun us s2 ⟨vs, H2, I2, r2, q2⟩ => ⟨I2.kIn, ?_⟩) he hpl
    exact run_fnG Fk hr b tk I2 r2 q2

/-! ### methods of texts, with one argument -/
def OkM (C : Ct) (F : Str → D → Option Rs) (r : V → List V → Hp → VK → Prop) : Prop := ∀ (Bx : Addr → Prop) (σ : L2.St) (H : Hp) (e0 : En) (x : Str) (d2 : D) (v2 : V) (z : Rs) (Q : VK), F x d2 = some z → Sim C.K Bx σ H e0 →
  Opd C.K H (Avo Bx σ e0) v2 d2 → (∀ v H', Post C.K Bx σ H e0 z e0 v H' → Q v H') → r (.str x) [v2] H Q
def xM1 (F : Str → D → Option Rs) (f : XF) (g : En → Res D) : XF := fun e => (f e).bind fun r e1 => match r.d with
  | .str x => (g e1).bind fun y e2 => (match F x y with | some r => .ok r e2 | none => .st)
  | _ => .st
theorem ge_m1 {id : String} {name : Str} {apos : Pos} {rr : V → List V → Hp → VK → Prop} {F : Str → D → Option Rs} {f : XF} {g : En → Res D} (slot : Slot "str" name id) (hty : typeOf (.builtin id) = pure (.type "method_descriptor")) (hm : MtR X id rr) (ho : OkM C F rr) (ha : GE C X W a f) (hb : GO C X W b g)
    (hbase : attributeBase a name X.env (eval a X.env) = eval a X.env := by rfl)
    (hfew : ((backTo pos (starEach [b] X.env)).all (fun x => !x.1) && (backToKw pos (keywordEach [] X.env)).all (fun x => x.1.isSome)
      && decide (([b] : List Expr).length + ([] : List Keyword).length + (if ([] : List Keyword).isEmpty then 0 else 1) < 30)) = true := by rfl)
    (hline : (apos.endLine == pos.line) = true := by rfl) (hs : starEach [b] X.env = (false, eval b X.env) :: starEach [] X.env := by rfl) : GE C X W (.Call (.Attribute a name apos) [b] [] pos) (xM1 F f g) := by
  refine pe_imp (pe_bm PySem.F.plainAttrs_str slot hty hm ha (pa_cons hb pa_nil hs) hbase hfew hline hs rfl) fun σ H Q ⟨e, Bx, s, q⟩ => ⟨e, Bx, s, run_mono (bind_run q) (fun r e1 q v H1 p1 => ?_) fun _ z => z⟩
  obtain ⟨d, fr⟩ := r
  cases d with
  | str x =>
    have rp := p1.rp
    cases rp
    refine ⟨rfl, e1, Bx, p1.s, run_mono (bind_run q) (fun y e2 q w H2 p2 => ?_) fun _ z => EX.after z p1.fr p1.le⟩
    cases z : F x y with
    | none => rw [z] at q; exact q.elim
    | some r => rw [z] at q; exact ho Bx σ H2 e2 x y w r Q z p2.s p2.o fun v H3 p3 => q v H3 (p1.after (Post.after_o p2 p3))
  | _ => exact q.elim
theorem reps_strs {K : PySem.W.Frag} : ∀ ys : List Str, Reps K H B (ys.map V.str) (ys.map PyData.str)
  | [] => .nil
  | _ :: ys => .cons (.str _) (reps_strs ys)
def fSplit : Str → D → Option Rs := fun x y => match y with
  | .str b => if !(b.length == 0) && decide (x.length + 2 ≤ most) then some ⟨.list ((Txt.split x b).map PyData.str), true⟩ else none
  | _ => none
theorem ok_split : OkM C fSplit (fun x xs H Q => ∃ a b, x = .str a ∧ xs = [.str b] ∧ (b.length == 0) = false ∧ a.length + 2 ≤ sizeLine ∧ rNewStrs (Txt.split a b) H Q) := by
  intro Bx σ H e0 x d2 v2 z Q hz s o q
  cases d2 <;> try (cases hz; done)
  simp only [fSplit] at hz
  split at hz
  · rename_i h
    cases hz
    simp only [Bool.and_eq_true, Bool.not_eq_true', decide_eq_true_eq] at h
    exact ⟨x, _, rfl, by rw [o.str], h.1, most_ok h.2, fun p hp => q _ _ (.newL s hp (reps_strs _))⟩
  · cases hz
def strsD : List D → Option (List Str)
  | [] => some []
  | .str i :: ds => (strsD ds).map (i :: ·)
  | _ => none
theorem strs_reps : ∀ {ds : List D} {xs : List V} {ns : List Str}, strsD ds = some ns → Reps K H B xs ds → xs = ns.map V.str
  | [], _, _, h, r => by cases r; cases h; rfl
  | .str i :: ds, _, _, h, r => by
    cases r with
    | cons a b =>
      cases a
      unfold strsD at h
      cases z : strsD ds with
      | none => rw [z] at h; cases h
      | some ns => rw [z] at h; cases h; rw [strs_reps z b]; rfl
  | .none :: _, _, _, h, _ => by cases h
  | .bool _ :: _, _, _, h, _ => by cases h
  | .int _ :: _, _, _, h, _ => by cases h
  | .list _ :: _, _, _, h, _ => by cases h
  | .tuple _ :: _, _, _, h, _ => by cases h
  | .dict _ :: _, _, _, h, _ => by cases h
def fJoin : Str → D → Option Rs := fun x y =>
  let k := fun (ds : List D) => (strsD ds).bind fun ys => if decide ((ys.map (·.length)).sum + ys.length * x.length ≤ most) then some (⟨.str (Txt.join x ys), false⟩ : Rs) else none
  match y with
  | .list ds => k ds
  | .tuple ds => k ds
  | _ => none
theorem ok_join : OkM C fJoin (fun x xs H Q => ∃ a p, ∃ ys : List Str, x = .str a ∧ xs = [.ref p] ∧ (SqL C.K H p (ys.map V.str) ∨ SqT C.K H p (ys.map V.str)) ∧
    (ys.map (·.length)).sum + ys.length * a.length ≤ 16777216 ∧ Q (.str (Txt.join a ys)) H) := by
  intro Bx σ H e0 x d2 v2 z Q hz s o q
  have hmost : most ≤ 16777216 := by decide
  unfold fJoin at hz
  cases d2 <;> try (cases hz; done)
  all_goals
    rename_i ds
    simp only at hz
    cases w : strsD ds with
    | none => rw [w] at hz; cases hz
    | some ys =>
      rw [w] at hz
      simp only [Option.bind_some] at hz
      split at hz
      case isFalse => cases hz
      rename_i hl
      cases hz
      simp only [decide_eq_true_eq] at hl
      first
        | (obtain ⟨a, xs, rfl, hq, rs⟩ := o.list
           obtain rfl := strs_reps w rs
           exact ⟨x, a, ys, rfl, rfl, .inl (.inl (.inl hq)), Nat.le_trans hl hmost, q _ _ (post_s s)⟩)
        | (obtain ⟨a, xs, rfl, hq, rs⟩ := o.tuple
           obtain rfl := strs_reps w rs
           exact ⟨x, a, ys, rfl, rfl, .inr hq, Nat.le_trans hl hmost, q _ _ (post_s s)⟩)
end
end G
end L2
namespace L2
namespace G
open PySem PySem.Spec PyProof.Rows
section
variable {C : Ct} {X : Cx} {W : WX} {K : PySem.W.Frag} {Bx By S B : Addr → Prop} {io : List Nat} {σ σ' σ1 σ2 : L2.St} {H H' H1 H2 : Hp} {e0 e' e1 e2 : En} {e a b : Expr} {pos : Pos} {d d' : D} {v : V} {st : Stmt} {r : Rs} {p : Addr} {ds : List D} {xs : List V}
variable {P : Program} {w : World} {mg : Str → Option Value} {base : Heap}

/-! ### what stands at the top -/
/-- a value of the written part as data -/
def repIn (K : PySem.W.Frag) : Nat → Value → D → Bool
  | 0, _, _ => false
  | n + 1, u, d => match u, d with
    | .none, .none => true
    | .bool b, .bool c => decide (b = c)
    | .int i _, .int j => decide (i = j)
    | .str x _, .str y => decide (x = y)
    | .ref a, .tuple ds => (match K.lookup a with
      | some ⟨.type "tuple", _, .seq its _, _⟩ => decide (its.size ≤ most) && decide (its.toList.length = ds.length) && (its.toList.zip ds).all fun q => repIn K n q.1 q.2
      | _ => false)
    | _, _ => false
theorem vals_in {K : PySem.W.Frag} {H : Hp} {B : Addr → Prop} {n : Nat} (ih : ∀ (u : Value) (d : D), repIn K n u d = true → ∃ v, RelV v u ∧ ∀ H B, Rep K H B v d) : ∀ {its : List Value} {ds : List D}, its.length = ds.length → ((its.zip ds).all fun q => repIn K n q.1 q.2) = true → ∃ vs, Vals vs its ∧ ∀ H B, Reps K H B vs ds
  | [], [], _, _ => ⟨[], .nil, fun _ _ => .nil⟩
  | u :: its, d :: ds, hl, h => by
    rw [List.zip_cons_cons, List.all_cons, Bool.and_eq_true] at h
    obtain ⟨v, h1, h2⟩ := ih u d h.1
    obtain ⟨vs, h3, h4⟩ := vals_in (H := H) (B := B) ih (by simpa using hl) h.2
    exact ⟨v :: vs, .cons h1 h3, fun H B => .cons (h2 H B) (h4 H B)⟩
  | [], _ :: _, hl, _ => by simp at hl
  | _ :: _, [], hl, _ => by simp at hl
theorem rep_in {K : PySem.W.Frag} : ∀ (n : Nat) (u : Value) (d : D), repIn K n u d = true → ∃ v, RelV v u ∧ ∀ H B, Rep K H B v d
  | 0, _, _, h => by cases h
  | n + 1, u, d, h => by
    unfold repIn at h
    split at h
    · exact ⟨.non, rfl, fun _ _ => .non⟩
    · rw [decide_eq_true_eq] at h; subst h; exact ⟨.bl _, rfl, fun _ _ => .bl _⟩
    · rw [decide_eq_true_eq] at h; subst h; exact ⟨.int _, ⟨_, rfl⟩, fun _ _ => .int _⟩
    · rw [decide_eq_true_eq] at h; subst h; exact ⟨.str _, ⟨_, rfl⟩, fun _ _ => .str _⟩
    · rename_i a ds
      split at h
      · rename_i dd its k sl q
        simp only [Bool.and_eq_true, decide_eq_true_eq] at h
        obtain ⟨⟨h1, h2⟩, h3⟩ := h
        obtain ⟨vs, r1, r2⟩ := vals_in (H := fun _ => none) (B := fun _ => True) (rep_in n) h2 h3
        exact ⟨.ref a, rfl, fun H B => .tup (.inr ⟨_, its, k, q, rfl, rfl, most_ok h1, r1⟩) (r2 H B)⟩
      · cases h
    · cases h
structure GlobF (C : Ct) (mg : Str → Option Value) (x : Str) (d : D) : Prop where
  ex : ∃ v u, mg x = some u ∧ RelV v u ∧ ∀ H B, Rep C.K H B v d
theorem globF_mk {h : Heap} {x : Str} {u : Value} {d : D} (X : C.K.In h) (G : h.Ns mainGlobals mg) (a : PySem.W.nsIn C.K mainGlobals x = some (some u)) (r : repIn C.K 30 u d = true) : GlobF C mg x d := by
  obtain ⟨v, h1, h2⟩ := rep_in 30 u d r
  exact ⟨v, u, PySem.W.mg_of X G a, h1, h2⟩
theorem ge_g {x : Str} (hg : Gl X x) (h : GlobF C X.mg x d) (hd : (x == ("__debug__" : Str)) = false := by decide) : GE C X W (.Name x pos) (xC d) := by
  obtain ⟨v, u, h1, h2, h3⟩ := h.ex
  exact ge_glob hg h1 h2 h3 hd
/-- a def of the top -/
def DefF (C : Ct) (mg : Str → Option Value) (x : Str) (st : Stmt) (ps : List Str) : Prop := ∃ f fd, Fun C.K x x st f fd ∧ mg x = some (.ref f) ∧ Binds C.K fd ps []
theorem GF.mono {k j : Nat} {x : Str} {pat : List Bool} {φ : XF} (h : GF C P w mg base k x pat φ) (hk : k ≤ j) : GF C P w mg base j x pat φ := h.imp (fun _ => .inr rfl) hk
/-- the rule of a def -/
theorem gf_def {k n : Nat} {x : Str} {st : Stmt} {N ps : List Str} {pat : List Bool} {body : SF} {φ : XF} (h : DefF C mg x st ps) (Sc : FnScope N ps (defScope st)) (hp : ps.length = pat.length) (hn : N.length - ps.length = n) (hφ : φ = fnD body pat n)
    (hb : ∀ (f : Addr) (cdv : Value) (A : Around) (outer : List Env) (s : Shared) (H : Hp) (E : XK), Rm k (A.deeper (envOfC x (defScope st) s.heap.objs.size f cdv)) →
      GSs C (cxOf (L2.CX P w) P w C.K mg base N x (defScope st) f cdv A outer s H E) (fun cls d _ H => E cls d H) (ioP 0 pat) (defBody st) body) : GF C P w mg base (k + 1) x pat φ := by
  obtain ⟨f, fd, Fk, hm, bd⟩ := h
  subst hφ hn
  exact gf_mk Fk hm bd Sc hp fun cdv A outer s H E hr => hb f cdv A outer s H E hr
theorem glk {x : Str} (h : X.env.kindOf x = some .globalImplicit) : Gl X x := h
theorem hu64 {A : Around} {k : Nat} (hr : Rm k A) : A.units + 64 < cLine := by have := hr.r.un; omega
theorem oth_not {n i : Nat} {vs : List Nat} (h : i ∈ vs) : i ∉ oth n vs := fun z => by
  have := (List.mem_filter.mp z).2
  simp [h] at this
/-- an own class of exceptions over ValueError, without own field -/
structure ExcF (C : Ct) (mg : Str → Option Value) (c : Nat) (x : Str) : Prop where
  q : PySem.W.excIn C.K (C.cl c) [.type "ValueError", .type "Exception", .type "BaseException", .type "object"] "ValueError.__new__" = true
  g : mg x = some (.ref (C.cl c))
  k : PySem.W.keepIn C.K (.ref (C.cl c)) = true
  b : PySem.W.subIn C.K (.ref (C.cl c)) (.type "BaseException") = some true
  t : PySem.W.typeIn C.K (.ref (C.cl c)) = some (.type "type")
theorem ExcF.raise {c : Nat} {x m : Str} {j : Nat} {p p2 cpos : Pos} (T : ExcF C X.mg c x) (hK : X.K = C.K) (hc : X.calm = true) (tk : Takes X W) (hg : Gl X x) (hdb : (x == ("__debug__" : Str)) = false := by decide) :
    GS C X W io (.Raise (some (.Call (.Name x p) [.Constant (.str m) j p2] [] cpos)) none pos) (sRaise c) := gs_raise hK hc tk PySem.F.excBase_ValueError T.q T.g T.k T.b T.t hg hdb
/-! f() -/
def xCallN (φ : XF) : XF := fun e => match φ [] with
  | .ok r _ => .ok r e
  | .ex x => .ex x
  | .st => .st
theorem ge_callN {k : Nat} {φ : XF} {x : Str} {np : Pos} (F : GF C X.prog X.w X.mg X.base k x [] φ) (hK : X.K = C.K) (tk : Takes X W) (hr : Rm k X.A) (hg : Gl X x) (hdb : (x == ("__debug__" : Str)) = false := by decide) : GE C X W (.Call (.Name x np) [] [] pos) (xCallN φ) := by
  obtain ⟨f, fd, ps, Fk, hm, kp, b⟩ := F.ex
  rw [← hK] at Fk kp b
  refine ⟨fun pins s σ H Q I h => ?_⟩
  refine wpAny_Call_Name_kw (ld_glob I hg hm ?_ hdb)
  refine PySem.W.callWith_K0 I.kIn kp ?_
  refine run_fnG (vs := []) Fk hr b tk I .nil ?_
  have q : TD C W (xCall0 0 φ xNil) σ H Q := by
    obtain ⟨e, Bx, s, q⟩ := h
    refine ⟨e, Bx, s, ?_⟩
    unfold xCallN at q
    unfold xCall0 xNil Res.bind
    simp only [List.length_nil, if_true, List.map_nil]
    cases z : φ [] with
    | st => rw [z] at q; exact q
    | ok r e' => rw [z] at q; exact q
    | ex y => rw [z] at q; exact q
  obtain ⟨e, Bx, s, q⟩ := call0_run q
  exact q [] H ⟨.refl, .refl, s, .nil⟩
/-! ### what is walked, of any kind: a list, a tuple, a text -/
def iAny (K : PySem.W.Frag) (tl : TE) : TI := fun σ H R => tl σ H fun x H1 => (∃ a, x = .ref a ∧ (∃ xs, SqL K H1 a xs) ∧ R (Itl K a) H1) ∨ (∃ a, x = .ref a ∧ (∃ xs, SqT K H1 a xs) ∧ R (Itt K a) H1) ∨ ∃ y, x = .str y ∧ R (Its y) H1
theorem pi_any {tg l : Expr} {tl : TE} (hl : PE X l tl) : PI X tg l (iAny X.K tl) := by
  refine ⟨fun pins s σ H R I h => ?_⟩
  refine thn (hl.run pins s σ H _ I h) fun v s1 ⟨x, H1, I1, r1, q1⟩ => ?_
  rcases q1 with ⟨a, e, ⟨xs, hq⟩, q⟩ | ⟨a, e, ⟨xs, hq⟩, q⟩ | ⟨y, e, q⟩
  · subst e
    cases r1
    obtain ⟨its, rv, p, hz⟩ := I1.list hq
    refine wpAny_pyIter_list p.isList ?_
    refine ⟨s1.heap.objs.size, [s1.heap.objs.size], _, _, H1, rfl, I1.kept (t' := s1.toks) fun b o e => Heap.get?_push_of_some _ e, turn_list a _, ⟨_, Heap.get?_push_size _ rfl, rfl, rfl⟩, fun b hb => ?_, q⟩
    have e : b = s1.heap.objs.size := by simpa using hb
    subst e
    exact I1.fpOk (Nat.le_refl _) (I1.hok.fresh (Nat.le_refl _))
  · subst e
    cases r1
    obtain ⟨its, rv, p, hz⟩ := I1.tuple hq
    refine wpAny_pyIter_tuple (show s1.heap.IsTuple a its.toArray from p) ?_
    refine ⟨s1.heap.objs.size, [s1.heap.objs.size], _, _, H1, rfl, I1.kept (t' := s1.toks) fun b o e => Heap.get?_push_of_some _ e, turn_tuple a _, ⟨_, Heap.get?_push_size _ rfl, rfl, rfl⟩, fun b hb => ?_, q⟩
    have e : b = s1.heap.objs.size := by simpa using hb
    subst e
    exact I1.fpOk (Nat.le_refl _) (I1.hok.fresh (Nat.le_refl _))
  · subst e
    obtain ⟨t, rfl⟩ := r1
    cases ha : y.cps.all (· < 128)
    · exact wpAny_pyIter_wide ha (pi_one (tk := s1.toks) I1 _ (turn_str _ y t "str_iterator" (.inr rfl)) ⟨_, Heap.get?_push_size _ rfl, rfl, rfl⟩ q)
    · exact wpAny_pyIter_ascii ha (pi_one (tk := s1.toks) I1 _ (turn_str _ y t "str_ascii_iterator" (.inl rfl)) ⟨_, Heap.get?_push_size _ rfl, rfl, rfl⟩ q)
def itemsD : D → Option (List D)
  | .list ds => some ds
  | .tuple ds => some ds
  | .str x => some (signs x)
  | _ => none
/-- an expression walked -/
def iA (f : XF) : En → Res (List D) := fun e => (f e).bind fun r e1 => match itemsD r.d with | some ds => .ok ds e1 | none => .st
theorem gi_a {tg : Expr} {f : XF} (hK : X.K = C.K) (h : GE C X W e f) : GI C X W tg e (iA f) := by
  refine pi_imp (pi_any h) fun σ H R ⟨e, Bx, s, q⟩ => ⟨e, Bx, s, run_mono (bind_run q) (fun r e1 q v H1 p => ?_) fun _ z => z⟩
  obtain ⟨d, fr⟩ := r
  have hp := p.rp
  have hs := p.s
  cases d with
  | list ds =>
    cases hp with
    | @lst l xs _ qd nb rs =>
      refine .inl ⟨l, rfl, ⟨xs, sql_rd qd⟩, q _ H1 ⟨p.fr, p.le, hs, ?_⟩⟩
      rw [hK]
      exact wk_list qd (fun z => nb z.avo) rs fun a z => z.avo
  | tuple ds =>
    cases hp with
    | @tup l xs _ qd rs =>
      rw [hK]
      exact .inr (.inl ⟨l, rfl, ⟨xs, qd⟩, q _ H1 ⟨p.fr, p.le, hs, wk_tup qd rs fun a z => z.avo⟩⟩)
  | str x => cases hp; exact .inr (.inr ⟨x, rfl, q _ H1 ⟨p.fr, p.le, hs, wk_str⟩⟩)
  | _ => exact q.elim
/-- a name walked: an own list is locked -/
def iN (i : Nat) : En → Res (List D) := fun e => (xB i e).bind fun d _ => match itemsD d with | some ds => .ok ds (lockE e i) | none => .st
theorem gi_n {i : Nat} {x : Str} {tg : Expr} (hK : X.K = C.K) (hN : X.N[i]? = some x) (hv : Vis X.env.scope x) (hd : (x == ("__debug__" : Str)) = false := by decide) (hcd : (x == ("__classdict__" : Str)) = false := by decide) : GI C X W tg (.Name x pos) (iN i) := by
  refine pi_imp (pi_any (pe_var hN hv hd hcd)) fun σ H R ⟨e, Bx, s, q⟩ => ?_
  obtain ⟨d, v, hx, hv', o, q⟩ := look_run s q
  obtain ⟨s', le⟩ := lock_le s i
  have an : ∀ a, Avo Bx σ (lockE e i) a → Avo Bx σ e a := Avo.le le
  cases d with
  | list ds =>
    obtain ⟨l, xs, rfl, qd, rs⟩ := o.list
    refine ⟨_, hv', .inl ⟨l, rfl, ⟨xs, sql_rd qd⟩, q _ H ⟨.refl, le, s', ?_⟩⟩⟩
    rw [hK]
    refine wk_list qd (fun z => ?_) (rs.anti an) fun a z => z.avo
    unfold xB at hx
    split at hx
    · rename_i d' h1
      cases hx
      obtain ⟨v, r1, r2⟩ := s.sh i _ h1
      rw [hv'] at r1; cases r1
      cases r2 with | lst _ nb _ => exact nb (z.elim (fun z => .inl (le.wr _ z).av) .inr)
    · rename_i w d' h1
      cases hx
      rcases z with ⟨j, d2, h2, h3⟩ | z
      case inr =>
        obtain ⟨a', t1, t2, _⟩ := s.ow i _ _ h1
        rw [hv'] at t1; cases t1
        exact t2 z
      have h2' : e[j]? = some (Sl.ow true d2) ∧ j ≠ i := by
        unfold lockE at h2
        rw [h1] at h2
        cases w with
        | true =>
          rcases set_look h2 with ⟨_, z⟩ | ⟨n, z⟩
          · cases z
          · exact ⟨z, n⟩
        | false =>
          refine ⟨h2, fun n => ?_⟩
          subst n; rw [h1] at h2; cases h2
      exact h2'.2 (s.inj j i _ _ _ _ l h2'.1 h1 h3 hv')
    · cases hx
  | tuple ds =>
    obtain ⟨l, xs, rfl, qd, rs⟩ := o.tuple
    refine ⟨_, hv', .inr (.inl ⟨l, rfl, ⟨xs, by rw [hK]; exact qd⟩, q _ H ⟨.refl, le, s', ?_⟩⟩)⟩
    rw [hK]
    exact wk_tup qd (rs.anti an) fun a z => z.avo
  | str x => exact ⟨_, hv', .inr (.inr ⟨x, o.str, q _ H ⟨.refl, le, s', wk_str⟩⟩)⟩
  | _ => exact q.elim
def sForN (i : Nat) (g : Rs → En → Option En) (b : SF) : SF := fun e => (sFor (iN i) g b e).bind fun fl e2 => match fl with | .rt r => .ok (.rt r) e2 | fl => .ok fl (relock e e2 i)
theorem gs_forN {i : Nat} {x : Str} {np : Pos} {tg : Expr} {body : List Stmt} {g : Rs → En → Option En} {f : SF} (hp : PassesOwn (model X.prog X.w) X.A X.env X.xe) (hc : X.calm = true) (hi : GI C X W tg (.Name x np) (iN i)) (hg : GG C X (i :: io) tg g) (hb : GSs C X W (i :: io) body f)
    (hs : ∀ z, foldedSetIterable (.Name x np) X.env z = pure z := by intro _; rfl) : GS C X W io (.For tg (.Name x np) body [] pos) (sForN i g f) :=
  ps_imp (ps_for hp hc hi hg hb hs) fun Dd σ H ⟨e, Bx, s, q⟩ => for_run ⟨e, Bx, s, run_mono (bind_run q) (fun fl e2 q => by
    cases fl with
    | nx => exact fun σ' H' p => q σ' H' p.relock
    | ct => exact fun σ' H' p => q σ' H' p.relock
    | rt r => exact fun σ' v H' p => q σ' v H' ⟨p.k, p.av, p.is, p.new, fun j m => p.io j (List.mem_cons_of_mem _ m)⟩) fun _ z => z⟩
end
end G
end L2
namespace L2
namespace G
open PySem PySem.Spec PyProof.Rows PySem.Calls
section
variable {C : Ct} {X : Cx} {K : PySem.W.Frag} {H : Hp} {B : Addr → Prop} {d : D} {ds : List D} {v : V} {xs : List V}
/-! ### sorted(xs), xs a list or a tuple of things that are alike -/
def insD (le : D → D → Bool) (x : D) : List D → List D
  | [] => [x]
  | y :: ys => if le x y then x :: y :: ys else y :: insD le x ys
def srtD (le : D → D → Bool) : List D → List D
  | [] => []
  | x :: xs => insD le x (srtD le xs)
abbrev leD : D → D → Bool := PySem.W.dataLe false fun d : D => d
theorem insD_filter {le : D → D → Bool} (h : PySem.W.TotalLe le) (c x : D) : ∀ ys : List D, (insD le x ys).filter (PySem.W.sameRank le c) = (x :: ys).filter (PySem.W.sameRank le c)
  | [] => rfl
  | y :: ys => by
    unfold insD
    split
    · rfl
    · rename_i n
      have ih := insD_filter h c x ys
      by_cases hy : PySem.W.sameRank le c y = true
      · by_cases hx : PySem.W.sameRank le c x = true
        · unfold PySem.W.sameRank at hx hy
          simp only [Bool.and_eq_true] at hx hy
          exact absurd (h.trans _ _ _ hx.2 hy.1) n
        · rw [List.filter_cons_of_pos hy, ih, List.filter_cons_of_neg hx, List.filter_cons_of_neg hx, List.filter_cons_of_pos hy]
      · rw [List.filter_cons_of_neg hy, ih]
        by_cases hx : PySem.W.sameRank le c x = true
        · rw [List.filter_cons_of_pos hx, List.filter_cons_of_pos hx, List.filter_cons_of_neg hy]
        · rw [List.filter_cons_of_neg hx, List.filter_cons_of_neg hx, List.filter_cons_of_neg hy]
theorem srtD_filter {le : D → D → Bool} (h : PySem.W.TotalLe le) (c : D) : ∀ xs : List D, (srtD le xs).filter (PySem.W.sameRank le c) = xs.filter (PySem.W.sameRank le c)
  | [] => rfl
  | x :: xs => by
    unfold srtD
    rw [insD_filter h, List.filter_cons, List.filter_cons, srtD_filter h c xs]
theorem insD_mem {le : D → D → Bool} {x y : D} : ∀ {ys : List D}, y ∈ insD le x ys → y = x ∨ y ∈ ys
  | [], m => by simpa [insD] using m
  | z :: ys, m => by
    unfold insD at m
    split at m
    · simpa using m
    · rcases List.mem_cons.mp m with m | m
      · exact .inr (List.mem_cons.mpr (.inl m))
      · exact (insD_mem m).imp id (List.mem_cons_of_mem _)
theorem insD_sorted {le : D → D → Bool} (h : PySem.W.TotalLe le) (x : D) : ∀ {ys : List D}, ys.Pairwise (fun a b => le a b = true) → (insD le x ys).Pairwise (fun a b => le a b = true)
  | [], _ => List.pairwise_singleton _ _
  | y :: ys, hp => by
    obtain ⟨h1, h2⟩ := List.pairwise_cons.mp hp
    unfold insD
    split
    · rename_i c
      refine List.pairwise_cons.mpr ⟨fun z m => ?_, hp⟩
      rcases List.mem_cons.mp m with m | m
      · rw [m]; exact c
      · exact h.trans _ _ _ c (h1 z m)
    · rename_i n
      refine List.pairwise_cons.mpr ⟨fun z m => ?_, insD_sorted h x h2⟩
      rcases insD_mem m with m | m
      · rw [m]; exact (h.total x y).elim (fun c => absurd c n) id
      · exact h1 z m
theorem srtD_sorted {le : D → D → Bool} (h : PySem.W.TotalLe le) : ∀ xs : List D, (srtD le xs).Pairwise (fun a b => le a b = true)
  | [] => List.Pairwise.nil
  | x :: xs => insD_sorted h x (srtD_sorted h xs)
theorem leD_total : PySem.W.TotalLe leD := PySem.W.sortLe_total _ _ _
theorem srtD_eq (xs : List D) : srtD leD xs = xs.mergeSort leD := PySem.W.sort_unique leD_total (srtD_sorted leD_total xs) fun c => srtD_filter leD_total c xs
theorem collect_tup {prog : Program} {w : World} {A : Around} {E : Value → Shared → Prop} {s : Shared} {l : Addr} {vs : List Value} {Q : List Value → Shared → Prop} (hl : s.heap.IsTuple l vs.toArray) (hsz : vs.length ≤ sizeLine)
    (h : Q vs { s with heap := (s.heap.push (seqObj "list" #[] 0)).update s.heap.objs.size (Obj.mapSeq (· ++ vs.toArray)) }) : wpAny (model prog w) A (collect (.ref l)) Q E s := by
  obtain ⟨o, ho, hc, n, hd⟩ := id hl
  unfold collect
  refine wpAny_bind (wpAny_runValue (codeAny_builtin entry_proto_collect' ?_))
  show wpAny _ _ (do
    again (.builtin "list.__iadd__" ⟨[← newList [], .ref l], []⟩)) _ _ s
  refine wpAny_bind (wpAny_newList (wpAny_pure
    ⟨Code.quiet_builtin _ (by decide +kernel), codeAny_builtin entry_list_iadd' ?_⟩))
  show wpAny _ _ (Builtin.List.listExtendWith (.ref s.heap.objs.size)
    (.ref l) (.ref s.heap.objs.size)) _ _ { s with heap := s.heap.push (seqObj "list" #[] 0) }
  unfold Builtin.List.listExtendWith
  have ho1 : (s.heap.push (seqObj "list" #[] 0)).get? l = some o := Heap.get?_push_of_some _ ho
  refine wpAny_bind (wpAny_typeOf (T := "tuple") ⟨o, ho1, hc⟩ ?_)
  have ht : (Value.type "tuple" == Value.type "tuple") = true := by rfl
  rw [if_pos (by rw [ht]; simp)]
  refine wpAny_bind (listItems_at ho1 hd (wpAny_bind
    (listItems_at (xs := #[]) (n := 0) (Heap.get?_push_size _ rfl) rfl ?_)))
  rw [if_neg (by simp)]
  refine wpAny_bind (listUpdate_at (xs := #[]) (n := 0) (Heap.get?_push_size _ rfl) rfl
    (wpAny_pure ?_) (Nat.zero_le _) (by show (#[] ++ vs.toArray).size ≤ sizeLine + 1; simp only [Array.size_append, List.size_toArray, List.length_nil]; omega))
  show wpAny (model prog w) A (do
    let o ← load s.heap.objs.size
    match o.data with
    | .seq xs _ => pure xs.toList
    | _ => unsupported "internal:collect") Q E { s with heap := (s.heap.push (seqObj "list" #[] 0)).update s.heap.objs.size (Obj.mapSeq (· ++ vs.toArray)) }
  refine wpAny_bind (wpAny_load (get?_update_seq (Heap.get?_push_size _ rfl) _) ?_)
  show wpAny _ _ (pure
    ((#[] : Array Value) ++ vs.toArray).toList) Q E _
  rw [show ((#[] : Array Value)
    ++ vs.toArray).toList = vs by simp]
  exact wpAny_pure h
open PySem.W in
theorem sorted_tup {prog : Program} {w : World} {A : Around} {E : Value → Shared → Prop} {s : Shared} {l : Addr} {vs : List Value} {β : Type} {R : Value → β → Prop} {bs : List β} {enc : β → PyData} {Q : Value → Shared → Prop} (hl : s.heap.IsTuple l vs.toArray) (e : EachIs R vs bs) (er : EachIs (fun v b => ∃ as, Reads s.heap v (enc b) as) vs bs)
    (hal : AllAlike (bs.map enc)) (hk : Sortable (bs.map enc)) (hL : bs.length ≤ sizeLine) (hu : ∀ b, b ∈ bs → A.units + 2 + (enc b).depth < cLine) (h : ∀ out, out.length = bs.length → EachIs R out (bs.mergeSort (dataLe false enc)) → Q (.ref (s.heap.objs.size + 1)) { s with heap := sortedAll s.heap vs (List.toArray out) }) :
    wpAny (model prog w) A (call (.builtin "sorted") [.ref l]) Q E s := by
  have hL' : vs.length ≤ sizeLine := by rw [e.length]; exact hL
  have er' : EachIs (fun v b => ∃ as, Reads (sortingHeap (copyHeap s.heap vs) (s.heap.objs.size + 1) vs) v (enc b) as) vs bs :=
    er.mono fun _ _ ⟨as, r⟩ => ⟨as, PyProof.Rows.Reads.keeps (fun _ _ => sorting_copy_old) r⟩
  refine call_function_entry_kw kind_sorted plain_sorted entry_sorted (args_sorted1 _) ?_
  unfold Builtin.«sorted»
  refine wpAny_bind (m := checkCount "sorted" 1 1 _) (wpAny_pure (wpAny_bind
    (collect_tup hl hL' (wpAny_bind (wpAny_newList ?_ hL')))))
  have hsz : ((s.heap.push (seqObj "list" #[] 0)).update s.heap.objs.size
    (Obj.mapSeq (· ++ vs.toArray))).objs.size = s.heap.objs.size + 1 := by rw [Heap.size_update, size_push']
  show wpAny _ _ _ _ _
    { s with heap := copyHeap s.heap vs }
  rw [hsz]
  refine wpAny_bind (wpAny_holding (wpAny_call_entry_kw slot_list_sort
    ⟨_, copyHeap_at s.heap vs, rfl⟩ entry_list_sort ?body (args_list_sort _)))
  case body =>
    show wpAny (model prog w) A.in1.in1
      (Builtin.«list.sort» ⟨[.ref (s.heap.objs.size + 1)], []⟩) _ _ _
    refine wpAny_mono (list_sort_vals (P := fun f s' => f = .done (.ret .none) ∧ Q (.ref (s.heap.objs.size + 1)) s') (s := { s with heap := copyHeap s.heap vs }) (copyHeap_at s.heap vs)
      (SortsAt.data (s := { s with heap := sortingHeap (copyHeap s.heap vs) (s.heap.objs.size + 1) vs }) (each_map (R := fun v d => ∃ as, Reads (sortingHeap (copyHeap s.heap vs) (s.heap.objs.size + 1) vs) v d as) enc er') hal hk (bound_map hu)) hL'
      ⟨rfl, h _ (by rw [sortVals_length false rfl]; exact e.length) (sortVals_data false e er' hal)⟩) (fun f s' hf => ?_) fun _ _ e => e
    obtain ⟨rfl, hq⟩ := hf
    exact ⟨_, rfl,
      wpAny_pure ⟨_, rfl, hq⟩⟩
def sortOk (ds : List D) : Bool := (ds.all fun a => ds.all fun b => PySem.W.alike a b) && (ds.all (fun a => match a with | .tuple (_ :: _) => true | _ => false) || ds.all (fun a => match a with | .none => false | .tuple _ => false | _ => true)) && ds.all SeqAt.shaped && decide (ds.length ≤ most)
def fSort : D → Option Rs
  | .list ds => if sortOk ds then some ⟨.list (srtD leD ds), true⟩ else none
  | .tuple ds => if sortOk ds then some ⟨.list (srtD leD ds), true⟩ else none
  | _ => none
def rSort (K : PySem.W.Frag) : List V → Hp → VK → Prop := fun vs H Q => ∃ (a : Addr) (ps : List (V × D)), vs = [.ref a] ∧ (SqL K H a (ps.map (·.1)) ∨ SqT K H a (ps.map (·.1))) ∧ (∀ p ∈ ps, Dp K H p.1 p.2) ∧ sortOk (ps.map (·.2)) = true ∧
  ∀ l, H l = none → Q (.ref l) (upd H l (.lst ((ps.mergeSort (PySem.W.dataLe false (·.2))).map (·.1))))
theorem cr_sort (hc : X.calm = true) (hu : X.A.units + 66 < cLine) : CallR X (.builtin "sorted") (rSort X.K) := by
  intro pins s σ H vs us Q I r h
  obtain ⟨a, ps, rfl, hs, hp, hok, q⟩ := h
  rw [Vals.ref1 r]
  simp only [sortOk, Bool.and_eq_true, Bool.or_eq_true, List.all_eq_true, decide_eq_true_eq] at hok
  obtain ⟨⟨⟨h1, h2⟩, h3⟩, h4⟩ := hok
  have hal : PySem.W.AllAlike (ps.map (·.2)) := fun d hd d' hd' => h1 d hd d' hd'
  have hk : PySem.W.Sortable (ps.map (·.2)) := by
    rcases h2 with h2 | h2
    · refine .inl fun d hd => ?_
      have := h2 d hd
      split at this
      · exact ⟨_, _, rfl⟩
      · cases this
    · refine .inr fun d hd => ?_
      have := h2 d hd
      split at this
      · cases this
      · cases this
      · rename_i n1 n2; exact ⟨n1, fun xs => n2 xs⟩
  have hz : ps.length ≤ sizeLine := by rw [List.length_map] at h4; exact most_ok h4
  have hb : ∀ p, p ∈ ps → X.A.units + 2 + p.2.depth < cLine := fun p hm => by
    have := SeqAt.depth_of_shaped (h3 p.2 (List.mem_map.mpr ⟨p, hm, rfl⟩))
    omega
  have core : ∀ {its : List Value}, Vals (ps.map (·.1)) its → PySem.W.EachIs (fun v (p : V × D) => RelV p.1 v) its ps ∧ PySem.W.EachIs (fun v (p : V × D) => ∃ as, Reads s.heap v p.2 as) its ps := fun {its} rv => by
    clear h1 h2 h3 h4 hal hk hz hb q hs
    induction ps generalizing its with
    | nil => cases rv; exact ⟨.nil, .nil⟩
    | cons p ps ih =>
      cases rv with
      | cons r1 r2 =>
        obtain ⟨e1, e2⟩ := ih (fun p m => hp p (List.mem_cons_of_mem _ m)) r2
        exact ⟨.cons r1 e1, .cons (Dp.reads I p.2 p.1 _ (hp p List.mem_cons_self) r1) e2⟩
  have fin : ∀ {its : List Value}, ∀ out : List Value, out.length = ps.length → PySem.W.EachIs (fun v (p : V × D) => RelV p.1 v) out (ps.mergeSort (PySem.W.dataLe false (·.2))) → EP X pins σ Q (.ref (s.heap.objs.size + 1)) { s with heap := sortedAll s.heap its (List.toArray out) } := fun {its} out hlen he => by
    obtain ⟨ep, he'⟩ := PyProof.Rows.sortedAll_at s.heap its out.toArray
    have vr : ∀ {out : List Value} {qs : List (V × D)}, PySem.W.EachIs (fun v (p : V × D) => RelV p.1 v) out qs → Vals (qs.map (·.1)) out := fun {out qs} e => by
      induction e with
      | nil => exact .nil
      | cons a b ih => exact .cons a ih
    have rvo := vr he
    have hlen' : ((ps.mergeSort (PySem.W.dataLe false (·.2))).map (·.1)).length ≤ sizeLine := by rw [rvo.length, hlen]; exact hz
    exact ⟨.ref _, upd H (s.heap.objs.size + 1) (.lst ((ps.mergeSort (PySem.W.dataLe false (·.2))).map (·.1))), I.laid (t' := s.toks) (fun _ _ => PyProof.Rows.sortedAll_old) (Nat.le_succ _) ⟨hlen', out, ep, rvo, he'⟩, rfl, q _ (I.hok.fresh (Nat.le_succ _))⟩
  rcases hs with hs | hs
  · obtain ⟨its, rv, hl, _⟩ := I.list hs
    obtain ⟨e1, e2⟩ := core rv
    exact PySem.W.sorted_data hl.isList e1 e2 hal hk hz hb fin
  · obtain ⟨its, rv, hl, _⟩ := I.tuple hs
    obtain ⟨e1, e2⟩ := core rv
    exact sorted_tup hl e1 e2 hal hk hz hb fin
theorem reps_zip (rs : Reps K H B xs ds) : (xs.zip ds).map (·.1) = xs ∧ (xs.zip ds).map (·.2) = ds := by
  have := rs.length
  constructor
  · rw [List.map_fst_zip (by omega)]
  · rw [List.map_snd_zip (by omega)]
theorem reps_pairs (rs : Reps K H B xs ds) : ∀ p ∈ xs.zip ds, Rep K H B p.1 p.2 := by
  induction ds generalizing xs with
  | nil => cases rs; intro p m; cases m
  | cons d ds ih =>
    cases rs with
    | cons a b =>
      intro p m
      rw [List.zip_cons_cons] at m
      rcases List.mem_cons.mp m with rfl | m
      · exact a
      · exact ih b p m
theorem pairs_reps : ∀ {ps : List (V × D)}, (∀ p ∈ ps, Rep K H B p.1 p.2) → Reps K H B (ps.map (·.1)) (ps.map (·.2))
  | [], _ => .nil
  | p :: ps, h => .cons (h p List.mem_cons_self) (pairs_reps fun q m => h q (List.mem_cons_of_mem _ m))
theorem ok_sort : UnOk C fSort fun v => rSort C.K [v] := by
  intro Bx σ H e0 d1 v1 z Q hz s o q
  have core : ∀ {xs : List V} {ds : List D}, Reps C.K H (Avo Bx σ e0) xs ds → sortOk ds = true → (∀ p ∈ xs.zip ds, Dp C.K H p.1 p.2) ∧ sortOk ((xs.zip ds).map (·.2)) = true ∧ Reps C.K H (Avo Bx σ e0) (((xs.zip ds).mergeSort (PySem.W.dataLe false (·.2))).map (·.1)) (srtD leD ds) := fun {xs ds} rs hok => by
    have hz := reps_zip rs
    have hp := reps_pairs rs
    refine ⟨fun p m => ?_, by rw [hz.2]; exact hok, ?_⟩
    · simp only [sortOk, Bool.and_eq_true, List.all_eq_true] at hok
      have md : p.2 ∈ ds := by rw [← hz.2]; exact List.mem_map.mpr ⟨p, m, rfl⟩
      exact (hp p m).dp (SeqAt.canLay_of_shaped (hok.1.2 _ md))
    · have e : ((xs.zip ds).mergeSort (PySem.W.dataLe false (·.2))).map (·.2) = srtD leD ds := by
        have := PySem.W.sort_maps (r := PySem.W.dataLe false fun p : V × D => p.2) (s := leD) (fun p : V × D => p.2) (l := xs.zip ds) fun a _ b _ => rfl
        rw [hz.2] at this
        rw [srtD_eq]
        exact this
      rw [← e]
      exact pairs_reps fun p m => hp p ((List.mergeSort_perm _ _).mem_iff.mp m)
  unfold fSort at hz
  split at hz
  · split at hz
    · rename_i hok
      cases hz
      obtain ⟨a, xs, rfl, hq, rs⟩ := o.list
      obtain ⟨h1, h2, h3⟩ := core rs hok
      exact ⟨a, xs.zip _, rfl, .inl (by rw [(reps_zip rs).1]; exact .inl (.inl hq)), h1, h2, fun p hp => q _ _ (.newL s hp h3)⟩
    · cases hz
  · split at hz
    · rename_i hok
      cases hz
      obtain ⟨a, xs, rfl, hq, rs⟩ := o.tuple
      obtain ⟨h1, h2, h3⟩ := core rs hok
      exact ⟨a, xs.zip _, rfl, .inr (by rw [(reps_zip rs).1]; exact hq), h1, h2, fun p hp => q _ _ (.newL s hp h3)⟩
    · cases hz
  · cases hz
theorem hu66 {A : Around} {k : Nat} (hr : Rm k A) : A.units + 66 < cLine := by have := hr.r.un; omega
end
end G
end L2
namespace L2
namespace G
open PySem PySem.Spec PyProof.Rows
/-! ### a law's draw: what _law_draw and law promise -/
def absI (i : Int) : Int := if i < 0 then -i else i
def spDraw (K : PySem.W.Frag) : Sp := fun vs H Q _ => ∃ (a : Addr) (ns : List Int), vs = [.ref a] ∧ SqL K H a (ns.map V.int) ∧ ns.length ≤ 63 ∧
  ∀ (r c : Addr) (H' : Hp) (seed : Int), Same H H' → H r = none → H c = none → r ≠ c → H' r = some (.lst [.ref c, .int (-1), .int 0, .int seed]) → H' c = some (.lst (ns.map fun n => V.int (absI n))) → 0 ≤ seed → seed < 2147483647 → Q (.ref r) H'
def spLaw (K : PySem.W.Frag) : Sp := fun vs H Q _ => ∃ (a : Addr) (ns : List Int), vs = [.ref a] ∧ SqL K H a (ns.map V.int) ∧ ns.length ≤ 63 ∧ ∀ H', Q (.bl true) H'
/-! the end: law called with the script, no repr under way -/
section
variable {P : Program} {w : World} {K : PySem.W.Frag} {mg mb : Str → Option Value} {k : Nat} {fa a : Addr} {fd : FuncData} {x : Str} {sp : Sp} {s₁ : Shared} {vs : List Value} {ns : List Int}
/-- the wanted end -/
abbrev EndOk (s₁ : Shared) : Result → Shared → Prop := fun r s' => r = .ok (.ret (.bool true)) ∧ OldK s₁.heap s'.heap ∧ s'.os = s₁.os ∧ AllBare s'.gens
theorem call_core {H : Hp} (KX : K.In s₁.heap) (hns : s₁.heap.Ns mainGlobals mg) (hb : s₁.heap.Ns builtinsNs mb) (hbb : ∀ x : Str, x ≠ "__name__" → mb x = bootBuiltins x) (hlim : s₁.heap.NoLimit) (hg : s₁.gens = #[])
    (ha : ∃ o : Obj, s₁.heap.get? a = some o ∧ ∃ ws n, o.data = .seq ws n) (hr : Rm k callerA) (F : ∀ base : Heap, K.In base → base.Ns mainGlobals mg → FnG P w K mg base k fa fd [x] sp) (hbind : ∀ (s : Shared) (u : Value), BindsTo s fd ⟨[u], []⟩ [(x, u)])
    (hsp : sp [.ref a] H (fun v _ => v = .bl true) fun _ _ _ => False) (hO : Only H) (hok : HOk P w H s₁.heap) (hA : ∀ b, H b ≠ none → b = a) (hK : H a ≠ none → K.lookup a = none) :
    codeAny (model P w) callerA (.call (.ref fa) ⟨[.ref a], []⟩) (EndOk s₁) s₁ := by
  have free : ∀ {b : Addr}, b ≠ a → H b = none := fun {b} n => Classical.byContradiction fun z => n (hA b z)
  have noA : ∀ {b : Addr} {o : Obj} {es : Array DictEntry} {ep : Nat}, s₁.heap.get? b = some o → o.data = .dict es ep → H b = none := by
    intro b o es ep e d
    apply free
    rintro rfl
    obtain ⟨o', ho, ws, n, hd⟩ := ha
    rw [e] at ho; cases ho
    rw [d] at hd; cases hd
  have up : ∀ {b : Addr} {m : Str → Option Value}, s₁.heap.Ns b m → (hidT s₁.heap H).Ns b m := by
    rintro b m ⟨o, es, ep, e, d, r⟩
    exact ⟨o, es, ep, hidT_get e (noA e d), d, r⟩
  have hKb : K.In (hidT s₁.heap H) := by
    intro b o e
    refine hidT_get (KX b o e) (Classical.byContradiction fun z => ?_)
    have hb := hA b z
    subst hb
    rw [hK z] at e; cases e
  have hM : Mod K mg (hidT s₁.heap H) := by
    obtain ⟨mc, h1, h2⟩ := hlim
    exact ⟨hKb, up hns, ⟨mb, up hb, hbb⟩, ⟨mc, up h1, h2⟩⟩
  have e0 : Env0 P w K mg (hidT s₁.heap H) callerA [] s₁ H := {
    frames := rfl
    mod := hM
    bs := fun b o e => of_hidT e
    bsz := Nat.le_of_eq (hidT_size _ _)
    funs := trivial
    frf := fun b hb => by simp [frs] at hb
    hok := hok
    bare := .of_eq hg }
  have run := (F _ hKb (up hns)).run callerA [] s₁ H ⟨[.ref a], []⟩ [.ref a] [.ref a] _ _ hr e0 (hbind s₁ (.ref a)) (.cons rfl .nil) hsp
  refine codeAny_mono run fun r s' h => ?_
  match r, h with
  | .error e, h =>
    obtain ⟨_, _, _, _, _, _, _, _, _, _, _, _, z⟩ := h
    exact z.elim
  | .ok (.ret u), ⟨v, H', os, bare, un, hok', r', q⟩ =>
    obtain rfl : v = .bl true := q
    obtain rfl : u = Value.bool true := r'
    refine ⟨rfl, OldK.of_keep fun b o e => ?_, os, bare⟩
    rcases hO b with q | ⟨ob, xs, z⟩
    · exact un.keep b o e q (by simp [frs]) (by simp)
    · have e1 := (hok b _ z).1
      have e2 := (hok' b _ (un.frzs b ob _ z)).1
      rw [e] at e1; cases e1
      exact e2
theorem law_callG (KX : K.In s₁.heap) (hns : s₁.heap.Ns mainGlobals mg) (hb : s₁.heap.Ns builtinsNs mb) (hbb : ∀ x : Str, x ≠ "__name__" → mb x = bootBuiltins x) (hlim : s₁.heap.NoLimit) (hg : s₁.gens = #[])
    (ha : s₁.heap.get? a = some { cls := .type "list", data := .seq vs.toArray }) (hi : IntsAre vs ns) (hl : ns.length ≤ sizeLine) (hr : Rm k callerA) (F : ∀ base : Heap, K.In base → base.Ns mainGlobals mg → FnG P w K mg base k fa fd [x] sp) (hbind : ∀ (s : Shared) (u : Value), BindsTo s fd ⟨[u], []⟩ [(x, u)])
    (hsp : ∀ H : Hp, SqL K H a (ns.map V.int) → sp [.ref a] H (fun v _ => v = .bl true) fun _ _ _ => False) : codeAny (model P w) callerA (.call (.ref fa) ⟨[.ref a], []⟩) (EndOk s₁) s₁ := by
  have rv : Vals (ns.map V.int) vs := vals_ints hi
  have ha' : ∃ o : Obj, s₁.heap.get? a = some o ∧ ∃ ws n, o.data = .seq ws n := ⟨_, ha, _, _, rfl⟩
  cases hk : K.lookup a with
  | some o =>
    have e := KX a o hk
    rw [ha] at e; cases e
    refine call_core (H := fun _ => none) KX hns hb hbb hlim hg ha' hr F hbind (hsp _ (.inr ⟨_, vs.toArray, _, hk, rfl, rfl, rfl, ?_, by simpa using rv⟩)) (fun _ => .inl rfl) (fun b u z => by cases z) (fun b z => absurd rfl z) (fun z => absurd rfl z)
    rw [List.size_toArray, hi.length]; exact hl
  | none =>
    let H0 : Hp := fun b => if b = a then some (.frz { cls := .type "list", data := .seq vs.toArray } (.lst (ns.map V.int))) else none
    have at_ : H0 a = some (.frz { cls := .type "list", data := .seq vs.toArray } (.lst (ns.map V.int))) := if_pos rfl
    have off : ∀ {b}, b ≠ a → H0 b = none := fun n => if_neg n
    refine call_core (H := H0) KX hns hb hbb hlim hg ha' hr F hbind (hsp _ (.inl (.inr ⟨_, at_⟩))) (fun b => ?_) (fun b u z => ?_) (fun b z => Classical.byContradiction fun n => z (off n)) fun _ => hk
    · by_cases hb : b = a
      · subst hb; exact .inr ⟨_, _, at_⟩
      · exact .inl (off hb)
    · by_cases hb : b = a
      · subst hb
        rw [at_] at z; cases z
        exact ⟨ha, by rw [List.length_map]; exact hl, vs, _, rv, ha⟩
      · rw [off hb] at z; cases z
theorem walk_G {l : PySem.W.OpenLaw} {n : Nat} {q : Program} {loose : List Str} {XP : (Str → Option Value) → Heap → Prop} {YP : World → Heap → Prop} {d : DefRec} {K : Params → PySem.W.Frag} {sp : PySem.W.Frag → Sp} (hn : l.most = some n) (hn2 : n ≤ sizeLine) (hdf : d.params.defaults = []) (hr : Rm k callerA) (hY : ∀ (w : World) (h : Heap), YP w h → (K w.params).In h)
    (F : ∀ (w : World) (mg : Str → Option Value) (fa : Addr) (h : Heap), (K w.params).In h → h.Ns mainGlobals mg → mg d.name = some (.ref fa) →
      ∃ fd : FuncData, (∀ (s : Shared) (u : Value), BindsTo s fd ⟨[u], []⟩ [(x, u)]) ∧ ∀ base : Heap, (K w.params).In base → base.Ns mainGlobals mg → FnG l.prog w (K w.params) mg base k fa fd [x] (sp (K w.params)))
    (hsp : ∀ (K : PySem.W.Frag) (H : Hp) (a : Addr) (ns : List Int), ns.length ≤ n → SqL K H a (ns.map V.int) → sp K [.ref a] H (fun v _ => v = .bl true) fun _ _ _ => False) : PySem.W.WalkO q loose XP YP l.row.toRowW d [] (fun f vs => PySem.call f vs) := by
  apply Att.attach_call hn hdf
  intro w s₀ s₁ mg mb fa o pm cd doc a vs ns G Y ho hd hcd hmg hobj hints hlen hg
  obtain ⟨fd, hb, hF⟩ := F w mg fa _ (hY w _ Y) G.T.g hmg
  exact law_callG (hY w _ Y) G.T.g G.T.b G.T.builtins G.T.nolimit hg hobj hints (Nat.le_trans hlen hn2) hr hF hb
    fun H hS => hsp _ H a ns hlen hS
end
theorem same_new {H : Hp} {p : Addr} (h : H p = none) (o : HO) : Same H (upd H p o) := fun b u q => by rw [upd_ne (ne_of_none q h)]; exact q
theorem log2_small {i : Int} (h0 : 0 ≤ i) (h : i < 2 ^ 40) : i.natAbs.log2 < 41 := by
  by_cases z : i.natAbs = 0
  · rw [z]; decide
  · rw [Nat.log2_lt z]
    omega
theorem seed_mul {i : Int} (h0 : 0 ≤ i) (h : i < 2147483647) : CMulW i 48271 := by
  show _ < _
  have := log2_small h0 (by omega)
  have e : (48271 : Int).natAbs.log2 < 41 := by decide
  omega
/-- the state behind _law_draw, as own data -/
theorem draw_sim {K : PySem.W.Frag} {H : Hp} {r c a : Addr} {ns : List Int} {seed : Int} {n : Nat} (hrc : r ≠ c) (hr : H r = some (.lst [.ref c, .int (-1), .int 0, .int seed])) (hc : H c = some (.lst (ns.map fun n => V.int (absI n)))) :
    Sim K (fun _ => False) (some (V.ref a) :: some (V.ref r) :: List.replicate n none) H (.un :: .ow true (.list [.list (ns.map fun n => .int (absI n)), .int (-1), .int 0, .int seed]) :: List.replicate n .un) := by
  have look : ∀ {i : Nat} {y : Sl}, (Sl.un :: Sl.ow true (.list [.list (ns.map fun n => .int (absI n)), .int (-1), .int 0, .int seed]) :: List.replicate n Sl.un)[i]? = some y → y = .un ∨ (i = 1 ∧ y = Sl.ow true (.list [.list (ns.map fun n => .int (absI n)), .int (-1), .int 0, .int seed])) := fun {i y} h => by
    match i, h with
    | 0, h => exact .inl (Option.some.inj h).symm
    | 1, h => exact .inr ⟨rfl, (Option.some.inj h).symm⟩
    | i + 2, h => exact .inl (un_none h)
  have ri : ∀ {B : Addr → Prop} (ms : List Int), Reps K H B (ms.map fun n => V.int (absI n)) (ms.map fun n => PyData.int (absI n)) := fun {B} ms => by
    induction ms with
    | nil => exact .nil
    | cons m ms ih => exact .cons (.int _) ih
  refine ⟨by simp, fun i d h => ?_, fun i w d h => ?_, fun i j w w' d d' b h1 h2 h3 h4 => ?_, fun _ z => z.elim, fun i lo hi h => (by rcases look h with z | ⟨_, z⟩ <;> cases z)⟩
  · rcases look h with z | ⟨_, z⟩ <;> cases z
  · rcases look h with z | ⟨rfl, z⟩
    · cases z
    · cases z
      refine ⟨r, rfl, fun z => z, .lst hr (.cons (.lst hc ?_ (ri ns)) (.cons (.int _) (.cons (.int _) (.cons (.int _) .nil))))⟩
      rintro (⟨j, w', d', q1, q2⟩ | z)
      · rcases look q1 with z | ⟨rfl, z⟩
        · cases z
        · have : V.ref r = V.ref c := Option.some.inj (Option.some.inj q2)
          cases this; exact hrc rfl
      · exact z
  · rcases look h1 with z | ⟨z1, _⟩
    · cases z
    · rcases look h2 with z | ⟨z2, _⟩
      · cases z
      · rw [z1, z2]
end G
end L2
namespace L2
namespace G
open PySem PySem.Spec PyProof.Rows
/-! ### running the functions: simp lemmas -/
theorem ix_at {ds : List D} {j : Nat} {y : D} (hx : ds[j]? = some y) : fIxA (.list ds) (.int j) = some ⟨y, false⟩ := by
  unfold fIxA fIx
  simp only
  rw [atI_nat hx]; rfl
section
variable {α β : Type} {a : α} {x : Exn} {e e1 : En} {d : D} {r : Rs} {fl : Fl} {f h : XF} {g : En → Res D} {ga : En → Res (List D)} {F : D → D → Option Rs} {U : D → Option Rs} {s t : SF} {i n : Nat} {c : En → Res Bool}
@[simp] theorem bind_ok {k : α → En → Res β} : (Res.ok a e).bind k = k a e := rfl
@[simp] theorem bind_ex {k : α → En → Res β} : (Res.ex x : Res α).bind k = .ex x := rfl
@[simp] theorem bind_st {k : α → En → Res β} : (Res.st : Res α).bind k = .st := rfl
theorem xC_ap : xC d e = .ok ⟨d, false⟩ e := rfl
theorem xO_ap : xO f e = (f e).bind fun r e' => .ok r.d e' := rfl
theorem xV_sh (hx : e[i]? = some (.sh d)) : xV i e = .ok ⟨d, false⟩ e := by unfold xV; rw [hx]
theorem xB_sh (hx : e[i]? = some (.sh d)) : xB i e = .ok d e := by unfold xB; rw [hx]
theorem xB_ow {w : Bool} (hx : e[i]? = some (.ow w d)) : xB i e = .ok d e := by unfold xB; rw [hx]
theorem fEq_int {i j : Int} : fEq (.int i) (.int j) = sb (decide (i = j)) := by
  have h1 : SeqAt.shaped (.int i) = true := by simp [SeqAt.shaped, PyData.canLay0, PyData.depth]
  have h2 : SeqAt.shaped (.int j) = true := by simp [SeqAt.shaped, PyData.canLay0, PyData.depth]
  unfold fEq
  rw [h1, h2]
  simp [PyData.eqv]
  rfl
end
section
variable {a b c d : D} {ds : List D}
theorem ix0 : fIxA (.list (a :: ds)) (.int 0) = some ⟨a, false⟩ := ix_at (j := 0) rfl
theorem ix1 : fIxA (.list (a :: b :: ds)) (.int 1) = some ⟨b, false⟩ := ix_at (j := 1) rfl
theorem ix2 : fIxA (.list (a :: b :: c :: ds)) (.int 2) = some ⟨c, false⟩ := ix_at (j := 2) rfl
theorem ix3 : fIxA (.list (a :: b :: c :: d :: ds)) (.int 3) = some ⟨d, false⟩ := ix_at (j := 3) rfl

end
theorem log2_le {n k : Nat} (h : n < 2 ^ k) (hk : 0 < k) : n.log2 < k := by
  by_cases z : n = 0
  · rw [z]; exact Nat.lt_of_le_of_lt (by decide : Nat.log2 0 ≤ 0) hk
  · exact (Nat.log2_lt z).mpr h
/-! ### a law's draw -/
structure Dr (cs : List Int) (at_ cur seed : Int) : Prop where
  pos : ∀ c ∈ cs, 0 ≤ c
  len : cs.length ≤ 63
  at_ : -1 ≤ at_
  cur : 0 ≤ cur
  s0 : 0 ≤ seed
  s1 : seed < 2147483647
def drD (cs : List Int) (at_ cur seed : Int) : D := .list [.list (cs.map .int), .int at_, .int cur, .int seed]
end G
end L2
namespace L2
namespace G
open PySem PySem.Spec PyProof.Rows
section
variable {α : Type} {f g : SF} {e e1 e2 w : En} {ds acc : List D} {vs : List Nat} {gg : Rs → En → Option En} {tt : En → Res Bool} {te : XF} {it : En → Res (List D)} {b : SF}
theorem seq_nx (h : f e = .ok .nx e1) : sSeq f g e = g e1 := by unfold sSeq; rw [h]; rfl
theorem if_tt {t : En → Res Bool} (h : t e = .ok true e1) : sIf t f g e = f e1 := by unfold sIf; rw [h]; rfl
theorem if_ff {t : En → Res Bool} (h : t e = .ok false e1) : sIf t f g e = g e1 := by unfold sIf; rw [h]; rfl
/-- a loop under an invariant, that is not left early -/
theorem floop_inv {I : En → Prop} (h : ∀ d ∈ ds, ∀ e, I e → ∃ e1 e2, gg ⟨d, false⟩ e = some e1 ∧ (b e1 = .ok .nx e2 ∨ b e1 = .ok .ct e2) ∧ I e2) : ∀ e, I e → ∃ e', floop gg b ds e = .ok .nx e' ∧ I e' := by
  induction ds with
  | nil => intro e i; exact ⟨e, rfl, i⟩
  | cons d ds ih =>
    intro e i
    obtain ⟨e1, e2, h1, h2, h3⟩ := h d List.mem_cons_self e i
    obtain ⟨e', h4, h5⟩ := ih (fun d m => h d (List.mem_cons_of_mem _ m)) e2 h3
    refine ⟨e', ?_, h5⟩
    unfold floop
    rw [h1]
    rcases h2 with h2 | h2 <;> (simp only [h2, bind_ok]; exact h4)
theorem for_inv {I : En → Prop} (hi : it e = .ok ds e1) (h0 : I e1) (h : ∀ d ∈ ds, ∀ e, I e → ∃ e1 e2, gg ⟨d, false⟩ e = some e1 ∧ (b e1 = .ok .nx e2 ∨ b e1 = .ok .ct e2) ∧ I e2) : ∃ e', sFor it gg b e = .ok .nx e' ∧ I e' := by
  obtain ⟨e', h1, h2⟩ := floop_inv h e1 h0
  exact ⟨e', by unfold sFor; rw [hi]; exact h1, h2⟩
/-- a comprehension under an invariant -/
theorem lc_inv {I : List D → En → Prop} (h : ∀ d ∈ ds, ∀ acc e, I acc e → ∃ e1 e2 r fr e3, gg ⟨d, false⟩ (wipeE e vs) = some e1 ∧ tt e1 = .ok true e2 ∧ te e2 = .ok ⟨r, fr⟩ e3 ∧ I (acc ++ [r]) e3) : ∀ acc e, I acc e → acc.length + ds.length ≤ most → ∃ ys e', lcLoop gg tt te vs ds acc e = .ok ys e' ∧ I ys e' := by
  induction ds with
  | nil => intro acc e i _; exact ⟨acc, e, rfl, i⟩
  | cons d ds ih =>
    intro acc e i hl
    obtain ⟨e1, e2, r, fr, e3, h1, h2, h3, h4⟩ := h d List.mem_cons_self acc e i
    simp only [List.length_cons] at hl
    obtain ⟨ys, e', h5, h6⟩ := ih (fun d m => h d (List.mem_cons_of_mem _ m)) (acc ++ [r]) e3 h4 (by simp; omega)
    refine ⟨ys, e', ?_, h6⟩
    unfold lcLoop
    simp only [h1, h2, h3]
    rw [if_pos (by omega)]
    exact h5
/-- a comprehension whose turns leave the other slots as they are -/
theorem lc_map (us : List α) (u v : α → D) (p : α → Bool) (h : ∀ a ∈ us, ∃ e1 e2, gg ⟨u a, false⟩ w = some e1 ∧ tt e1 = .ok (p a) e2 ∧ (p a = true → ∃ fr e3, te e2 = .ok ⟨v a, fr⟩ e3 ∧ wipeE e3 vs = w ∧ e3.length = w.length) ∧ (p a = false → wipeE e2 vs = w ∧ e2.length = w.length)) :
    ∀ acc e, wipeE e vs = w → acc.length + us.length ≤ most → ∃ e', lcLoop gg tt te vs (us.map u) acc e = .ok (acc ++ (us.filter p).map v) e' ∧ wipeE e' vs = w := by
  induction us with
  | nil => intro acc e hw _; exact ⟨e, by simp [lcLoop], hw⟩
  | cons a us ih =>
    intro acc e hw hl
    simp only [List.length_cons] at hl
    obtain ⟨e1, e2, h1, h2, h3, h4⟩ := h a List.mem_cons_self
    have ih' := ih fun a m => h a (List.mem_cons_of_mem _ m)
    rw [List.map_cons]
    unfold lcLoop
    rw [hw, h1]
    cases hp : p a with
    | true =>
      obtain ⟨fr, e3, h5, h6, _⟩ := h3 hp
      obtain ⟨e', h7, h8⟩ := ih' (acc ++ [v a]) e3 h6 (by simp; omega)
      refine ⟨e', ?_, h8⟩
      rw [hp] at h2
      simp only [h2, h5]
      rw [if_pos (by omega), h7, List.filter_cons_of_pos hp]
      simp
    | false =>
      obtain ⟨h6, _⟩ := h4 hp
      obtain ⟨e', h7, h8⟩ := ih' acc e2 h6 (by omega)
      refine ⟨e', ?_, h8⟩
      rw [hp] at h2
      simp only [h2]
      rw [h7, List.filter_cons_of_neg (by rw [hp]; decide)]
theorem resE_same {e1 e2 : En} {vs : List Nat} (h : wipeE e2 vs = wipeE e1 vs) : resE e1 e2 vs = e1 := by
  have hl : e2.length = e1.length := by rw [← wipeE_length (e0 := e2) vs, h, wipeE_length]
  apply List.ext_getElem?
  intro i
  by_cases hi : i < e1.length
  · have h1 : i < (resE e1 e2 vs).length := by rw [resE_length, hl]; exact hi
    have q : (resE e1 e2 vs)[i]? = some (resE e1 e2 vs)[i] := List.getElem?_eq_getElem h1
    rcases resE_some q hl.symm with ⟨z1, z2⟩ | ⟨z1, z2⟩
    · rw [q, z2]
    · rw [q, ← z2, ← wipeE_out (e0 := e2) z1, h, wipeE_out z1]
  · rw [List.getElem?_eq_none (by rw [resE_length, hl]; omega), List.getElem?_eq_none (by omega)]
theorem xLc_map (us : List α) (u v : α → D) (p : α → Bool) (hi : it e = .ok (us.map u) e1) (ok : okW e1 vs = true) (hl : us.length ≤ most)
    (h : ∀ a ∈ us, ∃ e2 e3, gg ⟨u a, false⟩ (wipeE e1 vs) = some e2 ∧ tt e2 = .ok (p a) e3 ∧ (p a = true → ∃ fr e4, te e3 = .ok ⟨v a, fr⟩ e4 ∧ wipeE e4 vs = wipeE e1 vs ∧ e4.length = (wipeE e1 vs).length) ∧ (p a = false → wipeE e3 vs = wipeE e1 vs ∧ e3.length = (wipeE e1 vs).length)) :
    xLc it gg tt te vs e = .ok ⟨.list ((us.filter p).map v), true⟩ e1 := by
  obtain ⟨e', h1, h2⟩ := lc_map us u v p h [] e1 rfl (by simpa using hl)
  unfold xLc
  rw [hi, bind_ok, if_pos ok, h1, bind_ok, resE_same h2]
  rfl
end
/-! lists of bools, of texts -/
theorem boolsD_map {α : Type} (us : List α) (q : α → Bool) : boolsD (us.map fun a => .bool (q a)) = some (us.map q) := by
  induction us with
  | nil => rfl
  | cons a us ih => simp [boolsD, ih]
theorem fAny_map {α : Type} (us : List α) (q : α → Bool) : fAny (.list (us.map fun a => .bool (q a))) = sb (us.any q) := by
  simp only [fAny, boolsD_map, Option.map_some]
  rw [List.any_map]; rfl
theorem fAll_map {α : Type} (us : List α) (q : α → Bool) : fAll (.list (us.map fun a => .bool (q a))) = sb (us.all q) := by
  simp only [fAll, boolsD_map, Option.map_some]
  rw [List.all_map]; rfl
theorem strs_lay : ∀ ts : List Str, (∀ t ∈ ts, PyData.strOk t = true) → PyData.canLayAll0 (ts.map .str) = true ∧ PyData.depthAll (ts.map .str) = 0 ∧ PyData.eqvAll (ts.map .str) (ts.map .str) = true
  | [], _ => by simp [PyData.canLayAll0, PyData.depthAll, PyData.eqvAll]
  | t :: ts, h => by
    obtain ⟨h1, h2, h3⟩ := strs_lay ts fun t m => h t (List.mem_cons_of_mem _ m)
    simp [PyData.canLayAll0, PyData.canLay0, PyData.depthAll, PyData.depth, PyData.eqvAll, PyData.eqv, h1, h2, h3, h t List.mem_cons_self]
theorem fNe_strs (ts : List Str) (h : ∀ t ∈ ts, PyData.strOk t = true) : fNe (.tuple (ts.map .str)) (.tuple (ts.map .str)) = sb false := by
  obtain ⟨h1, h2, h3⟩ := strs_lay ts h
  have hs : SeqAt.shaped (.tuple (ts.map .str)) = true := by simp [SeqAt.shaped, PyData.canLay0, PyData.depth, h1, h2]
  unfold fNe
  rw [hs]
  simp [PyData.eqv, h3]
/-- a call of _law_take -/
theorem take_call {φ : XF} {i : Nat} {cs : List Int} {a c s m f a' c' s' : Int} {e : En} {g : En → Res (List D)} (hx : e[i]? = some (.ow true (drD cs a c s))) (hg : g e = .ok [.int m] e) (h : φ [.ow true (drD cs a c s), .sh (.int m)] = .ok ⟨.int f, false⟩ [.ow true (drD cs a' c' s'), .sh (.int m)]) :
    xCallD i 1 φ g e = .ok ⟨.int f, false⟩ (e.set i (.ow true (drD cs a' c' s'))) := by
  have ho : ownL i e = some [.list (cs.map .int), .int a, .int c, .int s] := by unfold ownL; rw [hx]; rfl
  unfold xCallD
  rw [ho, hg]
  simp only [Option.isSome_some, if_true, bind_ok, List.length_cons, List.length_nil, Nat.zero_add, ho, List.map_cons, List.map_nil]
  unfold drD at h
  rw [h]
  rfl
end G
end L2
namespace L2
namespace G
open PySem PySem.Spec PyProof.Rows
section
variable {α : Type} {f g : SF} {e e1 e2 w : En} {ds acc : List D} {vs : List Nat} {gg : Rs → En → Option En} {tt : En → Res Bool} {te : XF} {it : En → Res (List D)} {b : SF}
theorem xLc_all (us : List α) (u v : α → D) (hi : it e = .ok (us.map u) e1) (ok : okW e1 vs = true) (hl : us.length ≤ most)
    (h : ∀ a ∈ us, ∃ e2 e3 fr e4, gg ⟨u a, false⟩ (wipeE e1 vs) = some e2 ∧ tt e2 = .ok true e3 ∧ te e3 = .ok ⟨v a, fr⟩ e4 ∧ wipeE e4 vs = wipeE e1 vs) : xLc it gg tt te vs e = .ok ⟨.list (us.map v), true⟩ e1 := by
  have := xLc_map us u v (fun _ => true) hi ok hl fun a ha => by
    obtain ⟨e2, e3, fr, e4, h1, h2, h3, h4⟩ := h a ha
    refine ⟨e2, e3, h1, h2, fun _ => ⟨fr, e4, h3, h4, ?_⟩, fun z => by cases z⟩
    rw [← wipeE_length (e0 := e4) vs, h4]
  rwa [List.filter_eq_self.mpr fun _ _ => rfl] at this
theorem xLk_some {r : Rs} {F : XF} {i : Nat} (h : F e = .ok r e1) (hr : relock e e1 i = e2) : xLk (some i) F e = .ok r e2 := by
  show (F e).bind _ = _
  rw [h]
  show Res.ok r (relock e e1 i) = _
  rw [hr]
end
section
variable {e e1 e2 : En} {r z : Rs} {d d0 d1 : D} {f : XF} {g : En → Res D} {ga : En → Res (List D)} {F : D → D → Option Rs} {U : D → Option Rs} {b fr : Bool} {t : En → Res Bool} {i n : Nat} {gg : Rs → En → Option En} {φ : XF} {ds : List D} {ec : En}
theorem xO_of (h : f e = .ok r e1) : xO f e = .ok r.d e1 := by unfold xO; rw [h]; rfl
theorem xOne_of (h : g e = .ok d e1) (hF : U d = some r) : xOne U g e = .ok r e1 := by
  show (g e).bind _ = _
  rw [h, bind_ok]
  simp only [hF]
theorem tTru_of (h : g e = .ok d e1) (ht : truD d = some b) : tTru g e = .ok b e1 := by
  show (g e).bind _ = _
  rw [h, bind_ok]
  simp only [ht]
theorem tNotT_of (h : t e = .ok b e1) : tNotT t e = .ok (!b) e1 := by
  show (t e).bind _ = _
  rw [h]; rfl
theorem xTest_of (h : f e = .ok ⟨.bool b, fr⟩ e1) : xTest f e = .ok b e1 := by
  show (f e).bind _ = _
  rw [h]; rfl
theorem sRet_of (h : f e = .ok r e1) : sRet f e = .ok (.rt r) e1 := by
  show (f e).bind _ = _
  rw [h]; rfl
theorem sAsg_of (h : f e = .ok r e1) (hg : gg r e1 = some e2) : sAsg f gg e = .ok .nx e2 := by
  show (f e).bind _ = _
  rw [h, bind_ok]
  simp only [hg]
theorem xOp_ex (h : f e = .ok r e1) (h2 : g e1 = .ok d e2) (hF : F r.d d = some z) : xOp F (.ex f) g e = .ok z e2 := by
  show (f e).bind _ = _
  rw [h, bind_ok]
  show (g e1).bind _ = _
  rw [h2, bind_ok]
  simp only [hF]
theorem xOp_br {d2 : D} (h : xB i e = .ok d0 e) (h2 : g e = .ok d e2) (h3 : xB i e2 = .ok d2 e2) (hF : F d2 d = some z) : xOp F (.br i) g e = .ok z e2 := by
  show (xB i e).bind _ = _
  rw [h, bind_ok]
  show (g e).bind _ = _
  rw [h2, bind_ok]
  show (xB i e2).bind _ = _
  rw [h3, bind_ok]
  simp only [hF]
theorem xCall0_of (h : ga e = .ok ds e1) (hn : ds.length = n) (hφ : φ (ds.map .sh) = .ok r ec) : xCall0 n φ ga e = .ok r e1 := by
  show (ga e).bind _ = _
  rw [h, bind_ok, if_pos hn, hφ]
theorem xCons_of (h : f e = .ok r e1) (h2 : ga e1 = .ok ds e2) : xCons f ga e = .ok (r.d :: ds) e2 := by
  show (f e).bind _ = _
  rw [h, bind_ok, h2]; rfl
theorem iR1_of {j : Int} (h : ga e = .ok [.int j] e1) (hn : near j = true) : iR1 ga e = .ok (iseq 0 1 j.toNat) e1 := by
  show (ga e).bind _ = _
  rw [h, bind_ok]
  show (if near j = true then _ else _) = _
  rw [if_pos hn]
theorem xLk_no (h : f e = .ok r e1) : xLk none f e = .ok r e1 := h
theorem xIf_ff {g2 : XF} (h : t e = .ok false e1) : xIf t f g2 e = g2 e1 := by
  show (t e).bind _ = _
  rw [h]; rfl
theorem xIf_tt {g2 : XF} (h : t e = .ok true e1) : xIf t f g2 e = f e1 := by
  show (t e).bind _ = _
  rw [h]; rfl
theorem fnD_rt {body : SF} {pat : List Bool} {e' eb : En} (h : body (e ++ List.replicate n .un) = .ok (.rt r) eb) (hb : backP pat e eb = some e') : fnD body pat n e = .ok r e' := by
  unfold fnD
  rw [h]
  simp only [hb]
theorem fnD_nx {body : SF} {pat : List Bool} {e' eb : En} (h : body (e ++ List.replicate n .un) = .ok .nx eb) (hb : backP pat e eb = some e') : fnD body pat n e = .ok ⟨.none, false⟩ e' := by
  unfold fnD
  rw [h]
  simp only [hb]
end
section
variable {e e1 e2 : En} {ds : List D} {vs : List Nat} {gg : Rs → En → Option En} {tt : En → Res Bool} {te : XF} {it : En → Res (List D)}
def nO : Sl → Bool | .ow _ _ => false | _ => true
theorem okW_one {i : Nat} {s : Sl} (h : e[i]? = some s) (hs : nO s = true) : okW e [i] = true := by
  unfold okW
  simp only [List.all_cons, List.all_nil, Bool.and_true, h]
  cases s with
  | ow _ _ => cases hs
  | _ => rfl
/-- a comprehension whose turns change the state -/
theorem lc_inv2 {I : List D → En → Prop} (h : ∀ d ∈ ds, ∀ acc e, I acc e → ∃ e1 e2 r fr e3, gg ⟨d, false⟩ (wipeE e vs) = some e1 ∧ tt e1 = .ok true e2 ∧ te e2 = .ok ⟨r, fr⟩ e3 ∧ I (acc ++ [r]) e3) : ∀ acc e, I acc e → acc.length + ds.length ≤ most → ∃ ys e', lcLoop gg tt te vs ds acc e = .ok ys e' ∧ I ys e' ∧ ys.length = acc.length + ds.length := by
  induction ds with
  | nil => intro acc e i _; exact ⟨acc, e, rfl, i, rfl⟩
  | cons d ds ih =>
    intro acc e i hl
    obtain ⟨e1, e2, r, fr, e3, h1, h2, h3, h4⟩ := h d List.mem_cons_self acc e i
    simp only [List.length_cons] at hl
    obtain ⟨ys, e', h5, h6, h7⟩ := ih (fun d m => h d (List.mem_cons_of_mem _ m)) (acc ++ [r]) e3 h4 (by simp; omega)
    refine ⟨ys, e', ?_, h6, by rw [h7]; simp; omega⟩
    unfold lcLoop
    simp only [h1, h2, h3]
    rw [if_pos (by omega)]
    exact h5
theorem xLc_inv {I : List D → En → Prop} (hi : it e = .ok ds e1) (ok : okW e1 vs = true) (hl : ds.length ≤ most) (h0 : I [] e1) (h : ∀ d ∈ ds, ∀ acc e, I acc e → ∃ e1 e2 r fr e3, gg ⟨d, false⟩ (wipeE e vs) = some e1 ∧ tt e1 = .ok true e2 ∧ te e2 = .ok ⟨r, fr⟩ e3 ∧ I (acc ++ [r]) e3) : ∃ ys e', xLc it gg tt te vs e = .ok ⟨.list ys, true⟩ (resE e1 e' vs) ∧ I ys e' ∧ ys.length = ds.length := by
  obtain ⟨ys, e', h1, h2, h3⟩ := lc_inv2 h [] e1 h0 (by simpa using hl)
  refine ⟨ys, e', ?_, h2, by simpa using h3⟩
  unfold xLc
  rw [hi, bind_ok, if_pos ok, h1, bind_ok]
theorem iseq_len {lo c : Int} {n : Nat} : (iseq lo c n).length = n := by simp [iseq]
end
theorem seq_ends {f g : SF} {e e1 : En} {v : D} (h : f e = .ok .nx e1) (k : ∃ e' fr, g e1 = .ok (.rt ⟨v, fr⟩) e') : ∃ e' fr, sSeq f g e = .ok (.rt ⟨v, fr⟩) e' := by rw [seq_nx h]; exact k
end G
end L2
namespace L2
namespace G
open PySem PySem.Spec PyProof.Rows
section
variable {C : Ct} {X : Cx} {K : PySem.W.Frag} {H : Hp} {B : Addr → Prop} {d : D} {v : V}
/-! ### repr(x) of data without dicts -/
def reprOk (d : D) : Bool := SeqAt.shaped d && d.showable && !d.hasDict && decide (d.shown.length ≤ most)
def fRepr : D → Option Rs := fun d => if reprOk d then some ⟨.str d.shown, false⟩ else none
def rRepr (K : PySem.W.Frag) : List V → Hp → VK → Prop := fun xs H Q => ∃ x d, xs = [x] ∧ Dp K H x d ∧ reprOk d = true ∧ Q (.str d.shown) H
theorem cr_repr {k : Nat} (hr : Rm k X.A) : CallR X (.builtin "repr") (rRepr X.K) := by
  intro pins s σ H xs us Q I r h
  obtain ⟨x, d, rfl, hd, ok, q⟩ := h
  obtain ⟨u, rfl, ru⟩ := vals1 r
  simp only [reprOk, Bool.and_eq_true, Bool.not_eq_true', decide_eq_true_eq] at ok
  obtain ⟨⟨⟨h1, h2⟩, h3⟩, h4⟩ := ok
  have hz : d.shown.length ≤ sizeLine := most_ok h4
  have un := hr.r.un
  have dep := SeqAt.depth_of_shaped h1
  have fin : ∀ (h' : Heap) (u : Tok) (tk : Nat), (∀ b o, s.heap.get? b = some o → h'.get? b = some o) → EP X pins σ Q (.str d.shown u) { s with heap := h', toks := tk } := fun h' u tk kp => ⟨.str d.shown, H, I.kept kp, ⟨u, rfl⟩, q⟩
  have fin1 : ∀ {z : Str}, d.shown = z → EP X pins σ Q (.str z s.toks) { s with toks := s.toks + 1 } := fun {z} e => by
    subst e; exact ⟨.str d.shown, H, I.tok _, ⟨_, rfl⟩, q⟩
  obtain ⟨as, rd⟩ := Dp.reads I d x u hd ru
  cases hd with
  | non => cases ru; exact PySem.P.repr_of_none (fin1 rfl)
  | bl b => cases ru; exact PySem.P.repr_of_bool (fin1 rfl)
  | int i =>
    obtain ⟨t, rfl⟩ := ru
    exact PySem.P.repr_of_int (by simpa [PyData.showable] using h2) (fin1 rfl)
  | str z =>
    obtain ⟨t, rfl⟩ := ru
    exact PySem.P.repr_of_str (fin1 rfl) hz
  | lst hs ha =>
    cases ru
    exact repr_of_reads' rd h2 (fun z => by rw [h3] at z; cases z) hr.g (by omega) (fun _ _ e => e) fin hz
  | tup hs ha =>
    cases ru
    exact repr_of_reads' rd h2 (fun z => by rw [h3] at z; cases z) hr.g (by omega) (fun _ _ e => e) fin hz
theorem ok_repr : UnOk C fRepr fun v => rRepr C.K [v] := by
  intro Bx σ H e0 d1 v1 z Q hz s o q
  unfold fRepr at hz
  split at hz
  · rename_i h
    cases hz
    have h' := h
    simp only [reprOk, Bool.and_eq_true] at h
    exact ⟨v1, d1, rfl, o.rdd.dp (SeqAt.canLay_of_shaped h.1.1.1), h', q _ _ (post_s s)⟩
  · cases hz
end
section
variable {C : Ct} {X : Cx} {W : WX} {K : PySem.W.Frag} {Bx By S B : Addr → Prop} {io : List Nat} {σ σ' σ1 σ2 : L2.St} {H H' H1 H2 : Hp} {e0 e' e1 e2 : En} {e a b : Expr} {pos : Pos} {d d' : D} {v : V} {st : Stmt} {r : Rs} {p : Addr} {ds : List D} {xs : List V}
/-! ### op= -/
def fAddS : D → D → Option Rs
  | .int i, .int j => si (i + j)
  | .str x, .str y => if x.length + y.length ≤ most then some ⟨.str (x ++ y), false⟩ else none
  | _, _ => none
abbrev rAddS : R2 := fun x y H Q => rI0 (fun i j => .int (i + j)) x y H Q ∨ ∃ i j, x = .str i ∧ y = .str j ∧ i.length + j.length ≤ sizeLine ∧ Q (.str (i ++ j)) H
theorem iop_addS : OpR X (inplaceOp .Add) rAddS := iop_add.or iop_add_str
theorem ok_addS : OpOk C fAddS rAddS := (okI0.or okCatS).eq fun x y => by
  cases x <;> cases y <;> first | rfl | (simp only [fAddS, fII, fCatS]; try (split <;> rfl))
/-! ### list(range(..)) -/
def fRg : Int → Int → Option Rs := fun a b => if near a && near b && decide ((b - a).toNat ≤ most) then some ⟨.list (iseq a 1 (b - a).toNat), true⟩ else none
theorem reps_rg {a b : Int} : Reps K H B (rgV a b) (iseq a 1 (b - a).toNat) := by
  have : ∀ l : List Nat, Reps K H B (l.map fun i => V.int (a + (i : Nat))) (l.map fun (i : Nat) => PyData.int (a + (i : Int) * 1)) := fun l => by
    induction l with
    | nil => exact .nil
    | cons i l ih => rw [List.map_cons, List.map_cons, Int.mul_one]; exact .cons (.int _) ih
  exact this _
theorem rg_post {a b : Int} {z : Rs} {Q : VK} (hz : fRg a b = some z) (s : Sim C.K Bx σ H e0) (q : ∀ v H', Post C.K Bx σ H e0 z e0 v H' → Q v H') : RgOk a b ∧ ∀ l, H l = none → Q (.ref l) (upd H l (.lst (rgV a b))) := by
  unfold fRg at hz
  split at hz
  · rename_i h
    cases hz
    simp only [Bool.and_eq_true, decide_eq_true_eq] at h
    obtain ⟨⟨h1, h2⟩, h3⟩ := h
    obtain ⟨n1, n2⟩ := near_of h1
    obtain ⟨n3, n4⟩ := near_of h2
    exact ⟨⟨n1, n2, n3, n4, Nat.le_trans h3 (by decide)⟩, fun l hl => q _ _ (.newL s hl reps_rg)⟩
  · cases hz
def xLr1 (g : En → Res D) : XF := fun e => (g e).bind fun d e1 => match d with
  | .int n => (match fRg 0 n with | some r => .ok r e1 | none => .st)
  | _ => .st
theorem ge_lr1 {g : En → Res D} {p p1 p2 : Pos} (hc : X.calm = true) (hg : Gl X "list") (hm : X.mg "list" = none) (hg2 : Gl X "range") (hm2 : X.mg "range" = none) (ha : GO C X W a g) (hs : starEach [a] X.env = (false, eval a X.env) :: starEach [] X.env := by rfl)
    (na : starEach [.Call (.Name "range" p1) [a] [] p2] X.env = (false, eval (.Call (.Name "range" p1) [a] [] p2) X.env) :: starEach [] X.env := by rfl) : GE C X W (.Call (.Name "list" p) [.Call (.Name "range" p1) [a] [] p2] [] pos) (xLr1 g) := by
  refine pe_imp (pe_listRg hc hg hm (prg_1 hg2 hm2 ha hs) na) fun σ H Q ⟨e, Bx, s, q⟩ => ⟨e, Bx, s, run_mono (bind_run q) (fun d e1 q v H1 p => ?_) fun _ z => z⟩
  cases d with
  | int n =>
    dsimp only at q
    cases z : fRg 0 n with
    | none => rw [z] at q; exact q.elim
    | some r =>
      rw [z] at q
      exact ⟨n, p.o.int, rg_post z p.s fun v H2 p2 => q v H2 (Post.after_o p p2)⟩
  | _ => exact q.elim
/-- list(range(a, b)): the ends are ints -/
def xLr2 (f : XF) (g : En → Res D) : XF := fun e => (f e).bind fun r e1 => match r.d with
  | .int i => (g e1).bind fun d e2 => (match d with
    | .int j => (match fRg i j with | some r => .ok r e2 | none => .st)
    | _ => .st)
  | _ => .st
theorem ge_lr2 {f : XF} {g : En → Res D} {p p1 p2 : Pos} (hc : X.calm = true) (hg : Gl X "list") (hm : X.mg "list" = none) (hg2 : Gl X "range") (hm2 : X.mg "range" = none) (ha : GE C X W a f) (hb : GO C X W b g) (hs : starEach [a, b] X.env = (false, eval a X.env) :: starEach [b] X.env := by rfl) (hs2 : starEach [b] X.env = (false, eval b X.env) :: starEach [] X.env := by rfl)
    (hp : (backTo p2 (starEach [b] X.env)).any (·.1) = false := by rfl) (na : starEach [.Call (.Name "range" p1) [a, b] [] p2] X.env = (false, eval (.Call (.Name "range" p1) [a, b] [] p2) X.env) :: starEach [] X.env := by rfl) :
    GE C X W (.Call (.Name "list" p) [.Call (.Name "range" p1) [a, b] [] p2] [] pos) (xLr2 f g) := by
  refine pe_imp (pe_listRg hc hg hm (prg_2 hg2 hm2 ha hb hs hs2 hp) na) fun σ H Q ⟨e, Bx, s, q⟩ => ⟨e, Bx, s, run_mono (bind_run q) (fun r e1 q v H1 p1 => ?_) fun _ z => z⟩
  obtain ⟨d, fr⟩ := r
  cases d with
  | int i =>
    have rp := p1.rp
    cases rp
    refine ⟨e1, Bx, p1.s, run_mono (bind_run q) (fun d e2 q w H2 p2 => ?_) fun _ z => EX.after z p1.fr p1.le⟩
    cases d with
    | int j =>
      dsimp only at q
      cases z : fRg i j with
      | none => rw [z] at q; exact q.elim
      | some r =>
        rw [z] at q
        exact ⟨i, j, rfl, p2.o.int, rg_post z p2.s fun v H3 p3 => q v H3 (p1.after (Post.after_o p2 p3))⟩
    | _ => exact q.elim
  | _ => exact q.elim
/-! ### for i, x in enumerate(xs), xs a list -/
def enumD (ds : List D) : List D := ds.zipIdx.map fun q => PyData.tuple [.int (q.2 : Nat), q.1]
theorem enumD_at {i : Nat} {y : D} (h : (enumD ds)[i]? = some y) : ∃ d, ds[i]? = some d ∧ y = .tuple [.int (i : Nat), d] := by
  unfold enumD at h
  rw [List.getElem?_map, List.getElem?_zipIdx] at h
  cases z : ds[i]? with
  | none => rw [z] at h; cases h
  | some d => rw [z] at h; simp at h; exact ⟨d, rfl, h.symm⟩
theorem wk_enum {l : Addr} (q : H1 l = some (.lst xs)) (nS : ¬ S l) (rs : Reps K H1 B xs ds) (hSB : ∀ a, S a → B a) : Wk K S B (Ite K l) H1 (enumD ds) := by
  intro H B' k hB i
  have q' : SqL K H l xs := sql_rd (k.keep l _ q nS)
  have rs' : Reps K H B' xs ds := rs.go (k.anti hSB) hB
  refine ⟨fun y hy => ?_, fun hl => ⟨xs, q', by rw [rs.length]; simpa [enumD] using hl⟩⟩
  obtain ⟨d, hd, rfl⟩ := enumD_at hy
  obtain ⟨x, hx, rx⟩ := rs'.getD hd
  refine ⟨⟨xs, x, q', hx⟩, fun w H' ⟨T, x', ew, hn, eH, he⟩ => ?_⟩
  have := he xs q'
  rw [hx] at this; cases this
  subst ew eH
  exact ⟨ext_new hn, .tup (.inl (.inl upd_same)) ((Reps.cons (.int _) (.cons rx .nil)).keep (.new hn))⟩
def iEn (f : XF) : En → Res (List D) := fun e => (f e).bind fun r e1 => match r.d with | .list ds => .ok (enumD ds) e1 | _ => .st
theorem gi_en {elts : List Expr} {kk : Nat} {tpos p : Pos} {f : XF} (hK : X.K = C.K) (hg : Gl X "enumerate") (hm : X.mg "enumerate" = none) (h : GE C X W a f) (hs : starEach [a] X.env = (false, eval a X.env) :: starEach [] X.env := by rfl) : GI C X W (.Tuple elts kk tpos) (.Call (.Name "enumerate" p) [a] [] pos) (iEn f) := by
  refine pi_imp (pi_enum hg hm (pa_cons h pa_nil hs) hs) fun σ H R ⟨e, Bx, s, q⟩ => ⟨e, Bx, s, run_mono (bind_run q) (fun r e1 q v H1 p => ?_) fun _ z => z⟩
  obtain ⟨d, fr⟩ := r
  have hp := p.rp
  cases d with
  | list ds =>
    cases hp with
    | @lst l xs _ qd nb rs =>
      refine ⟨l, xs, rfl, sql_rd qd, q _ H1 ⟨p.fr, p.le, p.s, ?_⟩⟩
      rw [hK]
      exact wk_enum qd (fun z => nb z.avo) rs fun a z => z.avo
  | _ => exact q.elim
/-- .. of a name: an own list is locked -/
def iEm (i : Nat) : En → Res (List D) := fun e => (xB i e).bind fun d _ => match d with | .list ds => .ok (enumD ds) (lockE e i) | _ => .st
theorem gi_em {i : Nat} {x : Str} {elts : List Expr} {kk : Nat} {tpos p np : Pos} (hK : X.K = C.K) (hg : Gl X "enumerate") (hm : X.mg "enumerate" = none) (hN : X.N[i]? = some x) (hv : Vis X.env.scope x) (hd : (x == ("__debug__" : Str)) = false := by decide) (hcd : (x == ("__classdict__" : Str)) = false := by decide)
    (hs : starEach [.Name x np] X.env = (false, eval (.Name x np) X.env) :: starEach [] X.env := by rfl) : GI C X W (.Tuple elts kk tpos) (.Call (.Name "enumerate" p) [.Name x np] [] pos) (iEm i) := by
  refine pi_imp (pi_enum hg hm (pa_cons (pe_var hN hv hd hcd) pa_nil hs) hs) fun σ H R ⟨e, Bx, s, q⟩ => ?_
  obtain ⟨d, v, hx, hv', o, q⟩ := look_run s q
  obtain ⟨s', le⟩ := lock_le s i
  have an : ∀ a, Avo Bx σ (lockE e i) a → Avo Bx σ e a := Avo.le le
  cases d with
  | list ds =>
    obtain ⟨l, xs, rfl, qd, rs⟩ := o.list
    refine ⟨_, hv', l, xs, rfl, sql_rd qd, q _ H ⟨.refl, le, s', ?_⟩⟩
    rw [hK]
    refine wk_enum qd (fun z => ?_) (rs.anti an) fun a z => z.avo
    unfold xB at hx
    split at hx
    · rename_i d' h1
      cases hx
      obtain ⟨v, r1, r2⟩ := s.sh i _ h1
      rw [hv'] at r1; cases r1
      cases r2 with | lst _ nb _ => exact nb (z.elim (fun z => .inl (le.wr _ z).av) .inr)
    · rename_i w d' h1
      cases hx
      rcases z with ⟨j, d2, h2, h3⟩ | z
      case inr =>
        obtain ⟨a', t1, t2, _⟩ := s.ow i _ _ h1
        rw [hv'] at t1; cases t1
        exact t2 z
      have h2' : e[j]? = some (Sl.ow true d2) ∧ j ≠ i := by
        unfold lockE at h2
        rw [h1] at h2
        cases w with
        | true =>
          rcases set_look h2 with ⟨_, z⟩ | ⟨n, z⟩
          · cases z
          · exact ⟨z, n⟩
        | false =>
          refine ⟨h2, fun n => ?_⟩
          subst n; rw [h1] at h2; cases h2
      exact h2'.2 (s.inj j i _ _ _ _ l h2'.1 h1 h3 hv')
    · cases hx
  | _ => exact q.elim
def sForL (i : Nat) (it : En → Res (List D)) (g : Rs → En → Option En) (b : SF) : SF := fun e => (sFor it g b e).bind fun fl e2 => match fl with | .rt r => .ok (.rt r) e2 | fl => .ok fl (relock e e2 i)
/-- a loop over something that locks slot i -/
theorem gs_forL {i : Nat} {tg it : Expr} {body : List Stmt} {w : En → Res (List D)} {g : Rs → En → Option En} {f : SF} (hp : PassesOwn (model X.prog X.w) X.A X.env X.xe) (hc : X.calm = true) (hi : GI C X W tg it w) (hg : GG C X (i :: io) tg g) (hb : GSs C X W (i :: io) body f)
    (hs : ∀ x, foldedSetIterable it X.env x = pure x := by intro _; rfl) : GS C X W io (.For tg it body [] pos) (sForL i w g f) :=
  ps_imp (ps_for hp hc hi hg hb hs) fun Dd σ H ⟨e, Bx, s, q⟩ => for_run ⟨e, Bx, s, run_mono (bind_run q) (fun fl e2 q => by
    cases fl with
    | nx => exact fun σ' H' p => q σ' H' p.relock
    | ct => exact fun σ' H' p => q σ' H' p.relock
    | rt r => exact fun σ' v H' p => q σ' v H' ⟨p.k, p.av, p.is, p.new, fun j m => p.io j (List.mem_cons_of_mem _ m)⟩) fun _ z => z⟩
/-! xs.index(y) of a list, where y is there -/
def fIdx : D → D → Option Rs := fun x y => match x with
  | .list ds => if SeqAt.shaped (.list ds) && SeqAt.shaped y then (ds.findIdx? fun z => PyData.eqv z y).map fun j => ⟨.int (j : Nat), false⟩ else none
  | _ => none
def isL : D → Bool | .list _ => true | _ => false
theorem isL_ty {v : V} (h : isL d = true) (o : Opd K H B v d) : tyV K "list" v H := by
  cases d with
  | list ds =>
    obtain ⟨l, xs, rfl, q, _⟩ := o.list
    exact .inl ⟨rfl, xs, .inl (.inl q)⟩
  | _ => cases h
/-- a method of a list with one argument, the list is only read -/
def xLM (F : D → D → Option Rs) (l : Lf) (g : En → Res D) : XF := match l with
  | .ex f => fun e => (f e).bind fun r e1 => if isL r.d then (g e1).bind fun y e2 => (match F r.d y with | some z => .ok z e2 | none => .st) else .st
  | .br i => fun e => (xB i e).bind fun d0 _ => if isL d0 then (g e).bind fun y e2 => ((xB i e2).bind fun x e3 => (match F x y with | some z => .ok z e3 | none => .st)) else .st
theorem ge_lm {id : String} {name : Str} {apos : Pos} {rr : V → List V → Hp → VK → Prop} {F : D → D → Option Rs} {l : Lf} {g : En → Res D} (hK : X.K = C.K) (slot : Slot "list" name id) (hty : typeOf (.builtin id) = pure (.type "method_descriptor")) (hm : MtR X id rr) (ho : OpOk C F fun x y => rr x [y]) (ha : GL C X W a l) (hb : GO C X W b g)
    (hbase : attributeBase a name X.env (eval a X.env) = eval a X.env := by rfl)
    (hfew : ((backTo pos (starEach [b] X.env)).all (fun x => !x.1) && (backToKw pos (keywordEach [] X.env)).all (fun x => x.1.isSome)
      && decide (([b] : List Expr).length + ([] : List Keyword).length + (if ([] : List Keyword).isEmpty then 0 else 1) < 30)) = true := by rfl)
    (hline : (apos.endLine == pos.line) = true := by rfl) (hs : starEach [b] X.env = (false, eval b X.env) :: starEach [] X.env := by rfl) : GE C X W (.Call (.Attribute a name apos) [b] [] pos) (xLM F l g) := by
  refine pe_imp (pe_bm PySem.F.plainAttrs_list slot hty hm ha (pa_cons hb pa_nil hs) hbase hfew hline hs rfl) fun σ H Q ⟨e, Bx, s, q⟩ => ?_
  cases l with
  | ex f =>
    refine ⟨e, Bx, s, run_mono (bind_run q) (fun r e1 q v H1 p1 => ?_) fun _ z => z⟩
    split at q
    case isFalse => exact q.elim
    rename_i hl
    refine ⟨by rw [hK]; exact isL_ty hl (.rep p1.rp), e1, Bx, p1.s, run_mono (bind_run q) (fun y e2 q w H2 p2 => ?_) fun _ z => EX.after z p1.fr p1.le⟩
    cases z : F r.d y with
    | none => rw [z] at q; exact q.elim
    | some z' =>
      rw [z] at q
      exact ho Bx σ H2 e2 r.d y v w z' Q z p2.s (.rep (rep_after p1.rp p2.fr p2.le)) p2.o fun u H3 p3 => q u H3 (p1.after (Post.after_o p2 p3))
  | br i =>
    obtain ⟨d0, v, hx0, hv, o, q⟩ := look_run s q
    split at q
    case isFalse => exact q.elim
    rename_i hl
    refine ⟨v, hv, by rw [hK]; exact isL_ty hl o, e, Bx, s, run_mono (bind_run q) (fun y e2 q w H2 p2 => ?_) fun _ z => z⟩
    obtain ⟨d1, v', _, hv', o', q⟩ := look_run p2.s q
    rw [hv] at hv'; cases hv'
    cases z : F d1 y with
    | none => rw [z] at q; exact q.elim
    | some z' =>
      rw [z] at q
      exact ho Bx σ H2 e2 d1 y v w z' Q z p2.s o' p2.o fun u H3 p3 => q u H3 (Post.after_o p2 p3)
theorem ok_idx : OpOk C fIdx fun x y => rIndexD C.K x [y] := by
  intro Bx σ H e0 d1 d2 v1 v2 z Q hz s o1 o2 q
  cases d1 <;> try (cases hz; done)
  rename_i ds
  simp only [fIdx] at hz
  split at hz
  · rename_i h
    simp only [Bool.and_eq_true] at h
    cases hj : ds.findIdx? fun z => PyData.eqv z d2 with
    | none => rw [hj] at hz; cases hz
    | some j =>
      rw [hj] at hz; cases hz
      obtain ⟨hlt, h1, h2⟩ := List.findIdx?_eq_some_iff_getElem.mp hj
      have r1 := o1.rdd.dp (SeqAt.canLay_of_shaped h.1)
      obtain ⟨a, xs, rfl, _, _⟩ := o1.list
      refine ⟨a, v2, d2, ds, j, ds[j], rfl, rfl, r1, o2.rdd.dp (SeqAt.canLay_of_shaped h.2), h.1, h.2, List.getElem?_eq_getElem hlt, h1, fun m z hm hz => ?_, q _ _ (post_i s)⟩
      obtain ⟨hml, rfl⟩ := List.getElem?_eq_some_iff.mp hz
      simpa using h2 m hm
  · cases hz
end
end G
end L2
namespace L2
namespace G
open PySem PySem.Spec PyProof.Rows
section
variable {prog : Program} {w : World} {A : Around} {E : Value → Shared → Prop} {s : Shared}
/-! ### t[::-1] of a tuple -/
theorem adj_rev (n : Nat) : Builtin.Slice.sliceAdjust none none (-1) (n : Int) = ((n : Int) - 1, -1) := by
  unfold Builtin.Slice.sliceAdjust
  simp
theorem plc_rev (n : Nat) : Builtin.Slice.slicePlaces ((n : Int) - 1) (-1) (-1) = n := by
  unfold Builtin.Slice.slicePlaces
  simp
  try omega
theorem sl_rev {sl : Addr} {n : Nat} {vs : Value} {Q : Int × Int × Nat → Shared → Prop} (hs : s.heap.IsSliceOf sl .none .none vs) (ps : IsPart vs (some (-1))) (h : Q ((n : Int) - 1, -1, n) s) :
    wpAny (model prog w) A (Builtin.Slice.sliceApplied (.ref sl) (pure (n : Int))) Q E s := by
  obtain ⟨os, hos, hcs, hds⟩ := id hs
  unfold Builtin.Slice.sliceApplied Builtin.Slice.sliceFields
  refine wpAny_bind (wpAny_bind (wpAny_field hos hds (x := .none) rfl (wpAny_bind (wpAny_field hos hds (x := .none) rfl (wpAny_bind (wpAny_field hos hds (x := vs) rfl (wpAny_pure (wpAny_bind (HT.slicePart_ ps ?_)))))))))
  show wpAny _ _ (if ((-1 : Int) == 0) = true then _ else _) _ _ s
  rw [if_neg (by decide)]
  refine wpAny_bind (HT.slicePart_ .none (wpAny_bind (HT.slicePart_ .none (wpAny_bind (wpAny_pure ?_)))))
  show wpAny _ _ (match Builtin.Slice.sliceAdjust none none (-1) (n : Int) with | (lo, hi) => pure (lo, (-1 : Int), Builtin.Slice.slicePlaces lo hi (-1))) _ _ s
  rw [adj_rev n]
  show wpAny _ _ (pure ((n : Int) - 1, (-1 : Int), Builtin.Slice.slicePlaces ((n : Int) - 1) (-1) (-1))) _ _ s
  rw [plc_rev]
  exact wpAny_pure h
theorem pick_rev (xs : Array Value) : ((List.range xs.size).filterMap fun (m : Nat) => xs[((xs.size : Int) - 1 + (m : Int) * (-1)).toNat]?).toArray = xs.toList.reverse.toArray := by
  have e : ((List.range xs.size).filterMap fun (m : Nat) => xs[((xs.size : Int) - 1 + (m : Int) * (-1)).toNat]?) = ((List.range xs.size).map fun k => xs.size - 1 - k).filterMap (xs[·]?) := by
    rw [List.filterMap_map]
    have fm : ∀ (l : List Nat) (f g : Nat → Option Value), (∀ m ∈ l, f m = g m) → l.filterMap f = l.filterMap g := by
      intro l f g h
      induction l with
      | nil => rfl
      | cons a l ih => rw [List.filterMap_cons, List.filterMap_cons, h a List.mem_cons_self, ih fun m z => h m (List.mem_cons_of_mem _ z)]
    refine fm _ _ _ fun m hm => ?_
    have hm := List.mem_range.mp hm
    have : ((xs.size : Int) - 1 + (m : Int) * (-1)).toNat = xs.size - 1 - m := by omega
    show xs[_]? = xs[_]?
    rw [this]
  rw [e, PySem.W.krv_range, List.filterMap_reverse, PySem.W.krv_all]
theorem getItem_rev {t sl : Addr} {items : Array Value} {vs : Value} {Q : Value → Shared → Prop} (ht : IsTup s.heap t items) (hs : s.heap.IsSliceOf sl .none .none vs) (ps : IsPart vs (some (-1))) (hsz : items.size ≤ sizeLine)
    (h : Q (.ref s.heap.objs.size) { s with heap := s.heap.push { cls := .type "tuple", data := .seq items.toList.reverse.toArray } }) : wpAny (model prog w) A (getItem (.ref t) (.ref sl)) Q E s := by
  have hok : sizeOk (.seq items.toList.reverse.toArray) := by
    show items.toList.reverse.toArray.size ≤ sizeLine
    simpa using hsz
  obtain ⟨os, hos, hcs, hds⟩ := id hs
  unfold getItem
  try with_reducible refine wpAny_holding ?_
  first | refine wpAny_bind (wpAny_pure ?_) | skip
  refine wpAny_bind (wpAny_sequenceKey ht.typeIs (by decide) (wpAny_bind (wpAny_callSpecial?_slot (name := Str.ofString "__getitem__") ht.typeIs PyProof.Rows.slot_tuple_getitem
    (wpAny_call_entry PyProof.Rows.slot_tuple_getitem ht.typeIs PyProof.Rows.entry_tuple_getitem ?_ (PyProof.Rows.args_tuple_getitem _ _)))))
  show wpAny _ _ (Builtin.Tuple.tupleItemsOf (.ref t) >>= _) _ _ s
  refine wpAny_bind (PyProof.Rows.tupleItemsOf_ ht (wpAny_bind (wpAny_typeOf (⟨os, hos, hcs⟩ : s.TypeIs (.ref sl) "slice") ?_)))
  rw [if_pos (by decide)]
  refine wpAny_bind (sl_rev hs ps ?_)
  have hno : ¬ ((((items.size : Int) - 1) == 0 && (-1 : Int) == 1 && items.size == items.size) = true) := by simp
  show wpAny _ _ (if (((items.size : Int) - 1) == 0 && (-1 : Int) == 1 && items.size == items.size) = true then _ else _) _ _ s
  rw [if_neg hno, pick_rev]
  first
    | exact wpAny_bind (m := Builtin.Tuple.tupleExact _)
        (wpAny_newObj_type (wpAny_pure ⟨_, rfl, wpAny_pure h⟩) hok)
    | exact wpAny_bind (m := Builtin.Tuple.tupleExact _)
        (wpAny_newObj_type (wpAny_bind (wpAny_pure (wpAny_pure ⟨_, rfl, wpAny_pure h⟩))) hok)
end
section
variable {C : Ct} {X : Cx} {W : WX} {a : Expr} {ta : TE}
def rRevA (K : PySem.W.Frag) : V → Hp → VK → Prop := fun x H Q => (∃ l xs, x = .ref l ∧ SqL K H l xs ∧ ∀ p, H p = none → Q (.ref p) (upd H p (.lst xs.reverse))) ∨ ∃ l xs, x = .ref l ∧ SqT K H l xs ∧ ∀ p, H p = none → Q (.ref p) (upd H p (.tup xs.reverse))
theorem pe_revA {k : Nat} {p1 p2 p3 pos : Pos} (he : PE X a ta) : PE X (.Subscript a (.Slice none none (some (.UnaryOp .USub (.Constant (.int 1) k p1) p2)) p3) pos) (fun σ H Q => ta σ H fun x H1 => rRevA X.K x H1 Q) := by
  refine ⟨fun pins s σ H Q I h => Subscript_ (thn (he.run pins s σ H _ I h) fun v s1 ⟨x, H1, I1, r1, q1⟩ => ?_)⟩
  have hst : PO X (some (.UnaryOp .USub (.Constant (.int 1) k p1) p2)) (tPart (tUn (rU fun i => .int (-i)) (tC (.int 1)))) :=
    po_some (pe_un un_neg pe_int)
  refine wpAny_Slice (thn (po_none.run pins s1 σ H1 (fun o H2 => o = none ∧ H2 = H1) I1 ⟨rfl, rfl⟩)
    fun vl s2 ⟨l, H2, I2, pl, el, e2⟩ => ?_)
  subst el e2
  cases pl
  refine thn (po_none.run pins s2 σ H2 (fun o H3 => o = none ∧ H3 = H2) I2 ⟨rfl, rfl⟩)
    fun vu s3 ⟨u, H3, I3, pu, eu, e3⟩ => ?_
  subst eu e3
  cases pu
  refine thn (hst.run pins s3 σ H3 (fun o H4 => o = some (-1) ∧ H4 = H3) I3 ⟨1, rfl, -1, rfl, rfl, rfl⟩)
    fun vs s4 ⟨o, H4, I4, ps, eo, e4⟩ => ?_
  subst eo e4
  have I5 : Inv X pins σ H4 { s4 with heap := s4.heap.push { cls := .type "slice", data := .fields #[.none, .none, vs] } } :=
    I4.kept (t' := s4.toks) fun b ob q => Heap.get?_push_of_some _ q
  rcases q1 with ⟨l, xs, ex, hx, q⟩ | ⟨l, xs, ex, hx, q⟩
  · subst ex
    cases r1
    obtain ⟨its, r, ht, hz⟩ := I5.list hx
    have hlen := r.length
    refine tail_any (ops := [.ref l, .ref s4.heap.objs.size]) ht.isList.typeIs PySem.slot_list_getitem.lookup ?_ (by with_unfolding_all rfl)
    refine wpAny_getItem_list_slice ht.isList (Heap.IsSliceOf.new _ .none .none vs) .none .none ps (by decide) ?_ (by rw [List.size_toArray]; omega)
    rw [PySem.W.krv_pick]
    exact ⟨.ref _, _, I5.laid (t' := s4.toks) (o := .lst xs.reverse) (fun b ob q => Heap.get?_push_of_some _ q) (Nat.le_refl _) ⟨by rw [List.length_reverse]; exact hz, _, 0, r.reverse, Heap.get?_push_size _ rfl⟩, rfl, q _ (I5.hok.fresh (Nat.le_refl _))⟩
  · subst ex
    cases r1
    obtain ⟨its, r, ht, hz⟩ := I5.tuple hx
    have hlen := r.length
    refine tail_any (ops := [.ref l, .ref s4.heap.objs.size]) ht.typeIs PyProof.Rows.slot_tuple_getitem.lookup ?_ (by with_unfolding_all rfl)
    refine getItem_rev ht (Heap.IsSliceOf.new _ .none .none vs) ps (by rw [List.size_toArray]; omega) ?_
    exact ⟨.ref _, _, I5.laid (t' := s4.toks) (o := .tup xs.reverse) (fun b ob q => Heap.get?_push_of_some _ q) (Nat.le_refl _) ⟨by rw [List.length_reverse]; exact hz, _, r.reverse, IsTup.new _ _⟩, rfl, q _ (I5.hok.fresh (Nat.le_refl _))⟩
def fRevA : D → Option Rs
  | .list ds => some ⟨.list ds.reverse, true⟩
  | .tuple ds => some ⟨.tuple ds.reverse, false⟩
  | _ => none
theorem ok_revA : UnOk C fRevA (rRevA C.K) := by
  intro Bx σ H e0 d1 v1 z Q hz s o q
  cases d1 <;> try (cases hz; done)
  · cases hz
    obtain ⟨a, xs, rfl, hq, rs⟩ := o.list
    exact .inl ⟨a, xs, rfl, .inl (.inl hq), fun p hp => q _ _ (.newL s hp rs.reverse)⟩
  · cases hz
    obtain ⟨a, xs, rfl, hq, rs⟩ := o.tuple
    exact .inr ⟨a, xs, rfl, hq, fun p hp => q _ _ (.newT s hp rs.reverse)⟩
theorem ge_revA {g : En → Res D} {k : Nat} {p1 p2 p3 pos : Pos} (hK : X.K = C.K) (h : GO C X W a g) : GE C X W (.Subscript a (.Slice none none (some (.UnaryOp .USub (.Constant (.int 1) k p1) p2)) p3) pos) (xOne fRevA g) := by
  refine pe_imp (pe_revA h) fun σ H Q q => ?_
  rw [hK]
  exact un_run ok_revA q
/-! a def that calls itself: with no call left -/
theorem gf_st {P : Program} {w : World} {mg : Str → Option Value} {base : Heap} {k : Nat} {x : Str} {st : Stmt} {ps : List Str} {pat : List Bool} (h : DefF C mg x st ps) (hp : ps.length = pat.length) : GF C P w mg base k x pat (fun _ => .st) := by
  obtain ⟨f, fd, Fk, hm, bd⟩ := h
  refine ⟨f, fd, ps, ⟨fun vs H Q E ⟨ds, Bx, h1, _⟩ => by rw [h1, hp], fun A outer s H args us vs Q E _ _ _ _ ⟨_, _, _, _, _, z⟩ => z.elim⟩, hm, Fk.kp, bd⟩
end
end G
end L2
namespace L2
namespace G
open PySem PySem.Spec PyProof.Rows
theorem hu65 {A : Around} {k : Nat} (hr : Rm k A) : A.units + 65 < cLine := by have := hr.r.un; omega
def okD (d : D) : Prop := SeqAt.shaped d = true
theorem fEq_str {x y : Str} (hx : PyData.strOk x = true) (hy : PyData.strOk y = true) : fEq (.str x) (.str y) = sb (decide (x = y)) := by
  have h1 : ∀ {z : Str}, PyData.strOk z = true → SeqAt.shaped (.str z) = true := fun {z} h => by simp [SeqAt.shaped, PyData.canLay0, PyData.depth, h]
  unfold fEq
  rw [h1 hx, h1 hy]
  simp [PyData.eqv]
  rfl
theorem fNe_int {i j : Int} : fNe (.int i) (.int j) = sb (!decide (i = j)) := by
  have h : ∀ i : Int, SeqAt.shaped (.int i) = true := fun i => by simp [SeqAt.shaped, PyData.canLay0, PyData.depth]
  unfold fNe
  rw [h, h]
  simp [PyData.eqv]
  rfl
theorem ok_str {x : Str} (h : okD (.str x)) : PyData.strOk x = true := by
  simpa [okD, SeqAt.shaped, PyData.canLay0, PyData.depth] using h
theorem okD_iff {d : D} : okD d ↔ d.canLay0 = true ∧ d.depth ≤ 64 := by
  unfold okD SeqAt.shaped
  rw [Bool.and_eq_true, decide_eq_true_eq]
theorem okD_tup {ds : List D} (h : okD (.tuple ds)) : ∀ d ∈ ds, okD d := by
  obtain ⟨h1, h2⟩ := okD_iff.mp h
  have h1 : PyData.canLayAll0 ds = true := by simpa [PyData.canLay0] using h1
  have h2 : PyData.depthAll ds + 1 ≤ 64 := by simpa only [PyData.depth] using h2
  have key : ∀ (ds : List D) (k : Nat), PyData.canLayAll0 ds = true → PyData.depthAll ds ≤ k → ∀ d ∈ ds, d.canLay0 = true ∧ d.depth ≤ k := by
    intro ds k
    induction ds with
    | nil => intro _ _ d m; cases m
    | cons a ds ih =>
      intro c e d m
      simp only [PyData.canLayAll0, Bool.and_eq_true, PyData.depthAll] at c e
      rcases List.mem_cons.mp m with rfl | m
      · exact ⟨c.1, by omega⟩
      · exact ih c.2 (by omega) d m
  intro d m
  have := key ds 63 h1 (by omega) d m
  exact okD_iff.mpr ⟨this.1, by omega⟩
def optI : Option Int → D | none => .none | some x => .int x
theorem in2 {s x y : Str} {neg : Bool} : fInA neg (.str s) (.tuple [.str x, .str y]) = sb (if neg then !(decide (x = s) || decide (y = s)) else (decide (x = s) || decide (y = s))) := by
  simp [fInA, fIn, flatD, inD, PyData.eqv]
  rfl
theorem in2L {s x y : Str} {neg : Bool} : fInA neg (.str s) (.list [.str x, .str y]) = sb (if neg then !(decide (x = s) || decide (y = s)) else (decide (x = s) || decide (y = s))) := by
  simp [fInA, fIn, flatD, inD, PyData.eqv]
  rfl
theorem xLk_none (F : XF) : xLk none F = F := rfl
theorem in01 {j : Int} : fInA false (.int j) (.list [.int 0, .int 1]) = sb (decide (0 = j) || decide (1 = j)) := by
  simp [fInA, fIn, flatD, inD, PyData.eqv]
  rfl
def b2i (b : Bool) : Int := if b then 1 else 0
theorem xTup_of {g : En → Res (List D)} {e e1 : En} {ds : List D} (h : g e = .ok ds e1) (hl : ds.length ≤ most) : xTup g e = .ok ⟨.tuple ds, false⟩ e1 := by
  show (g e).bind _ = _
  rw [h, bind_ok, if_pos hl]
theorem tOrT_tt {t u : En → Res Bool} {e e1 : En} (h : t e = .ok true e1) : tOrT t u e = .ok true e1 := by
  show (t e).bind _ = _
  rw [h]; rfl
theorem tOrT_ff {t u : En → Res Bool} {e e1 : En} (h : t e = .ok false e1) : tOrT t u e = u e1 := by
  show (t e).bind _ = _
  rw [h]; rfl
theorem xCons1 {f : XF} {e e1 : En} {r : Rs} (h : f e = .ok r e1) : xCons f xNil e = .ok [r.d] e1 := xCons_of h rfl
theorem seq_rt {f g : SF} {e e1 : En} {r : Rs} (h : f e = .ok (.rt r) e1) : sSeq f g e = .ok (.rt r) e1 := by
  unfold sSeq
  rw [h]; rfl
def tb (p : Nat → Bool) : Nat → Nat
  | 0 => 0
  | m + 1 => tb p m + (if p m then 2 ^ m else 0)
theorem tb_lt (p : Nat → Bool) : ∀ m, tb p m < 2 ^ m
  | 0 => by simp [tb]
  | m + 1 => by
    have := tb_lt p m
    unfold tb
    rw [Nat.pow_succ]
    split <;> omega
theorem tb_bit (p : Nat → Bool) : ∀ m x, (tb p m).testBit x = (decide (x < m) && p x)
  | 0, x => by simp [tb]
  | m + 1, x => by
    have h := tb_bit p m x
    have hl := tb_lt p m
    unfold tb
    by_cases hp : p m = true
    · rw [if_pos hp, Nat.add_comm]
      rcases Nat.lt_trichotomy x m with hx | hx | hx
      · rw [Nat.testBit_two_pow_add_gt hx, h]
        have : x < m + 1 := by omega
        simp [hx, this]
      · subst hx
        rw [Nat.testBit_two_pow_add_eq, h]
        simp [hp]
      · have h1 : 2 ^ m + tb p m < 2 ^ x := Nat.lt_of_lt_of_le (by rw [Nat.pow_succ]; omega : 2 ^ m + tb p m < 2 ^ (m + 1)) (Nat.pow_le_pow_right (by decide) hx)
        rw [Nat.testBit_lt_two_pow h1]
        have : ¬ x < m + 1 := by omega
        simp [this]
    · rw [if_neg hp, Nat.add_zero, h]
      by_cases hx : x < m
      · have : x < m + 1 := by omega
        simp [hx, this]
      · by_cases hxm : x = m
        · subst hxm; simp [hp]
        · have : ¬ x < m + 1 := by omega
          simp [hx, this]
theorem tb_and (p q : Nat → Bool) (m : Nat) : tb p m &&& tb q m = tb (fun x => p x && q x) m := by
  apply Nat.eq_of_testBit_eq
  intro x
  rw [Nat.testBit_and, tb_bit, tb_bit, tb_bit]
  cases decide (x < m) <;> cases p x <;> cases q x <;> rfl
theorem tb_or (p q : Nat → Bool) (m : Nat) : tb p m ||| tb q m = tb (fun x => p x || q x) m := by
  apply Nat.eq_of_testBit_eq
  intro x
  rw [Nat.testBit_or, tb_bit, tb_bit, tb_bit]
  cases decide (x < m) <;> cases p x <;> cases q x <;> rfl
theorem bAnd_nat (a b : Nat) : Builtin.bitAnd (a : Int) (b : Int) = ((a &&& b : Nat) : Int) := by
  have h1 : decide ((0 : Int) ≤ (a : Int)) = true := by simp
  have h2 : decide ((0 : Int) ≤ (b : Int)) = true := by simp
  unfold Builtin.bitAnd
  rw [h1, h2]
  simp only [Int.toNat_natCast]
theorem bOr_nat (a b : Nat) : Builtin.bitOr (a : Int) (b : Int) = ((a ||| b : Nat) : Int) := by
  have e : ∀ c : Nat, Builtin.bitNot (c : Int) = -(c : Int) - 1 := fun c => rfl
  have e2 : ∀ c : Nat, (Builtin.bitNot (-(c : Int) - 1)).toNat = c := fun c => by simp only [Builtin.bitNot]; omega
  have h1 : decide ((0 : Int) ≤ -(a : Int) - 1) = false := by simp only [decide_eq_false_iff_not]; omega
  have h2 : decide ((0 : Int) ≤ -(b : Int) - 1) = false := by simp only [decide_eq_false_iff_not]; omega
  unfold Builtin.bitOr
  rw [e, e]
  unfold Builtin.bitAnd
  rw [h1, h2]
  simp only [e2]
  rw [e]
  unfold Builtin.bitNot
  omega
theorem floop_idx {gg : Rs → En → Option En} {b : SF} {u : Nat → D} {S : Nat → En} : ∀ (m a : Nat), (∀ j, a ≤ j → j < a + m → ∃ e1, gg ⟨u j, false⟩ (S j) = some e1 ∧ b e1 = .ok .nx (S (j + 1))) → floop gg b ((List.range' a m).map u) (S a) = .ok .nx (S (a + m))
  | 0, a, _ => rfl
  | m + 1, a, h => by
    obtain ⟨e1, h1, h2⟩ := h a (Nat.le_refl _) (by omega)
    have ih := floop_idx m (a + 1) (fun j p q => h j (by omega) (by omega))
    rw [List.range'_succ, List.map_cons]
    unfold floop
    rw [h1]
    simp only [h2, bind_ok]
    rw [show a + (m + 1) = a + 1 + m by omega]
    exact ih
theorem nat_shown {k : Nat} (h : k < 10 ^ 12) : ((PyData.int k).shown).length ≤ 12 := by
  show (Str.ofString (Nat.repr k)).length ≤ 12
  rw [PySem.ofString_length]
  exact (Nat.length_repr_le_iff (n := k) (by decide : 0 < 12)).mpr h
theorem nat_log {k : Nat} (h : k < 10 ^ 12) : (((k : Nat) : Int)).natAbs.log2 < 1920 := by
  refine Nat.lt_of_lt_of_le (log2_le (k := 40) ?_ (by decide)) (by decide)
  rw [Int.natAbs_natCast]
  exact Nat.lt_trans h (by decide)
theorem reprOk_nat {k : Nat} (h : k < 10 ^ 12) : reprOk (.int k) = true := by
  have h1 := nat_shown h
  have h2 := nat_log h
  have h3 : SeqAt.shaped (.int k) = true := by simp [SeqAt.shaped, PyData.canLay0, PyData.depth]
  have h4 : (PyData.int k).showable = true := by unfold PyData.showable; exact decide_eq_true h2
  have h5 : (PyData.int k).hasDict = false := rfl
  have h6 : decide ((PyData.int k).shown.length ≤ most) = true := decide_eq_true (Nat.le_trans h1 (by decide))
  unfold reprOk
  rw [h3, h4, h5, h6]; rfl
theorem reprOk_pair {j k : Nat} (hj : j < 10 ^ 12) (h : k < 10 ^ 12) : reprOk (.tuple [.int j, .int k]) = true := by
  have h1 := nat_shown h
  have h1' := nat_shown hj
  have h2 := nat_log h
  have h2' := nat_log hj
  have h3 : SeqAt.shaped (.tuple [.int j, .int k]) = true := by simp [SeqAt.shaped, PyData.canLay0, PyData.canLayAll0, PyData.depth, PyData.depthAll]
  have h4 : (PyData.tuple [.int j, .int k]).showable = true := by
    unfold PyData.showable PyData.showableAll PyData.showableAll PyData.showableAll PyData.showable
    rw [decide_eq_true h2, decide_eq_true h2']; rfl
  have h5 : (PyData.tuple [.int j, .int k]).hasDict = false := rfl
  have h6 : decide ((PyData.tuple [.int j, .int k]).shown.length ≤ most) = true := by
    refine decide_eq_true ?_
    have := tupleText_len_le (PyData.shownAll [.int j, .int k])
    show (tupleText (PyData.shownAll [.int j, .int k])).length ≤ _
    have e : PyData.shownAll [.int j, .int k] = [(PyData.int j).shown, (PyData.int k).shown] := rfl
    rw [e] at this ⊢
    simp only [List.map_cons, List.map_nil, List.sum_cons, List.sum_nil, List.length_cons, List.length_nil] at this
    have : most = 1000000 := rfl
    omega
  unfold reprOk
  rw [h3, h4, h5, h6]; rfl
theorem reprOk_bool (b : Bool) : reprOk (.bool b) = true := by cases b <;> decide +kernel
theorem strOk_all {x : Str} (h : ∀ c ∈ x.cps.toList, c < 0x110000) : PyData.strOk x = true := by
  unfold PyData.strOk
  rw [Array.all_eq_true']
  intro c m
  exact decide_eq_true (h c (Array.mem_toList_iff.mpr m))
theorem all_strOk {x : Str} (h : PyData.strOk x = true) : ∀ c ∈ x.cps.toList, c < 0x110000 := by
  unfold PyData.strOk at h
  rw [Array.all_eq_true'] at h
  intro c m
  exact of_decide_eq_true (h c (Array.mem_toList_iff.mp m))
theorem strOk_str (s : String) : PyData.strOk (Str.ofString s) = true := by
  apply strOk_all
  rw [Str.ofString_eq_toList]
  intro c m
  simp only [List.mem_map] at m
  obtain ⟨d, _, rfl⟩ := m
  have := d.valid
  rcases this with h | ⟨_, h⟩
  · exact Nat.lt_trans h (by decide)
  · exact h
theorem strOk_app {x y : Str} (hx : PyData.strOk x = true) (hy : PyData.strOk y = true) : PyData.strOk (x ++ y) = true := by
  apply strOk_all
  intro c m
  rw [show (x ++ y).cps = x.cps ++ y.cps from rfl, Array.toList_append] at m
  rcases List.mem_append.mp m with m | m
  · exact all_strOk hx c m
  · exact all_strOk hy c m
theorem strOk_pair (j k : Int) : PyData.strOk (PyData.tuple [.int j, .int k]).shown = true := by
  have e : (PyData.tuple [.int j, .int k]).shown = ("(" : Str) ++ ((Str.ofString (toString j)) ++ (", " : Str) ++ (Str.ofString (toString k))) ++ (Str.ofString ")") := rfl
  rw [e]
  exact strOk_app (strOk_app (strOk_str _) (strOk_app (strOk_app (strOk_str _) (strOk_str _)) (strOk_str _))) (strOk_str _)
theorem fNe_strL (ts : List Str) (h : ∀ t ∈ ts, PyData.strOk t = true) : fNe (.list (ts.map .str)) (.list (ts.map .str)) = sb false := by
  obtain ⟨h1, h2, h3⟩ := strs_lay ts h
  have hs : SeqAt.shaped (.list (ts.map .str)) = true := by simp [SeqAt.shaped, PyData.canLay0, PyData.depth, h1, h2]
  unfold fNe
  rw [hs]
  simp [PyData.eqv, h3]
def LD (m : Nat) (r : D) : Prop := r.canLay0 = true ∧ r.depth ≤ m
theorem LD_int (i : Int) : LD 0 (.int i) := ⟨rfl, Nat.le_refl _⟩
theorem LD_tup {m : Nat} {ds : List D} (h : ∀ d ∈ ds, LD m d) : LD (m + 1) (.tuple ds) ∧ LD (m + 1) (.list ds) := by
  have key : PyData.canLayAll0 ds = true ∧ PyData.depthAll ds ≤ m := by
    induction ds with
    | nil => exact ⟨rfl, Nat.zero_le _⟩
    | cons d ds ih =>
      obtain ⟨h1, h2⟩ := ih fun d z => h d (List.mem_cons_of_mem _ z)
      obtain ⟨h3, h4⟩ := h d List.mem_cons_self
      simp only [PyData.canLayAll0, PyData.depthAll, h1, h3, Bool.and_true, true_and]
      omega
  constructor
  · exact ⟨by simp only [PyData.canLay0]; exact key.1, by simp only [PyData.depth]; omega⟩
  · exact ⟨by simp only [PyData.canLay0]; exact key.1, by simp only [PyData.depth]; omega⟩
theorem LD.up {m k : Nat} {d : D} (h : LD m d) (hk : m ≤ k) : LD k d := ⟨h.1, Nat.le_trans h.2 hk⟩
theorem xLst_of {g : En → Res (List D)} {e e1 : En} {ds : List D} (h : g e = .ok ds e1) (hl : ds.length ≤ most) : xLst g e = .ok ⟨.list ds, true⟩ e1 := by
  show (g e).bind _ = _
  rw [h, bind_ok, if_pos hl]
theorem LD.okD {m : Nat} {d : D} (h : LD m d) (hm : m ≤ 64) : okD d := okD_iff.mpr ⟨h.1, Nat.le_trans h.2 hm⟩
theorem fEq_strL (ts : List Str) (h : ∀ t ∈ ts, PyData.strOk t = true) : fEq (.list (ts.map .str)) (.list (ts.map .str)) = sb true := by
  obtain ⟨h1, h2, h3⟩ := strs_lay ts h
  have hs : SeqAt.shaped (.list (ts.map .str)) = true := by simp [SeqAt.shaped, PyData.canLay0, PyData.depth, h1, h2]
  unfold fEq
  rw [hs]
  simp [PyData.eqv, h3]
end G
end L2
namespace L2
namespace G
open PySem PySem.Spec PyProof.Rows
/-! ### running the functions: rules of `run` for simp, from the head on -/
section
variable {α β : Type} {x y : Res α} {P Q : α → En → Prop} {E E' : Exn → Prop}
theorem run_congr (h : x = y) : x.run P E = y.run P E := by rw [h]
theorem run_ok {a : α} {e : En} : (Res.ok a e).run P E = P a e := rfl
theorem run_ex {z : Exn} : (Res.ex z : Res α).run P E = E z := rfl
theorem run_st : (Res.st : Res α).run P E = False := rfl
theorem run_bind {g : α → En → Res β} {P : β → En → Prop} : (x.bind g).run P E = x.run (fun a e => (g a e).run P E) E := by cases x <;> rfl
theorem ok_of_run0 {r : α} {e : En} (h : x.run (fun r' e' => r' = r ∧ e' = e) (fun _ => False)) : x = .ok r e := by
  cases x with
  | st => exact h.elim
  | ok a e' => obtain ⟨rfl, rfl⟩ := h; rfl
  | ex y => exact h.elim
theorem ex_of_run0 {y : Exn} (h : x.run (fun _ _ => False) (fun z => z = y)) : x = .ex y := by
  cases x with
  | st => exact h.elim
  | ok a e' => exact h.elim
  | ex z => obtain rfl : z = y := h; rfl
theorem run_okI0 {r : α} {e : En} (h : x = .ok r e) (hp : P r e) : x.run P E := by rw [h]; exact hp
theorem run_exI0 {z : Exn} (h : x = .ex z) (hp : E z) : x.run P E := by rw [h]; exact hp
end
/-- what follows a lookup, an operation, a target, a test, a block -/
def vK0 (s : Option Sl) (i : Nat) (e : En) (P : Rs → En → Prop) : Prop := match s with
  | some (.sh d) => P ⟨d, false⟩ e
  | some (.ow true d) => P ⟨d, false⟩ (e.set i (.sh d))
  | _ => False
def bK0 (s : Option Sl) (P : D → Prop) : Prop := match s with
  | some (.sh d) => P d
  | some (.ow _ d) => P d
  | _ => False
def oK0 {α : Type} (o : Option α) (k : α → Prop) : Prop := match o with | some z => k z | none => False
def iK0 (b : Bool) (A B : Prop) : Prop := (b = true → A) ∧ (b = false → B)
def sK0 (fl : Fl) (A : Prop) (k : Fl → Prop) : Prop := match fl with | .nx => A | fl => k fl
def aK0 (A B : Prop) : Prop := A ∧ B
section
variable {α : Type} {d : D} {i : Nat} {e : En} {P : Rs → En → Prop} {k : α → Prop} {o o' : Option α} {s s' : Option Sl} {kd : D → Prop} {a : α} {A B A' : Prop} {b b' : Bool} {fl fl' : Fl} {kf : Fl → Prop} {r : Rs} {w : Bool}
theorem vK0_congr (h : s = s') : vK0 s i e P = vK0 s' i e P := by rw [h]
theorem vK0_sh : vK0 (some (.sh d)) i e P = P ⟨d, false⟩ e := rfl
theorem vK0_ow : vK0 (some (.ow true d)) i e P = P ⟨d, false⟩ (e.set i (.sh d)) := rfl
theorem bK0_congr (h : s = s') : bK0 s kd = bK0 s' kd := by rw [h]
theorem bK0_sh : bK0 (some (.sh d)) kd = kd d := rfl
theorem bK0_ow : bK0 (some (.ow w d)) kd = kd d := rfl
theorem oK0_congr (h : o = o') : oK0 o k = oK0 o' k := by rw [h]
theorem oK0_some : oK0 (some a) k = k a := rfl
theorem oK0_none : oK0 none k = False := rfl
theorem oK0_of (h : o = some a) (hk : k a) : oK0 o k := by rw [h]; exact hk
theorem iK0_congr (h : b = b') : iK0 b A B = iK0 b' A B := by rw [h]
theorem iK0_tt : iK0 true A B = A := by simp [iK0]
theorem iK0_ff : iK0 false A B = B := by simp [iK0]
theorem iK0_of (h1 : b = true → A) (h2 : b = false → B) : iK0 b A B := ⟨h1, h2⟩
theorem iK0_t (h : b = true) (hA : A) : iK0 b A B := by subst h; exact ⟨fun _ => hA, nofun⟩
theorem iK0_f (h : b = false) (hB : B) : iK0 b A B := by subst h; exact ⟨nofun, fun _ => hB⟩
theorem iK0_dec {p : Prop} [Decidable p] (h1 : p → A) (h2 : ¬ p → B) : iK0 (decide p) A B := ⟨fun z => h1 (of_decide_eq_true z), fun z => h2 (of_decide_eq_false z)⟩
theorem iK0_not : iK0 (!b) A B = iK0 b B A := by cases b <;> simp [iK0]
theorem sK0_congr (h : fl = fl') : sK0 fl A kf = sK0 fl' A kf := by rw [h]
theorem sK0_nx : sK0 .nx A kf = A := rfl
theorem sK0_ct : sK0 .ct A kf = kf .ct := rfl
theorem sK0_rt : sK0 (.rt r) A kf = kf (.rt r) := rfl
/-- a side condition first -/
theorem aK0_congr (h : A = A') : aK0 A B = aK0 A' B := by rw [h]
theorem aK0_true : aK0 True B = B := by simp [aK0]
theorem aK0_of (h : A) (h2 : B) : aK0 A B := ⟨h, h2⟩
end
section
variable {f g h : XF} {P : Rs → En → Prop} {PD : D → En → Prop} {PB : Bool → En → Prop} {PA : List D → En → Prop} {PF : Fl → En → Prop} {PI : Option Int → En → Prop} {E : Exn → Prop} {e : En} {i j n : Nat} {d : D} {F G : D → D → Option Rs} {U : D → Option Rs} {l : Lf} {go : En → Res D} {ga : En → Res (List D)}
  {tt tf : En → Res Bool} {sf sg : SF} {gg gh : Rs → En → Option En} {gs : List D → En → Option En} {lk : Option Nat} {vs : List Nat} {ds : List D} {φ : XF}
theorem run_xV : (xV i e).run P E = vK0 e[i]? i e P := by
  unfold xV vK0
  generalize e[i]? = s
  rcases s with _ | _ | d | ⟨_ | _, d⟩ <;> rfl
theorem run_xB : (xB i e).run PD E = bK0 e[i]? fun d => PD d e := by
  unfold xB bK0
  generalize e[i]? = s
  rcases s with _ | _ | d | ⟨_ | _, d⟩ <;> rfl
theorem run_xC : (xC d e).run P E = P ⟨d, false⟩ e := rfl
theorem run_xO : (xO f e).run PD E = (f e).run (fun r e1 => PD r.d e1) E := run_bind
theorem run_xNil : (xNil e).run PA E = PA [] e := rfl
theorem run_xCons : (xCons f ga e).run PA E = (f e).run (fun r e1 => (ga e1).run (fun ds e2 => PA (r.d :: ds) e2) E) E := by
  unfold xCons; rw [run_bind]; simp only [run_bind]; rfl
theorem run_ite {α : Type} {c : Prop} [Decidable c] {x : Res α} {Q : α → En → Prop} : (if c then x else .st).run Q E = aK0 c (x.run Q E) := by
  by_cases z : c <;> simp [z, aK0, Res.run]
theorem run_iteB {α : Type} {b : Bool} {x : Res α} {Q : α → En → Prop} : (if b = true then x else .st).run Q E = aK0 (b = true) (x.run Q E) := run_ite
theorem run_xTup : (xTup ga e).run P E = (ga e).run (fun ds e1 => aK0 (ds.length ≤ most) (P ⟨.tuple ds, false⟩ e1)) E := by
  unfold xTup; rw [run_bind]; simp only [run_ite]; rfl
theorem run_xLst : (xLst ga e).run P E = (ga e).run (fun ds e1 => aK0 (ds.length ≤ most) (P ⟨.list ds, true⟩ e1)) E := by
  unfold xLst; rw [run_bind]; simp only [run_ite]; rfl
theorem run_opt {o : Option Rs} : (match o with | some r => Res.ok r e | none => .st).run P E = oK0 o fun z => P z e := by cases o <;> rfl
theorem run_xOp_ex : (xOp F (.ex f) go e).run P E = (f e).run (fun r e1 => (go e1).run (fun y e2 => oK0 (F r.d y) fun z => P z e2) E) E := by
  show ((f e).bind _).run P E = _
  rw [run_bind]
  congr 1; funext r e1
  rw [run_bind]
  congr 1; funext y e2
  exact run_opt
theorem run_xOp_br : (xOp F (.br i) go e).run P E = bK0 e[i]? fun _ => (go e).run (fun y e2 => bK0 e2[i]? fun x => oK0 (F x y) fun z => P z e2) E := by
  show ((xB i e).bind _).run P E = _
  rw [run_bind, run_xB]
  congr 1; funext _
  rw [run_bind]
  congr 1; funext y e2
  show ((xB i e2).bind _).run P E = _
  rw [run_bind, run_xB]
  congr 1; funext x
  exact run_opt
theorem run_xTest : (xTest f e).run PB E = (f e).run (fun r e1 => oK0 (match r.d with | .bool b => some b | _ => none) fun b => PB b e1) E := by
  show ((f e).bind _).run PB E = _
  rw [run_bind]
  congr 1; funext r e1
  rcases r with ⟨d, fr⟩
  cases d <;> rfl
theorem run_tTru : (tTru go e).run PB E = (go e).run (fun d e1 => oK0 (truD d) fun b => PB b e1) E := by
  show ((go e).bind _).run PB E = _
  rw [run_bind]
  congr 1; funext d e1
  cases truD d <;> rfl
theorem run_iteR {α : Type} {b : Bool} {x y : Res α} {Q : α → En → Prop} : (if b = true then x else y).run Q E = iK0 b (x.run Q E) (y.run Q E) := by cases b <;> simp [iK0]
theorem run_tAndT : (tAndT tt tf e).run PB E = (tt e).run (fun b e1 => iK0 b ((tf e1).run PB E) (PB false e1)) E := by
  show ((tt e).bind _).run PB E = _
  rw [run_bind]; simp only [run_iteR]; rfl
theorem run_tOrT : (tOrT tt tf e).run PB E = (tt e).run (fun b e1 => iK0 b (PB true e1) ((tf e1).run PB E)) E := by
  show ((tt e).bind _).run PB E = _
  rw [run_bind]; simp only [run_iteR]; rfl
theorem run_tNotT : (tNotT tt e).run PB E = (tt e).run (fun b e1 => PB (!b) e1) E := by
  show ((tt e).bind _).run PB E = _
  rw [run_bind]; rfl
theorem run_tTrue : (tTrue e).run PB E = PB true e := rfl
def dB (d : D) : Option Bool := match d with | .bool b => some b | _ => none
theorem run_xAnd : (xAnd f g e).run P E = (f e).run (fun r e1 => oK0 (dB r.d) fun b => iK0 b ((g e1).run P E) (P ⟨.bool false, false⟩ e1)) E := by
  show ((f e).bind _).run P E = _
  rw [run_bind]
  congr 1; funext r e1
  rcases r with ⟨d, fr⟩
  cases d with
  | bool b => cases b <;> simp [dB, oK0, iK0, Res.run]
  | _ => rfl
theorem run_xOr : (xOr f g e).run P E = (f e).run (fun r e1 => oK0 (dB r.d) fun b => iK0 b (P ⟨.bool true, false⟩ e1) ((g e1).run P E)) E := by
  show ((f e).bind _).run P E = _
  rw [run_bind]
  congr 1; funext r e1
  rcases r with ⟨d, fr⟩
  cases d with
  | bool b => cases b <;> simp [dB, oK0, iK0, Res.run]
  | _ => rfl
theorem run_xNot : (xNot f e).run P E = (f e).run (fun r e1 => oK0 (dB r.d) fun b => P ⟨.bool (!b), false⟩ e1) E := by
  show ((f e).bind _).run P E = _
  rw [run_bind]
  congr 1; funext r e1
  rcases r with ⟨d, fr⟩
  cases d <;> rfl
theorem run_xTest' : (xTest f e).run PB E = (f e).run (fun r e1 => oK0 (dB r.d) fun b => PB b e1) E := run_xTest
theorem dB_bool {b : Bool} : dB (.bool b) = some b := rfl
theorem run_xIf : (xIf tt f g e).run P E = (tt e).run (fun b e1 => iK0 b ((f e1).run P E) ((g e1).run P E)) E := by
  show ((tt e).bind _).run P E = _
  rw [run_bind]; simp only [run_iteR]
theorem run_xOne : (xOne U go e).run P E = (go e).run (fun d e1 => oK0 (U d) fun z => P z e1) E := by
  show ((go e).bind _).run P E = _
  rw [run_bind]
  congr 1; funext d e1
  exact run_opt
theorem run_sNil : (sNil e).run PF E = PF .nx e := rfl
theorem run_sSeq : (sSeq sf sg e).run PF E = (sf e).run (fun fl e1 => sK0 fl ((sg e1).run PF E) fun fl => PF fl e1) E := by
  show ((sf e).bind _).run PF E = _
  rw [run_bind]
  congr 1; funext fl e1
  cases fl <;> rfl
theorem run_sExpr : (sExpr f e).run PF E = (f e).run (fun _ e1 => PF .nx e1) E := by
  show ((f e).bind _).run PF E = _
  rw [run_bind]; rfl
theorem run_sRet : (sRet f e).run PF E = (f e).run (fun r e1 => PF (.rt r) e1) E := by
  show ((f e).bind _).run PF E = _
  rw [run_bind]; rfl
def rvK0 (s : Option Sl) (i : Nat) (e : En) (P : Fl → En → Prop) : Prop := match s with
  | some (.ow true d) => P (.rt ⟨d, true⟩) (e.set i .un)
  | some (.sh d) => P (.rt ⟨d, false⟩) e
  | _ => False
theorem rvK0_congr {s s' : Option Sl} (h : s = s') : rvK0 s i e PF = rvK0 s' i e PF := by rw [h]
theorem rvK0_ow : rvK0 (some (.ow true d)) i e PF = PF (.rt ⟨d, true⟩) (e.set i .un) := rfl
theorem rvK0_sh : rvK0 (some (.sh d)) i e PF = PF (.rt ⟨d, false⟩) e := rfl
theorem run_sRetV : (sRetV i e).run PF E = rvK0 e[i]? i e PF := by
  unfold sRetV rvK0
  generalize e[i]? = s
  rcases s with _ | _ | d | ⟨_ | _, d⟩ <;> rfl
theorem run_sIf : (sIf tt sf sg e).run PF E = (tt e).run (fun b e1 => iK0 b ((sf e1).run PF E) ((sg e1).run PF E)) E := by
  show ((tt e).bind _).run PF E = _
  rw [run_bind]; simp only [run_iteR]
theorem run_sAsg : (sAsg f gg e).run PF E = (f e).run (fun r e1 => oK0 (gg r e1) fun e2 => PF .nx e2) E := by
  show ((f e).bind _).run PF E = _
  rw [run_bind]
  congr 1; funext r e1
  cases gg r e1 <;> rfl
theorem run_sRaise {c : Nat} : (sRaise c e).run PF E = E ⟨c, none⟩ := rfl
theorem run_sTry {hs : Hs} : (sTry sf hs e).run PF E = (sf e).run PF (fun x => (pick hs x (List.replicate e.length .un)).run PF E) := by
  unfold sTry
  cases sf e <;> rfl
theorem run_sPar : (sPar i j f g e).run PF E = (f e).run (fun r1 e1 => (g e1).run (fun r2 e2 => oK0 (gV j r2 e2) fun e3 => oK0 (gV i r1 e3) fun e4 => PF .nx e4) E) E := by
  show ((f e).bind _).run PF E = _
  rw [run_bind]
  congr 1; funext r1 e1
  rw [run_bind]
  congr 1; funext r2 e2
  cases gV j r2 e2 with
  | none => rfl
  | some e3 => simp only [oK0_some]; cases gV i r1 e3 <;> rfl
theorem oK0_gV {r : Rs} {k : En → Prop} : oK0 (gV i r e) k = aK0 (i < e.length) (k (e.set i (slOf r))) := by
  unfold gV
  by_cases z : i < e.length <;> simp [z, oK0, aK0]
theorem oK0_gTp {r : Rs} {k : En → Prop} (h : r.d = .tuple ds) : oK0 (gTp n gs r e) k = aK0 (ds.length = n) (oK0 (gs ds e) k) := by
  unfold gTp
  rw [h]
  by_cases z : ds.length = n <;> simp [z, oK0, aK0]
theorem oK0_gTp' {fr : Bool} {k : En → Prop} : oK0 (gTp n gs ⟨.tuple ds, fr⟩ e) k = aK0 (ds.length = n) (oK0 (gs ds e) k) := oK0_gTp rfl
theorem oK0_gsCons {k : En → Prop} : oK0 (gsCons gg gs (d :: ds) e) k = oK0 (gg ⟨d, false⟩ e) fun e1 => oK0 (gs ds e1) k := by
  show oK0 ((gg ⟨d, false⟩ e).bind fun e1 => gs ds e1) k = _
  cases gg ⟨d, false⟩ e <;> rfl
theorem oK0_gsNil {k : En → Prop} : oK0 (gsNil [] e) k = k e := rfl
theorem slOf_ff : slOf ⟨d, false⟩ = .sh d := rfl
theorem slOf_tt : slOf ⟨d, true⟩ = .ow true d := rfl
theorem run_sAug : (sAug F i go e).run PF E = bK0 e[i]? fun x => aK0 (scal1 x = true) ((go e).run (fun y e1 => oK0 (F x y) fun r => aK0 (scal1 r.d = true ∧ i < e1.length) (PF .nx (e1.set i (.sh r.d)))) E) := by
  show ((xB i e).bind _).run PF E = _
  rw [run_bind, run_xB]
  congr 1; funext x
  rw [run_iteB, run_bind]
  congr 1
  congr 1; funext y e1
  cases F x y with
  | none => rfl
  | some r =>
    rw [oK0_some]
    show (if (scal1 r.d && decide (i < e1.length)) = true then Res.ok Fl.nx (e1.set i (.sh r.d)) else .st).run PF E = _
    rw [run_iteB, Bool.and_eq_true, decide_eq_true_eq]; rfl
theorem run_xLk_none : (xLk none f e).run P E = (f e).run P E := rfl
theorem run_xLk_some : (xLk (some i) f e).run P E = (f e).run (fun r e2 => P r (relock e e2 i)) E := by
  show ((f e).bind _).run P E = _
  rw [run_bind]; rfl
def lcR (vs : List Nat) (e1 : En) (P : Rs → En → Prop) : List D → En → Prop := fun ys e2 => P ⟨.list ys, true⟩ (resE e1 e2 vs)
theorem lcR_ap {e1 e2 : En} {ys : List D} : lcR vs e1 P ys e2 = P ⟨.list ys, true⟩ (resE e1 e2 vs) := rfl
theorem run_xLc {it : En → Res (List D)} : (xLc it gg tt g vs e).run P E = (it e).run (fun ds e1 => aK0 (okW e1 vs = true) ((lcLoop gg tt g vs ds [] e1).run (lcR vs e1 P) E)) E := by
  show ((it e).bind _).run P E = _
  rw [run_bind]
  congr 1; funext ds e1
  rw [run_iteB, run_bind]; rfl
theorem run_sFor {it : En → Res (List D)} : (sFor it gg sf e).run PF E = (it e).run (fun ds e1 => (floop gg sf ds e1).run PF E) E := run_bind
def rlK (fl : Fl) (A : En) (B : En) (k : Fl → En → Prop) : Prop := match fl with | .rt r => k (.rt r) A | fl => k fl B
theorem rlK_nx {A B : En} : rlK .nx A B PF = PF .nx B := rfl
theorem rlK_rt {A B : En} {r : Rs} : rlK (.rt r) A B PF = PF (.rt r) A := rfl
theorem run_sForN : (sForN i gg sf e).run PF E = (iN i e).run (fun ds e1 => (floop gg sf ds e1).run (fun fl e2 => rlK fl e2 (relock e e2 i) PF) E) E := by
  show ((sFor (iN i) gg sf e).bind _).run PF E = _
  rw [run_bind, run_sFor]
  congr 1; funext ds e1
  congr 1; funext fl e2
  cases fl <;> rfl
theorem run_sForL {it : En → Res (List D)} : (sForL i it gg sf e).run PF E = (it e).run (fun ds e1 => (floop gg sf ds e1).run (fun fl e2 => rlK fl e2 (relock e e2 i) PF) E) E := by
  show ((sFor it gg sf e).bind _).run PF E = _
  rw [run_bind, run_sFor]
  congr 1; funext ds e1
  congr 1; funext fl e2
  cases fl <;> rfl
theorem run_iN : (iN i e).run PA E = bK0 e[i]? fun d => oK0 (itemsD d) fun ds => PA ds (lockE e i) := by
  show ((xB i e).bind _).run PA E = _
  rw [run_bind, run_xB]
  congr 1; funext d
  cases itemsD d <;> rfl
theorem run_iA : (iA f e).run PA E = (f e).run (fun r e1 => oK0 (itemsD r.d) fun ds => PA ds e1) E := by
  show ((f e).bind _).run PA E = _
  rw [run_bind]
  congr 1; funext r e1
  cases itemsD r.d <;> rfl
theorem itemsD_list : itemsD (.list ds) = some ds := rfl
theorem itemsD_tuple : itemsD (.tuple ds) = some ds := rfl
/-- range(j) -/
def rgN (n : Nat) : List D := (List.range n).map fun (i : Nat) => .int (i : Nat)
theorem iseq0 {j : Int} : iseq 0 1 j.toNat = rgN j.toNat := by
  unfold iseq rgN
  congr 1; funext k
  rw [Int.zero_add, Int.mul_one]
def rg1 : List D → Option (List D) | [.int j] => if near j then some (rgN j.toNat) else none | _ => none
theorem run_iR1 : (iR1 ga e).run PA E = (ga e).run (fun ds e1 => oK0 (rg1 ds) fun ds => PA ds e1) E := by
  show ((ga e).bind _).run PA E = _
  rw [run_bind]
  congr 1; funext ds e1
  rcases ds with _ | ⟨d, _ | ⟨d2, ds⟩⟩
  · rfl
  · cases d with
    | int j =>
      show (if near j = true then Res.ok (iseq 0 1 j.toNat) e1 else .st).run PA E = oK0 (if near j = true then some (rgN j.toNat) else none) _
      rw [iseq0]
      by_cases z : near j = true <;> simp [z, Res.run, oK0]
    | _ => rfl
  · cases d <;> rfl
theorem rg1_nat {n : Nat} (h : n < 2 ^ 62) : rg1 [.int (n : Nat)] = some (rgN n) := by
  have : near (n : Int) = true := by
    unfold near
    have h2 : (n : Int) < 2 ^ 62 := by exact_mod_cast h
    have h1 : -(2 ^ 62 : Int) ≤ n := Int.le_trans (by decide) (Int.natCast_nonneg n)
    rw [decide_eq_true h1, decide_eq_true h2]; rfl
  show (if near (n : Int) = true then some (rgN (n : Int).toNat) else none) = _
  rw [if_pos this]; rfl
theorem run_xCall0 : (xCall0 n φ ga e).run P E = (ga e).run (fun ds e1 => aK0 (ds.length = n) ((φ (ds.map .sh)).run (fun r _ => P r e1) E)) E := by
  show ((ga e).bind _).run P E = _
  rw [run_bind]
  congr 1; funext ds e1
  by_cases z : ds.length = n
  · simp only [z, if_true]; simp only [aK0, true_and]; cases φ (ds.map .sh) <;> rfl
  · simp [z, aK0, Res.run]
theorem run_xCallN : (xCallN φ e).run P E = (φ []).run (fun r _ => P r e) E := by
  show (match φ [] with | .ok r _ => Res.ok r e | .ex x => .ex x | .st => .st).run P E = _
  cases φ [] <;> rfl
/-- what a def's end makes of its caller's slots -/
def fK (fl : Fl) (k : Rs → Prop) : Prop := match fl with | .rt r => k r | .nx => k ⟨.none, false⟩ | .ct => False
theorem fK_rt {r : Rs} {k : Rs → Prop} : fK (.rt r) k = k r := rfl
theorem fK_nx {k : Rs → Prop} : fK .nx k = k ⟨.none, false⟩ := rfl
theorem run_fnD {pat : List Bool} : (fnD sf pat n e).run P E = (sf (e ++ List.replicate n .un)).run (fun fl eb => fK fl fun r => oK0 (backP pat e eb) fun e' => P r e') E := by
  unfold fnD
  cases z : sf (e ++ List.replicate n .un) with
  | st => rfl
  | ex x => rfl
  | ok fl eb =>
    cases fl with
    | nx => simp only [run_ok, fK_nx]; cases backP pat e eb <;> rfl
    | ct => rfl
    | rt r => simp only [run_ok, fK_rt]; cases backP pat e eb <;> rfl
theorem run_xApp : (xApp i f e).run P E = aK0 ((ownL i e).isSome = true) ((f e).run (fun r e1 => oK0 (ownL i e1) fun ds => aK0 (ds.length < most) (P ⟨.none, false⟩ (e1.set i (.ow true (.list (ds ++ [r.d])))))) E) := by
  unfold xApp
  rw [run_iteB, run_bind]
  congr 1; congr 1; funext r e1
  cases ownL i e1 with
  | none => rfl
  | some ds => simp only [oK0_some, run_ite]; rfl
theorem ownL_eq : ownL i e = (match e[i]? with | some (Sl.ow true (.list ds)) => some ds | _ => none) := rfl
def owK (s : Option Sl) : Option (List D) := match s with | some (Sl.ow true (.list ds)) => some ds | _ => none
theorem ownL_owK : ownL i e = owK e[i]? := rfl
theorem owK_some : owK (some (.ow true (.list ds))) = some ds := rfl
theorem run_xPop : (xPop i e).run P E = oK0 (ownL i e) fun ds => oK0 ds[ds.length - 1]? fun d => P ⟨d, false⟩ (e.set i (.ow true (.list ds.dropLast))) := by
  unfold xPop
  cases ownL i e with
  | none => rfl
  | some ds => simp only [oK0_some]; cases ds[ds.length - 1]? <;> rfl
theorem run_pAt : (pAt go e).run PI E = (go e).run (fun d e1 => oK0 (match d with | .int i => some i | _ => none) fun i => PI (some i) e1) E := by
  show ((go e).bind _).run PI E = _
  rw [run_bind]
  congr 1; funext d e1
  cases d <;> rfl
theorem run_pNo : (pNo e).run PI E = PI none e := rfl
def dI (d : D) : Option Int := match d with | .int i => some i | _ => none
theorem dI_int {k : Int} : dI (.int k) = some k := rfl
theorem run_pAt' : (pAt go e).run PI E = (go e).run (fun d e1 => oK0 (dI d) fun i => PI (some i) e1) E := run_pAt
theorem run_xSlc_ex {pf pg : En → Res (Option Int)} : (xSlc (.ex f) pf pg e).run P E = (f e).run (fun r e1 => (pf e1).run (fun a e2 => (pg e2).run (fun b e3 => oK0 (fSl r.d a b) fun z => P z e3) E) E) E := by
  show ((f e).bind fun r e1 => (pTwo pf pg e1).bind fun y e2 => (match fSl r.d y.1 y.2 with | some r => Res.ok r e2 | none => .st)).run P E = _
  rw [run_bind]
  congr 1; funext r e1
  rw [run_bind]
  show ((pf e1).bind _).run _ E = _
  rw [run_bind]
  congr 1; funext a e2
  rw [run_bind]
  congr 1; funext b e3
  exact run_opt
theorem run_xSlc_br {pf pg : En → Res (Option Int)} : (xSlc (.br i) pf pg e).run P E = bK0 e[i]? fun _ => (pf e).run (fun a e2 => (pg e2).run (fun b e3 => bK0 e3[i]? fun x => oK0 (fSl x a b) fun z => P z e3) E) E := by
  show ((xB i e).bind fun _ e1 => (pTwo pf pg e1).bind fun y e2 => (xB i e2).bind fun x e3 => (match fSl x y.1 y.2 with | some r => Res.ok r e3 | none => .st)).run P E = _
  rw [run_bind, run_xB]
  congr 1; funext _
  rw [run_bind]
  show ((pf e).bind _).run _ E = _
  rw [run_bind]
  congr 1; funext a e2
  rw [run_bind]
  congr 1; funext b e3
  show ((xB i e3).bind _).run P E = _
  rw [run_bind, run_xB]
  congr 1; funext x
  exact run_opt
theorem run_xChn {F G : D → D → Option Rs} {ho : En → Res D} : (xChn F G f g ho e).run P E = (f e).run (fun x e1 => (g e1).run (fun y e2 => oK0 (F x.d y.d) fun z => aK0 (z.fr = false) (oK0 (dB z.d) fun b => iK0 b ((ho e2).run (fun w e3 => oK0 (G y.d w) fun r => P r e3) E) (P ⟨.bool false, false⟩ e2))) E) E := by
  show ((f e).bind _).run P E = _
  rw [run_bind]
  congr 1; funext x e1
  rw [run_bind]
  congr 1; funext y e2
  cases F x.d y.d with
  | none => rfl
  | some z =>
    rcases z with ⟨d, fr⟩
    rw [oK0_some]
    cases fr with
    | true => cases d with
      | bool b => cases b <;> simp [aK0, Res.run]
      | _ => simp [aK0, Res.run]
    | false => cases d with
      | bool b =>
        cases b with
        | true =>
          simp only [aK0, dB, oK0, iK0, true_and, forall_const]
          rw [run_bind]
          simp only [Bool.true_eq_false, false_imp_iff, and_true]
          congr 1; funext w e3
          cases G y.d w <;> rfl
        | false => simp [aK0, dB, oK0, iK0, Res.run]
      | _ => simp [aK0, dB, oK0, Res.run]
end
end G
end L2
namespace L2
namespace G
open PySem PySem.Spec PyProof.Rows
/-! ### loops and comprehensions, by `run` -/
section
variable {α : Type} {gg : Rs → En → Option En} {tt : En → Res Bool} {te : XF} {b : SF} {vs : List Nat} {e : En} {E : Exn → Prop} {P : Rs → En → Prop} {PF : Fl → En → Prop} {Q : List D → En → Prop} {n : Nat}
theorem oK0_ex {α : Type} {o : Option α} {k : α → Prop} (h : oK0 o k) : ∃ a, o = some a ∧ k a := by
  cases o with
  | none => exact h.elim
  | some a => exact ⟨a, rfl, h⟩
theorem run_ex'0 {α : Type} {x : Res α} {P : α → En → Prop} (h : x.run P fun _ => False) : ∃ a e, x = .ok a e ∧ P a e := by
  cases x with
  | st => exact h.elim
  | ok a e => exact ⟨a, e, rfl, h⟩
  | ex y => exact h.elim
/-- a comprehension whose turns leave the other slots as they are -/
theorem lc_pure0 (us : List α) (u v : α → D) (p : α → Bool) (hl : us.length ≤ most)
    (hb : ∀ a ∈ us, oK0 (gg ⟨u a, false⟩ (wipeE e vs)) fun e1 => (tt e1).run (fun b e2 => b = p a ∧ iK0 (p a) ((te e2).run (fun r e3 => r.d = v a ∧ wipeE e3 vs = wipeE e vs) fun _ => False) (wipeE e2 vs = wipeE e vs)) fun _ => False)
    (hP : P ⟨.list ((us.filter p).map v), true⟩ e) : (lcLoop gg tt te vs (us.map u) [] e).run (lcR vs e P) E := by
  obtain ⟨e', h1, h2⟩ := lc_map (gg := gg) (tt := tt) (te := te) (w := wipeE e vs) (vs := vs) us u v p (fun a m => by
    obtain ⟨e1, q1, q2⟩ := oK0_ex (hb a m)
    obtain ⟨b, e2, q3, rfl, q4⟩ := run_ex'0 q2
    refine ⟨e1, e2, q1, q3, fun hp => ?_, fun hp => ?_⟩
    · obtain ⟨r, e3, q5, q6, q7⟩ := run_ex'0 (q4.1 hp)
      refine ⟨r.fr, e3, by rw [q5, ← q6], q7, by rw [← q7, wipeE_length]⟩
    · have := q4.2 hp
      exact ⟨this, by rw [← this, wipeE_length]⟩) [] e rfl (by simpa using hl)
  rw [h1]
  show P _ _
  rw [resE_same h2]
  simpa using hP
theorem lc_map10 (us : List α) (u v : α → D) (hl : us.length ≤ most)
    (hb : ∀ a ∈ us, oK0 (gg ⟨u a, false⟩ (wipeE e vs)) fun e1 => (tt e1).run (fun b e2 => b = true ∧ iK0 true ((te e2).run (fun r e3 => r.d = v a ∧ wipeE e3 vs = wipeE e vs) fun _ => False) (wipeE e2 vs = wipeE e vs)) fun _ => False)
    (hP : P ⟨.list (us.map v), true⟩ e) : (lcLoop gg tt te vs (us.map u) [] e).run (lcR vs e P) E := by
  refine lc_pure0 us u v (fun _ => true) hl hb ?_
  rwa [List.filter_eq_self.mpr fun _ _ => rfl]
theorem lc_rg0 (v : Nat → D) (p : Nat → Bool) (hl : n ≤ most)
    (hb : ∀ i, i < n → oK0 (gg ⟨.int (i : Nat), false⟩ (wipeE e vs)) fun e1 => (tt e1).run (fun b e2 => b = p i ∧ iK0 (p i) ((te e2).run (fun r e3 => r.d = v i ∧ wipeE e3 vs = wipeE e vs) fun _ => False) (wipeE e2 vs = wipeE e vs)) fun _ => False)
    (hP : P ⟨.list (((List.range n).filter p).map v), true⟩ e) : (lcLoop gg tt te vs (rgN n) [] e).run (lcR vs e P) E :=
  lc_pure0 (List.range n) _ v p (by simpa using hl) (fun a m => hb a (List.mem_range.mp m)) hP
theorem lc_rg10 (v : Nat → D) (hl : n ≤ most)
    (hb : ∀ i, i < n → oK0 (gg ⟨.int (i : Nat), false⟩ (wipeE e vs)) fun e1 => (tt e1).run (fun b e2 => b = true ∧ iK0 true ((te e2).run (fun r e3 => r.d = v i ∧ wipeE e3 vs = wipeE e vs) fun _ => False) (wipeE e2 vs = wipeE e vs)) fun _ => False)
    (hP : P ⟨.list ((List.range n).map v), true⟩ e) : (lcLoop gg tt te vs (rgN n) [] e).run (lcR vs e P) E :=
  lc_map10 (List.range n) _ v (by simpa using hl) (fun a m => hb a (List.mem_range.mp m)) hP
/-- a comprehension under an invariant: the items so far by those walked -/
theorem lcI' (u : α → D) (I : List α → List D → En → Prop) : ∀ (us pre : List α) (acc : List D) (e : En), I pre acc e → acc.length + us.length ≤ most →
    (∀ pre' a post, pre ++ us = pre' ++ a :: post → ∀ acc e, I pre' acc e → oK0 (gg ⟨u a, false⟩ (wipeE e vs)) fun e1 => (tt e1).run (fun b e2 => iK0 b ((te e2).run (fun r e3 => I (pre' ++ [a]) (acc ++ [r.d]) e3) fun _ => False) (I (pre' ++ [a]) acc e2)) fun _ => False) →
    (∀ acc e, I (pre ++ us) acc e → Q acc e) → (lcLoop gg tt te vs (us.map u) acc e).run Q E
  | [], pre, acc, e, h0, _, _, hP => by rw [List.append_nil] at hP; exact hP acc e h0
  | a :: us, pre, acc, e, h0, hl, hs, hP => by
    rw [List.length_cons] at hl
    obtain ⟨e1, q1, q2⟩ := oK0_ex (hs pre a us rfl acc e h0)
    rw [List.map_cons]
    unfold lcLoop
    simp only [q1]
    have key : pre ++ a :: us = (pre ++ [a]) ++ us := by simp
    rw [key] at hs hP
    cases ht : tt e1 with
    | st => rw [ht] at q2; exact q2.elim
    | ex y => rw [ht] at q2; exact q2.elim
    | ok k e2 =>
      rw [ht] at q2
      replace q2 : iK0 k _ _ := q2
      cases k with
      | true =>
        have q3 := q2.1 rfl
        dsimp only
        cases hr : te e2 with
        | st => rw [hr] at q3; exact q3.elim
        | ex y => rw [hr] at q3; exact q3.elim
        | ok r e3 =>
          rw [hr] at q3
          dsimp only
          rw [if_pos (by omega)]
          exact lcI' u I us (pre ++ [a]) _ e3 q3 (by simp; omega) hs hP
      | false => exact lcI' u I us (pre ++ [a]) acc e2 (q2.2 rfl) (by omega) hs hP
theorem lcI0 (us : List α) (u : α → D) (I : List α → List D → En → Prop) (h0 : I [] [] e) (hl : us.length ≤ most)
    (hs : ∀ pre a post, us = pre ++ a :: post → ∀ acc e, I pre acc e → oK0 (gg ⟨u a, false⟩ (wipeE e vs)) fun e1 => (tt e1).run (fun b e2 => iK0 b ((te e2).run (fun r e3 => I (pre ++ [a]) (acc ++ [r.d]) e3) fun _ => False) (I (pre ++ [a]) acc e2)) fun _ => False)
    (hP : ∀ acc e, I us acc e → Q acc e) : (lcLoop gg tt te vs (us.map u) [] e).run Q E :=
  lcI' u I us [] [] e h0 (by simpa using hl) (by simpa using hs) (by simpa using hP)
theorem range_pre {n : Nat} {pre post : List Nat} {a : Nat} (h : List.range n = pre ++ a :: post) : pre = List.range a ∧ a < n := by
  have hl : n = pre.length + (post.length + 1) := by simpa using congrArg List.length h
  have ha : a = pre.length := by
    have := congrArg (fun l => l[pre.length]?) h
    simp at this
    rw [List.getElem?_range (by omega)] at this
    simpa using this.symm
  refine ⟨?_, by omega⟩
  have := congrArg (List.take pre.length) h
  rw [List.take_left, List.take_range] at this
  rw [← this, ha]
  congr 1; omega
theorem lc_rgI0 (I : Nat → List D → En → Prop) (h0 : I 0 [] e) (hl : n ≤ most)
    (hs : ∀ i, i < n → ∀ acc e, I i acc e → oK0 (gg ⟨.int (i : Nat), false⟩ (wipeE e vs)) fun e1 => (tt e1).run (fun b e2 => iK0 b ((te e2).run (fun r e3 => I (i + 1) (acc ++ [r.d]) e3) fun _ => False) (I (i + 1) acc e2)) fun _ => False)
    (hP : ∀ acc e, I n acc e → Q acc e) : (lcLoop gg tt te vs (rgN n) [] e).run Q E := by
  refine lcI0 (List.range n) _ (fun l => I l.length) h0 (by simpa using hl) (fun pre a post hp acc e h => ?_) (by simpa using hP)
  obtain ⟨rfl, ha⟩ := range_pre hp
  simp only [List.length_range, List.length_append, List.length_cons, List.length_nil] at h ⊢
  exact hs a ha acc e h
/-- what a turn of a loop leaves -/
def tK0 (fl : Fl) (A B : Prop) : Prop := match fl with | .rt _ => B | _ => A
theorem tK0_nx {A B : Prop} : tK0 .nx A B = A := rfl
theorem tK0_ct {A B : Prop} : tK0 .ct A B = A := rfl
theorem tK0_rt {A B : Prop} {r : Rs} : tK0 (.rt r) A B = B := rfl
theorem tK0_congr {A B : Prop} {fl fl' : Fl} (h : fl = fl') : tK0 fl A B = tK0 fl' A B := by rw [h]
theorem for_inv' (u : α → D) (I : List α → En → Prop) : ∀ (us pre : List α) (e : En), I pre e →
    (∀ pre' a post, pre ++ us = pre' ++ a :: post → ∀ e, I pre' e → oK0 (gg ⟨u a, false⟩ e) fun e1 => (b e1).run (fun fl e2 => tK0 fl (I (pre' ++ [a]) e2) (PF fl e2)) E) →
    (∀ e, I (pre ++ us) e → PF .nx e) → (floop gg b (us.map u) e).run PF E
  | [], pre, e, h0, _, hP => by rw [List.append_nil] at hP; exact hP e h0
  | a :: us, pre, e, h0, hs, hP => by
    obtain ⟨e1, q1, q2⟩ := oK0_ex (hs pre a us rfl e h0)
    rw [List.map_cons]
    unfold floop
    simp only [q1]
    rw [run_bind]
    have key : pre ++ a :: us = (pre ++ [a]) ++ us := by simp
    rw [key] at hs hP
    refine run_mono q2 (fun fl e2 q => ?_) fun _ z => z
    cases fl with
    | nx => exact for_inv' u I us (pre ++ [a]) e2 q hs hP
    | ct => exact for_inv' u I us (pre ++ [a]) e2 q hs hP
    | rt r => exact q
theorem forL0 (us : List α) (u : α → D) (I : List α → En → Prop) (h0 : I [] e)
    (hs : ∀ pre a post, us = pre ++ a :: post → ∀ e, I pre e → oK0 (gg ⟨u a, false⟩ e) fun e1 => (b e1).run (fun fl e2 => tK0 fl (I (pre ++ [a]) e2) (PF fl e2)) E)
    (hP : ∀ e, I us e → PF .nx e) : (floop gg b (us.map u) e).run PF E := for_inv' u I us [] e h0 (by simpa using hs) (by simpa using hP)
theorem forN0 (I : Nat → En → Prop) (h0 : I 0 e)
    (hs : ∀ i, i < n → ∀ e, I i e → oK0 (gg ⟨.int (i : Nat), false⟩ e) fun e1 => (b e1).run (fun fl e2 => tK0 fl (I (i + 1) e2) (PF fl e2)) E)
    (hP : ∀ e, I n e → PF .nx e) : (floop gg b (rgN n) e).run PF E := by
  refine forL0 (List.range n) _ (fun l => I l.length) h0 (fun pre a post hp e h => ?_) (by simpa using hP)
  obtain ⟨rfl, ha⟩ := range_pre hp
  simp only [List.length_range, List.length_append, List.length_cons, List.length_nil] at h ⊢
  exact hs a ha e h
theorem while_run0 {c : En → Res Bool} (I : Nat → En → Prop) (m : Nat) (hm : m < big) (h0 : I m e)
    (hs : ∀ k e, I k e → (c e).run (fun t e1 => iK0 t ((b e1).run (fun fl e2 => tK0 fl (∃ k', k' < k ∧ I k' e2) (PF fl e2)) E) (PF .nx e1)) E) : (sWhile c b e).run PF E := by
  have key : ∀ (f m : Nat) (e : En), m < f → I m e → (wloop c b f e).run PF E := by
    intro f
    induction f with
    | zero => intro m e h; omega
    | succ f ih =>
      intro m e hm h0
      unfold wloop
      rw [run_bind]
      refine run_mono (hs m e h0) (fun t e1 q => ?_) fun _ z => z
      cases t with
      | false => exact q.2 rfl
      | true =>
        show ((b e1).bind _).run PF E
        rw [run_bind]
        refine run_mono (q.1 rfl) (fun fl e2 q => ?_) fun _ z => z
        cases fl with
        | nx => obtain ⟨k', hk, q⟩ := q; exact ih k' e2 (by omega) q
        | ct => obtain ⟨k', hk, q⟩ := q; exact ih k' e2 (by omega) q
        | rt r => exact q
  exact key big m e hm h0
end
/-! ### operations on ints, naturals -/
def bt (x i : Nat) : Nat := (x.testBit i).toNat
theorem bt_eq (x i : Nat) : bt x i = x / 2 ^ i % 2 := by
  unfold bt
  rw [Nat.testBit_eq_decide_div_mod_eq]
  rcases Nat.mod_two_eq_zero_or_one (x / 2 ^ i) with h | h <;> simp [h]
theorem bt_le (x i : Nat) : bt x i ≤ 1 := by unfold bt; cases x.testBit i <;> decide
section
variable {a b c : Nat} {i j : Int}
theorem fAdd_i : fAdd (.int i) (.int j) = some ⟨.int (i + j), false⟩ := rfl
theorem fAddS_i : fAddS (.int i) (.int j) = some ⟨.int (i + j), false⟩ := rfl
theorem fSub_i : fSub (.int i) (.int j) = some ⟨.int (i - j), false⟩ := rfl
theorem fLt_i : fLt (.int i) (.int j) = some ⟨.bool (decide (i < j)), false⟩ := rfl
theorem fLe_i : fLe (.int i) (.int j) = some ⟨.bool (decide (i ≤ j)), false⟩ := rfl
theorem fGt_i : fGt (.int i) (.int j) = some ⟨.bool (decide (j < i)), false⟩ := rfl
theorem fGe_i : fGe (.int i) (.int j) = some ⟨.bool (decide (j ≤ i)), false⟩ := rfl
theorem fEq_i : fEq (.int i) (.int j) = some ⟨.bool (decide (i = j)), false⟩ := fEq_int
theorem fNe_i : fNe (.int i) (.int j) = some ⟨.bool (decide (i ≠ j)), false⟩ := by
  have h1 : SeqAt.shaped (.int i) = true := by simp [SeqAt.shaped, PyData.canLay0, PyData.depth]
  have h2 : SeqAt.shaped (.int j) = true := by simp [SeqAt.shaped, PyData.canLay0, PyData.depth]
  unfold fNe
  rw [h1, h2]
  simp [PyData.eqv]
  rfl
theorem fInt_i : fInt (.int i) = some ⟨.int i, false⟩ := rfl
theorem fInt_b {k : Bool} : fInt (.bool k) = some ⟨.int (if k then 1 else 0), false⟩ := rfl
theorem fNeg_i : fNeg (.int i) = some ⟨.int (-i), false⟩ := rfl
theorem fLen_list {ds : List D} : fLen (.list ds) = some ⟨.int (ds.length : Nat), false⟩ := rfl
theorem fLen_tuple {ds : List D} : fLen (.tuple ds) = some ⟨.int (ds.length : Nat), false⟩ := rfl
theorem fShr_n : fShr (.int (a : Nat)) (.int (b : Nat)) = some ⟨.int ((a / 2 ^ b : Nat) : Int), false⟩ := by
  show (if cShr (a : Int) (b : Int) = true then si ((a : Int) / 2 ^ (b : Int).toNat) else none) = _
  rw [if_pos (by simp [cShr])]
  simp
theorem fShl_1 (h : b ≤ 1000000) : fShl (.int 1) (.int (b : Nat)) = some ⟨.int ((2 ^ b : Nat) : Int), false⟩ := by
  show (if cSh 1 (b : Int) = true then si (1 * 2 ^ (b : Int).toNat) else none) = _
  rw [if_pos (by simp [cSh]; omega)]
  simp
theorem fShl_n (h : b ≤ 1000000) (ha : a < 2 ^ 64) : fShl (.int (a : Nat)) (.int (b : Nat)) = some ⟨.int ((a * 2 ^ b : Nat) : Int), false⟩ := by
  show (if cSh (a : Int) (b : Int) = true then si ((a : Int) * 2 ^ (b : Int).toNat) else none) = _
  rw [if_pos (by simp [cSh]; omega)]
  simp
theorem fMod_n (h : 0 < b) : fMod (.int (a : Nat)) (.int (b : Nat)) = some ⟨.int ((a % b : Nat) : Int), false⟩ := by
  show (if cMod (a : Int) (b : Int) = true then si ((a : Int) % b) else none) = _
  rw [if_pos (by simp [cMod]; omega)]
  simp
theorem fMod_2 : fMod (.int (a : Nat)) (.int 2) = some ⟨.int ((a % 2 : Nat) : Int), false⟩ := fMod_n (b := 2) (by decide)
theorem fDiv_n (h : 0 < b) (h2 : b < 2 ^ 64) : fDiv (.int (a : Nat)) (.int (b : Nat)) = some ⟨.int ((a / b : Nat) : Int), false⟩ := by
  have hl : b.log2 < 9000 := Nat.lt_of_lt_of_le (log2_le (k := 64) h2 (by decide)) (by decide)
  show (if cDiv (a : Int) (b : Int) = true then si ((a : Int) / b) else none) = _
  rw [if_pos (by simp [cDiv]; omega)]
  simp
theorem fMul_n (ha : a < 2 ^ 64) (hb : b < 2 ^ 64) : fMul (.int (a : Nat)) (.int (b : Nat)) = some ⟨.int ((a * b : Nat) : Int), false⟩ := by
  have h1 : a.log2 < 64 := log2_le ha (by decide)
  have h2 : b.log2 < 64 := log2_le hb (by decide)
  show (if cMul (a : Int) (b : Int) = true then si ((a : Int) * b) else none) = _
  rw [if_pos (by simp [cMul]; omega)]
  simp
theorem fAnd_n : fAnd (.int (a : Nat)) (.int (b : Nat)) = some ⟨.int ((a &&& b : Nat) : Int), false⟩ := by
  show si (Builtin.bitAnd (a : Int) (b : Int)) = _
  rw [bAnd_nat]
theorem fOr_n : fOr (.int (a : Nat)) (.int (b : Nat)) = some ⟨.int ((a ||| b : Nat) : Int), false⟩ := by
  show si (Builtin.bitOr (a : Int) (b : Int)) = _
  rw [bOr_nat]
theorem fMax2_i : fMax2 (.int i) (.int j) = some ⟨.int (if j > i then j else i), false⟩ := rfl
theorem fMin2_i : fMin2 (.int i) (.int j) = some ⟨.int (if j < i then j else i), false⟩ := rfl
theorem scal1_int : scal1 (.int i) = true := rfl
theorem intsD_map {α : Type} (us : List α) (g : α → Int) : intsD (us.map fun a => .int (g a)) = some (us.map g) := by
  induction us with
  | nil => rfl
  | cons a us ih => simp [intsD, ih]
theorem fSum_i {α : Type} (us : List α) (g : α → Int) : fSum (.list (us.map fun a => .int (g a))) = some ⟨.int (us.map g).sum, false⟩ := by
  simp only [fSum, intsD_map, Option.map_some]
theorem sum_nat {α : Type} (us : List α) (g : α → Nat) : (us.map fun a => ((g a : Nat) : Int)).sum = ((us.map g).sum : Nat) := by
  induction us with
  | nil => rfl
  | cons a us ih => simp [ih]
theorem fSum_n {α : Type} (us : List α) (g : α → Nat) : fSum (.list (us.map fun a => .int (g a : Nat))) = some ⟨.int ((us.map g).sum : Nat), false⟩ := by
  rw [fSum_i, sum_nat]
end
section
variable {ds : List D} {d : D} {a b c : D}
theorem ixL {j : Nat} (h : ds[j]? = some d) : fIxA (.list ds) (.int (j : Nat)) = some ⟨d, false⟩ := ix_at h
theorem ixT {j : Nat} (h : ds[j]? = some d) : fIxA (.tuple ds) (.int (j : Nat)) = some ⟨d, false⟩ := by
  unfold fIxA fIx
  simp only
  rw [atI_nat h]; rfl
theorem ixT0 : fIxA (.tuple (a :: ds)) (.int 0) = some ⟨a, false⟩ := ixT (j := 0) rfl
theorem ixT1 : fIxA (.tuple (a :: b :: ds)) (.int 1) = some ⟨b, false⟩ := ixT (j := 1) rfl
theorem ixT2 : fIxA (.tuple (a :: b :: c :: ds)) (.int 2) = some ⟨c, false⟩ := ixT (j := 2) rfl
end
end G
end L2
namespace L2
namespace G
open PySem PySem.Spec PyProof.Rows
open Sem (wp)
open AutoSeq1 (wpAny_loadPart')
/-! ### enumerate of a tuple -/
theorem meets_enumerate_newT (l : Addr) (items : Array Value) :
    Meets (Builtin.«enumerate.__new__» ⟨[.type "enumerate", .ref l], []⟩) (fun _ R s => s.heap.IsTuple l items ∧
      R (.ok (.ret (.ref (s.heap.push { cls := .type "tuple_iterator", data := .fields #[.ref l, .int 0 0] }).objs.size)))
        { s with heap := (s.heap.push { cls := .type "tuple_iterator", data := .fields #[.ref l, .int 0 0] }).push { cls := .type "enumerate", data := .fields #[.none, .bool false, .ref s.heap.objs.size, rawInt 0, .none, .none] } }) :=
  .of_wp fun prog w A R s h => by
    obtain ⟨hp, g, d, tk, os⟩ := s; obtain ⟨hT, h⟩ := h
    have hsub := sub_enumerate
    obtain ⟨⟨c, dct, dt, sl⟩, hl, hc, n, hd⟩ := id hT
    replace hc : c = .type "tuple" := hc
    replace hd : dt = .seq items n := hd
    subst hc hd
    wp_walk using wpAny_loadPart' hl
    refine wpAny_stack_any fun st => wpAny_pure ?_
    split
    · rename_i c _ _ _ _ _
      cases (c == Value.type "enumerate")
      · wp_walk using wpAny_loadPart' hl, wpAny_pyIter_tuple hT
        exact ⟨_, rfl, h⟩
      · wp_walk using wpAny_loadPart' hl, wpAny_pyIter_tuple hT
        exact ⟨_, rfl, h⟩
    · wp_walk using wpAny_loadPart' hl, wpAny_pyIter_tuple hT
      exact ⟨_, rfl, h⟩
section
variable {prog : Program} {w : World} {A : Around} {E : Value → Shared → Prop} {s : Shared}
theorem call_enumerate_tuple {l : Addr} {items : Array Value} {Q : Value → Shared → Prop} (hL : s.heap.IsTuple l items)
    (h : ∀ h', IsEnum h' (s.heap.objs.size + 1) s.heap.objs.size 0 .none → h'.IsTupleIter s.heap.objs.size l 0 → h'.objs.size = s.heap.objs.size + 2 →
      (∀ b o, s.heap.get? b = some o → h'.get? b = some o) → Q (.ref (s.heap.objs.size + 1)) { s with heap := h' }) :
    wpAny (model prog w) A (call (.type "enumerate") [.ref l]) Q E s := by
  obtain ⟨⟨c, dct, dt, sl⟩, hl, hc, n, hd⟩ := id hL
  replace hc : c = .type "tuple" := hc
  replace hd : dt = .seq items n := hd
  subst hc hd
  refine callType_new F.called_enumerate (by decide) (F.typeCall_enumerate_1 _) (F.newCall_enumerate_1 _) (fun obj => F.args_object_init_2 obj _) F.entry_enumerate_new
    (meets_enumerate_newT l items) ⟨hL, ?_⟩
  have hz : (s.heap.push { cls := .type "tuple_iterator", data := .fields #[.ref l, .int 0 0] }).objs.size = s.heap.objs.size + 1 := Heap.size_push ..
  show _ ∧ _
  rw [hz]
  have he : IsEnum ((s.heap.push { cls := .type "tuple_iterator", data := .fields #[.ref l, .int 0 0] }).push
      { cls := .type "enumerate", data := .fields #[.none, .bool false, .ref s.heap.objs.size, rawInt 0, .none, .none] }) (s.heap.objs.size + 1) s.heap.objs.size 0 .none := by
    have := Heap.get?_push_size (s.heap.push { cls := .type "tuple_iterator", data := .fields #[.ref l, .int 0 0] })
      (o := { cls := .type "enumerate", data := .fields #[.none, .bool false, .ref s.heap.objs.size, rawInt 0, .none, .none] }) rfl
    rw [hz] at this; exact this
  refine ⟨⟨_, he, rfl⟩, h _ he ⟨_, Heap.get?_push_of_some _ (Heap.get?_push_size _ rfl), rfl, rfl⟩ (by rw [Heap.size_push, hz]) fun b o x => Heap.get?_push_of_some _ (Heap.get?_push_of_some _ x)⟩
end
def IteT (K : PySem.W.Frag) (a : Addr) : It :=
  ⟨fun i H => ∃ (xs : List V) (x : V), SqT K H a xs ∧ xs[i]? = some x, fun i H v H' => ∃ T x, v = .ref T ∧ H T = none ∧ H' = upd H T (.tup [.int (i : Nat), x]) ∧ ∀ xs, SqT K H a xs → xs[i]? = some x, fun i H => ∃ xs : List V, SqT K H a xs ∧ xs.length ≤ i⟩
theorem pyNext_enumT_end {prog : Program} {w : World} {A : Around} {E : Value → Shared → Prop} {s : Shared} {e it l : Addr} {i : Nat} {c : Int} {items : Array Value} {old : Value} {Q : Option Value → Shared → Prop} (hh : A.handled = none)
    (he : IsEnum s.heap e it c old) (hit : s.heap.IsTupleIter it l i) (hl : s.heap.IsTuple l items) (hx : items[i]? = none)
    (hQ : ∀ h', Heap.ExtBut it s.heap h' → Q none { s with heap := h' }) : wpAny (model prog w) A (pyNext (.ref e)) Q E s := by
  have hT : s.TypeIs (.ref e) "enumerate" := ⟨_, he, rfl⟩
  unfold pyNext
  refine wpAny_bind (wpAny_attempt (wpAny_callSpecial?_slot (name := Str.ofString "__next__") hT F.slot_enumerate_next
    (wpAny_call_entry F.slot_enumerate_next hT F.entry_enumerate_next ?_ (F.args_enumerate_next_1 _))))
  show wpAny _ _ (field (.ref e) 2 >>= _) _ _ _
  refine wpAny_bind (wpAny_field he rfl (x := .ref it) rfl ?_)
  refine wpAny_bind (wpAny_nextOf_tuple_end hh hit hl hx fun h' x he' hx' => ?_)
  obtain ⟨o, ho, hc⟩ := hx'
  refine wpAny_bind (wpAny_isInstance (T := "StopIteration") (b := true) ⟨o, ho, hc⟩ isSubtype_stop ?_)
  exact wpAny_pure (hQ _ he')
theorem turn_enumT {P : Program} {w : World} {K : PySem.W.Frag} {elts : List Expr} {kk : Nat} {tpos : Pos} (a e it : Addr) :
    Turn P w K (.Tuple elts kk tpos) (IteT K a) [e, it] e (fun i h => (∃ old, IsEnum h e it ((i : Nat) : Int) old) ∧ h.IsTupleIter it a i ∧ e ≠ it ∧ e ≠ a ∧ a ≠ it) where
  mem := by simp
  obj := fun i h st b hb => by
    obtain ⟨⟨old, he⟩, ⟨o, ho, hc, hd⟩, _⟩ := st
    have e' : b = e ∨ b = it := by simpa using hb
    rcases e' with z | z
    · rw [z]; exact ⟨_, he, fun v q => nomatch q⟩
    · rw [z]; exact ⟨o, ho, fun v q => by rw [hd] at q; cases q⟩
  keep := fun i h h' st k => let ⟨⟨old, he⟩, hi, hne⟩ := st; ⟨⟨old, k e (by simp) _ he⟩, hi.at fun o q => k it (by simp) o q, hne⟩
  item := by
    intro X hP hw hK hc i pins s σ H E I hf st hg
    subst hP hw hK
    obtain ⟨⟨old, he⟩, hit, hne, hea, hai⟩ := st
    obtain ⟨xs, x, hq, hx⟩ := hg
    obtain ⟨its, rv, p, hz⟩ := I.tuple hq
    obtain ⟨u, hu, ru⟩ := rv.get hx
    have hel : e < s.heap.objs.size := Heap.lt_size he
    have hil : it < s.heap.objs.size := by obtain ⟨_, q, _⟩ := hit; exact Heap.lt_size q
    have D := Draws.tuple (prog := X.prog) (w := X.w) (A := X.A.in1) (I.ok.hd hc) it a hai its.toArray
    refine wpAny_pyNext_enum_itemD D he ⟨hit, p⟩ (by simpa using (List.getElem?_eq_some_iff.mp hu).1) hne (by simp [hne, hea]) fun y h' tk hy ho hit' hT hsz hk => ?_
    obtain rfl : u = y := by
      have hy' : its[i]? = some y := by simpa using hy
      rw [hu] at hy'; exact Option.some.inj hy'
    refine ⟨_, rfl, wpAny_letOwnedTupleGo_enum (s := { s with heap := h', toks := tk + 1 }) ho fun h'' he' sb => ?_⟩
    have hT2 : h''.get? s.heap.objs.size = some { cls := .type "tuple", data := .seq #[.int i tk, u] } := (sb.2 _ (Nat.ne_of_gt hel)).trans hT
    have new : ObjOk X.prog X.w (upd H s.heap.objs.size (.tup [.int (i : Nat), x])) h'' s.heap.objs.size (.tup [.int (i : Nat), x]) :=
      ⟨by show 2 ≤ sizeLine; decide, [.int i tk, u], .cons ⟨_, rfl⟩ (.cons ru .nil), ⟨_, hT2, rfl, _, rfl⟩⟩
    have I1 : Inv X pins σ (upd H s.heap.objs.size (.tup [.int (i : Nat), x])) { s with heap := h'', toks := tk + 1 } :=
      I.turnedNew (ch := [e, it]) (fun b ob hb q => (sb.2 b (fun z => hb (by simp [z]))).trans (hk b ob (fun z => hb (by simp [z])) (fun z => hb (by simp [z])) q)) hf (Nat.le_refl _) new
    refine ⟨.ref s.heap.objs.size, _, I1, rfl, ⟨_, x, rfl, I.hok.fresh (Nat.le_refl _), rfl, fun ys hy => by rw [I.tuple_inj hy hq]; exact hx⟩, ⟨⟨u, ?_⟩, hit'.1.at fun o q => (sb.2 it (Ne.symm hne)).trans q, hne, hea, hai⟩, fun b hb => ?_⟩
    · have e1 : ((i + 1 : Nat) : Int) = (i : Int) + 1 := by omega
      rw [e1]; exact he'
    · have hb' : b < s.heap.objs.size := by
        have e' : b = e ∨ b = it := by simpa using hb
        rcases e' with z | z
        · rw [z]; exact hel
        · rw [z]; exact hil
      rw [upd_ne (Nat.ne_of_lt hb')]
      exact (hf b hb).1
  done := by
    intro X hP hw hK hc i pins s σ H E I hf st hg
    subst hP hw hK
    obtain ⟨⟨old, he⟩, hit, hne⟩ := st
    obtain ⟨xs, hq, hx⟩ := hg
    obtain ⟨its, rv, p, hz⟩ := I.tuple hq
    obtain ⟨f0, f1, f2, f3, f4, f5⟩ := hf it (by simp)
    have hl := rv.length
    exact pyNext_enumT_end (I.ok.hd hc) he hit p (by simp; omega) fun h' eb => ⟨rfl, I.turned (t' := s.toks) (fun b o hb q => eb b o hb q) f0 f1 f3 f4 f5⟩
  self := fun A i s Q E st h => let ⟨⟨_, he⟩, _⟩ := st; wpAny_pyIter_enum he h
def iEnumT (K : PySem.W.Frag) (ta : TA) : TI := fun σ H R => ta σ H fun vs H1 => ∃ a xs, vs = [.ref a] ∧ SqT K H1 a xs ∧ R (IteT K a) H1
theorem pi_enumT {X : Cx} {e : Expr} {ta : TA} {p pos tpos : Pos} {elts : List Expr} {kk : Nat} (hg : Gl X "enumerate") (hm : X.mg "enumerate" = none) (ha : PA X [e] ta) (hs : starEach [e] X.env = [(false, eval e X.env)] := by rfl) :
    PI X (.Tuple elts kk tpos) (.Call (.Name "enumerate" p) [e] [] pos) (iEnumT X.K ta) := by
  refine ⟨fun pins s σ H R I h => ?_⟩
  refine Call_ (ld_blt I hg hm boot_enumerate (PyProof.Rows.callWith_type1 (thn (ha.run pos pins s σ H _ I h) fun us s1 ⟨vs, H1, I1, r1, q1⟩ => ?_) hs rfl))
  obtain ⟨a, xs, ex, hq, q⟩ := q1
  subst ex
  cases r1 with
  | cons r rr =>
    cases rr
    cases r
    obtain ⟨its, rv, p', hz⟩ := I1.tuple hq
    have hal : a < s1.heap.objs.size := by obtain ⟨o, q, _⟩ := p'; exact Heap.lt_size q
    refine call_enumerate_tuple p' fun h' he hit hsz hk => wpAny_pyIter_enum he ?_
    have I2 : Inv X pins σ H1 { s1 with heap := h' } := I1.kept (t' := s1.toks) hk
    refine ⟨s1.heap.objs.size + 1, [s1.heap.objs.size + 1, s1.heap.objs.size], _, _, H1, rfl, I2, turn_enumT a (s1.heap.objs.size + 1) s1.heap.objs.size, ⟨⟨.none, he⟩, hit, Nat.succ_ne_self _, Nat.ne_of_gt (Nat.lt_succ_of_lt hal), Nat.ne_of_lt hal⟩, fun b hb => ?_, q⟩
    have e' : b = s1.heap.objs.size + 1 ∨ b = s1.heap.objs.size := by simpa using hb
    have hle : s1.heap.objs.size ≤ b := by
      rcases e' with z | z
      · rw [z]; exact Nat.le_add_right _ _
      · rw [z]; exact Nat.le_refl _
    exact I1.fpOk hle (I1.hok.fresh hle)
section
variable {C : Ct} {X : Cx} {W : WX} {a : Expr} {pos : Pos} {S B : Addr → Prop} {H1 : Hp} {K : PySem.W.Frag} {xs : List V} {ds : List D}
theorem wk_enumT {l : Addr} (q : SqT K H1 l xs) (rs : Reps K H1 B xs ds) (hSB : ∀ a, S a → B a) : Wk K S B (IteT K l) H1 (enumD ds) := by
  intro H B' k hB i
  have q' : SqT K H l xs := by
    rcases q with q | q
    · exact .inl (k.tup _ _ q)
    · exact .inr q
  have rs' : Reps K H B' xs ds := rs.go (k.anti hSB) hB
  refine ⟨fun y hy => ?_, fun hl => ⟨xs, q', by rw [rs.length]; simpa [enumD] using hl⟩⟩
  obtain ⟨d, hd, rfl⟩ := enumD_at hy
  obtain ⟨x, hx, rx⟩ := rs'.getD hd
  refine ⟨⟨xs, x, q', hx⟩, fun w H' ⟨T, x', ew, hn, eH, he⟩ => ?_⟩
  have := he xs q'
  rw [hx] at this; cases this
  subst ew eH
  exact ⟨ext_new hn, .tup (.inl (.inl upd_same)) ((Reps.cons (.int _) (.cons rx .nil)).keep (.new hn))⟩
def iEnT (f : XF) : En → Res (List D) := fun e => (f e).bind fun r e1 => match r.d with | .tuple ds => .ok (enumD ds) e1 | _ => .st
theorem gi_enT {elts : List Expr} {kk : Nat} {tpos p : Pos} {f : XF} (hK : X.K = C.K) (hg : Gl X "enumerate") (hm : X.mg "enumerate" = none) (h : GE C X W a f) (hs : starEach [a] X.env = (false, eval a X.env) :: starEach [] X.env := by rfl) : GI C X W (.Tuple elts kk tpos) (.Call (.Name "enumerate" p) [a] [] pos) (iEnT f) := by
  refine pi_imp (pi_enumT hg hm (pa_cons h pa_nil hs) hs) fun σ H R ⟨e, Bx, s, q⟩ => ⟨e, Bx, s, run_mono (bind_run q) (fun r e1 q v H1 p => ?_) fun _ z => z⟩
  obtain ⟨d, fr⟩ := r
  have hp := p.rp
  cases d with
  | tuple ds =>
    cases hp with
    | @tup l xs _ qd rs =>
      refine ⟨l, xs, rfl, by rw [hK]; exact qd, q _ H1 ⟨p.fr, p.le, p.s, ?_⟩⟩
      rw [hK]
      exact wk_enumT qd rs fun a z => z.avo
  | _ => exact q.elim
theorem gi_alt {tg it : Expr} {f g : En → Res (List D)} (c : En → Bool) (h1 : GI C X W tg it f) (h2 : GI C X W tg it g) : GI C X W tg it (fun e => if c e then f e else g e) :=
  ⟨fun pins s σ H R I ⟨e, Bx, si, q⟩ => by
    by_cases hc : c e = true
    · exact h1.run pins s σ H R I ⟨e, Bx, si, by dsimp only at q; rwa [if_pos hc] at q⟩
    · exact h2.run pins s σ H R I ⟨e, Bx, si, by dsimp only at q; rwa [if_neg hc] at q⟩⟩
theorem ge_alt {ex : Expr} {f g : XF} (c : En → Bool) (h1 : GE C X W ex f) (h2 : GE C X W ex g) : GE C X W ex (fun e => if c e then f e else g e) :=
  ⟨fun pins s σ H R I ⟨e, Bx, si, q⟩ => by
    by_cases hc : c e = true
    · exact h1.run pins s σ H R I ⟨e, Bx, si, by dsimp only at q; rwa [if_pos hc] at q⟩
    · exact h2.run pins s σ H R I ⟨e, Bx, si, by dsimp only at q; rwa [if_neg hc] at q⟩⟩
def tupS (i : Nat) (e : En) : Bool := match e[i]? with | some (.sh (.tuple _)) => true | _ => false
def tupR (f : XF) (e : En) : Bool := match f e with | .ok ⟨.tuple _, _⟩ _ => true | _ => false
/-- enumerate of what a name holds, a list or a tuple -/
def iEmA (i : Nat) : En → Res (List D) := fun e => if tupS i e then iEnT (xV i) e else iEm i e
def iEnA (f : XF) : En → Res (List D) := fun e => if tupR f e then iEnT f e else iEn f e
end
end G
end L2
namespace L2
namespace G
open PySem PySem.Spec PyProof.Rows
/-! ### x is True, x is not False -/
section
variable {X : Cx} {C : Ct}
theorem op_isB : OpR X (compareOp .Is) (fun x y H Q => ∃ k, y = .bl k ∧ Q (.bl (decide (x = .bl k))) H) := by
  intro pins s σ H x y v u Q I rx ry h
  obtain ⟨k, rfl, q⟩ := h
  cases ry
  show wpAny _ _ ((isSame v (Value.bool k)) >>= fun z => pure (Value.bool z)) _ _ s
  cases x with
  | bl b =>
    cases rx
    refine wpAny_bind (wpAny_isSame_plain rfl (wpAny_pure (fin_bl I q ?_)))
    cases b <;> cases k <;> decide
  | ref a => cases rx; exact wpAny_bind (wpAny_isSame_plain rfl (wpAny_pure (fin_bl I q rfl)))
  | non => cases rx; exact wpAny_bind (wpAny_isSame_plain rfl (wpAny_pure (fin_bl I q rfl)))
  | int i => obtain ⟨t, rfl⟩ := rx; exact wpAny_bind (wpAny_isSame_plain rfl (wpAny_pure (fin_bl I q rfl)))
  | str i => obtain ⟨t, rfl⟩ := rx; exact wpAny_bind (wpAny_isSame_plain rfl (wpAny_pure (fin_bl I q rfl)))
  | byt i => obtain ⟨t, rfl⟩ := rx; exact wpAny_bind (wpAny_isSame_plain rfl (wpAny_pure (fin_bl I q rfl)))
  | flt i => obtain ⟨t, rfl⟩ := rx; exact wpAny_bind (wpAny_isSame_plain rfl (wpAny_pure (fin_bl I q rfl)))
  | ty i => cases rx; exact wpAny_bind (wpAny_isSame_plain rfl (wpAny_pure (fin_bl I q rfl)))
theorem op_isnotB : OpR X (compareOp .IsNot) (fun x y H Q => ∃ k, y = .bl k ∧ Q (.bl (!decide (x = .bl k))) H) := by
  intro pins s σ H x y v u Q I rx ry h
  obtain ⟨k, rfl, q⟩ := h
  cases ry
  show wpAny _ _ ((isSame v (Value.bool k)) >>= fun z => pure (Value.bool (!z))) _ _ s
  cases x with
  | bl b =>
    cases rx
    refine wpAny_bind (wpAny_isSame_plain rfl (wpAny_pure (fin_bl I q ?_)))
    cases b <;> cases k <;> decide
  | ref a => cases rx; exact wpAny_bind (wpAny_isSame_plain rfl (wpAny_pure (fin_bl I q rfl)))
  | non => cases rx; exact wpAny_bind (wpAny_isSame_plain rfl (wpAny_pure (fin_bl I q rfl)))
  | int i => obtain ⟨t, rfl⟩ := rx; exact wpAny_bind (wpAny_isSame_plain rfl (wpAny_pure (fin_bl I q rfl)))
  | str i => obtain ⟨t, rfl⟩ := rx; exact wpAny_bind (wpAny_isSame_plain rfl (wpAny_pure (fin_bl I q rfl)))
  | byt i => obtain ⟨t, rfl⟩ := rx; exact wpAny_bind (wpAny_isSame_plain rfl (wpAny_pure (fin_bl I q rfl)))
  | flt i => obtain ⟨t, rfl⟩ := rx; exact wpAny_bind (wpAny_isSame_plain rfl (wpAny_pure (fin_bl I q rfl)))
  | ty i => cases rx; exact wpAny_bind (wpAny_isSame_plain rfl (wpAny_pure (fin_bl I q rfl)))
def isBo (k : Bool) : D → Bool | .bool j => j == k | _ => false
def fIsB : D → D → Option Rs := fun x y => match y with | .bool k => sb (isBo k x) | _ => none
def fNotB : D → D → Option Rs := fun x y => match y with | .bool k => sb (!isBo k x) | _ => none
theorem isBo_opd {K : PySem.W.Frag} {H : Hp} {B : Addr → Prop} {v : V} {d : D} {k : Bool} (o : Opd K H B v d) : decide (v = .bl k) = isBo k d := by
  cases o with
  | rep r =>
    cases r with
    | bl b => cases b <;> cases k <;> decide
    | _ => rfl
  | top t => cases t <;> rfl
theorem ok_isB : OpOk C fIsB (fun x y H Q => ∃ k, y = .bl k ∧ Q (.bl (decide (x = .bl k))) H) := by
  intro Bx σ H e0 d1 d2 v1 v2 z Q hz s o1 o2 q
  cases d2 <;> try (cases hz; done)
  cases hz
  exact ⟨_, o2.bool, by rw [isBo_opd o1]; exact q _ _ (post_b s)⟩
theorem ok_notB : OpOk C fNotB (fun x y H Q => ∃ k, y = .bl k ∧ Q (.bl (!decide (x = .bl k))) H) := by
  intro Bx σ H e0 d1 d2 v1 v2 z Q hz s o1 o2 q
  cases d2 <;> try (cases hz; done)
  cases hz
  exact ⟨_, o2.bool, by rw [isBo_opd o1]; exact q _ _ (post_b s)⟩
end
end G
end L2
namespace L2
namespace G
open PySem PySem.Spec PyProof.Rows
/-! ### draws, by run -/
def DSl (x : Sl) : Prop := ∃ cs a c s, Dr cs a c s ∧ x = .ow true (drD cs a c s)
/-- what a def makes of a draw and other arguments -/
def DSp (φ : XF) (ds : List D) (Q : Rs → Prop) : Prop := ∀ x, DSl x → ∃ r x' rest, φ (x :: ds.map .sh) = .ok r (x' :: rest) ∧ DSl x' ∧ Q r
section
variable {x : Sl} {φ : XF} {ds : List D} {Q : Rs → Prop} {i n : Nat} {g : En → Res (List D)} {e : En} {P : Rs → En → Prop} {E : Exn → Prop}
theorem xD_run0 (h : DSp φ ds Q) (dx : DSl x) (he : e[i]? = some x) (hg : g e = .ok ds e) (hn : ds.length = n) (hk : ∀ r x', DSl x' → Q r → P r (e.set i x')) : (xCallD i n φ g e).run P E := by
  obtain ⟨r, x', rest, h1, dx', q⟩ := h x dx
  have hk := hk r x' dx' q
  obtain ⟨cs, a, c, s, _, rfl⟩ := dx
  obtain ⟨cs', a', c', s', _, rfl⟩ := dx'
  have ho : ownL i e = some [.list (cs.map .int), .int a, .int c, .int s] := by unfold ownL; rw [he]; rfl
  unfold xCallD
  rw [ho, hg]
  simp only [Option.isSome_some, if_true, bind_ok, hn, ho]
  unfold drD at h1
  rw [h1]
  exact hk
/-- [f(draw, ..) for i in range(m)]: each turn's value by Q -/
theorem lc_draw0 {vs : List Nat} {k m : Nat} {α : Type} (us : List α) (u : α → D) (hl : us.length ≤ most) (h : DSp φ ds Q) (dx : DSl x) (he : e[i]? = some x) (hvs : vs = [k]) (hk : k < e.length) (hki : k ≠ i) (hn : ds.length = n)
    (hg : ∀ a x', g (((e.set i x').set k .un).set k (.sh (u a))) = .ok ds (((e.set i x').set k .un).set k (.sh (u a))))
    (hP : ∀ (rs : List Rs) x', DSl x' → rs.length = us.length → (∀ r ∈ rs, Q r) → P ⟨.list (rs.map (·.d)), true⟩ (e.set i x')) :
    (lcLoop (gV k) tTrue (xCallD i n φ g) vs (us.map u) [] e).run (lcR vs e P) E := by
  subst hvs
  have hie : i < e.length := (List.getElem?_eq_some_iff.mp he).1
  refine lcI0 us u (fun pre acc e1 => ∃ (rs : List Rs) (x' : Sl) (s : Sl), acc = rs.map (·.d) ∧ rs.length = pre.length ∧ (∀ r ∈ rs, Q r) ∧ DSl x' ∧ e1 = (e.set i x').set k s) ⟨[], x, e[k], rfl, rfl, (fun _ z => nomatch z), dx, ?_⟩ hl (fun pre a post _ acc e1 hI => ?_) (fun acc e1 hI => ?_)
  · apply List.ext_getElem
    · simp
    · intro j h1 h2
      rw [List.getElem_set, List.getElem_set]
      obtain ⟨_, hx⟩ := List.getElem?_eq_some_iff.mp he
      split
      · rename_i z; subst z; rfl
      · split
        · rename_i z; subst z; exact hx
        · rfl
  · obtain ⟨rs, x', s, rfl, hrl, hq, dx', rfl⟩ := hI
    have e1 : wipeE ((e.set i x').set k s) [k] = (e.set i x').set k .un := by simp [wipeE]
    rw [e1]
    refine oK0_of (a := ((e.set i x').set k .un).set k (.sh (u a))) (by unfold gV; rw [if_pos (by simpa using hk)]; rfl) ?_
    show iK0 true _ _
    rw [iK0_tt]
    refine xD_run0 h dx' ?_ (hg a x') hn fun r x'' dx'' q => ?_
    · rw [List.getElem?_set_ne hki, List.getElem?_set_ne hki, List.getElem?_set_self hie]
    · refine ⟨rs ++ [r], x'', .sh (u a), by simp, by simp [hrl], fun r' m => ?_, dx'', ?_⟩
      · rcases List.mem_append.mp m with m | m
        · exact hq r' m
        · rw [List.mem_singleton.mp m]; exact q
      · rw [List.set_set, List.set_comm _ _ hki, List.set_set]
  · obtain ⟨rs, x', s, rfl, hrl, hq, dx', rfl⟩ := hI
    rw [lcR_ap]
    have e2 : resE e ((e.set i x').set k s) [k] = e.set i x' := by
      have hek : e[k]? = some e[k] := List.getElem?_eq_getElem hk
      simp only [resE, hek]
      rw [List.set_set]
      apply List.ext_getElem
      · simp
      · intro j h1 h2
        rw [List.getElem_set]
        split
        · rename_i z; subst z; rw [List.getElem_set_ne (Ne.symm hki)]
        · rfl
    rw [e2]
    exact hP rs x' dx' hrl hq
theorem lc_drawN0 {vs : List Nat} {k m : Nat} (hl : m ≤ most) (h : DSp φ ds Q) (dx : DSl x) (he : e[i]? = some x) (hvs : vs = [k]) (hk : k < e.length) (hki : k ≠ i) (hn : ds.length = n)
    (hg : ∀ (a : Nat) x', g (((e.set i x').set k .un).set k (.sh (.int (a : Nat)))) = .ok ds (((e.set i x').set k .un).set k (.sh (.int (a : Nat)))))
    (hP : ∀ (rs : List Rs) x', DSl x' → rs.length = m → (∀ r ∈ rs, Q r) → P ⟨.list (rs.map (·.d)), true⟩ (e.set i x')) :
    (lcLoop (gV k) tTrue (xCallD i n φ g) vs (rgN m) [] e).run (lcR vs e P) E :=
  lc_draw0 (m := 0) (List.range m) _ (by simpa using hl) h dx he hvs hk hki hn hg fun rs x' dx' hr hq => hP rs x' dx' (by simpa using hr) hq
end
/-! ### rows of naturals -/
/-- a row of naturals as data -/
def rowD (N : Nat) (r : Nat → Nat) : D := .list ((List.range N).map fun (x : Nat) => .int (r x : Nat))
theorem map_getD {α β : Type} (fs : List α) (d : α) (f : α → β) : fs.map f = (List.range fs.length).map fun x => f (fs.getD x d) := by
  apply List.ext_getElem
  · simp
  · intro i h1 h2
    simp at h1
    simp [h1]
theorem rows_nat {m : Nat} {rs : List Rs} (h : ∀ r ∈ rs, ∃ f : Nat, f < m ∧ r = ⟨.int (f : Nat), false⟩) : ∃ v : Nat → Nat, (∀ x, x < rs.length → v x < m) ∧ PyData.list (rs.map (·.d)) = rowD rs.length v := by
  have key : ∃ fs : List Nat, fs.length = rs.length ∧ (∀ f ∈ fs, f < m) ∧ rs.map (·.d) = fs.map fun (f : Nat) => PyData.int (f : Nat) := by
    induction rs with
    | nil => exact ⟨[], rfl, nofun, rfl⟩
    | cons r rs ih =>
      obtain ⟨fs, h1, h2, h3⟩ := ih fun r m => h r (List.mem_cons_of_mem _ m)
      obtain ⟨f, hf, rfl⟩ := h r List.mem_cons_self
      refine ⟨f :: fs, by simp [h1], fun g hg => ?_, by simp [h3]⟩
      rcases List.mem_cons.mp hg with rfl | hg
      · exact hf
      · exact h2 g hg
  obtain ⟨fs, h1, h2, h3⟩ := key
  refine ⟨fun x => fs.getD x 0, fun x hx => ?_, ?_⟩
  · rw [← h1] at hx
    show fs.getD x 0 < m
    rw [List.getD_eq_getElem?_getD, List.getElem?_eq_getElem hx]
    exact h2 _ (List.getElem_mem hx)
  · rw [h3, map_getD fs 0, h1]; rfl
theorem rowD_ix {N : Nat} {r : Nat → Nat} {x : Nat} (h : x < N) : fIxA (rowD N r) (.int (x : Nat)) = some ⟨.int (r x : Nat), false⟩ :=
  ixL (by simp [h])
theorem rowD_len {N : Nat} {r : Nat → Nat} : fLen (rowD N r) = some ⟨.int (N : Nat), false⟩ := by
  unfold rowD
  rw [fLen_list]; simp
theorem rowD_congr {N : Nat} {r r' : Nat → Nat} (h : ∀ x, x < N → r x = r' x) : rowD N r = rowD N r' := by
  unfold rowD
  congr 1
  apply List.map_congr_left
  intro x hx
  rw [h x (List.mem_range.mp hx)]
theorem tb_congr {p q : Nat → Bool} : ∀ {m : Nat}, (∀ x, x < m → p x = q x) → tb p m = tb q m
  | 0, _ => rfl
  | m + 1, h => by
    unfold tb
    rw [tb_congr fun x hx => h x (by omega), h m (by omega)]
theorem tb_self (t : Nat) : ∀ m, tb (fun x => t.testBit x) m = t % 2 ^ m := fun m => by
  apply Nat.eq_of_testBit_eq
  intro x
  rw [tb_bit, Nat.testBit_mod_two_pow]
theorem tb_of (t m : Nat) (h : t < 2 ^ m) : tb (fun x => t.testBit x) m = t := by rw [tb_self, Nat.mod_eq_of_lt h]
theorem tb_sum (p : Nat → Bool) : ∀ m, (((List.range m).filter p).map fun i => 2 ^ i).sum = tb p m
  | 0 => rfl
  | m + 1 => by
    rw [List.range_succ, List.filter_append, List.map_append, List.sum_append, tb_sum p m, show tb p (m + 1) = tb p m + (if p m then 2 ^ m else 0) from rfl]
    by_cases h : p m = true
    · simp [h]
    · simp [h]
theorem bt_tb {p : Nat → Bool} {m x : Nat} : bt (tb p m) x = (decide (x < m) && p x).toNat := by
  unfold bt; rw [tb_bit]
theorem bt_1 {t x : Nat} : (bt t x = 1) ↔ t.testBit x = true := by unfold bt; cases t.testBit x <;> simp
theorem bt_0 {t x : Nat} : (bt t x = 0) ↔ t.testBit x = false := by unfold bt; cases t.testBit x <;> simp
theorem bt_inj {s t x y : Nat} : (bt t x = bt s y) ↔ t.testBit x = s.testBit y := by unfold bt; cases t.testBit x <;> cases s.testBit y <;> simp
theorem dec_btN {s t x y : Nat} : decide ((bt t x : Int) ≠ (bt s y : Int)) = (t.testBit x != s.testBit y) := by
  unfold bt; cases t.testBit x <;> cases s.testBit y <;> rfl
theorem dec_btE {s t x y : Nat} : decide ((bt t x : Int) = (bt s y : Int)) = (t.testBit x == s.testBit y) := by
  unfold bt; cases t.testBit x <;> cases s.testBit y <;> rfl
theorem dec_bt1 {t x : Nat} : decide ((bt t x : Int) = 1) = t.testBit x := by
  unfold bt; cases t.testBit x <;> rfl
theorem dec_bt0 {t x : Nat} : decide ((bt t x : Int) = 0) = !t.testBit x := by
  unfold bt; cases t.testBit x <;> rfl
theorem dec_eqN {a b : Nat} : decide ((a : Int) = (b : Int)) = decide (a = b) := by
  congr 1; exact propext Int.ofNat_inj
theorem dec_neN {a b : Nat} : decide ((a : Int) ≠ (b : Int)) = decide (a ≠ b) := by
  congr 1; exact propext ⟨fun h z => h (by rw [z]), fun h z => h (Int.ofNat_inj.mp z)⟩
theorem dec_ltN {a b : Nat} : decide ((a : Int) < (b : Int)) = decide (a < b) := by
  congr 1; exact propext Int.ofNat_lt
theorem dec_leN {a b : Nat} : decide ((a : Int) ≤ (b : Int)) = decide (a ≤ b) := by
  congr 1; exact propext Int.ofNat_le
theorem rg1_s {n : Nat} (h : n ≤ 100000) : rg1 [.int (n : Nat)] = some (rgN n) := rg1_nat (Nat.lt_of_le_of_lt h (by decide))
theorem most_s {n : Nat} (h : n ≤ 100000) : n ≤ most := Nat.le_trans h (by decide)
theorem fShl_s {b : Nat} (h : b ≤ 1000) : fShl (.int 1) (.int (b : Nat)) = some ⟨.int ((2 ^ b : Nat) : Int), false⟩ := fShl_1 (Nat.le_trans h (by decide))
theorem two64 {n : Nat} (h : n < 64) : 2 ^ n < 2 ^ 64 := Nat.pow_lt_pow_right (by decide) h
theorem lt64 {n : Nat} (h : n ≤ 100000) : n < 2 ^ 64 := Nat.lt_of_le_of_lt h (by decide)
theorem two_le {n k : Nat} (h : n ≤ k) : 2 ^ n ≤ 2 ^ k := Nat.pow_le_pow_right (by decide) h
theorem two32 {n : Nat} (h : n ≤ 5) : 2 ^ n ≤ 32 := two_le (k := 5) h
def lampD (n t : Nat) : D := .tuple [.int (n : Nat), .int (t : Nat)]
end G
end L2
namespace L2
namespace G
open PySem PySem.Spec PyProof.Rows
/-! ### the rules of run once more, over words that nothing unfolds -/
structure Du {β : Sort _} (b : β) : Type where
/-- Du: what stands before it is not looked into by simp -/
inductive Res.rn {α : Type} (x : Res α) (P : α → En → Prop) (E : Exn → Prop) (u : Du P := ⟨⟩) (w : Du E := ⟨⟩) : Prop
  | mk : x.run P E → Res.rn x P E u w
theorem rn_run {α : Type} {x : Res α} {P : α → En → Prop} {E : Exn → Prop} : x.rn P E = x.run P E := propext ⟨fun ⟨h⟩ => h, fun h => ⟨h⟩⟩
inductive oK {α : Type} (o : Option α) (k : α → Prop) (u : Du k := ⟨⟩) : Prop
  | mk (z : α) : o = some z → k z → oK o k u
theorem oK_def {α : Type} {o : Option α} {k : α → Prop} : oK o k = oK0 o k := propext ⟨fun ⟨z, h, q⟩ => by rw [h]; exact q, fun h => by
  cases o with
  | none => exact h.elim
  | some z => exact ⟨z, rfl, h⟩⟩
section
variable {α β : Type} {x y : Res α} {P P' : α → En → Prop} {E E' : Exn → Prop} {o o' : Option α} {k : α → Prop} {a : α}
theorem rn_ok {e : En} : (Res.ok a e).rn P E = P a e := rn_run
theorem rn_ex {z : Exn} : (Res.ex z : Res α).rn P E = E z := rn_run
theorem rn_st : (Res.st : Res α).rn P E = False := rn_run
theorem rn_mono (h : x.rn P E) (h1 : ∀ a e, P a e → P' a e) (h2 : ∀ y, E y → E' y) : x.rn P' E' := by
  rw [rn_run] at h ⊢; exact run_mono h h1 h2
theorem ok_of_run {r : α} {e : En} (h : x.rn (fun r' e' => r' = r ∧ e' = e) (fun _ => False)) : x = .ok r e := ok_of_run0 (rn_run ▸ h)
theorem ex_of_run {y : Exn} (h : x.rn (fun _ _ => False) (fun z => z = y)) : x = .ex y := ex_of_run0 (rn_run ▸ h)
theorem rn_okI {r : α} {e : En} (h : x = .ok r e) (hp : P r e) : x.rn P E := by rw [h, rn_ok]; exact hp
theorem rn_exI {z : Exn} (h : x = .ex z) (hp : E z) : x.rn P E := by rw [h, rn_ex]; exact hp
theorem rn_ex' (h : x.rn P fun _ => False) : ∃ a e, x = .ok a e ∧ P a e := run_ex'0 (rn_run ▸ h)
theorem oK_some : oK (some a) k = k a := oK_def
theorem oK_none : oK (none : Option α) k = False := oK_def
theorem oK_of (h : o = some a) (hk : k a) : oK o k := ⟨a, h, hk⟩
theorem oK_ex (h : oK o k) : ∃ a, o = some a ∧ k a := let ⟨z, a, b⟩ := h; ⟨z, a, b⟩
end
def vK (s : Option Sl) (i : Nat) (e : En) (P : Rs → En → Prop) (u : Du P := ⟨⟩) (w : Du e := ⟨⟩) : Prop := vK0 s i e P
def bK (s : Option Sl) (P : D → Prop) (u : Du P := ⟨⟩) : Prop := bK0 s P
def iK (b : Bool) (A B : Prop) : Prop := iK0 b A B
def sK (fl : Fl) (A : Prop) (k : Fl → Prop) (u : Du A := ⟨⟩) (w : Du k := ⟨⟩) : Prop := sK0 fl A k
def aK (A B : Prop) (u : Du B := ⟨⟩) : Prop := aK0 A B
def rvK (s : Option Sl) (i : Nat) (e : En) (P : Fl → En → Prop) (u : Du P := ⟨⟩) (w : Du e := ⟨⟩) : Prop := rvK0 s i e P
def tK (fl : Fl) (A B : Prop) (u : Du A := ⟨⟩) (w : Du B := ⟨⟩) : Prop := tK0 fl A B
section
variable {i : Nat} {e : En} {P : Rs → En → Prop} {s : Option Sl} {kd : D → Prop} {A B : Prop} {b : Bool} {fl : Fl} {kf : Fl → Prop} {PF : Fl → En → Prop} {d : D} {r : Rs} {w : Bool}
theorem vK_def : vK s i e P = vK0 s i e P := rfl
theorem bK_def : bK s kd = bK0 s kd := rfl
theorem iK_def : iK b A B = iK0 b A B := rfl
theorem sK_def : sK fl A kf = sK0 fl A kf := rfl
theorem aK_def : aK A B = aK0 A B := rfl
theorem rvK_def : rvK s i e PF = rvK0 s i e PF := rfl
theorem tK_def : tK fl A B = tK0 fl A B := rfl
theorem vK_sh : vK (some (.sh d)) i e P = P ⟨d, false⟩ e := rfl
theorem vK_ow : vK (some (.ow true d)) i e P = P ⟨d, false⟩ (e.set i (.sh d)) := rfl
theorem bK_sh : bK (some (.sh d)) kd = kd d := rfl
theorem bK_ow : bK (some (.ow w d)) kd = kd d := rfl
theorem iK_tt : iK true A B = A := iK0_tt
theorem iK_ff : iK false A B = B := iK0_ff
theorem iK_of (h1 : b = true → A) (h2 : b = false → B) : iK b A B := ⟨h1, h2⟩
theorem iK_t (h : b = true) (hA : A) : iK b A B := iK0_t h hA
theorem iK_f (h : b = false) (hB : B) : iK b A B := iK0_f h hB
theorem iK_dec {p : Prop} [Decidable p] (h1 : p → A) (h2 : ¬ p → B) : iK (decide p) A B := iK0_dec h1 h2
theorem iK_not : iK (!b) A B = iK b B A := iK0_not
theorem sK_nx : sK .nx A kf = A := rfl
theorem sK_ct : sK .ct A kf = kf .ct := rfl
theorem sK_rt : sK (.rt r) A kf = kf (.rt r) := rfl
theorem aK_true : aK True B = B := aK0_true
theorem aK_of (h : A) (h2 : B) : aK A B := ⟨h, h2⟩
theorem rvK_ow : rvK (some (.ow true d)) i e PF = PF (.rt ⟨d, true⟩) (e.set i .un) := rfl
theorem rvK_sh : rvK (some (.sh d)) i e PF = PF (.rt ⟨d, false⟩) e := rfl
theorem tK_nx : tK .nx A B = A := rfl
theorem tK_ct : tK .ct A B = A := rfl
theorem tK_rt : tK (.rt r) A B = B := rfl
end

section
variable {f g h : XF} {P : Rs → En → Prop} {PD : D → En → Prop} {PB : Bool → En → Prop} {PA : List D → En → Prop} {PF : Fl → En → Prop} {PI : Option Int → En → Prop} {E : Exn → Prop} {e : En} {i j n : Nat} {d : D} {F G : D → D → Option Rs} {U : D → Option Rs} {l : Lf} {go : En → Res D} {ga : En → Res (List D)}
  {tt tf : En → Res Bool} {sf sg : SF} {gg gh : Rs → En → Option En} {gs : List D → En → Option En} {lk : Option Nat} {vs : List Nat} {ds : List D} {φ : XF}
theorem rn_xV : (xV i e).rn P E = vK e[i]? i e P := by simp only [rn_run, oK_def, vK_def, bK_def, iK_def, sK_def, aK_def, rvK_def, tK_def]; exact run_xV
theorem rn_xB : (xB i e).rn PD E = bK e[i]? fun d => PD d e := by simp only [rn_run, oK_def, vK_def, bK_def, iK_def, sK_def, aK_def, rvK_def, tK_def]; exact run_xB
theorem rn_xC : (xC d e).rn P E = P ⟨d, false⟩ e := by simp only [rn_run, oK_def, vK_def, bK_def, iK_def, sK_def, aK_def, rvK_def, tK_def]; exact run_xC
theorem rn_xO : (xO f e).rn PD E = (f e).rn (fun r e1 => PD r.d e1) E := by simp only [rn_run, oK_def, vK_def, bK_def, iK_def, sK_def, aK_def, rvK_def, tK_def]; exact run_xO
theorem rn_xNil : (xNil e).rn PA E = PA [] e := by simp only [rn_run, oK_def, vK_def, bK_def, iK_def, sK_def, aK_def, rvK_def, tK_def]; exact run_xNil
theorem rn_xCons : (xCons f ga e).rn PA E = (f e).rn (fun r e1 => (ga e1).rn (fun ds e2 => PA (r.d :: ds) e2) E) E := by simp only [rn_run, oK_def, vK_def, bK_def, iK_def, sK_def, aK_def, rvK_def, tK_def]; exact run_xCons
theorem rn_xTup : (xTup ga e).rn P E = (ga e).rn (fun ds e1 => aK (ds.length ≤ most) (P ⟨.tuple ds, false⟩ e1)) E := by simp only [rn_run, oK_def, vK_def, bK_def, iK_def, sK_def, aK_def, rvK_def, tK_def]; exact run_xTup
theorem rn_xLst : (xLst ga e).rn P E = (ga e).rn (fun ds e1 => aK (ds.length ≤ most) (P ⟨.list ds, true⟩ e1)) E := by simp only [rn_run, oK_def, vK_def, bK_def, iK_def, sK_def, aK_def, rvK_def, tK_def]; exact run_xLst
theorem rn_xOp_ex : (xOp F (.ex f) go e).rn P E = (f e).rn (fun r e1 => (go e1).rn (fun y e2 => oK (F r.d y) fun z => P z e2) E) E := by simp only [rn_run, oK_def, vK_def, bK_def, iK_def, sK_def, aK_def, rvK_def, tK_def]; exact run_xOp_ex
theorem rn_xOp_br : (xOp F (.br i) go e).rn P E = bK e[i]? fun _ => (go e).rn (fun y e2 => bK e2[i]? fun x => oK (F x y) fun z => P z e2) E := by simp only [rn_run, oK_def, vK_def, bK_def, iK_def, sK_def, aK_def, rvK_def, tK_def]; exact run_xOp_br
theorem rn_tTru : (tTru go e).rn PB E = (go e).rn (fun d e1 => oK (truD d) fun b => PB b e1) E := by simp only [rn_run, oK_def, vK_def, bK_def, iK_def, sK_def, aK_def, rvK_def, tK_def]; exact run_tTru
theorem rn_tAndT : (tAndT tt tf e).rn PB E = (tt e).rn (fun b e1 => iK b ((tf e1).rn PB E) (PB false e1)) E := by simp only [rn_run, oK_def, vK_def, bK_def, iK_def, sK_def, aK_def, rvK_def, tK_def]; exact run_tAndT
theorem rn_tOrT : (tOrT tt tf e).rn PB E = (tt e).rn (fun b e1 => iK b (PB true e1) ((tf e1).rn PB E)) E := by simp only [rn_run, oK_def, vK_def, bK_def, iK_def, sK_def, aK_def, rvK_def, tK_def]; exact run_tOrT
theorem rn_tNotT : (tNotT tt e).rn PB E = (tt e).rn (fun b e1 => PB (!b) e1) E := by simp only [rn_run, oK_def, vK_def, bK_def, iK_def, sK_def, aK_def, rvK_def, tK_def]; exact run_tNotT
theorem rn_tTrue : (tTrue e).rn PB E = PB true e := by simp only [rn_run, oK_def, vK_def, bK_def, iK_def, sK_def, aK_def, rvK_def, tK_def]; exact run_tTrue
theorem rn_xAnd : (xAnd f g e).rn P E = (f e).rn (fun r e1 => oK (dB r.d) fun b => iK b ((g e1).rn P E) (P ⟨.bool false, false⟩ e1)) E := by simp only [rn_run, oK_def, vK_def, bK_def, iK_def, sK_def, aK_def, rvK_def, tK_def]; exact run_xAnd
theorem rn_xOr : (xOr f g e).rn P E = (f e).rn (fun r e1 => oK (dB r.d) fun b => iK b (P ⟨.bool true, false⟩ e1) ((g e1).rn P E)) E := by simp only [rn_run, oK_def, vK_def, bK_def, iK_def, sK_def, aK_def, rvK_def, tK_def]; exact run_xOr
theorem rn_xNot : (xNot f e).rn P E = (f e).rn (fun r e1 => oK (dB r.d) fun b => P ⟨.bool (!b), false⟩ e1) E := by simp only [rn_run, oK_def, vK_def, bK_def, iK_def, sK_def, aK_def, rvK_def, tK_def]; exact run_xNot
theorem rn_xTest' : (xTest f e).rn PB E = (f e).rn (fun r e1 => oK (dB r.d) fun b => PB b e1) E := by simp only [rn_run, oK_def, vK_def, bK_def, iK_def, sK_def, aK_def, rvK_def, tK_def]; exact run_xTest'
theorem rn_xIf : (xIf tt f g e).rn P E = (tt e).rn (fun b e1 => iK b ((f e1).rn P E) ((g e1).rn P E)) E := by simp only [rn_run, oK_def, vK_def, bK_def, iK_def, sK_def, aK_def, rvK_def, tK_def]; exact run_xIf
theorem rn_xOne : (xOne U go e).rn P E = (go e).rn (fun d e1 => oK (U d) fun z => P z e1) E := by simp only [rn_run, oK_def, vK_def, bK_def, iK_def, sK_def, aK_def, rvK_def, tK_def]; exact run_xOne
theorem rn_sNil : (sNil e).rn PF E = PF .nx e := by simp only [rn_run, oK_def, vK_def, bK_def, iK_def, sK_def, aK_def, rvK_def, tK_def]; exact run_sNil
theorem rn_sSeq : (sSeq sf sg e).rn PF E = (sf e).rn (fun fl e1 => sK fl ((sg e1).rn PF E) fun fl => PF fl e1) E := by simp only [rn_run, oK_def, vK_def, bK_def, iK_def, sK_def, aK_def, rvK_def, tK_def]; exact run_sSeq
theorem rn_sExpr : (sExpr f e).rn PF E = (f e).rn (fun _ e1 => PF .nx e1) E := by simp only [rn_run, oK_def, vK_def, bK_def, iK_def, sK_def, aK_def, rvK_def, tK_def]; exact run_sExpr
theorem rn_sRet : (sRet f e).rn PF E = (f e).rn (fun r e1 => PF (.rt r) e1) E := by simp only [rn_run, oK_def, vK_def, bK_def, iK_def, sK_def, aK_def, rvK_def, tK_def]; exact run_sRet
theorem rn_sRetV : (sRetV i e).rn PF E = rvK e[i]? i e PF := by simp only [rn_run, oK_def, vK_def, bK_def, iK_def, sK_def, aK_def, rvK_def, tK_def]; exact run_sRetV
theorem rn_sIf : (sIf tt sf sg e).rn PF E = (tt e).rn (fun b e1 => iK b ((sf e1).rn PF E) ((sg e1).rn PF E)) E := by simp only [rn_run, oK_def, vK_def, bK_def, iK_def, sK_def, aK_def, rvK_def, tK_def]; exact run_sIf
theorem rn_sAsg : (sAsg f gg e).rn PF E = (f e).rn (fun r e1 => oK (gg r e1) fun e2 => PF .nx e2) E := by simp only [rn_run, oK_def, vK_def, bK_def, iK_def, sK_def, aK_def, rvK_def, tK_def]; exact run_sAsg
theorem rn_sRaise {c : Nat} : (sRaise c e).rn PF E = E ⟨c, none⟩ := by simp only [rn_run, oK_def, vK_def, bK_def, iK_def, sK_def, aK_def, rvK_def, tK_def]; exact run_sRaise
theorem rn_sTry {hs : Hs} : (sTry sf hs e).rn PF E = (sf e).rn PF (fun x => (pick hs x (List.replicate e.length .un)).rn PF E) := by simp only [rn_run, oK_def, vK_def, bK_def, iK_def, sK_def, aK_def, rvK_def, tK_def]; exact run_sTry
theorem rn_sPar : (sPar i j f g e).rn PF E = (f e).rn (fun r1 e1 => (g e1).rn (fun r2 e2 => oK (gV j r2 e2) fun e3 => oK (gV i r1 e3) fun e4 => PF .nx e4) E) E := by simp only [rn_run, oK_def, vK_def, bK_def, iK_def, sK_def, aK_def, rvK_def, tK_def]; exact run_sPar
theorem oK_gV {r : Rs} {k : En → Prop} : oK (gV i r e) k = aK (i < e.length) (k (e.set i (slOf r))) := by simp only [rn_run, oK_def, vK_def, bK_def, iK_def, sK_def, aK_def, rvK_def, tK_def]; exact oK0_gV
theorem oK_gTp {r : Rs} {k : En → Prop} (h : r.d = .tuple ds) : oK (gTp n gs r e) k = aK (ds.length = n) (oK (gs ds e) k) := by simp only [rn_run, oK_def, vK_def, bK_def, iK_def, sK_def, aK_def, rvK_def, tK_def]; exact oK0_gTp h
theorem oK_gTp' {fr : Bool} {k : En → Prop} : oK (gTp n gs ⟨.tuple ds, fr⟩ e) k = aK (ds.length = n) (oK (gs ds e) k) := by simp only [rn_run, oK_def, vK_def, bK_def, iK_def, sK_def, aK_def, rvK_def, tK_def]; exact oK0_gTp'
theorem oK_gsCons {k : En → Prop} : oK (gsCons gg gs (d :: ds) e) k = oK (gg ⟨d, false⟩ e) fun e1 => oK (gs ds e1) k := by simp only [rn_run, oK_def, vK_def, bK_def, iK_def, sK_def, aK_def, rvK_def, tK_def]; exact oK0_gsCons
theorem oK_gsNil {k : En → Prop} : oK (gsNil [] e) k = k e := by simp only [rn_run, oK_def, vK_def, bK_def, iK_def, sK_def, aK_def, rvK_def, tK_def]; exact oK0_gsNil
theorem rn_sAug : (sAug F i go e).rn PF E = bK e[i]? fun x => aK (scal1 x = true) ((go e).rn (fun y e1 => oK (F x y) fun r => aK (scal1 r.d = true ∧ i < e1.length) (PF .nx (e1.set i (.sh r.d)))) E) := by simp only [rn_run, oK_def, vK_def, bK_def, iK_def, sK_def, aK_def, rvK_def, tK_def]; exact run_sAug
theorem rn_xLk_none : (xLk none f e).rn P E = (f e).rn P E := by simp only [rn_run, oK_def, vK_def, bK_def, iK_def, sK_def, aK_def, rvK_def, tK_def]; exact run_xLk_none
theorem rn_xLk_some : (xLk (some i) f e).rn P E = (f e).rn (fun r e2 => P r (relock e e2 i)) E := by simp only [rn_run, oK_def, vK_def, bK_def, iK_def, sK_def, aK_def, rvK_def, tK_def]; exact run_xLk_some
theorem rn_xLc {it : En → Res (List D)} : (xLc it gg tt g vs e).rn P E = (it e).rn (fun ds e1 => aK (okW e1 vs = true) ((lcLoop gg tt g vs ds [] e1).rn (lcR vs e1 P) E)) E := by simp only [rn_run, oK_def, vK_def, bK_def, iK_def, sK_def, aK_def, rvK_def, tK_def]; exact run_xLc
theorem rn_sFor {it : En → Res (List D)} : (sFor it gg sf e).rn PF E = (it e).rn (fun ds e1 => (floop gg sf ds e1).rn PF E) E := by simp only [rn_run, oK_def, vK_def, bK_def, iK_def, sK_def, aK_def, rvK_def, tK_def]; exact run_sFor
theorem rn_sForN : (sForN i gg sf e).rn PF E = (iN i e).rn (fun ds e1 => (floop gg sf ds e1).rn (fun fl e2 => rlK fl e2 (relock e e2 i) PF) E) E := by simp only [rn_run, oK_def, vK_def, bK_def, iK_def, sK_def, aK_def, rvK_def, tK_def]; exact run_sForN
theorem rn_sForL {it : En → Res (List D)} : (sForL i it gg sf e).rn PF E = (it e).rn (fun ds e1 => (floop gg sf ds e1).rn (fun fl e2 => rlK fl e2 (relock e e2 i) PF) E) E := by simp only [rn_run, oK_def, vK_def, bK_def, iK_def, sK_def, aK_def, rvK_def, tK_def]; exact run_sForL
theorem rn_iN : (iN i e).rn PA E = bK e[i]? fun d => oK (itemsD d) fun ds => PA ds (lockE e i) := by simp only [rn_run, oK_def, vK_def, bK_def, iK_def, sK_def, aK_def, rvK_def, tK_def]; exact run_iN
theorem rn_iA : (iA f e).rn PA E = (f e).rn (fun r e1 => oK (itemsD r.d) fun ds => PA ds e1) E := by simp only [rn_run, oK_def, vK_def, bK_def, iK_def, sK_def, aK_def, rvK_def, tK_def]; exact run_iA
theorem rn_iR1 : (iR1 ga e).rn PA E = (ga e).rn (fun ds e1 => oK (rg1 ds) fun ds => PA ds e1) E := by simp only [rn_run, oK_def, vK_def, bK_def, iK_def, sK_def, aK_def, rvK_def, tK_def]; exact run_iR1
theorem rn_xCall0 : (xCall0 n φ ga e).rn P E = (ga e).rn (fun ds e1 => aK (ds.length = n) ((φ (ds.map .sh)).rn (fun r _ => P r e1) E)) E := by simp only [rn_run, oK_def, vK_def, bK_def, iK_def, sK_def, aK_def, rvK_def, tK_def]; exact run_xCall0
theorem rn_xCallN : (xCallN φ e).rn P E = (φ []).rn (fun r _ => P r e) E := by simp only [rn_run, oK_def, vK_def, bK_def, iK_def, sK_def, aK_def, rvK_def, tK_def]; exact run_xCallN
theorem rn_fnD {pat : List Bool} : (fnD sf pat n e).rn P E = (sf (e ++ List.replicate n .un)).rn (fun fl eb => fK fl fun r => oK (backP pat e eb) fun e' => P r e') E := by simp only [rn_run, oK_def, vK_def, bK_def, iK_def, sK_def, aK_def, rvK_def, tK_def]; exact run_fnD
theorem rn_xApp : (xApp i f e).rn P E = aK ((ownL i e).isSome = true) ((f e).rn (fun r e1 => oK (ownL i e1) fun ds => aK (ds.length < most) (P ⟨.none, false⟩ (e1.set i (.ow true (.list (ds ++ [r.d])))))) E) := by simp only [rn_run, oK_def, vK_def, bK_def, iK_def, sK_def, aK_def, rvK_def, tK_def]; exact run_xApp
theorem rn_xPop : (xPop i e).rn P E = oK (ownL i e) fun ds => oK ds[ds.length - 1]? fun d => P ⟨d, false⟩ (e.set i (.ow true (.list ds.dropLast))) := by simp only [rn_run, oK_def, vK_def, bK_def, iK_def, sK_def, aK_def, rvK_def, tK_def]; exact run_xPop
theorem rn_pAt : (pAt go e).rn PI E = (go e).rn (fun d e1 => oK (match d with | .int i => some i | _ => none) fun i => PI (some i) e1) E := by simp only [rn_run, oK_def, vK_def, bK_def, iK_def, sK_def, aK_def, rvK_def, tK_def]; exact run_pAt
theorem rn_pNo : (pNo e).rn PI E = PI none e := by simp only [rn_run, oK_def, vK_def, bK_def, iK_def, sK_def, aK_def, rvK_def, tK_def]; exact run_pNo
theorem rn_pAt' : (pAt go e).rn PI E = (go e).rn (fun d e1 => oK (dI d) fun i => PI (some i) e1) E := by simp only [rn_run, oK_def, vK_def, bK_def, iK_def, sK_def, aK_def, rvK_def, tK_def]; exact run_pAt'
theorem rn_xSlc_ex {pf pg : En → Res (Option Int)} : (xSlc (.ex f) pf pg e).rn P E = (f e).rn (fun r e1 => (pf e1).rn (fun a e2 => (pg e2).rn (fun b e3 => oK (fSl r.d a b) fun z => P z e3) E) E) E := by simp only [rn_run, oK_def, vK_def, bK_def, iK_def, sK_def, aK_def, rvK_def, tK_def]; exact run_xSlc_ex
theorem rn_xSlc_br {pf pg : En → Res (Option Int)} : (xSlc (.br i) pf pg e).rn P E = bK e[i]? fun _ => (pf e).rn (fun a e2 => (pg e2).rn (fun b e3 => bK e3[i]? fun x => oK (fSl x a b) fun z => P z e3) E) E := by simp only [rn_run, oK_def, vK_def, bK_def, iK_def, sK_def, aK_def, rvK_def, tK_def]; exact run_xSlc_br
theorem rn_xChn {F G : D → D → Option Rs} {ho : En → Res D} : (xChn F G f g ho e).rn P E = (f e).rn (fun x e1 => (g e1).rn (fun y e2 => oK (F x.d y.d) fun z => aK (z.fr = false) (oK (dB z.d) fun b => iK b ((ho e2).rn (fun w e3 => oK (G y.d w) fun r => P r e3) E) (P ⟨.bool false, false⟩ e2))) E) E := by simp only [rn_run, oK_def, vK_def, bK_def, iK_def, sK_def, aK_def, rvK_def, tK_def]; exact run_xChn
end
section
variable {α : Type} {gg : Rs → En → Option En} {tt : En → Res Bool} {te : XF} {b : SF} {vs : List Nat} {e : En} {E : Exn → Prop} {P : Rs → En → Prop} {PF : Fl → En → Prop} {Q : List D → En → Prop} {n : Nat}
theorem lc_pure (us : List α) (u v : α → D) (p : α → Bool) (hl : us.length ≤ most)
    (hb : ∀ a ∈ us, oK (gg ⟨u a, false⟩ (wipeE e vs)) fun e1 => (tt e1).rn (fun b e2 => b = p a ∧ iK (p a) ((te e2).rn (fun r e3 => r.d = v a ∧ wipeE e3 vs = wipeE e vs) fun _ => False) (wipeE e2 vs = wipeE e vs)) fun _ => False)
    (hP : P ⟨.list ((us.filter p).map v), true⟩ e) : (lcLoop gg tt te vs (us.map u) [] e).rn (lcR vs e P) E := by
  simp only [rn_run, oK_def, vK_def, bK_def, iK_def, sK_def, aK_def, rvK_def, tK_def] at *
  exact lc_pure0 us u v p hl hb hP
theorem lc_map1 (us : List α) (u v : α → D) (hl : us.length ≤ most)
    (hb : ∀ a ∈ us, oK (gg ⟨u a, false⟩ (wipeE e vs)) fun e1 => (tt e1).rn (fun b e2 => b = true ∧ iK true ((te e2).rn (fun r e3 => r.d = v a ∧ wipeE e3 vs = wipeE e vs) fun _ => False) (wipeE e2 vs = wipeE e vs)) fun _ => False)
    (hP : P ⟨.list (us.map v), true⟩ e) : (lcLoop gg tt te vs (us.map u) [] e).rn (lcR vs e P) E := by
  simp only [rn_run, oK_def, vK_def, bK_def, iK_def, sK_def, aK_def, rvK_def, tK_def] at *
  exact lc_map10 us u v hl hb hP
theorem lc_rg (v : Nat → D) (p : Nat → Bool) (hl : n ≤ most)
    (hb : ∀ i, i < n → oK (gg ⟨.int (i : Nat), false⟩ (wipeE e vs)) fun e1 => (tt e1).rn (fun b e2 => b = p i ∧ iK (p i) ((te e2).rn (fun r e3 => r.d = v i ∧ wipeE e3 vs = wipeE e vs) fun _ => False) (wipeE e2 vs = wipeE e vs)) fun _ => False)
    (hP : P ⟨.list (((List.range n).filter p).map v), true⟩ e) : (lcLoop gg tt te vs (rgN n) [] e).rn (lcR vs e P) E := by
  simp only [rn_run, oK_def, vK_def, bK_def, iK_def, sK_def, aK_def, rvK_def, tK_def] at *
  exact lc_rg0 v p hl hb hP
theorem lc_rg1 (v : Nat → D) (hl : n ≤ most)
    (hb : ∀ i, i < n → oK (gg ⟨.int (i : Nat), false⟩ (wipeE e vs)) fun e1 => (tt e1).rn (fun b e2 => b = true ∧ iK true ((te e2).rn (fun r e3 => r.d = v i ∧ wipeE e3 vs = wipeE e vs) fun _ => False) (wipeE e2 vs = wipeE e vs)) fun _ => False)
    (hP : P ⟨.list ((List.range n).map v), true⟩ e) : (lcLoop gg tt te vs (rgN n) [] e).rn (lcR vs e P) E := by
  simp only [rn_run, oK_def, vK_def, bK_def, iK_def, sK_def, aK_def, rvK_def, tK_def] at *
  exact lc_rg10 v hl hb hP
theorem lcI (us : List α) (u : α → D) (I : List α → List D → En → Prop) (h0 : I [] [] e) (hl : us.length ≤ most)
    (hs : ∀ pre a post, us = pre ++ a :: post → ∀ acc e, I pre acc e → oK (gg ⟨u a, false⟩ (wipeE e vs)) fun e1 => (tt e1).rn (fun b e2 => iK b ((te e2).rn (fun r e3 => I (pre ++ [a]) (acc ++ [r.d]) e3) fun _ => False) (I (pre ++ [a]) acc e2)) fun _ => False)
    (hP : ∀ acc e, I us acc e → Q acc e) : (lcLoop gg tt te vs (us.map u) [] e).rn Q E := by
  simp only [rn_run, oK_def, vK_def, bK_def, iK_def, sK_def, aK_def, rvK_def, tK_def] at *
  exact lcI0 us u I h0 hl hs hP
theorem lc_rgI (I : Nat → List D → En → Prop) (h0 : I 0 [] e) (hl : n ≤ most)
    (hs : ∀ i, i < n → ∀ acc e, I i acc e → oK (gg ⟨.int (i : Nat), false⟩ (wipeE e vs)) fun e1 => (tt e1).rn (fun b e2 => iK b ((te e2).rn (fun r e3 => I (i + 1) (acc ++ [r.d]) e3) fun _ => False) (I (i + 1) acc e2)) fun _ => False)
    (hP : ∀ acc e, I n acc e → Q acc e) : (lcLoop gg tt te vs (rgN n) [] e).rn Q E := by
  simp only [rn_run, oK_def, vK_def, bK_def, iK_def, sK_def, aK_def, rvK_def, tK_def] at *
  exact lc_rgI0 I h0 hl hs hP
theorem forL (us : List α) (u : α → D) (I : List α → En → Prop) (h0 : I [] e)
    (hs : ∀ pre a post, us = pre ++ a :: post → ∀ e, I pre e → oK (gg ⟨u a, false⟩ e) fun e1 => (b e1).rn (fun fl e2 => tK fl (I (pre ++ [a]) e2) (PF fl e2)) E)
    (hP : ∀ e, I us e → PF .nx e) : (floop gg b (us.map u) e).rn PF E := by
  simp only [rn_run, oK_def, vK_def, bK_def, iK_def, sK_def, aK_def, rvK_def, tK_def] at *
  exact forL0 us u I h0 hs hP
theorem forN (I : Nat → En → Prop) (h0 : I 0 e)
    (hs : ∀ i, i < n → ∀ e, I i e → oK (gg ⟨.int (i : Nat), false⟩ e) fun e1 => (b e1).rn (fun fl e2 => tK fl (I (i + 1) e2) (PF fl e2)) E)
    (hP : ∀ e, I n e → PF .nx e) : (floop gg b (rgN n) e).rn PF E := by
  simp only [rn_run, oK_def, vK_def, bK_def, iK_def, sK_def, aK_def, rvK_def, tK_def] at *
  exact forN0 I h0 hs hP
theorem while_run {c : En → Res Bool} (I : Nat → En → Prop) (m : Nat) (hm : m < big) (h0 : I m e)
    (hs : ∀ k e, I k e → (c e).rn (fun t e1 => iK t ((b e1).rn (fun fl e2 => tK fl (∃ k', k' < k ∧ I k' e2) (PF fl e2)) E) (PF .nx e1)) E) : (sWhile c b e).rn PF E := by
  simp only [rn_run, oK_def, vK_def, bK_def, iK_def, sK_def, aK_def, rvK_def, tK_def] at *
  exact while_run0 I m hm h0 hs
end
section
variable {x : Sl} {φ : XF} {ds : List D} {Q : Rs → Prop} {i n : Nat} {g : En → Res (List D)} {e : En} {P : Rs → En → Prop} {E : Exn → Prop}
theorem xD_run (h : DSp φ ds Q) (dx : DSl x) (he : e[i]? = some x) (hg : g e = .ok ds e) (hn : ds.length = n) (hk : ∀ r x', DSl x' → Q r → P r (e.set i x')) : (xCallD i n φ g e).rn P E := by
  simp only [rn_run, oK_def, vK_def, bK_def, iK_def, sK_def, aK_def, rvK_def, tK_def] at *
  exact xD_run0 h dx he hg hn hk
theorem lc_draw {vs : List Nat} {k m : Nat} {α : Type} (us : List α) (u : α → D) (hl : us.length ≤ most) (h : DSp φ ds Q) (dx : DSl x) (he : e[i]? = some x) (hvs : vs = [k]) (hk : k < e.length) (hki : k ≠ i) (hn : ds.length = n)
    (hg : ∀ a x', g (((e.set i x').set k .un).set k (.sh (u a))) = .ok ds (((e.set i x').set k .un).set k (.sh (u a))))
    (hP : ∀ (rs : List Rs) x', DSl x' → rs.length = us.length → (∀ r ∈ rs, Q r) → P ⟨.list (rs.map (·.d)), true⟩ (e.set i x')) :
    (lcLoop (gV k) tTrue (xCallD i n φ g) vs (us.map u) [] e).rn (lcR vs e P) E := by
  simp only [rn_run, oK_def, vK_def, bK_def, iK_def, sK_def, aK_def, rvK_def, tK_def] at *
  exact lc_draw0  (m := 0) us u hl h dx he hvs hk hki hn hg hP
theorem lc_drawN {vs : List Nat} {k m : Nat} (hl : m ≤ most) (h : DSp φ ds Q) (dx : DSl x) (he : e[i]? = some x) (hvs : vs = [k]) (hk : k < e.length) (hki : k ≠ i) (hn : ds.length = n)
    (hg : ∀ (a : Nat) x', g (((e.set i x').set k .un).set k (.sh (.int (a : Nat)))) = .ok ds (((e.set i x').set k .un).set k (.sh (.int (a : Nat)))))
    (hP : ∀ (rs : List Rs) x', DSl x' → rs.length = m → (∀ r ∈ rs, Q r) → P ⟨.list (rs.map (·.d)), true⟩ (e.set i x')) :
    (lcLoop (gV k) tTrue (xCallD i n φ g) vs (rgN m) [] e).rn (lcR vs e P) E := by
  simp only [rn_run, oK_def, vK_def, bK_def, iK_def, sK_def, aK_def, rvK_def, tK_def] at *
  exact lc_drawN0 hl h dx he hvs hk hki hn hg hP
end
section
variable {φ : XF} {ds : List D} {Q : Rs → Prop} {e0 eb : En} {ps : List Bool} {s x : Sl}
theorem dsp_of (h : ∀ x, DSl x → (φ (x :: ds.map .sh)).rn (fun r e => ∃ x' rest, e = x' :: rest ∧ DSl x' ∧ Q r) fun _ => False) : DSp φ ds Q := fun x dx => by
  obtain ⟨r, e, h1, x', rest, rfl, dx', q⟩ := rn_ex' (h x dx)
  exact ⟨r, x', rest, h1, dx', q⟩
theorem backP_ds (dx : DSl x) : backP (true :: ps) (s :: e0) (x :: eb) = (backP ps e0 eb).map (x :: ·) := by
  obtain ⟨cs, a, c, s, _, rfl⟩ := dx
  rfl
theorem rowD_sum {N : Nat} {r : Nat → Nat} : fSum (rowD N r) = some ⟨.int (((List.range N).map r).sum : Nat), false⟩ := fSum_n _ _
theorem sum_le {N k : Nat} {r : Nat → Nat} (h : ∀ x, x < N → r x ≤ k) : ((List.range N).map r).sum ≤ N * k := by
  induction N with
  | zero => simp
  | succ N ih =>
    have h1 := ih fun x hx => h x (by omega)
    have h2 := h N (by omega)
    rw [List.range_succ, List.map_append, List.sum_append, Nat.succ_mul]
    simp
    omega
theorem fSum_f {α : Type} (us : List α) (p : α → Bool) (g : α → Nat) : fSum (.list ((us.filter p).map fun a => .int (g a : Nat))) = some ⟨.int (((us.filter p).map g).sum : Nat), false⟩ := fSum_n _ _
theorem sum_filter_le {N k : Nat} {p : Nat → Bool} {r : Nat → Nat} (h : ∀ x, x < N → r x ≤ k) : (((List.range N).filter p).map r).sum ≤ N * k := by
  induction N with
  | zero => simp
  | succ N ih =>
    have h1 := ih fun x hx => h x (by omega)
    have h2 := h N (by omega)
    rw [List.range_succ, List.filter_append, List.map_append, List.sum_append, Nat.succ_mul]
    cases hp : p N <;> simp [hp] <;> omega
theorem itemsD_rowD {N : Nat} {r : Nat → Nat} : itemsD (rowD N r) = some ((List.range N).map fun (x : Nat) => .int (r x : Nat)) := rfl
theorem fDiv_2 {a : Nat} : fDiv (.int (a : Nat)) (.int 2) = some ⟨.int ((a / 2 : Nat) : Int), false⟩ := fDiv_n (b := 2) (by decide) (by decide)
theorem fMul_s {a b : Nat} (ha : a ≤ 100000) (hb : b ≤ 100000) : fMul (.int (a : Nat)) (.int (b : Nat)) = some ⟨.int ((a * b : Nat) : Int), false⟩ := fMul_n (lt64 ha) (lt64 hb)
theorem fMul_2 {a : Nat} (ha : a ≤ 100000) : fMul (.int (a : Nat)) (.int 2) = some ⟨.int ((a * 2 : Nat) : Int), false⟩ := fMul_s ha (b := 2) (by decide)
theorem fMul_2l {a : Nat} (ha : a ≤ 100000) : fMul (.int 2) (.int (a : Nat)) = some ⟨.int ((2 * a : Nat) : Int), false⟩ := fMul_s (a := 2) (by decide) ha
theorem most_2 : (2 ≤ most) = True := eq_true (by decide)
theorem rg1_2 : rg1 [.int 2] = some (rgN 2) := rg1_s (n := 2) (by decide)
theorem rg1_3 : rg1 [.int 3] = some (rgN 3) := rg1_s (n := 3) (by decide)
theorem rg1_4 : rg1 [.int 4] = some (rgN 4) := rg1_s (n := 4) (by decide)
theorem rg1_5 : rg1 [.int 5] = some (rgN 5) := rg1_s (n := 5) (by decide)
theorem rg1_8 : rg1 [.int 8] = some (rgN 8) := rg1_s (n := 8) (by decide)
theorem most_lit {n : Nat} (h : n ≤ 100000) : (n ≤ most) = True := eq_true (most_s h)
theorem most_lit2 {n : Nat} (h : n ≤ 100000) : (n < most) = True := eq_true (Nat.lt_of_le_of_lt h (by decide))
theorem bool_int {b : Bool} : (if b = true then (1 : Int) else 0) = ((b.toNat : Nat) : Int) := by cases b <;> rfl
end
section
variable {sg sf : SF} {e : En} {PF : Fl → En → Prop} {E : Exn → Prop}
theorem rn_q_asg {f : XF} {gg : Rs → En → Option En} : (sSeq (sAsg f gg) sg e).rn PF E = ((sAsg f gg) e).rn (fun fl e1 => sK fl ((sg e1).rn PF E) fun fl => PF fl e1) E := rn_sSeq
theorem rn_q_for {it : En → Res (List D)} {gg : Rs → En → Option En} {sf : SF} : (sSeq (sFor it gg sf) sg e).rn PF E = ((sFor it gg sf) e).rn (fun fl e1 => sK fl ((sg e1).rn PF E) fun fl => PF fl e1) E := rn_sSeq
theorem rn_q_forN {i : Nat} {gg : Rs → En → Option En} {sf : SF} : (sSeq (sForN i gg sf) sg e).rn PF E = ((sForN i gg sf) e).rn (fun fl e1 => sK fl ((sg e1).rn PF E) fun fl => PF fl e1) E := rn_sSeq
theorem rn_q_forL {i : Nat} {it : En → Res (List D)} {gg : Rs → En → Option En} {sf : SF} : (sSeq (sForL i it gg sf) sg e).rn PF E = ((sForL i it gg sf) e).rn (fun fl e1 => sK fl ((sg e1).rn PF E) fun fl => PF fl e1) E := rn_sSeq
theorem rn_q_while {c : En → Res Bool} {sf : SF} : (sSeq (sWhile c sf) sg e).rn PF E = ((sWhile c sf) e).rn (fun fl e1 => sK fl ((sg e1).rn PF E) fun fl => PF fl e1) E := rn_sSeq
theorem rn_q_expr {f : XF} : (sSeq (sExpr f) sg e).rn PF E = ((sExpr f) e).rn (fun fl e1 => sK fl ((sg e1).rn PF E) fun fl => PF fl e1) E := rn_sSeq
theorem rn_q_aug {F : D → D → Option Rs} {i : Nat} {go : En → Res D} : (sSeq (sAug F i go) sg e).rn PF E = ((sAug F i go) e).rn (fun fl e1 => sK fl ((sg e1).rn PF E) fun fl => PF fl e1) E := rn_sSeq
theorem rn_q_par {i j : Nat} {f g : XF} : (sSeq (sPar i j f g) sg e).rn PF E = ((sPar i j f g) e).rn (fun fl e1 => sK fl ((sg e1).rn PF E) fun fl => PF fl e1) E := rn_sSeq
theorem rn_q_setI {i : Nat} {f g : XF} : (sSeq (sSetI i f g) sg e).rn PF E = ((sSetI i f g) e).rn (fun fl e1 => sK fl ((sg e1).rn PF E) fun fl => PF fl e1) E := rn_sSeq
theorem rn_q_dpt {i : Nat} {f : XF} {go : En → Res D} : (sSeq (sDPt i f go) sg e).rn PF E = ((sDPt i f go) e).rn (fun fl e1 => sK fl ((sg e1).rn PF E) fun fl => PF fl e1) E := rn_sSeq
theorem rn_q_try {sf : SF} {hs : Hs} : (sSeq (sTry sf hs) sg e).rn PF E = ((sTry sf hs) e).rn (fun fl e1 => sK fl ((sg e1).rn PF E) fun fl => PF fl e1) E := rn_sSeq
theorem rn_q_nil  : (sSeq (sNil) sg e).rn PF E = ((sNil) e).rn (fun fl e1 => sK fl ((sg e1).rn PF E) fun fl => PF fl e1) E := rn_sSeq
theorem rn_q_seq {sf sh : SF} : (sSeq (sSeq sf sh) sg e).rn PF E = ((sSeq sf sh) e).rn (fun fl e1 => sK fl ((sg e1).rn PF E) fun fl => PF fl e1) E := rn_sSeq
theorem rn_q_ret {f : XF} : (sSeq (sRet f) sg e).rn PF E = ((sRet f) e).rn (fun fl e1 => sK fl ((sg e1).rn PF E) fun fl => PF fl e1) E := rn_sSeq
/-- the statements ahead leave Mid -/
theorem seq_mid (Mid : En → Prop) (h1 : (sf e).rn (fun fl e1 => sK fl (Mid e1) fun _ => False) E) (h2 : ∀ e1, Mid e1 → (sg e1).rn PF E) : (sSeq sf sg e).rn PF E := by
  rw [rn_sSeq]
  refine rn_mono h1 (fun fl e1 q => ?_) fun _ z => z
  cases fl with
  | nx => exact h2 e1 q
  | ct => exact q.elim
  | rt r => exact q.elim
/-- .. or leave early -/
theorem seq_midR (Mid : En → Prop) (h1 : (sf e).rn (fun fl e1 => sK fl (Mid e1) fun fl => PF fl e1) E) (h2 : ∀ e1, Mid e1 → (sg e1).rn PF E) : (sSeq sf sg e).rn PF E := by
  rw [rn_sSeq]
  refine rn_mono h1 (fun fl e1 q => ?_) fun _ z => z
  cases fl with
  | nx => exact h2 e1 q
  | ct => exact q
  | rt r => exact q
end
end G
end L2
namespace L2
namespace G
open PySem PySem.Spec PyProof.Rows
/-! ### in: also nested data in a list -/
section
variable {X : Cx} {C : Ct}
def rInE (K : PySem.W.Frag) (neg : Bool) : R2 := fun x y H Q => ∃ d ds, Dp K H x d ∧ Dp K H y (.list ds) ∧ SeqAt.shaped d = true ∧ SeqAt.shaped (.list ds) = true ∧ Q (.bl (if neg then !ds.any (fun z => PyData.eqv z d) else ds.any fun z => PyData.eqv z d)) H
def fInE (neg : Bool) : D → D → Option Rs := fun x y => match y with
  | .list ds => if SeqAt.shaped x && SeqAt.shaped (.list ds) then sb (if neg then !inD x ds else inD x ds) else none
  | _ => none
theorem ok_inE {neg : Bool} : OpOk C (fInE neg) (rInE C.K neg) := by
  intro Bx σ H e0 d1 d2 v1 v2 z Q hz s o1 o2 q
  cases d2 <;> try (cases hz; done)
  simp only [fInE] at hz
  split at hz
  · rename_i h
    cases hz
    simp only [Bool.and_eq_true] at h
    exact ⟨d1, _, o1.rdd.dp (SeqAt.canLay_of_shaped h.1), o2.rdd.dp (SeqAt.canLay_of_shaped h.2), h.1, h.2, q _ _ (post_b s)⟩
  · cases hz
theorem op_inE (hu : X.A.units + 65 < cLine) : OpR X (compareOp .In) (rInE X.K false) := fun pins s σ H x y v u Q I rx ry ⟨d, ds, h1, h2, h3, h4, q⟩ => op_inD hu pins s σ H x y v u Q I rx ry ⟨d, ds, h1, h2, h3, h4, q⟩
theorem op_notInE (hu : X.A.units + 65 < cLine) : OpR X (compareOp .NotIn) (rInE X.K true) := fun pins s σ H x y v u Q I rx ry ⟨d, ds, h1, h2, h3, h4, q⟩ => op_notInD hu pins s σ H x y v u Q I rx ry ⟨d, ds, h1, h2, h3, h4, q⟩
def fInB (neg : Bool) : D → D → Option Rs := fun x y => match fInA neg x y with | some z => some z | none => fInE neg x y
abbrev rInAB (K : PySem.W.Frag) (neg : Bool) : R2 := fun x y H Q => rInAll K neg x y H Q ∨ rInE K neg x y H Q
theorem op_inB (h1 : X.A.units + 1 < cLine) (h2 : X.A.units + 65 < cLine) : OpR X (compareOp .In) (rInAB X.K false) := (op_inAll h1).or (op_inE h2)
theorem op_notInB (h1 : X.A.units + 1 < cLine) (h2 : X.A.units + 65 < cLine) : OpR X (compareOp .NotIn) (rInAB X.K true) := (op_notInAll h1).or (op_notInE h2)
theorem ok_inB {neg : Bool} : OpOk C (fInB neg) (rInAB C.K neg) := ok_inAll.or ok_inE
end
section
variable {i : Nat} {e : En} {PA : List D → En → Prop} {E : Exn → Prop} {ds : List D}
def emK (s : Option Sl) (i : Nat) (e : En) (PA : List D → En → Prop) (u : Du PA := ⟨⟩) (w : Du e := ⟨⟩) : Prop := match s with
  | some (.sh (.list ds)) => PA (enumD ds) e
  | some (.sh (.tuple ds)) => PA (enumD ds) e
  | some (.ow true (.list ds)) => PA (enumD ds) (lockE e i)
  | _ => False
theorem emK_sl : emK (some (.sh (.list ds))) i e PA = PA (enumD ds) e := rfl
theorem emK_st : emK (some (.sh (.tuple ds))) i e PA = PA (enumD ds) e := rfl
theorem emK_ow : emK (some (.ow true (.list ds))) i e PA = PA (enumD ds) (lockE e i) := rfl
theorem rn_iEmA (h : emK e[i]? i e PA) : (iEmA i e).rn PA E := by
  rw [rn_run]
  unfold emK at h
  unfold iEmA tupS iEnT iEm
  cases z : e[i]? with
  | none => rw [z] at h; exact h.elim
  | some s =>
    rw [z] at h
    rcases s with _ | d | ⟨_ | _, d⟩
    · exact h.elim
    · cases d with
      | list ds =>
        have e2 : lockE e i = e := by unfold lockE; rw [z]
        simp only [Bool.false_eq_true, if_false, xB, z, bind_ok, e2]
        exact h
      | tuple ds =>
        simp only [if_true, xV, z, bind_ok]
        exact h
      | _ => exact h.elim
    · exact h.elim
    · cases d with
      | list ds =>
        simp only [Bool.false_eq_true, if_false, xB, z, bind_ok]
        exact h
      | _ => exact h.elim
    · exact h.elim
theorem enumD_rg {N : Nat} {u : Nat → D} : enumD ((List.range N).map u) = (List.range N).map fun (x : Nat) => .tuple [.int (x : Nat), u x] := by
  unfold enumD
  rw [List.zipIdx_map, List.map_map]
  apply List.ext_getElem
  · simp
  · intro j h1 h2
    simp
theorem emK_rowD {N : Nat} {r : Nat → Nat} : emK (some (.sh (rowD N r))) i e PA = PA ((List.range N).map fun (x : Nat) => .tuple [.int (x : Nat), .int (r x : Nat)]) e := by
  show PA (enumD _) e = _
  rw [enumD_rg]
end
theorem truD_bool {b : Bool} : truD (.bool b) = some b := rfl
/-! lists of naturals -/
def LN (L : List Nat) : D := .list (L.map fun (x : Nat) => .int (x : Nat))
theorem LN_row (L : List Nat) : LN L = rowD L.length fun k => L.getD k 0 := by
  unfold LN rowD
  rw [map_getD L 0]
theorem rowD_LN {N : Nat} {r : Nat → Nat} : rowD N r = LN ((List.range N).map r) := by
  unfold LN rowD
  rw [List.map_map]; rfl
theorem eqv_ints : ∀ (xs ys : List Nat), PyData.eqvAll (xs.map fun (x : Nat) => .int (x : Nat)) (ys.map fun (x : Nat) => .int (x : Nat)) = decide (xs = ys)
  | [], [] => by simp [PyData.eqvAll]
  | [], y :: ys => by simp [PyData.eqvAll]
  | x :: xs, [] => by simp [PyData.eqvAll]
  | x :: xs, y :: ys => by
    have ih := eqv_ints xs ys
    rw [List.map_cons, List.map_cons, PyData.eqvAll, ih]
    by_cases h : x = y
    · subst h; simp [PyData.eqv]
    · have : ((x : Int) == (y : Int)) = false := beq_eq_false_iff_ne.mpr (by omega)
      rw [PyData.eqv, this]; simp [h]
theorem LN_ok (L : List Nat) : SeqAt.shaped (LN L) = true := by
  refine LD.okD (m := 1) ((LD_tup (m := 0) fun d hd => ?_).2) (by decide)
  obtain ⟨x, _, rfl⟩ := List.mem_map.mp hd
  exact LD_int _
theorem fEq_LN (xs ys : List Nat) : fEq (LN xs) (LN ys) = some ⟨.bool (decide (xs = ys)), false⟩ := by
  unfold fEq
  rw [LN_ok, LN_ok]
  simp only [Bool.and_self, if_true]
  show sb (PyData.eqvAll _ _) = _
  rw [eqv_ints]
theorem fNe_LN (xs ys : List Nat) : fNe (LN xs) (LN ys) = some ⟨.bool (decide (xs ≠ ys)), false⟩ := by
  unfold fNe
  rw [LN_ok, LN_ok]
  simp only [Bool.and_self, if_true]
  show sb (!PyData.eqvAll _ _) = _
  rw [eqv_ints]; simp
theorem fLen_LN (L : List Nat) : fLen (LN L) = some ⟨.int (L.length : Nat), false⟩ := by
  unfold LN; rw [fLen_list]; simp
theorem ixLN {L : List Nat} {k : Nat} (h : k < L.length) : fIxA (LN L) (.int (k : Nat)) = some ⟨.int (L.getD k 0 : Nat), false⟩ := by
  rw [LN_row]; exact rowD_ix h
theorem itemsD_LN {L : List Nat} : itemsD (LN L) = some (L.map fun (x : Nat) => .int (x : Nat)) := rfl
theorem fSum_LN {L : List Nat} : fSum (LN L) = some ⟨.int (L.sum : Nat), false⟩ := by
  unfold LN
  rw [fSum_n]; simp
theorem flat_LN (L : List Nat) : (L.map fun (x : Nat) => PyData.int (x : Nat)).all flatD = true := by
  induction L with
  | nil => rfl
  | cons a L ih => simp [flatD, ih]
theorem inD_LN (L : List Nat) (x : Nat) : inD (.int (x : Nat)) (L.map fun (x : Nat) => .int (x : Nat)) = decide (x ∈ L) := by
  induction L with
  | nil => rfl
  | cons a L ih =>
    unfold inD at ih ⊢
    rw [List.map_cons, List.any_cons, ih]
    by_cases h : a = x
    · subst h; simp [PyData.eqv]
    · have h2 : ((a : Int) == (x : Int)) = false := beq_eq_false_iff_ne.mpr (by omega)
      have h3 : ¬ x = a := fun z => h z.symm
      rw [PyData.eqv, h2]; simp [h3]
theorem fInA_LN {L : List Nat} {x : Nat} {neg : Bool} : fInA neg (.int (x : Nat)) (LN L) = some ⟨.bool (if neg then !decide (x ∈ L) else decide (x ∈ L)), false⟩ := by
  unfold fInA fIn LN
  simp only [flat_LN, inD_LN, flatD, Bool.and_self, if_true]
theorem fInB_LN {L : List Nat} {x : Nat} {neg : Bool} : fInB neg (.int (x : Nat)) (LN L) = some ⟨.bool (if neg then !decide (x ∈ L) else decide (x ∈ L)), false⟩ := by
  unfold fInB
  rw [fInA_LN]
theorem lampD_ok {n t : Nat} : SeqAt.shaped (lampD n t) = true := by
  refine LD.okD (m := 1) ((LD_tup (m := 0) fun d hd => ?_).1) (by decide)
  simp at hd
  rcases hd with rfl | rfl <;> exact LD_int _
theorem eqv_lampD {n t m s : Nat} : PyData.eqv (lampD n t) (lampD m s) = (decide (n = m) && decide (t = s)) := by
  show PyData.eqvAll _ _ = _
  have := eqv_ints [n, t] [m, s]
  simp only [List.map_cons, List.map_nil] at this
  rw [this]
  by_cases h1 : n = m <;> by_cases h2 : t = s <;> simp [h1, h2]
theorem fEq_lampD {n t m s : Nat} : fEq (lampD n t) (lampD m s) = some ⟨.bool (decide (n = m) && decide (t = s)), false⟩ := by
  unfold fEq; rw [lampD_ok, lampD_ok, eqv_lampD]; rfl
theorem fNe_lampD {n t m s : Nat} : fNe (lampD n t) (lampD m s) = some ⟨.bool (!(decide (n = m) && decide (t = s))), false⟩ := by
  unfold fNe; rw [lampD_ok, lampD_ok, eqv_lampD]; rfl
theorem ix_lamp0 {n t : Nat} : fIxA (lampD n t) (.int 0) = some ⟨.int (n : Nat), false⟩ := ixT0
theorem ix_lamp1 {n t : Nat} : fIxA (lampD n t) (.int 1) = some ⟨.int (t : Nat), false⟩ := ixT1
theorem oK_lamp {n t m : Nat} {gs : List D → En → Option En} {e : En} {k : En → Prop} {fr : Bool} : oK (gTp m gs ⟨lampD n t, fr⟩ e) k = aK (2 = m) (oK (gs [.int (n : Nat), .int (t : Nat)] e) k) := oK_gTp'
theorem fAnd_1 {a : Nat} : fAnd (.int (a : Nat)) (.int 1) = some ⟨.int ((a % 2 : Nat) : Int), false⟩ := by
  have := fAnd_n (a := a) (b := 1)
  rwa [Nat.and_one_is_mod] at this
theorem dec_eq1 {a : Nat} : decide ((a : Int) = 1) = decide (a = 1) := dec_eqN (b := 1)
theorem dec_eq0 {a : Nat} : decide ((a : Int) = 0) = decide (a = 0) := dec_eqN (b := 0)
theorem dec_ne0 {a : Nat} : decide ((a : Int) ≠ 0) = decide (a ≠ 0) := dec_neN (b := 0)
theorem dec_ne1 {a : Nat} : decide ((a : Int) ≠ 1) = decide (a ≠ 1) := dec_neN (b := 1)
theorem dec_lt0 {a : Nat} : decide ((0 : Int) < a) = decide (0 < a) := dec_ltN (a := 0)
theorem rowD_own {N : Nat} {r : Nat → Nat} : owK (some (.ow true (rowD N r))) = some ((List.range N).map fun (x : Nat) => .int (r x : Nat)) := rfl
theorem rowD_app {N : Nat} {r : Nat → Nat} : rowD (N + 1) r = .list (((List.range N).map fun (x : Nat) => .int (r x : Nat)) ++ [.int (r N : Nat)]) := by
  unfold rowD
  rw [List.range_succ, List.map_append]; rfl
section
variable {gg : Rs → En → Option En} {b : SF} {d : D} {ds : List D} {e : En} {PF : Fl → En → Prop} {E : Exn → Prop}
theorem rn_floop_nil : (floop gg b [] e).rn PF E = PF .nx e := rn_run
theorem rn_floop_cons : (floop gg b (d :: ds) e).rn PF E = oK (gg ⟨d, false⟩ e) fun e1 => (b e1).rn (fun fl e2 => tK fl ((floop gg b ds e2).rn PF E) (PF fl e2)) E := by
  simp only [rn_run, oK_def, tK_def]
  conv => lhs; rw [floop]
  cases gg ⟨d, false⟩ e with
  | none => rfl
  | some e1 =>
    show ((b e1).bind _).run PF E = (b e1).run _ E
    rw [run_bind]
    congr 1; funext fl e2
    cases fl <;> rfl
end
theorem inD_LNi (L : List Nat) (x : Int) : inD (.int x) (L.map fun (x : Nat) => .int (x : Nat)) = L.any fun y => decide ((y : Int) = x) := by
  induction L with
  | nil => rfl
  | cons a L ih =>
    unfold inD at ih ⊢
    rw [List.map_cons, List.any_cons, ih, List.any_cons]
    rw [PyData.eqv]; rfl
theorem fInA_LNi {L : List Nat} {x : Int} {neg : Bool} : fInA neg (.int x) (LN L) = some ⟨.bool (if neg then !(L.any fun y => decide ((y : Int) = x)) else L.any fun y => decide ((y : Int) = x)), false⟩ := by
  unfold fInA fIn LN
  simp only [flat_LN, inD_LNi, flatD, Bool.and_self, if_true]
theorem fInB_LNi {L : List Nat} {x : Int} {neg : Bool} : fInB neg (.int x) (LN L) = some ⟨.bool (if neg then !(L.any fun y => decide ((y : Int) = x)) else L.any fun y => decide ((y : Int) = x)), false⟩ := by
  unfold fInB
  rw [fInA_LNi]
/-! the kinds of data -/
theorem isT_int_none : isT .int (PyData.none) = false := rfl
theorem isT_int_bool {b : Bool} : isT .int (PyData.bool b) = true := rfl
theorem isT_int_int {i : Int} : isT .int (PyData.int i) = true := rfl
theorem isT_int_str {x : Str} : isT .int (PyData.str x) = false := rfl
theorem isT_int_list {ds : List D} : isT .int (PyData.list ds) = false := rfl
theorem isT_int_tuple {ds : List D} : isT .int (PyData.tuple ds) = false := rfl
theorem isT_int_dict {ks : List (D × D)} : isT .int (PyData.dict ks) = false := rfl
theorem isT_bool_none : isT .bool (PyData.none) = false := rfl
theorem isT_bool_bool {b : Bool} : isT .bool (PyData.bool b) = true := rfl
theorem isT_bool_int {i : Int} : isT .bool (PyData.int i) = false := rfl
theorem isT_bool_str {x : Str} : isT .bool (PyData.str x) = false := rfl
theorem isT_bool_list {ds : List D} : isT .bool (PyData.list ds) = false := rfl
theorem isT_bool_tuple {ds : List D} : isT .bool (PyData.tuple ds) = false := rfl
theorem isT_bool_dict {ks : List (D × D)} : isT .bool (PyData.dict ks) = false := rfl
theorem isT_str_none : isT .str (PyData.none) = false := rfl
theorem isT_str_bool {b : Bool} : isT .str (PyData.bool b) = false := rfl
theorem isT_str_int {i : Int} : isT .str (PyData.int i) = false := rfl
theorem isT_str_str {x : Str} : isT .str (PyData.str x) = true := rfl
theorem isT_str_list {ds : List D} : isT .str (PyData.list ds) = false := rfl
theorem isT_str_tuple {ds : List D} : isT .str (PyData.tuple ds) = false := rfl
theorem isT_str_dict {ks : List (D × D)} : isT .str (PyData.dict ks) = false := rfl
theorem isT_list_none : isT .list (PyData.none) = false := rfl
theorem isT_list_bool {b : Bool} : isT .list (PyData.bool b) = false := rfl
theorem isT_list_int {i : Int} : isT .list (PyData.int i) = false := rfl
theorem isT_list_str {x : Str} : isT .list (PyData.str x) = false := rfl
theorem isT_list_list {ds : List D} : isT .list (PyData.list ds) = true := rfl
theorem isT_list_tuple {ds : List D} : isT .list (PyData.tuple ds) = false := rfl
theorem isT_list_dict {ks : List (D × D)} : isT .list (PyData.dict ks) = false := rfl
theorem isT_tuple_none : isT .tuple (PyData.none) = false := rfl
theorem isT_tuple_bool {b : Bool} : isT .tuple (PyData.bool b) = false := rfl
theorem isT_tuple_int {i : Int} : isT .tuple (PyData.int i) = false := rfl
theorem isT_tuple_str {x : Str} : isT .tuple (PyData.str x) = false := rfl
theorem isT_tuple_list {ds : List D} : isT .tuple (PyData.list ds) = false := rfl
theorem isT_tuple_tuple {ds : List D} : isT .tuple (PyData.tuple ds) = true := rfl
theorem isT_tuple_dict {ks : List (D × D)} : isT .tuple (PyData.dict ks) = false := rfl
theorem isT_dict_none : isT .dict (PyData.none) = false := rfl
theorem isT_dict_bool {b : Bool} : isT .dict (PyData.bool b) = false := rfl
theorem isT_dict_int {i : Int} : isT .dict (PyData.int i) = false := rfl
theorem isT_dict_str {x : Str} : isT .dict (PyData.str x) = false := rfl
theorem isT_dict_list {ds : List D} : isT .dict (PyData.list ds) = false := rfl
theorem isT_dict_tuple {ds : List D} : isT .dict (PyData.tuple ds) = false := rfl
theorem isT_dict_dict {ks : List (D × D)} : isT .dict (PyData.dict ks) = true := rfl
theorem cast0 : ((0 : Nat) : Int) = 0 := rfl
theorem castL {n : Nat} : ((no_index (OfNat.ofNat n) : Nat) : Int) = OfNat.ofNat n := rfl
theorem cast1 : ((1 : Nat) : Int) = 1 := rfl
end G
end L2
namespace PySem
namespace OwnX
open PySem.W PySem.Calls PyProof.Rows PySem.HandSPX
/-! ### an own exception: __init__(self, fld): super().__init__(arg); self.fld = fld -/
abbrev iA (fld : Str) (p1 p2 : Pos) : Arguments := { posonlyargs := [], args := [{ arg := "self", annotation := none, pos := p1 }, { arg := fld, annotation := none, pos := p2 }], vararg := none, kwonlyargs := [], kw_defaults := [], kwarg := none, defaults := [] }
abbrev iB (fld : Str) (arg : Expr) (s0 s1 s2 s3 s4 q1 q2 q3 q4 : Pos) : List Stmt :=
  [.Expr (.Call (.Attribute (.Call (.Name "super" s0) [] [] s1) "__init__" s2) [arg] [] s3) s4, .Assign [.Attribute (.Name "self" q1) fld q2] (.Name fld q3) q4]
/-- the argument of the base: the field itself, or "at " + str(field) -/
abbrev argR (fld : Str) (p : Pos) : Expr := .Name fld p
abbrev argN (fld w : Str) (k : Nat) (p1 p2 p3 p4 p5 : Pos) : Expr := .BinOp (.Constant (.str w) k p1) .Add (.Call (.Name "str" p2) [.Name fld p3] [] p4) p5
section
variable {prog : Program} {w : World} {A₀ A : Around} {s : Shared} {base h₀ : Heap} {outer : List Env} {L : Addr} {m mg mb : Str → Option Value} {env : Env} {news : List (Addr × Obj)} {K : Frag}
  {R : Result → Shared → Prop} {E : Value → Shared → Prop} {x C D f cc cda so : Addr} {ox : Obj} {odx : Option Obj}

theorem os_node {bd : List Stmt} {nm : Str} {sc : Scope} {u0 u1 : Pos} {att : Str} {tree : Sem Value} {dat : FuncData} {first : Arg} {cells : Array Value} {path : Str} {tp : Tok} {v1 v2 v3 : Value} {d1 d2 d3 : Option Addr} {l1 l2 l3 : Array (Option Value)} {dC : ClassData} {Q : Value → Shared → Prop}
    (F : Fr h₀ L s.heap m) (X : K.In s.heap) (N : News h₀ L s.heap news) (gl : s.heap.Ns mainGlobals mg) (gm : mg "super" = none) (bl : s.heap.Ns builtinsNs mb) (bm : mb "super" = some (.type "super"))
    (af : K.lookup f = some ⟨v1, d1, .func dat, l1⟩) (ap : (dat.params.posonlyargs ++ dat.params.args).head? = some first) (av : m first.arg = some (.ref x)) (I : InstAt s.heap x ox C odx)
    (ac : K.lookup cda = some ⟨v2, d2, .fields cells, l2⟩) (at2 : cells[2]? = some (.str path tp)) (same : ((prog.main.file : Str) == path) = true)
    (cell : K.lookup cc = some ⟨v3, d3, .cell (some (.ref D)), l3⟩) (aD : clsIn K D = some dC) (sub : mroIn K C (.ref D) = some true)
    (na : (att == ("__class__" : Str)) = false) (n1 : sc.names.lookup ("super" : Str) = some .globalImplicit) (n2 : sc.names.lookup ("__class__" : Str) = some .free) (n3 : sc.names.lookup first.arg = some .local) (n4 : sc.kind = .function)
    (n5 : (prog.main.scope.names.lookup ("super" : Str)).isSome = false)
    (h : ∀ so h', Fr h₀ L h' m → News h₀ L h' ((so, ks_superObj D x C) :: news) → (∀ p ∈ news, p.1 < so) → (∀ b o, s.heap.get? b = some o → h'.get? b = some o) → Q (.ref so) { s with heap := h' }) :
    _root_.PySem.wpAt (model prog w) A (.func bd (ksEnv nm sc L f (.ref cda) cc)) (attributeBase (.Call (.Name "super" u0) [] [] u1) att (ksEnv nm sc L f (.ref cda) cc) tree) Q E s := by
  obtain ⟨hh, g, dr, tk, os⟩ := s
  have there : ∃ oD, hh.get? D = some oD ∧ oD.data = .cls dC := by
    unfold clsIn at aD
    split at aD
    · cases aD
      exact ⟨_, X _ _ (by assumption), rfl⟩
    · cases aD
  obtain ⟨oD, k1, k2⟩ := there
  have plain : ∀ c, ox.data ≠ .cls c := fun c z => by
    have y := I.no
    unfold notCls at y
    rw [z] at y
    exact Bool.noConfusion y
  have made := ks_wpAny_call_super (prog := prog) (w := w) (A := A) (E := E) (g := g) (d := dr) (t := tk) (os := os) (Q := Q) k1 k2 I.at_ I.cls plain (looks_mroIn X sub) fun h' y1 y2 =>
    have z := ks_newsPush (s := ⟨hh, g, dr, tk, os⟩) F N rfl y1 y2
    h _ _ z.1 z.2.1 z.2.2 y2
  refine ks_wpAt_super_base (env := ksEnv nm sc L f (.ref cda) cc) n1 n2 na rfl (X _ _ af) rfl ap rfl (X _ _ ac) rfl at2 same n5 (ks_loadName_global n4 n1 (loadGlobal_builtin (env := ksEnv nm sc L f (.ref cda) cc) gl gm bl bm ⟨rfl, ?_⟩))
  exact wpAny_loadName_free n4 n2 rfl ⟨_, X _ _ cell, rfl⟩ (wpAny_loadName_local n4 n3 F.ns av (ks_wpAny_isType_cls k1 k2 ⟨rfl, made⟩))
/-- what is told of the value given: with num an integer whose text is short -/
def ArgV (num : Bool) (v : Value) : Prop := if num = true then ∃ (i : Int) (t : Tok), v = .int i t ∧ i.natAbs.log2 < 1920 else True
/-- the text and the facts of an own class of exceptions with an own __init__ -/
structure InitF (prog : Program) (K : Frag) (mg : Str → Option Value) (x fld : Str) (num : Bool) (C : Addr) : Prop where
  gC : mg x = some (.ref C)
  q : excInitIn K C [.type "ValueError", .type "Exception", .type "BaseException", .type "object"] "ValueError.__new__" = true
  cls : ∃ cd, clsIn K C = some cd ∧ refsVE cd.mro = true ∧ cd.hasDict = true
  sa : findIn K (.ref C) "__setattr__" = some (some (.builtin "object.__setattr__"))
  ga : findIn K (.ref C) "__getattribute__" = some (some (.builtin "BaseException.__getattribute__"))
  gg : findIn K (.ref C) "__getattr__" = some none
  noN : findIn K (.ref C) fld = some none
  kC : keepIn K (.ref C) = true
  exC : subIn K (.ref C) (.type "BaseException") = some true
  tyC : typeIn K (.ref C) = some (.type "type")
  hdC : hasDictIn K C = true
  sup : ks_superIn K C C "__init__" = some (some (.builtin "ValueError.__init__"))
  vb : subIn K (.ref C) (.type "ValueError") = some true
  opq : nsIn K cStatics "thirdparty.any" = some none
  ms : mg "super" = none
  mst : mg "str" = none
  mroC : mroIn K C (.ref C) = some true
  top : (prog.main.scope.names.lookup ("super" : Str)).isSome = false
  nself : fld ≠ "self"
  ndbg : (fld == ("__debug__" : Str)) = false
  fn : ∃ (fI : Addr) (oc : Value) (od : Option Addr) (doc pm : Value) (an : Option Addr) (cda : Addr) (ct : Value) (osl : Array (Option Value)) (qual : Str) (scope : Scope) (arg : Expr) (p1 p2 s0 s1 s2 s3 s4 q1 q2 q3 q4 : Pos) (cc : Addr)
      (vs : Array Value) (file : Str) (tf : Tok) (ccl cl : Value) (cdd cld : Option Addr) (ccs csl : Array (Option Value)),
    findIn K (.ref C) "__init__" = some (some (.ref fI)) ∧ typeIn K (.ref fI) = some (.type "function") ∧
    K.lookup fI = some ⟨oc, od, .func (ksFn "__init__" qual (iA fld p1 p2) (iB fld arg s0 s1 s2 s3 s4 q1 q2 q3 q4) scope .none .none doc pm an (.ref cda) ct cc), osl⟩ ∧ codeIn K (.ref cda) qual = true ∧
    K.lookup cda = some ⟨ccl, cdd, .fields vs, ccs⟩ ∧ vs[2]? = some (.str file tf) ∧ ((prog.main.file : Str) == file) = true ∧ K.lookup cc = some ⟨cl, cld, .cell (some (.ref C)), csl⟩ ∧
    (s2.endLine == s3.line) = true ∧
    ((num = false ∧ ∃ p, arg = argR fld p) ∨ (num = true ∧ scope.names.lookup ("str" : Str) = some .globalImplicit ∧ ∃ w k p1 p2 p3 p4 p5, arg = argN fld w k p1 p2 p3 p4 p5 ∧ w.length ≤ 1000)) ∧
    scope.names.lookup ("super" : Str) = some .globalImplicit ∧ scope.names.lookup ("__class__" : Str) = some .free ∧ scope.names.lookup ("self" : Str) = some .local ∧ scope.names.lookup fld = some .local ∧ scope.kind = .function ∧
    scope.isCoroutine = false ∧ scope.isGenerator = false ∧ (∀ x ∈ scope.names, x.2 ≠ .cell) ∧
    (∀ (s : Shared) (u v : Value), BindsTo s (ksFn "__init__" qual (iA fld p1 p2) (iB fld arg s0 s1 s2 s3 s4 q1 q2 q3 q4) scope .none .none doc pm an (.ref cda) ct cc) ⟨[u, v], []⟩ [("self", u), (fld, v)])
/-- a made exception -/
structure Made (h h' : Heap) (fld : Str) (e C d : Addr) (v : Value) : Prop where
  keep : ∀ b o, h.get? b = some o → h'.get? b = some o
  new : h.objs.size ≤ e
  obj : ∃ oe vs, h'.get? e = some oe ∧ oe.cls = .ref C ∧ oe.dict = some d ∧ oe.data = .fields vs ∧ vs[1]? = some .none
  dbig : h.objs.size ≤ d
  dne : d ≠ e
  ns : h'.Ns1 d (fun y => if y = fld then some v else none)
theorem ldX {M : Model} {name : Str} {scope : Scope} {L a : Addr} {cd : Value} {cc : Addr} {m : Str → Option Value} {y : Str} {pos : Pos} {v : Value} {Q : Value → Shared → Prop} (hn : s.heap.Ns L m) (hv : m y = some v) (h : Q v s)
    (hk : scope.kind = .function) (hl : scope.names.lookup y = some .local) (hd : (y == ("__debug__" : Str)) = false) :
    wpAny M A (eval (.Name y pos) (ksEnv name scope L a cd cc)) Q E s := wpAny_Name (wpAny_loadName_local (env := ksEnv name scope L a cd cc) hk hl hn hv h) hd
theorem super_call {o a : Expr} {name : Str} {apos pos : Pos} {env : Env} (hline : (apos.endLine == pos.line) = true) (hs : starEach [a] env = [(false, eval a env)]) : eval (.Call (.Attribute o name apos) [a] [] pos) env = (do
      let ov ← attributeBase o name env (eval o env)
      standAt apos.atName
      let (f, first) ← holding [ov] (getMethod ov name (do return (← importBound o env).getD true))
      callWith pos f first (backTo pos (starEach [a] env)) []) := by
  have hform : methodCallForm ([a].length + ([] : List Keyword).length) (backTo pos (starEach [a] env)) (backToKw pos (keywordEach [] env)) = true := by rw [hs]; rfl
  have hpos : methodCallPos true o env apos pos = pure pos := by unfold methodCallPos; simp [hline]
  rw [arm_eval_Call]
  unfold methodCall
  rw [hform, hpos]
  rfl
theorem own_init {cf xf fld : Str} {num : Bool} {C : Addr} {hp : Heap} (T : InitF prog K mg xf fld num C) (hg0 : hp.Ns mainGlobals mg) (hb0 : ∃ mb, hp.Ns builtinsNs mb ∧ ∀ x : Str, x ≠ "__name__" → mb x = bootBuiltins x) {x t0 : Addr} {v : Value} {g : Array GenState} {dr : Drawn} {tk0 : Nat} {os : OsState} {h : Heap}
    (X0 : K.In hp) (kp : ∀ b o, hp.get? b = some o → h.get? b = some o) (hsz : hp.objs.size ≤ h.objs.size) (hlim : h.NoLimit) (hx : h.get? x = some (excObj C t0 none .none)) (hpx : hp.get? x = none) (hav : ArgV num v) (hroom : A.depth < recursionLimit)
    (hq : ∀ h' tk dx t1, (∀ b o, hp.get? b = some o → h'.get? b = some o) → h'.get? x = some (excObj C t1 (some dx) .none) → hp.objs.size ≤ dx → dx ≠ x → h'.Ns1 dx (fun y => if y = fld then some v else none) → R (.ok (.ret .none)) ⟨h', g, dr, tk, os⟩) :
    ∃ fI, findIn K (.ref C) "__init__" = some (some (.ref fI)) ∧ typeIn K (.ref fI) = some (.type "function") ∧ codeAny (model prog w) A (.call (.ref fI) ⟨[.ref x, v], []⟩) R ⟨h, g, dr, tk0, os⟩ := by
  obtain ⟨fI, oc, od, doc, pm, an, cda, ct, osl, qual, scope, arg, p1, p2, s0, s1, s2, s3, s4, q1, q2, q3, q4, cc, vs, file, tf, ccl, cl, cdd, cld, ccs, csl, hi, ht, ho, hcd, hcode, hvs, hfile, hcell, hline, harg, nsup, ncls, nse, nfl, hk, hco, hgen, hnc, hbind⟩ := T.fn
  refine ⟨fI, hi, ht, ?_⟩
  have X1 : K.In h := X0.keeps kp
  obtain ⟨cdC, hclC, hmro, hdct⟩ := T.cls
  refine ks_codeAny_call_defAt (s := ⟨h, g, dr, tk0, os⟩) hroom (X1 _ _ ho) rfl hlim (codeRec_of X1 hcd) rfl (hbind _ _ _) hnc (fun y hy => ?_) (fun h₁ hns hk₁ => ?_) hco hgen hk
  · rcases List.mem_cons.mp hy with rfl | hy
    · exact nse
    · obtain rfl := List.mem_singleton.mp hy
      exact nfl
  have xL : x ≠ h.objs.size := Nat.ne_of_lt (Heap.lt_size hx)
  let m : Str → Option Value := fun y => [(("self" : Str), Value.ref x), (fld, v)].reverse.lookup y
  have mS : m "self" = some (.ref x) := by
    show List.lookup _ [(fld, v), (("self" : Str), Value.ref x)] = _
    have : (("self" : Str) == fld) = false := by simpa using Ne.symm T.nself
    simp [List.lookup, this]
  have mF : m fld = some v := by
    show List.lookup _ [(fld, v), (("self" : Str), Value.ref x)] = _
    simp [List.lookup]
  have F1 : Fr hp h.objs.size h₁ m := ⟨hns, fun b o e => hk₁ _ _ (kp _ _ e), hsz⟩
  have X2 : K.In h₁ := X1.keeps hk₁
  have N1 : News hp h.objs.size h₁ [(x, excObj C t0 none .none)] := fun p hp' => by
    obtain rfl := List.mem_singleton.mp hp'
    exact ⟨hk₁ _ _ hx, xL, hpx⟩
  have glob : ∀ {h' : Heap}, (∀ b o, hp.get? b = some o → h'.get? b = some o) → h'.Ns mainGlobals mg := fun k => hg0.keeps k
  obtain ⟨mb, hb1, hb2⟩ := hb0
  rcases harg with ⟨rfl, p, rfl⟩ | ⟨rfl, nst, w0, k0, a1, a2, a3, a4, a5, rfl, hw⟩
  · refine ks_wpAt_execs_cons (ks_wpAt_Expr_any (ks_wpAt_MethodCall ?_ (super_call hline rfl)) (by show (scope.kind == .module && _) = false; rw [hk]; rfl) rfl)
    refine os_node (m := m) (s := ⟨h₁, g, dr, tk0 + 2, os⟩) F1 X2 N1 (hg0.keeps F1.keep) T.ms (hb1.keeps F1.keep) ((hb2 _ (by decide)).trans (by first | boot_by_name | rfl | kernel_rfl)) ho rfl mS (InstAt.of_exc0 N1 List.mem_cons_self) hcode hvs hfile hcell hclC T.mroC (by decide) nsup ncls nse hk T.top fun so h2 F2 N2 l2 k2 => ?_
    refine kxs_method (s := ⟨h2, g, dr, tk0 + 2, os⟩) kxs_ValueError F2 X0 N2 List.mem_cons_self (InstAt.of_exc0 N2 (List.mem_cons_of_mem _ List.mem_cons_self)) T.opq T.sup T.vb (by decide) fun u h3 F3 N3 l3 => ?_
    refine kxs_callWith1 N3 List.mem_cons_self (spliced_cons (ldX F3.ns mF ?_ hk nfl T.ndbg))
    refine spliced_nil ⟨kxs_at N3 List.mem_cons_self, ?_⟩
    have hunx : ∀ p ∈ [(u, kxs_mw "ValueError.__init__" x), (so, ks_superObj C x C)], p.1 ≠ x := fun p hp' => by
      rcases List.mem_cons.mp hp' with rfl | hp'
      · exact Nat.ne_of_gt (l3 _ (List.mem_cons_of_mem _ List.mem_cons_self))
      · obtain rfl := List.mem_singleton.mp hp'
        exact Nat.ne_of_gt (l2 _ List.mem_cons_self)
    refine kxs_call F3 X0 N3 PySem.F.excBase_ValueError T.q List.mem_cons_self (.tail (hunx _ List.mem_cons_self) (.tail (hunx _ (List.mem_cons_of_mem _ List.mem_cons_self)) (.head (fun _ z => nomatch z)))) (by rw [sizeLine_eq]; exact (by decide : 1 ≤ 16777216)) fun t' h4 F4 N4 l4 => ?_
    have hx4 : h4.get? x = some (excObj C t' none .none) := (N4 (x, excObj C t' none .none) (by simp)).1
    refine wpAt_of_wpAny (wpAny_execs_cons (plainObj_wpAny_Assign_Attribute ?_))
    refine ldX F4.ns mF (ldX F4.ns mS ?_ hk nse (by decide)) hk nfl T.ndbg
    have X4 : K.In h4 := X0.keeps F4.keep
    refine set_plain (ox := excObj C t' none .none) (od := none) X4 ⟨hx4, rfl, rfl, trivial⟩ T.sa ?_
    refine exc_osa X4 hx4 hclC hmro hdct T.noN (fun h5 tk5 dx k5 dn dne hx5 hn5 => ?_)
    have z : hp.objs.size ≤ h4.objs.size := by
      obtain ⟨oL, _, _, hL, _⟩ := id F4.ns
      exact Nat.le_trans F4.above (Nat.le_of_lt (Heap.lt_size hL))
    exact wpAny_execs_nil (hq h5 tk5 dx t' (fun b o e => k5 b o (fun y => by rw [y, hpx] at e; cases e) (F4.keep b o e)) hx5 (Nat.le_trans z dn) dne hn5)
  · refine ks_wpAt_execs_cons (ks_wpAt_Expr_any (ks_wpAt_MethodCall ?_ (super_call hline rfl)) (by show (scope.kind == .module && _) = false; rw [hk]; rfl) rfl)
    refine os_node (m := m) (s := ⟨h₁, g, dr, tk0 + 2, os⟩) F1 X2 N1 (hg0.keeps F1.keep) T.ms (hb1.keeps F1.keep) ((hb2 _ (by decide)).trans (by first | boot_by_name | rfl | kernel_rfl)) ho rfl mS (InstAt.of_exc0 N1 List.mem_cons_self) hcode hvs hfile hcell hclC T.mroC (by decide) nsup ncls nse hk T.top fun so h2 F2 N2 l2 k2 => ?_
    refine kxs_method (s := ⟨h2, g, dr, tk0 + 2, os⟩) kxs_ValueError F2 X0 N2 List.mem_cons_self (InstAt.of_exc0 N2 (List.mem_cons_of_mem _ List.mem_cons_self)) T.opq T.sup T.vb (by decide) fun u h3 F3 N3 l3 => ?_
    refine kxs_callWith1 N3 List.mem_cons_self (spliced_cons ?_)
    refine wpAny_BinOp (Constant_str ?_)
    refine wpAny_Call_Name_kw (Name_function_global hk nst (loadGlobal_builtin (hg0.keeps F3.keep) T.mst (hb1.keeps F3.keep) ((hb2 _ (by decide)).trans (by first | boot_by_name | rfl | kernel_rfl)) ?_) (by decide))
    obtain ⟨iv, tv, rfl, hlog⟩ : ∃ (i : Int) (t : Tok), v = .int i t ∧ i.natAbs.log2 < 1920 := by simpa [ArgV] using hav
    refine PyProof.Rows.callWith_type1 ?_ rfl rfl
    refine spliced_cons (ldX F3.ns mF ?_ hk nfl T.ndbg)
    refine spliced_nil ?_
    refine PySem.P.str_of_int hlog ?_
    have hz : w0.length + (Str.ofString (toString iv)).length ≤ sizeLine := by
      have e := int_text_length_le (k := 1920) (by decide) hlog
      rw [ofString_length, sizeLine_eq]
      omega
    refine add_str (fun t' tk => ?_) hz
    refine spliced_nil ⟨kxs_at N3 List.mem_cons_self, ?_⟩
    have hunx : ∀ p ∈ [(u, kxs_mw "ValueError.__init__" x), (so, ks_superObj C x C)], p.1 ≠ x := fun p hp' => by
      rcases List.mem_cons.mp hp' with rfl | hp'
      · exact Nat.ne_of_gt (l3 _ (List.mem_cons_of_mem _ List.mem_cons_self))
      · obtain rfl := List.mem_singleton.mp hp'
        exact Nat.ne_of_gt (l2 _ List.mem_cons_self)
    refine kxs_call F3 X0 N3 PySem.F.excBase_ValueError T.q List.mem_cons_self (.tail (hunx _ List.mem_cons_self) (.tail (hunx _ (List.mem_cons_of_mem _ List.mem_cons_self)) (.head (fun _ z => nomatch z)))) (by rw [sizeLine_eq]; exact (by decide : 1 ≤ 16777216)) fun t' h4 F4 N4 l4 => ?_
    have hx4 : h4.get? x = some (excObj C t' none .none) := (N4 (x, excObj C t' none .none) (by simp)).1
    refine wpAt_of_wpAny (wpAny_execs_cons (plainObj_wpAny_Assign_Attribute ?_))
    refine ldX F4.ns mF (ldX F4.ns mS ?_ hk nse (by decide)) hk nfl T.ndbg
    have X4 : K.In h4 := X0.keeps F4.keep
    refine set_plain (ox := excObj C t' none .none) (od := none) X4 ⟨hx4, rfl, rfl, trivial⟩ T.sa ?_
    refine exc_osa X4 hx4 hclC hmro hdct T.noN (fun h5 tk5 dx k5 dn dne hx5 hn5 => ?_)
    have z : hp.objs.size ≤ h4.objs.size := by
      obtain ⟨oL, _, _, hL, _⟩ := id F4.ns
      exact Nat.le_trans F4.above (Nat.le_of_lt (Heap.lt_size hL))
    exact wpAny_execs_nil (hq h5 tk5 dx t' (fun b o e => k5 b o (fun y => by rw [y, hpx] at e; cases e) (F4.keep b o e)) hx5 (Nat.le_trans z dn) dne hn5)
theorem own_made {xf fld : Str} {num : Bool} {C : Addr} (T : InitF prog K mg xf fld num C) {s : Shared} {v : Value} (X : K.In s.heap) (hg0 : s.heap.Ns mainGlobals mg) (hb0 : ∃ mb, s.heap.Ns builtinsNs mb ∧ ∀ x : Str, x ≠ "__name__" → mb x = bootBuiltins x)
    (hlim : s.heap.NoLimit) (hav : ArgV num v) (hroom : A.depth + 1 < recursionLimit) (hq : ∀ h' tk e d, Made s.heap h' fld e C d v → R (.ok (.ret (.ref e))) { s with heap := h', toks := tk }) :
    codeAny (model prog w) A (.call (.ref C) ⟨[v], []⟩) R s := by
  obtain ⟨nm, N, qn, bs, bm, hdct, sn, sub, ab, col, dd, k0, k1, k2, k3, k5, hC, hT⟩ := excInit_of X T.q
  obtain ⟨hp, g, dr, tk, os⟩ := s
  have k : ∀ b o, hp.get? b = some o → ((hp.push (kdv_tup [v])).push (excO C hp.objs.size)).get? b = some o := fun b o e => Heap.get?_push_of_some _ (Heap.get?_push_of_some _ e)
  have hget : ((hp.push (kdv_tup [v])).push (excO C hp.objs.size)).get? (hp.objs.size + 1) = some (excO C hp.objs.size) := by heap_get
  have hnx : hp.get? (hp.objs.size + 1) = none := by
    cases e : hp.get? (hp.objs.size + 1) with
    | none => rfl
    | some o => exact absurd (Nat.lt_of_succ_lt (Heap.lt_size e)) (Nat.lt_irrefl _)
  have hs2 : hp.objs.size ≤ ((hp.push (kdv_tup [v])).push (excO C hp.objs.size)).objs.size := by
    rw [Heap.size_push, Heap.size_push]; omega
  obtain ⟨fI, hi, ht, go⟩ := own_init (w := w) (A := A.under (.builtin "type.__call__" ⟨.ref C :: [v], []⟩)) (R := InitBack (hp.objs.size + 1) R) (cf := xf) T hg0 hb0 (g := g) (dr := dr) (tk0 := tk) (os := os) X k hs2 (hlim.keeps k) hget hnx hav hroom
    fun h' tk' dx t1 k' hx dn dne hns => ⟨rfl, hq h' tk' (hp.objs.size + 1) dx ⟨k', Nat.le_succ _, ⟨_, _, hx, rfl, rfl, rfl, rfl⟩, dn, dne, hns⟩⟩
  exact call_own PySem.F.excBase_ValueError hT hC (looks_findIn X hi) (fun self => bind_fn X self ht) (by rw [sizeLine_eq]; exact (by decide : 1 ≤ 16777216)) go
end
end OwnX
end PySem
namespace L2
namespace G
open PySem PySem.Spec PyProof.Rows
/-! ### clauses with and without a name -/
abbrev Cl := Value × Option Nat × (Addr → Value → Option Addr → TS)
def offE (i : Nat) (D : Ends) : Ends := { nx := fun τ H => D.nx (τ.set i none) H, rt := D.rt, bk := fun τ H => D.bk (τ.set i none) H, ct := fun τ H => D.ct (τ.set i none) H }
def inE (o : Option Nat) (ts : TS) (a : Addr) : TS := match o with
  | none => ts
  | some i => fun D τ H => ts (offE i D) (τ.set i (some (.ref a))) H
def wCl (K : PySem.W.Frag) (Wo : WX) (D : Ends) : List Cl → WX
  | [] => Wo
  | (c, o, ts) :: r => fun cls d τ H => ∃ b, PySem.W.exmOne K cls c = some b ∧ (b = true → ∀ a, H a = none → inE o (ts a cls d) a D τ H) ∧ (b = false → wCl K Wo D r cls d τ H)
def OkName (X : Cx) (n : Option Str) (o : Option Nat) : Prop := match n, o with
  | none, none => True
  | some n, some i => X.N[i]? = some n ∧ X.env.kindOf n = some .local
  | _, _ => False
inductive ClsOk (X : Cx) : List ExceptHandler → List Cl → Prop
  | nil : ClsOk X [] []
  | cons {x : Str} {n : Option Str} {o : Option Nat} {c : Value} {ts : Addr → Value → Option Addr → TS} {b : Stmt} {bs : List Stmt} {p1 p2 : Pos} {hds : List ExceptHandler} {l : List Cl} (hc : Names X x c) (hn : OkName X n o)
      (hb : ∀ (a : Addr) (oe : Obj) (cls : Value) (d : Option Addr) (pn : List (Addr × Obj)), Zc cls d oe → (∃ vs, oe.data = .fields vs) → PSs (X.suite a ((a, oe) :: pn)) (b :: bs) (ts a cls d)) (r : ClsOk X hds l) :
      ClsOk X (.ExceptHandler (some (.Name x p1)) n (b :: bs) p2 :: hds) ((c, o, ts) :: l)
section
variable {X : Cx} {body : List Stmt} {k0 : ExceptHandler} {hds : List ExceptHandler} {l : List Cl} {pos : Pos} {tb : WX → TS} {Wo : WX}
/-- the exception at a has come to this frame: held nowhere -/
structure Here (X : Cx) (pins : List (Addr × Obj)) (τ : L2.St) (H : Hp) (B : Heap) (a : Addr) (cls : Value) (d : Option Addr) (s : Shared) : Prop where
  fly : HandSPX.FlyingZ B (X.env :: X.outer) a (Zc cls d) s.heap
  inv : ∀ h', HandSPX.FlyingZ B (X.env :: X.outer) a (Zc cls d) h' → s.heap.UpToSlots h' → Inv X pins τ H { s with heap := h' }
  none : H a = none
  nl : a ≠ X.env.locals
  nf : a ∉ X.fs
theorem Here.obj {pins : List (Addr × Obj)} {τ : L2.St} {H : Hp} {B : Heap} {a : Addr} {cls : Value} {d : Option Addr} {s : Shared} (h : Here X pins τ H B a cls d s) :
    ∃ oe vs, s.heap.get? a = some oe ∧ Zc cls d oe ∧ oe.data = .fields vs ∧ Inv (X.suite a ((a, oe) :: (X.pn ++ pins))) [] τ H s := by
  obtain ⟨oe, vs, p, q, r⟩ := h.fly.there
  exact ⟨oe, vs, p, q, r, (h.inv _ h.fly (Heap.UpToSlots.refl _)).suite p r h.none h.nl h.nf⟩
/-- what follows a named clause's suite -/
theorem named_end {a : Addr} {oe : Obj} {pins : List (Addr × Obj)} {n : Str} {i : Nat} {D : Ends} {po : Pos} {g : Flow} {s : Shared} (ok : X.Ok) (hN : X.N.Nodup) (hi : X.N[i]? = some n) (hln : X.env.kindOf n = some .local)
    (h : SP (X.suite a ((a, oe) :: (X.pn ++ pins))) [] (offE i D) g s) : wpAny (model X.prog X.w) X.A (do bindName X.env n .none; unbindBehindTheSuite X.env n po) (fun _ s7 => SP X pins D g s7) X.xe s := by
  cases g with
  | ret u =>
    obtain ⟨y, τ', H', J, r, q⟩ := h
    exact gone_ok (J.unsuite ok) hN hi hln fun s7 J7 => ⟨y, _, _, J7, r, q⟩
  | _ =>
    obtain ⟨τ', H', J, q⟩ := h
    exact gone_ok (J.unsuite ok) hN hi hln fun s7 J7 => ⟨_, _, J7, q⟩
theorem plain_end {a : Addr} {oe : Obj} {pins : List (Addr × Obj)} {D : Ends} {g : Flow} {s : Shared} (ok : X.Ok) (h : SP (X.suite a ((a, oe) :: (X.pn ++ pins))) [] D g s) : SP X pins D g s := by
  cases g with
  | ret u =>
    obtain ⟨y, τ', H', J, r, q⟩ := h
    exact ⟨y, _, _, J.unsuite ok, r, q⟩
  | _ =>
    obtain ⟨τ', H', J, q⟩ := h
    exact ⟨_, _, J.unsuite ok, q⟩
/-- the clauses, one after the other -/
theorem clauses_run {pins : List (Addr × Obj)} {τ : L2.St} {H : Hp} {B : Heap} {a : Addr} {cls : Value} {d : Option Addr} {s : Shared} {D : Ends} (ok : X.Ok) (hN : X.N.Nodup) (hf : X.env.frame = some X.env.locals)
    (T : Here X pins τ H B a cls d s) (out : ∀ h', HandSPX.HeldZ B (X.env :: X.outer) a (Zc cls d) X.env.locals h' → s.heap.UpToSlots h' → Wo cls d τ H → X.xe (.ref a) { s with heap := h' }) {cl : List Cl} {hs : List ExceptHandler} (hk : ClsOk X hs cl) :
    wCl X.K Wo D cl cls d τ H → wpAny (model X.prog X.w) X.A (handleBy (.ref a) X.env hs) (SP X pins D) X.xe s := by
  induction hk with
  | nil =>
    intro wo
    obtain ⟨_, _, _, oe, vs, tb, _, _, p1, _, p2, p3, _⟩ := id T.fly
    refine wpAny_handleBy_nil ?_
    unfold PySem.passOn
    refine wpAny_bind (wpAny_field p1 p2 p3 ?_)
    rw [if_neg (show ¬ ((Value.ref tb == Value.none) = true) from by simp), hf]
    have last : wpAny (model X.prog X.w) X.A (setFlight (.ref a) (some X.env.locals)) (fun _ s' => wpAny (model X.prog X.w) X.A (throw (.ref a) : Sem Flow) (SP X pins D) X.xe s') X.xe s :=
      HandSPX.setFlight_upZ T.fly fun h' x1 x2 => wpAny_throw (out h' x1 x2 wo)
    first
      | exact wpAny_bind (wpAny_pure (wpAny_bind last))
      | exact wpAny_bind last
  | @cons x n o c ts b bs p1 p2 hds l hc hn hb r ih =>
    intro ⟨k, hm, yes, no⟩
    obtain ⟨oe, vs, go, gz, gd, J⟩ := T.obj
    refine wpAny_handleBy_cons (codeAny_handlers_test ?_) (by intro z; cases z)
    have look : PySem.W.Looks (model X.prog X.w) s.heap (typeOf (.ref a)) cls := fun _ _ _ s' kk z => wpAny_typeOf_ref (kk _ _ go) (by rw [gz.1]; exact z)
    have meet := (PySem.W.exm_one (M := model X.prog X.w) (T.inv _ T.fly (Heap.UpToSlots.refl _)).kIn look hm)
    have name : ∀ {Q E : Value → Shared → Prop}, Q c s → wpAny (model X.prog X.w) (X.A.mark (some (.ref a))) (eval (.Name x p1) X.env) Q E s := fun {Q E} z => by
      obtain ⟨hg, hdb, y | ⟨y1, y2, y3⟩⟩ := hc
      · exact ld_glob (X := X.suite a ((a, oe) :: (X.pn ++ pins))) J hg y z hdb
      · exact ld_blt (X := X.suite a ((a, oe) :: (X.pn ++ pins))) J hg y1 y2 z y3 hdb
    refine name (meet.here ?_)
    cases k with
    | false => exact ih (no rfl)
    | true =>
      have yes := yes rfl a T.none
      cases n with
      | none =>
        cases o with
        | some i => exact hn.elim
        | none =>
          refine codeAny_handlers_suite (HandSPX.lands_againZ T.fly fun h4 f4 u4 => ?_)
          obtain ⟨oe4, vs4, g4, z4, d4⟩ := f4.there
          have J4 := (T.inv _ f4 u4).suite g4 d4 T.none T.nl T.nf
          exact wpAny_mono ((hb a oe4 cls d _ z4 ⟨_, d4⟩).run [] _ _ H D J4 yes) (fun g s6 z => plain_end ok z) fun _ _ z => z.elim
      | some n =>
        cases o with
        | none => exact hn.elim
        | some i =>
          obtain ⟨hi, hln⟩ := hn
          refine codeAny_handlers_suite_as (HandSPX.lands_againZ T.fly fun h4 f4 u4 => ?_)
          obtain ⟨oe4, vs4, g4, z4, d4⟩ := f4.there
          have J4 := (T.inv _ f4 u4).suite g4 d4 T.none T.nl T.nf
          refine store_ok (X := X.suite a ((a, oe4) :: (X.pn ++ pins))) (v := .ref a) J4 hN hi (Or.inl hln) rfl (fun s5 J5 => ?_) (.inr hln)
          refine wpAny_mono ((hb a oe4 cls d _ z4 ⟨_, d4⟩).run [] s5 _ H _ J5 yes) (fun g s6 z => ?_) fun _ _ z => z.elim
          have := named_end (po := p2) ok hN hi hln z
          cases g <;> exact this
/-- try with clauses of both sorts -/
theorem ps_try_cl (hs : X.stack = X.env :: X.outer) (hf : X.env.frame = some X.env.locals) (hN : X.N.Nodup) (tk : Takes X Wo)
    (hb : ∀ (W : WX) (pn : List (Addr × Obj)) (xe : Value → Shared → Prop), Takes (X.tr pn xe) W → PassesOwn (model X.prog X.w) X.A X.env xe → PSs (X.tr pn xe) body (tb W)) (hh : ClsOk X (k0 :: hds) l) :
    PS X (.Try body (k0 :: hds) [] [] pos) (fun D τ H => tb (wCl X.K Wo D l) D τ H) := by
  refine ⟨fun pins s τ H D I h => wpAny_Try_except ?_⟩
  have ok := I.ok
  have fr : X.A.frames = some (X.env :: X.outer) := by rw [ok.frames, hs]
  have run := (hb (wCl X.K Wo D l) (X.pn ++ pins) (fun e s1 => wpAny (model X.prog X.w) X.A (noteFrame e X.env) (fun _ s2 => wpAny (model X.prog X.w) X.A (setFlight e none) (fun _ s3 =>
    wpAny (model X.prog X.w) X.A (handleBy e X.env (k0 :: hds)) (SP X pins D) X.xe s3) X.xe s2) X.xe s1) (fun u s' caught => ?_) PassesOwn.looking).run [] s τ H D (I.toTry _) h
  · refine wpAny_mono run (fun g s1 z => ?_) fun _ _ z => z
    cases g with
    | next =>
      obtain ⟨τ', H', J, q⟩ := z
      exact wpAny_execs_nil ⟨τ', H', J.ofTry ok, q⟩
    | ret u =>
      obtain ⟨y, τ', H', J, r, q⟩ := z
      exact ⟨y, τ', H', J.ofTry ok, r, q⟩
    | brk =>
      obtain ⟨τ', H', J, q⟩ := z
      exact ⟨τ', H', J.ofTry ok, q⟩
    | cont =>
      obtain ⟨τ', H', J, q⟩ := z
      exact ⟨τ', H', J.ofTry ok, q⟩
  · obtain ⟨a, B, sI, pins', τ', H', cls, d, rfl, J', nb, up, sky, na, os, ag, wi⟩ := caught
    have J : Inv X pins τ' H' sI := J'.ofTry ok
    show wpAny (model X.prog X.w) X.A (noteFrame (.ref a) X.env) _ _ _
    refine Sky.land Zc.steady fr hf (by rw [← hs]; exact sky) fun h3 f3 u3 => ?_
    obtain ⟨oe, vs, p, q, r⟩ := f3.there
    have nfr : a ∉ frs (X.env :: X.outer) := fun hm => by
      obtain ⟨_, o', p', z⟩ := f3.2.2.1.mem hm
      rw [p] at p'; cases p'
      exact z _ r
    have up3 := up.trans u3
    refine clauses_run (B := B) (s := { s' with heap := h3 }) ok hN hf ⟨f3, fun h' f' u' => J.landed nb f'.1 (up3.trans u') os ag, na, fun z => nfr ?_, fun hm => nfr ?_⟩ (fun h' x1 x2 wo => tk _ _ ?_) hh wi
    · exact List.mem_filterMap.mpr ⟨X.env, List.mem_cons_self, by rw [hf, z]⟩
    · obtain ⟨e, he, z⟩ := List.mem_filterMap.mp hm
      exact List.mem_filterMap.mpr ⟨e, List.mem_cons_of_mem _ he, z⟩
    · exact ⟨a, B, sI, pins, τ', H', cls, d, rfl, J, nb, up3.trans x2, .inr (.inr (by rw [hs]; exact x1)), na, os, ag, wo⟩
end
end G
end L2
namespace L2
namespace G
open PySem PySem.Spec PyProof.Rows
section
variable {C : Ct} {X : Cx} {W : WX} {K : PySem.W.Frag} {Bx : Addr → Prop} {io : List Nat} {σ σ' : L2.St} {H H' : Hp} {e0 : En} {a b e : Expr} {pos : Pos} {c i : Nat} {num : Bool} {x fld : Str}

/-! ### raise X(e), X an own class with an own __init__ -/
def ArgW (num : Bool) (v : V) : Prop := if num = true then ∃ i : Int, v = .int i ∧ i.natAbs.log2 < 1920 else True
def tMkI (num : Bool) (Cc : Addr) (fld : Str) (ta : TA) : L2.St → Hp → XK → Prop := fun τ H Q => ta τ H fun vs H1 => ∃ v, vs = [v] ∧ ArgW num v ∧ ∀ d, H1 d = none → Q (.ref Cc) (some d) (upd H1 d (.xd [(fld, v)]))
theorem relO_one {v : V} {u : Value} (r : RelV v u) (f : Str) : RelO (List.lookup f [(fld, v)]) (if f = fld then some u else none) := by
  rcases Classical.em (f = fld) with z | z
  · subst z
    rw [if_pos rfl, show List.lookup f [(f, v)] = some v from by simp [List.lookup]]
    exact r
  · rw [if_neg z, show List.lookup f [(fld, v)] = none from by simp [List.lookup, show (f == fld) = false from by simpa using z]]
    trivial
theorem pmk_init {Cc : Addr} {ta : TA} {p : Pos} {k : Nat} (T : PySem.OwnX.InitF X.prog X.K X.mg x fld num Cc) (hr : Room k X.A) (ha : PA X [a] ta) (hg : Gl X x) (hdb : (x == ("__debug__" : Str)) = false := by decide)
    (he : starEach (a :: []) X.env = (false, eval a X.env) :: starEach [] X.env := by rfl) (hpl : (backTo pos (starEach [] X.env)).any (·.1) = false := by rfl) :
    PMk X (.Call (.Name x p) [a] [] pos) (tMkI num Cc fld ta) := by
  intro pins s τ H Q I h
  refine wpAny_Call_Name_kw (ld_glob I hg T.gC ?_ hdb)
  refine PySem.W.callWith_K (h₀ := X.base) I.ok.mod.kin T.kC (thn (ha.run pos pins s τ H _ I h) fun us s1 hh => ?_) he hpl
  obtain ⟨vs, H1, I1, r1, v, rfl, hw, q1⟩ := hh
  refine ⟨I1.kIn, ?_⟩
  cases r1 with
  | cons rv rn =>
    rename_i v' us'
    cases rn
    show wpAny _ _ (call (.ref Cc) [v']) _ _ _
    have lim := I1.nolimit
    have hv : PySem.OwnX.ArgV num v' := by
      unfold PySem.OwnX.ArgV
      unfold ArgW at hw
      split
      · rename_i z
        rw [if_pos z] at hw
        obtain ⟨k, rfl, hk⟩ := hw
        obtain ⟨t, rfl⟩ := rv
        exact ⟨k, t, rfl, hk⟩
      · trivial
    obtain ⟨mb, b1, b2⟩ := I1.mod.blt
    obtain ⟨hp, g, dr, tk, os⟩ := s1
    refine wpAny_call (PySem.OwnX.own_made (s := ⟨hp, g, dr, tk, os⟩) T I1.kIn (I1.mod.glob.keeps I1.bk) ⟨mb, b1.keeps I1.bk, b2⟩ lim hv (by have := hr.dp; omega) fun h' tk' ea d M => ?_)
    show MkP X pins τ Q (.ref ea) ⟨h', g, dr, tk', os⟩
    obtain ⟨oe, fv, m1, m2, m3, m4, m5⟩ := M.obj
    obtain ⟨G', g1, g2⟩ := restrict h' fun y => decide (y ≠ ea)
    have same : ∀ y, y ≠ ea → G'.get? y = h'.get? y := fun y hy => g1 y (decide_eq_true hy)
    have gone : G'.get? ea = none := g2 ea (by simp)
    have old : ∀ y o, hp.get? y = some o → G'.get? y = some o := fun y o q => (same y (Nat.ne_of_lt (Nat.lt_of_lt_of_le (Heap.lt_size q) M.new))).trans (M.keep y o q)
    have field : ObjOk X.prog X.w (upd H1 d (.xd [(fld, v)])) G' d (.xd [(fld, v)]) := ⟨_, M.ns.at (fun o q => (same d M.dne).trans q), fun f => relO_one rv f⟩
    have J : Inv X pins τ (upd H1 d (.xd [(fld, v)])) ⟨G', g, dr, tk', os⟩ := I1.laid (t' := tk') old M.dbig field
    refine ⟨ea, oe, fv, ⟨G', g, dr, tk', os⟩, _, .ref Cc, some d, rfl, J, fun y o q => ?_, gone, m1, ⟨m2, m3⟩, m4, m5, ?_, rfl, I1.bare, raises_own T.exC T.tyC, q1 d (I1.hok.fresh M.dbig)⟩
    · rcases Classical.em (y = ea) with z | z
      · have q' : G'.get? y = some o := q
        rw [z, gone] at q'; cases q'
      · exact (same y z).symm.trans q
    · rw [upd_ne (Ne.symm M.dne)]
      exact I1.hok.fresh M.new
def sRaiseI (c : Nat) (num : Bool) (f : XF) : SF := fun e => (f e).bind fun r _ => match r.d with
  | .int i => if i.natAbs.log2 < 1920 then .ex ⟨c, some (.int i)⟩ else .st
  | .str y => if num = true then .st else .ex ⟨c, some (.str y)⟩
  | _ => .st
theorem gs_raiseI {f : XF} {p p2 : Pos} (T : PySem.OwnX.InitF X.prog C.K X.mg x fld num (C.cl c)) (hfl : C.fl c = fld) {k : Nat} (hr : Room k X.A) (hK : X.K = C.K) (hc : X.calm = true) (tk : Takes X W) (ha : GE C X W a f) (hg : Gl X x) (hdb : (x == ("__debug__" : Str)) = false := by decide)
    (he : starEach (a :: []) X.env = (false, eval a X.env) :: starEach [] X.env := by rfl) (hpl : (backTo pos (starEach [] X.env)).any (·.1) = false := by rfl) :
    GS C X W io (.Raise (some (.Call (.Name x p) [a] [] pos)) none p2) (sRaiseI c num f) := by
  rw [← hK] at T
  refine ps_imp (ps_raise hc tk (pmk_init T hr (pa_cons ha pa_nil he) hg hdb he hpl)) fun D τ H ⟨e, Bx, s, q⟩ => ?_
  refine ⟨e, Bx, s, run_mono (bind_run q) (fun r e1 q v H1 p1 => ?_) fun _ z => z⟩
  have rp := p1.rp
  refine ⟨v, rfl, ?_⟩
  obtain ⟨d, fr⟩ := r
  cases d with
  | int k =>
    cases rp
    dsimp only at q
    split at q
    · rename_i hk
      refine ⟨by unfold ArgW; split <;> first | exact ⟨k, rfl, hk⟩ | trivial, fun dd hd => ?_⟩
      exact q _ _ _ _ rfl ⟨rfl, fun p z => by cases z; exact ⟨dd, _, rfl, by rw [hfl]; exact upd_same, .int k⟩, fun z => (nomatch z)⟩ (Kp.trans p1.fr (.new hd))
    · exact q.elim
  | str y =>
    cases rp
    dsimp only at q
    split at q
    · exact q.elim
    · rename_i hk
      refine ⟨by unfold ArgW; rw [if_neg hk]; trivial, fun dd hd => ?_⟩
      exact q _ _ _ _ rfl ⟨rfl, fun p z => by cases z; exact ⟨dd, _, rfl, by rw [hfl]; exact upd_same, .str y⟩, fun z => (nomatch z)⟩ (Kp.trans p1.fr (.new hd))
  | _ => exact q.elim

/-! ### what a named clause gives back: an expression over the exception -/
def Xt (H H' : Hp) : Prop := ∀ a o, H a = some o → H' a = some o
theorem ExR.xt {y : Exn} {cls : Value} {d : Option Addr} (h : ExR C y cls d H) (k : Xt H H') : ExR C y cls d H' := ⟨h.1, fun p z => by
  obtain ⟨a, v, e1, e2, e3⟩ := h.2.1 p z
  exact ⟨a, v, e1, k _ _ e2, e3.go (.ext k) fun _ z _ => z⟩, h.2.2⟩
def tNE (C : Ct) (a : Addr) (cls : Value) (d : Option Addr) (i : Nat) (h : Exn → Option D) : TE := fun τ H Q => τ[i]? = some (some (.ref a)) ∧ ∃ y r, ExR C y cls d H ∧ h y = some r ∧ ∀ v H', Xt H H' → (∀ B, Rep C.K H' B v r) → Q v H'
def tNA (C : Ct) (a : Addr) (cls : Value) (d : Option Addr) (i : Nat) (h : Exn → Option (List D)) : TA := fun τ H Q => τ[i]? = some (some (.ref a)) ∧ ∃ y r, ExR C y cls d H ∧ h y = some r ∧ ∀ v H', Xt H H' → (∀ B, Reps C.K H' B v r) → Q v H'
def NE (C : Ct) (X : Cx) (i : Nat) (e : Expr) (h : Exn → Option D) : Prop := ∀ (a : Addr) (oe : Obj) (cls : Value) (d : Option Addr) (pn : List (Addr × Obj)), Zc cls d oe → (∃ vs, oe.data = .fields vs) → PE (X.suite a ((a, oe) :: pn)) e (tNE C a cls d i h)
def NA (C : Ct) (X : Cx) (i : Nat) (e : List Expr) (h : Exn → Option (List D)) : Prop := ∀ (a : Addr) (oe : Obj) (cls : Value) (d : Option Addr) (pn : List (Addr × Obj)), Zc cls d oe → (∃ vs, oe.data = .fields vs) → PA (X.suite a ((a, oe) :: pn)) e (tNA C a cls d i h)
def nK (d : D) : Exn → Option D := fun _ => some d
theorem ne_str {m : Str} {j : Nat} : NE C X i (.Constant (.str m) j pos) (nK (.str m)) := fun a oe cls d pn hz hf => pe_imp pe_str fun τ H Q ⟨_, y, r, _, hr, q⟩ => by cases hr; exact q _ _ (fun _ _ z => z) fun B => .str m
theorem ne_int {m : Int} {j : Nat} : NE C X i (.Constant (.int m) j pos) (nK (.int m)) := fun a oe cls d pn hz hf => pe_imp pe_int fun τ H Q ⟨_, y, r, _, hr, q⟩ => by cases hr; exact q _ _ (fun _ _ z => z) fun B => .int m
theorem ne_bl {m : Bool} {j : Nat} : NE C X i (.Constant (.bool m) j pos) (nK (.bool m)) := fun a oe cls d pn hz hf => pe_imp pe_bl fun τ H Q ⟨_, y, r, _, hr, q⟩ => by cases hr; exact q _ _ (fun _ _ z => z) fun B => .bl m
def nFld (c : Nat) : Exn → Option D := fun y => if y.cls = c then (match y.arg with | some (.int k) => some (.int k) | some (.str w) => some (.str w) | _ => none) else none
theorem ne_fld {n : Str} {p : Pos} (T : PySem.OwnX.InitF X.prog C.K X.mg x fld num (C.cl c)) (hfl : C.fl c = fld) (hK : X.K = C.K) (hN : X.N[i]? = some n) (hv : Vis X.env.scope n) (hd : (n == ("__debug__" : Str)) = false := by decide) (hcd : (n == ("__classdict__" : Str)) = false := by decide) :
    NE C X i (.Attribute (.Name n p) fld pos) (nFld c) := by
  rw [← hK] at T
  intro a oe cls d pn hz hf
  refine ⟨fun pins s τ H Q I ⟨hi, y, r, hx, hr, q⟩ => ?_⟩
  have ev : PE (X.suite a ((a, oe) :: pn)) (.Name n p) (tVar i) := pe_var (X := X.suite a ((a, oe) :: pn)) hN hv hd hcd
  refine attr_of (by rfl) (thn (ev.run pins s τ H (fun v H1 => v = .ref a ∧ H1 = H) I ⟨_, hi, rfl, rfl⟩) fun u s1 hh => ?_)
  obtain ⟨w, H1, I1, rx, ew, eh⟩ := hh
  subst ew eh
  obtain rfl : u = Value.ref a := rx
  unfold nFld at hr
  split at hr
  case isFalse => cases hr
  rename_i hcl
  obtain ⟨k1, k2, _⟩ := hx
  rw [hcl] at k1
  subst k1
  obtain ⟨ha, _⟩ := I1.pin (a, oe) (List.mem_append_left _ List.mem_cons_self)
  obtain ⟨vs, hdat⟩ := hf
  have fin : ∀ (v : V), (∃ dd, d = some dd ∧ H1 dd = some (.xd [(C.fl y.cls, v)])) → (∀ B, Rep C.K H1 B v r) → wpAny (model X.prog X.w) (X.suite a ((a, oe) :: pn)).A (getAttr (.ref a) fld true) (EP (X.suite a ((a, oe) :: pn)) pins τ Q) (X.suite a ((a, oe) :: pn)).xe s1 := by
    rintro v ⟨dd, rfl, hdd⟩ rep
    rw [hcl, hfl] at hdd
    have ok : ObjOk X.prog X.w H1 s1.heap dd (.xd [(fld, v)]) := I1.hok dd _ hdd
    obtain ⟨mA, hns, hr⟩ := ok
    obtain ⟨od, ho, hl⟩ := lookIn_ns hns
    have l : List.lookup fld [(fld, v)] = some v := by simp [List.lookup]
    obtain ⟨u, hu, ru⟩ := RelO.some_of (v := v) (o := mA fld) (by rw [← l]; exact hr fld)
    have J : PySem.W.InstAt s1.heap a oe (C.cl c) (some od) := ⟨ha, hz.1, by unfold PySem.W.notCls; rw [hdat] <;> rfl, by rw [hz.2]; exact ho⟩
    exact HandSPX.exc_get I1.kIn J T.ga T.gg T.exC (PySem.W.findObj_own T.hdC T.noN rfl (by rw [hl, hu])) (handed_of ru) ⟨v, H1, I1.tok _, ru, q v H1 (fun _ _ z => z) rep⟩
  cases z : y.arg with
  | none => rw [z] at hr; cases hr
  | some p0 =>
    obtain ⟨dd, v, e1, e2, e3⟩ := k2 p0 z
    rw [z] at hr
    cases p0 with
    | int k =>
      cases hr
      cases e3
      exact fin _ ⟨dd, e1, e2⟩ fun B => .int k
    | str w =>
      cases hr
      cases e3
      exact fin _ ⟨dd, e1, e2⟩ fun B => .str w
    | _ => cases hr
end
end G
end L2
namespace L2
namespace G
open PySem PySem.Spec PyProof.Rows
section
variable {C : Ct} {X : Cx} {W : WX} {K : PySem.W.Frag} {Bx : Addr → Prop} {io : List Nat} {σ σ' : L2.St} {H H' : Hp} {e0 : En} {a b e : Expr} {es : List Expr} {pos : Pos} {c i : Nat} {num : Bool} {x fld : Str} {f g : Exn → Option D} {fs : Exn → Option (List D)}
theorem Xt.trans {H1 : Hp} (h : Xt H H1) (k : Xt H1 H') : Xt H H' := fun a o z => k a o (h a o z)
def nAdd (f g : Exn → Option D) : Exn → Option D := fun y => match f y, g y with
  | some (.str u), some (.str w) => if u.length ≤ 65536 ∧ w.length ≤ 65536 then some (.str (u ++ w)) else none
  | _, _ => none
theorem ne_add (hf : NE C X i a f) (hg : NE C X i b g) : NE C X i (.BinOp a .Add b pos) (nAdd f g) := fun ad oe cls d pn hz hv =>
  pe_imp (pe_op op_add_str (hf ad oe cls d pn hz hv) (hg ad oe cls d pn hz hv)) fun τ H Q ⟨hi, y, r, hx, hr, q⟩ => by
    unfold nAdd at hr
    split at hr
    · rename_i u w e1 e2
      split at hr
      · rename_i hl
        cases hr
        refine ⟨hi, y, _, hx, e1, fun v1 H1 k1 r1 => ⟨hi, y, _, hx.xt k1, e2, fun v2 H2 k2 r2 => ?_⟩⟩
        have r1 := r1 (fun _ => False)
        have r2 := r2 (fun _ => False)
        cases r1
        cases r2
        refine ⟨u, w, rfl, rfl, ?_, q _ _ (k1.trans k2) fun B => .str _⟩
        rw [sizeLine_eq]
        omega
      · cases hr
    · cases hr
def nNil : Exn → Option (List D) := fun _ => some []
def nCons (f : Exn → Option D) (g : Exn → Option (List D)) : Exn → Option (List D) := fun y => match f y, g y with
  | some u, some w => some (u :: w)
  | _, _ => none
theorem na_nil : NA C X i [] nNil := fun ad oe cls d pn hz hv => pa_imp pa_nil fun τ H Q ⟨hi, y, r, hx, hr, q⟩ => by cases hr; exact q _ _ (fun _ _ z => z) fun B => .nil
theorem na_cons (hf : NE C X i a f) (hg : NA C X i es fs) (he : starEach (a :: es) X.env = (false, eval a X.env) :: starEach es X.env := by rfl) : NA C X i (a :: es) (nCons f fs) := fun ad oe cls d pn hz hv =>
  pa_imp (pa_cons (hf ad oe cls d pn hz hv) (hg ad oe cls d pn hz hv) he) fun τ H Q ⟨hi, y, r, hx, hr, q⟩ => by
    unfold nCons at hr
    split at hr
    · rename_i u w e1 e2
      cases hr
      exact ⟨hi, y, _, hx, e1, fun v1 H1 k1 r1 => ⟨hi, y, _, hx.xt k1, e2, fun v2 H2 k2 r2 => q _ _ (k1.trans k2) fun B => .cons ((r1 B).go (.ext k2) fun _ z _ => z) (r2 B)⟩⟩
    · cases hr
def nTup (g : Exn → Option (List D)) : Exn → Option D := fun y => match g y with
  | some l => if l.length ≤ 1000 then some (.tuple l) else none
  | none => none
theorem reps_len {vs : List V} {ds : List D} {B : Addr → Prop} (h : Reps K H B vs ds) : vs.length = ds.length := by
  induction ds generalizing vs with
  | nil => cases h; rfl
  | cons d ds ih => cases h with | cons _ r => simp [ih r]
theorem ne_tup {k1} (hg : NA C X i es fs) : NE C X i (.Tuple es k1 pos) (nTup fs) := fun ad oe cls d pn hz hv =>
  pe_imp (pe_tup (hg ad oe cls d pn hz hv)) fun τ H Q ⟨hi, y, r, hx, hr, q⟩ => by
    unfold nTup at hr
    split at hr
    · rename_i l e1
      split at hr
      · rename_i hl
        cases hr
        refine ⟨hi, y, _, hx, e1, fun v1 H1 k1 r1 => ⟨?_, fun p hp => q _ _ (k1.trans (ext_new hp)) fun B => .tup (.inl (.inl upd_same)) ?_⟩⟩
        · rw [reps_len (r1 fun _ => False), sizeLine_eq]; omega
        · exact (r1 B).go (.ext (ext_new hp)) fun _ z _ => z
      · cases hr
    · cases hr

/-! ### try with clauses of both sorts -/
abbrev Hs2 := List ((Nat → Option Bool) × (Exn → SF))
def pick2 : Hs2 → Exn → SF
  | [], x, _ => .ex x
  | (m, h) :: r, x, e => match m x.cls with
    | some true => h x e
    | some false => pick2 r x e
    | none => .st
def hP (s : SF) : Exn → SF := fun _ => s
def hN (i : Nat) (h : Exn → Option D) : Exn → SF := fun x e => if i < e.length then (match h x with | some r => .ok (.rt ⟨r, false⟩) e | none => .st) else .st
def sTry2 (f : SF) (l : Hs2) : SF := fun e => match f e with
  | .ex x => pick2 l x (List.replicate e.length .un)
  | .ok fl e1 => .ok fl e1
  | .st => .st
inductive HdD (C : Ct) (X : Cx) (W : WX) : List ExceptHandler → Hs2 → List Cl → Prop
  | nil : HdD C X W [] [] []
  | plain {x : Str} {c : Value} {m : Nat → Option Bool} {h : SF} {b₀ : Stmt} {suite : List Stmt} {np pos' : Pos} {hds : List ExceptHandler} {l : Hs2} {tl : List Cl} (hc : Names X x c)
      (hm : ∀ k b, m k = some b → PySem.W.exmOne C.K (.ref (C.cl k)) c = some b)
      (hsu : ∀ (a : Addr) (oe : Obj) (pn : List (Addr × Obj)), GSs C (X.suite a ((a, oe) :: pn)) W [] (b₀ :: suite) h) (r : HdD C X W hds l tl) :
      HdD C X W (.ExceptHandler (some (.Name x np)) none (b₀ :: suite) pos' :: hds) ((m, hP h) :: l) ((c, none, fun _ _ _ => TDs C W [] h) :: tl)
  | named {x n : Str} {c : Value} {m : Nat → Option Bool} {i : Nat} {h : Exn → Option D} {e : Expr} {np pos' rp : Pos} {hds : List ExceptHandler} {l : Hs2} {tl : List Cl} (hc : Names X x c)
      (hm : ∀ k b, m k = some b → PySem.W.exmOne C.K (.ref (C.cl k)) c = some b) (hi : X.N[i]? = some n) (hl : X.env.kindOf n = some .local) (hh : NE C X i e h) (r : HdD C X W hds l tl) :
      HdD C X W (.ExceptHandler (some (.Name x np)) (some n) [.Return (some e) rp] pos' :: hds) ((m, hN i h) :: l) ((c, some i, fun a cls d => tRet (tNE C a cls d i h)) :: tl)
theorem HdD.ok {hds : List ExceptHandler} {l : Hs2} {tl : List Cl} (h : HdD C X W hds l tl) : ClsOk X hds tl := by
  induction h with
  | nil => exact .nil
  | plain hc hm hsu r ih => exact .cons hc trivial (fun a oe cls d pn _ _ => hsu a oe pn) ih
  | named hc hm hi hl hh r ih => exact .cons hc ⟨hi, hl⟩ (fun a oe cls d pn hz hv => pss_one (ps_ret (hh a oe cls d pn hz hv))) ih
theorem pick2_run {hds : List ExceptHandler} {l : Hs2} {tl : List Cl} {Dd : Ends} {x : Exn} {cls : Value} {od : Option Addr} (h : HdD C X W hds l tl) (s : Sim C.K Bx σ H e0) (hl : σ'.length = σ.length) (f : Fr σ e0 H H') (hx : ExR C x cls od H')
    (q : (pick2 l x (List.replicate e0.length .un)).run (FlP C.K Bx [] σ H e0 Dd) (EX C W σ H e0)) : wCl C.K W Dd tl cls od σ' H' := by
  have sp : SPost C.K Bx [] σ H e0 σ' H' (List.replicate e0.length .un) := SPost.lost s hl f
  induction h with
  | nil => exact q cls od σ' H' hl hx f
  | @plain y c m h b₀ suite np pos' hds l tl hc hm hsu r ih =>
    unfold pick2 at q
    cases z : m x.cls with
    | none => rw [z] at q; exact q.elim
    | some b =>
      rw [z] at q
      have e1 := hm _ _ z
      rw [← hx.1] at e1
      refine ⟨b, e1, fun hb a _ => ?_, fun hb => ?_⟩
      · subst hb
        exact ⟨_, Bx, sp.s, run_after sp q⟩
      · subst hb
        exact ih q
  | @named y n c m i h e np pos' rp hds l tl hc hm hi hln hh r ih =>
    unfold pick2 at q
    cases z : m x.cls with
    | none => rw [z] at q; exact q.elim
    | some b =>
      rw [z] at q
      have e1 := hm _ _ z
      rw [← hx.1] at e1
      refine ⟨b, e1, fun hb a _ => ?_, fun hb => ?_⟩
      · subst hb
        dsimp only [hN] at q
        split at q
        case isFalse => exact q.elim
        rename_i hlt
        cases zr : h x with
        | none => rw [zr] at q; exact q.elim
        | some r0 =>
          rw [zr] at q
          have hlt' : i < σ'.length := by
            have := s.len
            rw [List.length_replicate] at hlt
            omega
          refine ⟨List.getElem?_set_self hlt', x, r0, hx, zr, fun v H2 k2 rep => q σ' v H2 ⟨Kp.trans f (.ext k2), sp.av, ⟨sp.s.heap k2, rep _⟩, fun z => (by cases z), fun j m => (by cases m)⟩⟩
      · subst hb
        exact ih q
theorem gs_try2 {h₀ : ExceptHandler} {body : List Stmt} {hds : List ExceptHandler} {f : SF} {l : Hs2} {tl : List Cl} (hK : X.K = C.K) (hs : X.stack = X.env :: X.outer) (hf : X.env.frame = some X.env.locals) (hN : X.N.Nodup) (tk : Takes X W)
    (hb : ∀ (W : WX) (pn : List (Addr × Obj)) (xe : Value → Shared → Prop), Takes (X.tr pn xe) W → PassesOwn (model X.prog X.w) X.A X.env xe → GSs C (X.tr pn xe) W [] body f) (hh : HdD C X W (h₀ :: hds) l tl) : GS C X W [] (.Try body (h₀ :: hds) [] [] pos) (sTry2 f l) := by
  refine ps_imp (ps_try_cl hs hf hN tk (tb := fun W => TDs C W [] f) hb hh.ok) fun Dd σ H ⟨e, Bx, s, q⟩ => ⟨e, Bx, s, ?_⟩
  rw [hK]
  unfold sTry2 at q
  cases z : f e with
  | st => rw [z] at q; exact q.elim
  | ok fl e1 => rw [z] at q; exact q
  | ex x =>
    rw [z] at q
    exact fun cls od σ' H' hl hx fr => pick2_run hh s hl fr hx q
end
end G
end L2
namespace L2
namespace G
open PySem PySem.Spec PyProof.Rows
open RZ (ItzT pi_zipA)
section
variable {C : Ct} {X : Cx} {W : WX} {K : PySem.W.Frag} {Bx S B : Addr → Prop} {σ σ' : L2.St} {H H' H1 : Hp} {e0 : En} {a b e : Expr} {es : List Expr} {pos : Pos} {xs ys : List V} {ds dt : List D}
/-! ### for a, b in zip(x, y) -/
def zipD : List D → List D → List D
  | x :: xs, y :: ys => .tuple [x, y] :: zipD xs ys
  | _, _ => []
theorem zipD_at : ∀ {ds dt : List D} {i : Nat} {y : D}, (zipD ds dt)[i]? = some y → ∃ u w, ds[i]? = some u ∧ dt[i]? = some w ∧ y = .tuple [u, w]
  | [], _, _, _, h => by simp [zipD] at h
  | _ :: _, [], _, _, h => by simp [zipD] at h
  | u :: us, w :: ws, 0, y, h => by
    simp [zipD] at h
    exact ⟨u, w, rfl, rfl, h.symm⟩
  | u :: us, w :: ws, i + 1, y, h => by
    simp only [zipD, List.getElem?_cons_succ] at h
    obtain ⟨p, q, h1, h2, h3⟩ := zipD_at h
    exact ⟨p, q, by simpa using h1, by simpa using h2, h3⟩
theorem zipD_le : ∀ {ds dt : List D} {i : Nat}, (zipD ds dt).length ≤ i → ds.length ≤ i ∨ dt.length ≤ i
  | [], _, _, _ => .inl (by simp)
  | _ :: _, [], _, _ => .inr (by simp)
  | _ :: us, _ :: ws, 0, h => by simp [zipD] at h
  | _ :: us, _ :: ws, i + 1, h => by
    simp only [zipD, List.length_cons, Nat.add_le_add_iff_right] at h ⊢
    exact zipD_le h
theorem rep_pair {x y : V} {d d' : D} {T : Addr} (hn : H T = none) (r : Rep K H B x d) (r' : Rep K H B y d') : Rep K (upd H T (.tup [x, y])) B (.ref T) (.tuple [d, d']) :=
  .tup (.inl (.inl upd_same)) ((Reps.cons r (.cons r' .nil)).keep (.new hn))
theorem wk_zip {l l2 : Addr} (q : H1 l = some (.lst xs)) (q2 : H1 l2 = some (.lst ys)) (nS : ¬ S l) (nS2 : ¬ S l2) (rs : Reps K H1 B xs ds) (rs2 : Reps K H1 B ys dt) (hSB : ∀ a, S a → B a) : Wk K S B (Itz K l l2) H1 (zipD ds dt) := by
  intro H B' k hB i
  have e1 : SqL K H l xs := sql_rd (k.keep l _ q nS)
  have e2 : SqL K H l2 ys := sql_rd (k.keep l2 _ q2 nS2)
  have r1 : Reps K H B' xs ds := rs.go (k.anti hSB) hB
  have r2 : Reps K H B' ys dt := rs2.go (k.anti hSB) hB
  refine ⟨fun y hy => ?_, fun hl => ⟨xs, ys, e1, e2, ?_⟩⟩
  · obtain ⟨u, w, hu, hw, rfl⟩ := zipD_at hy
    obtain ⟨x, hx, rx⟩ := r1.getD hu
    obtain ⟨z, hz, rz⟩ := r2.getD hw
    refine ⟨⟨xs, ys, x, z, e1, e2, hx, hz⟩, fun v H' ⟨T, x', z', ev, hn, eH, h1, h2⟩ => ?_⟩
    have := h1 xs e1
    rw [hx] at this; cases this
    have := h2 ys e2
    rw [hz] at this; cases this
    subst ev eH
    exact ⟨ext_new hn, rep_pair hn rx rz⟩
  · rw [rs.length, rs2.length]
    exact zipD_le hl
theorem wk_zipT {l l2 : Addr} (q : SqT K H1 l xs) (q2 : SqT K H1 l2 ys) (rs : Reps K H1 B xs ds) (rs2 : Reps K H1 B ys dt) (hSB : ∀ a, S a → B a) : Wk K S B (ItzT K l l2) H1 (zipD ds dt) := by
  intro H B' k hB i
  have go : ∀ {c : Addr} {us : List V}, SqT K H1 c us → SqT K H c us := fun q => by
    rcases q with q | q
    · exact .inl (k.tup _ _ q)
    · exact .inr q
  have r1 : Reps K H B' xs ds := rs.go (k.anti hSB) hB
  have r2 : Reps K H B' ys dt := rs2.go (k.anti hSB) hB
  refine ⟨fun y hy => ?_, fun hl => ⟨xs, ys, go q, go q2, ?_⟩⟩
  · obtain ⟨u, w, hu, hw, rfl⟩ := zipD_at hy
    obtain ⟨x, hx, rx⟩ := r1.getD hu
    obtain ⟨z, hz, rz⟩ := r2.getD hw
    refine ⟨⟨xs, ys, x, z, go q, go q2, hx, hz⟩, fun v H' ⟨T, x', z', ev, hn, eH, h1, h2⟩ => ?_⟩
    have := h1 xs (go q)
    rw [hx] at this; cases this
    have := h2 ys (go q2)
    rw [hz] at this; cases this
    subst ev eH
    exact ⟨ext_new hn, rep_pair hn rx rz⟩
  · rw [rs.length, rs2.length]
    exact zipD_le hl
def iZp (g : En → Res (List D)) : En → Res (List D) := fun e => (g e).bind fun ds e1 => match ds with
  | [.list xs, .list ys] => .ok (zipD xs ys) e1
  | [.tuple xs, .tuple ys] => .ok (zipD xs ys) e1
  | _ => .st
theorem gi_zp {elts : List Expr} {kk : Nat} {tpos p : Pos} {g : En → Res (List D)} (hK : X.K = C.K) (hg : Gl X "zip") (hm : X.mg "zip" = none) (h : GA C X W [a, b] g) (hs : starEach [a, b] X.env = (false, eval a X.env) :: starEach [b] X.env := by rfl)
    (hpl : (backTo pos (starEach [b] X.env)).any (·.1) = false := by rfl) : GI C X W (.Tuple elts kk tpos) (.Call (.Name "zip" p) [a, b] [] pos) (iZp g) := by
  refine pi_imp (pi_zipA hg hm h hs hpl) fun σ H R ⟨e, Bx, s, q⟩ => ⟨e, Bx, s, run_mono (bind_run q) (fun ds e1 q vs H1 p => ?_) fun _ z => z⟩
  have r := p.r
  split at q
  · rename_i us ws
    cases r with
    | cons r1 r =>
      cases r with
      | cons r2 r =>
        cases r
        cases r1 with
        | @lst l xs _ q1 n1 rs1 =>
          cases r2 with
          | @lst l2 ys _ q2 n2 rs2 =>
            refine ⟨l, l2, xs, ys, rfl, .inl ⟨sql_rd q1, sql_rd q2, q _ H1 ⟨p.fr, p.le, p.s, ?_⟩⟩⟩
            rw [hK]
            exact wk_zip q1 q2 (fun z => n1 z.avo) (fun z => n2 z.avo) rs1 rs2 fun a z => z.avo
  · rename_i us ws
    cases r with
    | cons r1 r =>
      cases r with
      | cons r2 r =>
        cases r
        cases r1 with
        | @tup l xs _ q1 rs1 =>
          cases r2 with
          | @tup l2 ys _ q2 rs2 =>
            refine ⟨l, l2, xs, ys, rfl, .inr ⟨by rw [hK]; exact q1, by rw [hK]; exact q2, q _ H1 ⟨p.fr, p.le, p.s, ?_⟩⟩⟩
            rw [hK]
            exact wk_zipT q1 q2 rs1 rs2 fun a z => z.avo
  · exact q.elim
end
end G
end L2
namespace L2
namespace G
open PySem PySem.Spec PyProof.Rows
section
variable {sf sg : SF} {hs : Hs2} {e : En} {PF : Fl → En → Prop} {P : Rs → En → Prop} {PA : List D → En → Prop} {E : Exn → Prop} {c n : Nat} {num : Bool} {f : XF} {g ga : En → Res (List D)} {φs : List XF} {d : D}
theorem rn_sTry2 : (sTry2 sf hs e).rn PF E = (sf e).rn PF (fun x => (pick2 hs x (List.replicate e.length .un)).rn PF E) := by
  simp only [rn_run]
  unfold sTry2
  cases sf e <;> rfl
theorem rn_q_try2 : (sSeq (sTry2 sf hs) sg e).rn PF E = (sTry2 sf hs e).rn (fun fl e1 => sK fl ((sg e1).rn PF E) fun fl => PF fl e1) E := rn_sSeq
/-- what is raised -/
def rzA (num : Bool) : D → Option D
  | .int i => if i.natAbs.log2 < 1920 then some (.int i) else none
  | .str y => if num = true then none else some (.str y)
  | _ => none
theorem rzA_0 : rzA num (.int 0) = some (.int 0) := by simp [rzA]
theorem rzA_s {y : Str} : rzA false (.str y) = some (.str y) := rfl
theorem rn_sRaiseI : (sRaiseI c num f e).rn PF E = (f e).rn (fun r _ => oK (rzA num r.d) fun d => E ⟨c, some d⟩) E := by
  simp only [rn_run, oK_def]
  unfold sRaiseI
  cases f e with
  | ok r e1 =>
    obtain ⟨d, fr⟩ := r
    cases d <;> try rfl
    · rename_i i
      show (if i.natAbs.log2 < 1920 then Res.ex ⟨c, some (.int i)⟩ else Res.st).run PF E = oK0 (if i.natAbs.log2 < 1920 then some (.int i) else none) fun d => E ⟨c, some d⟩
      split <;> rfl
    · rename_i y
      show (if num = true then Res.st else Res.ex ⟨c, some (.str y)⟩).run PF E = oK0 (if num = true then none else some (.str y)) fun d => E ⟨c, some d⟩
      split <;> rfl
  | st => rfl
  | ex y => rfl
def selA (φs : List XF) : D → Option XF
  | .int j => if φs.length ≤ 100 then atI φs j else none
  | _ => none
theorem rn_xSel : (xSel n φs f ga e).rn P E = aK (φs.length ≤ 100) ((f e).rn (fun r e1 => oK (selA φs r.d) fun φ => (xCall0 n φ ga e1).rn P E) E) := by
  simp only [rn_run, oK_def, aK_def]
  unfold xSel aK0
  by_cases h : φs.length ≤ 100
  · rw [if_pos h, and_iff_right h]
    cases f e with
    | ok r e1 =>
      obtain ⟨d, fr⟩ := r
      cases d <;> try rfl
      rename_i j
      show (match atI φs j with | some φ => xCall0 n φ ga e1 | none => Res.st).run P E = oK0 (if φs.length ≤ 100 then atI φs j else none) fun φ => (xCall0 n φ ga e1).run P E
      rw [if_pos h]
      cases atI φs j <;> rfl
    | st => rfl
    | ex y => rfl
  · rw [if_neg h]
    exact propext ⟨fun z => z.elim, fun z => h z.1⟩
def zpA : List D → Option (List D)
  | [.list xs, .list ys] => some (zipD xs ys)
  | [.tuple xs, .tuple ys] => some (zipD xs ys)
  | _ => none
theorem rn_iZp : (iZp g e).rn PA E = (g e).rn (fun ds e1 => oK (zpA ds) fun l => PA l e1) E := by
  simp only [rn_run, oK_def]
  unfold iZp
  cases g e with
  | ok r e1 =>
    show ((match r with | [.list xs, .list ys] => Res.ok (zipD xs ys) e1 | [.tuple xs, .tuple ys] => Res.ok (zipD xs ys) e1 | _ => Res.st).run PA E) = oK0 (zpA r) fun l => PA l e1
    match r with
    | [.list xs, .list ys] => rfl
    | [.tuple xs, .tuple ys] => rfl
    | [] => rfl
    | [_] => (rename_i a; cases a <;> rfl)
    | a :: b :: c :: l => (cases a <;> cases b <;> rfl)
    | [a, b] => (cases a <;> cases b <;> rfl)
  | st => rfl
  | ex y => rfl
theorem zipD_map {α : Type} {f g : α → D} : ∀ l : List α, zipD (l.map f) (l.map g) = l.map fun x => .tuple [f x, g x]
  | [] => rfl
  | a :: l => by simp [zipD, zipD_map l]
theorem zpA_row {N : Nat} {r s : Nat → Nat} : zpA [rowD N r, rowD N s] = some ((List.range N).map fun (x : Nat) => .tuple [.int (r x : Nat), .int (s x : Nat)]) := by
  show some (zipD ((List.range N).map _) ((List.range N).map _)) = _
  rw [zipD_map]
end
end G
end L2
namespace L2
namespace G
open PySem PySem.Spec PyProof.Rows
section
variable {C : Ct} {X : Cx} {W : WX} {K : PySem.W.Frag} {Bx : Addr → Prop} {io : List Nat} {σ σ' : L2.St} {H H' H3 : Hp} {e0 e' : En} {a b e : Expr} {pos : Pos} {i j : Nat}
/-! ### a, b = x, y, where one of the names is kept in a cell: by a tuple that is dropped -/
theorem SPost.xt (p : SPost K Bx io σ H e0 σ' H' e') (k : Xt H' H3) : SPost K Bx io σ H e0 σ' H3 e' :=
  ⟨Kp.trans p.k (.ext k), p.wr, p.av, p.s.heap k, p.io, p.len⟩
def laterE (D : Ends) : Ends := { D with nx := fun σ' H' => ∀ H3, Xt H' H3 → D.nx σ' H3 }
theorem sPar_later {f g : XF} {D : Ends} (h : TDs C W io (sPar i j f g) D σ H) : TDs C W io (sPar i j f g) (laterE D) σ H := by
  obtain ⟨e, Bx, s, q⟩ := h
  refine ⟨e, Bx, s, run_mono q (fun fl e' z => ?_) fun _ z => z⟩
  cases fl with
  | nx => exact fun σ' H' p H3 k => z σ' H3 (p.xt k)
  | ct => exact z
  | rt r => exact z
theorem gs_parC {x y : Str} {f g : XF} {px py pt : Pos} {kt k2 pt2} (hc : X.calm = true) (hN : X.N.Nodup) (hi : X.N[i]? = some x) (hj : X.N[j]? = some y) (hij : i ≠ j) (hx : Loc X.env.scope x) (hy : Loc X.env.scope y)
    (fx : X.fn x = true ∨ X.env.scope.names.lookup x = some .local) (fy : X.fn y = true ∨ X.env.scope.names.lookup y = some .local)
    (hf : GE C X W a f) (hg : GE C X W b g) (hi' : i ∉ io) (hj' : j ∉ io) (hw : swappedStores [.Tuple [.Name x px, .Name y py] kt pt] (.Tuple [a, b] k2 pt2) X.env = pure none)
    (h1 : starEach [a, b] X.env = (false, eval a X.env) :: starEach [b] X.env := by rfl) (h2 : starEach [b] X.env = (false, eval b X.env) :: starEach [] X.env := by rfl)
    (hs : swapsWithSole [.Tuple [.Name x px, .Name y py] kt pt] (.Tuple [a, b] k2 pt2) pos.line X.env = pure false := by rfl) :
    GS C X W io (.Assign [.Tuple [.Name x px, .Name y py] kt pt] (.Tuple [a, b] k2 pt2) pos) (sPar i j f g) := by
  have t : PG X (.Tuple [.Name x px, .Name y py] kt pt) (gTup X.K 2 (gCons (gName i) (gCons (gName j) gNil))) := pg_tup hc (pgs_cons (pg_name hN hi hx fx) (pgs_cons (pg_name hN hj hy fy) pgs_nil))
  refine ps_imp (ps_asg (pe_tup (pa_cons hf (pa_cons hg pa_nil h2) h1)) t hs hw) fun D σ H h => ?_
  obtain ⟨e, Bx, s, q⟩ := par_run hij hi' hj' (sPar_later h)
  refine ⟨e, Bx, s, run_mono q (fun r e1 z v H1 p => ?_) fun _ z => z⟩
  obtain ⟨e2, By, s2, q2⟩ := z v H1 p
  refine ⟨e2, By, s2, run_mono q2 (fun r2 e3 z v2 H2 p2 => ?_) fun _ z => z⟩
  obtain ⟨v', w', ez, fin⟩ := z v2 H2 p2
  cases ez
  refine ⟨by rw [sizeLine_eq]; exact (by decide : 2 ≤ 16777216), fun p hp => ⟨p, [v, v2], rfl, .inl (.inl upd_same), rfl, v, [v2], rfl, v2, [], rfl, rfl, fin _ (ext_new hp)⟩⟩
end
end G
end L2
namespace L2
namespace G
open PySem PySem.Spec PyProof.Rows
theorem tb_s (p : Nat → Bool) (m : Nat) : tb p (m + 1) = tb p m + (if p m = true then 2 ^ m else 0) := rfl
theorem tb_split (p q : Nat → Bool) : ∀ m, tb (fun x => p x || q x) m = tb (fun x => p x != q x) m + tb (fun x => p x && q x) m
  | 0 => rfl
  | m + 1 => by
    rw [tb_s, tb_s, tb_s, tb_split p q m]
    cases p m <;> cases q m <;> simp <;> omega
theorem tb_big (t : Nat) : ∃ M, ∀ m, M ≤ m → tb (fun x => t.testBit x) m = t := ⟨t, fun m h => tb_of t m (Nat.lt_of_lt_of_le Nat.lt_two_pow_self (Nat.pow_le_pow_right (by decide) h))⟩
theorem tb_xor (p q : Nat → Bool) (m : Nat) : tb p m ^^^ tb q m = tb (fun x => p x != q x) m := by
  refine Nat.eq_of_testBit_eq fun x => ?_
  rw [Nat.testBit_xor, tb_bit, tb_bit, tb_bit]
  by_cases h : x < m <;> simp [h]
theorem or_xor_and (a b : Nat) : a ||| b = (a ^^^ b) + (a &&& b) := by
  obtain ⟨m, hm⟩ : ∃ m, m = a + b := ⟨_, rfl⟩
  have h1 : a < 2 ^ m := Nat.lt_of_lt_of_le Nat.lt_two_pow_self (Nat.pow_le_pow_right (by decide) (by omega))
  have h2 : b < 2 ^ m := Nat.lt_of_lt_of_le Nat.lt_two_pow_self (Nat.pow_le_pow_right (by decide) (by omega))
  clear hm
  rw [← tb_of a m h1, ← tb_of b m h2]
  generalize a.testBit = p
  generalize b.testBit = q
  rw [tb_or, tb_xor, tb_and, tb_split]
theorem bXor_nat (a b : Nat) : Builtin.bitXor (a : Int) (b : Int) = ((a ^^^ b : Nat) : Int) := by
  unfold Builtin.bitXor
  rw [bOr_nat, bAnd_nat, or_xor_and]
  omega
theorem fXor_n {a b : Nat} : fXor (.int (a : Nat)) (.int (b : Nat)) = some ⟨.int ((a ^^^ b : Nat) : Int), false⟩ := by
  show si (Builtin.bitXor (a : Int) (b : Int)) = _
  rw [bXor_nat]
section
variable {f g : XF} {go : En → Res D} {i : Nat} {e : En} {PF : Fl → En → Prop} {P : Rs → En → Prop} {E : Exn → Prop} {ds : List D} {d d' : D}
/-- the list with one place set -/
def setD (ds : List D) : D → D → Option (List D)
  | .int j, d => match ixN ds.length j with | some m => some (ds.set m d) | none => none
  | _, _ => none
theorem rn_sSetI : (sSetI i f g e).rn PF E = (f e).rn (fun r e1 => aK ((ownL i e1).isSome = true) ((g e1).rn (fun k e2 => oK (ownL i e2) fun ds => oK (setD ds k.d r.d) fun ds' => PF .nx (e2.set i (.ow true (.list ds')))) E)) E := by
  simp only [rn_run, oK_def, aK_def]
  unfold sSetI aK0
  cases f e with
  | ok r e1 =>
    show (if (ownL i e1).isSome = true then _ else _ : Res Fl).run PF E = _
    by_cases h : (ownL i e1).isSome = true
    · rw [if_pos h]
      refine Eq.trans ?_ (propext (and_iff_right h)).symm
      cases g e1 with
      | ok k e2 =>
        obtain ⟨kd, kf⟩ := k
        show (match kd, ownL i e2 with | .int j, some ds => (match ixN ds.length j with | some m => Res.ok Fl.nx (e2.set i (.ow true (.list (ds.set m r.d)))) | none => Res.st) | _, _ => Res.st).run PF E = oK0 (ownL i e2) fun ds => oK0 (setD ds kd r.d) fun ds' => PF .nx (e2.set i (.ow true (.list ds')))
        cases ownL i e2 with
        | none => cases kd <;> rfl
        | some ds =>
          cases kd <;> try rfl
          rename_i j
          show (match ixN ds.length j with | some m => Res.ok Fl.nx (e2.set i (.ow true (.list (ds.set m r.d)))) | none => Res.st).run PF E = oK0 (match ixN ds.length j with | some m => some (ds.set m r.d) | none => none) fun ds' => PF .nx (e2.set i (.ow true (.list ds')))
          cases ixN ds.length j <;> rfl
      | st => rfl
      | ex y => rfl
    · rw [if_neg h]
      exact propext ⟨fun z => z.elim, fun z => h z.1⟩
  | st => rfl
  | ex y => rfl
/-- the item that is taken out, and the rest -/
def popD (ds : List D) : D → Option (D × List D)
  | .int j => if ds.length ≤ most then (match ixN ds.length j with | some m => (match ds[m]? with | some d => some (d, ds.eraseIdx m) | none => none) | none => none) else none
  | _ => none
theorem rn_xPopA : (xPopA i go e).rn P E = aK ((ownL i e).isSome = true) ((go e).rn (fun k e1 => oK (ownL i e1) fun ds => oK (popD ds k) fun (q : D × List D) => P (⟨q.1, false⟩ : Rs) (e1.set i (.ow true (.list q.2)))) E) := by
  simp only [rn_run, oK_def, aK_def]
  unfold xPopA aK0
  by_cases h : (ownL i e).isSome = true
  · rw [if_pos h]
    refine Eq.trans ?_ (propext (and_iff_right h)).symm
    cases go e with
    | ok k e1 =>
      show (match k, ownL i e1 with | .int j, some ds => if ds.length ≤ most then (match ixN ds.length j with | some m => (match ds[m]? with | some d => Res.ok (⟨d, false⟩ : Rs) (e1.set i (.ow true (.list (ds.eraseIdx m)))) | none => Res.st) | none => Res.st) else Res.st | _, _ => Res.st).run P E = oK0 (ownL i e1) fun ds => oK0 (popD ds k) fun (q : D × List D) => P (⟨q.1, false⟩ : Rs) (e1.set i (.ow true (.list q.2)))
      cases ownL i e1 with
      | none => cases k <;> rfl
      | some ds =>
        cases k <;> try rfl
        rename_i j
        show (if ds.length ≤ most then (match ixN ds.length j with | some m => (match ds[m]? with | some d => Res.ok (⟨d, false⟩ : Rs) (e1.set i (.ow true (.list (ds.eraseIdx m)))) | none => Res.st) | none => Res.st) else Res.st).run P E = oK0 (if ds.length ≤ most then (match ixN ds.length j with | some m => (match ds[m]? with | some d => some (d, ds.eraseIdx m) | none => none) | none => none) else none) fun (q : D × List D) => P (⟨q.1, false⟩ : Rs) (e1.set i (.ow true (.list q.2)))
        by_cases hm : ds.length ≤ most
        · rw [if_pos hm, if_pos hm]
          cases ixN ds.length j with
          | none => rfl
          | some m =>
            show (match ds[m]? with | some d => Res.ok (⟨d, false⟩ : Rs) (e1.set i (.ow true (.list (ds.eraseIdx m)))) | none => Res.st).run P E = oK0 (match ds[m]? with | some d => some (d, ds.eraseIdx m) | none => none) fun (q : D × List D) => P (⟨q.1, false⟩ : Rs) (e1.set i (.ow true (.list q.2)))
            cases ds[m]? <;> rfl
        · rw [if_neg hm, if_neg hm]; rfl
    | st => rfl
    | ex y => rfl
  · rw [if_neg h]
    exact propext ⟨fun z => z.elim, fun z => h z.1⟩
theorem rn_xLr1 : (xLr1 go e).rn P E = (go e).rn (fun d e1 => oK (match d with | .int n => fRg 0 n | _ => none) fun r => P r e1) E := by
  simp only [rn_run, oK_def]
  unfold xLr1
  cases go e with
  | ok d e1 =>
    cases d <;> try rfl
    rename_i n
    show (match fRg 0 n with | some r => Res.ok r e1 | none => Res.st).run P E = oK0 (fRg 0 n) fun r => P r e1
    cases fRg 0 n <;> rfl
  | st => rfl
  | ex y => rfl
/-- a slot that a comprehension may use -/
def nw : Option Sl → Bool
  | some (.ow _ _) => false
  | _ => true
theorem okW_c {vs : List Nat} : okW e (i :: vs) = (nw e[i]? && okW e vs) := rfl
theorem okW_n : okW e [] = true := rfl
theorem nw_un : nw (some .un) = true := rfl
theorem nw_sh : nw (some (.sh d)) = true := rfl
theorem ixN_nat {n m : Nat} (h : m < n) : ixN n (m : Int) = some m := by
  unfold ixN
  simp
  omega
theorem setD_row {N x v : Nat} {r : Nat → Nat} (h : x < N) : setD ((List.range N).map fun (x : Nat) => .int (r x : Nat)) (.int (x : Nat)) (.int (v : Nat)) = some ((List.range N).map fun (y : Nat) => .int ((if y = x then v else r y : Nat) : Int)) := by
  show (match ixN ((List.range N).map fun (x : Nat) => PyData.int (r x : Nat)).length (x : Int) with | some m => some (((List.range N).map fun (x : Nat) => PyData.int (r x : Nat)).set m (.int (v : Nat))) | none => none) = _
  rw [ixN_nat (by simpa using h)]
  refine congrArg some ?_
  refine List.ext_getElem? fun y => ?_
  rw [List.getElem?_set, List.getElem?_map, List.getElem?_map]
  by_cases hy : x = y
  · subst hy
    simp [h]
  · rw [if_neg hy]
    by_cases hn : y < N
    · simp [hn, Ne.symm hy]
    · simp [hn]
end
end G
end L2
namespace L2
namespace G
open PySem PySem.Spec PyProof.Rows
section
variable {C : Ct} {X : Cx}
/-! ### a tuple, repeated -/
def fRepT : D → D → Option Rs
  | .tuple xs, .int k => if xs ≠ [] ∧ 2 ≤ k ∧ k ≤ 1000 ∧ xs.length ≤ 1000 then some ⟨.tuple (List.replicate k.toNat xs).flatten, false⟩ else none
  | _, _ => none
theorem okRepT : OpOk C fRepT (rRepT C.K) := by
  intro Bx σ H e0 d1 d2 v1 v2 z Q hz s o1 o2 q
  unfold fRepT at hz
  split at hz
  · rename_i ds k
    split at hz
    · rename_i hl
      cases hz
      obtain ⟨h0, h1, h2, h3⟩ := hl
      obtain ⟨a, xs, rfl, hq, r1⟩ := o1.tuple
      refine ⟨a, k, xs, rfl, o2.int, hq, fun z => h0 ?_, h1, h2, by rw [r1.length]; exact h3, fun p hp => q _ _ (.newT s hp (r1.flat _))⟩
      have := r1.length
      rw [z] at this
      exact List.length_eq_zero_iff.mp this.symm
    · cases hz
  · cases hz
def fMulT : D → D → Option Rs := fun x y => match fMul x y with | some z => some z | none => fRepT x y
def rMulT (K : PySem.W.Frag) : R2 := fun x y H Q => rMulA x y H Q ∨ rRepT K x y H Q
theorem op_mulT : OpR X (binaryOp .Mult) (rMulT X.K) := op_mulA.or op_repT
theorem ok_mulT : OpOk C fMulT (rMulT C.K) := ok_mul.or okRepT
theorem fMulT_1 {d : D} {k : Nat} (h1 : 2 ≤ k) (h2 : k ≤ 1000) : fMulT (.tuple [d]) (.int (k : Nat)) = some ⟨.tuple (List.replicate k d), false⟩ := by
  show (if [d] ≠ [] ∧ (2 : Int) ≤ (k : Nat) ∧ ((k : Nat) : Int) ≤ 1000 ∧ [d].length ≤ 1000 then some (⟨.tuple (List.replicate (k : Int).toNat [d]).flatten, false⟩ : Rs) else none) = _
  rw [if_pos ⟨by simp, by omega, by omega, by simp⟩, Int.toNat_natCast]
  congr 3
  clear h1 h2
  induction k with
  | zero => rfl
  | succ k ih => rw [List.replicate_succ, List.replicate_succ, List.flatten_cons, ih]; rfl
end
end G
end L2
namespace L2
namespace G
open PySem PySem.Spec PyProof.Rows
/-- what isinstance asks of an exception's class D, and what it answers for the class at F -/
structure IsF (K : PySem.W.Frag) (D F : Addr) (b : Bool) : Prop where
  cl : (PySem.W.clsIn K D).isSome = true
  ga : PySem.W.findIn K (.ref D) "__getattribute__" = some (some (.builtin "BaseException.__getattribute__"))
  gg : PySem.W.findIn K (.ref D) "__getattr__" = some none
  eb : PySem.W.subIn K (.ref D) (.type "BaseException") = some true
  ca : PySem.W.findIn K (.ref D) "__class__" = some (some (.builtin "object.__class__"))
  sp : PySem.W.specialIn K (.builtin "object.__class__") "__get__" = some (some (.builtin "getset_descriptor.__get__"))
  tk : PySem.W.takesIn K (.builtin "object.__class__") = some true
  mo : PySem.W.mroIn K D (.type "object") = some true
  is : PySem.W.kitOne K (.ref D) (.ref F) = some b
section
variable {C : Ct} {X : Cx} {a F : Addr} {oe : Obj} {pn : List (Addr × Obj)} {c i : Nat} {b : Bool}
def rIsX (C : Ct) (c : Nat) (a F : Addr) (d : Option Addr) (b : Bool) : List V → Hp → VK → Prop := fun xs H Q => xs = [.ref a, .ref F] ∧ (d = none ∨ ∃ dd fs, d = some dd ∧ H dd = some (.xd fs)) ∧ Q (.bl b) H
theorem call_isX {d : Option Addr} (T : IsF X.K (C.cl c) F b) (hz : Zc (.ref (C.cl c)) d oe) (hf : ∃ vs, oe.data = .fields vs) : CallR (X.suite a ((a, oe) :: pn)) (.builtin "isinstance") (rIsX C c a F d b) := by
  intro pins s σ H xs us Q I r h
  obtain ⟨rfl, hd, q⟩ := h
  cases r with
  | cons rx rr =>
    cases rr with
    | cons ry rr =>
      cases rr
      cases rx
      cases ry
      obtain ⟨hget, _⟩ := I.pin (a, oe) (List.mem_append.mpr (.inl List.mem_cons_self))
      obtain ⟨vs, hv⟩ := hf
      have key : ∃ od, PySem.W.InstAt s.heap a oe (C.cl c) od := by
        have hn : PySem.W.notCls oe = true := by unfold PySem.W.notCls; rw [hv] <;> rfl
        rcases hd with rfl | ⟨dd, fs, rfl, hdd⟩
        · exact ⟨none, hget, hz.1, hn, by rw [hz.2]; trivial⟩
        · obtain ⟨mA, hns, _⟩ := (I.hok dd _ hdd : ObjOk X.prog X.w H s.heap dd (.xd fs))
          obtain ⟨od, ho, _⟩ := lookIn_ns hns
          exact ⟨some od, hget, hz.1, hn, by rw [hz.2]; exact ho⟩
      obtain ⟨od, J⟩ := key
      exact PySem.W.kia_one (PySem.W.kitx_exc T.cl T.ga T.gg T.eb T.ca T.sp T.tk T.mo) I.kIn J T.is (fun z => nomatch z) fun tk => ⟨.bl b, H, I.kept (t' := tk) fun _ _ z => z, rfl, q⟩
/-- isinstance(e, F), e the exception at hand -/
theorem pe_isX {d : Option Addr} {n fn : Str} {p p1 p2 pos : Pos} (T : IsF X.K (C.cl c) F b) (hz : Zc (.ref (C.cl c)) d oe) (hf : ∃ vs, oe.data = .fields vs) (hN : X.N[i]? = some n) (hv : Vis X.env.scope n) (hg : Gl X "isinstance") (hm : X.mg "isinstance" = none) (hF : Gl X fn) (mF : X.mg fn = some (.ref F))
    (hd : (n == ("__debug__" : Str)) = false := by decide) (hcd : (n == ("__classdict__" : Str)) = false := by decide) (hdF : (fn == ("__debug__" : Str)) = false := by decide)
    (hs : starEach [.Name n p1, .Name fn p2] X.env = (false, eval (.Name n p1) X.env) :: starEach [.Name fn p2] X.env := by rfl) (hs2 : starEach [.Name fn p2] X.env = (false, eval (.Name fn p2) X.env) :: starEach [] X.env := by rfl)
    (hpl : (backTo pos (starEach [.Name fn p2] X.env)).any (·.1) = false := by rfl) :
    PE (X.suite a ((a, oe) :: pn)) (.Call (.Name "isinstance" p) [.Name n p1, .Name fn p2] [] pos) (fun τ H Q => τ[i]? = some (some (.ref a)) ∧ (d = none ∨ ∃ dd fs, d = some dd ∧ H dd = some (.xd fs)) ∧ Q (.bl b) H) := by
  have ev : PE (X.suite a ((a, oe) :: pn)) (.Name n p1) (tVar i) := pe_var (X := X.suite a ((a, oe) :: pn)) hN hv hd hcd
  have ef : PE (X.suite a ((a, oe) :: pn)) (.Name fn p2) (tC (.ref F)) := pe_glob (X := X.suite a ((a, oe) :: pn)) hF mF rfl hdF
  refine pe_imp (pe_callB (X := X.suite a ((a, oe) :: pn)) (call_isX T hz hf) hg hm PyProof.Rows.boot_isinstance (pa_cons ev (pa_cons ef pa_nil hs2) hs) (by decide) (by decide) hs hpl) fun τ H Q ⟨h1, h2, h3⟩ => ?_
  exact ⟨_, h1, rfl, h2, h3⟩
/-- x if isinstance(e, F) else y: it is one -/
def nIs (c : Nat) (f : Exn → Option D) : Exn → Option D := fun y => if y.cls = c then f y else none
theorem ne_isx {f : Exn → Option D} {n fn : Str} {p p1 p2 pos qos : Pos} {u w : Expr} (T : IsF C.K (C.cl c) F true) (hK : X.K = C.K) (hN : X.N[i]? = some n) (hv : Vis X.env.scope n) (hg : Gl X "isinstance") (hm : X.mg "isinstance" = none) (hF : Gl X fn) (mF : X.mg fn = some (.ref F)) (hu : NE C X i u f)
    (hw : ∃ g, NE C X i w g)
    (hd : (n == ("__debug__" : Str)) = false := by decide) (hcd : (n == ("__classdict__" : Str)) = false := by decide) (hdF : (fn == ("__debug__" : Str)) = false := by decide)
    (hs : starEach [.Name n p1, .Name fn p2] X.env = (false, eval (.Name n p1) X.env) :: starEach [.Name fn p2] X.env := by rfl) (hs2 : starEach [.Name fn p2] X.env = (false, eval (.Name fn p2) X.env) :: starEach [] X.env := by rfl)
    (hpl : (backTo pos (starEach [.Name fn p2] X.env)).any (·.1) = false := by rfl)
    (ht : ∀ whole, isTrue (.Call (.Name "isinstance" p) [.Name n p1, .Name fn p2] [] pos) X.env whole = (do let v ← whole; standAt pos; holding [v] (truthy v)) := by exact fun _ => rfl) :
    NE C X i (.IfExp (.Call (.Name "isinstance" p) [.Name n p1, .Name fn p2] [] pos) u w qos) (nIs c f) := by
  rw [← hK] at T
  obtain ⟨g, hw⟩ := hw
  intro a oe cls d pn hz hf
  refine ⟨fun pins s τ H Q I ⟨hi, y, r, hx, hr, q⟩ => ?_⟩
  unfold nIs at hr
  split at hr
  case isFalse => cases hr
  rename_i hc
  obtain ⟨k1, k2, k3⟩ := id hx
  rw [hc] at k1
  subst k1
  have hdd : d = none ∨ ∃ dd fs, d = some dd ∧ H dd = some (.xd fs) := by
    cases z : y.arg with
    | none => exact .inl (k3 z)
    | some p0 =>
      obtain ⟨dd, v, e1, e2, _⟩ := k2 p0 z
      exact .inr ⟨dd, _, e1, e2⟩
  have pt := pt_truth (pe_isX (oe := oe) (a := a) (pn := pn) (d := d) T hz hf hN hv hg hm hF mF hd hcd hdF hs hs2 hpl) ht
  exact (pe_ifExp pt (hu a oe _ d pn hz hf) (hw a oe _ d pn hz hf)).run pins s τ H Q I ⟨hi, hdd, true, rfl, hi, y, r, hx, hr, q⟩
theorem ne_isq {f : Exn → Option D} {n fn : Str} {p p1 p2 pos qos : Pos} {u w : Expr} (hQ : ∃ F, X.mg fn = some (.ref F) ∧ IsF C.K (C.cl c) F true) (hK : X.K = C.K) (hN : X.N[i]? = some n) (hv : Vis X.env.scope n) (hg : Gl X "isinstance") (hm : X.mg "isinstance" = none) (hF : Gl X fn) (hu : NE C X i u f)
    (hw : ∃ g, NE C X i w g)
    (hd : (n == ("__debug__" : Str)) = false := by decide) (hcd : (n == ("__classdict__" : Str)) = false := by decide) (hdF : (fn == ("__debug__" : Str)) = false := by decide)
    (hs : starEach [.Name n p1, .Name fn p2] X.env = (false, eval (.Name n p1) X.env) :: starEach [.Name fn p2] X.env := by rfl) (hs2 : starEach [.Name fn p2] X.env = (false, eval (.Name fn p2) X.env) :: starEach [] X.env := by rfl)
    (hpl : (backTo pos (starEach [.Name fn p2] X.env)).any (·.1) = false := by rfl)
    (ht : ∀ whole, isTrue (.Call (.Name "isinstance" p) [.Name n p1, .Name fn p2] [] pos) X.env whole = (do let v ← whole; standAt pos; holding [v] (truthy v)) := by exact fun _ => rfl) :
    NE C X i (.IfExp (.Call (.Name "isinstance" p) [.Name n p1, .Name fn p2] [] pos) u w qos) (nIs c f) := by
  obtain ⟨F, mF, T⟩ := hQ
  exact ne_isx T hK hN hv hg hm hF mF hu hw hd hcd hdF hs hs2 hpl ht
end
end G
end L2
namespace L2
namespace G
open PySem PySem.Spec PyProof.Rows
section
variable {C : Ct} {X : Cx} {W : WX} {K : PySem.W.Frag} {Bx S B : Addr → Prop} {io : List Nat} {σ σ' τ τ2 : L2.St} {H H' H0 H1 H2 H3 H4 Hy : Hp} {e0 e' e1 e2 e3 e4 : En} {e a b : Expr} {pos : Pos} {d : D} {v x : V} {L : Addr} {vs vs1 : List Nat} {acc ds1 : List D}
/-! two fors in a comprehension -/
theorem wipeE_in {i : Nat} : ∀ {us : List Nat}, i ∈ us → (wipeE e0 us)[i]? = if i < e0.length then some Sl.un else none
  | [], m => nomatch m
  | u :: us, m => by
    have hl : (wipeE e0 us).length = e0.length := by
      clear m; induction us with
      | nil => rfl
      | cons w ws ih => unfold wipeE; rw [List.length_set]; exact ih
    unfold wipeE
    by_cases c : u = i
    · subst c
      by_cases q : u < e0.length
      · rw [List.getElem?_set_self (by rw [hl]; exact q), if_pos q]
      · rw [List.getElem?_eq_none (by rw [List.length_set, hl]; omega), if_neg q]
    · rw [List.getElem?_set_ne c]
      exact wipeE_in ((List.mem_cons.mp m).resolve_left fun z => c z.symm)
theorem wipeE_len : ∀ {us : List Nat}, (wipeE e0 us).length = e0.length
  | [] => rfl
  | u :: us => by unfold wipeE; rw [List.length_set]; exact wipeE_len
theorem wipeE_sub (h : ∀ i ∈ vs1, i ∈ vs) : wipeE (wipeE e0 vs1) vs = wipeE e0 vs := by
  apply List.ext_getElem?
  intro i
  by_cases m : i ∈ vs
  · rw [wipeE_in m, wipeE_in m, wipeE_len]
  · rw [wipeE_out m, wipeE_out m, wipeE_out fun z => m (h i z)]
theorem wipe_sub (h : ∀ i ∈ vs1, i ∈ vs) : L2.wipe (L2.wipe σ vs1) vs = L2.wipe σ vs :=
  wipe_eq (by rw [wipe_length]) fun i m => wipe_out fun z => (by simpa [oth] using (List.mem_filter.mp m).2 : i ∉ vs) (h i z)
def lcOuter (g : Rs → En → Option En) (tt : En → Res Bool) (it1 : En → Res (List D)) (g1 : Rs → En → Option En) (tt1 : En → Res Bool) (te : XF) (vs vs1 : List Nat) : List D → List D → En → Res (List D)
  | [], acc, e => .ok acc e
  | d :: ds, acc, e => match g ⟨d, false⟩ (wipeE e vs) with
    | none => .st
    | some e2 => match tt e2 with
      | .ok true e3 => match it1 e3 with
        | .ok ds1 e4 => (lcLoop g1 tt1 te vs1 ds1 acc e4).bind fun acc' e5 => lcOuter g tt it1 g1 tt1 te vs vs1 ds acc' e5
        | _ => .st
      | .ok false e3 => lcOuter g tt it1 g1 tt1 te vs vs1 ds acc e3
      | _ => .st
/-- [te for g in it if tt for g1 in it1 if tt1] -/
def xLc2 (it : En → Res (List D)) (g : Rs → En → Option En) (tt : En → Res Bool) (it1 : En → Res (List D)) (g1 : Rs → En → Option En) (tt1 : En → Res Bool) (te : XF) (vs vs1 : List Nat) : XF := fun e =>
  (it e).bind fun ds e1 => if okW e1 vs then (lcOuter g tt it1 g1 tt1 te vs vs1 ds [] e1).bind fun ys e2 => .ok ⟨.list ys, true⟩ (resE e1 e2 vs) else .st
/-- between the turns of a walk over slots τ, begun at H0, e0; S: what may have changed since -/
structure LcK (K : PySem.W.Frag) (Bx S : Addr → Prop) (τ : L2.St) (vs : List Nat) (H0 : Hp) (e0 : En) (L : Addr) (acc : List D) (H : Hp) (e : En) : Prop where
  k : Kp S H0 H
  s : Sim K (ad Bx L) (L2.wipe τ vs) H (wipeE e vs)
  len : e.length = e0.length
  wr : ∀ a, Wr (L2.wipe τ vs) (wipeE e vs) a → Wr τ e0 a
  av : ∀ a, Av (L2.wipe τ vs) (wipeE e vs) a → Av τ e0 a
  l : ∃ xs, H L = some (.lst xs) ∧ Reps K H (Avo (ad Bx L) (L2.wipe τ vs) (wipeE e vs)) xs acc
theorem LcK.lci (h : LcK K Bx (Wr τ e0) τ vs H0 e0 L acc H e1) : LcI K Bx τ vs H0 e0 L acc H e1 := ⟨h.k, h.s, h.len, h.wr, h.av, h.l⟩
theorem LcK.start {L : Addr} (s : Sim K Bx σ H1 e1) (h : H1 L = none) : LcK K Bx (Wr σ e1) σ vs H1 e1 L [] (upd H1 L (.lst [])) e1 := by
  have q := LcI.start (vs := vs) s h
  exact ⟨q.k, q.s, q.len, q.wr, q.av, q.l⟩
section
variable (hlen : e0.length = τ.length) (hS : ∀ a, Wr τ e0 a → S a) (hL : H0 L = none ∨ S L) (h : LcK K Bx S τ vs H0 e0 L acc H e1) (ky : ∀ a o, H a = some o → Hy a = some o)
  (g : GPost K (ad Bx L) (oth τ.length vs) (L2.wipe τ vs) Hy (wipeE e1 vs) ⟨d, false⟩ x τ2 e2) (t : PostT K (ad Bx L) τ2 Hy e2 e3 H3)
include hlen hS hL h ky g t
theorem LcK.turn : L2.wipe τ2 vs = L2.wipe τ vs ∧ LcK K Bx S τ vs H0 e0 L acc H3 e3 ∧ (∀ {r e4 y H4}, Post K (ad Bx L) τ2 H3 e3 r e4 y H4 → ∃ xs, H4 L = some (.lst xs) ∧ xs.length = acc.length ∧ LcK K Bx S τ vs H0 e0 L (acc ++ [r.d]) (upd H4 L (.lst (xs ++ [y]))) e4) := by
  have hw : L2.wipe τ2 vs = L2.wipe τ vs := (wipe_eq (σ := L2.wipe τ vs) (by rw [g.len]) (by rw [wipe_length]; exact g.io)).trans wipe_wipe
  obtain ⟨xs, hx, rx⟩ := h.l
  have wr2 : ∀ a, Wr τ2 e2 a → Wr (L2.wipe τ vs) (wipeE e1 vs) a := fun a z => (g.wr a z).elim id fun z => nomatch z.1
  have av2 : ∀ a, Av τ2 e2 a → Av (L2.wipe τ vs) (wipeE e1 vs) a := fun a z => (g.av a z).elim id fun z => nomatch z.1
  have wr3 : ∀ a, Wr τ2 e3 a → Wr (L2.wipe τ vs) (wipeE e1 vs) a := fun a z => wr2 a (t.le.wr a z)
  have av3 : ∀ a, Av τ2 e3 a → Av (L2.wipe τ vs) (wipeE e1 vs) a := fun a z => av2 a (t.le.av a z)
  have noL : ¬ Wr τ2 e2 L := fun ⟨j, d', q1, q2⟩ => by
    obtain ⟨a, r1, r2, _⟩ := g.s.ow j true d' q1
    rw [q2] at r1; cases r1; exact r2 (.inr rfl)
  have k3 : Kp (Wr (L2.wipe τ vs) (wipeE e1 vs)) H H3 := Kp.trans (.ext ky) (t.fr.anti wr2)
  have K3 : Kp S H0 H3 := h.k.trans (k3.anti fun a z => hS a (h.wr a z))
  have hx3 : H3 L = some (.lst xs) := t.fr.keep L _ (ky L _ hx) noL
  have len3 : e3.length = e0.length := by rw [t.s.len, g.len, wipe_length, hlen]
  obtain ⟨s3, w3, a3⟩ := t.s.wipe vs
  rw [hw] at s3 w3 a3
  have rx3 : Reps K H3 (Avo (ad Bx L) (L2.wipe τ vs) (wipeE e3 vs)) xs acc := (rx.keep (k3.anti fun a z => .inl z.av)).anti fun a z => z.imp (fun z => av3 a (a3 a z)) id
  refine ⟨hw, ⟨K3, s3, len3, fun a z => h.wr a (wr3 a (w3 a z)), fun a z => h.av a (av3 a (a3 a z)), xs, hx3, rx3⟩, fun {r e4 y H4} p => ?_⟩
  have nL3 : ¬ Wr τ2 e3 L := fun z => noL (t.le.wr L z)
  have hx4 : H4 L = some (.lst xs) := p.fr.keep L _ hx3 nL3
  have K4 : Kp S H0 H4 := K3.trans (p.fr.anti fun a z => hS a (h.wr a (wr3 a z)))
  have k5 : ∀ {B : Addr → Prop}, B L → Kp B H4 (upd H4 L (.lst (xs ++ [y]))) := fun b => .write hx4 trivial b
  have K5 : Kp S H0 (upd H4 L (.lst (xs ++ [y]))) := by
    rcases hL with hL | hL
    · have w := k5 (B := fun _ => True) trivial
      refine ⟨fun a o q n => ?_, fun a n => w.there a (K4.there a n), fun a zs q => w.tup a zs (K4.tup a zs q), fun a lo hi q => w.rng a lo hi (K4.rng a lo hi q)⟩
      rw [upd_ne (ne_of_none q hL)]; exact K4.keep a o q n
    · exact K4.trans (k5 hL)
  obtain ⟨s5, w5, a5⟩ := (p.s.writeB (ys := xs ++ [y]) hx4).wipe vs
  rw [hw] at s5 w5 a5
  have le4 : ∀ a, Av (L2.wipe τ vs) (wipeE e4 vs) a → Av τ2 e3 a := fun a z => p.le.av a (a5 a z)
  refine ⟨xs, hx4, rx.length, K5, s5, by rw [p.s.len, g.len, wipe_length, hlen], fun a z => h.wr a (wr3 a (p.le.wr a (w5 a z))), fun a z => h.av a (av3 a (le4 a z)), xs ++ [y], upd_same, ?_⟩
  have q1 : Reps K (upd H4 L (.lst (xs ++ [y]))) (Avo (ad Bx L) (L2.wipe τ vs) (wipeE e4 vs)) xs acc := by
    have z1 : Reps K H4 (Avo (ad Bx L) (L2.wipe τ vs) (wipeE e1 vs)) xs acc := rx.keep ((k3.trans (p.fr.anti wr3)).anti fun a z => .inl z.av)
    exact (z1.keep (k5 (.inr (.inr rfl)))).anti fun a z => z.imp (fun z => av3 a (le4 a z)) id
  have q2 : Rep K (upd H4 L (.lst (xs ++ [y]))) (Avo (ad Bx L) (L2.wipe τ vs) (wipeE e4 vs)) y r.d := (p.rp.keep (k5 (.inr (.inr rfl)))).anti fun a z => z.imp (fun z => a5 a z) id
  exact q1.append (.cons q2 .nil)
/-- the inner walk begins -/
theorem LcK.inner {J : It} (p : PostI K (ad Bx L) τ2 H3 e3 ds1 e4 J H4) : LcK K Bx (fun a => Wr τ2 e4 a ∨ a = L) τ2 vs1 H4 e4 L acc H4 e4 ∧ Kp S H0 H4 := by
  obtain ⟨xs, hx, rx⟩ := h.l
  have wr2 : ∀ a, Wr τ2 e2 a → Wr (L2.wipe τ vs) (wipeE e1 vs) a := fun a z => (g.wr a z).elim id fun z => nomatch z.1
  have av2 : ∀ a, Av τ2 e2 a → Av (L2.wipe τ vs) (wipeE e1 vs) a := fun a z => (g.av a z).elim id fun z => nomatch z.1
  have noL : ¬ Wr τ2 e2 L := fun ⟨j, d', q1, q2⟩ => by
    obtain ⟨a, r1, r2, _⟩ := g.s.ow j true d' q1
    rw [q2] at r1; cases r1; exact r2 (.inr rfl)
  have k3 : Kp (Wr (L2.wipe τ vs) (wipeE e1 vs)) H H3 := Kp.trans (.ext ky) (t.fr.anti wr2)
  have k4 : Kp (Wr (L2.wipe τ vs) (wipeE e1 vs)) H H4 := k3.trans (p.fr.anti fun a z => wr2 a (t.le.wr a z))
  have hx4 : H4 L = some (.lst xs) := p.fr.keep L _ (t.fr.keep L _ (ky L _ hx) noL) fun z => noL (t.le.wr L z)
  obtain ⟨s4, w4, a4⟩ := p.s.wipe vs1
  refine ⟨⟨.refl, s4, rfl, w4, a4, xs, hx4, ?_⟩, h.k.trans (k4.anti fun a z => hS a (h.wr a z))⟩
  exact (rx.keep (k4.anti fun a z => .inl z.av)).anti fun a z => z.imp (fun z => av2 a (t.le.av a (p.le.av a (a4 a z)))) id
/-- the inner walk is over -/
theorem LcK.outer {J : It} {Hz : Hp} {acc' : List D} {ez : En} (hL0 : H0 L = none) (hsub : ∀ i ∈ vs1, i ∈ vs) (p : PostI K (ad Bx L) τ2 H3 e3 ds1 e4 J H4) (I : LcK K Bx (fun a => Wr τ2 e4 a ∨ a = L) τ2 vs1 H4 e4 L acc' Hz ez) : LcK K Bx S τ vs H0 e0 L acc' Hz ez := by
  have hw : L2.wipe τ2 vs = L2.wipe τ vs := (wipe_eq (σ := L2.wipe τ vs) (by rw [g.len]) (by rw [wipe_length]; exact g.io)).trans wipe_wipe
  have K4 := (LcK.inner (vs1 := vs1) hlen hS hL h ky g t p).2
  have wr4 : ∀ a, Wr τ2 e4 a → Wr τ e0 a := fun a z => h.wr a ((g.wr a (t.le.wr a (p.le.wr a z))).elim id fun z => nomatch z.1)
  have av4 : ∀ a, Av τ2 e4 a → Av τ e0 a := fun a z => h.av a ((g.av a (t.le.av a (p.le.av a z))).elim id fun z => nomatch z.1)
  obtain ⟨s5, w5, a5⟩ := I.s.wipe vs
  rw [wipe_sub hsub, hw, wipeE_sub hsub] at s5 w5 a5
  obtain ⟨xs, hx, rx⟩ := I.l
  refine ⟨⟨fun a o q n => I.k.keep a o (K4.keep a o q n) fun z => z.elim (fun z => n (hS a (wr4 a z))) fun z => ?_, fun a n => I.k.there a (K4.there a n), fun a zs q => I.k.tup a zs (K4.tup a zs q), fun a lo hi q => I.k.rng a lo hi (K4.rng a lo hi q)⟩, s5, ?_, fun a z => wr4 a (I.wr a (w5 a z)), fun a z => av4 a (I.av a (a5 a z)), xs, hx, rx.anti fun a z => z.imp (a5 a) id⟩
  · rw [z, hL0] at q; cases q
  · rw [I.len, p.s.len, g.len, wipe_length, hlen]
end
theorem lc2_run {it it1 : En → Res (List D)} {g g1 : Rs → En → Option En} {tt tt1 : En → Res Bool} {te : XF} {n : Nat} {Q : VK} (hn : σ.length = n) (hsub : ∀ i ∈ vs1, i ∈ vs) (h : TD C W (xLc2 it g tt it1 g1 tt1 te vs vs1) σ H Q) :
    tLc2 (TDi C W it) (TDg C (oth n vs) g) (TDt C W0 tt) (TDi C W0 it1) (TDg C (oth n vs1) g1) (TDt C W0 tt1) (TD C W0 te) vs vs1 σ H Q := by
  subst hn
  obtain ⟨e, Bx, s, q⟩ := h
  refine ⟨e, Bx, s, run_mono (bind_run q) (fun ds e1 q J H1 p => ?_) fun _ z => z⟩
  split at q
  case isFalse => exact q.elim
  rename_i ok
  intro L hL
  let G (ys : List D) (e2 : En) : Prop := (.ok ⟨.list ys, true⟩ (resE e1 e2 vs) : Res Rs).run (fun r e' => ∀ v H', Post C.K Bx σ H e r e' v H' → Q v H') (EX C W σ H1 e1)
  let R (x : Res (List D)) : Prop := (x.bind fun ys e2 => (.ok ⟨.list ys, true⟩ (resE e1 e2 vs) : Res Rs)).run (fun r e' => ∀ v H', Post C.K Bx σ H e r e' v H' → Q v H') (EX C W σ H1 e1)
  let T (i : Nat) (Hh : Hp) : Prop := ∃ e2 acc, LcK C.K Bx (Wr σ e1) σ vs H1 e1 L acc Hh e2 ∧ R (lcOuter g tt it1 g1 tt1 te vs vs1 (ds.drop i) acc e2)
  have hlen : e1.length = σ.length := p.s.len
  refine ⟨fun i m Hh => m = ds.length - i ∧ i ≤ ds.length ∧ T i Hh, ⟨ds.length, by simp, Nat.zero_le _, e1, [], .start p.s hL, ?_⟩, ?_⟩
  · show R _
    rw [List.drop_zero]
    cases z : lcOuter g tt it1 g1 tt1 te vs vs1 ds [] e1 with
    | st => rw [z] at q; exact q.elim
    | ok a b => rw [z] at q; exact q
    | ex y => rw [z] at q; exact EX.after q p.fr p.le
  rintro i m H2 ⟨rfl, hi, e2, acc, I, q⟩
  have hB : ∀ a, Avo (ad Bx L) (L2.wipe σ vs) (wipeE e2 vs) a → H1 a ≠ none → Avo Bx σ e1 a := fun a z n => by
    rcases z with z | z | z
    · exact .inl (I.av a z)
    · exact .inr z
    · rw [z] at n; exact absurd hL n
  obtain ⟨w1, w2⟩ := p.w H2 (Avo (ad Bx L) (L2.wipe σ vs) (wipeE e2 vs)) (I.k.anti fun _ z => .inl z) hB i
  by_cases hl : i < ds.length
  · obtain ⟨go, yl⟩ := w1 ds[i] (List.getElem?_eq_getElem hl)
    rw [List.drop_eq_getElem_cons hl] at q
    refine .inr ⟨go, T (i + 1), fun H3 t => ⟨ds.length - (i + 1), by omega, rfl, hl, t⟩, fun x Hy y => ?_⟩
    obtain ⟨ky, rp⟩ := yl x Hy y
    have sy := I.s.heap ky
    unfold lcOuter at q
    cases z : g ⟨ds[i], false⟩ (wipeE e2 vs) with
    | none => rw [z] at q; exact q.elim
    | some e3 =>
      rw [z] at q
      refine ⟨wipeE e2 vs, ad Bx L, ⟨ds[i], false⟩, e3, ⟨sy, rp⟩, z, fun σ2 g2 => ?_⟩
      have hw : L2.wipe σ2 vs = L2.wipe σ vs := (wipe_eq (σ := L2.wipe σ vs) (by rw [g2.len]) (by rw [wipe_length]; exact g2.io)).trans wipe_wipe
      refine ⟨hw, e3, ad Bx L, g2.s, ?_⟩
      cases zt : tt e3 with
      | st => simp only [zt] at q; exact q.elim
      | ex _ => simp only [zt] at q; exact q.elim
      | ok b e4 =>
        simp only [zt] at q
        show ∀ H3, PostT C.K (ad Bx L) σ2 Hy e3 e4 H3 → _
        intro H3 t
        cases b with
        | false =>
          obtain ⟨_, I3, _⟩ := LcK.turn hlen (fun _ z => z) (.inl hL) I ky g2 t
          exact iteF ⟨e4, acc, I3, q⟩
        | true =>
          refine iteT ⟨e4, ad Bx L, t.s, ?_⟩
          simp only at q
          cases zi : it1 e4 with
          | st => simp only [zi] at q; exact q.elim
          | ex _ => simp only [zi] at q; exact q.elim
          | ok ds1 e5 =>
            simp only [zi] at q
            show ∀ J1 H4, PostI C.K (ad Bx L) σ2 H3 e4 ds1 e5 J1 H4 → _
            intro J1 H4 pI
            obtain ⟨I4, _⟩ := LcK.inner (vs1 := vs1) hlen (fun _ z => z) (.inl hL) I ky g2 t pI
            have back : ∀ {Hz acc' ez}, LcK C.K Bx (fun a => Wr σ2 e5 a ∨ a = L) σ2 vs1 H4 e5 L acc' Hz ez → LcK C.K Bx (Wr σ e1) σ vs H1 e1 L acc' Hz ez := fun {Hz acc' ez} I => LcK.outer hlen (fun _ z => z) (.inl hL) ‹_› ky g2 t hL hsub pI I
            have hlen2 : e5.length = σ2.length := pI.s.len
            have hl2 : σ2.length = σ.length := by rw [g2.len, wipe_length]
            refine ⟨fun j k Hh => k = ds1.length - j ∧ j ≤ ds1.length ∧ ∃ ez acc', LcK C.K Bx (fun a => Wr σ2 e5 a ∨ a = L) σ2 vs1 H4 e5 L acc' Hh ez ∧ R ((lcLoop g1 tt1 te vs1 (ds1.drop j) acc' ez).bind fun acc'' e6 => lcOuter g tt it1 g1 tt1 te vs vs1 (ds.drop (i + 1)) acc'' e6), ⟨ds1.length, by simp, Nat.zero_le _, e5, acc, I4, by rw [List.drop_zero]; exact q⟩, ?_⟩
            clear q
            rintro j k H5 ⟨rfl, hj, ez, acc', I5, q⟩
            have hB1 : ∀ a, Avo (ad Bx L) (L2.wipe σ2 vs1) (wipeE ez vs1) a → H4 a ≠ none → Avo (ad Bx L) σ2 e5 a := fun a z n => z.imp (I5.av a) id
            obtain ⟨u1, u2⟩ := pI.w H5 (Avo (ad Bx L) (L2.wipe σ2 vs1) (wipeE ez vs1)) (I5.k.anti fun _ z => z.imp id .inr) hB1 j
            by_cases hl1 : j < ds1.length
            · obtain ⟨go1, yl1⟩ := u1 ds1[j] (List.getElem?_eq_getElem hl1)
              rw [List.drop_eq_getElem_cons hl1] at q
              refine .inr ⟨go1, fun Hh => ∃ ez acc', LcK C.K Bx (fun a => Wr σ2 e5 a ∨ a = L) σ2 vs1 H4 e5 L acc' Hh ez ∧ R ((lcLoop g1 tt1 te vs1 (ds1.drop (j + 1)) acc' ez).bind fun acc'' e6 => lcOuter g tt it1 g1 tt1 te vs vs1 (ds.drop (i + 1)) acc'' e6), fun H3 t => ⟨ds1.length - (j + 1), by omega, rfl, hl1, t⟩, fun x1 Hx y1 => ?_⟩
              obtain ⟨kx, rp1⟩ := yl1 x1 Hx y1
              have sx := I5.s.heap kx
              unfold lcLoop at q
              cases z1 : g1 ⟨ds1[j], false⟩ (wipeE ez vs1) with
              | none => rw [z1] at q; exact q.elim
              | some e6 =>
                rw [z1] at q
                refine ⟨wipeE ez vs1, ad Bx L, ⟨ds1[j], false⟩, e6, ⟨sx, rp1⟩, z1, fun σ3 g3 => ?_⟩
                rw [← hl2] at g3
                have hw1 : L2.wipe σ3 vs1 = L2.wipe σ2 vs1 := (wipe_eq (σ := L2.wipe σ2 vs1) (by rw [g3.len]) (by rw [wipe_length]; exact g3.io)).trans wipe_wipe
                refine ⟨hw1, e6, ad Bx L, g3.s, ?_⟩
                cases zt1 : tt1 e6 with
                | st => simp only [zt1] at q; exact q.elim
                | ex _ => simp only [zt1] at q; exact q.elim
                | ok b1 e7 =>
                  simp only [zt1] at q
                  show ∀ H6, PostT C.K (ad Bx L) σ3 Hx e6 e7 H6 → _
                  intro H6 t1
                  cases b1 with
                  | false =>
                    obtain ⟨_, I6, _⟩ := LcK.turn hlen2 (fun _ z => .inl z) (.inr (.inr rfl)) I5 kx g3 t1
                    exact iteF ⟨e7, acc', I6, q⟩
                  | true =>
                    refine iteT ⟨e7, ad Bx L, t1.s, ?_⟩
                    simp only at q
                    cases ze : te e7 with
                    | st => simp only [ze] at q; exact q.elim
                    | ex _ => simp only [ze] at q; exact q.elim
                    | ok r e8 =>
                      simp only [ze] at q
                      show ∀ v H', Post C.K (ad Bx L) σ3 H6 e7 r e8 v H' → _
                      intro yv H7 p7
                      obtain ⟨_, _, I7⟩ := LcK.turn hlen2 (fun _ z => .inl z) (.inr (.inr rfl)) I5 kx g3 t1
                      obtain ⟨xs, hx, hxl, I8⟩ := I7 p7
                      split at q
                      · rename_i hm
                        exact ⟨xs, hx, by rw [hxl]; exact most_lt (Nat.le_of_lt hm), e8, _, I8, q⟩
                      · exact q.elim
            · have ej : j = ds1.length := by omega
              subst ej
              rw [List.drop_length] at q
              exact .inl ⟨u2 (Nat.le_refl _), ez, acc', back I5, q⟩
  · have e : i = ds.length := by omega
    subst e
    rw [List.drop_length] at q
    exact .inl ⟨w2 (Nat.le_refl _), q _ H2 (Post.after_i p (I.lci.done hL p.s ok))⟩
section
variable {elt tg iter tg1 iter1 : Expr} {ifs ifs1 : List Expr} {scope : Scope} {own : List (Str × Nat)} {it it1 : En → Res (List D)} {g g1 : Rs → En → Option En} {tt tt1 : En → Res Bool} {te : XF} {lk lk1 : Option Nat}
theorem ge_lc2 (lk lk1 : Option Nat) (hc : X.calm = true) (hN : X.N.Nodup) (hi : GI C X W tg iter it) (ok : BlkOk X.N X.env.scope scope own) (hv : ∀ i ∈ vs1, i ∈ own.map (·.2))
    (hg : ∀ (s : Shared) (H : Hp) (A : Addr) (cl : List (Str × Addr)) (fp : List Addr), GG C (X.blk s H scope (compEnvC scope cl A X.env) fp) (oth X.N.length (own.map (·.2))) tg g)
    (ht : ∀ (s : Shared) (H : Hp) (A : Addr) (cl : List (Str × Addr)) (fp : List Addr), GTs C (X.blk s H scope (compEnvC scope cl A X.env) fp) W0 ifs tt)
    (hi1 : ∀ (s : Shared) (H : Hp) (A : Addr) (cl : List (Str × Addr)) (fp : List Addr), GI C (X.blk s H scope (compEnvC scope cl A X.env) fp) W0 tg1 iter1 it1)
    (hg1 : ∀ (s : Shared) (H : Hp) (A : Addr) (cl : List (Str × Addr)) (fp : List Addr), GG C (X.blk s H scope (compEnvC scope cl A X.env) fp) (oth X.N.length vs1) tg1 g1)
    (ht1 : ∀ (s : Shared) (H : Hp) (A : Addr) (cl : List (Str × Addr)) (fp : List Addr), GTs C (X.blk s H scope (compEnvC scope cl A X.env) fp) W0 ifs1 tt1)
    (he : ∀ (s : Shared) (H : Hp) (A : Addr) (cl : List (Str × Addr)) (fp : List Addr), GE C (X.blk s H scope (compEnvC scope cl A X.env) fp) W0 elt te)
    (hs : ∀ x, foldedSetIterable iter X.env x = pure x := by intro _; rfl) (hs1 : ∀ env x, foldedSetIterable iter1 env x = pure x := by intro _ _; rfl) :
    GE C X W (.ListComp elt [⟨tg, iter, ifs, 0⟩, ⟨tg1, iter1, ifs1, 0⟩] scope pos) (xLk lk1 (xLk lk (xLc2 it g tt it1 g1 tt1 te (own.map (·.2)) vs1))) :=
  ⟨fun pins s σ H Q I q => (pe_lc2 hc hN hi ok hv hg ht hi1 hg1 ht1 he hs hs1).run pins s σ H Q I (lc2_run I.len hv (lk_run (lk_run q)))⟩
theorem gs_setLc2 (lk lk1 : Option Nat) {i : Nat} {y : Str} {py spos : Pos} (hc : X.calm = true) (hN : X.N.Nodup) (hy : X.N[i]? = some y) (hyl : X.env.scope.names.lookup y = some .local) (hio : i ∉ io)
    (hsw : swapsWith (.ListComp elt [⟨tg, iter, ifs, 0⟩, ⟨tg1, iter1, ifs1, 0⟩] scope pos) (some (.Name y py)) spos.line X.env = pure true) (hi : GI C X W tg iter it) (ok : BlkOk X.N X.env.scope scope own) (hv : ∀ i ∈ vs1, i ∈ own.map (·.2))
    (hg : ∀ (s : Shared) (H : Hp) (A : Addr) (cl : List (Str × Addr)) (fp : List Addr), GG C (X.blk s H scope (compEnvC scope cl A X.env) fp) (oth X.N.length (own.map (·.2))) tg g)
    (ht : ∀ (s : Shared) (H : Hp) (A : Addr) (cl : List (Str × Addr)) (fp : List Addr), GTs C (X.blk s H scope (compEnvC scope cl A X.env) fp) W0 ifs tt)
    (hi1 : ∀ (s : Shared) (H : Hp) (A : Addr) (cl : List (Str × Addr)) (fp : List Addr), GI C (X.blk s H scope (compEnvC scope cl A X.env) fp) W0 tg1 iter1 it1)
    (hg1 : ∀ (s : Shared) (H : Hp) (A : Addr) (cl : List (Str × Addr)) (fp : List Addr), GG C (X.blk s H scope (compEnvC scope cl A X.env) fp) (oth X.N.length vs1) tg1 g1)
    (ht1 : ∀ (s : Shared) (H : Hp) (A : Addr) (cl : List (Str × Addr)) (fp : List Addr), GTs C (X.blk s H scope (compEnvC scope cl A X.env) fp) W0 ifs1 tt1)
    (he : ∀ (s : Shared) (H : Hp) (A : Addr) (cl : List (Str × Addr)) (fp : List Addr), GE C (X.blk s H scope (compEnvC scope cl A X.env) fp) W0 elt te)
    (hs : ∀ x, foldedSetIterable iter X.env x = pure x := by intro _; rfl) (hs1 : ∀ env x, foldedSetIterable iter1 env x = pure x := by intro _ _; rfl) :
    GS C X W io (.Assign [.Name y py] (.ListComp elt [⟨tg, iter, ifs, 0⟩, ⟨tg1, iter1, ifs1, 0⟩] scope pos) spos) (sAsg (xLk lk1 (xLk lk (xLc2 it g tt it1 g1 tt1 te (own.map (·.2)) vs1))) (gV i)) :=
  ⟨fun pins s σ H Dd I q => (ps_setLc2 hc hN hy hyl hsw hi ok hv hg ht hi1 hg1 ht1 he hs hs1).run pins s σ H Dd I (by
    have q' := asg_run q
    have q2 : TD C W (xLk lk1 (xLk lk (xLc2 it g tt it1 g1 tt1 te (own.map (·.2)) vs1))) σ H fun x H1 => gName i x σ H1 Dd.nx := by
      obtain ⟨e, Bx, s, q⟩ := q'
      exact ⟨e, Bx, s, run_mono q (fun r e1 q v H1 p => gv_run hio (q v H1 p)) fun _ z => z⟩
    exact lc2_run I.len hv (lk_run (lk_run q2)))⟩
end
end
end G
end L2
namespace L2
namespace G
open PySem PySem.Spec PyProof.Rows
section
variable {C : Ct} {X : Cx} {W : WX} {K : PySem.W.Frag} {Bx S B : Addr → Prop} {io : List Nat} {σ σ' : L2.St} {H H' H1 H2 : Hp} {e0 e' e1 e2 : En} {e a b : Expr} {pos : Pos} {d : D} {v : V} {p : Addr} {ds : List D} {xs : List V}
/-! ranges as values -/
theorem cr_range1 : CallR X (.type "range") (fun vs H Q => ∃ j, vs = [V.int j] ∧ ∀ p, H p = none → Q (.ref p) (upd H p (.rng 0 j))) := by
  intro pins s σ H vs us Q I r h
  obtain ⟨j, rfl, q⟩ := h
  cases r with
  | cons rj rr =>
    cases rr
    obtain ⟨u, rfl⟩ := rj
    exact call_range_1 ⟨.ref s.heap.objs.size, upd H s.heap.objs.size (.rng 0 j), I.laid (t' := s.toks + 1 + 1) (fun b o q => Heap.get?_push_of_some _ q) (Nat.le_refl _) ⟨s.toks, u, s.toks + 1, Heap.get?_push_size _ rfl⟩, rfl, q _ (I.hok.fresh (Nat.le_refl _))⟩
def sRng (i : Nat) (g : En → Res D) : SF := fun e => (g e).bind fun d e1 => match d with
  | .int n => if i < e1.length then .ok .nx (e1.set i (.rg 0 n)) else .st
  | _ => .st
theorem Sim.setRg {i : Nat} {lo hi : Int} (s : Sim K Bx σ H e0) (hn : H p = none) (hi' : i < e0.length) : Sim K Bx (σ.set i (some (.ref p))) (upd H p (.rng lo hi)) (e0.set i (.rg lo hi)) ∧
    (∀ a, Wr (σ.set i (some (.ref p))) (e0.set i (.rg lo hi)) a → Wr σ e0 a) ∧ ∀ a, Av (σ.set i (some (.ref p))) (e0.set i (.rg lo hi)) a → Av σ e0 a := by
  have hl : i < σ.length := by rw [← s.len]; exact hi'
  have wr : ∀ a, Wr (σ.set i (some (.ref p))) (e0.set i (.rg lo hi)) a → Wr σ e0 a := fun a ⟨j, d', h1, h2⟩ => by
    rcases set_look h1 with ⟨_, z⟩ | ⟨n, z⟩
    · cases z
    · rw [st_set n] at h2; exact ⟨j, d', z, h2⟩
  have av : ∀ a, Av (σ.set i (some (.ref p))) (e0.set i (.rg lo hi)) a → Av σ e0 a := fun a ⟨j, w', d', h1, h2⟩ => by
    rcases set_look h1 with ⟨_, z⟩ | ⟨n, z⟩
    · cases z
    · rw [st_set n] at h2; exact ⟨j, w', d', z, h2⟩
  have s1 := s.heap (ext_new (o := .rng lo hi) hn)
  have an : ∀ a, Avo Bx (σ.set i (some (.ref p))) (e0.set i (.rg lo hi)) a → Avo Bx σ e0 a := fun a z => z.imp (av a) id
  refine ⟨⟨by simpa using s.len, fun j d' h1 => ?_, fun j w' d' h1 => ?_, fun j k w' w'' d' d'' a h1 h2 h3 h4 => ?_, s1.bx, fun j l h h1 => ?_⟩, wr, av⟩
  · rcases set_look h1 with ⟨_, z⟩ | ⟨n, z⟩
    · cases z
    · obtain ⟨u, r1, r2⟩ := s1.sh j d' z
      exact ⟨u, by rw [st_set n]; exact r1, r2.anti an⟩
  · rcases set_look h1 with ⟨_, z⟩ | ⟨n, z⟩
    · cases z
    · obtain ⟨a, r1, r2, r3⟩ := s1.ow j w' d' z
      exact ⟨a, by rw [st_set n]; exact r1, r2, r3.anti an⟩
  · rcases set_look h1 with ⟨_, z⟩ | ⟨n, z⟩
    · cases z
    · rcases set_look h2 with ⟨_, z'⟩ | ⟨n', z'⟩
      · cases z'
      · rw [st_set n] at h3; rw [st_set n'] at h4
        exact s.inj j k _ _ _ _ a z z' h3 h4
  · rcases set_look h1 with ⟨rfl, z⟩ | ⟨n, z⟩
    · cases z; exact ⟨p, List.getElem?_set_self hl, upd_same⟩
    · obtain ⟨a, r1, r2⟩ := s1.rg j l h z
      exact ⟨a, by rw [st_set n]; exact r1, r2⟩
theorem gs_rng {i : Nat} {x : Str} {np rp cp : Pos} {g : En → Res D} (hN : X.N.Nodup) (hi : X.N[i]? = some x) (hx : Loc X.env.scope x) (hio : i ∉ io) (hg : Gl X "range") (hm : X.mg "range" = none) (ha : GO C X W a g)
    (hs : starEach [a] X.env = (false, eval a X.env) :: starEach [] X.env := by rfl) (hpl : (backTo cp (starEach [] X.env)).any (·.1) = false := by rfl) (hw : swapsWith (.Call (.Name "range" rp) [a] [] cp) (some (.Name x np)) pos.line X.env = pure false := by rfl)
    (hf : X.fn x = true ∨ X.env.scope.names.lookup x = some .local := by first | exact .inl rfl | exact .inr rfl | assumption) : GS C X W io (.Assign [.Name x np] (.Call (.Name "range" rp) [a] [] cp) pos) (sRng i g) := by
  refine ps_imp (ps_set hN hi hx (pe_callTy cr_range1 hg hm boot_range (pa_cons ha pa_nil hs) (by decide) (by decide) hs hpl) hw hf) fun D σ H ⟨e, Bx, s, q⟩ => ⟨e, Bx, s, run_mono (bind_run q) (fun d e1 q v H1 p1 => ?_) fun _ z => z⟩
  cases d with
  | int n =>
    dsimp only at q
    split at q
    · rename_i hl
      have := p1.o.int
      subst this
      refine ⟨n, rfl, fun p hp => ?_⟩
      obtain ⟨s', wr, av⟩ := p1.s.setRg (lo := 0) (hi := n) hp hl
      exact q _ _ ⟨Kp.trans p1.fr (Kp.new hp), fun a z => .inl (p1.le.wr a (wr a z)), fun a z => .inl (p1.le.av a (av a z)), s', fun j m => st_set fun z => hio (z ▸ m), by simp⟩
    · exact q.elim
  | _ => exact q.elim
def rgS : Option Sl → Option (List D)
  | some (.rg lo hi) => if near lo && near hi then some (iseq lo 1 (hi - lo).toNat) else none
  | _ => none
def iRv (i : Nat) : En → Res (List D) := fun e => match rgS e[i]? with | some ds => .ok ds e | none => .st
theorem pi_rngv {i : Nat} {x : Str} {tg : Expr} (hN : X.N[i]? = some x) (hv : Vis X.env.scope x) (hd : (x == ("__debug__" : Str)) = false := by decide) (hcd : (x == ("__classdict__" : Str)) = false := by decide) :
    PI X tg (.Name x pos) (fun σ H R => ∃ a lo hi, σ[i]? = some (some (V.ref a)) ∧ H a = some (.rng lo hi) ∧ (-(2 ^ 62) ≤ lo ∧ lo < 2 ^ 62 ∧ -(2 ^ 62) ≤ hi ∧ hi < 2 ^ 62) ∧ R (Itr lo (hi - lo).toNat) H) := by
  refine ⟨fun pins s σ H R I ⟨a, lo, hi, h1, h2, ⟨b1, b2, b3, b4⟩, q⟩ => ?_⟩
  refine thn ((pe_var hN hv hd hcd).run pins s σ H (fun y H1 => y = V.ref a ∧ H1 = H) I ⟨_, h1, rfl, rfl⟩) fun v s1 ⟨y, H1, I1, r1, q1, q2⟩ => ?_
  subst q1 q2
  cases r1
  obtain ⟨t, u, w, ho⟩ := I1.hok a _ h2
  refine wpAny_pyIter_range ho (small_one b1 b2 b3 b4) ?_
  refine ⟨s1.heap.objs.size, [s1.heap.objs.size], _, _, _, rfl, I1.kept (t' := s1.toks) fun b o e => Heap.get?_push_of_some _ e, turn_range _ lo (hi - lo).toNat, ?_, fun b hb => ?_, q⟩
  · have z1 : lo + ((0 : Nat) : Int) * 1 = lo := by simp
    have z2 : (((hi - lo).toNat : Nat) : Int) - ((0 : Nat) : Int) = Builtin.Range.rangeSize lo hi 1 := by rw [rangeSize_one]; split <;> omega
    show IsRangeIter _ _ (lo + ((0 : Nat) : Int) * 1) ((((hi - lo).toNat : Nat) : Int) - ((0 : Nat) : Int)) 1
    rw [z1, z2]
    exact Heap.get?_push_size _ rfl
  · obtain rfl : b = s1.heap.objs.size := by simpa using hb
    exact I1.fpOk (Nat.le_refl _) (I1.hok.fresh (Nat.le_refl _))
theorem gi_rv {i : Nat} {x : Str} {tg : Expr} (hN : X.N[i]? = some x) (hv : Vis X.env.scope x) (hd : (x == ("__debug__" : Str)) = false := by decide) (hcd : (x == ("__classdict__" : Str)) = false := by decide) : GI C X W tg (.Name x pos) (iRv i) := by
  refine pi_imp (pi_rngv hN hv hd hcd) fun σ H R ⟨e, Bx, s, q⟩ => ?_
  unfold iRv rgS at q
  split at q
  · rename_i ds hds
    split at hds
    · rename_i lo hi hsl
      split at hds
      · rename_i hb
        cases hds
        simp only [near, Bool.and_eq_true, decide_eq_true_eq] at hb
        obtain ⟨a, h1, h2⟩ := s.rg i lo hi hsl
        exact ⟨a, lo, hi, h1, h2, ⟨hb.1.1, hb.1.2, hb.2.1, hb.2.2⟩, q _ H ⟨.refl, .refl, s, wk_rng⟩⟩
      · cases hds
    · cases hds
  · exact q.elim
/-! x *= e, x ** e -/
theorem iop_mulC : OpR X (inplaceOp .Mult) (rI CMul fun i j => .int (i * j)) := iop_mul
def cMul2 (i j : Int) : Bool := decide ((-(2 ^ 64) < i ∧ i < 2 ^ 64) ∨ (-(2 ^ 64) < j ∧ j < 2 ^ 64))
def fMulX := fII cMul2 fun i j => i * j
theorem ok_mulX : OpOk C fMulX (rI CMul fun i j => .int (i * j)) := okI fun i j h => by simpa [cMul2, CMul] using h
def cPow2 (i j : Int) : Bool := decide (0 ≤ j ∧ j ≤ 1000000 ∧ i.natAbs < 2 ^ 64)
def fPow := fII cPow2 fun i j => i ^ j.toNat
theorem ok_pow : OpOk C fPow (rI CPow fun i j => .int (i ^ j.toNat)) := okI fun i j h => by simpa [cPow2, CPow] using h
/-! xs[k] op= e, an own list -/
def rGetL : V → V → Hp → VK → Prop := fun o i H Q => ∃ (p : Addr) (xs : List V) (k : Nat) (x : V), o = .ref p ∧ i = .int (k : Nat) ∧ H p = some (.lst xs) ∧ xs[k]? = some x ∧ Q x H
theorem pget_list : PGet X rGetL := by
  intro pins s σ H o i ov iv Q I ro ri h
  obtain ⟨p, xs, k, x, rfl, rfl, hp, hx, q⟩ := h
  cases ro
  obtain ⟨t, rfl⟩ := ri
  obtain ⟨its, n, r, ho, hz⟩ := I.lst hp
  have hk : k < xs.length := (List.getElem?_eq_some_iff.mp hx).1
  have hl := r.length
  have hn := line63
  obtain ⟨u, hu, ru⟩ : ∃ u, its[k]? = some u ∧ RelV x u := by
    clear q I ho hz hp hn hl hk
    induction r generalizing k with
    | nil => simp at hx
    | cons a b ih =>
      cases k with
      | zero => simp at hx; subst hx; exact ⟨_, rfl, a⟩
      | succ k => simpa using ih (k := k) (by simpa using hx)
  refine wpAny_getItem_list (items := its.toArray) ⟨_, ho, rfl, n, rfl⟩ (Int.natCast_nonneg k) (by omega) (x := u) (by simpa using hu) ⟨x, H, I, ru, q⟩
def sAugI (F : D → D → Option Rs) (i : Nat) (f : XF) (g : En → Res D) : SF := fun e => if (ownL i e).isSome then (f e).bind fun k e1 => match k.d, ownL i e1 with
  | .int j, some ds => if 0 ≤ j then match ds[j.toNat]? with
    | some x => if scal1 x then (g e1).bind fun y e2 => match F x y, ownL i e2 with
      | some z, some ds2 => if scal1 z.d && decide (j.toNat < ds2.length) then .ok .nx (e2.set i (.ow true (.list (ds2.set j.toNat z.d)))) else .st
      | _, _ => .st else .st
    | none => .st else .st
  | _, _ => .st else .st
theorem gs_augI {i : Nat} {x : Str} {op : Operator} {r : R2} {F : D → D → Option Rs} {f : XF} {g : En → Res D} {np tpos : Pos} {ix : Expr} (hr : OpR X (inplaceOp op) r) (ho : OpOk C F r) (hN : X.N[i]? = some x) (hv : Vis X.env.scope x) (hf : GE C X W ix f) (hg : GO C X W e g)
    (hd : (x == ("__debug__" : Str)) = false := by decide) (hcd : (x == ("__classdict__" : Str)) = false := by decide)
    (ha : ∀ ov iv new, augStore ix ov iv new = (do holding [new, ov, iv] (setItem ov iv new); release [new, ov, iv] []; pure .next) := by intros; rfl) : GS C X W io (.AugAssign (.Subscript (.Name x np) ix tpos) op e pos) (sAugI F i f g) := by
  refine ps_imp (ps_augS (pe_var hN hv hd hcd) hf pget_list hg hr set_list ha) fun D σ H ⟨e, Bx, s, q⟩ => ?_
  unfold sAugI at q
  split at q
  case isFalse => exact q.elim
  rename_i hs
  obtain ⟨ds, hds⟩ := Option.isSome_iff_exists.mp hs
  obtain ⟨p, xs, z1, z2, z3, z4⟩ := s.own hds
  refine ⟨_, z2, e, Bx, s, run_mono (bind_run q) (fun k e1 q u H1 p1 => ?_) fun _ z => z⟩
  obtain ⟨kd, kf⟩ := k
  cases w : ownL i e1 with
  | none => rw [w] at q; cases kd <;> exact q.elim
  | some ds1 =>
    rw [w] at q
    cases kd with
    | int j =>
      dsimp only at q
      split at q
      case isFalse => exact q.elim
      rename_i hj
      obtain ⟨m, rfl⟩ := Int.eq_ofNat_of_zero_le hj
      rw [Int.toNat_natCast] at q
      cases y : ds1[m]? with
      | none => rw [y] at q; exact q.elim
      | some x0 =>
        rw [y] at q
        dsimp only at q
        split at q
        case isFalse => exact q.elim
        rename_i sc
        have rp := p1.rp
        cases rp
        obtain ⟨p', xs1, w1, w2, w3, w4⟩ := p1.s.own w
        rw [z2] at w2; cases w2
        obtain ⟨xv, hx, rx⟩ := w4.getD y
        refine ⟨p, xs1, m, xv, rfl, rfl, w3, hx, e1, Bx, p1.s, run_mono (bind_run q) (fun y2 e2 q u2 H2 p2 => ?_) fun _ z => EX.after z p1.fr p1.le⟩
        cases zf : F x0 y2 with
        | none => rw [zf] at q; exact q.elim
        | some r0 =>
          rw [zf] at q
          cases w5 : ownL i e2 with
          | none => rw [w5] at q; exact q.elim
          | some ds2 =>
            rw [w5] at q
            dsimp only at q
            split at q
            case isFalse => exact q.elim
            rename_i c
            simp only [Bool.and_eq_true, decide_eq_true_eq] at c
            refine ho Bx σ H2 e2 x0 y2 xv u2 r0 _ zf p2.s (.rep (scal_rep sc rx)) p2.o fun v3 H3 p3 => ?_
            obtain ⟨p', xs2, t1, t2, t3, t4⟩ := p3.s.own w5
            rw [z2] at t2; cases t2
            obtain ⟨s', fr, le⟩ := p3.s.write t1 z2 t3 (t4.set m p3.rp)
            have f2 := p1.fr.trans p1.le p2.fr
            have l2 := p1.le.trans p2.le
            refine ⟨p, xs2, m, m, rfl, rfl, t3, ?_, q σ _ (.of ((f2.trans l2 p3.fr).trans (l2.trans p3.le) fr) ((l2.trans p3.le).trans le) s')⟩
            rw [t4.length]
            unfold ixN
            rw [if_pos (Int.natCast_nonneg m), if_pos (by omega), Int.toNat_natCast]
    | _ => exact q.elim
/-! xs.count(y) of a list of ints -/
def fCnt : D → D → Option Rs := fun x y => match x, y with
  | .list ds, .int k => (intsD ds).map fun is => ⟨.int (is.count k : Nat), false⟩
  | _, _ => none
theorem ok_cnt : OpOk C fCnt fun x y => rCntI C.K x [y] := by
  intro Bx σ H e0 d1 d2 v1 v2 z Q hz s o1 o2 q
  unfold fCnt at hz
  split at hz
  · rename_i ds k
    cases w : intsD ds with
    | none => rw [w] at hz; cases hz
    | some is =>
      rw [w] at hz; cases hz
      obtain ⟨a, xs, rfl, hq, rs⟩ := o1.list
      refine ⟨a, is, k, rfl, by rw [o2.int], ?_, q _ _ (post_i s)⟩
      rw [← reps_ints w rs]
      exact sql_rd hq
  · cases hz
end
end G
end L2
namespace L2
namespace G
open PySem PySem.Spec PyProof.Rows
/-! ### three values stored at once -/
section
variable {C : Ct} {X : Cx} {W : WX} {K : PySem.W.Frag} {Bx : Addr → Prop} {io : List Nat} {σ : L2.St} {H H1 : Hp} {e0 e1 : En} {a b c : Expr} {pos : Pos} {v1 : V} {r1 : Rs} {i j l : Nat}
/-- what a held value needs of the run that goes on -/
theorem hold_on (h : Holds K Bx σ H1 e1 r1 v1) : ∃ By : Addr → Prop, Sim K By σ H1 e1 ∧ ∀ {H2 : Hp} {σ2 : L2.St} {e3 : En}, Fr σ e1 H1 H2 → (∀ a, Av σ2 e3 a → Av σ e1 a ∨ H1 a = none) → Sim K By σ2 H2 e3 → Holds K Bx σ2 H2 e3 r1 v1 := by
  obtain ⟨d1, f1⟩ := r1
  have an : ∀ {By : Addr → Prop} {σ2 : L2.St} {e3 : En}, (∀ a, Av σ2 e3 a → Av σ e1 a ∨ H1 a = none) → ∀ a, Avo By σ2 e3 a → H1 a ≠ none → Avo By σ e1 a := fun av a z n => z.elim (fun z => (av a z).elim .inl fun z => absurd z n) .inr
  cases f1 with
  | false => exact ⟨Bx, h.1, fun f av s3 => ⟨s3, h.2.go (f.anti fun a z => .inl z.av) fun a z n => an av a z n⟩⟩
  | true =>
    obtain ⟨p, rfl, nb, sp, t⟩ := h
    refine ⟨ad Bx p, sp, fun f av s3 => ⟨p, rfl, nb, s3, t.go (f.anti fun a z => .inl z.av) (fun a z n => an av a z n) fun o w => f.keep p o w fun z => ?_⟩⟩
    obtain ⟨k, dk, y1, y2⟩ := z
    obtain ⟨b, y3, y4, _⟩ := sp.ow k true dk y1
    rw [y2] at y3; cases y3
    exact y4 (.inr rfl)
def sPar3 (i j l : Nat) (f g h : XF) : SF := fun e => (f e).bind fun r1 e1 => (g e1).bind fun r2 e2 => (h e2).bind fun r3 e3 => match gV l r3 e3 with
  | some e4 => (match gV j r2 e4 with | some e5 => (match gV i r1 e5 with | some e6 => .ok .nx e6 | none => .st) | none => .st)
  | none => .st
theorem par3_run {f g h : XF} {Dd : Ends} (hij : i ≠ j) (hil : i ≠ l) (hjl : j ≠ l) (hi : i ∉ io) (hj : j ∉ io) (hl : l ∉ io) (hh : TDs C W io (sPar3 i j l f g h) Dd σ H) : tPar3 i j l (tCons (TD C W f) (tCons (TD C W g) (tCons (TD C W h) tNil))) Dd σ H := by
  obtain ⟨e, Bx, s, q⟩ := hh
  refine ⟨e, Bx, s, run_mono (bind_run q) (fun r1 e1 q v1 H1 p1 => ?_) fun _ z => z⟩
  obtain ⟨B1, s1, k1⟩ := hold_on p1.is
  refine ⟨e1, B1, s1, run_mono (bind_run q) (fun r2 e2 q v2 H2 p2 => ?_) fun _ z => EX.after z p1.fr p1.le⟩
  obtain ⟨B2, s2, k2⟩ := hold_on p2.is
  have f12 := p1.fr.trans p1.le p2.fr
  have l12 := p1.le.trans p2.le
  refine ⟨e2, B2, s2, run_mono (bind_run q) (fun r3 e3 q v3 H3 p3 => ?_) fun _ z => EX.after z f12 l12⟩
  have f13 := f12.trans l12 p3.fr
  have f23 := p2.fr.trans p2.le p3.fr
  cases z4 : gV l r3 e3 with
  | none => rw [z4] at q; exact q.elim
  | some e4 =>
    rw [z4] at q; dsimp only at q
    have g4 := gV_post (io := io) p3.is z4 hl
    have n3 : ∀ a, Av (σ.set l (some v3)) e4 a → Av σ e2 a ∨ H2 a = none := fun a w => (g4.av a w).elim (fun w => .inl (p3.le.av a w)) fun w => .inr (p3.new w.1 a w.2)
    have h2 := k2 (σ2 := σ.set l (some v3)) (e3 := e4) p3.fr n3 g4.s
    cases z5 : gV j r2 e4 with
    | none => rw [z5] at q; exact q.elim
    | some e5 =>
      rw [z5] at q; dsimp only at q
      have g5 := gV_post (io := io) h2 z5 hj
      have n2 : ∀ a, Av ((σ.set l (some v3)).set j (some v2)) e5 a → Av σ e1 a ∨ H1 a = none := fun a w => (g5.av a w).elim (fun w => (n3 a w).elim (fun w => .inl (p2.le.av a w)) fun w => .inr (p2.fr.new w)) fun w => .inr (p2.new w.1 a w.2)
      have h1 := k1 (σ2 := (σ.set l (some v3)).set j (some v2)) (e3 := e5) f23 n2 g5.s
      cases z6 : gV i r1 e5 with
      | none => rw [z6] at q; exact q.elim
      | some e6 =>
        rw [z6] at q; dsimp only at q
        have g6 := gV_post (io := io) h1 z6 hi
        have w3 : ∀ a, Wr (σ.set l (some v3)) e4 a → Wr σ e a ∨ H a = none := fun a w => (g4.wr a w).elim (fun w => .inl (l12.wr a (p3.le.wr a w))) fun w => .inr (f12.new (p3.new w.1 a w.2))
        have w2 : ∀ a, Wr ((σ.set l (some v3)).set j (some v2)) e5 a → Wr σ e a ∨ H a = none := fun a w => (g5.wr a w).elim (w3 a) fun w => .inr (p1.fr.new (p2.new w.1 a w.2))
        have a2 : ∀ a, Av ((σ.set l (some v3)).set j (some v2)) e5 a → Av σ e a ∨ H a = none := fun a w => (n2 a w).elim (fun w => .inl (p1.le.av a w)) fun w => .inr (p1.fr.new w)
        refine ⟨v1, v2, v3, rfl, ?_⟩
        have hs : ((σ.set i (some v1)).set j (some v2)).set l (some v3) = ((σ.set l (some v3)).set j (some v2)).set i (some v1) := by
          rw [List.set_comm _ _ (show j ≠ l from hjl), List.set_comm _ _ (show i ≠ l from hil), List.set_comm _ _ (show i ≠ j from hij)]
        rw [hs]
        exact q _ _ ⟨f13, fun a w => (g6.wr a w).elim (w2 a) fun w => .inr (p1.new w.1 a w.2), fun a w => (g6.av a w).elim (a2 a) fun w => .inr (p1.new w.1 a w.2), g6.s,
          fun k m => (g6.io k m).trans ((g5.io k m).trans (g4.io k m)), g6.len.trans (g5.len.trans g4.len)⟩
theorem gs_par3 {x y z : Str} {f g h : XF} {px py pz pt : Pos} {kt k2 pt2} (hc : X.calm = true) (hN : X.N.Nodup) (hi : X.N[i]? = some x) (hj : X.N[j]? = some y) (hl : X.N[l]? = some z) (hij : i ≠ j) (hil : i ≠ l) (hjl : j ≠ l)
    (hx : X.env.scope.names.lookup x = some .local) (hy : X.env.scope.names.lookup y = some .local) (hz : X.env.scope.names.lookup z = some .local) (hf : GE C X W a f) (hg : GE C X W b g) (hh : GE C X W c h) (hi' : i ∉ io) (hj' : j ∉ io) (hl' : l ∉ io)
    (hw : swappedStores [.Tuple [.Name x px, .Name y py, .Name z pz] kt pt] (.Tuple [a, b, c] k2 pt2) X.env = pure (some [x, y, z]))
    (h1 : starEach [a, b, c] X.env = (false, eval a X.env) :: starEach [b, c] X.env := by rfl) (h2 : starEach [b, c] X.env = (false, eval b X.env) :: starEach [c] X.env := by rfl) (h3 : starEach [c] X.env = (false, eval c X.env) :: starEach [] X.env := by rfl)
    (hs : swapsWithSole [.Tuple [.Name x px, .Name y py, .Name z pz] kt pt] (.Tuple [a, b, c] k2 pt2) pos.line X.env = pure false := by rfl) :
    GS C X W io (.Assign [.Tuple [.Name x px, .Name y py, .Name z pz] kt pt] (.Tuple [a, b, c] k2 pt2) pos) (sPar3 i j l f g h) :=
  ps_imp (ps_par3 hc hN hi hj hl hij hil hjl hx hy hz (pa_cons hf (pa_cons hg (pa_cons hh pa_nil h3) h2) h1) hw hs) fun _ _ _ q => par3_run hij hil hjl hi' hj' hl' q
/-! with a name in a cell: by a tuple -/
theorem sPar3_later {f g h : XF} {D : Ends} (q : TDs C W io (sPar3 i j l f g h) D σ H) : TDs C W io (sPar3 i j l f g h) (laterE D) σ H := by
  obtain ⟨e, Bx, s, q⟩ := q
  refine ⟨e, Bx, s, run_mono q (fun fl e' z => ?_) fun _ z => z⟩
  cases fl with
  | nx => exact fun σ' H' p H3 k => z σ' H3 (p.xt k)
  | ct => exact z
  | rt r => exact z
theorem gs_par3C {x y z : Str} {f g h : XF} {px py pz pt : Pos} {kt k2 pt2} (hc : X.calm = true) (hN : X.N.Nodup) (hi : X.N[i]? = some x) (hj : X.N[j]? = some y) (hl : X.N[l]? = some z) (hij : i ≠ j) (hil : i ≠ l) (hjl : j ≠ l) (hx : Loc X.env.scope x) (hy : Loc X.env.scope y) (hz : Loc X.env.scope z)
    (fx : X.fn x = true ∨ X.env.scope.names.lookup x = some .local) (fy : X.fn y = true ∨ X.env.scope.names.lookup y = some .local) (fz : X.fn z = true ∨ X.env.scope.names.lookup z = some .local)
    (hf : GE C X W a f) (hg : GE C X W b g) (hh : GE C X W c h) (hi' : i ∉ io) (hj' : j ∉ io) (hl' : l ∉ io) (hw : swappedStores [.Tuple [.Name x px, .Name y py, .Name z pz] kt pt] (.Tuple [a, b, c] k2 pt2) X.env = pure none)
    (h1 : starEach [a, b, c] X.env = (false, eval a X.env) :: starEach [b, c] X.env := by rfl) (h2 : starEach [b, c] X.env = (false, eval b X.env) :: starEach [c] X.env := by rfl) (h3 : starEach [c] X.env = (false, eval c X.env) :: starEach [] X.env := by rfl)
    (hs : swapsWithSole [.Tuple [.Name x px, .Name y py, .Name z pz] kt pt] (.Tuple [a, b, c] k2 pt2) pos.line X.env = pure false := by rfl) :
    GS C X W io (.Assign [.Tuple [.Name x px, .Name y py, .Name z pz] kt pt] (.Tuple [a, b, c] k2 pt2) pos) (sPar3 i j l f g h) := by
  have t : PG X (.Tuple [.Name x px, .Name y py, .Name z pz] kt pt) (gTup X.K 3 (gCons (gName i) (gCons (gName j) (gCons (gName l) gNil)))) := pg_tup hc (pgs_cons (pg_name hN hi hx fx) (pgs_cons (pg_name hN hj hy fy) (pgs_cons (pg_name hN hl hz fz) pgs_nil)))
  refine ps_imp (ps_asg (pe_tup (pa_cons hf (pa_cons hg (pa_cons hh pa_nil h3) h2) h1)) t hs hw) fun D σ H q => ?_
  obtain ⟨e, Bx, s, q⟩ := par3_run hij hil hjl hi' hj' hl' (sPar3_later q)
  refine ⟨e, Bx, s, run_mono q (fun r e1 z v H1 p => ?_) fun _ z => z⟩
  obtain ⟨e2, B2, s2, q2⟩ := z v H1 p
  refine ⟨e2, B2, s2, run_mono q2 (fun r2 e3 z v2 H2 p2 => ?_) fun _ z => z⟩
  obtain ⟨e3', B3, s3, q3⟩ := z v2 H2 p2
  refine ⟨e3', B3, s3, run_mono q3 (fun r3 e4 z v3 H3 p3 => ?_) fun _ z => z⟩
  obtain ⟨u', v', w', ez, fin⟩ := z v3 H3 p3
  cases ez
  refine ⟨by rw [sizeLine_eq]; exact (by decide : 3 ≤ 16777216), fun p hp => ⟨p, [v, v2, v3], rfl, .inl (.inl upd_same), rfl, v, [v2, v3], rfl, v2, [v3], rfl, v3, [], rfl, rfl, fin _ (ext_new hp)⟩⟩
end
end G
end L2
namespace L2
namespace G
open PySem PySem.Spec PyProof.Rows
/-! ### sorted(set(xs)), len(set(xs)), xs a list of ints -/
section
variable {P : Program} {w : World} {A : Around} {E : Value → Shared → Prop} {s : Shared}
/-- a set just made, the heap with it -/
abbrev ob0 (w : World) : Obj := { cls := .type "set", dict := none, data := .set #[] 0 (.fresh 0 0 (!w.params.followText "set-order")) }
abbrev hp0 (w : World) (h : Heap) : Heap := h.push (ob0 w)
/-- what set.__init__ leaves -/
def Filled (w : World) (s : Shared) (ns : List Int) (s2 : Shared) : Prop := ∃ h' tk c, s2 = { s with heap := h', toks := tk } ∧ SetR w h' s.heap.objs.size (fun j => decide (j ∈ ns)) c ∧ c ≤ ns.length ∧ ∀ b o, s.heap.get? b = some o → h'.get? b = some o
set_option maxHeartbeats 4000000 in
theorem set_of_list {l : Addr} {items : Array Value} {ns : List Int} {Q : Value → Shared → Prop} (hh : A.handled = none) (hl : s.heap.IsList l items) (hit : IntsAre items.toList ns) (hb : ns.length + 1 < scanBound)
    (h : ∀ s2, Filled w s ns s2 → Q (.ref s.heap.objs.size) s2) : wpAny (model P w) A (call (.type "set") [.ref l]) Q E s := by
  have hn : items.size = ns.length := by rw [← Array.length_toList]; exact IntsAre.length hit
  have lS : l < s.heap.objs.size := (let ⟨o, ho, _⟩ := hl; Heap.lt_size ho)
  have at0 : (hp0 w s.heap).get? s.heap.objs.size = some (ob0 w) := Heap.get?_push_size _ rfl
  have ty0 : Shared.TypeIs { s with heap := hp0 w s.heap } (.ref s.heap.objs.size) "set" := ⟨_, at0, rfl⟩
  obtain ⟨c, tl, m1⟩ := F.called_set.mro
  have m2 := F.called_set.made
  have m3 := F.called_set.sub
  have m4 := F.called_set.notType
  have m5 := F.called_set.canCreate
  have m6 := F.typeCall_set_1 (.ref l)
  have m7 := F.called_set.init.lookup
  have m8 := F.called_set.init.bind (.ref s.heap.objs.size)
  refine wpAny_call (codeAny_of_tree (show wpAny _ _ (callAny (.type "set") _) _ _ _ from wpAny_pure ⟨Code.quiet_builtin _ (by decide +kernel), codeAny_builtin F.entry_type_call ?_⟩))
  rw [Around.under_plain (weight_type_call_type "set" [.ref l] []) rfl]
  repeat (any_goals (first | assumption | wp_step))
  refine codeAny_mono (code_set_led1 (.ref l) (E := E) (Q₁ := fun o s1 => o = .ref s.heap.objs.size ∧ s1 = { s with heap := hp0 w s.heap }) ⟨rfl, rfl⟩) fun r s1 hr => ?_
  rcases r with x | x
  · exact hr
  cases x <;> try (exact hr.elim)
  obtain ⟨rfl, rfl⟩ := hr
  repeat (any_goals (first | assumption | wp_step))
  refine codeAny_mono (codeAny_call_builtin (R := wants (fun r s2 => r = .none ∧ Filled w s ns s2) E) F.called_set.init.plain F.entry_set_init (check_set_init_1 ty0 ?_)) fun r s2 hr => ?_
  · obtain ⟨⟨c0, d0, x0, y0⟩, ho, hc, nl, hd⟩ := hl
    simp only at hc hd
    subst hc; subst hd
    have ho1 : (hp0 w s.heap).get? l = some { cls := .type "list", dict := d0, data := .seq items nl, slots := y0 } := Heap.get?_push_of_some _ ho
    have k1 := F.sub_list_set
    have k2 := F.sub_list_frozenset
    have k3 : (Value.type "list" == Value.type "dict") = false := by decide
    have isl : (hp0 w s.heap).IsList l items := ⟨_, ho1, rfl, nl, rfl⟩
    have sz : (hp0 w s.heap).objs.size = s.heap.objs.size + 1 := Heap.size_push ..
    unfold Builtin.«set.__init__» noKeywords Builtin.Frozenset.updateFrom
    generalize hPI : pyIter = PI
    wp_walk
    subst hPI
    refine wpAny_pyIter_list isl (wpAny_bind (wpAny_runValue ?_))
    have n3 : A.in1.in1.in1.handled = none := by simp [hh]
    have ne : l ≠ (hp0 w s.heap).objs.size := by rw [sz]; exact Nat.ne_of_lt (Nat.lt_succ_of_lt lS)
    have out : s.heap.objs.size ∉ [(hp0 w s.heap).objs.size, l] := by
      rw [sz]; simp; exact Nat.ne_of_gt lS
    refine set_update_ints (ns := ns) ((Walks.list n3 _ l ne items).toS) s.heap.objs.size out hn hb (fun i v hv => ?_) (items.size - 0) 0 _ rfl (Nat.zero_le _) ⟨⟨_, Heap.get?_push_size _ rfl, rfl, rfl⟩, isl.push _⟩
      ⟨0, Nat.le_refl 0, setR_new_at (Heap.get?_push_of_some _ at0)⟩ fun s' c' hm hc' R => ?_
    · have hi : i < ns.length := by rw [← hn]; exact (Array.getElem?_eq_some_iff.mp hv).1
      obtain ⟨t, e⟩ := IntsAre.int_at hit i v (by rw [Array.getElem?_toList]; exact hv)
      exact ⟨ns[i], t, List.getElem?_eq_getElem hi, by rw [e, List.getD_eq_getElem?_getD, List.getElem?_eq_getElem hi] <;> rfl⟩
    · have e1 := hm.gens
      have e2 := hm.drawn
      have e3 := hm.os
      obtain ⟨h', g2, d', tk', os'⟩ := s'
      obtain rfl : g2 = s.gens := e1
      obtain rfl : d' = s.drawn := e2
      obtain rfl : os' = s.os := e3
      show wpAny _ _ _ _ _ _
      refine wpAny_pure (show wpAny _ _ (ret Value.none) _ _ _ from wpAny_pure ⟨rfl, h', tk', c', rfl, R, hn ▸ hc', fun b o e => ?_⟩)
      have hb0 := Heap.lt_size e
      exact hm.heap b o (by rw [sz]; simp; exact ⟨Nat.ne_of_lt hb0, Nat.ne_of_lt (Nat.lt_succ_of_lt hb0)⟩) (Heap.get?_push_of_some _ (Heap.get?_push_of_some _ e))
  · rcases r with x | x
    · exact hr
    cases x <;> try (exact hr.elim)
    obtain ⟨rfl, f⟩ := hr
    repeat (any_goals (first | assumption | wp_step))
    exact h _ f
end
section
variable {C : Ct} {X : Cx} {W : WX} {K : PySem.W.Frag} {Bx : Addr → Prop} {σ : L2.St} {H : Hp} {e a : Expr} {pos : Pos}
/-- set(xs) -/
def rSetL2 (K : PySem.W.Frag) (w : World) : List V → Hp → VK → Prop := fun xs H Q => ∃ (l : Addr) (ns : List Int), xs = [V.ref l] ∧ SqL K H l (ns.map V.int) ∧ ns.length < 64 ∧
  ∀ p c, H p = none → c ≤ ns.length → Q (.ref p) (upd H p (SetO w p (fun k => decide (k ∈ ns)) c))
theorem cr_setL2 (hc : X.calm = true) : CallR X (.type "set") (rSetL2 X.K X.w) := by
  intro pins s σ H xs us Q I r h
  obtain ⟨l, ns, rfl, hl, h64, q⟩ := h
  rw [Vals.ref1 r]
  obtain ⟨its, rv, pl, hz⟩ := I.list hl
  have hn : H s.heap.objs.size = none := I.hok.fresh (Nat.le_refl _)
  refine set_of_list (ns := ns) (P := X.prog) (w := X.w) (I.ok.hd hc) pl.isList (by simpa using rv.ints) (by unfold scanBound; omega) fun s2 f => ?_
  obtain ⟨h', tk, c, rfl, R, hcl, k⟩ := f
  exact ⟨.ref s.heap.objs.size, upd H s.heap.objs.size (SetO X.w s.heap.objs.size (fun k => decide (k ∈ ns)) c), I.laid (t' := tk) k (Nat.le_refl _) (setO_new R), rfl, q _ _ hn hcl⟩
/-- a strictly rising row with one more -/
def insS (x : Int) : List Int → List Int
  | [] => [x]
  | y :: ys => if x < y then x :: y :: ys else if x = y then y :: ys else y :: insS x ys
def sortS (ns : List Int) : List Int := ns.foldr insS []
theorem insS_mem {x k : Int} : ∀ {ys : List Int}, k ∈ insS x ys ↔ k = x ∨ k ∈ ys
  | [] => by simp [insS]
  | y :: ys => by
    unfold insS
    split
    · simp
    · split
      · rename_i h; subst h; simp
      · simp only [List.mem_cons, insS_mem]
        constructor
        · rintro (h | h | h) <;> simp [h]
        · rintro (h | h | h) <;> simp [h]
theorem insS_pw {x : Int} : ∀ {ys : List Int}, ys.Pairwise (· < ·) → (insS x ys).Pairwise (· < ·)
  | [], _ => by simp [insS]
  | y :: ys, h => by
    obtain ⟨h1, h2⟩ := List.pairwise_cons.mp h
    unfold insS
    split
    · rename_i hx
      refine List.pairwise_cons.mpr ⟨fun z hz => ?_, h⟩
      rcases List.mem_cons.mp hz with rfl | hz
      · exact hx
      · exact Int.lt_trans hx (h1 z hz)
    · split
      · exact h
      · refine List.pairwise_cons.mpr ⟨fun z hz => ?_, insS_pw h2⟩
        rcases insS_mem.mp hz with rfl | hz
        · omega
        · exact h1 z hz
theorem sortS_mem {k : Int} {ns : List Int} : k ∈ sortS ns ↔ k ∈ ns := by
  unfold sortS
  induction ns with
  | nil => simp
  | cons a l ih => simp only [List.foldr_cons, insS_mem, ih, List.mem_cons]
theorem sortS_pw {ns : List Int} : (sortS ns).Pairwise (· < ·) := by
  unfold sortS
  induction ns with
  | nil => exact .nil
  | cons a l ih => exact insS_pw ih
/-- a strictly rising row is told by its members -/
theorem rise_eq : ∀ {xs ys : List Int}, xs.Pairwise (· < ·) → ys.Pairwise (· < ·) → (∀ k, k ∈ xs ↔ k ∈ ys) → xs = ys
  | [], [], _, _, _ => rfl
  | [], y :: ys, _, _, h => by have := (h y).mpr (by simp); simp at this
  | x :: xs, [], _, _, h => by have := (h x).mp (by simp); simp at this
  | x :: xs, y :: ys, h1, h2, h => by
    obtain ⟨a1, a2⟩ := List.pairwise_cons.mp h1
    obtain ⟨b1, b2⟩ := List.pairwise_cons.mp h2
    have e : x = y := by
      rcases List.mem_cons.mp ((h x).mp (by simp)) with z | z
      · exact z
      · rcases List.mem_cons.mp ((h y).mpr (by simp)) with z' | z'
        · exact z'.symm
        · have := b1 x z; have := a1 y z'; omega
    subst e
    congr 1
    refine rise_eq a2 b2 fun k => ⟨fun m => ?_, fun m => ?_⟩
    · rcases List.mem_cons.mp ((h k).mp (List.mem_cons_of_mem _ m)) with z | z
      · have := a1 k m; omega
      · exact z
    · rcases List.mem_cons.mp ((h k).mpr (List.mem_cons_of_mem _ m)) with z | z
      · have := b1 k m; omega
      · exact z
def fSoSe : D → Option Rs
  | .list ds => (intsD ds).bind fun ns => if ns.length < 64 then some ⟨.list ((sortS ns).map fun (k : Int) => .int k), true⟩ else none
  | _ => none
theorem reps_int {B : Addr → Prop} : ∀ (ns : List Int), Reps K H B (ns.map V.int) (ns.map fun (k : Int) => PyData.int k)
  | [] => .nil
  | n :: ns => .cons (.int n) (reps_int ns)
theorem ge_sortSet {np np2 q : Pos} {g : En → Res D} (hK : X.K = C.K) (hc : X.calm = true) (hg : Gl X "sorted") (hm : X.mg "sorted" = none) (hg2 : Gl X "set") (hm2 : X.mg "set" = none) (ha : GO C X W a g)
    (hs : starEach [a] X.env = (false, eval a X.env) :: starEach [] X.env := by rfl) (hpl : (backTo q (starEach [] X.env)).any (·.1) = false := by rfl)
    (hs2 : starEach [.Call (.Name "set" np2) [a] [] q] X.env = (false, eval (.Call (.Name "set" np2) [a] [] q) X.env) :: starEach [] X.env := by rfl) (hpl2 : (backTo pos (starEach [] X.env)).any (·.1) = false := by rfl) :
    GE C X W (.Call (.Name "sorted" np) [.Call (.Name "set" np2) [a] [] q] [] pos) (xOne fSoSe g) := by
  refine pe_imp (pe_callB (cr_sortedSet hc) hg hm boot_sorted (pa_cons (pe_callTy (cr_setL2 hc) hg2 hm2 boot_set (pa_cons ha pa_nil hs) (by decide) (by decide) hs hpl) pa_nil hs2) (by decide) (by decide) hs2 hpl2) fun σ H Q ⟨e0, Bx, s, q⟩ => ?_
  refine ⟨e0, Bx, s, run_mono (bind_run q) (fun d e1 q v H1 p1 => ?_) fun _ z => z⟩
  cases d with
  | list ds =>
    dsimp only [fSoSe] at q
    cases w : intsD ds with
    | none => rw [w] at q; exact q.elim
    | some ns =>
      rw [w] at q
      dsimp only [Option.bind_some] at q
      split at q
      · rename_i z
        split at z
        · rename_i h64
          cases z
          obtain ⟨l, xs, rfl, hq, rs⟩ := p1.o.list
          refine ⟨l, ns, rfl, by rw [hK, ← reps_ints w rs]; exact sql_rd hq, h64, fun p c hp hcl => ?_⟩
          refine ⟨p, _, c, rfl, upd_same, by omega, fun ms p2 h1 h2 h3 h4 => ?_⟩
          have e1 : ms = sortS ns := rise_eq h1 sortS_pw fun k => by rw [h2, sortS_mem]; simp
          subst e1
          have s2 := p1.s.heap (ext_new (o := SetO X.w p (fun k => decide (k ∈ ns)) c) hp)
          have pp : Post C.K Bx σ (upd H1 p (SetO X.w p (fun k => decide (k ∈ ns)) c)) e1 _ e1 _ _ := .newL s2 h4 (reps_int (sortS ns))
          refine q _ _ (Post.after_o ⟨Kp.trans p1.fr (Kp.new hp), p1.le, s2, .rep .non⟩ pp)
        · cases z
      · exact q.elim
  | _ => exact q.elim
end
end G
end L2
namespace L2
namespace G
open PySem PySem.Spec PyProof.Rows
section
variable {C : Ct} {X : Cx} {W : WX} {K : PySem.W.Frag} {Bx : Addr → Prop} {σ : L2.St} {H : Hp} {e a : Expr} {pos : Pos}
theorem setR_count {w : World} {h : Heap} {a : Addr} {ns : List Int} {c : Nat} (R : SetR w h a (fun k => decide (k ∈ ns)) c) : c = (sortS ns).length := by
  obtain ⟨o, es, ep, t, ho, hx, hd, g, nd, hm, hb, hf, hn, _⟩ := R
  have n2 : (sortS ns).Nodup := sortS_pw.imp fun h e => by omega
  have p : (es.toList.map keyOf).Perm (sortS ns) := (List.perm_ext_iff_of_nodup nd n2).mpr fun k => by rw [sortS_mem, ← hm k]; simp
  rw [← p.length_eq, List.length_map, Array.length_toList, hn]
def rLenSet (w : World) : List V → Hp → VK → Prop := fun vs H Q => ∃ (p : Addr) (ns : List Int) (c : Nat), vs = [V.ref p] ∧ H p = some (SetO w p (fun k => decide (k ∈ ns)) c) ∧ ns.length < 64 ∧ Q (.int (sortS ns).length) H
theorem cr_lenSet : CallR X (.builtin "len") (rLenSet X.w) := by
  intro pins s σ H vs us Q I r h
  obtain ⟨p, ns, c, rfl, hp, h64, q⟩ := h
  rw [Vals.ref1 r]
  have R := setO_get I hp
  have hc := setR_count R
  obtain ⟨o, es, ep, t, ho, hx, hd, g, nd, hm, hb, hf, hn, _⟩ := R
  refine call_len_set ho hx hd hf (by unfold scanBound at hb; omega) ⟨.int (sortS ns).length, H, I.tok _, ⟨_, by rw [hn, hc]⟩, q⟩
def fLeSe : D → Option Rs
  | .list ds => (intsD ds).bind fun ns => if ns.length < 64 then some ⟨.int (sortS ns).length, false⟩ else none
  | _ => none
theorem ge_lenSet {np np2 q : Pos} {g : En → Res D} (hK : X.K = C.K) (hc : X.calm = true) (hg : Gl X "len") (hm : X.mg "len" = none) (hg2 : Gl X "set") (hm2 : X.mg "set" = none) (ha : GO C X W a g)
    (hs : starEach [a] X.env = (false, eval a X.env) :: starEach [] X.env := by rfl) (hpl : (backTo q (starEach [] X.env)).any (·.1) = false := by rfl)
    (hs2 : starEach [.Call (.Name "set" np2) [a] [] q] X.env = (false, eval (.Call (.Name "set" np2) [a] [] q) X.env) :: starEach [] X.env := by rfl) (hpl2 : (backTo pos (starEach [] X.env)).any (·.1) = false := by rfl) :
    GE C X W (.Call (.Name "len" np) [.Call (.Name "set" np2) [a] [] q] [] pos) (xOne fLeSe g) := by
  refine pe_imp (pe_callB cr_lenSet hg hm boot_len (pa_cons (pe_callTy (cr_setL2 hc) hg2 hm2 boot_set (pa_cons ha pa_nil hs) (by decide) (by decide) hs hpl) pa_nil hs2) (by decide) (by decide) hs2 hpl2) fun σ H Q ⟨e0, Bx, s, q⟩ => ?_
  refine ⟨e0, Bx, s, run_mono (bind_run q) (fun d e1 q v H1 p1 => ?_) fun _ z => z⟩
  cases d with
  | list ds =>
    dsimp only [fLeSe] at q
    cases w : intsD ds with
    | none => rw [w] at q; exact q.elim
    | some ns =>
      rw [w] at q
      dsimp only [Option.bind_some] at q
      split at q
      · rename_i z
        split at z
        · rename_i h64
          cases z
          obtain ⟨l, xs, rfl, hq, rs⟩ := p1.o.list
          refine ⟨l, ns, rfl, by rw [hK, ← reps_ints w rs]; exact sql_rd hq, h64, fun p c hp hcl => ?_⟩
          refine ⟨p, ns, c, rfl, upd_same, h64, ?_⟩
          have s2 := p1.s.heap (ext_new (o := SetO X.w p (fun k => decide (k ∈ ns)) c) hp)
          exact q _ _ (.mk0 (Kp.trans p1.fr (Kp.new hp)) p1.le s2 (.int _))
        · cases z
      · exact q.elim
  | _ => exact q.elim
end
end G
end L2
namespace L2
namespace G
open PySem PySem.Spec PyProof.Rows
section
variable {C : Ct} {X : Cx} {W : WX} {io : List Nat} {e : Expr} {st : Stmt}
/-- what nothing is told of -/
theorem ge_st : GE C X W e (fun _ => .st) := ⟨fun pins s σ H Q I ⟨_, _, _, q⟩ => q.elim⟩
theorem gs_st : GS C X W io st (fun _ => .st) := ⟨fun pins s σ H D I ⟨_, _, _, q⟩ => q.elim⟩
end
end G
end L2
namespace L2
namespace G
open PySem PySem.Spec PyProof.Rows
section
variable {F : D → D → Option Rs} {f g h : XF} {go : En → Res D} {sg : SF} {i j l : Nat} {e : En} {PF : Fl → En → Prop} {P : Rs → En → Prop} {PA : List D → En → Prop} {E : Exn → Prop}
theorem rn_sRng : (sRng i go e).rn PF E = (go e).rn (fun d e1 => oK (dI d) fun n => aK (i < e1.length) (PF .nx (e1.set i (.rg 0 n)))) E := by
  simp only [rn_run, oK_def, aK_def]
  unfold sRng
  cases go e with
  | ok d e1 =>
    cases d <;> try rfl
    rename_i n
    show (if i < e1.length then Res.ok Fl.nx (e1.set i (.rg 0 n)) else Res.st).run PF E = aK0 (i < e1.length) _
    unfold aK0
    by_cases c : i < e1.length
    · rw [if_pos c]; exact (propext (and_iff_right c)).symm
    · rw [if_neg c]; exact propext ⟨fun z => z.elim, fun z => c z.1⟩
  | st => rfl
  | ex y => rfl
theorem rn_iRv : (iRv i e).rn PA E = oK (rgS e[i]?) fun ds => PA ds e := by
  simp only [rn_run, oK_def]
  unfold iRv
  cases rgS e[i]? <;> rfl
theorem rgS_s {n : Nat} (hn : n ≤ 100000) : rgS (some (.rg 0 (n : Nat))) = some (rgN n) := by
  have h1 : near 0 = true := rfl
  have h2 : near (n : Int) = true := by
    unfold near
    have : (n : Int) ≤ 100000 := by omega
    rw [decide_eq_true (by omega), decide_eq_true (by omega)]; rfl
  show (if near 0 && near (n : Int) then some (iseq 0 1 ((n : Int) - 0).toNat) else none) = _
  rw [h1, h2]
  show some (iseq 0 1 ((n : Int) - 0).toNat) = _
  rw [Int.sub_zero, iseq0, Int.toNat_natCast]
theorem rn_sPar3 : (sPar3 i j l f g h e).rn PF E = (f e).rn (fun r1 e1 => (g e1).rn (fun r2 e2 => (h e2).rn (fun r3 e3 => oK (gV l r3 e3) fun e4 => oK (gV j r2 e4) fun e5 => oK (gV i r1 e5) fun e6 => PF .nx e6) E) E) E := by
  simp only [rn_run, oK_def]
  unfold sPar3
  cases f e with
  | ok r1 e1 =>
    show ((g e1).bind _).run PF E = (g e1).run _ E
    cases g e1 with
    | ok r2 e2 =>
      show ((h e2).bind _).run PF E = (h e2).run _ E
      cases h e2 with
      | ok r3 e3 =>
        simp only [Res.bind, Res.run]
        cases gV l r3 e3 with
        | none => rfl
        | some e4 =>
          simp only
          cases z : gV j r2 e4 with
          | none => simp only [oK0, z]
          | some e5 =>
            simp only [oK0, z]
            cases z2 : gV i r1 e5 with
            | none => rfl
            | some e6 => rfl
      | st => rfl
      | ex y => rfl
    | st => rfl
    | ex y => rfl
  | st => rfl
  | ex y => rfl
def ixG (ds : List D) : D → Option (Nat × D)
  | .int j => if 0 ≤ j then (ds[j.toNat]?).map fun x => (j.toNat, x) else none
  | _ => none
theorem ixG_n {ds : List D} {k : Nat} {x : D} (hx : ds[k]? = some x) : ixG ds (.int (k : Nat)) = some (k, x) := by
  show (if 0 ≤ (k : Int) then (ds[(k : Int).toNat]?).map fun x => ((k : Int).toNat, x) else none) = _
  rw [if_pos (Int.natCast_nonneg k), Int.toNat_natCast, hx]; rfl
theorem rn_sAugI : (sAugI F i f go e).rn PF E = aK ((ownL i e).isSome = true) ((f e).rn (fun k e1 => oK (ownL i e1) fun ds => oK (ixG ds k.d) fun mx => aK (scal1 mx.2 = true) ((go e1).rn (fun y e2 => oK (F mx.2 y) fun z => oK (ownL i e2) fun ds2 =>
    aK (scal1 z.d = true ∧ mx.1 < ds2.length) (PF .nx (e2.set i (.ow true (.list (ds2.set mx.1 z.d)))))) E)) E) := by
  simp only [rn_run, oK_def, aK_def]
  unfold sAugI aK0
  by_cases c : (ownL i e).isSome = true
  · rw [if_pos c]
    refine Eq.trans ?_ (propext (and_iff_right c)).symm
    cases f e with
    | ok k e1 =>
      obtain ⟨kd, kf⟩ := k
      simp only [Res.bind, Res.run]
      cases w : ownL i e1 with
      | none => cases kd <;> rfl
      | some ds =>
        cases kd <;> try rfl
        rename_i j
        simp only [oK0, ixG]
        by_cases c1 : 0 ≤ j
        · simp only [if_pos c1]
          cases y : ds[j.toNat]? with
          | none => rfl
          | some x =>
            simp only [Option.map_some]
            by_cases c2 : scal1 x = true
            · simp only [if_pos c2]
              refine Eq.trans ?_ (propext (and_iff_right c2)).symm
              cases go e1 with
              | ok y e2 =>
                simp only
                cases F x y with
                | none => rfl
                | some z =>
                  simp only
                  cases ownL i e2 with
                  | none => rfl
                  | some ds2 =>
                    simp only
                    by_cases c3 : scal1 z.d = true ∧ j.toNat < ds2.length
                    · rw [if_pos (by simp [c3.1, c3.2])]
                      exact (propext (and_iff_right c3)).symm
                    · rw [if_neg (by simpa using c3)]
                      exact propext ⟨fun z => z.elim, fun z => c3 z.1⟩
              | st => rfl
              | ex y => rfl
            · simp only [if_neg c2]
              exact propext ⟨fun z => z.elim, fun z => c2 z.1⟩
        · simp only [if_neg c1]
    | st => rfl
    | ex y => rfl
  · rw [if_neg c]
    exact propext ⟨fun z => z.elim, fun z => c z.1⟩
theorem rn_q_rng : (sSeq (sRng i go) sg e).rn PF E = (sRng i go e).rn (fun fl e1 => sK fl ((sg e1).rn PF E) fun fl => PF fl e1) E := rn_sSeq
theorem rn_q_par3 : (sSeq (sPar3 i j l f g h) sg e).rn PF E = (sPar3 i j l f g h e).rn (fun fl e1 => sK fl ((sg e1).rn PF E) fun fl => PF fl e1) E := rn_sSeq
theorem rn_q_augI : (sSeq (sAugI F i f go) sg e).rn PF E = (sAugI F i f go e).rn (fun fl e1 => sK fl ((sg e1).rn PF E) fun fl => PF fl e1) E := rn_sSeq
end
/-! two fors -/
section
variable {α β : Type} {g g1 : Rs → En → Option En} {tt tt1 : En → Res Bool} {it it1 : En → Res (List D)} {te : XF} {vs vs1 : List Nat} {e : En} {E : Exn → Prop} {P : Rs → En → Prop}
theorem rn_xLc2 : (xLc2 it g tt it1 g1 tt1 te vs vs1 e).rn P E = (it e).rn (fun ds e1 => aK (okW e1 vs = true) ((lcOuter g tt it1 g1 tt1 te vs vs1 ds [] e1).rn (lcR vs e1 P) E)) E := by
  simp only [rn_run, aK_def]
  unfold xLc2
  cases it e with
  | ok ds e1 =>
    simp only [Res.bind, Res.run]
    unfold aK0
    by_cases c : okW e1 vs = true
    · rw [if_pos c]
      refine Eq.trans ?_ (propext (and_iff_right c)).symm
      cases lcOuter g tt it1 g1 tt1 te vs vs1 ds [] e1 <;> rfl
    · rw [if_neg c]
      exact propext ⟨fun z => z.elim, fun z => c z.1⟩
  | st => rfl
  | ex y => rfl
/-- one turn of the outer walk -/
def OutT (g g1 : Rs → En → Option En) (tt tt1 : En → Res Bool) (it1 : En → Res (List D)) (te : XF) (vs vs1 : List Nat) (e : En) (ua : D) (pa : Bool) (ws : List β) (w : β → D) (p1 : β → Bool) (v : β → D) : Prop :=
  oK (g ⟨ua, false⟩ (wipeE e vs)) fun e1 => (tt e1).rn (fun b e2 => b = pa ∧ iK pa ((it1 e2).rn (fun ds e3 => ds = ws.map w ∧ wipeE e3 vs = wipeE e vs ∧
    ∀ b ∈ ws, oK (g1 ⟨w b, false⟩ (wipeE e3 vs1)) fun e4 => (tt1 e4).rn (fun c e5 => c = p1 b ∧ iK (p1 b) ((te e5).rn (fun r e6 => r.d = v b ∧ wipeE e6 vs1 = wipeE e3 vs1) fun _ => False) (wipeE e5 vs1 = wipeE e3 vs1)) fun _ => False) fun _ => False) (wipeE e2 vs = wipeE e vs)) fun _ => False
theorem lc2_go (hsub : ∀ i ∈ vs1, i ∈ vs) (u : α → D) (p : α → Bool) (ws : α → List β) (w : α → β → D) (p1 : α → β → Bool) (v : α → β → D) (e0 : En) : ∀ (us : List α) (acc : List D) (e : En), wipeE e vs = wipeE e0 vs →
    (∀ a ∈ us, OutT g g1 tt tt1 it1 te vs vs1 e0 (u a) (p a) (ws a) (w a) (p1 a) (v a)) → acc.length + ((us.filter p).map fun a => (ws a).length).sum ≤ most →
    ∃ e', lcOuter g tt it1 g1 tt1 te vs vs1 (us.map u) acc e = .ok (acc ++ (us.filter p).flatMap fun a => ((ws a).filter (p1 a)).map (v a)) e' ∧ wipeE e' vs = wipeE e0 vs
  | [], acc, e, h0, _, _ => ⟨e, by simp [lcOuter], h0⟩
  | a :: us, acc, e, h0, hb, hl => by
    have hb' := fun a m => hb a (List.mem_cons_of_mem _ m)
    obtain ⟨e1, q1, q2⟩ := oK_ex (hb a (by simp))
    obtain ⟨b, e2, q3, rfl, q4⟩ := rn_ex' q2
    rw [List.map_cons]
    unfold lcOuter
    rw [h0, q1]
    simp only [q3]
    cases hp : p a with
    | false =>
      rw [hp] at q4
      simp only
      obtain ⟨e', z1, z2⟩ := lc2_go hsub u p ws w p1 v e0 us acc e2 (q4.2 rfl) hb' (by simpa [hp] using hl)
      exact ⟨e', by simpa [hp] using z1, z2⟩
    | true =>
      rw [hp] at q4
      obtain ⟨ds, e3, q5, rfl, q6, q7⟩ := rn_ex' (q4.1 rfl)
      simp only [q5]
      have hl1 : acc.length + (ws a).length + ((us.filter p).map fun a => (ws a).length).sum ≤ most := by
        simp only [List.filter_cons, hp, if_true, List.map_cons, List.sum_cons] at hl; omega
      obtain ⟨e5, z1, z2⟩ := lc_map (gg := g1) (tt := tt1) (te := te) (w := wipeE e3 vs1) (vs := vs1) (ws a) (w a) (v a) (p1 a) (fun b m => by
        obtain ⟨e4, y1, y2⟩ := oK_ex (q7 b m)
        obtain ⟨c, e5, y3, rfl, y4⟩ := rn_ex' y2
        refine ⟨e4, e5, y1, y3, fun hp => ?_, fun hp => ?_⟩
        · obtain ⟨r, e6, y5, y6, y7⟩ := rn_ex' (y4.1 hp)
          exact ⟨r.fr, e6, by rw [y5, ← y6], y7, by rw [← y7, wipeE_length]⟩
        · have := y4.2 hp
          exact ⟨this, by rw [← this, wipeE_length]⟩) acc e3 rfl (by omega)
      rw [z1]
      have h5 : wipeE e5 vs = wipeE e0 vs := by
        have : wipeE e5 vs1 = wipeE e3 vs1 := z2
        rw [← wipeE_sub (e0 := e5) hsub, this, wipeE_sub hsub, q6]
      have hl2 : (((ws a).filter (p1 a)).map (v a)).length ≤ (ws a).length := by rw [List.length_map]; exact List.length_filter_le _ _
      obtain ⟨e', x1, x2⟩ := lc2_go hsub u p ws w p1 v e0 us (acc ++ ((ws a).filter (p1 a)).map (v a)) e5 h5 hb' (by rw [List.length_append]; omega)
      refine ⟨e', ?_, x2⟩
      show lcOuter g tt it1 g1 tt1 te vs vs1 (us.map u) _ e5 = _
      rw [x1]
      simp [hp]
/-- two fors that leave the other slots as they are -/
theorem lc2_pure (hsub : ∀ i ∈ vs1, i ∈ vs) (us : List α) (u : α → D) (p : α → Bool) (ws : α → List β) (w : α → β → D) (p1 : α → β → Bool) (v : α → β → D) (hl : ((us.filter p).map fun a => (ws a).length).sum ≤ most)
    (hb : ∀ a ∈ us, OutT g g1 tt tt1 it1 te vs vs1 e (u a) (p a) (ws a) (w a) (p1 a) (v a))
    (hP : P ⟨.list ((us.filter p).flatMap fun a => ((ws a).filter (p1 a)).map (v a)), true⟩ e) : (lcOuter g tt it1 g1 tt1 te vs vs1 (us.map u) [] e).rn (lcR vs e P) E := by
  obtain ⟨e', h1, h2⟩ := lc2_go hsub u p ws w p1 v e us [] e rfl hb (by simpa using hl)
  rw [h1, rn_ok]
  show P _ _
  rw [resE_same h2]
  simpa using hP
end
end G
end L2
namespace L2
namespace G
open PySem PySem.Spec PyProof.Rows
/-! lemmas to run the functions -/
/-- rising, below i -/
def Asc (ps : List Nat) (i : Nat) : Prop := ps.Pairwise (· < ·) ∧ ∀ x ∈ ps, x < i
theorem Asc.app {ps : List Nat} {i : Nat} (h : Asc ps i) : Asc (ps ++ [i]) (i + 1) := by
  refine ⟨List.pairwise_append.mpr ⟨h.1, by simp, fun a ha b hb => ?_⟩, fun x hx => ?_⟩
  · rw [List.mem_singleton.mp hb]; exact h.2 a ha
  · rcases List.mem_append.mp hx with z | z
    · have := h.2 x z; omega
    · rw [List.mem_singleton.mp z]; omega
theorem Asc.up {ps : List Nat} {i : Nat} (h : Asc ps i) : Asc ps (i + 1) := ⟨h.1, fun x hx => by have := h.2 x hx; omega⟩
theorem Asc.filt (N : Nat) (p : Nat → Bool) : Asc ((List.range N).filter p) N := ⟨List.Pairwise.filter _ List.pairwise_lt_range, fun x hx => List.mem_range.mp (List.mem_filter.mp hx).1⟩
theorem asc_tb {ps : List Nat} {N : Nat} (h : Asc ps N) : (ps.map fun i => 2 ^ i).sum = tb (fun x => decide (x ∈ ps)) N := by
  have e : ps = (List.range N).filter fun x => decide (x ∈ ps) := by
    refine List.Perm.eq_of_pairwise (le := (· < ·)) (fun a b _ _ h1 h2 => by omega) h.1 (Asc.filt N _).1 ?_
    refine (List.perm_ext_iff_of_nodup (h.1.imp fun h e => by omega) ((Asc.filt N _).1.imp fun h e => by omega)).mpr fun a => ?_
    rw [List.mem_filter, List.mem_range]
    exact ⟨fun m => ⟨h.2 a m, by simpa using m⟩, fun m => by simpa using m.2⟩
  conv => lhs; rw [e]
  exact tb_sum _ N
theorem Asc.len {ps : List Nat} {N : Nat} (h : Asc ps N) : ps.length ≤ N := by
  have := nat_nodup_len ps (List.range N) (h.1.imp fun h e => by omega) fun x hx => List.mem_range.mpr (h.2 x hx)
  simpa using this
theorem fMul_b {a : Int} {b : Nat} (ha : -100000 ≤ a ∧ a ≤ 100000) (hb : b ≤ 100000) : fMul (.int a) (.int (b : Nat)) = some ⟨.int (a * (b : Nat)), false⟩ := by
  have h1 : a.natAbs.log2 < 64 := log2_le (k := 64) (by omega) (by decide)
  have h2 : b.log2 < 64 := log2_le (k := 64) (by omega) (by decide)
  show (if cMul a (b : Nat) then si (a * (b : Nat)) else none) = _
  have h3 : cMul a (b : Nat) = true := by simp only [cMul, Int.natAbs_natCast, decide_eq_true_eq]; omega
  rw [if_pos h3]
theorem fNe_LN0 {L : List Nat} : fNe (.list (L.map fun (x : Nat) => .int (x : Nat))) (.list []) = some ⟨.bool (decide (L ≠ [])), false⟩ := fNe_LN L []
theorem fEq_LN0 {L : List Nat} : fEq (.list (L.map fun (x : Nat) => .int (x : Nat))) (.list []) = some ⟨.bool (decide (L = [])), false⟩ := fEq_LN L []
theorem fSoSe_LN {L : List Nat} {N : Nat} (hl : L.length < 64) (h : ∀ x ∈ L, x < N) : fSoSe (LN L) = some ⟨LN ((List.range N).filter fun x => decide (x ∈ L)), true⟩ := by
  have h1 : ∀ L : List Nat, intsD (L.map fun (x : Nat) => PyData.int (x : Nat)) = some (L.map fun (x : Nat) => (x : Int)) := fun L => by
    induction L with
    | nil => rfl
    | cons a L ih => simp only [List.map_cons, intsD, ih]; rfl
  unfold fSoSe LN
  simp only [h1, Option.bind_some, List.length_map, if_pos hl]
  have e : sortS (L.map fun (x : Nat) => (x : Int)) = ((List.range N).filter fun x => decide (x ∈ L)).map fun (x : Nat) => (x : Int) := by
    refine rise_eq sortS_pw ?_ fun k => ?_
    · rw [List.pairwise_map]
      exact (List.Pairwise.filter _ List.pairwise_lt_range).imp fun h => by omega
    · rw [sortS_mem]
      simp only [List.mem_map, List.mem_filter, List.mem_range, decide_eq_true_eq]
      exact ⟨fun ⟨a, ha, q⟩ => ⟨a, ⟨h a ha, ha⟩, q⟩, fun ⟨a, ha, q⟩ => ⟨a, ha.2, q⟩⟩
  rw [e, List.map_map]; rfl
theorem rows_LN {rs : List Rs} {m : Nat} (h : ∀ r ∈ rs, ∃ f : Nat, f < m ∧ r = ⟨.int (f : Nat), false⟩) : ∃ L : List Nat, (∀ x ∈ L, x < m) ∧ L.length = rs.length ∧ (PyData.list (rs.map (·.d)) : D) = LN L := by
  induction rs with
  | nil => exact ⟨[], by simp, rfl, rfl⟩
  | cons r rs ih =>
    obtain ⟨L, h1, h2, h3⟩ := ih fun r hr => h r (List.mem_cons_of_mem _ hr)
    obtain ⟨f, hf, rfl⟩ := h r (by simp)
    refine ⟨f :: L, ?_, by simp [h2], ?_⟩
    · intro x hx
      rcases List.mem_cons.mp hx with z | z
      · rw [z]; exact hf
      · exact h1 x z
    · unfold LN at h3 ⊢
      injection h3 with h3
      rw [List.map_cons, List.map_cons, h3]
theorem fAdd_T {xs ys : List D} (h : xs.length + ys.length ≤ 100000) : fAdd (.tuple xs) (.tuple ys) = some ⟨.tuple (xs ++ ys), false⟩ := by
  show (if _ then _ else _) = _
  rw [if_pos (most_s h)]
theorem fAdd_L {xs ys : List D} (h : xs.length + ys.length ≤ 100000) : fAdd (.list xs) (.list ys) = some ⟨.list (xs ++ ys), true⟩ := by
  show (if _ then _ else _) = _
  rw [if_pos (most_s h)]
theorem fAdd_LN {a b : List Nat} (h : a.length + b.length ≤ 100000) : fAdd (LN a) (LN b) = some ⟨LN (a ++ b), true⟩ := by
  unfold LN
  rw [fAdd_L (by simpa using h), List.map_append]
theorem ixT_of {ds : List D} {k : Nat} (h : k < ds.length) : fIxA (.tuple ds) (.int (k : Nat)) = some ⟨ds[k], false⟩ := ixT (List.getElem?_eq_getElem h)
theorem ixL_of {ds : List D} {k : Nat} (h : k < ds.length) : fIxA (.list ds) (.int (k : Nat)) = some ⟨ds[k], false⟩ := ixL (List.getElem?_eq_getElem h)
theorem fList_T {ds : List D} : fList (.tuple ds) = some ⟨.list ds, true⟩ := rfl
theorem fList_L {ds : List D} : fList (.list ds) = some ⟨.list ds, true⟩ := rfl
theorem fTuple_L {ds : List D} : fTuple (.list ds) = some ⟨.tuple ds, false⟩ := rfl
theorem fTuple_T {ds : List D} : fTuple (.tuple ds) = some ⟨.tuple ds, false⟩ := rfl
theorem fEq_bool {a b : Bool} : fEq (.bool a) (.bool b) = some ⟨.bool (a == b), false⟩ := by
  have h1 : ∀ {k : Bool}, SeqAt.shaped (.bool k) = true := by intro k; simp [SeqAt.shaped, PyData.canLay0, PyData.depth]
  unfold fEq
  rw [h1, h1]; cases a <;> cases b <;> rfl
theorem fNe_bool {a b : Bool} : fNe (.bool a) (.bool b) = some ⟨.bool (a != b), false⟩ := by
  have h1 : ∀ {k : Bool}, SeqAt.shaped (.bool k) = true := by intro k; simp [SeqAt.shaped, PyData.canLay0, PyData.depth]
  unfold fNe
  rw [h1, h1]; cases a <;> cases b <;> rfl
theorem near_n {n : Nat} (hn : n ≤ 100000) : near (n : Int) = true := by
  unfold near
  have : (n : Int) ≤ 100000 := by omega
  rw [decide_eq_true (by omega), decide_eq_true (by omega)]; rfl
theorem fRg_n {n : Nat} (hn : n ≤ 100000) : fRg 0 (n : Nat) = some ⟨LN (List.range n), true⟩ := by
  unfold fRg
  have h1 : near 0 = true := rfl
  rw [h1, near_n hn, Int.sub_zero, iseq0, Int.toNat_natCast, decide_eq_true (most_s hn)]
  rfl
/-- tuples of naturals -/
def TN (L : List Nat) : D := .tuple (L.map fun (x : Nat) => .int (x : Nat))
theorem eqv_tl (xs ys : List D) : PyData.eqv (.tuple xs) (.tuple ys) = PyData.eqv (.list xs) (.list ys) := by
  simp only [PyData.eqv]
theorem TN_ok (L : List Nat) : SeqAt.shaped (TN L) = true := by
  have h := LN_ok L
  unfold SeqAt.shaped at h ⊢
  simpa [LN, TN, PyData.canLay0, PyData.depth] using h
theorem fEq_TN (xs ys : List Nat) : fEq (TN xs) (TN ys) = some ⟨.bool (decide (xs = ys)), false⟩ := by
  have h := fEq_LN xs ys
  unfold fEq at h ⊢
  rw [TN_ok, TN_ok]
  rw [LN_ok, LN_ok] at h
  unfold TN; rw [eqv_tl]; exact h
theorem fNe_TN (xs ys : List Nat) : fNe (TN xs) (TN ys) = some ⟨.bool (decide (xs ≠ ys)), false⟩ := by
  have h := fNe_LN xs ys
  unfold fNe at h ⊢
  rw [TN_ok, TN_ok]
  rw [LN_ok, LN_ok] at h
  unfold TN; rw [eqv_tl]; exact h
theorem itemsD_TN {L : List Nat} : itemsD (TN L) = some (L.map fun (x : Nat) => .int (x : Nat)) := rfl
theorem fTuple_LN {L : List Nat} : fTuple (LN L) = some ⟨TN L, false⟩ := rfl
theorem fList_TN {L : List Nat} : fList (TN L) = some ⟨LN L, true⟩ := rfl
theorem fLen_TN {L : List Nat} : fLen (TN L) = some ⟨.int (L.length : Nat), false⟩ := by
  unfold TN; rw [fLen_tuple]; simp
theorem ixTN {L : List Nat} {k : Nat} (h : k < L.length) : fIxA (TN L) (.int (k : Nat)) = some ⟨.int (L.getD k 0 : Nat), false⟩ := by
  unfold TN
  refine ixT ?_
  rw [List.getElem?_map, List.getD_eq_getElem?_getD, List.getElem?_eq_getElem h]; rfl
theorem isT_tuple_TN {L : List Nat} : isT .tuple (TN L) = true := rfl
section
variable {gg : Rs → En → Option En} {tt : En → Res Bool} {te : XF} {b : SF} {vs : List Nat} {e : En} {E : Exn → Prop} {PF : Fl → En → Prop} {Q : List D → En → Prop} {n : Nat}
theorem range_mid {N a : Nat} {pre post : List Nat} (h : List.range N = pre ++ a :: post) : a = pre.length ∧ pre.length < N := by
  have h1 : (List.range N)[pre.length]? = some a := by rw [h]; simp
  have hl : pre.length < N := by
    have := congrArg List.length h
    simp at this; omega
  rw [List.getElem?_range hl] at h1
  exact ⟨(Option.some.inj h1).symm, hl⟩
/-- a walk over u 0, u 1, .. -/
theorem forU (u : Nat → D) (I : Nat → En → Prop) (h0 : I 0 e)
    (hs : ∀ i, i < n → ∀ e, I i e → oK (gg ⟨u i, false⟩ e) fun e1 => (b e1).rn (fun fl e2 => tK fl (I (i + 1) e2) (PF fl e2)) E)
    (hP : ∀ e, I n e → PF .nx e) : (floop gg b ((List.range n).map u) e).rn PF E := by
  refine forL (List.range n) u (fun pre e => I pre.length e) h0 (fun pre a post hq e he => ?_) (fun e he => hP e (by simpa using he))
  obtain ⟨rfl, hl⟩ := range_mid hq
  have hz : (pre ++ [pre.length]).length = pre.length + 1 := by simp
  rw [hz]
  exact hs _ hl e he
theorem lcU (u : Nat → D) (I : Nat → List D → En → Prop) (h0 : I 0 [] e) (hl : n ≤ most)
    (hs : ∀ i, i < n → ∀ acc e, I i acc e → oK (gg ⟨u i, false⟩ (wipeE e vs)) fun e1 => (tt e1).rn (fun b e2 => iK b ((te e2).rn (fun r e3 => I (i + 1) (acc ++ [r.d]) e3) fun _ => False) (I (i + 1) acc e2)) fun _ => False)
    (hP : ∀ acc e, I n acc e → Q acc e) : (lcLoop gg tt te vs ((List.range n).map u) [] e).rn Q E := by
  refine lcI (List.range n) u (fun pre acc e => I pre.length acc e) h0 (by simpa using hl) (fun pre a post hq acc e he => ?_) (fun acc e he => hP acc e (by simpa using he))
  obtain ⟨rfl, hl⟩ := range_mid hq
  have hz : (pre ++ [pre.length]).length = pre.length + 1 := by simp
  rw [hz]
  exact hs _ hl acc e he
end
theorem dec_le0 {a : Nat} : decide ((0 : Int) ≤ (a : Nat)) = true := decide_eq_true (Int.natCast_nonneg a)
theorem truD_n {a : Nat} : truD (.int (a : Nat)) = some (decide (a ≠ 0)) := by
  show some ((a : Int) != 0) = _
  congr 1
  cases a with
  | zero => rfl
  | succ a => simp; omega
theorem or_new {a i : Nat} (h : a < 2 ^ i) : a ||| 2 ^ i = a + 2 ^ i := by
  rw [Nat.add_comm, Nat.or_comm]
  have := Nat.two_pow_add_eq_or_of_lt h 1
  simpa using this.symm
end G
end L2
namespace L2
namespace G
open PySem PySem.Spec PyProof.Rows
/-! sorted rows of naturals -/
def insN (x : Nat) : List Nat → List Nat
  | [] => [x]
  | y :: ys => if x ≤ y then x :: y :: ys else y :: insN x ys
def srtN : List Nat → List Nat
  | [] => []
  | x :: xs => insN x (srtN xs)
theorem leD_n {x y : Nat} : leD (.int (x : Nat)) (.int (y : Nat)) = decide (x ≤ y) := by
  show (!(decide (((y : Nat) : Int) < (x : Nat)) || (!decide (((x : Nat) : Int) < (y : Nat)) && false))) = _
  by_cases h : x ≤ y
  · rw [decide_eq_false (show ¬ ((y : Nat) : Int) < (x : Nat) by omega), decide_eq_true h]; simp
  · rw [decide_eq_true (show ((y : Nat) : Int) < (x : Nat) by omega), decide_eq_false h]; simp
theorem insD_n {x : Nat} : ∀ ys : List Nat, insD leD (.int (x : Nat)) (ys.map fun (y : Nat) => .int (y : Nat)) = (insN x ys).map fun (y : Nat) => .int (y : Nat)
  | [] => rfl
  | y :: ys => by
    show (if leD (.int (x : Nat)) (.int (y : Nat)) = true then _ else _) = _
    rw [leD_n]
    unfold insN
    by_cases h : x ≤ y
    · rw [if_pos (by simpa using h), if_pos h]; rfl
    · rw [if_neg (by simpa using h), if_neg h, insD_n ys]; rfl
theorem srtD_n : ∀ xs : List Nat, srtD leD (xs.map fun (y : Nat) => .int (y : Nat)) = (srtN xs).map fun (y : Nat) => .int (y : Nat)
  | [] => rfl
  | x :: xs => by
    show insD leD (.int (x : Nat)) (srtD leD (xs.map fun (y : Nat) => .int (y : Nat))) = _
    rw [srtD_n xs, insD_n]; rfl
theorem insN_perm {x : Nat} : ∀ ys : List Nat, (insN x ys).Perm (x :: ys)
  | [] => .refl _
  | y :: ys => by
    unfold insN
    split
    · exact .refl _
    · exact (List.Perm.cons y (insN_perm ys)).trans (.swap x y ys)
theorem srtN_perm : ∀ xs : List Nat, (srtN xs).Perm xs
  | [] => .refl _
  | x :: xs => (insN_perm (srtN xs)).trans (.cons x (srtN_perm xs))
theorem insN_sorted {x : Nat} : ∀ {ys : List Nat}, ys.Pairwise (· ≤ ·) → (insN x ys).Pairwise (· ≤ ·)
  | [], _ => by simp [insN]
  | y :: ys, h => by
    have h' := List.pairwise_cons.mp h
    unfold insN
    split
    · rename_i hxy
      refine List.pairwise_cons.mpr ⟨fun a ha => ?_, h⟩
      rcases List.mem_cons.mp ha with z | z
      · rw [z]; exact hxy
      · exact Nat.le_trans hxy (h'.1 a z)
    · rename_i hxy
      refine List.pairwise_cons.mpr ⟨fun a ha => ?_, insN_sorted h'.2⟩
      rcases List.mem_cons.mp ((insN_perm ys).mem_iff.mp ha) with z | z
      · omega
      · exact h'.1 a z
theorem srtN_sorted : ∀ xs : List Nat, (srtN xs).Pairwise (· ≤ ·)
  | [] => .nil
  | x :: xs => insN_sorted (srtN_sorted xs)
theorem srtN_range {n : Nat} {L : List Nat} (h : L.Perm (List.range n)) : srtN L = List.range n :=
  List.Perm.eq_of_pairwise (le := (· ≤ ·)) (fun a b _ _ h1 h2 => Nat.le_antisymm h1 h2) (srtN_sorted L) (List.pairwise_lt_range.imp fun h => Nat.le_of_lt h) ((srtN_perm L).trans h)
theorem srtN_no {n : Nat} {L : List Nat} (h : L.length ≠ n) : srtN L ≠ List.range n := fun z => h (by
  have := congrArg List.length z
  rw [(srtN_perm L).length_eq, List.length_range] at this
  exact this)
theorem srtN_asc {L : List Nat} (h : L.Pairwise (· < ·)) : srtN L = L :=
  List.Perm.eq_of_pairwise (le := (· ≤ ·)) (fun a b _ _ h1 h2 => Nat.le_antisymm h1 h2) (srtN_sorted L) (h.imp fun h => Nat.le_of_lt h) (srtN_perm L)
theorem sortOk_n {L : List Nat} (hl : L.length ≤ 1000) : sortOk (L.map fun (x : Nat) => PyData.int (x : Nat)) = true := by
  unfold sortOk
  simp only [Bool.and_eq_true, Bool.or_eq_true, List.all_eq_true, List.mem_map, decide_eq_true_eq, List.length_map]
  refine ⟨⟨⟨?_, .inr ?_⟩, ?_⟩, most_s (by omega)⟩
  · rintro _ ⟨a, _, rfl⟩ _ ⟨b, _, rfl⟩
    rfl
  · rintro _ ⟨a, _, rfl⟩
    rfl
  · rintro _ ⟨a, _, rfl⟩
    rfl
theorem fSort_LN {L : List Nat} (hl : L.length ≤ 1000) : fSort (LN L) = some ⟨LN (srtN L), true⟩ := by
  show (if sortOk (L.map fun (x : Nat) => PyData.int (x : Nat)) = true then some (⟨.list (srtD leD (L.map fun (x : Nat) => PyData.int (x : Nat))), true⟩ : Rs) else none) = _
  rw [if_pos (sortOk_n hl), srtD_n]
  rfl
theorem fSort_TN {L : List Nat} (hl : L.length ≤ 1000) : fSort (TN L) = some ⟨LN (srtN L), true⟩ := fSort_LN hl
theorem fSort_asc {L : List Nat} (hl : L.length ≤ 1000) (h : L.Pairwise (· < ·)) : fSort (.list (L.map fun (x : Nat) => .int (x : Nat))) = some ⟨LN L, true⟩ := by
  have := fSort_LN hl
  rw [srtN_asc h] at this
  exact this
theorem dec_ne_self {α : Type} [DecidableEq α] {a : α} : decide (a ≠ a) = false := by simp
theorem dec_eq_self {α : Type} [DecidableEq α] {a : α} : decide (a = a) = true := by simp
theorem filt_no {α : Type} {l : List α} : l.filter (fun _ => false) = [] := by simp
theorem filt_all {α : Type} {l : List α} : l.filter (fun _ => true) = l := by simp
theorem fEq_nil : fEq (.list []) (.list []) = some ⟨.bool true, false⟩ := fEq_LN [] []
theorem fNe_nil : fNe (.list []) (.list []) = some ⟨.bool false, false⟩ := fNe_LN [] []
end G
end L2
namespace L2
namespace G
open PySem PySem.Spec PyProof.Rows
section
variable {ga : En → Res (List D)} {e : En} {PA : List D → En → Prop} {E : Exn → Prop}
def rg2 : List D → Option (List D)
  | [.int i, .int j] => if near i && near j then some (iseq i 1 (j - i).toNat) else none
  | _ => none
theorem rn_iR2 : (iR2 ga e).rn PA E = (ga e).rn (fun ds e1 => oK (rg2 ds) fun l => PA l e1) E := by
  simp only [rn_run, oK_def]
  unfold iR2
  cases ga e with
  | ok r e1 =>
    match r with
    | [] => rfl
    | [a] => cases a <;> rfl
    | a :: b :: c :: l => cases a <;> cases b <;> rfl
    | [a, b] =>
      cases a <;> cases b <;> try rfl
      rename_i i j
      show Res.run (if near i && near j then Res.ok (iseq i 1 (j - i).toNat) e1 else Res.st) PA E = oK0 (if near i && near j then some (iseq i 1 (j - i).toNat) else none) fun l => PA l e1
      cases near i && near j <;> rfl
  | st => rfl
  | ex y => rfl
/-- the numbers from a on below b -/
theorem rg2_n {a b : Nat} (ha : a ≤ 100000) (hb : b ≤ 100000) : rg2 [.int (a : Nat), .int (b : Nat)] = some ((List.range (b - a)).map fun (k : Nat) => .int ((a + k : Nat) : Int)) := by
  unfold rg2
  simp only [near_n ha, near_n hb, Bool.and_self, if_true]
  have : ((b : Int) - (a : Int)).toNat = b - a := by omega
  rw [this]
  unfold iseq
  congr 1
  refine List.map_congr_left fun k _ => ?_
  congr 1
  rw [Int.mul_one, Int.natCast_add]
theorem rg2_1 {b : Nat} (hb : b ≤ 100000) : rg2 [.int 1, .int (b : Nat)] = some ((List.range (b - 1)).map fun (k : Nat) => .int ((1 + k : Nat) : Int)) := rg2_n (a := 1) (by decide) hb
theorem rg2_0 {b : Nat} (hb : b ≤ 100000) : rg2 [.int 0, .int (b : Nat)] = some (rgN b) := by
  rw [show (PyData.int 0 : D) = .int ((0 : Nat) : Int) from rfl, rg2_n (a := 0) (by decide) hb]
  simp [rgN]
end
end G
end L2
namespace L2
namespace G
open PySem PySem.Spec PyProof.Rows
/-! greatest and least of naturals -/
def maxN (L : List Nat) : Nat := L.foldr max 0
def minN : List Nat → Nat
  | [] => 0
  | a :: L => L.foldl min a
theorem intsD_n (L : List Nat) : intsD (L.map fun (x : Nat) => PyData.int (x : Nat)) = some (L.map fun (x : Nat) => (x : Int)) := by
  induction L with
  | nil => rfl
  | cons a L ih => simp only [List.map_cons, intsD, ih]; rfl
theorem fold_max (L : List Nat) : ∀ a : Nat, (L.map fun (x : Nat) => (x : Int)).foldl (fun a b => if a < b then b else a) (a : Int) = ((max a (maxN L) : Nat) : Int) := by
  induction L with
  | nil => intro a; simp [maxN]
  | cons b L ih =>
    intro a
    simp only [List.map_cons, List.foldl_cons]
    by_cases h : (a : Int) < (b : Int)
    · rw [if_pos h, ih]; simp only [maxN, List.foldr_cons]; omega
    · rw [if_neg h, ih]; simp only [maxN, List.foldr_cons]; omega
theorem fold_min (L : List Nat) : ∀ a : Nat, (L.map fun (x : Nat) => (x : Int)).foldl (fun a b => if b < a then b else a) (a : Int) = ((L.foldl min a : Nat) : Int) := by
  induction L with
  | nil => intro a; rfl
  | cons b L ih =>
    intro a
    simp only [List.map_cons, List.foldl_cons]
    by_cases h : (b : Int) < (a : Int)
    · rw [if_pos h, ih, show min a b = b by omega]
    · rw [if_neg h, ih, show min a b = a by omega]
theorem fMaxL_LN {L : List Nat} (h : L ≠ []) : fMaxL (.list (L.map fun (x : Nat) => .int (x : Nat))) = some ⟨.int (maxN L : Nat), false⟩ := by
  unfold fMaxL
  simp only [intsD_n, Option.bind_some]
  cases L with
  | nil => exact absurd rfl h
  | cons a L =>
    show si ((L.map fun (x : Nat) => (x : Int)).foldl (fun a b => if a < b then b else a) (a : Int)) = _
    rw [fold_max]; rfl
theorem fMinL_LN {L : List Nat} (h : L ≠ []) : fMinL (.list (L.map fun (x : Nat) => .int (x : Nat))) = some ⟨.int (minN L : Nat), false⟩ := by
  unfold fMinL
  simp only [intsD_n, Option.bind_some]
  cases L with
  | nil => exact absurd rfl h
  | cons a L =>
    show si ((L.map fun (x : Nat) => (x : Int)).foldl (fun a b => if b < a then b else a) (a : Int)) = _
    rw [fold_min]; rfl
theorem le_maxN {L : List Nat} {x : Nat} (h : x ∈ L) : x ≤ maxN L := by
  induction L with
  | nil => simp at h
  | cons a L ih =>
    simp only [maxN, List.foldr_cons]
    rcases List.mem_cons.mp h with rfl | h
    · omega
    · have := ih h; unfold maxN at this; omega
theorem maxN_mem {L : List Nat} : maxN L = 0 ∨ maxN L ∈ L := by
  induction L with
  | nil => exact .inl rfl
  | cons a L ih =>
    simp only [maxN, List.foldr_cons] at ih ⊢
    by_cases h : a ≤ List.foldr max 0 L
    · rw [show max a (List.foldr max 0 L) = List.foldr max 0 L by omega]
      rcases ih with z | z
      · exact .inl z
      · exact .inr (List.mem_cons_of_mem _ z)
    · rw [show max a (List.foldr max 0 L) = a by omega]
      exact .inr (by simp)
theorem minN_fold (L : List Nat) : ∀ a : Nat, (L.foldl min a = a ∨ L.foldl min a ∈ L) ∧ L.foldl min a ≤ a ∧ ∀ x ∈ L, L.foldl min a ≤ x := by
  induction L with
  | nil => intro a; exact ⟨.inl rfl, Nat.le_refl _, by simp⟩
  | cons b L ih =>
    intro a
    obtain ⟨h1, h2, h3⟩ := ih (min a b)
    simp only [List.foldl_cons]
    refine ⟨?_, by omega, fun x hx => ?_⟩
    · rcases h1 with h1 | h1
      · by_cases h : a ≤ b
        · exact .inl (by omega)
        · exact .inr (by rw [h1, show min a b = b by omega]; simp)
      · exact .inr (List.mem_cons_of_mem _ h1)
    · rcases List.mem_cons.mp hx with rfl | hx
      · omega
      · exact h3 x hx
theorem minN_mem {L : List Nat} (h : L ≠ []) : minN L ∈ L := by
  cases L with
  | nil => exact absurd rfl h
  | cons a L =>
    rcases (minN_fold L a).1 with z | z
    · show L.foldl min a ∈ _; rw [z]; simp
    · exact List.mem_cons_of_mem _ z
theorem minN_le {L : List Nat} {x : Nat} (h : x ∈ L) : minN L ≤ x := by
  cases L with
  | nil => simp at h
  | cons a L =>
    rcases List.mem_cons.mp h with rfl | h
    · exact (minN_fold L x).2.1
    · exact (minN_fold L a).2.2 x h
end G
end L2
namespace L2
namespace G
open PySem PySem.Spec PyProof.Rows
section
variable {C : Ct} {X : Cx} {W : WX} {K : PySem.W.Frag}
def rSumT (K : PySem.W.Frag) : List V → Hp → VK → Prop := fun vs H Q => ∃ (a : Addr) (ns : List Int), vs = [V.ref a] ∧ SqT K H a (ns.map V.int) ∧ Q (.int ns.sum) H
theorem cr_sumT (hc : X.calm = true) : CallR X (.builtin "sum") (rSumT X.K) := by
  intro pins s σ H vs us Q I r h
  obtain ⟨a, ns, rfl, hs, q⟩ := h
  obtain ⟨its, rv, hl, _⟩ := I.tuple hs
  rw [Vals.ref1 r]
  have hi := rv.ints
  obtain ⟨xs, hx⟩ := hi.allInts.items
  have hn : numsOf its.toArray.toList = ns := by rw [show its.toArray.toList = its from rfl, hi.numsOf]
  have hl2 : s.heap.IsTuple a its.toArray := hl
  rw [hx] at hl2 hn
  rw [nums_intItems] at hn
  refine PySem.W.ktm_sumG (I.ok.hd hc) hl2 fun h' tk t' hk => ?_
  rw [preSum_eq, List.take_of_length_le (by simp), hn]
  exact ⟨.int _, H, I.kept hk, ⟨_, rfl⟩, q⟩
def rSumA (K : PySem.W.Frag) : List V → Hp → VK → Prop := fun vs H Q => rSum K vs H Q ∨ rSumT K vs H Q
theorem cr_sumA (hc : X.calm = true) : CallR X (.builtin "sum") (rSumA X.K) := by
  intro pins s σ H vs us Q I r h
  rcases h with h | h
  · exact cr_sum hc pins s σ H vs us Q I r h
  · exact cr_sumT hc pins s σ H vs us Q I r h
def fSumA : D → Option Rs
  | .tuple ds => (intsD ds).map fun ns => ⟨.int ns.sum, false⟩
  | d => fSum d
theorem ok_sumA : UnOk C fSumA fun v => rSumA C.K [v] := by
  intro Bx σ H e0 d1 v1 z Q hz s o q
  cases d1 with
  | tuple ds =>
    simp only [fSumA] at hz
    cases w : intsD ds with
    | none => rw [w] at hz; cases hz
    | some ns =>
      rw [w] at hz; cases hz
      obtain ⟨a, xs, rfl, hq, rs⟩ := o.tuple
      obtain rfl := reps_ints w rs
      exact .inr ⟨a, ns, rfl, hq, q _ _ (post_i s)⟩
  | list ds =>
    have hz : fSum (.list ds) = some z := hz
    exact .inl (ok_sum _ _ _ _ _ _ _ _ hz s o q)
  | _ => cases hz
theorem fSumA_list {ds : List D} : fSumA (.list ds) = fSum (.list ds) := rfl
theorem fSumA_LN {L : List Nat} : fSumA (LN L) = fSum (LN L) := rfl
theorem fSumA_row {N : Nat} {r : Nat → Nat} : fSumA (rowD N r) = fSum (rowD N r) := rfl
theorem fSumA_TN {L : List Nat} : fSumA (TN L) = some ⟨.int (L.sum : Nat), false⟩ := by
  have h : fSumA (TN L) = fSum (LN L) := rfl
  rw [h, fSum_LN]
end
end G
end L2
namespace L2
namespace G
open PySem PySem.Spec PyProof.Rows
/-! ### a written dict with text keys: d.get(x), d[x] -/
def getS (kd : List (Str × D)) (x : Str) : Option D := (kd.find? fun q => decide (q.1 = x)).map (·.2)
def entB (K : PySem.W.Frag) : List DictEntry → List (Str × D) → Bool
  | [], [] => true
  | e :: es, q :: kd => (match e.key with | .str y _ => decide (y = q.1) | _ => false) && (repIn K 30 e.val q.2 && entB K es kd)
  | _, _ => false
def dictIn (K : PySem.W.Frag) (a : Addr) (kd : List (Str × D)) : Bool := !(a == sysModules) && (match K.lookup a with
  | some ⟨.type "dict", none, .dict es _, _⟩ => entB K es.toList kd
  | _ => false)
theorem entB_all {K : PySem.W.Frag} : ∀ {es : List DictEntry} {kd : List (Str × D)}, entB K es kd = true → (es.all fun e => isExactStrKey e.key) = true
  | [], [], _ => rfl
  | e :: es, q :: kd, h => by
    unfold entB at h
    rw [Bool.and_eq_true, Bool.and_eq_true] at h
    rw [List.all_cons, Bool.and_eq_true]
    refine ⟨?_, entB_all h.2.2⟩
    have h1 := h.1
    cases hk : e.key <;> rw [hk] at h1 <;> first | rfl | cases h1
  | [], _ :: _, h => by cases h
  | _ :: _, [], h => by cases h
theorem entB_find {K : PySem.W.Frag} {x : Str} : ∀ {es : List DictEntry} {kd : List (Str × D)}, entB K es kd = true →
    (∀ d, getS kd x = some d → ∃ u v, (es.find? fun e => e.key.isStr x).map (·.val) = some u ∧ RelV v u ∧ ∀ H B, Rep K H B v d) ∧ (getS kd x = none → (es.find? fun e => e.key.isStr x).map (·.val) = none)
  | [], [], _ => ⟨fun _ h => (by cases h), fun _ => rfl⟩
  | e :: es, q :: kd, h => by
    unfold entB at h
    rw [Bool.and_eq_true, Bool.and_eq_true] at h
    obtain ⟨h1, h2, h3⟩ := h
    have ih := entB_find (x := x) h3
    cases hk : e.key with
    | str y t =>
      rw [hk] at h1
      have hy : y = q.1 := of_decide_eq_true h1
      have e1 : e.key.isStr x = decide (q.1 = x) := by
        rw [hk, ← hy]
        unfold Value.isStr
        by_cases c : y = x <;> simp [c]
      unfold getS
      rw [List.find?_cons, List.find?_cons, e1]
      cases decide (q.1 = x) with
      | true =>
        obtain ⟨v, r1, r2⟩ := rep_in 30 e.val q.2 h2
        exact ⟨fun d hd => by cases hd; exact ⟨e.val, v, rfl, r1, r2⟩, fun z => by cases z⟩
      | false => exact ih
    | _ => rw [hk] at h1; cases h1
  | [], _ :: _, h => by cases h
  | _ :: _, [], h => by cases h
theorem dictIn_at {K : PySem.W.Frag} {a : Addr} {kd : List (Str × D)} (h : dictIn K a kd = true) : (a == sysModules) = false ∧ ∃ es n sl, K.lookup a = some ⟨.type "dict", none, .dict es n, sl⟩ ∧ entB K es.toList kd = true := by
  unfold dictIn at h
  rw [Bool.and_eq_true] at h
  refine ⟨by simpa using h.1, ?_⟩
  have h := h.2
  split at h
  · rename_i es n sl hq
    exact ⟨es, n, sl, hq, h⟩
  · cases h
section
variable {P : Program} {w : World} {A : Around} {E : Value → Shared → Prop} {s : Shared}
theorem kget_run {a : Addr} {es : Array DictEntry} {n : Nat} {o : Obj} {x : Str} {t : Tok} {Q : Option Value → Shared → Prop} (ho : s.heap.get? a = some o) (hd : o.data = .dict es n) (hall : (es.toList.all fun e => isExactStrKey e.key) = true)
    (h : Q ((es.toList.find? fun e => e.key.isStr x).map (·.val)) { s with toks := s.toks + 1 }) : wpAny (model P w) A (dictGet a (.str x t)) Q E s := by
  unfold dictGet
  refine wpAny_bind (wpAny_pyHash_str (wpAny_bind (KTD.kt_dictFind_strs (s := { s with toks := s.toks + 1 }) ho hd (by obtain ⟨l⟩ := es; simpa using hall) ?_)))
  have hf : findBy (fun k v => v.isStr k) es x = (es.toList.find? fun e => e.key.isStr x).map (·.val) := by
    obtain ⟨l⟩ := es
    simp [findBy]
  rw [← hf, findBy_of_findIdx?] at h
  cases hi : es.findIdx? fun e => e.key.isStr x with
  | none => rw [hi] at h; exact wpAny_pure h
  | some i => rw [hi] at h; exact wpAny_bind (wpAny_dictEntries (s := { s with toks := s.toks + 1 }) ho hd (wpAny_pure h))
theorem kget_meets {a : Addr} {x : Str} {t : Tok} (lo : (a == sysModules) = false) : MeetsIn P w (Builtin.«dict.get» ⟨[.ref a, .str x t], []⟩) (fun _ R s => ∃ o es n, s.heap.get? a = some o ∧ o.data = .dict es n ∧ (es.toList.all fun e => isExactStrKey e.key) = true ∧ R (.ok (.ret (((es.toList.find? fun e => e.key.isStr x).map (·.val)).getD .none))) { s with toks := s.toks + 1 }) :=
  .of_wp fun A R s ⟨o, es, n, ho, hd, ha, h⟩ => by
    show wpAny _ _ (dictGet a (.str x t) >>= _) _ _ s
    refine wpAny_bind (kget_run ho hd ha ?_)
    cases hf : (es.toList.find? fun e => e.key.isStr x).map (·.val) with
    | some v =>
      rw [hf] at h
      exact wpAny_pure ⟨v, rfl, h⟩
    | none =>
      rw [hf] at h
      show wpAny _ _ (Builtin.Dict.missed a (.str x t) >>= _) _ _ _
      exact wpAny_bind (wpAny_missed_other lo (wpAny_pure ⟨.none, rfl, h⟩))
end
section
variable {C : Ct} {X : Cx} {W : WX} {Bx : Addr → Prop} {io : List Nat} {e a b : Expr} {pos : Pos}
def rKget (K : PySem.W.Frag) (a : Addr) (kd : List (Str × D)) : V → List V → Hp → VK → Prop := fun x xs H Q => ∃ z, x = .ref a ∧ xs = [.str z] ∧ ∀ v, (∀ H B, Rep K H B v ((getS kd z).getD .none)) → Q v H
theorem mt_kget {p : Addr} {kd : List (Str × D)} (h : dictIn X.K p kd = true) : MtR X "dict.get" (rKget X.K p kd) := by
  intro pins s σ H x xs v us Q I rx rxs hr
  obtain ⟨z, rfl, rfl, q⟩ := hr
  obtain ⟨lo, es, n, sl, hl, he⟩ := dictIn_at h
  cases rx
  obtain ⟨u, rfl, ru⟩ := vals1 rxs
  obtain ⟨t, rfl⟩ := ru
  have ho := I.kIn _ _ hl
  have f := entB_find (x := z) he
  refine call_meetsIn PySem.F.slot_dict_get (T := "dict") ⟨_, ho, rfl⟩ PySem.F.entry_dict_get (PySem.F.args_dict_get_2 _ _) (kget_meets lo) ⟨_, es, n, ho, rfl, entB_all he, ?_⟩
  cases hg : getS kd z with
  | none =>
    rw [f.2 hg]
    rw [hg] at q
    exact ⟨.non, H, I.tok _, rfl, q _ fun _ _ => .non⟩
  | some d =>
    obtain ⟨u, v, h1, h2, h3⟩ := f.1 d hg
    rw [h1]
    rw [hg] at q
    exact ⟨v, H, I.tok _, h2, q _ h3⟩
/-- d.get(x), d a name of the module -/
def fGetK (kd : List (Str × D)) : D → Option Rs := fun y => match y with | .str z => some ⟨(getS kd z).getD .none, false⟩ | _ => none
/-- a dict of the module -/
structure KDF (K : PySem.W.Frag) (mg : Str → Option Value) (x : Str) (kd : List (Str × D)) : Prop where
  ex : ∃ a, mg x = some (.ref a) ∧ dictIn K a kd = true
theorem kdf_mk {K : PySem.W.Frag} {mg : Str → Option Value} {h : Heap} {x : Str} {p : Addr} {kd : List (Str × D)} (X : K.In h) (G : h.Ns mainGlobals mg) (a : PySem.W.nsIn K mainGlobals x = some (some (.ref p))) (r : dictIn K p kd = true) : KDF K mg x kd := ⟨p, PySem.W.mg_of X G a, r⟩
theorem ge_getK {x : Str} {np apos : Pos} {kd : List (Str × D)} {g : En → Res D} (hK : X.K = C.K) (hg : Gl X x) (h : KDF C.K X.mg x kd) (hb : GO C X W b g) (hd : (x == ("__debug__" : Str)) = false := by decide)
    (hbase : attributeBase (.Name x np) ("get" : Str) X.env (eval (.Name x np) X.env) = eval (.Name x np) X.env := by rfl)
    (hfew : ((backTo pos (starEach [b] X.env)).all (fun x => !x.1) && (backToKw pos (keywordEach [] X.env)).all (fun x => x.1.isSome)
      && decide (([b] : List Expr).length + ([] : List Keyword).length + (if ([] : List Keyword).isEmpty then 0 else 1) < 30)) = true := by rfl)
    (hline : (apos.endLine == pos.line) = true := by rfl) (hs : starEach [b] X.env = (false, eval b X.env) :: starEach [] X.env := by rfl) : GE C X W (.Call (.Attribute (.Name x np) ("get" : Str) apos) [b] [] pos) (xOne (fGetK kd) g) := by
  obtain ⟨p, hm, hin⟩ := h.ex
  obtain ⟨lo, es, n, sl, hl, he⟩ := dictIn_at hin
  refine ⟨fun pins s σ H Q I ⟨e, Bx, sm, q⟩ => ?_⟩
  have ha := pa_cons (X := X) hb pa_nil hs
  refine wpAny_Call_method_late hbase hfew hline rfl (thn ((pe_glob (v := .ref p) hg hm rfl hd).run pins s σ H (fun v H1 => v = .ref p ∧ H1 = H) I ⟨rfl, rfl⟩) fun v s1 ⟨x, H1, I1, r1, e1⟩ => ?_)
  obtain ⟨rfl, rfl⟩ := e1
  cases r1
  have ho := I1.kIn _ _ (hK ▸ hl)
  refine ⟨"dict", "dict.get", PySem.F.plainAttrs_dict, PySem.F.slot_dict_get, PySem.F.type_dict_get, ⟨_, ho, rfl⟩, fun a z => ?_, ?_⟩
  · cases z; exact ⟨_, ho, rfl⟩
  have hA := ha.run pos pins s1 σ H1 (fun vs H2 => rKget X.K p kd (.ref p) vs H2 Q) I1 ?_
  · rw [hs] at hA ⊢
    refine Calls.callWith_builtin rfl (Calls.evalArgs_plain ?_)
    exact thn hA fun us s2 ⟨vs, H2, I2, r2, q2⟩ => mt_kget (hK ▸ hin) pins s2 σ H2 (.ref p) vs (.ref p) us Q I2 rfl r2 q2
  · refine ⟨e, Bx, sm, run_mono (bind_run q) (fun y e2 q w H2 p2 => ?_) fun _ z => z⟩
    cases y with
    | str z =>
      refine ⟨z, rfl, by rw [p2.o.str], fun v rv => q v H2 (Post.after_o p2 (.same p2.s (by rw [← hK]; exact rv _ _)))⟩
    | _ => exact q.elim
end
end G
end L2
namespace L2
namespace G
open PySem PySem.Spec PyProof.Rows
section
variable {C : Ct} {X : Cx} {W : WX} {Bx : Addr → Prop} {io : List Nat} {e a b : Expr} {pos : Pos}
/-! ### d[x] of a written dict with text keys -/
def rKix (p : Addr) (K : PySem.W.Frag) (kd : List (Str × D)) : R2 := fun x y H Q => ∃ z d, x = .ref p ∧ y = .str z ∧ getS kd z = some d ∧ ∀ v, (∀ H B, Rep K H B v d) → Q v H
theorem ix_kix {p : Addr} {kd : List (Str × D)} (h : dictIn X.K p kd = true) : IxR X (rKix p X.K kd) := by
  intro value slice pins s σ H x y v u Q I rx ry hr hs
  obtain ⟨z, d, rfl, rfl, hg, q⟩ := hr
  obtain ⟨lo, es, n, sl, hl, he⟩ := dictIn_at h
  obtain rfl : v = Value.ref p := rx
  obtain ⟨t, rfl⟩ := ry
  have ho := I.kIn _ _ hl
  have hT : s.TypeIs (.ref p) "dict" := ⟨_, ho, rfl⟩
  obtain ⟨u, v, h1, h2, h3⟩ := (entB_find (x := z) he).1 d hg
  refine tail_any hT PySem.F.slot_dict_getitem.lookup ?_ hs
  unfold getItem
  try with_reducible refine wpAny_holding ?_
  refine wpAny_bind (wpAny_sequenceKey hT (by decide) ?_)
  refine wpAny_bind (wpAny_callSpecial?_slot (name := Str.ofString "__getitem__") hT PySem.F.slot_dict_getitem
    (wpAny_call_entry PySem.F.slot_dict_getitem hT PySem.F.entry_dict_getitem ?_ (PySem.args_dict_getitem _ _)))
  show wpAny _ _ (dictGet p (.str z t) >>= _) _ _ s
  refine wpAny_bind (kget_run ho rfl (entB_all he) ?_)
  rw [h1]
  exact wpAny_pure ⟨u, rfl, wpAny_pure ⟨v, H, I.tok _, h2, q _ h3⟩⟩
def fIxK (kd : List (Str × D)) : D → Option Rs := fun y => match y with | .str z => (getS kd z).map fun d => ⟨d, false⟩ | _ => none
theorem ge_ixK {x : Str} {np : Pos} {kd : List (Str × D)} {g : En → Res D} (hK : X.K = C.K) (hg : Gl X x) (h : KDF C.K X.mg x kd) (hb : GO C X W b g) (hs : PlainIx b) (hd : (x == ("__debug__" : Str)) = false := by decide) : GE C X W (.Subscript (.Name x np) b pos) (xOne (fIxK kd) g) := by
  obtain ⟨p, hm, hin⟩ := h.ex
  refine pe_imp (pe_ix (ix_kix (hK ▸ hin)) (pe_glob (v := .ref p) hg hm rfl hd) hb hs) fun σ H Q ⟨e, Bx, sm, q⟩ => ?_
  refine ⟨e, Bx, sm, run_mono (bind_run q) (fun y e2 q w H2 p2 => ?_) fun _ z => z⟩
  cases y with
  | str z =>
    have e0 : fIxK kd (.str z) = (getS kd z).map fun d => ⟨d, false⟩ := rfl
    rw [e0] at q
    cases hz : getS kd z with
    | none => rw [hz] at q; exact q.elim
    | some d =>
      rw [hz] at q
      exact ⟨z, d, rfl, by rw [p2.o.str], hz, fun v rv => q v H2 (Post.after_o p2 (.same p2.s (by rw [← hK]; exact rv _ _)))⟩
  | _ => exact q.elim
end
end G
end L2
namespace L2
namespace G
open PySem PySem.Spec PyProof.Rows
section
variable {C : Ct} {X : Cx} {W : WX} {K : PySem.W.Frag} {Bx : Addr → Prop} {σ : L2.St} {H : Hp} {Q : VK}
/-! ### x.index(y) of texts -/
def fSIdx : Str → D → Option Rs := fun x y => match y with
  | .str b => (match Builtin.Str.occurrences x b 0 x.length 1 with | i :: _ => some ⟨.int (i : Nat), false⟩ | [] => none)
  | _ => none
theorem ok_sidx : OkM C fSIdx (fun x xs H Q => ∃ a b i rest, x = .str a ∧ xs = [.str b] ∧ Builtin.Str.occurrences a b 0 a.length 1 = i :: rest ∧ Q (.int (i : Nat)) H) := by
  intro Bx σ H e0 x d2 v2 z Q hz s o q
  cases d2 <;> try (cases hz; done)
  simp only [fSIdx] at hz
  split at hz
  · rename_i i rest h
    cases hz
    exact ⟨x, _, i, rest, rfl, by rw [o.str], h, q _ _ (post_i s)⟩
  · cases hz
/-! ### int(text), int(i), int(b) -/
def fIntS : D → Option Rs
  | .str a => if a.length ≤ 640 then (intText? a).map fun n => ⟨.int n, false⟩ else none
  | d => fInt d
theorem cr_or {f : Value} {r1 r2 : List V → Hp → VK → Prop} (h1 : CallR X f r1) (h2 : CallR X f r2) : CallR X f (fun xs H Q => r1 xs H Q ∨ r2 xs H Q) := by
  intro pins s σ H xs us Q I rs h
  rcases h with h | h
  · exact h1 pins s σ H xs us Q I rs h
  · exact h2 pins s σ H xs us Q I rs h
theorem ok_intS {r : List V → Hp → VK → Prop} (ho : UnOk C fInt fun v => r [v]) : UnOk C fIntS fun v => (fun xs H Q => r xs H Q ∨ ∃ a n, xs = [.str a] ∧ PySem.intText? a = some n ∧ a.length ≤ 640 ∧ Q (.int n) H : List V → Hp → VK → Prop) [v] := by
  intro Bx σ H e0 d1 v1 z Q hz s o q
  cases d1 with
  | str a =>
    simp only [fIntS] at hz
    split at hz
    · rename_i hl
      cases hn : intText? a with
      | none => rw [hn] at hz; cases hz
      | some n =>
        rw [hn] at hz; cases hz
        exact .inr ⟨a, n, by rw [o.str], hn, hl, q _ _ (post_i s)⟩
    · cases hz
  | none => exact .inl (ho Bx σ H e0 .none v1 z Q hz s o q)
  | bool b => exact .inl (ho Bx σ H e0 (.bool b) v1 z Q hz s o q)
  | int i => exact .inl (ho Bx σ H e0 (.int i) v1 z Q hz s o q)
  | list ds => exact .inl (ho Bx σ H e0 (.list ds) v1 z Q hz s o q)
  | tuple ds => exact .inl (ho Bx σ H e0 (.tuple ds) v1 z Q hz s o q)
  | dict ks => exact .inl (ho Bx σ H e0 (.dict ks) v1 z Q hz s o q)
end
end G
end L2
namespace L2
namespace G
open PySem PySem.Spec PyProof.Rows
/-! ### sorted(set(xs)), len(set(xs)), xs a list of tuples of ints -/
def tpD (ns : List Int) : D := .tuple (ns.map fun k => .int k)
def lxL (a b : List Int) : Bool := PySem.W.listLt a b
theorem leD_tp (a b : List Int) : leD (tpD a) (tpD b) = !(lxL b a) := by
  show (!(PySem.W.dataLt (tpD b) (tpD a))) = _
  unfold tpD lxL
  rw [PySem.W.dataLt_tuple]
  exact congrArg _ (PySem.W.lexAll_map b a)
theorem lxL_tri : ∀ {a b : List Int}, lxL a b = false → lxL b a = false → a = b
  | [], [], _, _ => rfl
  | [], _ :: _, h, _ => by simp [lxL, PySem.W.listLt] at h
  | _ :: _, [], _, h => by simp [lxL, PySem.W.listLt] at h
  | x :: a, y :: b, h1, h2 => by
    unfold lxL PySem.W.listLt at h1 h2
    by_cases e : x = y
    · subst e
      rw [if_pos rfl] at h1 h2
      rw [lxL_tri (a := a) (b := b) h1 h2]
    · rw [if_neg e] at h1
      rw [if_neg (fun z => e z.symm)] at h2
      have h3 : ¬ x < y := fun z => by
        have : PySem.W.DatumOrd.lt x y = true := by show decide (x < y) = true; simpa using z
        rw [h1] at this; cases this
      have h4 : ¬ y < x := fun z => by
        have : PySem.W.DatumOrd.lt y x = true := by show decide (y < x) = true; simpa using z
        rw [h2] at this; cases this
      omega
theorem tpD_inj {a b : List Int} (h : tpD a = tpD b) : a = b := by
  unfold tpD at h
  injection h with h
  induction a generalizing b with
  | nil => cases b with
    | nil => rfl
    | cons y b => simp at h
  | cons x a ih => cases b with
    | nil => simp at h
    | cons y b =>
      simp only [List.map_cons, List.cons.injEq] at h
      obtain ⟨h1, h2⟩ := h
      injection h1 with h1
      rw [h1, ih h2]
section
variable {P : Program} {w : World} {A : Around} {E : Value → Shared → Prop} {s : Shared}
theorem each_of_ref (R : Value → (Addr × List Int) → Prop) : ∀ {L : List (Addr × List Int)}, (∀ q ∈ L, R (.ref q.1) q) → PySem.W.EachIs R (L.map fun q => Value.ref q.1) L
  | [], _ => .nil
  | q :: L, h => .cons (h q List.mem_cons_self) (each_of_ref R fun r m => h r (List.mem_cons_of_mem _ m))
theorem each_ref_out : ∀ {out : List Value} {L : List (Addr × List Int)}, PySem.W.EachIs (fun v (q : Addr × List Int) => v = Value.ref q.1) out L → out = L.map fun q => Value.ref q.1
  | _, _, .nil => rfl
  | _, _, .cons h t => by rw [h, each_ref_out t]; rfl
theorem readsAll_ints {h : Heap} {P : Program} {w : World} : ∀ {k : List Int} {vs : List Value}, ItemsAre (intKind P w) k vs → ReadsAll h vs (k.map fun n => .int n) []
  | [], _, .nil => .nil
  | n :: k, _, .cons h1 t => by
    obtain ⟨tk, rfl⟩ := Value.isInt_shape h1
    exact .cons (as := []) (bs := []) (.int n tk) (readsAll_ints t)
theorem reads_tp {h : Heap} {P : Program} {w : World} {k : List Int} {b : Addr} (x : IsT P w h k b) : Reads h (.ref b) (tpD k) [] := by
  obtain ⟨o, items, n, ho, hc, hd, hi⟩ := x
  exact .tuple ho hc hd (readsAll_ints hi)
theorem alike_tp (a b : List Int) : PySem.W.alike (tpD a) (tpD b) = true := by
  unfold tpD
  simp only [PySem.W.alike]
  exact PySem.W.alikeAll_map a b
theorem depth_tp (a : List Int) : (tpD a).depth ≤ 1 := by
  unfold tpD
  have : ∀ l : List Int, PyData.depthAll (l.map fun k => PyData.int k) = 0 := by
    intro l
    induction l with
    | nil => rfl
    | cons x l ih => simp [PyData.depthAll, PyData.depth, ih]
  simp [PyData.depth, this]
theorem sorted_setU {a : Addr} {L : List (Addr × List Int)} {es : Array (Int × Value)} {ep : Nat} {t : SetTable} {Q : Value → Shared → Prop} (R : SetTR P w s.heap a L es ep t) (hh : A.handled = none) (hu : A.units + 66 < cLine)
    (hne : ∀ p ∈ L, p.2 ≠ [])
    (hQ : ∀ s' p (out : Array Value) (c : Nat) (L' : List (Addr × List Int)), (∀ b o, s.heap.get? b = some o → s'.heap.get? b = some o) → s'.gens = s.gens → s'.os = s.os → s.heap.objs.size ≤ p →
      s'.heap.get? p = some (seqObj "list" out c) → out.toList = L'.map (fun q => Value.ref q.1) → L'.Perm L → L'.Pairwise (fun q r => leD (tpD q.2) (tpD r.2) = true) → Q (.ref p) s') :
    wpAny (model P w) A (call (.builtin "sorted") [.ref a]) Q E s := by
  obtain ⟨o, ho, hex, hd⟩ := R.ob
  have hsz := R.size
  have hfew := R.few
  refine Calls.call_function_entry kind_sorted plain_sorted entry_sorted (args_sorted1 _) ?_
  unfold Builtin.«sorted»
  refine wpAny_bind (m := checkCount "sorted" 1 1 _) (wpAny_pure ?_)
  refine wpAny_bind (collect_set (A := A.in1) hh ⟨o, ho, hex.1, hd⟩ R.fits (by unfold scanBound; omega) R.tab.ris R.led fun s1 vs k1 hz g1 o1 pm => ?_)
  have hes : es.toList.map (·.2) = L.map fun q => Value.ref q.1 := by
    rw [R.rows]
    unfold rowsOf
    rw [List.map_map] <;> rfl
  rw [hes] at pm
  have ord : ∀ vs : List Value, (∀ v ∈ vs, ∃ q ∈ L, v = Value.ref q.1) → ∃ L1 : List (Addr × List Int), vs = L1.map (fun q => Value.ref q.1) ∧ ∀ q ∈ L1, q ∈ L := by
    intro vs
    induction vs with
    | nil => intro _; exact ⟨[], rfl, fun q hq => (by cases hq)⟩
    | cons v vs ih =>
      intro hv
      obtain ⟨q, hq, e⟩ := hv v List.mem_cons_self
      obtain ⟨L1, e1, hs⟩ := ih fun u hu => hv u (List.mem_cons_of_mem _ hu)
      refine ⟨q :: L1, by rw [List.map_cons, e, e1], fun r hr => ?_⟩
      rcases List.mem_cons.mp hr with z | z
      · rw [z]; exact hq
      · exact hs r z
  have one : ∀ q ∈ L, ∀ r ∈ L, q.1 = r.1 → q = r := fun q hq r hr e => by
    have a1 := R.tup q hq
    have a2 := R.tup r hr
    rw [e] at a1
    exact Prod.ext e (a1.inj a2)
  have perm_of : ∀ L1 : List (Addr × List Int), (∀ q ∈ L1, q ∈ L) → (L1.map (fun q => Value.ref q.1)).Perm (L.map fun q => Value.ref q.1) → L1.Perm L := by
    intro L1 hs pm1
    have nL : L.Nodup := nodup_of_map R.nd
    have nref : (L.map fun q => Value.ref q.1).Nodup := by
      refine List.pairwise_map.mpr (List.Pairwise.imp_of_mem (fun {q r} hq hr hne e => ?_) nL)
      injection e with e
      exact hne (one q hq r hr e)
    have n1 : L1.Nodup := nodup_of_map (pm1.nodup_iff.mpr nref)
    refine (List.perm_ext_iff_of_nodup n1 nL).mpr fun q => ⟨hs q, fun hq => ?_⟩
    have hm : Value.ref q.1 ∈ L1.map (fun q => Value.ref q.1) := pm1.mem_iff.mpr (List.mem_map.mpr ⟨q, hq, rfl⟩)
    obtain ⟨r, hr, e⟩ := List.mem_map.mp hm
    injection e with e
    rw [← one r (hs r hr) q hq e]
    exact hr
  have hvl : vs.length < 64 := by rw [pm.length_eq, List.length_map]; exact hfew
  refine wpAny_bind (wpAny_newList ?_ (by rw [sizeLine_eq]; omega))
  have hoL : (s1.heap.push (seqObj "list" vs.toArray 0)).get? s1.heap.objs.size = some (seqObj "list" vs.toArray 0) := Heap.get?_push_size _ rfl
  obtain ⟨L1, e1, hs1⟩ := ord vs fun v hv => by
    obtain ⟨q, hq, e⟩ := List.mem_map.mp (pm.mem_iff.mp hv)
    exact ⟨q, hq, e.symm⟩
  have p1 : L1.Perm L := perm_of L1 hs1 (by rw [← e1]; exact pm)
  have tk : ∀ q ∈ L1, IsT P w (s1.heap.push (seqObj "list" vs.toArray 0)) q.2 q.1 := fun q hq => isT_keep (R.tup q (hs1 q hq)) fun b u e => Heap.get?_push_of_some _ (k1 b u e)
  refine wpAny_bind (wpAny_holding (PySem.W.list_sort_data (s := { s1 with heap := s1.heap.push (seqObj "list" vs.toArray 0) }) (R := fun v (q : Addr × List Int) => v = Value.ref q.1) (bs := L1) (enc := fun q => tpD q.2) hoL ?_ ?_ ?_ ?_ ?_ ?_ fun out hlen he => ?_))
  · rw [e1]; exact each_of_ref _ fun q _ => rfl
  · have z := each_of_ref (fun v (b : Addr × List Int) => ∃ as, Reads (s1.heap.push (seqObj "list" vs.toArray 0)) v (tpD b.2) as ∧ s1.heap.objs.size ∉ as) (L := L1) fun q hq => ⟨[], reads_tp (tk q hq), by simp⟩
    rw [← e1] at z
    exact z
  · intro d hd d' hd'
    obtain ⟨q, _, rfl⟩ := List.mem_map.mp hd
    obtain ⟨q', _, rfl⟩ := List.mem_map.mp hd'
    exact alike_tp _ _
  · refine .inl fun d hd => ?_
    obtain ⟨q, hq, rfl⟩ := List.mem_map.mp hd
    have := hne q (hs1 q hq)
    unfold tpD
    cases e : q.2 with
    | nil => exact absurd e this
    | cons x l => exact ⟨_, _, rfl⟩
  · rw [p1.length_eq, sizeLine_eq]; omega
  · intro q hq
    have := depth_tp q.2
    show A.in1.units + 1 + (tpD q.2).depth < cLine
    have : A.in1.units = A.units + 1 := rfl
    omega
  · have eo := each_ref_out he
    obtain ⟨c, hc⟩ := sortedHeap_at (vs := vs) (out := out.toArray) hoL
    refine wpAny_pure ⟨_, rfl, hQ _ s1.heap.objs.size out.toArray c (L1.mergeSort (PySem.W.dataLe false fun q => tpD q.2)) (fun b u e => ?_) g1 o1 hz hc (by simpa using eo) ((List.mergeSort_perm _ _).trans p1) ?_⟩
    · have q := k1 b u e
      have hlt := Heap.lt_size q
      show (sortedHeap (s1.heap.push (seqObj "list" vs.toArray 0)) s1.heap.objs.size vs out.toArray).get? b = some u
      rw [sortedHeap_old (Nat.ne_of_lt hlt) (by rw [size_push']; exact Nat.lt_succ_of_lt hlt)]
      exact Heap.get?_push_of_some _ q
    · have T : PySem.W.TotalLe (PySem.W.dataLe false fun q : Addr × List Int => tpD q.2) := PySem.W.sortLe_total _ _ _
      exact List.pairwise_mergeSort T.trans (fun x y => by have := T.total x y; simpa using this) L1
end
section
variable {C : Ct} {X : Cx} {W : WX} {K : PySem.W.Frag} {Bx : Addr → Prop} {σ : L2.St} {H : Hp} {e a : Expr} {pos : Pos}
/-- the unlike rows, each once -/
def ddT : List (List Int) → List (List Int)
  | [] => []
  | x :: xs => if x ∈ ddT xs then ddT xs else x :: ddT xs
theorem ddT_mem {x : List Int} : ∀ {xs : List (List Int)}, x ∈ ddT xs ↔ x ∈ xs
  | [] => by simp [ddT]
  | y :: xs => by
    unfold ddT
    split
    · rename_i h
      rw [ddT_mem (xs := xs), List.mem_cons]
      constructor
      · exact .inr
      · rintro (rfl | h')
        · exact ddT_mem.mp h
        · exact h'
    · rw [List.mem_cons, List.mem_cons, ddT_mem (xs := xs)]
theorem ddT_nodup : ∀ (xs : List (List Int)), (ddT xs).Nodup
  | [] => List.Pairwise.nil
  | x :: xs => by
    unfold ddT
    split
    · exact ddT_nodup xs
    · rename_i h
      exact List.nodup_cons.mpr ⟨h, ddT_nodup xs⟩
/-- tuples of ints -/
def tupsD : List D → Option (List (List Int))
  | [] => some []
  | .tuple ds :: xs => (intsD ds).bind fun ns => (tupsD xs).map (ns :: ·)
  | _ :: _ => none
theorem tupsD_eq : ∀ {ds : List D} {ks : List (List Int)}, tupsD ds = some ks → ds = ks.map tpD
  | [], ks, h => by cases h; rfl
  | d :: ds, ks, h => by
    cases d with
    | tuple xs =>
      unfold tupsD at h
      cases w : intsD xs with
      | none => rw [w] at h; cases h
      | some ns =>
        rw [w] at h
        dsimp only [Option.bind_some] at h
        cases w2 : tupsD ds with
        | none => rw [w2] at h; cases h
        | some k2 =>
          rw [w2] at h
          cases h
          rw [tupsD_eq w2]
          have e : xs = ns.map fun k => .int k := by
            clear w2
            induction xs generalizing ns with
            | nil => cases w; rfl
            | cons x xs ih =>
              cases x with
              | int i =>
                unfold intsD at w
                cases z : intsD xs with
                | none => rw [z] at w; cases w
                | some m => rw [z] at w; cases w; rw [ih _ z]; rfl
              | _ => cases w
          rw [e]
          rfl
    | _ => cases h
theorem tupsD_map : ∀ (ks : List (List Int)), tupsD (ks.map tpD) = some ks
  | [] => rfl
  | k :: ks => by
    show (intsD (k.map fun n => .int n)).bind (fun ns => (tupsD (ks.map tpD)).map (ns :: ·)) = _
    have : intsD (k.map fun n => .int n) = some k := by
      induction k with
      | nil => rfl
      | cons x k ih => show (intsD (k.map fun n => .int n)).map (x :: ·) = _; rw [ih]; rfl
    rw [this, tupsD_map ks]
    rfl
/-- the values of such rows -/
theorem reps_tups {B : Addr → Prop} : ∀ {ks : List (List Int)} {xs : List V}, Reps K H B xs (ks.map tpD) → ∃ ps : List (Addr × List Int), xs = ps.map (fun p => V.ref p.1) ∧ ps.map (·.2) = ks ∧ ∀ p ∈ ps, SqT K H p.1 (p.2.map V.int)
  | [], _, .nil => ⟨[], rfl, rfl, fun p h => by cases h⟩
  | k :: ks, _, .cons r rs => by
    obtain ⟨ps, e1, e2, h⟩ := reps_tups rs
    unfold tpD at r
    cases r with
    | @tup b ys _ hq rr =>
      have ey : ys = k.map V.int := by
        have w : intsD (k.map fun n => .int n) = some k := by
          clear e1 e2 h rr hq rs
          induction k with
          | nil => rfl
          | cons x k ih => show (intsD (k.map fun n => .int n)).map (x :: ·) = _; rw [ih]; rfl
        exact reps_ints w rr
      subst ey
      refine ⟨(b, k) :: ps, by rw [e1]; rfl, by rw [← e2]; rfl, fun p hp => ?_⟩
      rcases List.mem_cons.mp hp with rfl | hp
      · exact hq
      · exact h p hp
theorem reps_tp_back {B : Addr → Prop} : ∀ (ps : List (Addr × List Int)), (∀ p ∈ ps, SqT K H p.1 (p.2.map V.int)) → Reps K H B (ps.map fun p => V.ref p.1) (ps.map fun p => tpD p.2)
  | [], _ => .nil
  | p :: ps, h => .cons (.tup (h p List.mem_cons_self) (reps_int p.2)) (reps_tp_back ps fun q m => h q (List.mem_cons_of_mem _ m))
theorem sqt_keep {H H' : Hp} {a : Addr} {xs : List V} (h : SqT K H a xs) (k : ∀ o, H a = some o → H' a = some o) : SqT K H' a xs := by
  rcases h with h | h
  · exact .inl (rd_keep h k)
  · exact .inr h
def rSortedU (K : PySem.W.Frag) (P : Program) (w : World) : List V → Hp → VK → Prop := fun vs H Q => ∃ (a : Addr) (L : List (Addr × List Int)), vs = [V.ref a] ∧ H a = some (SetTO P w a L) ∧ (∀ p ∈ L, SqT K H p.1 (p.2.map V.int)) ∧ (∀ p ∈ L, p.2 ≠ []) ∧
  ∀ (L' : List (Addr × List Int)) (p : Addr), L'.Perm L → (L'.map (·.2)).Nodup → L'.Pairwise (fun q r => leD (tpD q.2) (tpD r.2) = true) → H p = none → Q (.ref p) (upd H p (.lst (L'.map fun q => V.ref q.1)))
theorem cr_sortedU (hc : X.calm = true) (hu : X.A.units + 66 < cLine) : CallR X (.builtin "sorted") (rSortedU X.K X.prog X.w) := by
  intro pins s σ H vs us Q I r h
  obtain ⟨a, L, rfl, ha, hk, hne, q⟩ := h
  have R0 : SetT0 X.prog X.w s.heap a L := (I.hok a _ ha).1
  obtain ⟨es, ep, t, R⟩ := R0.full fun p hp => I.isT (hk p hp)
  rw [Vals.ref1 r]
  refine sorted_setU R (I.ok.hd hc) hu hne fun s' p out c L' k g o hp hg hout pm pw => ?_
  have hfew : L'.length < 64 := by rw [pm.length_eq]; exact R.few
  have hlen : (L'.map fun q => V.ref q.1).length ≤ sizeLine := by rw [List.length_map, sizeLine_eq]; omega
  have hn : H p = none := I.hok.fresh hp
  have hv : Vals (L'.map fun q => V.ref q.1) out.toList := by rw [hout]; exact vals_of_refs L'
  have J : Inv X pins σ (upd H p (.lst (L'.map fun q => V.ref q.1))) { s with heap := s'.heap, gens := s'.gens, drawn := s'.drawn, toks := s'.toks } :=
    I.call (ch := []) (Un.laid k hp hn) (I.hok.laid k hp ⟨hlen, out.toList, c, hv, hg⟩) (by rw [g]; exact I.bare) (fun _ z => nomatch z)
  have e : s' = { s with heap := s'.heap, gens := s'.gens, drawn := s'.drawn, toks := s'.toks } := by
    cases s'
    cases s
    cases o
    rfl
  rw [e]
  exact ⟨.ref p, _, J, rfl, q L' p pm ((pm.map (·.2)).nodup_iff.mpr R.nd) pw hn⟩
/-- sorted rows, each once -/
def srtT (ks : List (List Int)) : List (List Int) := (ddT ks).mergeSort (fun a b => !(lxL b a))
def fSoSeT : D → Option Rs
  | .list ds => (tupsD ds).bind fun ks => if ks.length < 64 ∧ ks.all (fun k => !k.isEmpty) = true then some ⟨.list ((srtT ks).map tpD), true⟩ else none
  | _ => none
theorem srtT_le : ∀ ks : List (List Int), (srtT ks).Pairwise fun a b => leD (tpD a) (tpD b) = true := fun ks => by
  have T : PySem.W.TotalLe (PySem.W.dataLe false fun q : List Int => tpD q) := PySem.W.sortLe_total _ _ _
  have e : (PySem.W.dataLe false fun q : List Int => tpD q) = fun a b => !(lxL b a) := by
    funext a b
    exact leD_tp a b
  have h := List.pairwise_mergeSort T.trans (fun x y => by have := T.total x y; simpa using this) (ddT ks)
  rw [e] at h
  unfold srtT
  refine h.imp fun {a b} z => ?_
  rw [leD_tp]; exact z
theorem srtT_perm (ks : List (List Int)) : (srtT ks).Perm (ddT ks) := List.mergeSort_perm _ _
theorem srtT_mem {k : List Int} {ks : List (List Int)} : k ∈ srtT ks ↔ k ∈ ks := by rw [(srtT_perm ks).mem_iff, ddT_mem]
theorem srtT_nodup (ks : List (List Int)) : (srtT ks).Nodup := (srtT_perm ks).nodup_iff.mpr (ddT_nodup ks)
theorem srtT_uniq {xs ks : List (List Int)} (hn : xs.Nodup) (hm : ∀ k, k ∈ xs ↔ k ∈ ks) (hs : xs.Pairwise fun a b => leD (tpD a) (tpD b) = true) : xs = srtT ks := by
  refine List.Perm.eq_of_pairwise (le := fun a b => leD (tpD a) (tpD b) = true) (fun a b _ _ h1 h2 => ?_) hs (srtT_le ks) ?_
  · rw [leD_tp] at h1 h2
    exact lxL_tri (by simpa using h2) (by simpa using h1)
  · exact (List.perm_ext_iff_of_nodup hn (srtT_nodup ks)).mpr fun k => by rw [hm, srtT_mem]
theorem ge_sortSetT {np np2 q : Pos} {g : En → Res D} (hK : X.K = C.K) (hc : X.calm = true) (hu : X.A.units + 66 < cLine) (hg : Gl X "sorted") (hm : X.mg "sorted" = none) (hg2 : Gl X "set") (hm2 : X.mg "set" = none) (ha : GO C X W a g)
    (hs : starEach [a] X.env = (false, eval a X.env) :: starEach [] X.env := by rfl) (hpl : (backTo q (starEach [] X.env)).any (·.1) = false := by rfl)
    (hs2 : starEach [.Call (.Name "set" np2) [a] [] q] X.env = (false, eval (.Call (.Name "set" np2) [a] [] q) X.env) :: starEach [] X.env := by rfl) (hpl2 : (backTo pos (starEach [] X.env)).any (·.1) = false := by rfl) :
    GE C X W (.Call (.Name "sorted" np) [.Call (.Name "set" np2) [a] [] q] [] pos) (xOne fSoSeT g) := by
  refine pe_imp (pe_callB (cr_sortedU hc hu) hg hm boot_sorted (pa_cons (pe_callTy (cr_setOfT hc (by omega)) hg2 hm2 boot_set (pa_cons ha pa_nil hs) (by decide) (by decide) hs hpl) pa_nil hs2) (by decide) (by decide) hs2 hpl2) fun σ H Q ⟨e0, Bx, s, q⟩ => ?_
  refine ⟨e0, Bx, s, run_mono (bind_run q) (fun d e1 q v H1 p1 => ?_) fun _ z => z⟩
  cases d with
  | list ds =>
    dsimp only [fSoSeT] at q
    cases w : tupsD ds with
    | none => rw [w] at q; exact q.elim
    | some ks =>
      rw [w] at q
      dsimp only [Option.bind_some] at q
      split at q
      · rename_i z
        split at z
        · rename_i h64
          cases z
          obtain ⟨l, xs, rfl, hq, rs⟩ := p1.o.list
          have ed := tupsD_eq w
          subst ed
          obtain ⟨ps, rfl, ep, hps⟩ := reps_tups rs
          have hl : ps.length = ks.length := by rw [← ep, List.length_map]
          refine ⟨l, ps, rfl, by rw [hK]; exact sql_rd hq, by rw [hK]; exact hps, by omega, fun p L hp h1 h2 => ?_⟩
          have keep : ∀ a o, H1 a = some o → upd H1 p (SetTO X.prog X.w p L) a = some o := fun a o z => ext_new (o := SetTO X.prog X.w p L) hp a o z
          have kq : ∀ r ∈ L, SqT X.K (upd H1 p (SetTO X.prog X.w p L)) r.1 (r.2.map V.int) := fun r hr => by
            rw [hK]
            exact sqt_keep (hps r (h1 r hr)) (fun o z => keep _ o z)
          refine ⟨p, L, rfl, upd_same, kq, fun r hr => ?_, fun L' p2 pm hn pw hp2 => ?_⟩
          · have hm : r.2 ∈ ks := by rw [← ep]; exact List.mem_map.mpr ⟨r, h1 r hr, rfl⟩
            have := List.all_eq_true.mp h64.2 _ hm
            intro e
            rw [e] at this
            simp at this
          · have eL : L'.map (·.2) = srtT ks := srtT_uniq hn (fun k => by
              rw [(pm.map (·.2)).mem_iff]
              constructor
              · intro m
                obtain ⟨r, hr, rfl⟩ := List.mem_map.mp m
                rw [← ep]; exact List.mem_map.mpr ⟨r, h1 r hr, rfl⟩
              · intro m
                rw [← ep] at m
                obtain ⟨r, hr, rfl⟩ := List.mem_map.mp m
                exact h2 r hr) (by rw [List.pairwise_map]; exact pw)
            rw [← eL] at q
            have s2 := p1.s.heap (ext_new (o := SetTO X.prog X.w p L) hp)
            have rb := reps_tp_back (K := C.K) (H := upd H1 p (SetTO X.prog X.w p L)) (B := Avo Bx σ e1) L' fun r hr => by rw [← hK]; exact kq r (pm.mem_iff.mp hr)
            rw [List.map_map] at q
            have pp : Post C.K Bx σ (upd H1 p (SetTO X.prog X.w p L)) _ _ _ _ _ := .newL s2 hp2 rb
            refine q _ _ (Post.after_o ⟨Kp.trans p1.fr (Kp.new hp), p1.le, s2, .rep .non⟩ pp)
        · cases z
      · exact q.elim
  | _ => exact q.elim
def rLenSetT (K : PySem.W.Frag) (P : Program) (w : World) : List V → Hp → VK → Prop := fun vs H Q => ∃ (a : Addr) (L : List (Addr × List Int)), vs = [V.ref a] ∧ H a = some (SetTO P w a L) ∧ (∀ p ∈ L, SqT K H p.1 (p.2.map V.int)) ∧
  ((L.map (·.2)).Nodup → Q (.int L.length) H)
theorem cr_lenSetT : CallR X (.builtin "len") (rLenSetT X.K X.prog X.w) := by
  intro pins s σ H vs us Q I r h
  obtain ⟨a, L, rfl, ha, hk, q⟩ := h
  have R0 : SetT0 X.prog X.w s.heap a L := (I.hok a _ ha).1
  obtain ⟨es, ep, t, R⟩ := R0.full fun p hp => I.isT (hk p hp)
  rw [Vals.ref1 r]
  obtain ⟨o, ho, hex, hd⟩ := R.ob
  have hsz := R.size
  have hfew := R.few
  refine call_len_set ho hex hd R.fits (by omega) ⟨.int L.length, H, I.tok _, ⟨_, by rw [hsz]⟩, q R.nd⟩
def fLeSeT : D → Option Rs
  | .list ds => (tupsD ds).bind fun ks => if ks.length < 64 then some ⟨.int (ddT ks).length, false⟩ else none
  | _ => none
theorem ge_lenSetT {np np2 q : Pos} {g : En → Res D} (hK : X.K = C.K) (hc : X.calm = true) (hu : X.A.units + 66 < cLine) (hg : Gl X "len") (hm : X.mg "len" = none) (hg2 : Gl X "set") (hm2 : X.mg "set" = none) (ha : GO C X W a g)
    (hs : starEach [a] X.env = (false, eval a X.env) :: starEach [] X.env := by rfl) (hpl : (backTo q (starEach [] X.env)).any (·.1) = false := by rfl)
    (hs2 : starEach [.Call (.Name "set" np2) [a] [] q] X.env = (false, eval (.Call (.Name "set" np2) [a] [] q) X.env) :: starEach [] X.env := by rfl) (hpl2 : (backTo pos (starEach [] X.env)).any (·.1) = false := by rfl) :
    GE C X W (.Call (.Name "len" np) [.Call (.Name "set" np2) [a] [] q] [] pos) (xOne fLeSeT g) := by
  refine pe_imp (pe_callB cr_lenSetT hg hm boot_len (pa_cons (pe_callTy (cr_setOfT hc (by omega)) hg2 hm2 boot_set (pa_cons ha pa_nil hs) (by decide) (by decide) hs hpl) pa_nil hs2) (by decide) (by decide) hs2 hpl2) fun σ H Q ⟨e0, Bx, s, q⟩ => ?_
  refine ⟨e0, Bx, s, run_mono (bind_run q) (fun d e1 q v H1 p1 => ?_) fun _ z => z⟩
  cases d with
  | list ds =>
    dsimp only [fLeSeT] at q
    cases w : tupsD ds with
    | none => rw [w] at q; exact q.elim
    | some ks =>
      rw [w] at q
      dsimp only [Option.bind_some] at q
      split at q
      · rename_i z
        split at z
        · rename_i h64
          cases z
          obtain ⟨l, xs, rfl, hq, rs⟩ := p1.o.list
          have ed := tupsD_eq w
          subst ed
          obtain ⟨ps, rfl, ep, hps⟩ := reps_tups rs
          have hl : ps.length = ks.length := by rw [← ep, List.length_map]
          refine ⟨l, ps, rfl, by rw [hK]; exact sql_rd hq, by rw [hK]; exact hps, by omega, fun p L hp h1 h2 => ?_⟩
          have keep : ∀ a o, H1 a = some o → upd H1 p (SetTO X.prog X.w p L) a = some o := fun a o z => ext_new (o := SetTO X.prog X.w p L) hp a o z
          refine ⟨p, L, rfl, upd_same, fun r hr => ?_, fun hn => ?_⟩
          · rw [hK]
            exact sqt_keep (hps r (h1 r hr)) (fun o z => keep _ o z)
          · have eL : (L.length : Int) = (ddT ks).length := by
              have pmm : (L.map (·.2)).Perm (ddT ks) := (List.perm_ext_iff_of_nodup hn (ddT_nodup ks)).mpr fun k => by
                rw [ddT_mem]
                constructor
                · intro m
                  obtain ⟨r, hr, rfl⟩ := List.mem_map.mp m
                  rw [← ep]; exact List.mem_map.mpr ⟨r, h1 r hr, rfl⟩
                · intro m
                  rw [← ep] at m
                  obtain ⟨r, hr, rfl⟩ := List.mem_map.mp m
                  exact h2 r hr
              rw [← pmm.length_eq, List.length_map]
            rw [eL]
            have s2 := p1.s.heap (ext_new (o := SetTO X.prog X.w p L) hp)
            exact q _ _ (.mk0 (Kp.trans p1.fr (Kp.new hp)) p1.le s2 (.int _))
        · cases z
      · exact q.elim
  | _ => exact q.elim
end
end G
end L2
namespace L2
namespace G
open PySem PySem.Spec PyProof.Rows
/-! ### sorted(d), d a dict whose keys are ints; else as sorted of lists and tuples -/
theorem leD_int (a b : Int) : leD (.int a) (.int b) = decide (a ≤ b) := by
  show (!(PySem.W.dataLt (.int b) (.int a))) = _
  rw [PySem.W.dataLt_int]
  by_cases h : a ≤ b
  · simp [h]
  · simp [h]; omega
theorem srtD_perm (xs : List D) : (srtD leD xs).Perm xs := by rw [srtD_eq]; exact List.mergeSort_perm _ _
theorem srtD_ints {ns ys : List Int} (h1 : ys.Perm ns) (h2 : ys.Pairwise (· ≤ ·)) : (ys.map fun (k : Int) => PyData.int k) = srtD leD (ns.map fun (k : Int) => PyData.int k) := by
  refine List.Perm.eq_of_pairwise (le := fun a b => leD a b = true) (fun a b ha hb q1 q2 => ?_) ?_ (srtD_sorted leD_total _) ?_
  · obtain ⟨i, _, rfl⟩ := List.mem_map.mp ha
    obtain ⟨j, _, rfl⟩ := List.mem_map.mp ((srtD_perm _).mem_iff.mp hb)
    rw [leD_int] at q1 q2
    have := of_decide_eq_true q1
    have := of_decide_eq_true q2
    rw [show i = j by omega]
  · rw [List.pairwise_map]
    exact h2.imp fun {a b} z => by rw [leD_int]; simpa using z
  · exact (h1.map _).trans (srtD_perm _).symm
theorem srtD_perm_ints {ns ms : List Int} (h : ns.Perm ms) : srtD leD (ns.map fun (k : Int) => PyData.int k) = srtD leD (ms.map fun (k : Int) => PyData.int k) := by
  have T := leD_total
  refine List.Perm.eq_of_pairwise (le := fun a b => leD a b = true) (fun a b ha hb q1 q2 => ?_) (srtD_sorted leD_total _) (srtD_sorted leD_total _) ((srtD_perm _).trans ((h.map _).trans (srtD_perm _).symm))
  obtain ⟨i, _, rfl⟩ := List.mem_map.mp ((srtD_perm _).mem_iff.mp ha)
  obtain ⟨j, _, rfl⟩ := List.mem_map.mp ((srtD_perm _).mem_iff.mp hb)
  rw [leD_int] at q1 q2
  have := of_decide_eq_true q1
  have := of_decide_eq_true q2
  rw [show i = j by omega]
section
variable {C : Ct} {X : Cx} {W : WX} {K : PySem.W.Frag} {Bx : Addr → Prop} {σ : L2.St} {H : Hp} {e a : Expr} {pos : Pos}
def fSortX : D → Option Rs
  | .dict ks => (intsD (ks.map (·.1))).bind fun ns => if ns.length < 64 then some ⟨.list (srtD leD (ns.map fun (k : Int) => PyData.int k)), true⟩ else none
  | d => fSort d
def rSortDI : List V → Hp → VK → Prop := fun xs H Q => ∃ (a : Addr) (kvs : List (Key × V)) (ks : List Int), xs = [.ref a] ∧ Rd H a (.dK kvs) ∧ kvs.map (·.1) = ks.map Sum.inl ∧ ks.length < 64 ∧
    ∀ (ys : List Int) (p : Addr), ys.Perm ks → ys.Pairwise (· ≤ ·) → H p = none → Q (.ref p) (upd H p (.lst (ys.map V.int)))
def rSortX (K : PySem.W.Frag) : List V → Hp → VK → Prop := fun vs H Q => rSort K vs H Q ∨ rSortDI vs H Q
theorem cr_sortX (hc : X.calm = true) (hu : X.A.units + 66 < cLine) : CallR X (.builtin "sorted") (rSortX X.K) := by
  intro pins s σ H vs us Q I r h
  rcases h with h | h
  · exact cr_sort hc hu pins s σ H vs us Q I r h
  · exact call_sortedDI hc pins s σ H vs us Q I r h
theorem repK_ints {B : Addr → Prop} : ∀ {ks : List (D × D)} {kvs : List (Key × V)} {ns : List Int}, RepK K H B kvs ks → intsD (ks.map (·.1)) = some ns → kvs.map (·.1) = ns.map Sum.inl
  | [], _, ns, .nil, h => by cases h; rfl
  | _, _, ns, @RepK.cons _ _ _ k v kvs d ks r rs, h => by
    cases k with
    | inl i =>
      simp only [List.map_cons, keyD] at h
      unfold intsD at h
      cases w : intsD (ks.map (·.1)) with
      | none => rw [w] at h; cases h
      | some m =>
        rw [w] at h
        cases h
        simp only [List.map_cons]
        rw [repK_ints rs w]
    | inr x => simp only [List.map_cons, keyD] at h; cases h
theorem ok_sortX : UnOk C fSortX fun v => rSortX C.K [v] := by
  intro Bx σ H e0 d1 v1 z Q hz s o q
  cases d1 with
  | dict ks =>
    dsimp only [fSortX] at hz
    cases w : intsD (ks.map (·.1)) with
    | none => rw [w] at hz; cases hz
    | some ns =>
      rw [w] at hz
      dsimp only [Option.bind_some] at hz
      split at hz
      · rename_i h64
        cases hz
        obtain ⟨a, kvs, rfl, hq, rs⟩ := o.dict
        refine .inr ⟨a, kvs, ns, rfl, .inl hq, repK_ints rs w, h64, fun ys p h1 h2 hp => ?_⟩
        rw [← srtD_ints h1 h2] at q
        exact q _ _ (.newL s hp (reps_int ys))
      · cases hz
  | none => exact .inl (ok_sort Bx σ H e0 .none v1 z Q hz s o q)
  | bool b => exact .inl (ok_sort Bx σ H e0 (.bool b) v1 z Q hz s o q)
  | int b => exact .inl (ok_sort Bx σ H e0 (.int b) v1 z Q hz s o q)
  | str b => exact .inl (ok_sort Bx σ H e0 (.str b) v1 z Q hz s o q)
  | list b => exact .inl (ok_sort Bx σ H e0 (.list b) v1 z Q hz s o q)
  | tuple b => exact .inl (ok_sort Bx σ H e0 (.tuple b) v1 z Q hz s o q)
end
end G
end L2
namespace L2
namespace G
open PySem PySem.Spec PyProof.Rows
/-! ### isinstance of a caught exception against any class, with and, or not -/
structure IsQ (K : PySem.W.Frag) (D : Addr) (cv : Value) (b : Bool) : Prop where
  cl : (PySem.W.clsIn K D).isSome = true
  ga : PySem.W.findIn K (.ref D) "__getattribute__" = some (some (.builtin "BaseException.__getattribute__"))
  gg : PySem.W.findIn K (.ref D) "__getattr__" = some none
  eb : PySem.W.subIn K (.ref D) (.type "BaseException") = some true
  ca : PySem.W.findIn K (.ref D) "__class__" = some (some (.builtin "object.__class__"))
  sp : PySem.W.specialIn K (.builtin "object.__class__") "__get__" = some (some (.builtin "getset_descriptor.__get__"))
  tk : PySem.W.takesIn K (.builtin "object.__class__") = some true
  mo : PySem.W.mroIn K D (.type "object") = some true
  is : PySem.W.kitOne K (.ref D) cv = some b
section
variable {C : Ct} {X : Cx} {a : Addr} {oe : Obj} {pn : List (Addr × Obj)} {c i : Nat} {b : Bool} {fv : V} {cv : Value}
abbrev XD (d : Option Addr) (H : Hp) : Prop := d = none ∨ ∃ dd fs, d = some dd ∧ H dd = some (.xd fs)
theorem call_isY {d : Option Addr} (hr : ∀ u, RelV fv u → u = cv) (T : IsQ X.K (C.cl c) cv b) (hz : Zc (.ref (C.cl c)) d oe) (hf : ∃ vs, oe.data = .fields vs) : CallR (X.suite a ((a, oe) :: pn)) (.builtin "isinstance") (fun xs H Q => xs = [.ref a, fv] ∧ XD d H ∧ Q (.bl b) H) := by
  intro pins s σ H xs us Q I r h
  obtain ⟨rfl, hd, q⟩ := h
  cases r with
  | cons rx rr =>
    cases rr with
    | cons ry rr =>
      cases rr
      cases rx
      have ey := hr _ ry
      subst ey
      obtain ⟨hget, _⟩ := I.pin (a, oe) (List.mem_append.mpr (.inl List.mem_cons_self))
      obtain ⟨vs, hv⟩ := hf
      have key : ∃ od, PySem.W.InstAt s.heap a oe (C.cl c) od := by
        have hn : PySem.W.notCls oe = true := by unfold PySem.W.notCls; rw [hv] <;> rfl
        rcases hd with rfl | ⟨dd, fs, rfl, hdd⟩
        · exact ⟨none, hget, hz.1, hn, by rw [hz.2]; trivial⟩
        · obtain ⟨mA, hns, _⟩ := (I.hok dd _ hdd : ObjOk X.prog X.w H s.heap dd (.xd fs))
          obtain ⟨od, ho, _⟩ := lookIn_ns hns
          exact ⟨some od, hget, hz.1, hn, by rw [hz.2]; exact ho⟩
      obtain ⟨od, J⟩ := key
      exact PySem.W.kia_one (PySem.W.kitx_exc T.cl T.ga T.gg T.eb T.ca T.sp T.tk T.mo) I.kIn J T.is (fun z => nomatch z) fun tk => ⟨.bl b, H, I.kept (t' := tk) fun _ _ z => z, rfl, q⟩
/-- what an expression over the caught exception of class c says: true or false -/
def tNB (a : Addr) (d : Option Addr) (i : Nat) (b : Bool) : TE := fun τ H Q => τ[i]? = some (some (.ref a)) ∧ XD d H ∧ Q (.bl b) H
def NB (C : Ct) (X : Cx) (c i : Nat) (e : Expr) (b : Bool) : Prop := ∀ (a : Addr) (oe : Obj) (d : Option Addr) (pn : List (Addr × Obj)), Zc (.ref (C.cl c)) d oe → (∃ vs, oe.data = .fields vs) → PE (X.suite a ((a, oe) :: pn)) e (tNB a d i b)
def NTt (C : Ct) (X : Cx) (c i : Nat) (e : Expr) (b : Bool) : Prop := ∀ (a : Addr) (oe : Obj) (d : Option Addr) (pn : List (Addr × Obj)), Zc (.ref (C.cl c)) d oe → (∃ vs, oe.data = .fields vs) → PT (X.suite a ((a, oe) :: pn)) e (fun τ H Q => τ[i]? = some (some (.ref a)) ∧ XD d H ∧ Q b H)
def NW (C : Ct) (X : Cx) (c i : Nat) (e : Expr) (b : Bool) : Prop := ∀ (a : Addr) (oe : Obj) (d : Option Addr) (pn : List (Addr × Obj)), Zc (.ref (C.cl c)) d oe → (∃ vs, oe.data = .fields vs) → PW (X.suite a ((a, oe) :: pn)) e (fun τ H Q => τ[i]? = some (some (.ref a)) ∧ XD d H ∧ Q b H)
/-- a class that stands at a name, of the program or built in -/
inductive ClsN (X : Cx) (fn : Str) : V → Value → Prop
  | own {F : Addr} : Gl X fn → X.mg fn = some (.ref F) → (fn == ("__debug__" : Str)) = false → ClsN X fn (.ref F) (.ref F)
  | blt {T : String} : Gl X fn → X.mg fn = none → bootBuiltins fn = some (.type T) → fn ≠ "__name__" → (fn == ("__debug__" : Str)) = false → ClsN X fn (.ty T) (.type T)
theorem ClsN.rel {fn : Str} (h : ClsN X fn fv cv) : ∀ u, RelV fv u → u = cv := by
  cases h with
  | own _ _ _ => intro u r; cases r; rfl
  | blt _ _ _ _ _ => intro u r; cases r; rfl
theorem ClsN.pe {fn : Str} {p : Pos} (h : ClsN X fn fv cv) : PE (X.suite a ((a, oe) :: pn)) (.Name fn p) (tC fv) := by
  cases h with
  | own hg hm hd => exact pe_glob (X := X.suite a ((a, oe) :: pn)) hg hm rfl hd
  | blt hg hm hv hn hd => exact pe_tyv (X := X.suite a ((a, oe) :: pn)) hg hm hv hn hd
theorem nb_is {n fn : Str} {p p1 p2 pos : Pos} (hF : ∃ fv cv, ClsN X fn fv cv ∧ IsQ C.K (C.cl c) cv b) (hK : X.K = C.K) (hN : X.N[i]? = some n) (hv : Vis X.env.scope n) (hg : Gl X "isinstance") (hm : X.mg "isinstance" = none)
    (hd : (n == ("__debug__" : Str)) = false := by decide) (hcd : (n == ("__classdict__" : Str)) = false := by decide)
    (hs : starEach [.Name n p1, .Name fn p2] X.env = (false, eval (.Name n p1) X.env) :: starEach [.Name fn p2] X.env := by rfl) (hs2 : starEach [.Name fn p2] X.env = (false, eval (.Name fn p2) X.env) :: starEach [] X.env := by rfl)
    (hpl : (backTo pos (starEach [.Name fn p2] X.env)).any (·.1) = false := by rfl) : NB C X c i (.Call (.Name "isinstance" p) [.Name n p1, .Name fn p2] [] pos) b := by
  obtain ⟨fv, cv, hF, T⟩ := hF
  rw [← hK] at T
  intro a oe d pn hz hf
  have ev : PE (X.suite a ((a, oe) :: pn)) (.Name n p1) (tVar i) := pe_var (X := X.suite a ((a, oe) :: pn)) hN hv hd hcd
  refine pe_imp (pe_callB (X := X.suite a ((a, oe) :: pn)) (call_isY (C := C) (d := d) hF.rel T hz hf) hg hm PyProof.Rows.boot_isinstance (pa_cons ev (pa_cons hF.pe pa_nil hs2) hs) (by decide) (by decide) hs hpl) fun τ H Q ⟨h1, h2, h3⟩ => ?_
  exact ⟨_, h1, rfl, h2, h3⟩
theorem nb_not {e : Expr} {pos : Pos} {b3 : Bool} (h : NB C X c i e b) (hb : (!b) = b3 := by rfl) : NB C X c i (.UnaryOp .Not e pos) b3 := fun a oe d pn hz hf => hb ▸
  pe_imp (pe_not (h a oe d pn hz hf)) fun τ H Q ⟨h1, h2, h3⟩ => ⟨h1, h2, b, rfl, h3⟩
theorem nb_one {e : Expr} {pos : Pos} (h : NB C X c i e b) : NB C X c i (.BoolOp .And [e] pos) b := fun a oe d pn hz hf => pe_one (h a oe d pn hz hf)
theorem nb_and {e u : Expr} {rest : List Expr} {pos : Pos} {b2 b3 : Bool} (h : NB C X c i e b) (h2 : NB C X c i (.BoolOp .And (u :: rest) pos) b2) (hb : (b && b2) = b3 := by rfl) : NB C X c i (.BoolOp .And (e :: u :: rest) pos) b3 := fun a oe d pn hz hf => hb ▸
  pe_imp (pe_and (h a oe d pn hz hf) (h2 a oe d pn hz hf)) fun τ H Q ⟨k1, k2, k3⟩ => ⟨k1, k2, b, rfl, by
    cases b with
    | true => exact iteT ⟨k1, k2, k3⟩
    | false => exact iteF k3⟩
theorem nt_of {e : Expr} (h : NB C X c i e b) (he : ∀ whole, isTrue e X.env whole = (do let v ← whole; standAt e.pos; holding [v] (truthy v)) := by exact fun _ => rfl) : NTt C X c i e b := fun a oe d pn hz hf =>
  pt_imp (pt_val (h a oe d pn hz hf) he) fun τ H Q ⟨k1, k2, k3⟩ => ⟨k1, k2, b, rfl, k3⟩
theorem nt_not {e : Expr} {pos : Pos} {b3 : Bool} (h : NTt C X c i e b) (hb : (!b) = b3 := by rfl) : NTt C X c i (.UnaryOp .Not e pos) b3 := fun a oe d pn hz hf => hb ▸
  pt_imp (pt_not (h a oe d pn hz hf)) fun τ H Q ⟨k1, k2, k3⟩ => ⟨k1, k2, k3⟩
theorem nw_one {e : Expr} {pos : Pos} (h : NTt C X c i e b) : NW C X c i (.BoolOp .And [e] pos) b := fun a oe d pn hz hf => pw_and1 (h a oe d pn hz hf)
theorem nw_and {e u : Expr} {rest : List Expr} {pos : Pos} {b2 b3 : Bool} (h : NTt C X c i e b) (h2 : NW C X c i (.BoolOp .And (u :: rest) pos) b2) (hb : (b && b2) = b3 := by rfl) : NW C X c i (.BoolOp .And (e :: u :: rest) pos) b3 := fun a oe d pn hz hf => hb ▸
  pw_imp (pw_and (h a oe d pn hz hf) (h2 a oe d pn hz hf)) fun τ H Q ⟨k1, k2, k3⟩ => ⟨k1, k2, by
    cases b with
    | true => exact iteT ⟨k1, k2, k3⟩
    | false => exact iteF k3⟩
theorem nt_w {e : Expr} (h : NW C X c i e b) : NTt C X c i e b := fun a oe d pn hz hf => (h a oe d pn hz hf).pt
theorem xd_of {y : Exn} {cls : Value} {d : Option Addr} {H : Hp} (hx : ExR C y cls d H) : XD d H := by
  cases z : y.arg with
  | none => exact .inl (hx.2.2 z)
  | some p0 =>
    obtain ⟨dd, v, e1, e2, _⟩ := hx.2.1 p0 z
    exact .inr ⟨dd, _, e1, e2⟩
/-- true or false, as a value -/
def nBl (c : Nat) (b : Bool) : Exn → Option D := fun y => if y.cls = c then some (.bool b) else none
theorem ne_nb {e : Expr} (h : NB C X c i e b) : NE C X i e (nBl c b) := by
  intro a oe cls d pn hz hf
  refine ⟨fun pins s τ H Q I ⟨hi, y, r, hx, hr, q⟩ => ?_⟩
  unfold nBl at hr
  split at hr
  case isFalse => cases hr
  rename_i hc
  cases hr
  obtain ⟨k1, k2, k3⟩ := id hx
  rw [hc] at k1
  subst k1
  exact (h a oe d pn hz hf).run pins s τ H Q I ⟨hi, xd_of hx, q _ _ (fun _ _ z => z) fun B => .bl b⟩
/-- x if t else y -/
def nIf (c : Nat) (b : Bool) (f g : Exn → Option D) : Exn → Option D := fun y => if y.cls = c then (if b then f y else g y) else none
theorem ne_if {f g : Exn → Option D} {t u w : Expr} {pos : Pos} (ht : NTt C X c i t b) (hu : NE C X i u f) (hw : NE C X i w g) : NE C X i (.IfExp t u w pos) (nIf c b f g) := by
  intro a oe cls d pn hz hf
  refine ⟨fun pins s τ H Q I ⟨hi, y, r, hx, hr, q⟩ => ?_⟩
  unfold nIf at hr
  split at hr
  case isFalse => cases hr
  rename_i hc
  obtain ⟨k1, k2, k3⟩ := id hx
  rw [hc] at k1
  subst k1
  refine (pe_ifExp (ht a oe d pn hz hf) (hu a oe _ d pn hz hf) (hw a oe _ d pn hz hf)).run pins s τ H Q I ⟨hi, xd_of hx, ?_⟩
  cases b with
  | true => exact iteT ⟨hi, y, r, hx, hr, q⟩
  | false => exact iteF ⟨hi, y, r, hx, hr, q⟩
end
section
variable {C : Ct} {X : Cx} {W : WX} {K : PySem.W.Frag} {Bx : Addr → Prop} {σ : L2.St} {H : Hp} {Q : VK}
/-! ### x.partition(y) of texts -/
def fPart : Str → D → Option Rs := fun x y => match y with
  | .str b => if !(b.length == 0) && decide (x.length ≤ most) then some ⟨.tuple [.str (Txt.partition x b).1, .str (Txt.partition x b).2.1, .str (Txt.partition x b).2.2], false⟩ else none
  | _ => none
theorem ok_part : OkM C fPart (fun x xs H Q => ∃ a b, x = .str a ∧ xs = [.str b] ∧ (b.length == 0) = false ∧ a.length ≤ sizeLine ∧ ∀ p, H p = none → Q (.ref p) (upd H p (.tup [.str (Txt.partition a b).1, .str (Txt.partition a b).2.1, .str (Txt.partition a b).2.2]))) := by
  intro Bx σ H e0 x d2 v2 z Q hz s o q
  cases d2 <;> try (cases hz; done)
  simp only [fPart] at hz
  split at hz
  · rename_i h
    cases hz
    simp only [Bool.and_eq_true, Bool.not_eq_true', decide_eq_true_eq] at h
    exact ⟨x, _, rfl, by rw [o.str], h.1, most_ok h.2, fun p hp => q _ _ (.newT s hp (.cons (.str _) (.cons (.str _) (.cons (.str _) .nil))))⟩
  · cases hz
end
end G
end L2
namespace L2
namespace G
open PySem PySem.Spec PyProof.Rows
section
variable {C : Ct} {X : Cx} {c : Nat} {b : Bool} {fn : Str}
theorem cl_own (hQ : ∃ F, X.mg fn = some (.ref F) ∧ IsQ C.K (C.cl c) (.ref F) b) (hg : Gl X fn) (hd : (fn == ("__debug__" : Str)) = false := by decide) : ∃ fv cv, ClsN X fn fv cv ∧ IsQ C.K (C.cl c) cv b :=
  let ⟨_, h1, h2⟩ := hQ; ⟨_, _, .own hg h1 hd, h2⟩
theorem cl_blt {T : String} (hQ : IsQ C.K (C.cl c) (.type T) b) (hm : X.mg fn = none) (hv : bootBuiltins fn = some (.type T)) (hg : Gl X fn) (hn : fn ≠ "__name__" := by decide) (hd : (fn == ("__debug__" : Str)) = false := by decide) : ∃ fv cv, ClsN X fn fv cv ∧ IsQ C.K (C.cl c) cv b :=
  ⟨_, _, .blt hg hm hv hn hd, hQ⟩
end
end G
end L2
namespace L2
namespace G
open PySem PySem.Spec PyProof.Rows
section
variable {C : Ct} {X : Cx}
def rInt0 : List V → Hp → VK → Prop := fun xs H Q => (∃ i, xs = [V.int i] ∧ Q (V.int i) H) ∨ ∃ k, xs = [V.bl k] ∧ Q (V.int (if k = true then 1 else 0)) H
def rIntX : List V → Hp → VK → Prop := fun xs H Q => rInt0 xs H Q ∨ ∃ a n, xs = [.str a] ∧ PySem.intText? a = some n ∧ a.length ≤ 640 ∧ Q (.int n) H
theorem call_intX : CallR X (.type "int") rIntX := cr_or call_int1 call_int_str
theorem ok_int0 : UnOk C fInt fun v => rInt0 [v] := ok_int
theorem ok_intX : UnOk C fIntS fun v => rIntX [v] := ok_intS (r := rInt0) ok_int0
end
end G
end L2
namespace L2
namespace G
open PySem PySem.Spec PyProof.Rows
section
variable {C : Ct} {X : Cx}
/-! ### i // j, j below 0 too -/
def CDivM (_ j : Int) : Prop := j < 0 ∧ j.natAbs.log2 < 9000
theorem op_fdivM : OpR X (binaryOp .FloorDiv) (rI CDivM fun i j => .int ((-i) / (-j))) := opI fun i j _ _ _ _ _ hc q => by
  have h1 : j < 0 := hc.1
  refine floordiv_int (by omega) ?_ (.inl (PyProof.noPylong_of_log2 hc.2))
  have e : i.fdiv j = (-i) / (-j) := by
    rw [← Int.neg_fdiv_neg, Int.fdiv_eq_ediv_of_nonneg _ (by omega)]
  rw [e]; exact q
def cDivM (_i j : Int) : Bool := decide (j < 0) && decide (j.natAbs.log2 < 9000)
def fDivM := fII cDivM fun i j => (-i) / (-j)
def fDivX : D → D → Option Rs := fun x y => match fDiv x y with | some z => some z | none => fDivM x y
abbrev rDivX : R2 := fun x y H Q => rI CDivW (fun i j => .int (i / j)) x y H Q ∨ rI CDivM (fun i j => .int ((-i) / (-j))) x y H Q
theorem op_divX : OpR X (binaryOp .FloorDiv) rDivX := op_fdivW.or op_fdivM
theorem ok_divM : OpOk C fDivM (rI CDivM fun i j => .int ((-i) / (-j))) := okI fun i j h => by simpa [cDivM, CDivM] using h
theorem ok_divX : OpOk C fDivX rDivX := ok_div.or ok_divM
end
end G
end L2
namespace L2
namespace G
open PySem PySem.Spec PyProof.Rows
section
variable {C : Ct} {X : Cx} {W : WX} {a b : Expr} {pos : Pos}
/-! ### x or y of values of any kind -/
def xOrV (f g : XF) : XF := fun e => (f e).bind fun r e1 => match truD r.d with | some true => .ok r e1 | some false => g e1 | none => .st
theorem ge_orV {f g : XF} {rest : List Expr} (hK : X.K = C.K) (h : GE C X W a f) (h' : GE C X W (.BoolOp .Or (b :: rest) pos) g) : GE C X W (.BoolOp .Or (a :: b :: rest) pos) (xOrV f g) := by
  refine pe_imp (pe_orT h h') fun σ H Q ⟨e0, Bx, s, q⟩ => ⟨e0, Bx, s, run_mono (bind_run q) (fun r e1 q v H1 p => ?_) fun _ z => z⟩
  cases w : truD r.d with
  | none => rw [w] at q; exact q.elim
  | some k =>
    rw [w] at q
    refine ⟨k, by rw [hK]; exact tru_rep w (.rep p.rp), ?_⟩
    cases k with
    | true => exact iteT (q _ _ p)
    | false => exact iteF ⟨e1, Bx, p.s, run_mono q (fun b' e2 q v2 H2 p2 => q v2 H2 (p.after p2)) fun y z => EX.after z p.fr p.le⟩
end
end G
end L2
namespace L2
namespace G
open PySem PySem.Spec PyProof.Rows
section
variable {C : Ct} {X : Cx} {W : WX} {io : List Nat} {pos : Pos}
/-! ### a, b, .. = a list -/
def gTl (n : Nat) (h : List D → En → Option En) : Rs → En → Option En := fun r e => match r.d with
  | .list ds => if ds.length = n then h ds e else none
  | _ => none
theorem gg_lst {es : List Expr} {k n : Nat} {h : List D → En → Option En} (hc : X.calm = true) (hK : X.K = C.K) (hh : GGs C X io es h) (hn : (assignEach es X.env).length = n := by rfl) (hst : (assignEach es X.env).findIdx? (·.1) = none := by rfl) : GG C X io (.Tuple es k pos) (gTl n h) :=
  pg_imp (pg_unl hc hh hn hst) fun v σ H Q ⟨e, Bx, r, e', hs, hg, q⟩ => by
    obtain ⟨d, fr⟩ := r
    have hsh := hs.sh
    cases d with
    | list ds =>
      have hg' : (if ds.length = n then h ds e else none) = some e' := hg
      split at hg'
      · rename_i hl
        obtain ⟨s, rp⟩ := hsh
        cases rp with
        | @lst a xs _ sq nb rs =>
          refine ⟨a, xs, rfl, by rw [hK]; exact .inl (.inl sq), by rw [rs.length]; exact hl, e, Bx, ds, e', s, rs, hg', fun σ' p => q σ' ⟨p.s, fun a z => .inl (p.wr a z), fun a z => .inl (p.av a z), p.io, p.len⟩⟩
      · cases hg'
    | _ => cases hg
theorem oK_gTl {n : Nat} {gs : List D → En → Option En} {ds : List D} {e : En} {fr : Bool} {k : En → Prop} : oK (gTl n gs ⟨.list ds, fr⟩ e) k = aK (ds.length = n) (oK (gs ds e) k) := by
  simp only [oK_def, aK_def]
  show oK0 (if ds.length = n then gs ds e else none) k = aK0 (ds.length = n) (oK0 (gs ds e) k)
  unfold aK0
  by_cases h : ds.length = n
  · rw [if_pos h]; exact (propext (and_iff_right h)).symm
  · rw [if_neg h]; exact propext ⟨fun z => z.elim, fun z => absurd z.1 h⟩
end
end G
end L2
namespace L2
namespace G
open PySem PySem.Spec PyProof.Rows
def top (i : Nat) : Stmt := PySem.Challenge.pw_lampkinds_k00_fractions.main.body.getD i (.Pass ⟨0, 0, 0, 0⟩)
abbrev s__law_draw : Stmt := top 25
abbrev s__law_take : Stmt := top 26
abbrev s__law_number : Stmt := top 30
abbrev s_common : Stmt := top 10
abbrev s_lowest : Stmt := top 11
abbrev s_is_whole : Stmt := top 8
abbrev s_ratio : Stmt := top 12
abbrev s__law_gcd : Stmt := top 28
abbrev s__law_low : Stmt := top 29
abbrev s__law_whole_text : Stmt := top 32
abbrev s__law_due : Stmt := top 33
abbrev s_read_whole : Stmt := top 9
abbrev s_over : Stmt := top 17
abbrev s__law_raises : Stmt := top 35
abbrev s__law_same : Stmt := top 31
abbrev s_plus : Stmt := top 14
abbrev s_minus : Stmt := top 15
abbrev s_times : Stmt := top 16
abbrev s__law_says : Stmt := top 27
abbrev s_below : Stmt := top 18
abbrev s_lesser : Stmt := top 20
abbrev s_greater : Stmt := top 21
abbrev s_total : Stmt := top 19
abbrev s_ratio_text : Stmt := top 22
abbrev s_is_ratio : Stmt := top 13
abbrev s_read_ratio : Stmt := top 23
abbrev s__law_reads : Stmt := top 34
abbrev s_law : Stmt := top 36
def d_MOST_DIGITS : D := (.int 4000)
def d_DIGITS : D := (.str "0123456789")
def d_ZERO : D := (.tuple [(.int 0), (.int 1)])
def m_Malformed : Nat → Option Bool
  | 0 => some true
  | 1 => some false
  | _ => none
def m_NoText : Nat → Option Bool
  | 0 => some false
  | 1 => some true
  | _ => none
structure Tx (C : Ct) (mg : Str → Option Value) (P : Program) : Prop where
  b_ValueError : mg "ValueError" = none
  b_abs : mg "abs" = none
  b_all : mg "all" = none
  b_any : mg "any" = none
  b_bool : mg "bool" = none
  b_int : mg "int" = none
  b_isinstance : mg "isinstance" = none
  b_len : mg "len" = none
  b_range : mg "range" = none
  b_str : mg "str" = none
  b_super : mg "super" = none
  b_tuple : mg "tuple" = none
  b_zip : mg "zip" = none
  g_MOST_DIGITS : GlobF C mg "MOST_DIGITS" d_MOST_DIGITS
  g_DIGITS : GlobF C mg "DIGITS" d_DIGITS
  g_ZERO : GlobF C mg "ZERO" d_ZERO
  x_Malformed : ExcF C mg 0 "Malformed"
  m_Malformed : ∀ k b, m_Malformed k = some b → PySem.W.exmOne C.K (.ref (C.cl k)) (.ref (C.cl 0)) = some b
  x_NoText : PySem.OwnX.InitF P C.K mg "NoText" "at" true (C.cl 1)
  f_NoText : C.fl 1 = "at"
  m_NoText : ∀ k b, m_NoText k = some b → PySem.W.exmOne C.K (.ref (C.cl k)) (.ref (C.cl 1)) = some b
  q2_Malformed_Fault : ∃ F, mg "Fault" = some (.ref F) ∧ IsQ C.K (C.cl 0) (.ref F) true
  q2_Malformed_NoText : ∃ F, mg "NoText" = some (.ref F) ∧ IsQ C.K (C.cl 0) (.ref F) false
  q2_NoText_Fault : ∃ F, mg "Fault" = some (.ref F) ∧ IsQ C.K (C.cl 1) (.ref F) true
  q2_NoText_ValueError : IsQ C.K (C.cl 1) (.type "ValueError") true
  q2_NoText_Malformed : ∃ F, mg "Malformed" = some (.ref F) ∧ IsQ C.K (C.cl 1) (.ref F) false
  d__law_draw : DefF C mg "_law_draw" s__law_draw ["script"]
  d__law_take : DefF C mg "_law_take" s__law_take ["draw", "many"]
  d__law_number : DefF C mg "_law_number" s__law_number ["draw"]
  d_common : DefF C mg "common" s_common ["a", "b"]
  d_lowest : DefF C mg "lowest" s_lowest ["n", "d"]
  d_is_whole : DefF C mg "is_whole" s_is_whole ["value"]
  d_ratio : DefF C mg "ratio" s_ratio ["n", "d"]
  d__law_gcd : DefF C mg "_law_gcd" s__law_gcd ["a", "b"]
  d__law_low : DefF C mg "_law_low" s__law_low ["n", "d"]
  d__law_whole_text : DefF C mg "_law_whole_text" s__law_whole_text ["text"]
  d__law_due : DefF C mg "_law_due" s__law_due ["text"]
  d_read_whole : DefF C mg "read_whole" s_read_whole ["text"]
  d_over : DefF C mg "over" s_over ["a", "b"]
  d__law_raises : DefF C mg "_law_raises" s__law_raises ["which", "one", "two"]
  d__law_same : DefF C mg "_law_same" s__law_same ["one", "two"]
  d_plus : DefF C mg "plus" s_plus ["a", "b"]
  d_minus : DefF C mg "minus" s_minus ["a", "b"]
  d_times : DefF C mg "times" s_times ["a", "b"]
  d__law_says : DefF C mg "_law_says" s__law_says ["value", "due"]
  d_below : DefF C mg "below" s_below ["a", "b"]
  d_lesser : DefF C mg "lesser" s_lesser ["a", "b"]
  d_greater : DefF C mg "greater" s_greater ["a", "b"]
  d_total : DefF C mg "total" s_total ["items"]
  d_ratio_text : DefF C mg "ratio_text" s_ratio_text ["a"]
  d_is_ratio : DefF C mg "is_ratio" s_is_ratio ["value"]
  d_read_ratio : DefF C mg "read_ratio" s_read_ratio ["text"]
  d__law_reads : DefF C mg "_law_reads" s__law_reads ["text"]
  d_law : DefF C mg "law" s_law ["script"]
theorem sc__law_draw : FnScope ["script", "seed", "cell"] ["script"] (defScope s__law_draw) := ⟨rfl, rfl, rfl, by decide +kernel, rfl, by decide +kernel, by decide +kernel⟩
theorem sc__law_take : FnScope ["draw", "many", "found"] ["draw", "many"] (defScope s__law_take) := ⟨rfl, rfl, rfl, by decide +kernel, rfl, by decide +kernel, by decide +kernel⟩
theorem sc__law_number : FnScope ["draw", "size"] ["draw"] (defScope s__law_number) := ⟨rfl, rfl, rfl, by decide +kernel, rfl, by decide +kernel, by decide +kernel⟩
theorem sc_common : FnScope ["a", "b"] ["a", "b"] (defScope s_common) := ⟨rfl, rfl, rfl, by decide +kernel, rfl, by decide +kernel, by decide +kernel⟩
theorem sc_lowest : FnScope ["n", "d", "g"] ["n", "d"] (defScope s_lowest) := ⟨rfl, rfl, rfl, by decide +kernel, rfl, by decide +kernel, by decide +kernel⟩
theorem sc_is_whole : FnScope ["value"] ["value"] (defScope s_is_whole) := ⟨rfl, rfl, rfl, by decide +kernel, rfl, by decide +kernel, by decide +kernel⟩
theorem sc_ratio : FnScope ["n", "d"] ["n", "d"] (defScope s_ratio) := ⟨rfl, rfl, rfl, by decide +kernel, rfl, by decide +kernel, by decide +kernel⟩
theorem sc__law_gcd : FnScope ["a", "b"] ["a", "b"] (defScope s__law_gcd) := ⟨rfl, rfl, rfl, by decide +kernel, rfl, by decide +kernel, by decide +kernel⟩
theorem sc__law_low : FnScope ["n", "d", "g"] ["n", "d"] (defScope s__law_low) := ⟨rfl, rfl, rfl, by decide +kernel, rfl, by decide +kernel, by decide +kernel⟩
theorem sc__law_whole_text : FnScope ["text", "body", "sign"] ["text"] (defScope s__law_whole_text) := ⟨rfl, rfl, rfl, by decide +kernel, rfl, by decide +kernel, by decide +kernel⟩
theorem sc__law_due : FnScope ["text", "parts", "n", "d", "part"] ["text"] (defScope s__law_due) := ⟨rfl, rfl, rfl, by decide +kernel, rfl, by decide +kernel, by decide +kernel⟩
theorem sc_read_whole : FnScope ["text", "body", "sign"] ["text"] (defScope s_read_whole) := ⟨rfl, rfl, rfl, by decide +kernel, rfl, by decide +kernel, by decide +kernel⟩
theorem sc_over : FnScope ["a", "b"] ["a", "b"] (defScope s_over) := ⟨rfl, rfl, rfl, by decide +kernel, rfl, by decide +kernel, by decide +kernel⟩
theorem sc__law_raises : FnScope ["which", "one", "two", "refusal"] ["which", "one", "two"] (defScope s__law_raises) := ⟨rfl, rfl, rfl, by decide +kernel, rfl, by decide +kernel, by decide +kernel⟩
theorem sc__law_same : FnScope ["one", "two", "x"] ["one", "two"] (defScope s__law_same) := ⟨rfl, rfl, rfl, by decide +kernel, rfl, by decide +kernel, by decide +kernel⟩
theorem sc_plus : FnScope ["a", "b"] ["a", "b"] (defScope s_plus) := ⟨rfl, rfl, rfl, by decide +kernel, rfl, by decide +kernel, by decide +kernel⟩
theorem sc_minus : FnScope ["a", "b"] ["a", "b"] (defScope s_minus) := ⟨rfl, rfl, rfl, by decide +kernel, rfl, by decide +kernel, by decide +kernel⟩
theorem sc_times : FnScope ["a", "b"] ["a", "b"] (defScope s_times) := ⟨rfl, rfl, rfl, by decide +kernel, rfl, by decide +kernel, by decide +kernel⟩
theorem sc__law_says : FnScope ["value", "due"] ["value", "due"] (defScope s__law_says) := ⟨rfl, rfl, rfl, by decide +kernel, rfl, by decide +kernel, by decide +kernel⟩
theorem sc_below : FnScope ["a", "b"] ["a", "b"] (defScope s_below) := ⟨rfl, rfl, rfl, by decide +kernel, rfl, by decide +kernel, by decide +kernel⟩
theorem sc_lesser : FnScope ["a", "b"] ["a", "b"] (defScope s_lesser) := ⟨rfl, rfl, rfl, by decide +kernel, rfl, by decide +kernel, by decide +kernel⟩
theorem sc_greater : FnScope ["a", "b"] ["a", "b"] (defScope s_greater) := ⟨rfl, rfl, rfl, by decide +kernel, rfl, by decide +kernel, by decide +kernel⟩
theorem sc_total : FnScope ["items", "found", "item"] ["items"] (defScope s_total) := ⟨rfl, rfl, rfl, by decide +kernel, rfl, by decide +kernel, by decide +kernel⟩
theorem sc_ratio_text : FnScope ["a"] ["a"] (defScope s_ratio_text) := ⟨rfl, rfl, rfl, by decide +kernel, rfl, by decide +kernel, by decide +kernel⟩
theorem sc_is_ratio : FnScope ["value"] ["value"] (defScope s_is_ratio) := ⟨rfl, rfl, rfl, by decide +kernel, rfl, by decide +kernel, by decide +kernel⟩
theorem sc_read_ratio : FnScope ["text", "top", "line", "bottom", "found"] ["text"] (defScope s_read_ratio) := ⟨rfl, rfl, rfl, by decide +kernel, rfl, by decide +kernel, by decide +kernel⟩
theorem sc__law_reads : FnScope ["text", "refusal"] ["text"] (defScope s__law_reads) := ⟨rfl, rfl, rfl, by decide +kernel, rfl, by decide +kernel, by decide +kernel⟩
theorem sc_law : FnScope ["script", "draw", "n", "d", "e", "f", "a", "b", "due", "told", "item", "less", "text", "at", "sign", "other", "expected", "value", "values", "due_whole", "due_ratio", "turn"] ["script"] (defScope s_law) := ⟨rfl, rfl, rfl, by decide +kernel, rfl, by decide +kernel, by decide +kernel⟩
variable {C : Ct} {P : Program} {w : World} {mg : Str → Option Value} {base : Heap}
def b__law_take : SF :=
 (sSeq (sIf (xTest (xOp fEq (.ex (xOp fIxA (.br 0) (xO (xC (.int 2))))) (xO (xC (.int 0)))))
 (sSeq (sSetI 0 (xOp fAdd (.ex (xOp fIxA (.br 0) (xO (xC (.int 1))))) (xO (xC (.int 1)))) (xC (.int 1)))
 (sSeq (sIf (xTest (xOp fLt (.ex (xOp fIxA (.br 0) (xO (xC (.int 1))))) (xO (xOne fLen (xO (xOp fIxA (.br 0) (xO (xC (.int 0)))))))))
 (sSetI 0 (xOp fIxA (.ex (xOp fIxA (.br 0) (xO (xC (.int 0))))) (xO (xOp fIxA (.br 0) (xO (xC (.int 1)))))) (xC (.int 2)))
 sNil)
 (sIf (xTest (xOp fEq (.ex (xOp fIxA (.br 0) (xO (xC (.int 2))))) (xO (xC (.int 0)))))
 (sSeq (sSetI 0 (xOp fMod (.ex (xOne fIntS (xO (xOp fAdd (.ex (xOp fMul (.ex (xOp fIxA (.br 0) (xO (xC (.int 3))))) (xO (xC (.int 48271))))) (xO (xC (.int 11))))))) (xO (xC (.int 2147483647)))) (xC (.int 3)))
 (sSetI 0 (xOp fIxA (.br 0) (xO (xC (.int 3)))) (xC (.int 2))))
 sNil)))
 sNil)
 (sSeq (sAsg (xOp fMod (.ex (xOne fIntS (xO (xOp fIxA (.br 0) (xO (xC (.int 2))))))) (xB 1)) (gV 2))
 (sSeq (sSetI 0 (xOp fDivX (.ex (xOp fIxA (.br 0) (xO (xC (.int 2))))) (xB 1)) (xC (.int 2)))
 (sRetV 2))))
def F__law_take : XF := fnD b__law_take [true, false] 1
theorem g__law_take (T : Tx C mg P) : GF C P w mg base 1 "_law_take" [true, false] F__law_take := by
  have nd : (["draw", "many", "found"] : List Str).Nodup := by decide
  refine gf_def (body := b__law_take) T.d__law_take sc__law_take rfl rfl rfl fun f cdv A outer s H E hr => ?_
  exact
 (gss_cons (gs_if (gt_cmp (op_eqD (hu64 hr)) ok_eq (gl_e (ge_ix (ix_all (hu_of hr.r)) ok_ixAll (gl_v (i := 0) rfl (Or.inl (by kernel_rfl))) (go_e ge_int) (fun _ _ => rfl))) (go_e ge_int) (nomark _))
 (gss_cons (gs_setI (i := 0) rfl (Or.inl (by kernel_rfl)) (ge_op op_addA ok_add (gl_e (ge_ix (ix_all (hu_of hr.r)) ok_ixAll (gl_v (i := 0) rfl (Or.inl (by kernel_rfl))) (go_e ge_int) (fun _ _ => rfl))) (go_e ge_int)) ge_int)
 (gss_cons (gs_if (gt_cmp op_lt okB (gl_e (ge_ix (ix_all (hu_of hr.r)) ok_ixAll (gl_v (i := 0) rfl (Or.inl (by kernel_rfl))) (go_e ge_int) (fun _ _ => rfl))) (go_e (ge_len rfl (glk (by kernel_rfl)) T.b_len (go_e (ge_ix (ix_all (hu_of hr.r)) ok_ixAll (gl_v (i := 0) rfl (Or.inl (by kernel_rfl))) (go_e ge_int) (fun _ _ => rfl))))) (nomark _))
 (gss_one (gs_setI (i := 0) rfl (Or.inl (by kernel_rfl)) (ge_ix (ix_all (hu_of hr.r)) ok_ixAll (gl_e (ge_ix (ix_all (hu_of hr.r)) ok_ixAll (gl_v (i := 0) rfl (Or.inl (by kernel_rfl))) (go_e ge_int) (fun _ _ => rfl))) (go_e (ge_ix (ix_all (hu_of hr.r)) ok_ixAll (gl_v (i := 0) rfl (Or.inl (by kernel_rfl))) (go_e ge_int) (fun _ _ => rfl))) (fun _ _ => rfl)) ge_int))
 gss_nil)
 (gss_one (gs_if (gt_cmp (op_eqD (hu64 hr)) ok_eq (gl_e (ge_ix (ix_all (hu_of hr.r)) ok_ixAll (gl_v (i := 0) rfl (Or.inl (by kernel_rfl))) (go_e ge_int) (fun _ _ => rfl))) (go_e ge_int) (nomark _))
 (gss_cons (gs_setI (i := 0) rfl (Or.inl (by kernel_rfl)) (ge_op op_mod ok_mod (gl_e (ge_ty1 (call_intX) ok_intX PyProof.Rows.boot_int (glk (by kernel_rfl)) T.b_int (go_e (ge_op op_addA ok_add (gl_e (ge_op op_mulA ok_mul (gl_e (ge_ix (ix_all (hu_of hr.r)) ok_ixAll (gl_v (i := 0) rfl (Or.inl (by kernel_rfl))) (go_e ge_int) (fun _ _ => rfl))) (go_e ge_int))) (go_e ge_int))))) (go_e ge_int)) ge_int)
 (gss_one (gs_setI (i := 0) rfl (Or.inl (by kernel_rfl)) (ge_ix (ix_all (hu_of hr.r)) ok_ixAll (gl_v (i := 0) rfl (Or.inl (by kernel_rfl))) (go_e ge_int) (fun _ _ => rfl)) ge_int)))
 gss_nil))))
 gss_nil)
 (gss_cons (gs_asg (ge_op op_mod ok_mod (gl_e (ge_ty1 (call_intX) ok_intX PyProof.Rows.boot_int (glk (by kernel_rfl)) T.b_int (go_e (ge_ix (ix_all (hu_of hr.r)) ok_ixAll (gl_v (i := 0) rfl (Or.inl (by kernel_rfl))) (go_e ge_int) (fun _ _ => rfl))))) (go_v (i := 1) rfl (Or.inl (by kernel_rfl)))) (gg_v (i := 2) nd rfl (Or.inl (by kernel_rfl)) (by decide)))
 (gss_cons (gs_setI (i := 0) rfl (Or.inl (by kernel_rfl)) (ge_op op_divX ok_divX (gl_e (ge_ix (ix_all (hu_of hr.r)) ok_ixAll (gl_v (i := 0) rfl (Or.inl (by kernel_rfl))) (go_e ge_int) (fun _ _ => rfl))) (go_v (i := 1) rfl (Or.inl (by kernel_rfl)))) ge_int)
 (gss_one (gs_retV (i := 2) rfl (Or.inl (by kernel_rfl)))))))
def b__law_number : SF :=
 (sSeq (sAsg (xOp fIxA (.ex (xLst (xCons (xC (.int 3)) (xCons (xC (.int 20)) (xCons (xC (.int 1000)) (xCons (xOp fPow (.ex (xC (.int 10))) (xO (xC (.int 30)))) xNil)))))) (xO (xCallD 0 1 F__law_take (xCons (xC (.int 4)) xNil)))) (gV 1))
 (sRet (xOp fSub (.ex (xCallD 0 1 F__law_take (xCons (xOp fAdd (.ex (xOp fMul (.ex (xC (.int 2))) (xB 1))) (xO (xC (.int 1)))) xNil))) (xB 1))))
def F__law_number : XF := fnD b__law_number [true] 1
theorem g__law_number (T : Tx C mg P) : GF C P w mg base 2 "_law_number" [true] F__law_number := by
  have nd : (["draw", "size"] : List Str).Nodup := by decide
  refine gf_def (body := b__law_number) T.d__law_number sc__law_number rfl rfl rfl fun f cdv A outer s H E hr => ?_
  exact
 (gss_cons (gs_asg (ge_ix (ix_all (hu_of hr.r)) ok_ixAll (gl_e (ge_lst (ga_cons ge_int (ga_cons ge_int (ga_cons ge_int (ga_cons (ge_op op_pow ok_pow (gl_e ge_int) (go_e ge_int)) ga_nil)))))) (go_e (ge_callD (i := 0) (n := 1) ((g__law_take T).mono (by omega)) rfl (takes_of rfl rfl rfl rfl) hr (glk (by kernel_rfl)) rfl (Or.inl (by kernel_rfl)) (ga_cons ge_int ga_nil))) (fun _ _ => rfl)) (gg_v (i := 1) nd rfl (Or.inl (by kernel_rfl)) (by decide)))
 (gss_one (gs_ret (ge_op op_sub ok_sub (gl_e (ge_callD (i := 0) (n := 1) ((g__law_take T).mono (by omega)) rfl (takes_of rfl rfl rfl rfl) hr (glk (by kernel_rfl)) rfl (Or.inl (by kernel_rfl)) (ga_cons (ge_op op_addA ok_add (gl_e (ge_op op_mulA ok_mul (gl_e ge_int) (go_v (i := 1) rfl (Or.inl (by kernel_rfl))))) (go_e ge_int)) ga_nil))) (go_v (i := 1) rfl (Or.inl (by kernel_rfl)))))))
def b_common : SF :=
 (sSeq (sPar 0 1 (xOne fAbs (xB 0)) (xOne fAbs (xB 1)))
 (sSeq (sWhile (xTest (xOp fNe (.br 1) (xO (xC (.int 0)))))
 (sPar 0 1 (xV 1) (xOp fMod (.br 0) (xB 1))))
 (sRet (xV 0))))
def F_common : XF := fnD b_common [false, false] 0
theorem g_common (T : Tx C mg P) : GF C P w mg base 1 "common" [false, false] F_common := by
  have nd : (["a", "b"] : List Str).Nodup := by decide
  refine gf_def (body := b_common) T.d_common sc_common rfl rfl rfl fun f cdv A outer s H E hr => ?_
  exact
 (gss_cons (gs_par (i := 0) (j := 1) rfl nd rfl rfl (by decide) (by kernel_rfl) (by kernel_rfl) (ge_b1 (call_abs) ok_abs PyProof.Rows.boot_abs (glk (by kernel_rfl)) T.b_abs (go_v (i := 0) rfl (Or.inl (by kernel_rfl)))) (ge_b1 (call_abs) ok_abs PyProof.Rows.boot_abs (glk (by kernel_rfl)) T.b_abs (go_v (i := 1) rfl (Or.inl (by kernel_rfl)))) (by decide) (by decide) (by kernel_rfl))
 (gss_cons (gs_while (passes_of rfl) (gt_cmp (op_neD (hu64 hr)) ok_ne (gl_v (i := 1) rfl (Or.inl (by kernel_rfl))) (go_e ge_int) (nomark _))
 (gss_one (gs_par (i := 0) (j := 1) rfl nd rfl rfl (by decide) (by kernel_rfl) (by kernel_rfl) (ge_v (i := 1) rfl (Or.inl (by kernel_rfl))) (ge_op op_mod ok_mod (gl_v (i := 0) rfl (Or.inl (by kernel_rfl))) (go_v (i := 1) rfl (Or.inl (by kernel_rfl)))) (by decide) (by decide) (by kernel_rfl))))
 (gss_one (gs_ret (ge_v (i := 0) rfl (Or.inl (by kernel_rfl)))))))
def b_lowest : SF :=
 (sSeq (sAsg (xCall0 2 F_common (xCons (xV 0) (xCons (xV 1) xNil))) (gV 2))
 (sSeq (sIf (xTest (xOp fLt (.br 1) (xO (xC (.int 0)))))
 (sAsg (xOne fNeg (xB 2)) (gV 2))
 sNil)
 (sRet (xTup (xCons (xOp fDivX (.br 0) (xB 2)) (xCons (xOp fDivX (.br 1) (xB 2)) xNil))))))
def F_lowest : XF := fnD b_lowest [false, false] 1
theorem g_lowest (T : Tx C mg P) : GF C P w mg base 2 "lowest" [false, false] F_lowest := by
  have nd : (["n", "d", "g"] : List Str).Nodup := by decide
  refine gf_def (body := b_lowest) T.d_lowest sc_lowest rfl rfl rfl fun f cdv A outer s H E hr => ?_
  exact
 (gss_cons (gs_asg (ge_call0 (n := 2) ((g_common T).mono (by omega)) rfl (takes_of rfl rfl rfl rfl) hr (glk (by kernel_rfl)) (ga_cons (ge_v (i := 0) rfl (Or.inl (by kernel_rfl))) (ga_cons (ge_v (i := 1) rfl (Or.inl (by kernel_rfl))) ga_nil))) (gg_v (i := 2) nd rfl (Or.inl (by kernel_rfl)) (by decide)))
 (gss_cons (gs_if (gt_cmp op_lt okB (gl_v (i := 1) rfl (Or.inl (by kernel_rfl))) (go_e ge_int) (nomark _))
 (gss_one (gs_asg (ge_un un_neg ok_neg (go_v (i := 2) rfl (Or.inl (by kernel_rfl)))) (gg_v (i := 2) nd rfl (Or.inl (by kernel_rfl)) (by decide))))
 gss_nil)
 (gss_one (gs_ret (ge_tup (ga_cons (ge_op op_divX ok_divX (gl_v (i := 0) rfl (Or.inl (by kernel_rfl))) (go_v (i := 2) rfl (Or.inl (by kernel_rfl)))) (ga_cons (ge_op op_divX ok_divX (gl_v (i := 1) rfl (Or.inl (by kernel_rfl))) (go_v (i := 2) rfl (Or.inl (by kernel_rfl)))) ga_nil)))))))
def b_is_whole : SF :=
 (sRet (xAnd (xOne (fIs .int) (xB 0)) (xNot (xOne (fIs .bool) (xB 0)))))
def F_is_whole : XF := fnD b_is_whole [false] 0
theorem g_is_whole (T : Tx C mg P) : GF C P w mg base 1 "is_whole" [false] F_is_whole := by
  have nd : (["value"] : List Str).Nodup := by decide
  refine gf_def (body := b_is_whole) T.d_is_whole sc_is_whole rfl rfl rfl fun f cdv A outer s H E hr => ?_
  exact
 (gss_one (gs_ret (ge_and (ge_isi .int rfl (glk (by kernel_rfl)) T.b_isinstance (glk (by kernel_rfl)) T.b_int PyProof.Rows.boot_int (go_v (i := 0) rfl (Or.inl (by kernel_rfl)))) (ge_one (ge_not (ge_isi .bool rfl (glk (by kernel_rfl)) T.b_isinstance (glk (by kernel_rfl)) T.b_bool PyProof.Rows.boot_bool (go_v (i := 0) rfl (Or.inl (by kernel_rfl)))))))))
def b_ratio : SF :=
 (sSeq (sIf (tOrT (tNotT (tTru (xO (xCall0 1 F_is_whole (xCons (xV 0) xNil))))) (tOrT (tNotT (tTru (xO (xCall0 1 F_is_whole (xCons (xV 1) xNil))))) (xTest (xOp fEq (.br 1) (xO (xC (.int 0)))))))
 (sRaise 0)
 sNil)
 (sRet (xCall0 2 F_lowest (xCons (xV 0) (xCons (xV 1) xNil)))))
def F_ratio : XF := fnD b_ratio [false, false] 0
theorem g_ratio (T : Tx C mg P) : GF C P w mg base 3 "ratio" [false, false] F_ratio := by
  have nd : (["n", "d"] : List Str).Nodup := by decide
  refine gf_def (body := b_ratio) T.d_ratio sc_ratio rfl rfl rfl fun f cdv A outer s H E hr => ?_
  exact
 (gss_cons (gs_if (gt_w (gw_or (gt_not (gt_tru rfl (go_e (ge_call0 (n := 1) ((g_is_whole T).mono (by omega)) rfl (takes_of rfl rfl rfl rfl) hr (glk (by kernel_rfl)) (ga_cons (ge_v (i := 0) rfl (Or.inl (by kernel_rfl))) ga_nil))))) (gw_or (gt_not (gt_tru rfl (go_e (ge_call0 (n := 1) ((g_is_whole T).mono (by omega)) rfl (takes_of rfl rfl rfl rfl) hr (glk (by kernel_rfl)) (ga_cons (ge_v (i := 1) rfl (Or.inl (by kernel_rfl))) ga_nil))))) (gw_or1 (gt_cmp (op_eqD (hu64 hr)) ok_eq (gl_v (i := 1) rfl (Or.inl (by kernel_rfl))) (go_e ge_int) (nomark _))))))
 (gss_one (T.x_Malformed.raise rfl rfl (takes_of rfl rfl rfl rfl) (glk (by kernel_rfl))))
 gss_nil)
 (gss_one (gs_ret (ge_call0 (n := 2) ((g_lowest T).mono (by omega)) rfl (takes_of rfl rfl rfl rfl) hr (glk (by kernel_rfl)) (ga_cons (ge_v (i := 0) rfl (Or.inl (by kernel_rfl))) (ga_cons (ge_v (i := 1) rfl (Or.inl (by kernel_rfl))) ga_nil))))))
def b__law_gcd : SF :=
 (sSeq (sPar 0 1 (xOne fAbs (xB 0)) (xOne fAbs (xB 1)))
 (sSeq (sWhile (xTest (xOp fGt (.br 1) (xO (xC (.int 0)))))
 (sPar 0 1 (xV 1) (xOp fMod (.ex (xOne fIntS (xB 0))) (xB 1))))
 (sRet (xV 0))))
def F__law_gcd : XF := fnD b__law_gcd [false, false] 0
theorem g__law_gcd (T : Tx C mg P) : GF C P w mg base 1 "_law_gcd" [false, false] F__law_gcd := by
  have nd : (["a", "b"] : List Str).Nodup := by decide
  refine gf_def (body := b__law_gcd) T.d__law_gcd sc__law_gcd rfl rfl rfl fun f cdv A outer s H E hr => ?_
  exact
 (gss_cons (gs_par (i := 0) (j := 1) rfl nd rfl rfl (by decide) (by kernel_rfl) (by kernel_rfl) (ge_b1 (call_abs) ok_abs PyProof.Rows.boot_abs (glk (by kernel_rfl)) T.b_abs (go_v (i := 0) rfl (Or.inl (by kernel_rfl)))) (ge_b1 (call_abs) ok_abs PyProof.Rows.boot_abs (glk (by kernel_rfl)) T.b_abs (go_v (i := 1) rfl (Or.inl (by kernel_rfl)))) (by decide) (by decide) (by kernel_rfl))
 (gss_cons (gs_while (passes_of rfl) (gt_cmp op_gt okB (gl_v (i := 1) rfl (Or.inl (by kernel_rfl))) (go_e ge_int) (nomark _))
 (gss_one (gs_par (i := 0) (j := 1) rfl nd rfl rfl (by decide) (by kernel_rfl) (by kernel_rfl) (ge_v (i := 1) rfl (Or.inl (by kernel_rfl))) (ge_op op_mod ok_mod (gl_e (ge_ty1 (call_intX) ok_intX PyProof.Rows.boot_int (glk (by kernel_rfl)) T.b_int (go_v (i := 0) rfl (Or.inl (by kernel_rfl))))) (go_v (i := 1) rfl (Or.inl (by kernel_rfl)))) (by decide) (by decide) (by kernel_rfl))))
 (gss_one (gs_ret (ge_v (i := 0) rfl (Or.inl (by kernel_rfl)))))))
def b__law_low : SF :=
 (sSeq (sAsg (xCall0 2 F__law_gcd (xCons (xV 0) (xCons (xV 1) xNil))) (gV 2))
 (sSeq (sIf (xTest (xOp fLt (.br 1) (xO (xC (.int 0)))))
 (sAsg (xOne fNeg (xB 2)) (gV 2))
 sNil)
 (sRet (xTup (xCons (xOp fDivX (.br 0) (xB 2)) (xCons (xOp fDivX (.br 1) (xB 2)) xNil))))))
def F__law_low : XF := fnD b__law_low [false, false] 1
theorem g__law_low (T : Tx C mg P) : GF C P w mg base 2 "_law_low" [false, false] F__law_low := by
  have nd : (["n", "d", "g"] : List Str).Nodup := by decide
  refine gf_def (body := b__law_low) T.d__law_low sc__law_low rfl rfl rfl fun f cdv A outer s H E hr => ?_
  exact
 (gss_cons (gs_asg (ge_call0 (n := 2) ((g__law_gcd T).mono (by omega)) rfl (takes_of rfl rfl rfl rfl) hr (glk (by kernel_rfl)) (ga_cons (ge_v (i := 0) rfl (Or.inl (by kernel_rfl))) (ga_cons (ge_v (i := 1) rfl (Or.inl (by kernel_rfl))) ga_nil))) (gg_v (i := 2) nd rfl (Or.inl (by kernel_rfl)) (by decide)))
 (gss_cons (gs_if (gt_cmp op_lt okB (gl_v (i := 1) rfl (Or.inl (by kernel_rfl))) (go_e ge_int) (nomark _))
 (gss_one (gs_asg (ge_un un_neg ok_neg (go_v (i := 2) rfl (Or.inl (by kernel_rfl)))) (gg_v (i := 2) nd rfl (Or.inl (by kernel_rfl)) (by decide))))
 gss_nil)
 (gss_one (gs_ret (ge_tup (ga_cons (ge_op op_divX ok_divX (gl_v (i := 0) rfl (Or.inl (by kernel_rfl))) (go_v (i := 2) rfl (Or.inl (by kernel_rfl)))) (ga_cons (ge_op op_divX ok_divX (gl_v (i := 1) rfl (Or.inl (by kernel_rfl))) (go_v (i := 2) rfl (Or.inl (by kernel_rfl)))) ga_nil)))))))
def b__law_whole_text : SF :=
 (sSeq (sAsg (xIf (xTest (xOp fEq (.ex (xSlc (.br 0) pNo (pAt (xO (xC (.int 1)))))) (xO (xC (.str "-"))))) (xSlc (.br 0) (pAt (xO (xC (.int 1)))) pNo) (xV 0)) (gV 1))
 (sSeq (sIf (tOrT (xTest (xOp fEq (.br 1) (xO (xC (.str ""))))) (tTru (xO (xOne fAny (xO (xLk (some 1) (xLc (iN 1) (gV 2) tTrue (xOp (fInA true) (.br 2) (xO (xC (.str "0123456789")))) [2])))))))
 (sRet (xC (.bool false)))
 sNil)
 (sRet (xOr (xOp fEq (.br 0) (xO (xC (.str "0")))) (xOp fNe (.ex (xOp fIxA (.br 1) (xO (xC (.int 0))))) (xO (xC (.str "0"))))))))
def F__law_whole_text : XF := fnD b__law_whole_text [false] 2
theorem g__law_whole_text (T : Tx C mg P) : GF C P w mg base 1 "_law_whole_text" [false] F__law_whole_text := by
  have nd : (["text", "body", "sign"] : List Str).Nodup := by decide
  refine gf_def (body := b__law_whole_text) T.d__law_whole_text sc__law_whole_text rfl rfl rfl fun f cdv A outer s H E hr => ?_
  exact
 (gss_cons (gs_asg (ge_if (gt_cmp (op_eqD (hu64 hr)) ok_eq (gl_e (ge_slice rfl (gl_v (i := 0) rfl (Or.inl (by kernel_rfl))) gp_no (gp_at (go_e ge_int)))) (go_e ge_str) (nomark _)) (ge_slice rfl (gl_v (i := 0) rfl (Or.inl (by kernel_rfl))) (gp_at (go_e ge_int)) gp_no) (ge_v (i := 0) rfl (Or.inl (by kernel_rfl)))) (gg_v (i := 1) nd rfl (Or.inl (by kernel_rfl)) (by decide)))
 (gss_cons (gs_if (gt_w (gw_or (gt_cmp (op_eqD (hu64 hr)) ok_eq (gl_v (i := 1) rfl (Or.inl (by kernel_rfl))) (go_e ge_str) (nomark _)) (gw_or1 (gt_tru rfl (go_e (ge_b1 (cr_any rfl) ok_any PyProof.Rows.boot_any (glk (by kernel_rfl)) T.b_any (go_e (ge_lc (own := [("sign", 2)]) (some 1) rfl nd (gi_n (i := 1) rfl rfl (Or.inl (by kernel_rfl))) (blkOk_by (by kernel_rfl)) (fun _ _ _ _ _ => (gg_v (i := 2) nd rfl (Or.inl (by kernel_rfl)) (oth_not (by decide)))) (fun _ _ _ _ _ => gts_nil) (fun _ _ _ _ _ => (ge_cmp (op_notInAll (hu_of hr.r)) ok_inAll (gl_v (i := 2) rfl (Or.inl (by kernel_rfl))) (go_e ge_str) rfl))))))))))
 (gss_one (gs_ret ge_bl))
 gss_nil)
 (gss_one (gs_ret (ge_or (ge_cmp (op_eqD (hu64 hr)) ok_eq (gl_v (i := 0) rfl (Or.inl (by kernel_rfl))) (go_e ge_str) (nomark _)) (ge_one (ge_cmp (op_neD (hu64 hr)) ok_ne (gl_e (ge_ix (ix_all (hu_of hr.r)) ok_ixAll (gl_v (i := 1) rfl (Or.inl (by kernel_rfl))) (go_e ge_int) (fun _ _ => rfl))) (go_e ge_str) (nomark _))))))))
def b__law_due : SF :=
 (sSeq (sAsg (xM1 fSplit (xV 0) (xO (xC (.str "/")))) (gV 1))
 (sSeq (sIf (tOrT (xTest (xOp fGt (.ex (xOne fLen (xB 1))) (xO (xC (.int 2))))) (tNotT (tTru (xO (xOne fAll (xO (xLk (some 1) (xLc (iN 1) (gV 4) tTrue (xCall0 1 F__law_whole_text (xCons (xV 4) xNil)) [4]))))))))
 (sRet (xC .none))
 sNil)
 (sSeq (sPar 2 3 (xOne fIntS (xO (xOp fIxA (.br 1) (xO (xC (.int 0)))))) (xIf (xTest (xOp fEq (.ex (xOne fLen (xB 1))) (xO (xC (.int 2))))) (xOne fIntS (xO (xOp fIxA (.br 1) (xO (xOne fNeg (xO (xC (.int 1)))))))) (xC (.int 1))))
 (sSeq (sIf (tOrT (xTest (xOp fLt (.br 3) (xO (xC (.int 1))))) (tOrT (xTest (xOp fNe (.ex (xCall0 2 F__law_gcd (xCons (xV 2) (xCons (xV 3) xNil)))) (xO (xC (.int 1))))) (tAndT (xTest (xOp fEq (.ex (xOne fLen (xB 1))) (xO (xC (.int 2))))) (xTest (xOp fEq (.br 3) (xO (xC (.int 1))))))))
 (sRet (xC .none))
 sNil)
 (sRet (xTup (xCons (xV 2) (xCons (xV 3) xNil))))))))
def F__law_due : XF := fnD b__law_due [false] 4
theorem g__law_due (T : Tx C mg P) : GF C P w mg base 2 "_law_due" [false] F__law_due := by
  have nd : (["text", "parts", "n", "d", "part"] : List Str).Nodup := by decide
  refine gf_def (body := b__law_due) T.d__law_due sc__law_due rfl rfl rfl fun f cdv A outer s H E hr => ?_
  exact
 (gss_cons (gs_asg (ge_m1 PySem.F.slot_str_split PySem.F.type_str_split mt_split ok_split (ge_v (i := 0) rfl (Or.inl (by kernel_rfl))) (go_e ge_str)) (gg_v (i := 1) nd rfl (Or.inl (by kernel_rfl)) (by decide)))
 (gss_cons (gs_if (gt_w (gw_or (gt_cmp op_gt okB (gl_e (ge_len rfl (glk (by kernel_rfl)) T.b_len (go_v (i := 1) rfl (Or.inl (by kernel_rfl))))) (go_e ge_int) (nomark _)) (gw_or1 (gt_not (gt_tru rfl (go_e (ge_b1 (cr_all rfl) ok_all PyProof.Rows.boot_all (glk (by kernel_rfl)) T.b_all (go_e (ge_lc (own := [("part", 4)]) (some 1) rfl nd (gi_n (i := 1) rfl rfl (Or.inl (by kernel_rfl))) (blkOk_by (by kernel_rfl)) (fun _ _ _ _ _ => (gg_v (i := 4) nd rfl (Or.inl (by kernel_rfl)) (oth_not (by decide)))) (fun _ _ _ _ _ => gts_nil) (fun _ _ _ _ _ => (ge_call0 (n := 1) ((g__law_whole_text T).mono (by omega)) rfl takes0 hr (glk (by kernel_rfl)) (ga_cons (ge_v (i := 4) rfl (Or.inl (by kernel_rfl))) ga_nil))))))))))))
 (gss_one (gs_ret ge_non))
 gss_nil)
 (gss_cons (gs_par (i := 2) (j := 3) rfl nd rfl rfl (by decide) (by kernel_rfl) (by kernel_rfl) (ge_ty1 (call_intX) ok_intX PyProof.Rows.boot_int (glk (by kernel_rfl)) T.b_int (go_e (ge_ix (ix_all (hu_of hr.r)) ok_ixAll (gl_v (i := 1) rfl (Or.inl (by kernel_rfl))) (go_e ge_int) (fun _ _ => rfl)))) (ge_if (gt_cmp (op_eqD (hu64 hr)) ok_eq (gl_e (ge_len rfl (glk (by kernel_rfl)) T.b_len (go_v (i := 1) rfl (Or.inl (by kernel_rfl))))) (go_e ge_int) (nomark _)) (ge_ty1 (call_intX) ok_intX PyProof.Rows.boot_int (glk (by kernel_rfl)) T.b_int (go_e (ge_ix (ix_all (hu_of hr.r)) ok_ixAll (gl_v (i := 1) rfl (Or.inl (by kernel_rfl))) (go_e (ge_un un_neg ok_neg (go_e ge_int))) (fun _ _ => rfl)))) ge_int) (by decide) (by decide) (by kernel_rfl))
 (gss_cons (gs_if (gt_w (gw_or (gt_cmp op_lt okB (gl_v (i := 3) rfl (Or.inl (by kernel_rfl))) (go_e ge_int) (nomark _)) (gw_or (gt_cmp (op_neD (hu64 hr)) ok_ne (gl_e (ge_call0 (n := 2) ((g__law_gcd T).mono (by omega)) rfl (takes_of rfl rfl rfl rfl) hr (glk (by kernel_rfl)) (ga_cons (ge_v (i := 2) rfl (Or.inl (by kernel_rfl))) (ga_cons (ge_v (i := 3) rfl (Or.inl (by kernel_rfl))) ga_nil)))) (go_e ge_int) (nomark _)) (gw_or1 (gt_w (gw_and (gt_cmp (op_eqD (hu64 hr)) ok_eq (gl_e (ge_len rfl (glk (by kernel_rfl)) T.b_len (go_v (i := 1) rfl (Or.inl (by kernel_rfl))))) (go_e ge_int) (nomark _)) (gw_and1 (gt_cmp (op_eqD (hu64 hr)) ok_eq (gl_v (i := 3) rfl (Or.inl (by kernel_rfl))) (go_e ge_int) (nomark _)))))))))
 (gss_one (gs_ret ge_non))
 gss_nil)
 (gss_one (gs_ret (ge_tup (ga_cons (ge_v (i := 2) rfl (Or.inl (by kernel_rfl))) (ga_cons (ge_v (i := 3) rfl (Or.inl (by kernel_rfl))) ga_nil)))))))))
def b_read_whole : SF :=
 (sSeq (sIf (tNotT (tTru (xO (xOne (fIs .str) (xB 0)))))
 (sRaiseI 1 true (xC (.int 0)))
 sNil)
 (sSeq (sAsg (xIf (xTest (xOp fEq (.ex (xSlc (.br 0) pNo (pAt (xO (xC (.int 1)))))) (xO (xC (.str "-"))))) (xSlc (.br 0) (pAt (xO (xC (.int 1)))) pNo) (xV 0)) (gV 1))
 (sSeq (sIf (tOrT (xTest (xOp fLt (.ex (xOne fLen (xB 1))) (xO (xC (.int 1))))) (tOrT (xTest (xOp fGt (.ex (xOne fLen (xB 1))) (xO (xC d_MOST_DIGITS)))) (tNotT (tTru (xO (xOne fAll (xO (xLk (some 1) (xLc (iN 1) (gV 2) tTrue (xOp (fInA false) (.br 2) (xO (xC d_DIGITS))) [2])))))))))
 (sRaiseI 1 true (xC (.int 0)))
 sNil)
 (sSeq (sIf (tAndT (xTest (xOp fEq (.ex (xOp fIxA (.br 1) (xO (xC (.int 0))))) (xO (xC (.str "0"))))) (xTest (xOp fNe (.br 0) (xO (xC (.str "0"))))))
 (sRaiseI 1 true (xC (.int 0)))
 sNil)
 (sRet (xOne fIntS (xB 0)))))))
def F_read_whole : XF := fnD b_read_whole [false] 2
theorem g_read_whole (T : Tx C mg P) : GF C P w mg base 1 "read_whole" [false] F_read_whole := by
  have nd : (["text", "body", "sign"] : List Str).Nodup := by decide
  refine gf_def (body := b_read_whole) T.d_read_whole sc_read_whole rfl rfl rfl fun f cdv A outer s H E hr => ?_
  exact
 (gss_cons (gs_if (gt_not (gt_tru rfl (go_e (ge_isi .str rfl (glk (by kernel_rfl)) T.b_isinstance (glk (by kernel_rfl)) T.b_str PyProof.Rows.boot_str (go_v (i := 0) rfl (Or.inl (by kernel_rfl)))))))
 (gss_one (gs_raiseI T.x_NoText T.f_NoText hr.r rfl rfl (takes_of rfl rfl rfl rfl) ge_int (glk (by kernel_rfl))))
 gss_nil)
 (gss_cons (gs_asg (ge_if (gt_cmp (op_eqD (hu64 hr)) ok_eq (gl_e (ge_slice rfl (gl_v (i := 0) rfl (Or.inl (by kernel_rfl))) gp_no (gp_at (go_e ge_int)))) (go_e ge_str) (nomark _)) (ge_slice rfl (gl_v (i := 0) rfl (Or.inl (by kernel_rfl))) (gp_at (go_e ge_int)) gp_no) (ge_v (i := 0) rfl (Or.inl (by kernel_rfl)))) (gg_v (i := 1) nd rfl (Or.inl (by kernel_rfl)) (by decide)))
 (gss_cons (gs_if (gt_w (gw_or (gt_cmp op_lt okB (gl_e (ge_len rfl (glk (by kernel_rfl)) T.b_len (go_v (i := 1) rfl (Or.inl (by kernel_rfl))))) (go_e ge_int) (nomark _)) (gw_or (gt_cmp op_gt okB (gl_e (ge_len rfl (glk (by kernel_rfl)) T.b_len (go_v (i := 1) rfl (Or.inl (by kernel_rfl))))) (go_e (ge_g (glk (by kernel_rfl)) T.g_MOST_DIGITS)) (nomark _)) (gw_or1 (gt_not (gt_tru rfl (go_e (ge_b1 (cr_all rfl) ok_all PyProof.Rows.boot_all (glk (by kernel_rfl)) T.b_all (go_e (ge_lc (own := [("sign", 2)]) (some 1) rfl nd (gi_n (i := 1) rfl rfl (Or.inl (by kernel_rfl))) (blkOk_by (by kernel_rfl)) (fun _ _ _ _ _ => (gg_v (i := 2) nd rfl (Or.inl (by kernel_rfl)) (oth_not (by decide)))) (fun _ _ _ _ _ => gts_nil) (fun _ _ _ _ _ => (ge_cmp (op_inAll (hu_of hr.r)) ok_inAll (gl_v (i := 2) rfl (Or.inl (by kernel_rfl))) (go_e (ge_g (glk (by kernel_rfl)) T.g_DIGITS)) rfl))))))))))))
 (gss_one (gs_raiseI T.x_NoText T.f_NoText hr.r rfl rfl (takes_of rfl rfl rfl rfl) ge_int (glk (by kernel_rfl))))
 gss_nil)
 (gss_cons (gs_if (gt_w (gw_and (gt_cmp (op_eqD (hu64 hr)) ok_eq (gl_e (ge_ix (ix_all (hu_of hr.r)) ok_ixAll (gl_v (i := 1) rfl (Or.inl (by kernel_rfl))) (go_e ge_int) (fun _ _ => rfl))) (go_e ge_str) (nomark _)) (gw_and1 (gt_cmp (op_neD (hu64 hr)) ok_ne (gl_v (i := 0) rfl (Or.inl (by kernel_rfl))) (go_e ge_str) (nomark _)))))
 (gss_one (gs_raiseI T.x_NoText T.f_NoText hr.r rfl rfl (takes_of rfl rfl rfl rfl) ge_int (glk (by kernel_rfl))))
 gss_nil)
 (gss_one (gs_ret (ge_ty1 (call_intX) ok_intX PyProof.Rows.boot_int (glk (by kernel_rfl)) T.b_int (go_v (i := 0) rfl (Or.inl (by kernel_rfl))))))))))
def b_over : SF :=
 (sSeq (sIf (xTest (xOp fEq (.ex (xOp fIxA (.br 1) (xO (xC (.int 0))))) (xO (xC (.int 0)))))
 (sRaise 0)
 sNil)
 (sRet (xCall0 2 F_lowest (xCons (xOp fMul (.ex (xOp fIxA (.br 0) (xO (xC (.int 0))))) (xO (xOp fIxA (.br 1) (xO (xC (.int 1)))))) (xCons (xOp fMul (.ex (xOp fIxA (.br 0) (xO (xC (.int 1))))) (xO (xOp fIxA (.br 1) (xO (xC (.int 0)))))) xNil)))))
def F_over : XF := fnD b_over [false, false] 0
theorem g_over (T : Tx C mg P) : GF C P w mg base 3 "over" [false, false] F_over := by
  have nd : (["a", "b"] : List Str).Nodup := by decide
  refine gf_def (body := b_over) T.d_over sc_over rfl rfl rfl fun f cdv A outer s H E hr => ?_
  exact
 (gss_cons (gs_if (gt_cmp (op_eqD (hu64 hr)) ok_eq (gl_e (ge_ix (ix_all (hu_of hr.r)) ok_ixAll (gl_v (i := 1) rfl (Or.inl (by kernel_rfl))) (go_e ge_int) (fun _ _ => rfl))) (go_e ge_int) (nomark _))
 (gss_one (T.x_Malformed.raise rfl rfl (takes_of rfl rfl rfl rfl) (glk (by kernel_rfl))))
 gss_nil)
 (gss_one (gs_ret (ge_call0 (n := 2) ((g_lowest T).mono (by omega)) rfl (takes_of rfl rfl rfl rfl) hr (glk (by kernel_rfl)) (ga_cons (ge_op op_mulA ok_mul (gl_e (ge_ix (ix_all (hu_of hr.r)) ok_ixAll (gl_v (i := 0) rfl (Or.inl (by kernel_rfl))) (go_e ge_int) (fun _ _ => rfl))) (go_e (ge_ix (ix_all (hu_of hr.r)) ok_ixAll (gl_v (i := 1) rfl (Or.inl (by kernel_rfl))) (go_e ge_int) (fun _ _ => rfl)))) (ga_cons (ge_op op_mulA ok_mul (gl_e (ge_ix (ix_all (hu_of hr.r)) ok_ixAll (gl_v (i := 0) rfl (Or.inl (by kernel_rfl))) (go_e ge_int) (fun _ _ => rfl))) (go_e (ge_ix (ix_all (hu_of hr.r)) ok_ixAll (gl_v (i := 1) rfl (Or.inl (by kernel_rfl))) (go_e ge_int) (fun _ _ => rfl)))) ga_nil))))))
def b__law_raises : SF :=
 (sSeq (sTry2 (sIf (xTest (xOp fEq (.br 0) (xO (xC (.int 0)))))
 (sExpr (xCall0 2 F_ratio (xCons (xV 1) (xCons (xV 2) xNil))))
 (sExpr (xCall0 2 F_over (xCons (xV 1) (xCons (xV 2) xNil)))))
 [(m_Malformed, (hN 3 (nBl 0 true)))])
 (sRet (xC (.bool false))))
def F__law_raises : XF := fnD b__law_raises [false, false, false] 1
theorem g__law_raises (T : Tx C mg P) : GF C P w mg base 4 "_law_raises" [false, false, false] F__law_raises := by
  have nd : (["which", "one", "two", "refusal"] : List Str).Nodup := by decide
  refine gf_def (body := b__law_raises) T.d__law_raises sc__law_raises rfl rfl rfl fun f cdv A outer s H E hr => ?_
  exact
 (gss_cons (gs_try2 rfl rfl rfl nd (takes_of rfl rfl rfl rfl) (fun W pn xe tk hp => (gss_one (gs_if (gt_cmp (op_eqD (hu64 hr)) ok_eq (gl_v (i := 0) rfl (Or.inl (by kernel_rfl))) (go_e ge_int) (nomark _))
 (gss_one (gs_expr (ge_call0 (n := 2) ((g_ratio T).mono (by omega)) rfl tk hr (glk (by kernel_rfl)) (ga_cons (ge_v (i := 1) rfl (Or.inl (by kernel_rfl))) (ga_cons (ge_v (i := 2) rfl (Or.inl (by kernel_rfl))) ga_nil)))))
 (gss_one (gs_expr (ge_call0 (n := 2) ((g_over T).mono (by omega)) rfl tk hr (glk (by kernel_rfl)) (ga_cons (ge_v (i := 1) rfl (Or.inl (by kernel_rfl))) (ga_cons (ge_v (i := 2) rfl (Or.inl (by kernel_rfl))) ga_nil))))))))
 (.named ⟨glk (by kernel_rfl), by decide, .inl T.x_Malformed.g⟩ T.m_Malformed rfl (by kernel_rfl) (ne_nb (nb_and (nb_is (cl_own T.q2_Malformed_Fault (glk (by kernel_rfl))) rfl rfl (Or.inl (by kernel_rfl)) (glk (by kernel_rfl)) T.b_isinstance) (nb_one (nb_not (nb_is (cl_own T.q2_Malformed_NoText (glk (by kernel_rfl))) rfl rfl (Or.inl (by kernel_rfl)) (glk (by kernel_rfl)) T.b_isinstance))))) .nil))
 (gss_one (gs_ret ge_bl)))
def b__law_same : SF :=
 (sRet (xAnd (xOne (fIs .tuple) (xB 0)) (xAnd (xOp fEq (.ex (xOne fLen (xB 0))) (xO (xC (.int 2)))) (xAnd (xOne fAll (xO (xLk (some 0) (xLc (iN 0) (gV 2) tTrue (xAnd (xOne (fIs .int) (xB 2)) (xNot (xOne (fIs .bool) (xB 2)))) [2])))) (xOp fEq (.br 0) (xB 1))))))
def F__law_same : XF := fnD b__law_same [false, false] 1
theorem g__law_same (T : Tx C mg P) : GF C P w mg base 1 "_law_same" [false, false] F__law_same := by
  have nd : (["one", "two", "x"] : List Str).Nodup := by decide
  refine gf_def (body := b__law_same) T.d__law_same sc__law_same rfl rfl rfl fun f cdv A outer s H E hr => ?_
  exact
 (gss_one (gs_ret (ge_and (ge_isi .tuple rfl (glk (by kernel_rfl)) T.b_isinstance (glk (by kernel_rfl)) T.b_tuple PyProof.Rows.boot_tuple (go_v (i := 0) rfl (Or.inl (by kernel_rfl)))) (ge_and (ge_cmp (op_eqD (hu64 hr)) ok_eq (gl_e (ge_len rfl (glk (by kernel_rfl)) T.b_len (go_v (i := 0) rfl (Or.inl (by kernel_rfl))))) (go_e ge_int) (nomark _)) (ge_and (ge_b1 (cr_all rfl) ok_all PyProof.Rows.boot_all (glk (by kernel_rfl)) T.b_all (go_e (ge_lc (own := [("x", 2)]) (some 0) rfl nd (gi_n (i := 0) rfl rfl (Or.inl (by kernel_rfl))) (blkOk_by (by kernel_rfl)) (fun _ _ _ _ _ => (gg_v (i := 2) nd rfl (Or.inl (by kernel_rfl)) (oth_not (by decide)))) (fun _ _ _ _ _ => gts_nil) (fun _ _ _ _ _ => (ge_and (ge_isi .int rfl (glk (by kernel_rfl)) T.b_isinstance (glk (by kernel_rfl)) T.b_int PyProof.Rows.boot_int (go_v (i := 2) rfl (Or.inl (by kernel_rfl)))) (ge_one (ge_not (ge_isi .bool rfl (glk (by kernel_rfl)) T.b_isinstance (glk (by kernel_rfl)) T.b_bool PyProof.Rows.boot_bool (go_v (i := 2) rfl (Or.inl (by kernel_rfl))))))))))) (ge_one (ge_cmp (op_eqD (hu64 hr)) ok_eq (gl_v (i := 0) rfl (Or.inl (by kernel_rfl))) (go_v (i := 1) rfl (Or.inl (by kernel_rfl))) (nomark _))))))))
def b_plus : SF :=
 (sRet (xCall0 2 F_lowest (xCons (xOp fAdd (.ex (xOp fMul (.ex (xOp fIxA (.br 0) (xO (xC (.int 0))))) (xO (xOp fIxA (.br 1) (xO (xC (.int 1))))))) (xO (xOp fMul (.ex (xOp fIxA (.br 1) (xO (xC (.int 0))))) (xO (xOp fIxA (.br 0) (xO (xC (.int 1)))))))) (xCons (xOp fMul (.ex (xOp fIxA (.br 0) (xO (xC (.int 1))))) (xO (xOp fIxA (.br 1) (xO (xC (.int 1)))))) xNil))))
def F_plus : XF := fnD b_plus [false, false] 0
theorem g_plus (T : Tx C mg P) : GF C P w mg base 3 "plus" [false, false] F_plus := by
  have nd : (["a", "b"] : List Str).Nodup := by decide
  refine gf_def (body := b_plus) T.d_plus sc_plus rfl rfl rfl fun f cdv A outer s H E hr => ?_
  exact
 (gss_one (gs_ret (ge_call0 (n := 2) ((g_lowest T).mono (by omega)) rfl (takes_of rfl rfl rfl rfl) hr (glk (by kernel_rfl)) (ga_cons (ge_op op_addA ok_add (gl_e (ge_op op_mulA ok_mul (gl_e (ge_ix (ix_all (hu_of hr.r)) ok_ixAll (gl_v (i := 0) rfl (Or.inl (by kernel_rfl))) (go_e ge_int) (fun _ _ => rfl))) (go_e (ge_ix (ix_all (hu_of hr.r)) ok_ixAll (gl_v (i := 1) rfl (Or.inl (by kernel_rfl))) (go_e ge_int) (fun _ _ => rfl))))) (go_e (ge_op op_mulA ok_mul (gl_e (ge_ix (ix_all (hu_of hr.r)) ok_ixAll (gl_v (i := 1) rfl (Or.inl (by kernel_rfl))) (go_e ge_int) (fun _ _ => rfl))) (go_e (ge_ix (ix_all (hu_of hr.r)) ok_ixAll (gl_v (i := 0) rfl (Or.inl (by kernel_rfl))) (go_e ge_int) (fun _ _ => rfl)))))) (ga_cons (ge_op op_mulA ok_mul (gl_e (ge_ix (ix_all (hu_of hr.r)) ok_ixAll (gl_v (i := 0) rfl (Or.inl (by kernel_rfl))) (go_e ge_int) (fun _ _ => rfl))) (go_e (ge_ix (ix_all (hu_of hr.r)) ok_ixAll (gl_v (i := 1) rfl (Or.inl (by kernel_rfl))) (go_e ge_int) (fun _ _ => rfl)))) ga_nil)))))
def b_minus : SF :=
 (sRet (xCall0 2 F_lowest (xCons (xOp fSub (.ex (xOp fMul (.ex (xOp fIxA (.br 0) (xO (xC (.int 0))))) (xO (xOp fIxA (.br 1) (xO (xC (.int 1))))))) (xO (xOp fMul (.ex (xOp fIxA (.br 1) (xO (xC (.int 0))))) (xO (xOp fIxA (.br 0) (xO (xC (.int 1)))))))) (xCons (xOp fMul (.ex (xOp fIxA (.br 0) (xO (xC (.int 1))))) (xO (xOp fIxA (.br 1) (xO (xC (.int 1)))))) xNil))))
def F_minus : XF := fnD b_minus [false, false] 0
theorem g_minus (T : Tx C mg P) : GF C P w mg base 3 "minus" [false, false] F_minus := by
  have nd : (["a", "b"] : List Str).Nodup := by decide
  refine gf_def (body := b_minus) T.d_minus sc_minus rfl rfl rfl fun f cdv A outer s H E hr => ?_
  exact
 (gss_one (gs_ret (ge_call0 (n := 2) ((g_lowest T).mono (by omega)) rfl (takes_of rfl rfl rfl rfl) hr (glk (by kernel_rfl)) (ga_cons (ge_op op_sub ok_sub (gl_e (ge_op op_mulA ok_mul (gl_e (ge_ix (ix_all (hu_of hr.r)) ok_ixAll (gl_v (i := 0) rfl (Or.inl (by kernel_rfl))) (go_e ge_int) (fun _ _ => rfl))) (go_e (ge_ix (ix_all (hu_of hr.r)) ok_ixAll (gl_v (i := 1) rfl (Or.inl (by kernel_rfl))) (go_e ge_int) (fun _ _ => rfl))))) (go_e (ge_op op_mulA ok_mul (gl_e (ge_ix (ix_all (hu_of hr.r)) ok_ixAll (gl_v (i := 1) rfl (Or.inl (by kernel_rfl))) (go_e ge_int) (fun _ _ => rfl))) (go_e (ge_ix (ix_all (hu_of hr.r)) ok_ixAll (gl_v (i := 0) rfl (Or.inl (by kernel_rfl))) (go_e ge_int) (fun _ _ => rfl)))))) (ga_cons (ge_op op_mulA ok_mul (gl_e (ge_ix (ix_all (hu_of hr.r)) ok_ixAll (gl_v (i := 0) rfl (Or.inl (by kernel_rfl))) (go_e ge_int) (fun _ _ => rfl))) (go_e (ge_ix (ix_all (hu_of hr.r)) ok_ixAll (gl_v (i := 1) rfl (Or.inl (by kernel_rfl))) (go_e ge_int) (fun _ _ => rfl)))) ga_nil)))))
def b_times : SF :=
 (sRet (xCall0 2 F_lowest (xCons (xOp fMul (.ex (xOp fIxA (.br 0) (xO (xC (.int 0))))) (xO (xOp fIxA (.br 1) (xO (xC (.int 0)))))) (xCons (xOp fMul (.ex (xOp fIxA (.br 0) (xO (xC (.int 1))))) (xO (xOp fIxA (.br 1) (xO (xC (.int 1)))))) xNil))))
def F_times : XF := fnD b_times [false, false] 0
theorem g_times (T : Tx C mg P) : GF C P w mg base 3 "times" [false, false] F_times := by
  have nd : (["a", "b"] : List Str).Nodup := by decide
  refine gf_def (body := b_times) T.d_times sc_times rfl rfl rfl fun f cdv A outer s H E hr => ?_
  exact
 (gss_one (gs_ret (ge_call0 (n := 2) ((g_lowest T).mono (by omega)) rfl (takes_of rfl rfl rfl rfl) hr (glk (by kernel_rfl)) (ga_cons (ge_op op_mulA ok_mul (gl_e (ge_ix (ix_all (hu_of hr.r)) ok_ixAll (gl_v (i := 0) rfl (Or.inl (by kernel_rfl))) (go_e ge_int) (fun _ _ => rfl))) (go_e (ge_ix (ix_all (hu_of hr.r)) ok_ixAll (gl_v (i := 1) rfl (Or.inl (by kernel_rfl))) (go_e ge_int) (fun _ _ => rfl)))) (ga_cons (ge_op op_mulA ok_mul (gl_e (ge_ix (ix_all (hu_of hr.r)) ok_ixAll (gl_v (i := 0) rfl (Or.inl (by kernel_rfl))) (go_e ge_int) (fun _ _ => rfl))) (go_e (ge_ix (ix_all (hu_of hr.r)) ok_ixAll (gl_v (i := 1) rfl (Or.inl (by kernel_rfl))) (go_e ge_int) (fun _ _ => rfl)))) ga_nil)))))
def b__law_says : SF :=
 (sRet (xAnd (xOne (fIs .bool) (xB 0)) (xOp fEq (.br 0) (xB 1))))
def F__law_says : XF := fnD b__law_says [false, false] 0
theorem g__law_says (T : Tx C mg P) : GF C P w mg base 1 "_law_says" [false, false] F__law_says := by
  have nd : (["value", "due"] : List Str).Nodup := by decide
  refine gf_def (body := b__law_says) T.d__law_says sc__law_says rfl rfl rfl fun f cdv A outer s H E hr => ?_
  exact
 (gss_one (gs_ret (ge_and (ge_isi .bool rfl (glk (by kernel_rfl)) T.b_isinstance (glk (by kernel_rfl)) T.b_bool PyProof.Rows.boot_bool (go_v (i := 0) rfl (Or.inl (by kernel_rfl)))) (ge_one (ge_cmp (op_eqD (hu64 hr)) ok_eq (gl_v (i := 0) rfl (Or.inl (by kernel_rfl))) (go_v (i := 1) rfl (Or.inl (by kernel_rfl))) (nomark _))))))
def b_below : SF :=
 (sRet (xOp fLt (.ex (xOp fMul (.ex (xOp fIxA (.br 0) (xO (xC (.int 0))))) (xO (xOp fIxA (.br 1) (xO (xC (.int 1))))))) (xO (xOp fMul (.ex (xOp fIxA (.br 1) (xO (xC (.int 0))))) (xO (xOp fIxA (.br 0) (xO (xC (.int 1)))))))))
def F_below : XF := fnD b_below [false, false] 0
theorem g_below (T : Tx C mg P) : GF C P w mg base 1 "below" [false, false] F_below := by
  have nd : (["a", "b"] : List Str).Nodup := by decide
  refine gf_def (body := b_below) T.d_below sc_below rfl rfl rfl fun f cdv A outer s H E hr => ?_
  exact
 (gss_one (gs_ret (ge_cmp op_lt okB (gl_e (ge_op op_mulA ok_mul (gl_e (ge_ix (ix_all (hu_of hr.r)) ok_ixAll (gl_v (i := 0) rfl (Or.inl (by kernel_rfl))) (go_e ge_int) (fun _ _ => rfl))) (go_e (ge_ix (ix_all (hu_of hr.r)) ok_ixAll (gl_v (i := 1) rfl (Or.inl (by kernel_rfl))) (go_e ge_int) (fun _ _ => rfl))))) (go_e (ge_op op_mulA ok_mul (gl_e (ge_ix (ix_all (hu_of hr.r)) ok_ixAll (gl_v (i := 1) rfl (Or.inl (by kernel_rfl))) (go_e ge_int) (fun _ _ => rfl))) (go_e (ge_ix (ix_all (hu_of hr.r)) ok_ixAll (gl_v (i := 0) rfl (Or.inl (by kernel_rfl))) (go_e ge_int) (fun _ _ => rfl))))) (nomark _))))
def b_lesser : SF :=
 (sRet (xIf (tTru (xO (xCall0 2 F_below (xCons (xV 1) (xCons (xV 0) xNil))))) (xV 1) (xV 0)))
def F_lesser : XF := fnD b_lesser [false, false] 0
theorem g_lesser (T : Tx C mg P) : GF C P w mg base 2 "lesser" [false, false] F_lesser := by
  have nd : (["a", "b"] : List Str).Nodup := by decide
  refine gf_def (body := b_lesser) T.d_lesser sc_lesser rfl rfl rfl fun f cdv A outer s H E hr => ?_
  exact
 (gss_one (gs_ret (ge_if (gt_tru rfl (go_e (ge_call0 (n := 2) ((g_below T).mono (by omega)) rfl (takes_of rfl rfl rfl rfl) hr (glk (by kernel_rfl)) (ga_cons (ge_v (i := 1) rfl (Or.inl (by kernel_rfl))) (ga_cons (ge_v (i := 0) rfl (Or.inl (by kernel_rfl))) ga_nil))))) (ge_v (i := 1) rfl (Or.inl (by kernel_rfl))) (ge_v (i := 0) rfl (Or.inl (by kernel_rfl))))))
def b_greater : SF :=
 (sRet (xIf (tTru (xO (xCall0 2 F_below (xCons (xV 0) (xCons (xV 1) xNil))))) (xV 1) (xV 0)))
def F_greater : XF := fnD b_greater [false, false] 0
theorem g_greater (T : Tx C mg P) : GF C P w mg base 2 "greater" [false, false] F_greater := by
  have nd : (["a", "b"] : List Str).Nodup := by decide
  refine gf_def (body := b_greater) T.d_greater sc_greater rfl rfl rfl fun f cdv A outer s H E hr => ?_
  exact
 (gss_one (gs_ret (ge_if (gt_tru rfl (go_e (ge_call0 (n := 2) ((g_below T).mono (by omega)) rfl (takes_of rfl rfl rfl rfl) hr (glk (by kernel_rfl)) (ga_cons (ge_v (i := 0) rfl (Or.inl (by kernel_rfl))) (ga_cons (ge_v (i := 1) rfl (Or.inl (by kernel_rfl))) ga_nil))))) (ge_v (i := 1) rfl (Or.inl (by kernel_rfl))) (ge_v (i := 0) rfl (Or.inl (by kernel_rfl))))))
def b_total : SF :=
 (sSeq (sAsg (xC d_ZERO) (gV 1))
 (sSeq (sForN 0 (gV 2)
 (sIf (xTest (xOp fNe (.ex (xOp fIxA (.br 2) (xO (xC (.int 0))))) (xO (xC (.int 0)))))
 (sAsg (xCall0 2 F_plus (xCons (xV 1) (xCons (xV 2) xNil))) (gV 1))
 sNil))
 (sRetV 1)))
def F_total : XF := fnD b_total [false] 2
theorem g_total (T : Tx C mg P) : GF C P w mg base 4 "total" [false] F_total := by
  have nd : (["items", "found", "item"] : List Str).Nodup := by decide
  refine gf_def (body := b_total) T.d_total sc_total rfl rfl rfl fun f cdv A outer s H E hr => ?_
  exact
 (gss_cons (gs_asg (ge_g (glk (by kernel_rfl)) T.g_ZERO) (gg_v (i := 1) nd rfl (Or.inl (by kernel_rfl)) (by decide)))
 (gss_cons (gs_forN (i := 0) (passes_of rfl) rfl (gi_n (i := 0) rfl rfl (Or.inl (by kernel_rfl))) (gg_v (i := 2) nd rfl (Or.inl (by kernel_rfl)) (by decide))
 (gss_one (gs_if (gt_cmp (op_neD (hu64 hr)) ok_ne (gl_e (ge_ix (ix_all (hu_of hr.r)) ok_ixAll (gl_v (i := 2) rfl (Or.inl (by kernel_rfl))) (go_e ge_int) (fun _ _ => rfl))) (go_e ge_int) (nomark _))
 (gss_one (gs_asg (ge_call0 (n := 2) ((g_plus T).mono (by omega)) rfl (takes_of rfl rfl rfl rfl) hr (glk (by kernel_rfl)) (ga_cons (ge_v (i := 1) rfl (Or.inl (by kernel_rfl))) (ga_cons (ge_v (i := 2) rfl (Or.inl (by kernel_rfl))) ga_nil))) (gg_v (i := 1) nd rfl (Or.inl (by kernel_rfl)) (by decide))))
 gss_nil)))
 (gss_one (gs_retV (i := 1) rfl (Or.inl (by kernel_rfl))))))
def b_ratio_text : SF :=
 (sRet (xIf (xTest (xOp fEq (.ex (xOp fIxA (.br 0) (xO (xC (.int 1))))) (xO (xC (.int 1))))) (xOne fStrI (xO (xOp fIxA (.br 0) (xO (xC (.int 0)))))) (xOp fAdd (.ex (xOp fAdd (.ex (xOne fStrI (xO (xOp fIxA (.br 0) (xO (xC (.int 0))))))) (xO (xC (.str "/"))))) (xO (xOne fStrI (xO (xOp fIxA (.br 0) (xO (xC (.int 1))))))))))
def F_ratio_text : XF := fnD b_ratio_text [false] 0
theorem g_ratio_text (T : Tx C mg P) : GF C P w mg base 1 "ratio_text" [false] F_ratio_text := by
  have nd : (["a"] : List Str).Nodup := by decide
  refine gf_def (body := b_ratio_text) T.d_ratio_text sc_ratio_text rfl rfl rfl fun f cdv A outer s H E hr => ?_
  exact
 (gss_one (gs_ret (ge_if (gt_cmp (op_eqD (hu64 hr)) ok_eq (gl_e (ge_ix (ix_all (hu_of hr.r)) ok_ixAll (gl_v (i := 0) rfl (Or.inl (by kernel_rfl))) (go_e ge_int) (fun _ _ => rfl))) (go_e ge_int) (nomark _)) (ge_ty1 call_str_int ok_strI PyProof.Rows.boot_str (glk (by kernel_rfl)) T.b_str (go_e (ge_ix (ix_all (hu_of hr.r)) ok_ixAll (gl_v (i := 0) rfl (Or.inl (by kernel_rfl))) (go_e ge_int) (fun _ _ => rfl)))) (ge_op op_addA ok_add (gl_e (ge_op op_addA ok_add (gl_e (ge_ty1 call_str_int ok_strI PyProof.Rows.boot_str (glk (by kernel_rfl)) T.b_str (go_e (ge_ix (ix_all (hu_of hr.r)) ok_ixAll (gl_v (i := 0) rfl (Or.inl (by kernel_rfl))) (go_e ge_int) (fun _ _ => rfl))))) (go_e ge_str))) (go_e (ge_ty1 call_str_int ok_strI PyProof.Rows.boot_str (glk (by kernel_rfl)) T.b_str (go_e (ge_ix (ix_all (hu_of hr.r)) ok_ixAll (gl_v (i := 0) rfl (Or.inl (by kernel_rfl))) (go_e ge_int) (fun _ _ => rfl)))))))))
def b_is_ratio : SF :=
 (sSeq (sIf (tOrT (tNotT (tTru (xO (xOne (fIs .tuple) (xB 0))))) (tOrT (xTest (xOp fNe (.ex (xOne fLen (xB 0))) (xO (xC (.int 2))))) (tOrT (tNotT (tTru (xO (xCall0 1 F_is_whole (xCons (xOp fIxA (.br 0) (xO (xC (.int 0)))) xNil))))) (tNotT (tTru (xO (xCall0 1 F_is_whole (xCons (xOp fIxA (.br 0) (xO (xC (.int 1)))) xNil))))))))
 (sRet (xC (.bool false)))
 sNil)
 (sRet (xAnd (xOp fGt (.ex (xOp fIxA (.br 0) (xO (xC (.int 1))))) (xO (xC (.int 0)))) (xOp fEq (.ex (xCall0 2 F_common (xCons (xOp fIxA (.br 0) (xO (xC (.int 0)))) (xCons (xOp fIxA (.br 0) (xO (xC (.int 1)))) xNil)))) (xO (xC (.int 1)))))))
def F_is_ratio : XF := fnD b_is_ratio [false] 0
theorem g_is_ratio (T : Tx C mg P) : GF C P w mg base 2 "is_ratio" [false] F_is_ratio := by
  have nd : (["value"] : List Str).Nodup := by decide
  refine gf_def (body := b_is_ratio) T.d_is_ratio sc_is_ratio rfl rfl rfl fun f cdv A outer s H E hr => ?_
  exact
 (gss_cons (gs_if (gt_w (gw_or (gt_not (gt_tru rfl (go_e (ge_isi .tuple rfl (glk (by kernel_rfl)) T.b_isinstance (glk (by kernel_rfl)) T.b_tuple PyProof.Rows.boot_tuple (go_v (i := 0) rfl (Or.inl (by kernel_rfl))))))) (gw_or (gt_cmp (op_neD (hu64 hr)) ok_ne (gl_e (ge_len rfl (glk (by kernel_rfl)) T.b_len (go_v (i := 0) rfl (Or.inl (by kernel_rfl))))) (go_e ge_int) (nomark _)) (gw_or (gt_not (gt_tru rfl (go_e (ge_call0 (n := 1) ((g_is_whole T).mono (by omega)) rfl (takes_of rfl rfl rfl rfl) hr (glk (by kernel_rfl)) (ga_cons (ge_ix (ix_all (hu_of hr.r)) ok_ixAll (gl_v (i := 0) rfl (Or.inl (by kernel_rfl))) (go_e ge_int) (fun _ _ => rfl)) ga_nil))))) (gw_or1 (gt_not (gt_tru rfl (go_e (ge_call0 (n := 1) ((g_is_whole T).mono (by omega)) rfl (takes_of rfl rfl rfl rfl) hr (glk (by kernel_rfl)) (ga_cons (ge_ix (ix_all (hu_of hr.r)) ok_ixAll (gl_v (i := 0) rfl (Or.inl (by kernel_rfl))) (go_e ge_int) (fun _ _ => rfl)) ga_nil))))))))))
 (gss_one (gs_ret ge_bl))
 gss_nil)
 (gss_one (gs_ret (ge_and (ge_cmp op_gt okB (gl_e (ge_ix (ix_all (hu_of hr.r)) ok_ixAll (gl_v (i := 0) rfl (Or.inl (by kernel_rfl))) (go_e ge_int) (fun _ _ => rfl))) (go_e ge_int) (nomark _)) (ge_one (ge_cmp (op_eqD (hu64 hr)) ok_eq (gl_e (ge_call0 (n := 2) ((g_common T).mono (by omega)) rfl (takes_of rfl rfl rfl rfl) hr (glk (by kernel_rfl)) (ga_cons (ge_ix (ix_all (hu_of hr.r)) ok_ixAll (gl_v (i := 0) rfl (Or.inl (by kernel_rfl))) (go_e ge_int) (fun _ _ => rfl)) (ga_cons (ge_ix (ix_all (hu_of hr.r)) ok_ixAll (gl_v (i := 0) rfl (Or.inl (by kernel_rfl))) (go_e ge_int) (fun _ _ => rfl)) ga_nil)))) (go_e ge_int) (nomark _)))))))
def b_read_ratio : SF :=
 (sSeq (sIf (tNotT (tTru (xO (xOne (fIs .str) (xB 0)))))
 (sRaiseI 1 true (xC (.int 0)))
 sNil)
 (sSeq (sAsg (xM1 fPart (xV 0) (xO (xC (.str "/")))) (gTp 3 (gsCons (gV 1) (gsCons (gV 2) (gsCons (gV 3) gsNil)))))
 (sSeq (sAsg (xTup (xCons (xCall0 1 F_read_whole (xCons (xV 1) xNil)) (xCons (xIf (xTest (xOp fNe (.br 2) (xO (xC (.str ""))))) (xCall0 1 F_read_whole (xCons (xV 3) xNil)) (xC (.int 1))) xNil))) (gV 4))
 (sSeq (sIf (tOrT (tNotT (tTru (xO (xCall0 1 F_is_ratio (xCons (xV 4) xNil))))) (tAndT (xTest (xOp fNe (.br 2) (xO (xC (.str ""))))) (xTest (xOp fEq (.ex (xOp fIxA (.br 4) (xO (xC (.int 1))))) (xO (xC (.int 1)))))))
 (sRaiseI 1 true (xC (.int 0)))
 sNil)
 (sRetV 4)))))
def F_read_ratio : XF := fnD b_read_ratio [false] 4
theorem g_read_ratio (T : Tx C mg P) : GF C P w mg base 3 "read_ratio" [false] F_read_ratio := by
  have nd : (["text", "top", "line", "bottom", "found"] : List Str).Nodup := by decide
  refine gf_def (body := b_read_ratio) T.d_read_ratio sc_read_ratio rfl rfl rfl fun f cdv A outer s H E hr => ?_
  exact
 (gss_cons (gs_if (gt_not (gt_tru rfl (go_e (ge_isi .str rfl (glk (by kernel_rfl)) T.b_isinstance (glk (by kernel_rfl)) T.b_str PyProof.Rows.boot_str (go_v (i := 0) rfl (Or.inl (by kernel_rfl)))))))
 (gss_one (gs_raiseI T.x_NoText T.f_NoText hr.r rfl rfl (takes_of rfl rfl rfl rfl) ge_int (glk (by kernel_rfl))))
 gss_nil)
 (gss_cons (gs_asg (ge_m1 PySem.F.slot_str_partition PySem.F.type_str_partition mt_partition ok_part (ge_v (i := 0) rfl (Or.inl (by kernel_rfl))) (go_e ge_str)) (gg_tup rfl rfl (ggs_cons (gg_v (i := 1) nd rfl (Or.inl (by kernel_rfl)) (by decide)) (ggs_cons (gg_v (i := 2) nd rfl (Or.inl (by kernel_rfl)) (by decide)) (ggs_cons (gg_v (i := 3) nd rfl (Or.inl (by kernel_rfl)) (by decide)) ggs_nil)))))
 (gss_cons (gs_asg (ge_tup (ga_cons (ge_call0 (n := 1) ((g_read_whole T).mono (by omega)) rfl (takes_of rfl rfl rfl rfl) hr (glk (by kernel_rfl)) (ga_cons (ge_v (i := 1) rfl (Or.inl (by kernel_rfl))) ga_nil)) (ga_cons (ge_if (gt_cmp (op_neD (hu64 hr)) ok_ne (gl_v (i := 2) rfl (Or.inl (by kernel_rfl))) (go_e ge_str) (nomark _)) (ge_call0 (n := 1) ((g_read_whole T).mono (by omega)) rfl (takes_of rfl rfl rfl rfl) hr (glk (by kernel_rfl)) (ga_cons (ge_v (i := 3) rfl (Or.inl (by kernel_rfl))) ga_nil)) ge_int) ga_nil))) (gg_v (i := 4) nd rfl (Or.inl (by kernel_rfl)) (by decide)))
 (gss_cons (gs_if (gt_w (gw_or (gt_not (gt_tru rfl (go_e (ge_call0 (n := 1) ((g_is_ratio T).mono (by omega)) rfl (takes_of rfl rfl rfl rfl) hr (glk (by kernel_rfl)) (ga_cons (ge_v (i := 4) rfl (Or.inl (by kernel_rfl))) ga_nil))))) (gw_or1 (gt_w (gw_and (gt_cmp (op_neD (hu64 hr)) ok_ne (gl_v (i := 2) rfl (Or.inl (by kernel_rfl))) (go_e ge_str) (nomark _)) (gw_and1 (gt_cmp (op_eqD (hu64 hr)) ok_eq (gl_e (ge_ix (ix_all (hu_of hr.r)) ok_ixAll (gl_v (i := 4) rfl (Or.inl (by kernel_rfl))) (go_e ge_int) (fun _ _ => rfl))) (go_e ge_int) (nomark _))))))))
 (gss_one (gs_raiseI T.x_NoText T.f_NoText hr.r rfl rfl (takes_of rfl rfl rfl rfl) ge_int (glk (by kernel_rfl))))
 gss_nil)
 (gss_one (gs_retV (i := 4) rfl (Or.inl (by kernel_rfl))))))))
def b__law_reads : SF :=
 (sTry2 (sRet (xCall0 1 F_read_ratio (xCons (xV 0) xNil)))
 [(m_NoText, (hN 1 (nIf 1 true (nTup (nCons (nK (.str "at")) (nCons (nFld 1) nNil))) (nK (.str "other")))))])
def F__law_reads : XF := fnD b__law_reads [false] 1
theorem g__law_reads (T : Tx C mg P) : GF C P w mg base 4 "_law_reads" [false] F__law_reads := by
  have nd : (["text", "refusal"] : List Str).Nodup := by decide
  refine gf_def (body := b__law_reads) T.d__law_reads sc__law_reads rfl rfl rfl fun f cdv A outer s H E hr => ?_
  exact
 (gss_one (gs_try2 rfl rfl rfl nd (takes_of rfl rfl rfl rfl) (fun W pn xe tk hp => (gss_one (gs_ret (ge_call0 (n := 1) ((g_read_ratio T).mono (by omega)) rfl tk hr (glk (by kernel_rfl)) (ga_cons (ge_v (i := 0) rfl (Or.inl (by kernel_rfl))) ga_nil)))))
 (.named ⟨glk (by kernel_rfl), by decide, .inl T.x_NoText.gC⟩ T.m_NoText rfl (by kernel_rfl) (ne_if (nt_w (nw_and (nt_of (nb_is (cl_own T.q2_NoText_Fault (glk (by kernel_rfl))) rfl rfl (Or.inl (by kernel_rfl)) (glk (by kernel_rfl)) T.b_isinstance)) (nw_and (nt_of (nb_is (cl_blt T.q2_NoText_ValueError T.b_ValueError (by kernel_rfl) (glk (by kernel_rfl))) rfl rfl (Or.inl (by kernel_rfl)) (glk (by kernel_rfl)) T.b_isinstance)) (nw_one (nt_not (nt_of (nb_is (cl_own T.q2_NoText_Malformed (glk (by kernel_rfl))) rfl rfl (Or.inl (by kernel_rfl)) (glk (by kernel_rfl)) T.b_isinstance))))))) (ne_tup (na_cons ne_str (na_cons (ne_fld T.x_NoText T.f_NoText rfl rfl (Or.inl (by kernel_rfl))) na_nil))) ne_str) .nil)))
def b_law : SF :=
 (sSeq (sAsg (xLk none (xLc (iR1 (xCons (xC (.int 4)) xNil)) (gV 21) tTrue (xCallD 1 0 F__law_number xNil) [21])) (gTl 4 (gsCons (gV 2) (gsCons (gV 3) (gsCons (gV 4) (gsCons (gV 5) gsNil))))))
 (sSeq (sPar 3 5 (xOrV (xV 3) (xC (.int 7))) (xOrV (xV 5) (xOne fNeg (xO (xC (.int 2))))))
 (sSeq (sPar 6 7 (xCall0 2 F_ratio (xCons (xV 2) (xCons (xV 3) xNil))) (xCall0 2 F_ratio (xCons (xV 4) (xCons (xV 5) xNil))))
 (sSeq (sIf (tOrT (tNotT (tTru (xO (xCall0 2 F__law_same (xCons (xV 6) (xCons (xCall0 2 F__law_low (xCons (xV 2) (xCons (xV 3) xNil))) xNil)))))) (tNotT (tTru (xO (xCall0 2 F__law_same (xCons (xV 7) (xCons (xCall0 2 F__law_low (xCons (xV 4) (xCons (xV 5) xNil))) xNil)))))))
 (sRet (xC (.bool false)))
 sNil)
 (sSeq (sAsg (xLst (xCons (xCall0 2 F__law_low (xCons (xOp fAdd (.ex (xOp fMul (.ex (xOp fIxA (.br 6) (xO (xC (.int 0))))) (xO (xOp fIxA (.br 7) (xO (xC (.int 1))))))) (xO (xOp fMul (.ex (xOp fIxA (.br 7) (xO (xC (.int 0))))) (xO (xOp fIxA (.br 6) (xO (xC (.int 1)))))))) (xCons (xOp fMul (.ex (xOp fIxA (.br 6) (xO (xC (.int 1))))) (xO (xOp fIxA (.br 7) (xO (xC (.int 1)))))) xNil))) (xCons (xCall0 2 F__law_low (xCons (xOp fSub (.ex (xOp fMul (.ex (xOp fIxA (.br 6) (xO (xC (.int 0))))) (xO (xOp fIxA (.br 7) (xO (xC (.int 1))))))) (xO (xOp fMul (.ex (xOp fIxA (.br 7) (xO (xC (.int 0))))) (xO (xOp fIxA (.br 6) (xO (xC (.int 1)))))))) (xCons (xOp fMul (.ex (xOp fIxA (.br 6) (xO (xC (.int 1))))) (xO (xOp fIxA (.br 7) (xO (xC (.int 1)))))) xNil))) (xCons (xCall0 2 F__law_low (xCons (xOp fMul (.ex (xOp fIxA (.br 6) (xO (xC (.int 0))))) (xO (xOp fIxA (.br 7) (xO (xC (.int 0)))))) (xCons (xOp fMul (.ex (xOp fIxA (.br 6) (xO (xC (.int 1))))) (xO (xOp fIxA (.br 7) (xO (xC (.int 1)))))) xNil))) xNil)))) (gV 8))
 (sSeq (sFor (iZp (xCons (xLst (xCons (xCall0 2 F_plus (xCons (xV 6) (xCons (xV 7) xNil))) (xCons (xCall0 2 F_minus (xCons (xV 6) (xCons (xV 7) xNil))) (xCons (xCall0 2 F_times (xCons (xV 6) (xCons (xV 7) xNil))) xNil)))) (xCons (xV 8) xNil))) (gTp 2 (gsCons (gV 9) (gsCons (gV 10) gsNil)))
 (sIf (tNotT (tTru (xO (xCall0 2 F__law_same (xCons (xV 9) (xCons (xV 10) xNil))))))
 (sRet (xC (.bool false)))
 sNil))
 (sSeq (sIf (tAndT (xTest (xOp fNe (.ex (xOp fIxA (.br 7) (xO (xC (.int 0))))) (xO (xC (.int 0))))) (tNotT (tTru (xO (xCall0 2 F__law_same (xCons (xCall0 2 F_over (xCons (xV 6) (xCons (xV 7) xNil))) (xCons (xCall0 2 F__law_low (xCons (xOp fMul (.ex (xOp fIxA (.br 6) (xO (xC (.int 0))))) (xO (xOp fIxA (.br 7) (xO (xC (.int 1)))))) (xCons (xOp fMul (.ex (xOp fIxA (.br 6) (xO (xC (.int 1))))) (xO (xOp fIxA (.br 7) (xO (xC (.int 0)))))) xNil))) xNil)))))))
 (sRet (xC (.bool false)))
 sNil)
 (sSeq (sAsg (xOp fLt (.ex (xOp fMul (.ex (xOp fIxA (.br 6) (xO (xC (.int 0))))) (xO (xOp fIxA (.br 7) (xO (xC (.int 1))))))) (xO (xOp fMul (.ex (xOp fIxA (.br 7) (xO (xC (.int 0))))) (xO (xOp fIxA (.br 6) (xO (xC (.int 1)))))))) (gV 11))
 (sSeq (sIf (tOrT (tNotT (tTru (xO (xCall0 2 F__law_says (xCons (xCall0 2 F_below (xCons (xV 6) (xCons (xV 7) xNil))) (xCons (xV 11) xNil)))))) (tOrT (xTest (xOp fNe (.ex (xCall0 2 F_lesser (xCons (xV 6) (xCons (xV 7) xNil)))) (xO (xIf (tTru (xB 11)) (xV 6) (xV 7))))) (xTest (xOp fNe (.ex (xCall0 2 F_greater (xCons (xV 6) (xCons (xV 7) xNil)))) (xO (xIf (tTru (xB 11)) (xV 7) (xV 6)))))))
 (sRet (xC (.bool false)))
 sNil)
 (sSeq (sIf (tOrT (tNotT (tTru (xO (xCall0 2 F__law_same (xCons (xCall0 1 F_total (xCons (xLst (xCons (xV 6) (xCons (xV 7) (xCons (xV 6) (xCons (xV 7) (xCons (xV 7) xNil)))))) xNil)) (xCons (xCall0 2 F_plus (xCons (xCall0 2 F_plus (xCons (xCall0 2 F_plus (xCons (xV 6) (xCons (xV 7) xNil))) (xCons (xCall0 2 F_plus (xCons (xV 6) (xCons (xV 7) xNil))) xNil))) (xCons (xV 7) xNil))) xNil)))))) (xTest (xOp fNe (.ex (xCall0 1 F_total (xCons (xTup xNil) xNil))) (xO (xTup (xCons (xC (.int 0)) (xCons (xC (.int 1)) xNil)))))))
 (sRet (xC (.bool false)))
 sNil)
 (sSeq (sAsg (xIf (xTest (xOp fEq (.ex (xOp fIxA (.br 6) (xO (xC (.int 1))))) (xO (xC (.int 1))))) (xOne fStrI (xO (xOp fIxA (.br 6) (xO (xC (.int 0)))))) (xOp fAdd (.ex (xOp fAdd (.ex (xOne fStrI (xO (xOp fIxA (.br 6) (xO (xC (.int 0))))))) (xO (xC (.str "/"))))) (xO (xOne fStrI (xO (xOp fIxA (.br 6) (xO (xC (.int 1))))))))) (gV 12))
 (sSeq (sIf (tOrT (xTest (xOp fNe (.ex (xCall0 1 F_ratio_text (xCons (xV 6) xNil))) (xB 12))) (xTest (xOp fNe (.ex (xCall0 1 F__law_reads (xCons (xV 12) xNil))) (xB 6))))
 (sRet (xC (.bool false)))
 sNil)
 (sSeq (sAsg (xCallD 1 1 F__law_take (xCons (xOp fAdd (.ex (xOne fLen (xB 12))) (xO (xC (.int 1)))) xNil)) (gV 13))
 (sSeq (sAsg (xOp fIxA (.ex (xC (.str "0123456789/- +."))) (xO (xCallD 1 1 F__law_take (xCons (xC (.int 15)) xNil)))) (gV 14))
 (sSeq (sFor (iA (xLst (xCons (xOp fAdd (.ex (xOp fAdd (.ex (xSlc (.br 12) pNo (pAt (xB 13)))) (xB 14))) (xO (xSlc (.br 12) (pAt (xB 13)) pNo))) (xCons (xOp fAdd (.ex (xSlc (.br 12) pNo (pAt (xB 13)))) (xO (xSlc (.br 12) (pAt (xO (xOp fAdd (.br 13) (xO (xC (.int 1)))))) pNo))) (xCons (xOp fAdd (.br 12) (xO (xC (.str "/1")))) (xCons (xOp fAdd (.ex (xC (.str "/"))) (xB 12)) (xCons (xOp fAdd (.ex (xC (.str "-"))) (xB 12)) (xCons (xC (.str "")) (xCons (xOp fAdd (.ex (xC (.str " "))) (xB 12)) (xCons (xOp fAdd (.ex (xC (.str "0"))) (xB 12)) (xCons (xOp fAdd (.br 12) (xO (xC (.str "/0")))) xNil))))))))))) (gV 15)
 (sSeq (sAsg (xCall0 1 F__law_due (xCons (xV 15) xNil)) (gV 16))
 (sIf (xTest (xOp fNe (.ex (xCall0 1 F__law_reads (xCons (xV 15) xNil))) (xO (xIf (xTest (xOp fIsN (.br 16) (xO (xC .none)))) (xTup (xCons (xC (.str "at")) (xCons (xC (.int 0)) xNil))) (xV 16)))))
 (sRet (xC (.bool false)))
 sNil)))
 (sSeq (sFor (iA (xLst (xCons (xC .none) (xCons (xC (.int 5)) (xCons (xTup (xCons (xC (.int 1)) (xCons (xC (.int 2)) xNil))) (xCons (xLst (xCons (xC (.str "1")) xNil)) (xCons (xC (.bool true)) xNil))))))) (gV 17)
 (sIf (xTest (xOp fNe (.ex (xCall0 1 F__law_reads (xCons (xV 17) xNil))) (xO (xTup (xCons (xC (.str "at")) (xCons (xC (.int 0)) xNil))))))
 (sRet (xC (.bool false)))
 sNil))
 (sSeq (sAsg (xLst (xCons (xTup (xCons (xV 2) (xCons (xC (.bool true)) (xCons (xC (.bool false)) xNil)))) (xCons (xTup (xCons (xC (.bool true)) (xCons (xC (.bool false)) (xCons (xC (.bool false)) xNil)))) (xCons (xTup (xCons (xC (.str "1")) (xCons (xC (.bool false)) (xCons (xC (.bool false)) xNil)))) (xCons (xTup (xCons (xV 6) (xCons (xC (.bool false)) (xCons (xC (.bool true)) xNil)))) (xCons (xTup (xCons (xTup (xCons (xC (.int 2)) (xCons (xC (.int 4)) xNil))) (xCons (xC (.bool false)) (xCons (xC (.bool false)) xNil)))) (xCons (xTup (xCons (xTup (xCons (xC (.int 1)) (xCons (xOne fNeg (xO (xC (.int 2)))) xNil))) (xCons (xC (.bool false)) (xCons (xC (.bool false)) xNil)))) xNil))))))) (gV 18))
 (sSeq (sAsg (xOp fAdd (.br 18) (xO (xLst (xCons (xTup (xCons (xTup (xCons (xC (.int 0)) (xCons (xC (.int 1)) xNil))) (xCons (xC (.bool false)) (xCons (xC (.bool true)) xNil)))) (xCons (xTup (xCons (xTup (xCons (xC (.int 0)) (xCons (xC (.int 2)) xNil))) (xCons (xC (.bool false)) (xCons (xC (.bool false)) xNil)))) (xCons (xTup (xCons (xLst (xCons (xC (.int 1)) (xCons (xC (.int 2)) xNil))) (xCons (xC (.bool false)) (xCons (xC (.bool false)) xNil)))) (xCons (xTup (xCons (xTup (xCons (xC (.bool true)) (xCons (xC (.int 1)) xNil))) (xCons (xC (.bool false)) (xCons (xC (.bool false)) xNil)))) (xCons (xTup (xCons (xTup (xCons (xC (.int 1)) (xCons (xC (.int 2)) (xCons (xC (.int 3)) xNil)))) (xCons (xC (.bool false)) (xCons (xC (.bool false)) xNil)))) xNil)))))))) (gV 18))
 (sSeq (sFor (iA (xOp fAdd (.br 18) (xO (xLst (xCons (xTup (xCons (xC .none) (xCons (xC (.bool false)) (xCons (xC (.bool false)) xNil)))) xNil))))) (gTp 3 (gsCons (gV 17) (gsCons (gV 19) (gsCons (gV 20) gsNil))))
 (sIf (tOrT (tNotT (tTru (xO (xCall0 2 F__law_says (xCons (xCall0 1 F_is_whole (xCons (xV 17) xNil)) (xCons (xV 19) xNil)))))) (tNotT (tTru (xO (xCall0 2 F__law_says (xCons (xCall0 1 F_is_ratio (xCons (xV 17) xNil)) (xCons (xV 20) xNil)))))))
 (sRet (xC (.bool false)))
 sNil))
 (sSeq (sIf (xTest (xOp fNe (.ex (xCall0 1 F_read_whole (xCons (xOne fStrI (xB 2)) xNil))) (xB 2)))
 (sRet (xC (.bool false)))
 sNil)
 (sRet (xAnd (xCall0 3 F__law_raises (xCons (xC (.int 0)) (xCons (xV 2) (xCons (xC (.int 0)) xNil)))) (xAnd (xCall0 3 F__law_raises (xCons (xC (.int 0)) (xCons (xC (.bool true)) (xCons (xC (.int 2)) xNil)))) (xAnd (xCall0 3 F__law_raises (xCons (xC (.int 0)) (xCons (xC (.str "1")) (xCons (xC (.int 2)) xNil)))) (xAnd (xCall0 3 F__law_raises (xCons (xC (.int 0)) (xCons (xC (.int 1)) (xCons (xC .none) xNil)))) (xCall0 3 F__law_raises (xCons (xC (.int 1)) (xCons (xV 6) (xCons (xTup (xCons (xC (.int 0)) (xCons (xC (.int 1)) xNil))) xNil)))))))))))))))))))))))))))))
theorem r_law (T : Tx C mg P) {f : Addr} {cdv : Value} {A : Around} {outer : List Env} {s : Shared} {H : Hp} {E : XK} (hr : Rm 4 (A.deeper (envOfC "law" (defScope s_law) s.heap.objs.size f cdv))) :
    GSs C (cxOf (L2.CX P w) P w C.K mg base ["script", "draw", "n", "d", "e", "f", "a", "b", "due", "told", "item", "less", "text", "at", "sign", "other", "expected", "value", "values", "due_whole", "due_ratio", "turn"] "law" (defScope s_law) f cdv A outer s H E) (fun cls d _ H => E cls d H) [] (defBody s_law).tail b_law := by
  have nd : (["script", "draw", "n", "d", "e", "f", "a", "b", "due", "told", "item", "less", "text", "at", "sign", "other", "expected", "value", "values", "due_whole", "due_ratio", "turn"] : List Str).Nodup := by decide
  exact (gss_cons (gs_asg (ge_lc (own := [("turn", 21)]) none rfl nd (gi_r1 (glk (by kernel_rfl)) T.b_range (ga_cons ge_int ga_nil)) (blkOk_by (by kernel_rfl)) (fun _ _ _ _ _ => (gg_v (i := 21) nd rfl (Or.inl (by kernel_rfl)) (oth_not (by decide)))) (fun _ _ _ _ _ => gts_nil) (fun _ _ _ _ _ => (ge_callD (i := 1) (n := 0) ((g__law_number T).mono (by omega)) rfl takes0 hr (glk (by kernel_rfl)) rfl (Or.inr (Or.inl (by kernel_rfl))) ga_nil))) (gg_lst rfl rfl (ggs_cons (gg_v (i := 2) nd rfl (Or.inl (by kernel_rfl)) (by decide)) (ggs_cons (gg_v (i := 3) nd rfl (Or.inl (by kernel_rfl)) (by decide)) (ggs_cons (gg_v (i := 4) nd rfl (Or.inl (by kernel_rfl)) (by decide)) (ggs_cons (gg_v (i := 5) nd rfl (Or.inl (by kernel_rfl)) (by decide)) ggs_nil))))))
 (gss_cons (gs_par (i := 3) (j := 5) rfl nd rfl rfl (by decide) (by kernel_rfl) (by kernel_rfl) (ge_orV rfl (ge_v (i := 3) rfl (Or.inl (by kernel_rfl))) (ge_one ge_int)) (ge_orV rfl (ge_v (i := 5) rfl (Or.inl (by kernel_rfl))) (ge_one (ge_un un_neg ok_neg (go_e ge_int)))) (by decide) (by decide) (by kernel_rfl))
 (gss_cons (gs_par (i := 6) (j := 7) rfl nd rfl rfl (by decide) (by kernel_rfl) (by kernel_rfl) (ge_call0 (n := 2) ((g_ratio T).mono (by omega)) rfl (takes_of rfl rfl rfl rfl) hr (glk (by kernel_rfl)) (ga_cons (ge_v (i := 2) rfl (Or.inl (by kernel_rfl))) (ga_cons (ge_v (i := 3) rfl (Or.inl (by kernel_rfl))) ga_nil))) (ge_call0 (n := 2) ((g_ratio T).mono (by omega)) rfl (takes_of rfl rfl rfl rfl) hr (glk (by kernel_rfl)) (ga_cons (ge_v (i := 4) rfl (Or.inl (by kernel_rfl))) (ga_cons (ge_v (i := 5) rfl (Or.inl (by kernel_rfl))) ga_nil))) (by decide) (by decide) (by kernel_rfl))
 (gss_cons (gs_if (gt_w (gw_or (gt_not (gt_tru rfl (go_e (ge_call0 (n := 2) ((g__law_same T).mono (by omega)) rfl (takes_of rfl rfl rfl rfl) hr (glk (by kernel_rfl)) (ga_cons (ge_v (i := 6) rfl (Or.inl (by kernel_rfl))) (ga_cons (ge_call0 (n := 2) ((g__law_low T).mono (by omega)) rfl (takes_of rfl rfl rfl rfl) hr (glk (by kernel_rfl)) (ga_cons (ge_v (i := 2) rfl (Or.inl (by kernel_rfl))) (ga_cons (ge_v (i := 3) rfl (Or.inl (by kernel_rfl))) ga_nil))) ga_nil)))))) (gw_or1 (gt_not (gt_tru rfl (go_e (ge_call0 (n := 2) ((g__law_same T).mono (by omega)) rfl (takes_of rfl rfl rfl rfl) hr (glk (by kernel_rfl)) (ga_cons (ge_v (i := 7) rfl (Or.inl (by kernel_rfl))) (ga_cons (ge_call0 (n := 2) ((g__law_low T).mono (by omega)) rfl (takes_of rfl rfl rfl rfl) hr (glk (by kernel_rfl)) (ga_cons (ge_v (i := 4) rfl (Or.inl (by kernel_rfl))) (ga_cons (ge_v (i := 5) rfl (Or.inl (by kernel_rfl))) ga_nil))) ga_nil)))))))))
 (gss_one (gs_ret ge_bl))
 gss_nil)
 (gss_cons (gs_asg (ge_lst (ga_cons (ge_call0 (n := 2) ((g__law_low T).mono (by omega)) rfl (takes_of rfl rfl rfl rfl) hr (glk (by kernel_rfl)) (ga_cons (ge_op op_addA ok_add (gl_e (ge_op op_mulA ok_mul (gl_e (ge_ix (ix_all (hu_of hr.r)) ok_ixAll (gl_v (i := 6) rfl (Or.inl (by kernel_rfl))) (go_e ge_int) (fun _ _ => rfl))) (go_e (ge_ix (ix_all (hu_of hr.r)) ok_ixAll (gl_v (i := 7) rfl (Or.inl (by kernel_rfl))) (go_e ge_int) (fun _ _ => rfl))))) (go_e (ge_op op_mulA ok_mul (gl_e (ge_ix (ix_all (hu_of hr.r)) ok_ixAll (gl_v (i := 7) rfl (Or.inl (by kernel_rfl))) (go_e ge_int) (fun _ _ => rfl))) (go_e (ge_ix (ix_all (hu_of hr.r)) ok_ixAll (gl_v (i := 6) rfl (Or.inl (by kernel_rfl))) (go_e ge_int) (fun _ _ => rfl)))))) (ga_cons (ge_op op_mulA ok_mul (gl_e (ge_ix (ix_all (hu_of hr.r)) ok_ixAll (gl_v (i := 6) rfl (Or.inl (by kernel_rfl))) (go_e ge_int) (fun _ _ => rfl))) (go_e (ge_ix (ix_all (hu_of hr.r)) ok_ixAll (gl_v (i := 7) rfl (Or.inl (by kernel_rfl))) (go_e ge_int) (fun _ _ => rfl)))) ga_nil))) (ga_cons (ge_call0 (n := 2) ((g__law_low T).mono (by omega)) rfl (takes_of rfl rfl rfl rfl) hr (glk (by kernel_rfl)) (ga_cons (ge_op op_sub ok_sub (gl_e (ge_op op_mulA ok_mul (gl_e (ge_ix (ix_all (hu_of hr.r)) ok_ixAll (gl_v (i := 6) rfl (Or.inl (by kernel_rfl))) (go_e ge_int) (fun _ _ => rfl))) (go_e (ge_ix (ix_all (hu_of hr.r)) ok_ixAll (gl_v (i := 7) rfl (Or.inl (by kernel_rfl))) (go_e ge_int) (fun _ _ => rfl))))) (go_e (ge_op op_mulA ok_mul (gl_e (ge_ix (ix_all (hu_of hr.r)) ok_ixAll (gl_v (i := 7) rfl (Or.inl (by kernel_rfl))) (go_e ge_int) (fun _ _ => rfl))) (go_e (ge_ix (ix_all (hu_of hr.r)) ok_ixAll (gl_v (i := 6) rfl (Or.inl (by kernel_rfl))) (go_e ge_int) (fun _ _ => rfl)))))) (ga_cons (ge_op op_mulA ok_mul (gl_e (ge_ix (ix_all (hu_of hr.r)) ok_ixAll (gl_v (i := 6) rfl (Or.inl (by kernel_rfl))) (go_e ge_int) (fun _ _ => rfl))) (go_e (ge_ix (ix_all (hu_of hr.r)) ok_ixAll (gl_v (i := 7) rfl (Or.inl (by kernel_rfl))) (go_e ge_int) (fun _ _ => rfl)))) ga_nil))) (ga_cons (ge_call0 (n := 2) ((g__law_low T).mono (by omega)) rfl (takes_of rfl rfl rfl rfl) hr (glk (by kernel_rfl)) (ga_cons (ge_op op_mulA ok_mul (gl_e (ge_ix (ix_all (hu_of hr.r)) ok_ixAll (gl_v (i := 6) rfl (Or.inl (by kernel_rfl))) (go_e ge_int) (fun _ _ => rfl))) (go_e (ge_ix (ix_all (hu_of hr.r)) ok_ixAll (gl_v (i := 7) rfl (Or.inl (by kernel_rfl))) (go_e ge_int) (fun _ _ => rfl)))) (ga_cons (ge_op op_mulA ok_mul (gl_e (ge_ix (ix_all (hu_of hr.r)) ok_ixAll (gl_v (i := 6) rfl (Or.inl (by kernel_rfl))) (go_e ge_int) (fun _ _ => rfl))) (go_e (ge_ix (ix_all (hu_of hr.r)) ok_ixAll (gl_v (i := 7) rfl (Or.inl (by kernel_rfl))) (go_e ge_int) (fun _ _ => rfl)))) ga_nil))) ga_nil)))) (gg_v (i := 8) nd rfl (Or.inl (by kernel_rfl)) (by decide)))
 (gss_cons (gs_for (passes_of rfl) rfl (gi_zp rfl (glk (by kernel_rfl)) T.b_zip (ga_cons (ge_lst (ga_cons (ge_call0 (n := 2) ((g_plus T).mono (by omega)) rfl (takes_of rfl rfl rfl rfl) hr (glk (by kernel_rfl)) (ga_cons (ge_v (i := 6) rfl (Or.inl (by kernel_rfl))) (ga_cons (ge_v (i := 7) rfl (Or.inl (by kernel_rfl))) ga_nil))) (ga_cons (ge_call0 (n := 2) ((g_minus T).mono (by omega)) rfl (takes_of rfl rfl rfl rfl) hr (glk (by kernel_rfl)) (ga_cons (ge_v (i := 6) rfl (Or.inl (by kernel_rfl))) (ga_cons (ge_v (i := 7) rfl (Or.inl (by kernel_rfl))) ga_nil))) (ga_cons (ge_call0 (n := 2) ((g_times T).mono (by omega)) rfl (takes_of rfl rfl rfl rfl) hr (glk (by kernel_rfl)) (ga_cons (ge_v (i := 6) rfl (Or.inl (by kernel_rfl))) (ga_cons (ge_v (i := 7) rfl (Or.inl (by kernel_rfl))) ga_nil))) ga_nil)))) (ga_cons (ge_v (i := 8) rfl (Or.inl (by kernel_rfl))) ga_nil))) (gg_tup rfl rfl (ggs_cons (gg_v (i := 9) nd rfl (Or.inl (by kernel_rfl)) (by decide)) (ggs_cons (gg_v (i := 10) nd rfl (Or.inl (by kernel_rfl)) (by decide)) ggs_nil)))
 (gss_one (gs_if (gt_not (gt_tru rfl (go_e (ge_call0 (n := 2) ((g__law_same T).mono (by omega)) rfl (takes_of rfl rfl rfl rfl) hr (glk (by kernel_rfl)) (ga_cons (ge_v (i := 9) rfl (Or.inl (by kernel_rfl))) (ga_cons (ge_v (i := 10) rfl (Or.inl (by kernel_rfl))) ga_nil))))))
 (gss_one (gs_ret ge_bl))
 gss_nil)))
 (gss_cons (gs_if (gt_w (gw_and (gt_cmp (op_neD (hu64 hr)) ok_ne (gl_e (ge_ix (ix_all (hu_of hr.r)) ok_ixAll (gl_v (i := 7) rfl (Or.inl (by kernel_rfl))) (go_e ge_int) (fun _ _ => rfl))) (go_e ge_int) (nomark _)) (gw_and1 (gt_not (gt_tru rfl (go_e (ge_call0 (n := 2) ((g__law_same T).mono (by omega)) rfl (takes_of rfl rfl rfl rfl) hr (glk (by kernel_rfl)) (ga_cons (ge_call0 (n := 2) ((g_over T).mono (by omega)) rfl (takes_of rfl rfl rfl rfl) hr (glk (by kernel_rfl)) (ga_cons (ge_v (i := 6) rfl (Or.inl (by kernel_rfl))) (ga_cons (ge_v (i := 7) rfl (Or.inl (by kernel_rfl))) ga_nil))) (ga_cons (ge_call0 (n := 2) ((g__law_low T).mono (by omega)) rfl (takes_of rfl rfl rfl rfl) hr (glk (by kernel_rfl)) (ga_cons (ge_op op_mulA ok_mul (gl_e (ge_ix (ix_all (hu_of hr.r)) ok_ixAll (gl_v (i := 6) rfl (Or.inl (by kernel_rfl))) (go_e ge_int) (fun _ _ => rfl))) (go_e (ge_ix (ix_all (hu_of hr.r)) ok_ixAll (gl_v (i := 7) rfl (Or.inl (by kernel_rfl))) (go_e ge_int) (fun _ _ => rfl)))) (ga_cons (ge_op op_mulA ok_mul (gl_e (ge_ix (ix_all (hu_of hr.r)) ok_ixAll (gl_v (i := 6) rfl (Or.inl (by kernel_rfl))) (go_e ge_int) (fun _ _ => rfl))) (go_e (ge_ix (ix_all (hu_of hr.r)) ok_ixAll (gl_v (i := 7) rfl (Or.inl (by kernel_rfl))) (go_e ge_int) (fun _ _ => rfl)))) ga_nil))) ga_nil)))))))))
 (gss_one (gs_ret ge_bl))
 gss_nil)
 (gss_cons (gs_asg (ge_cmp op_lt okB (gl_e (ge_op op_mulA ok_mul (gl_e (ge_ix (ix_all (hu_of hr.r)) ok_ixAll (gl_v (i := 6) rfl (Or.inl (by kernel_rfl))) (go_e ge_int) (fun _ _ => rfl))) (go_e (ge_ix (ix_all (hu_of hr.r)) ok_ixAll (gl_v (i := 7) rfl (Or.inl (by kernel_rfl))) (go_e ge_int) (fun _ _ => rfl))))) (go_e (ge_op op_mulA ok_mul (gl_e (ge_ix (ix_all (hu_of hr.r)) ok_ixAll (gl_v (i := 7) rfl (Or.inl (by kernel_rfl))) (go_e ge_int) (fun _ _ => rfl))) (go_e (ge_ix (ix_all (hu_of hr.r)) ok_ixAll (gl_v (i := 6) rfl (Or.inl (by kernel_rfl))) (go_e ge_int) (fun _ _ => rfl))))) (nomark _)) (gg_v (i := 11) nd rfl (Or.inl (by kernel_rfl)) (by decide)))
 (gss_cons (gs_if (gt_w (gw_or (gt_not (gt_tru rfl (go_e (ge_call0 (n := 2) ((g__law_says T).mono (by omega)) rfl (takes_of rfl rfl rfl rfl) hr (glk (by kernel_rfl)) (ga_cons (ge_call0 (n := 2) ((g_below T).mono (by omega)) rfl (takes_of rfl rfl rfl rfl) hr (glk (by kernel_rfl)) (ga_cons (ge_v (i := 6) rfl (Or.inl (by kernel_rfl))) (ga_cons (ge_v (i := 7) rfl (Or.inl (by kernel_rfl))) ga_nil))) (ga_cons (ge_v (i := 11) rfl (Or.inl (by kernel_rfl))) ga_nil)))))) (gw_or (gt_cmp (op_neD (hu64 hr)) ok_ne (gl_e (ge_call0 (n := 2) ((g_lesser T).mono (by omega)) rfl (takes_of rfl rfl rfl rfl) hr (glk (by kernel_rfl)) (ga_cons (ge_v (i := 6) rfl (Or.inl (by kernel_rfl))) (ga_cons (ge_v (i := 7) rfl (Or.inl (by kernel_rfl))) ga_nil)))) (go_e (ge_if (gt_tru rfl (go_v (i := 11) rfl (Or.inl (by kernel_rfl)))) (ge_v (i := 6) rfl (Or.inl (by kernel_rfl))) (ge_v (i := 7) rfl (Or.inl (by kernel_rfl))))) (nomark _)) (gw_or1 (gt_cmp (op_neD (hu64 hr)) ok_ne (gl_e (ge_call0 (n := 2) ((g_greater T).mono (by omega)) rfl (takes_of rfl rfl rfl rfl) hr (glk (by kernel_rfl)) (ga_cons (ge_v (i := 6) rfl (Or.inl (by kernel_rfl))) (ga_cons (ge_v (i := 7) rfl (Or.inl (by kernel_rfl))) ga_nil)))) (go_e (ge_if (gt_tru rfl (go_v (i := 11) rfl (Or.inl (by kernel_rfl)))) (ge_v (i := 7) rfl (Or.inl (by kernel_rfl))) (ge_v (i := 6) rfl (Or.inl (by kernel_rfl))))) (nomark _))))))
 (gss_one (gs_ret ge_bl))
 gss_nil)
 (gss_cons (gs_if (gt_w (gw_or (gt_not (gt_tru rfl (go_e (ge_call0 (n := 2) ((g__law_same T).mono (by omega)) rfl (takes_of rfl rfl rfl rfl) hr (glk (by kernel_rfl)) (ga_cons (ge_call0 (n := 1) ((g_total T).mono (by omega)) rfl (takes_of rfl rfl rfl rfl) hr (glk (by kernel_rfl)) (ga_cons (ge_lst (ga_cons (ge_v (i := 6) rfl (Or.inl (by kernel_rfl))) (ga_cons (ge_v (i := 7) rfl (Or.inl (by kernel_rfl))) (ga_cons (ge_v (i := 6) rfl (Or.inl (by kernel_rfl))) (ga_cons (ge_v (i := 7) rfl (Or.inl (by kernel_rfl))) (ga_cons (ge_v (i := 7) rfl (Or.inl (by kernel_rfl))) ga_nil)))))) ga_nil)) (ga_cons (ge_call0 (n := 2) ((g_plus T).mono (by omega)) rfl (takes_of rfl rfl rfl rfl) hr (glk (by kernel_rfl)) (ga_cons (ge_call0 (n := 2) ((g_plus T).mono (by omega)) rfl (takes_of rfl rfl rfl rfl) hr (glk (by kernel_rfl)) (ga_cons (ge_call0 (n := 2) ((g_plus T).mono (by omega)) rfl (takes_of rfl rfl rfl rfl) hr (glk (by kernel_rfl)) (ga_cons (ge_v (i := 6) rfl (Or.inl (by kernel_rfl))) (ga_cons (ge_v (i := 7) rfl (Or.inl (by kernel_rfl))) ga_nil))) (ga_cons (ge_call0 (n := 2) ((g_plus T).mono (by omega)) rfl (takes_of rfl rfl rfl rfl) hr (glk (by kernel_rfl)) (ga_cons (ge_v (i := 6) rfl (Or.inl (by kernel_rfl))) (ga_cons (ge_v (i := 7) rfl (Or.inl (by kernel_rfl))) ga_nil))) ga_nil))) (ga_cons (ge_v (i := 7) rfl (Or.inl (by kernel_rfl))) ga_nil))) ga_nil)))))) (gw_or1 (gt_cmp (op_neD (hu64 hr)) ok_ne (gl_e (ge_call0 (n := 1) ((g_total T).mono (by omega)) rfl (takes_of rfl rfl rfl rfl) hr (glk (by kernel_rfl)) (ga_cons (ge_tup ga_nil) ga_nil))) (go_e (ge_tup (ga_cons ge_int (ga_cons ge_int ga_nil)))) (nomark _)))))
 (gss_one (gs_ret ge_bl))
 gss_nil)
 (gss_cons (gs_asg (ge_if (gt_cmp (op_eqD (hu64 hr)) ok_eq (gl_e (ge_ix (ix_all (hu_of hr.r)) ok_ixAll (gl_v (i := 6) rfl (Or.inl (by kernel_rfl))) (go_e ge_int) (fun _ _ => rfl))) (go_e ge_int) (nomark _)) (ge_ty1 call_str_int ok_strI PyProof.Rows.boot_str (glk (by kernel_rfl)) T.b_str (go_e (ge_ix (ix_all (hu_of hr.r)) ok_ixAll (gl_v (i := 6) rfl (Or.inl (by kernel_rfl))) (go_e ge_int) (fun _ _ => rfl)))) (ge_op op_addA ok_add (gl_e (ge_op op_addA ok_add (gl_e (ge_ty1 call_str_int ok_strI PyProof.Rows.boot_str (glk (by kernel_rfl)) T.b_str (go_e (ge_ix (ix_all (hu_of hr.r)) ok_ixAll (gl_v (i := 6) rfl (Or.inl (by kernel_rfl))) (go_e ge_int) (fun _ _ => rfl))))) (go_e ge_str))) (go_e (ge_ty1 call_str_int ok_strI PyProof.Rows.boot_str (glk (by kernel_rfl)) T.b_str (go_e (ge_ix (ix_all (hu_of hr.r)) ok_ixAll (gl_v (i := 6) rfl (Or.inl (by kernel_rfl))) (go_e ge_int) (fun _ _ => rfl))))))) (gg_v (i := 12) nd rfl (Or.inl (by kernel_rfl)) (by decide)))
 (gss_cons (gs_if (gt_w (gw_or (gt_cmp (op_neD (hu64 hr)) ok_ne (gl_e (ge_call0 (n := 1) ((g_ratio_text T).mono (by omega)) rfl (takes_of rfl rfl rfl rfl) hr (glk (by kernel_rfl)) (ga_cons (ge_v (i := 6) rfl (Or.inl (by kernel_rfl))) ga_nil))) (go_v (i := 12) rfl (Or.inl (by kernel_rfl))) (nomark _)) (gw_or1 (gt_cmp (op_neD (hu64 hr)) ok_ne (gl_e (ge_call0 (n := 1) ((g__law_reads T).mono (by omega)) rfl (takes_of rfl rfl rfl rfl) hr (glk (by kernel_rfl)) (ga_cons (ge_v (i := 12) rfl (Or.inl (by kernel_rfl))) ga_nil))) (go_v (i := 6) rfl (Or.inl (by kernel_rfl))) (nomark _)))))
 (gss_one (gs_ret ge_bl))
 gss_nil)
 (gss_cons (gs_asg (ge_callD (i := 1) (n := 1) ((g__law_take T).mono (by omega)) rfl (takes_of rfl rfl rfl rfl) hr (glk (by kernel_rfl)) rfl (Or.inr (Or.inl (by kernel_rfl))) (ga_cons (ge_op op_addA ok_add (gl_e (ge_len rfl (glk (by kernel_rfl)) T.b_len (go_v (i := 12) rfl (Or.inl (by kernel_rfl))))) (go_e ge_int)) ga_nil)) (gg_v (i := 13) nd rfl (Or.inl (by kernel_rfl)) (by decide)))
 (gss_cons (gs_asg (ge_ix (ix_all (hu_of hr.r)) ok_ixAll (gl_e ge_str) (go_e (ge_callD (i := 1) (n := 1) ((g__law_take T).mono (by omega)) rfl (takes_of rfl rfl rfl rfl) hr (glk (by kernel_rfl)) rfl (Or.inr (Or.inl (by kernel_rfl))) (ga_cons ge_int ga_nil))) (fun _ _ => rfl)) (gg_v (i := 14) nd rfl (Or.inl (by kernel_rfl)) (by decide)))
 (gss_cons (gs_for (passes_of rfl) rfl (gi_a rfl (ge_lst (ga_cons (ge_op op_addA ok_add (gl_e (ge_op op_addA ok_add (gl_e (ge_slice rfl (gl_v (i := 12) rfl (Or.inl (by kernel_rfl))) gp_no (gp_at (go_v (i := 13) rfl (Or.inl (by kernel_rfl)))))) (go_v (i := 14) rfl (Or.inl (by kernel_rfl))))) (go_e (ge_slice rfl (gl_v (i := 12) rfl (Or.inl (by kernel_rfl))) (gp_at (go_v (i := 13) rfl (Or.inl (by kernel_rfl)))) gp_no))) (ga_cons (ge_op op_addA ok_add (gl_e (ge_slice rfl (gl_v (i := 12) rfl (Or.inl (by kernel_rfl))) gp_no (gp_at (go_v (i := 13) rfl (Or.inl (by kernel_rfl)))))) (go_e (ge_slice rfl (gl_v (i := 12) rfl (Or.inl (by kernel_rfl))) (gp_at (go_e (ge_op op_addA ok_add (gl_v (i := 13) rfl (Or.inl (by kernel_rfl))) (go_e ge_int)))) gp_no))) (ga_cons (ge_op op_addA ok_add (gl_v (i := 12) rfl (Or.inl (by kernel_rfl))) (go_e ge_str)) (ga_cons (ge_op op_addA ok_add (gl_e ge_str) (go_v (i := 12) rfl (Or.inl (by kernel_rfl)))) (ga_cons (ge_op op_addA ok_add (gl_e ge_str) (go_v (i := 12) rfl (Or.inl (by kernel_rfl)))) (ga_cons ge_str (ga_cons (ge_op op_addA ok_add (gl_e ge_str) (go_v (i := 12) rfl (Or.inl (by kernel_rfl)))) (ga_cons (ge_op op_addA ok_add (gl_e ge_str) (go_v (i := 12) rfl (Or.inl (by kernel_rfl)))) (ga_cons (ge_op op_addA ok_add (gl_v (i := 12) rfl (Or.inl (by kernel_rfl))) (go_e ge_str)) ga_nil))))))))))) (gg_v (i := 15) nd rfl (Or.inl (by kernel_rfl)) (by decide))
 (gss_cons (gs_asg (ge_call0 (n := 1) ((g__law_due T).mono (by omega)) rfl (takes_of rfl rfl rfl rfl) hr (glk (by kernel_rfl)) (ga_cons (ge_v (i := 15) rfl (Or.inl (by kernel_rfl))) ga_nil)) (gg_v (i := 16) nd rfl (Or.inl (by kernel_rfl)) (by decide)))
 (gss_one (gs_if (gt_cmp (op_neD (hu64 hr)) ok_ne (gl_e (ge_call0 (n := 1) ((g__law_reads T).mono (by omega)) rfl (takes_of rfl rfl rfl rfl) hr (glk (by kernel_rfl)) (ga_cons (ge_v (i := 15) rfl (Or.inl (by kernel_rfl))) ga_nil))) (go_e (ge_if (gt_cmp op_isN ok_isN (gl_v (i := 16) rfl (Or.inl (by kernel_rfl))) (go_e ge_non) (nomark _)) (ge_tup (ga_cons ge_str (ga_cons ge_int ga_nil))) (ge_v (i := 16) rfl (Or.inl (by kernel_rfl))))) (nomark _))
 (gss_one (gs_ret ge_bl))
 gss_nil))))
 (gss_cons (gs_for (passes_of rfl) rfl (gi_a rfl (ge_lst (ga_cons ge_non (ga_cons ge_int (ga_cons (ge_tup (ga_cons ge_int (ga_cons ge_int ga_nil))) (ga_cons (ge_lst (ga_cons ge_str ga_nil)) (ga_cons ge_bl ga_nil))))))) (gg_v (i := 17) nd rfl (Or.inl (by kernel_rfl)) (by decide))
 (gss_one (gs_if (gt_cmp (op_neD (hu64 hr)) ok_ne (gl_e (ge_call0 (n := 1) ((g__law_reads T).mono (by omega)) rfl (takes_of rfl rfl rfl rfl) hr (glk (by kernel_rfl)) (ga_cons (ge_v (i := 17) rfl (Or.inl (by kernel_rfl))) ga_nil))) (go_e (ge_tup (ga_cons ge_str (ga_cons ge_int ga_nil)))) (nomark _))
 (gss_one (gs_ret ge_bl))
 gss_nil)))
 (gss_cons (gs_asg (ge_lst (ga_cons (ge_tup (ga_cons (ge_v (i := 2) rfl (Or.inl (by kernel_rfl))) (ga_cons ge_bl (ga_cons ge_bl ga_nil)))) (ga_cons (ge_tup (ga_cons ge_bl (ga_cons ge_bl (ga_cons ge_bl ga_nil)))) (ga_cons (ge_tup (ga_cons ge_str (ga_cons ge_bl (ga_cons ge_bl ga_nil)))) (ga_cons (ge_tup (ga_cons (ge_v (i := 6) rfl (Or.inl (by kernel_rfl))) (ga_cons ge_bl (ga_cons ge_bl ga_nil)))) (ga_cons (ge_tup (ga_cons (ge_tup (ga_cons ge_int (ga_cons ge_int ga_nil))) (ga_cons ge_bl (ga_cons ge_bl ga_nil)))) (ga_cons (ge_tup (ga_cons (ge_tup (ga_cons ge_int (ga_cons (ge_un un_neg ok_neg (go_e ge_int)) ga_nil))) (ga_cons ge_bl (ga_cons ge_bl ga_nil)))) ga_nil))))))) (gg_v (i := 18) nd rfl (Or.inl (by kernel_rfl)) (by decide)))
 (gss_cons (gs_asg (ge_op op_addA ok_add (gl_v (i := 18) rfl (Or.inl (by kernel_rfl))) (go_e (ge_lst (ga_cons (ge_tup (ga_cons (ge_tup (ga_cons ge_int (ga_cons ge_int ga_nil))) (ga_cons ge_bl (ga_cons ge_bl ga_nil)))) (ga_cons (ge_tup (ga_cons (ge_tup (ga_cons ge_int (ga_cons ge_int ga_nil))) (ga_cons ge_bl (ga_cons ge_bl ga_nil)))) (ga_cons (ge_tup (ga_cons (ge_lst (ga_cons ge_int (ga_cons ge_int ga_nil))) (ga_cons ge_bl (ga_cons ge_bl ga_nil)))) (ga_cons (ge_tup (ga_cons (ge_tup (ga_cons ge_bl (ga_cons ge_int ga_nil))) (ga_cons ge_bl (ga_cons ge_bl ga_nil)))) (ga_cons (ge_tup (ga_cons (ge_tup (ga_cons ge_int (ga_cons ge_int (ga_cons ge_int ga_nil)))) (ga_cons ge_bl (ga_cons ge_bl ga_nil)))) ga_nil)))))))) (gg_v (i := 18) nd rfl (Or.inl (by kernel_rfl)) (by decide)))
 (gss_cons (gs_for (passes_of rfl) rfl (gi_a rfl (ge_op op_addA ok_add (gl_v (i := 18) rfl (Or.inl (by kernel_rfl))) (go_e (ge_lst (ga_cons (ge_tup (ga_cons ge_non (ga_cons ge_bl (ga_cons ge_bl ga_nil)))) ga_nil))))) (gg_tup rfl rfl (ggs_cons (gg_v (i := 17) nd rfl (Or.inl (by kernel_rfl)) (by decide)) (ggs_cons (gg_v (i := 19) nd rfl (Or.inl (by kernel_rfl)) (by decide)) (ggs_cons (gg_v (i := 20) nd rfl (Or.inl (by kernel_rfl)) (by decide)) ggs_nil))))
 (gss_one (gs_if (gt_w (gw_or (gt_not (gt_tru rfl (go_e (ge_call0 (n := 2) ((g__law_says T).mono (by omega)) rfl (takes_of rfl rfl rfl rfl) hr (glk (by kernel_rfl)) (ga_cons (ge_call0 (n := 1) ((g_is_whole T).mono (by omega)) rfl (takes_of rfl rfl rfl rfl) hr (glk (by kernel_rfl)) (ga_cons (ge_v (i := 17) rfl (Or.inl (by kernel_rfl))) ga_nil)) (ga_cons (ge_v (i := 19) rfl (Or.inl (by kernel_rfl))) ga_nil)))))) (gw_or1 (gt_not (gt_tru rfl (go_e (ge_call0 (n := 2) ((g__law_says T).mono (by omega)) rfl (takes_of rfl rfl rfl rfl) hr (glk (by kernel_rfl)) (ga_cons (ge_call0 (n := 1) ((g_is_ratio T).mono (by omega)) rfl (takes_of rfl rfl rfl rfl) hr (glk (by kernel_rfl)) (ga_cons (ge_v (i := 17) rfl (Or.inl (by kernel_rfl))) ga_nil)) (ga_cons (ge_v (i := 20) rfl (Or.inl (by kernel_rfl))) ga_nil)))))))))
 (gss_one (gs_ret ge_bl))
 gss_nil)))
 (gss_cons (gs_if (gt_cmp (op_neD (hu64 hr)) ok_ne (gl_e (ge_call0 (n := 1) ((g_read_whole T).mono (by omega)) rfl (takes_of rfl rfl rfl rfl) hr (glk (by kernel_rfl)) (ga_cons (ge_ty1 call_str_int ok_strI PyProof.Rows.boot_str (glk (by kernel_rfl)) T.b_str (go_v (i := 2) rfl (Or.inl (by kernel_rfl)))) ga_nil))) (go_v (i := 2) rfl (Or.inl (by kernel_rfl))) (nomark _))
 (gss_one (gs_ret ge_bl))
 gss_nil)
 (gss_one (gs_ret (ge_and (ge_call0 (n := 3) ((g__law_raises T).mono (by omega)) rfl (takes_of rfl rfl rfl rfl) hr (glk (by kernel_rfl)) (ga_cons ge_int (ga_cons (ge_v (i := 2) rfl (Or.inl (by kernel_rfl))) (ga_cons ge_int ga_nil)))) (ge_and (ge_call0 (n := 3) ((g__law_raises T).mono (by omega)) rfl (takes_of rfl rfl rfl rfl) hr (glk (by kernel_rfl)) (ga_cons ge_int (ga_cons ge_bl (ga_cons ge_int ga_nil)))) (ge_and (ge_call0 (n := 3) ((g__law_raises T).mono (by omega)) rfl (takes_of rfl rfl rfl rfl) hr (glk (by kernel_rfl)) (ga_cons ge_int (ga_cons ge_str (ga_cons ge_int ga_nil)))) (ge_and (ge_call0 (n := 3) ((g__law_raises T).mono (by omega)) rfl (takes_of rfl rfl rfl rfl) hr (glk (by kernel_rfl)) (ga_cons ge_int (ga_cons ge_int (ga_cons ge_non ga_nil)))) (ge_one (ge_call0 (n := 3) ((g__law_raises T).mono (by omega)) rfl (takes_of rfl rfl rfl rfl) hr (glk (by kernel_rfl)) (ga_cons ge_int (ga_cons (ge_v (i := 6) rfl (Or.inl (by kernel_rfl))) (ga_cons (ge_tup (ga_cons ge_int (ga_cons ge_int ga_nil))) ga_nil)))))))))))))))))))))))))))))))
local macro_rules
  | `(tactic| simp_arith only [$xs,*]) => `(tactic| simp -failIfUnchanged only [↓rn_ok, ↓rn_ex, ↓rn_st, ↓rn_xV, ↓rn_xB, ↓rn_xC, ↓rn_xO, ↓rn_xNil, ↓rn_xCons, ↓rn_xTup, ↓rn_xLst, ↓rn_xOp_ex, ↓rn_xOp_br, ↓rn_xTest', ↓rn_tTru, ↓rn_tAndT, ↓rn_tOrT, ↓rn_tNotT, ↓rn_tTrue, ↓rn_xAnd, ↓rn_xOr, ↓rn_xNot, ↓rn_xIf, ↓rn_xOne, ↓rn_sNil, ↓rn_q_asg, ↓rn_q_for, ↓rn_q_forN, ↓rn_q_forL, ↓rn_q_while, ↓rn_q_expr, ↓rn_q_aug, ↓rn_q_par, ↓rn_q_setI, ↓rn_q_dpt, ↓rn_q_try, ↓rn_q_nil, ↓rn_q_seq, ↓rn_q_ret, ↓rn_sExpr, ↓rn_sRet, ↓rn_sRetV, ↓rn_sIf, ↓rn_sAsg, ↓rn_sRaise, ↓rn_sTry, ↓rn_sPar, ↓rn_sAug, ↓rn_xLk_none, ↓rn_xLk_some, ↓rn_xLc, ↓rn_sFor, ↓rn_sForN, ↓rn_sForL, ↓rn_iN, ↓rn_iA, ↓rn_iR1, ↓rn_xCall0, ↓rn_xCallN, ↓rn_fnD, ↓rn_xApp, ↓rn_xPop, ↓rn_pAt', ↓rn_pNo, ↓rn_xSlc_ex, ↓rn_xSlc_br, ↓rn_xChn, ↓rn_xLc2, ↓rn_q_rng, ↓rn_q_par3, ↓rn_q_augI, ↓rn_sRng, ↓rn_sPar3, ↓rn_sAugI, ↓rn_iRv, ↓rn_iR2, ↓rn_sSetI, ↓rn_xPopA, ↓rn_xLr1, ↓rn_sTry2, ↓rn_q_try2, ↓rn_sRaiseI, ↓rn_xSel, ↓rn_iZp, ↓oK_gV, ↓oK_lamp, ↓oK_gTp', ↓oK_gsCons, ↓oK_gsNil, vK_sh, vK_ow, bK_sh, bK_ow, oK_some, iK_tt, iK_ff, iK_not, sK_nx, sK_ct, sK_rt, aK_true, rvK_ow, rvK_sh, rlK_nx, rlK_rt, fK_rt, fK_nx, tK_nx, tK_ct, tK_rt, slOf_ff, slOf_tt, dB_bool, dI_int, itemsD_list, itemsD_tuple, ownL_owK, owK_some, scal1_int, List.getElem?_cons_zero, List.getElem?_cons_succ, List.set_cons_zero, List.set_cons_succ, List.length_cons, List.length_nil, List.length_map, List.length_range, List.map_cons, List.map_nil, List.cons_append, List.nil_append, List.replicate_succ, List.replicate_zero, backP, wipeE, okW_c, okW_n, nw_un, nw_sh, List.all_cons, List.all_nil, relock, lockE, Option.map_some, Option.isSome_some, Bool.and_true, Bool.true_and, Bool.false_and, Bool.and_false, Bool.false_or, Bool.or_false, Bool.true_or, Bool.or_true, Bool.not_true, Bool.not_false, Bool.not_not, and_self, and_true, true_and, Nat.zero_add, Nat.add_zero, Nat.lt_add_one, Nat.le_refl, Nat.reduceAdd, Nat.reduceLT, Nat.reduceLeDiff, Nat.reduceSub, reduceIte, fAdd_i, fAddS_i, fSub_i, fLt_i, fLe_i, fGt_i, fGe_i, fEq_i, fNe_i, fInt_i, fInt_b, fNeg_i, fLen_list, fLen_tuple, fShr_n, fMod_2, fAnd_n, fOr_n, fMax2_i, fMin2_i, ixT0, ixT1, ixT2, ix0, ix1, ix2, ix3, fIs, sb, isT_int_none, isT_int_bool, isT_int_int, isT_int_str, isT_int_list, isT_int_tuple, isT_int_dict, isT_bool_none, isT_bool_bool, isT_bool_int, isT_bool_str, isT_bool_list, isT_bool_tuple, isT_bool_dict, isT_str_none, isT_str_bool, isT_str_int, isT_str_str, isT_str_list, isT_str_tuple, isT_str_dict, isT_list_none, isT_list_bool, isT_list_int, isT_list_str, isT_list_list, isT_list_tuple, isT_list_dict, isT_tuple_none, isT_tuple_bool, isT_tuple_int, isT_tuple_str, isT_tuple_list, isT_tuple_tuple, isT_tuple_dict, isT_dict_none, isT_dict_bool, isT_dict_int, isT_dict_str, isT_dict_list, isT_dict_tuple, isT_dict_dict, cast0, cast1, Bool.false_eq_true, if_false, if_true, castL, Int.reduceEq, Int.reduceNe, Int.reduceLT, Int.reduceLE, Int.reduceAdd, Int.reduceSub, Int.reduceNeg, decide_true, decide_false, lcR_ap, most_lit, most_lit2, truD_bool, emK_sl, emK_st, emK_ow, emK_rowD, ix_lamp0, ix_lamp1, fLen_LN, fSum_LN, itemsD_LN, fInA_LN, fInB_LN, fEq_lampD, fNe_lampD, fEq_LN, fNe_LN, fXor_n, rzA_0, rzA_s, zpA_row, fNe_LN0, fEq_LN0, fList_T, fList_L, fTuple_L, fTuple_T, fEq_bool, fNe_bool, fEq_TN, fNe_TN, itemsD_TN, fTuple_LN, fList_TN, fLen_TN, isT_tuple_TN, dec_le0, dec_ne_self, dec_eq_self, filt_no, filt_all, fEq_nil, fNe_nil, fSumA_list, fSumA_LN, fSumA_row, fSumA_TN, $xs,*])
local macro_rules
  | `(tactic| simp_arith! only [$xs,*]) => `(tactic| simp -failIfUnchanged only [↓rn_ok, ↓rn_ex, ↓rn_st, ↓rn_xV, ↓rn_xB, ↓rn_xC, ↓rn_xO, ↓rn_xNil, ↓rn_xCons, ↓rn_xTup, ↓rn_xLst, ↓rn_xOp_ex, ↓rn_xOp_br, ↓rn_xTest', ↓rn_tTru, ↓rn_tAndT, ↓rn_tOrT, ↓rn_tNotT, ↓rn_tTrue, ↓rn_xAnd, ↓rn_xOr, ↓rn_xNot, ↓rn_xIf, ↓rn_xOne, ↓rn_sNil, ↓rn_sExpr, ↓rn_sRet, ↓rn_sRetV, ↓rn_sIf, ↓rn_sAsg, ↓rn_sRaise, ↓rn_sTry, ↓rn_sPar, ↓rn_sAug, ↓rn_xLk_none, ↓rn_xLk_some, ↓rn_xLc, ↓rn_sFor, ↓rn_sForN, ↓rn_sForL, ↓rn_iN, ↓rn_iA, ↓rn_iR1, ↓rn_xCall0, ↓rn_xCallN, ↓rn_fnD, ↓rn_xApp, ↓rn_xPop, ↓rn_pAt', ↓rn_pNo, ↓rn_xSlc_ex, ↓rn_xSlc_br, ↓rn_xChn, ↓rn_xLc2, ↓rn_sRng, ↓rn_sPar3, ↓rn_sAugI, ↓rn_iRv, ↓rn_iR2, ↓rn_sSetI, ↓rn_xPopA, ↓rn_xLr1, ↓rn_sTry2, ↓rn_sRaiseI, ↓rn_xSel, ↓rn_iZp, ↓oK_gV, ↓oK_lamp, ↓oK_gTp', ↓oK_gsCons, ↓oK_gsNil, vK_sh, vK_ow, bK_sh, bK_ow, oK_some, iK_tt, iK_ff, iK_not, sK_nx, sK_ct, sK_rt, aK_true, rvK_ow, rvK_sh, rlK_nx, rlK_rt, fK_rt, fK_nx, tK_nx, tK_ct, tK_rt, slOf_ff, slOf_tt, dB_bool, dI_int, itemsD_list, itemsD_tuple, ownL_owK, owK_some, scal1_int, List.getElem?_cons_zero, List.getElem?_cons_succ, List.set_cons_zero, List.set_cons_succ, List.length_cons, List.length_nil, List.length_map, List.length_range, List.map_cons, List.map_nil, List.cons_append, List.nil_append, List.replicate_succ, List.replicate_zero, backP, wipeE, okW_c, okW_n, nw_un, nw_sh, List.all_cons, List.all_nil, relock, lockE, Option.map_some, Option.isSome_some, Bool.and_true, Bool.true_and, Bool.false_and, Bool.and_false, Bool.false_or, Bool.or_false, Bool.true_or, Bool.or_true, Bool.not_true, Bool.not_false, Bool.not_not, and_self, and_true, true_and, Nat.zero_add, Nat.add_zero, Nat.lt_add_one, Nat.le_refl, Nat.reduceAdd, Nat.reduceLT, Nat.reduceLeDiff, Nat.reduceSub, reduceIte, fAdd_i, fAddS_i, fSub_i, fLt_i, fLe_i, fGt_i, fGe_i, fEq_i, fNe_i, fInt_i, fInt_b, fNeg_i, fLen_list, fLen_tuple, fShr_n, fMod_2, fAnd_n, fOr_n, fMax2_i, fMin2_i, ixT0, ixT1, ixT2, ix0, ix1, ix2, ix3, fIs, sb, isT_int_none, isT_int_bool, isT_int_int, isT_int_str, isT_int_list, isT_int_tuple, isT_int_dict, isT_bool_none, isT_bool_bool, isT_bool_int, isT_bool_str, isT_bool_list, isT_bool_tuple, isT_bool_dict, isT_str_none, isT_str_bool, isT_str_int, isT_str_str, isT_str_list, isT_str_tuple, isT_str_dict, isT_list_none, isT_list_bool, isT_list_int, isT_list_str, isT_list_list, isT_list_tuple, isT_list_dict, isT_tuple_none, isT_tuple_bool, isT_tuple_int, isT_tuple_str, isT_tuple_list, isT_tuple_tuple, isT_tuple_dict, isT_dict_none, isT_dict_bool, isT_dict_int, isT_dict_str, isT_dict_list, isT_dict_tuple, isT_dict_dict, cast0, cast1, Bool.false_eq_true, if_false, if_true, castL, Int.reduceEq, Int.reduceNe, Int.reduceLT, Int.reduceLE, Int.reduceAdd, Int.reduceSub, Int.reduceNeg, decide_true, decide_false, lcR_ap, most_lit, most_lit2, truD_bool, emK_sl, emK_st, emK_ow, emK_rowD, ix_lamp0, ix_lamp1, fLen_LN, fSum_LN, itemsD_LN, fInA_LN, fInB_LN, fEq_lampD, fNe_lampD, fEq_LN, fNe_LN, fXor_n, rzA_0, rzA_s, zpA_row, fNe_LN0, fEq_LN0, fList_T, fList_L, fTuple_L, fTuple_T, fEq_bool, fNe_bool, fEq_TN, fNe_TN, itemsD_TN, fTuple_LN, fList_TN, fLen_TN, isT_tuple_TN, dec_le0, dec_ne_self, dec_eq_self, filt_no, filt_all, fEq_nil, fNe_nil, fSumA_list, fSumA_LN, fSumA_row, fSumA_TN, $xs,*])

theorem take_ok {cs : List Int} {a c s m : Int} (h : Dr cs a c s) (hm : 0 < m) (hm2 : m < 2 ^ 200) : ∃ (f a' c' s' : Int), Dr cs a' c' s' ∧ 0 ≤ f ∧ f < m ∧ F__law_take [.ow true (drD cs a c s), .sh (.int m)] = .ok ⟨.int f, false⟩ [.ow true (drD cs a' c' s'), .sh (.int m)] := by
  have hlog : m.natAbs.log2 < 9000 := Nat.lt_of_lt_of_le (log2_le (k := 200) (by omega) (by decide)) (by decide)
  have fin : ∀ c a s, 0 ≤ c → Dr cs a c s → 0 ≤ c % m ∧ c % m < m ∧ Dr cs a (c / m) s := fun c a s hc h => ⟨Int.emod_nonneg _ (by omega), Int.emod_lt_of_pos _ hm, ⟨h.pos, h.len, h.at_, Int.ediv_nonneg hc (by omega), h.s0, h.s1⟩⟩
  by_cases h0 : c = 0
  · subst h0
    have hseed : cMul s 48271 = true := by
      have h1 : s.natAbs.log2 < 41 := log2_le (k := 41) (by have := h.s0; have := h.s1; omega) (by decide)
      have h2 : (48271 : Int).natAbs.log2 < 41 := by decide
      simp only [cMul, decide_eq_true_eq]
      omega
    have hs : ∀ a, Dr cs a 0 s → Dr cs a ((s * 48271 + 11) % 2147483647) ((s * 48271 + 11) % 2147483647) := fun a h => ⟨h.pos, h.len, h.at_, Int.emod_nonneg _ (by decide), Int.emod_nonneg _ (by decide), Int.emod_lt_of_pos _ (by decide)⟩
    have ha : Dr cs (a + 1) 0 s := ⟨h.pos, h.len, by have := h.at_; omega, by decide, h.s0, h.s1⟩
    by_cases hl : a + 1 < (cs.length : Int)
    · have hj : (a + 1).toNat < cs.length := by have := h.at_; omega
      have e1 : a + 1 = (((a + 1).toNat : Nat) : Int) := by have := h.at_; omega
      have hv : (cs.map PyData.int)[(a + 1).toNat]? = some (.int cs[(a + 1).toNat]) := by rw [List.getElem?_map, List.getElem?_eq_getElem hj]; rfl
      have hix : fIxA (.list (cs.map PyData.int)) (.int (a + 1)) = some ⟨.int cs[(a + 1).toNat], false⟩ := by
        have z := ix_at hv
        rwa [← e1] at z
      have hp := h.pos _ (List.getElem_mem hj)
      generalize hvv : cs[(a + 1).toNat] = v at hix hp
      by_cases hz : v = 0
      · subst hz
        obtain ⟨q1, q2, q3⟩ := fin _ _ _ (hs _ ha).cur (hs _ ha)
        refine ⟨_, _, _, _, q3, q1, q2, ?_⟩
        unfold F__law_take fnD b__law_take drD
        simp [sSeq, sIf, xTest, xOp, xTwo, xB, xO, xC, ix0, ix1, ix2, ix3, fEq_int, sNil, sAsg, gV, slOf, xOne, fIntS, fInt, fMod, fII, cMod, hm, sSetI, ownL, fDivX, fDiv, cDiv, hlog, sRetV, backP, fAdd, fLt, fIB, fLen, hl, hix, ixN, fMul, hseed]
      · have hv' : Dr cs (a + 1) v s := ⟨h.pos, h.len, ha.at_, hp, h.s0, h.s1⟩
        obtain ⟨q1, q2, q3⟩ := fin _ _ _ hp hv'
        refine ⟨_, _, _, _, q3, q1, q2, ?_⟩
        unfold F__law_take fnD b__law_take drD
        simp [sSeq, sIf, xTest, xOp, xTwo, xB, xO, xC, ix0, ix1, ix2, ix3, fEq_int, sNil, sAsg, gV, slOf, xOne, fIntS, fInt, fMod, fII, cMod, hm, sSetI, ownL, fDivX, fDiv, cDiv, hlog, sRetV, backP, fAdd, fLt, fIB, fLen, hl, hix, ixN, fMul, hz]
    · obtain ⟨q1, q2, q3⟩ := fin _ _ _ (hs _ ha).cur (hs _ ha)
      refine ⟨_, _, _, _, q3, q1, q2, ?_⟩
      unfold F__law_take fnD b__law_take drD
      simp [sSeq, sIf, xTest, xOp, xTwo, xB, xO, xC, ix0, ix1, ix2, ix3, fEq_int, sNil, sAsg, gV, slOf, xOne, fIntS, fInt, fMod, fII, cMod, hm, sSetI, ownL, fDivX, fDiv, cDiv, hlog, sRetV, backP, fAdd, fLt, fIB, fLen, hl, ixN, fMul, hseed]
  · obtain ⟨q1, q2, q3⟩ := fin _ _ _ h.cur h
    refine ⟨_, _, _, _, q3, q1, q2, ?_⟩
    unfold F__law_take fnD b__law_take drD
    simp [sSeq, sIf, xTest, xOp, xTwo, xB, xO, xC, ix0, ix1, ix2, ix3, fEq_int, h0, sNil, sAsg, gV, slOf, xOne, fIntS, fInt, fMod, fII, cMod, hm, sSetI, ownL, fDivX, fDiv, cDiv, hlog, sRetV, backP, ixN]

theorem take_n {m : Nat} (h0 : 0 < m) (h1 : m < 2 ^ 200) : DSp F__law_take [.int (m : Nat)] (fun r => ∃ f : Nat, f < m ∧ r = ⟨.int (f : Nat), false⟩) := by
  rintro _ ⟨cs, a, c, s, hD, rfl⟩
  obtain ⟨f, a', c', s', hD', f0, f1, hf⟩ := take_ok hD (m := (m : Int)) (by omega) (by exact_mod_cast h1)
  refine ⟨_, _, _, hf, ⟨_, _, _, _, hD', rfl⟩, f.toNat, by omega, ?_⟩
  rw [Int.toNat_of_nonneg f0]

def isW : D → Bool | .int _ => true | _ => false
def isLampB : D → Bool
  | .tuple [.int n, .int t] => decide (1 ≤ n) && (decide (n ≤ 5) && (decide (0 ≤ t) && decide (t < ((2 ^ 2 ^ n.toNat : Nat) : Int))))
  | _ => false
theorem isLampB_D {n t : Nat} (h1 : 1 ≤ n) (h2 : n ≤ 5) (h3 : t < 2 ^ 2 ^ n) : isLampB (lampD n t) = true := by
  show (decide ((1 : Int) ≤ n) && (decide ((n : Int) ≤ 5) && (decide ((0 : Int) ≤ t) && decide ((t : Int) < ((2 ^ 2 ^ (n : Int).toNat : Nat) : Int))))) = true
  rw [Int.toNat_natCast, decide_eq_true (by omega), decide_eq_true (by omega), decide_eq_true (by omega), decide_eq_true (Int.ofNat_lt.mpr h3)]
  rfl
theorem isLampB_inv {d : D} (h : isLampB d = true) : ∃ n t : Nat, 1 ≤ n ∧ n ≤ 5 ∧ t < 2 ^ 2 ^ n ∧ d = lampD n t := by
  unfold isLampB at h
  split at h
  · rename_i n t
    simp only [Bool.and_eq_true, decide_eq_true_eq] at h
    obtain ⟨h1, h2, h3, h4⟩ := h
    refine ⟨n.toNat, t.toNat, by omega, by omega, by omega, ?_⟩
    unfold lampD
    rw [Int.toNat_of_nonneg (by omega), Int.toNat_of_nonneg h3]
  · cases h
theorem isLampB_two {a b : D} : isLampB (.tuple [a, b]) = (isW a && isW b && isLampB (.tuple [a, b])) := by
  cases a <;> cases b <;> simp [isLampB, isW]
theorem isLampB_no {d : D} (h : ∀ a b, d ≠ .tuple [a, b]) : isLampB d = false := by
  unfold isLampB
  split
  · exact absurd rfl (h _ _)
  · rfl
theorem is_whole_d {d : D} : F_is_whole [.sh d] = .ok ⟨.bool (isW d), false⟩ [.sh d] := by
  refine ok_of_run ?_
  cases d <;> simp_arith only [F_is_whole, b_is_whole, isW]
theorem not_two {d : D} (h : ∀ a b, d ≠ .tuple [a, b]) : isT .tuple d = false ∨ ∃ ds, d = .tuple ds ∧ ds.length ≠ 2 := by
  cases d with
  | tuple ds =>
    refine .inr ⟨ds, rfl, fun z => ?_⟩
    match ds, z with
    | [a, b], _ => exact h a b rfl
  | _ => exact .inl rfl

def qD (q : Rat) : D := .tuple [.int q.num, .int (q.den : Nat)]
def sz (k a : Nat) : Prop := a < 2 ^ k
theorem sz_mul {j k a b : Nat} (h : sz j a) (h2 : sz k b) : sz (j + k) (a * b) := by
  unfold sz at *
  rw [Nat.pow_add]
  exact Nat.mul_lt_mul_of_lt_of_lt h h2
theorem sz_up {j k a : Nat} (h : sz j a) (hj : j ≤ k) : sz k a := Nat.lt_of_lt_of_le h (Nat.pow_le_pow_right (by decide) hj)
theorem sz_le {k a b : Nat} (h : sz k a) (hb : b ≤ a) : sz k b := Nat.lt_of_le_of_lt hb h
theorem sz_add {k a b : Nat} (h : sz k a) (h2 : sz k b) : sz (k + 1) (a + b) := by
  unfold sz at *
  rw [Nat.pow_succ]
  omega
theorem sz_lit {k a : Nat} (h : a < 2 ^ k) : sz k a := h
theorem sz_log {k a : Nat} (h : sz k a) (hk : 0 < k) : a.log2 < k := by
  by_cases h0 : a = 0
  · rw [h0]; simpa using hk
  · exact (Nat.log2_lt h0).mpr h
def sq (k : Nat) (q : Rat) : Prop := sz k q.num.natAbs ∧ sz k q.den
theorem sq_up {j k : Nat} {q : Rat} (h : sq j q) (hj : j ≤ k) : sq k q := ⟨sz_up h.1 hj, sz_up h.2 hj⟩
theorem sq_norm {k b : Nat} {i : Int} (hb : b ≠ 0) (hi : sz k i.natAbs) (h : sz k b) : sq k (Rat.normalize i b hb) := by
  rw [Rat.normalize_eq]
  refine ⟨?_, ?_⟩
  · refine sz_le hi ?_
    show (i / (Nat.gcd i.natAbs b : Nat)).natAbs ≤ i.natAbs
    have hd : ((Nat.gcd i.natAbs b : Nat) : Int) ∣ i := by
      exact Int.ofNat_dvd_left.mpr (Nat.gcd_dvd_left _ _)
    rw [Int.natAbs_ediv_of_dvd hd]
    exact Nat.div_le_self _ _
  · exact sz_le h (Nat.div_le_self _ _)
theorem sq_mul {j k : Nat} {p q : Rat} (h : sq j p) (h2 : sq k q) : sq (j + k) (p * q) := by
  rw [Rat.mul_def]
  refine sq_norm _ ?_ (sz_mul h.2 h2.2)
  rw [Int.natAbs_mul]
  exact sz_mul h.1 h2.1
theorem natAbs_cast {a : Nat} : ((a : Nat) : Int).natAbs = a := rfl
theorem sz_num {j k : Nat} {p q : Rat} (h : sq j p) (h2 : sq k q) : sz (j + k + 1) (p.num * q.den + q.num * p.den).natAbs := by
  refine sz_le (sz_add (a := (p.num * q.den).natAbs) (b := (q.num * p.den).natAbs) ?_ ?_) (Int.natAbs_add_le _ _)
  · rw [Int.natAbs_mul]; exact sz_mul h.1 h2.2
  · rw [Int.natAbs_mul, Nat.add_comm j k]; exact sz_mul h2.1 h.2
theorem sz_num2 {j k : Nat} {p q : Rat} (h : sq j p) (h2 : sq k q) : sz (j + k + 1) (p.num * q.den - q.num * p.den).natAbs := by
  refine sz_le (sz_add (a := (p.num * q.den).natAbs) (b := (q.num * p.den).natAbs) ?_ ?_) (Int.natAbs_sub_le _ _)
  · rw [Int.natAbs_mul]; exact sz_mul h.1 h2.2
  · rw [Int.natAbs_mul, Nat.add_comm j k]; exact sz_mul h2.1 h.2
theorem sq_add {j k : Nat} {p q : Rat} (h : sq j p) (h2 : sq k q) : sq (j + k + 1) (p + q) := by
  rw [Rat.add_def]
  exact sq_norm _ (sz_num h h2) (sz_up (sz_mul h.2 h2.2) (by omega))
theorem sq_sub {j k : Nat} {p q : Rat} (h : sq j p) (h2 : sq k q) : sq (j + k + 1) (p - q) := by
  rw [Rat.sub_def]
  exact sq_norm _ (sz_num2 h h2) (sz_up (sz_mul h.2 h2.2) (by omega))
theorem fAbs_i {i : Int} : fAbs (.int i) = some ⟨.int (i.natAbs : Nat), false⟩ := by
  show si (if (i : Int) < 0 then _ else _) = _
  split
  · show some (⟨.int (-i), false⟩ : Rs) = _
    congr 3; omega
  · show some (⟨.int i, false⟩ : Rs) = _
    congr 3; omega
theorem fMul_q {i j : Int} {k l : Nat} (hi : sz k i.natAbs) (hj : sz l j.natAbs) (hk : k ≤ 9000) (hl : l ≤ 9000) : fMul (.int i) (.int j) = some ⟨.int (i * j), false⟩ := by
  have h1 := sz_log (sz_up hi (Nat.le_add_right k 1)) (by omega)
  have h2 := sz_log (sz_up hj (Nat.le_add_right l 1)) (by omega)
  show (if cMul i j = true then si (i * j) else none) = _
  rw [if_pos (by unfold cMul; exact decide_eq_true (by omega))]
theorem fDiv_q {i : Int} {g k : Nat} (h : sz k g) (hk : k ≤ 4000) (hg : 0 < g) : fDivX (.int i) (.int (g : Nat)) = some ⟨.int (i / (g : Nat)), false⟩ := by
  have h1 := sz_log (sz_up h (Nat.le_add_right k 1)) (by omega)
  have e : fDiv (.int i) (.int (g : Nat)) = some ⟨.int (i / (g : Nat)), false⟩ := by
    show (if cDiv i (g : Int) = true then si (i / (g : Int)) else none) = _
    rw [if_pos (by
      unfold cDiv
      rw [natAbs_cast, decide_eq_true (show (0 : Int) < (g : Nat) by omega), decide_eq_true (show g.log2 < 9000 by omega)]
      rfl)]
  unfold fDivX
  rw [e]
theorem fDiv_m {i : Int} {g k : Nat} (h : sz k g) (hk : k ≤ 4000) (hg : 0 < g) : fDivX (.int i) (.int (-((g : Nat) : Int))) = some ⟨.int ((-i) / (g : Nat)), false⟩ := by
  have h1 := sz_log (sz_up h (Nat.le_add_right k 1)) (by omega)
  have e : fDiv (.int i) (.int (-((g : Nat) : Int))) = none := by
    show (if cDiv i (-(g : Int)) = true then si _ else none) = _
    rw [if_neg (by
      unfold cDiv
      rw [decide_eq_false (show ¬ (0 : Int) < -((g : Nat) : Int) by omega)]
      simp)]
  have e2 : fDivM (.int i) (.int (-((g : Nat) : Int))) = some ⟨.int ((-i) / (g : Nat)), false⟩ := by
    show (if cDivM i (-(g : Int)) = true then si ((-i) / (-(-(g : Int)))) else none) = _
    rw [if_pos (by
      unfold cDivM
      rw [Int.natAbs_neg, natAbs_cast, decide_eq_true (show (-((g : Nat) : Int)) < 0 by omega), decide_eq_true (show g.log2 < 9000 by omega)]
      rfl), Int.neg_neg]
  unfold fDivX
  rw [e, e2]
theorem fIntS_i {i : Int} : fIntS (.int i) = some ⟨.int i, false⟩ := rfl
theorem big_ok {b : Nat} (h : b ≤ 100000) : b < big := Nat.lt_of_le_of_lt h (by decide)
def gI (g k : Nat) (e : En) : Prop := ∃ a b : Nat, Nat.gcd a b = g ∧ ((b ≤ a ∧ a * b < 2 ^ k) ∨ (a < b ∧ 1 ≤ k ∧ a * b < 2 ^ (k - 1))) ∧ e = [.sh (.int (a : Nat)), .sh (.int (b : Nat))]
theorem gI_0 {a b k : Nat} (ha : sz k a) (hb : sz k b) : gI (Nat.gcd a b) (2 * k + 1) [.sh (.int (a : Nat)), .sh (.int (b : Nat))] := by
  have h := sz_mul ha hb
  unfold sz at h
  rw [show k + k = 2 * k by omega] at h
  refine ⟨a, b, rfl, ?_, rfl⟩
  by_cases hab : b ≤ a
  · exact .inl ⟨hab, Nat.lt_of_lt_of_le h (Nat.pow_le_pow_right (by decide) (by omega))⟩
  · exact .inr ⟨by omega, by omega, h⟩
theorem gI_s {a b k : Nat} (hb : 0 < b) (h : (b ≤ a ∧ a * b < 2 ^ k) ∨ (a < b ∧ 1 ≤ k ∧ a * b < 2 ^ (k - 1))) : 0 < k ∧ gI (Nat.gcd a b) (k - 1) [.sh (.int (b : Nat)), .sh (.int ((a % b : Nat) : Int))] := by
  have hm := Nat.mod_lt a hb
  have hg : Nat.gcd b (a % b) = Nat.gcd a b := by rw [Nat.gcd_comm a b, Nat.gcd_rec b a, Nat.gcd_comm]
  rcases h with ⟨h1, h2⟩ | ⟨h1, h2, h3⟩
  · have hk : 0 < k := by
      rcases Nat.eq_zero_or_pos k with z | z
      · subst z
        have : 1 * 1 ≤ a * b := Nat.mul_le_mul (by omega) hb
        simp at h2
        omega
      · exact z
    have h4 : 2 * (a % b) ≤ a := by
      have h5 := Nat.div_add_mod a b
      have h6 : 1 ≤ a / b := Nat.div_pos h1 hb
      have h7 : b * 1 ≤ b * (a / b) := Nat.mul_le_mul_left _ h6
      omega
    refine ⟨hk, b, a % b, hg, .inl ⟨by omega, ?_⟩, rfl⟩
    have h8 : 2 * (b * (a % b)) ≤ a * b := by
      have := Nat.mul_le_mul_left b h4
      rw [Nat.mul_comm a b]
      calc 2 * (b * (a % b)) = b * (2 * (a % b)) := by rw [Nat.mul_left_comm]
        _ ≤ b * a := this
    have h9 : 2 ^ k = 2 * 2 ^ (k - 1) := by
      conv => lhs; rw [show k = (k - 1) + 1 by omega, Nat.pow_succ, Nat.mul_comm]
    omega
  · refine ⟨h2, b, a % b, hg, .inl ⟨by omega, ?_⟩, rfl⟩
    rw [Nat.mod_eq_of_lt h1, Nat.mul_comm]
    exact h3
theorem common_z {i j : Int} {k : Nat} (hi : sz k i.natAbs) (hj : sz k j.natAbs) (hk : k ≤ 4000) : F_common [.sh (.int i), .sh (.int j)] = .ok ⟨.int (Nat.gcd i.natAbs j.natAbs : Nat), false⟩ [.sh (.int i), .sh (.int j)] := by
  refine ok_of_run ?_
  simp_arith only [F_common, b_common, fAbs_i]
  refine while_run (gI (Nat.gcd i.natAbs j.natAbs)) (2 * k + 1) (big_ok (by omega)) (gI_0 hi hj) fun k e ⟨a', b', h1, h2, he⟩ => ?_
  subst he
  simp_arith only [dec_ne0]
  refine iK_dec (fun hb => ?_) fun hb => ?_
  · obtain ⟨h3, h4⟩ := gI_s (Nat.pos_of_ne_zero hb) h2
    simp_arith only [fMod_n (Nat.pos_of_ne_zero hb)]
    rw [h1] at h4
    exact ⟨k - 1, by omega, h4⟩
  · simp_arith only [and_self]
    have hb0 : b' = 0 := by omega
    subst hb0
    rw [Nat.gcd_zero_right] at h1
    rw [h1]
theorem law_gcd_z {i j : Int} {k : Nat} (hi : sz k i.natAbs) (hj : sz k j.natAbs) (hk : k ≤ 4000) : F__law_gcd [.sh (.int i), .sh (.int j)] = .ok ⟨.int (Nat.gcd i.natAbs j.natAbs : Nat), false⟩ [.sh (.int i), .sh (.int j)] := by
  refine ok_of_run ?_
  simp_arith only [F__law_gcd, b__law_gcd, fAbs_i]
  refine while_run (gI (Nat.gcd i.natAbs j.natAbs)) (2 * k + 1) (big_ok (by omega)) (gI_0 hi hj) fun k e ⟨a', b', h1, h2, he⟩ => ?_
  subst he
  simp_arith only [dec_lt0]
  refine iK_dec (fun hb => ?_) fun hb => ?_
  · obtain ⟨h3, h4⟩ := gI_s hb h2
    simp_arith only [fIntS_i, fMod_n hb]
    rw [h1] at h4
    exact ⟨k - 1, by omega, h4⟩
  · simp_arith only [and_self]
    have hb0 : b' = 0 := by omega
    subst hb0
    rw [Nat.gcd_zero_right] at h1
    rw [h1]
theorem qD_norm {i : Int} {b : Nat} (hb : b ≠ 0) : qD (Rat.normalize i b hb) = .tuple [.int (i / (Nat.gcd i.natAbs b : Nat)), .int ((b : Int) / (Nat.gcd i.natAbs b : Nat))] := by
  unfold qD
  rw [Rat.normalize_eq]
  rfl
/-- the fraction of two integers -/
def rq (i j : Int) : Rat := if h : j.natAbs ≠ 0 then Rat.normalize (if j < 0 then -i else i) j.natAbs h else 0
theorem qD_rq {i j : Int} (h : j ≠ 0) : qD (rq i j) = if j < 0 then .tuple [.int ((-i) / (Nat.gcd i.natAbs j.natAbs : Nat)), .int ((-j) / (Nat.gcd i.natAbs j.natAbs : Nat))] else .tuple [.int (i / (Nat.gcd i.natAbs j.natAbs : Nat)), .int (j / (Nat.gcd i.natAbs j.natAbs : Nat))] := by
  have h0 : j.natAbs ≠ 0 := by omega
  unfold rq
  rw [dif_pos h0, qD_norm]
  split
  · rename_i hj
    rw [Int.natAbs_neg, show ((j.natAbs : Nat) : Int) = -j by omega]
  · rename_i hj
    rw [show ((j.natAbs : Nat) : Int) = j by omega]
theorem low_gen (F : XF) (hF : F = F_lowest ∨ F = F__law_low) {i j : Int} {k : Nat} (h : j ≠ 0) (hi : sz k i.natAbs) (hj : sz k j.natAbs) (hk : k ≤ 4000) : F [.sh (.int i), .sh (.int j)] = .ok ⟨qD (rq i j), false⟩ [.sh (.int i), .sh (.int j)] := by
  have g1 : 0 < Nat.gcd i.natAbs j.natAbs := Nat.gcd_pos_of_pos_right _ (by omega)
  have g2 : sz k (Nat.gcd i.natAbs j.natAbs) := sz_le hj (Nat.gcd_le_right _ (by omega))
  rw [qD_rq h]
  refine ok_of_run ?_
  rcases hF with rfl | rfl
  · simp_arith only [↓rn_sSeq, F_lowest, b_lowest, common_z hi hj hk]
    by_cases hn : j < 0
    · rw [show decide (j < 0) = true from decide_eq_true hn, if_pos hn]
      simp_arith only [fDiv_m g2 hk g1]
    · rw [show decide (j < 0) = false from decide_eq_false hn, if_neg hn]
      simp_arith only [fDiv_q g2 hk g1]
  · simp_arith only [↓rn_sSeq, F__law_low, b__law_low, law_gcd_z hi hj hk]
    by_cases hn : j < 0
    · rw [show decide (j < 0) = true from decide_eq_true hn, if_pos hn]
      simp_arith only [fDiv_m g2 hk g1]
    · rw [show decide (j < 0) = false from decide_eq_false hn, if_neg hn]
      simp_arith only [fDiv_q g2 hk g1]
theorem lowest_z {i j : Int} {k : Nat} (h : j ≠ 0) (hi : sz k i.natAbs) (hj : sz k j.natAbs) (hk : k ≤ 4000) : F_lowest [.sh (.int i), .sh (.int j)] = .ok ⟨qD (rq i j), false⟩ [.sh (.int i), .sh (.int j)] := low_gen F_lowest (.inl rfl) h hi hj hk
theorem law_low_z {i j : Int} {k : Nat} (h : j ≠ 0) (hi : sz k i.natAbs) (hj : sz k j.natAbs) (hk : k ≤ 4000) : F__law_low [.sh (.int i), .sh (.int j)] = .ok ⟨qD (rq i j), false⟩ [.sh (.int i), .sh (.int j)] := low_gen F__law_low (.inr rfl) h hi hj hk
theorem rq_nat {i : Int} {b : Nat} (hb : b ≠ 0) : rq i (b : Nat) = Rat.normalize i b hb := by
  unfold rq
  rw [dif_pos (show ((b : Nat) : Int).natAbs ≠ 0 from hb)]
  simp only [if_neg (show ¬ ((b : Nat) : Int) < 0 by omega)]
  rfl
theorem rq_sq {i j : Int} {k : Nat} (h : j ≠ 0) (hi : sz k i.natAbs) (hj : sz k j.natAbs) : sq k (rq i j) := by
  unfold rq
  rw [dif_pos (show j.natAbs ≠ 0 by omega)]
  refine sq_norm _ ?_ hj
  split
  · rw [Int.natAbs_neg]; exact hi
  · exact hi
theorem lowest_q {i : Int} {b k : Nat} (hb0 : b ≠ 0) (hi : sz k i.natAbs) (hb : sz k b) (hk : k ≤ 4000) : F_lowest [.sh (.int i), .sh (.int (b : Nat))] = .ok ⟨qD (Rat.normalize i b hb0), false⟩ [.sh (.int i), .sh (.int (b : Nat))] := by
  rw [← rq_nat hb0]
  exact lowest_z (by omega) hi hb hk
theorem ixq0 {q : Rat} : fIxA (qD q) (.int 0) = some ⟨.int q.num, false⟩ := ixT0
theorem ixq1 {q : Rat} : fIxA (qD q) (.int 1) = some ⟨.int (q.den : Nat), false⟩ := ixT1
theorem sz_den {k : Nat} {q : Rat} (h : sq k q) : sz k ((q.den : Nat) : Int).natAbs := h.2
theorem den_ne {p q : Rat} : p.den * q.den ≠ 0 := Nat.mul_ne_zero p.den_nz q.den_nz
theorem plus_q {p q : Rat} {j k : Nat} (hp : sq j p) (hq : sq k q) (h : j + k ≤ 3999) : F_plus [.sh (qD p), .sh (qD q)] = .ok ⟨qD (p + q), false⟩ [.sh (qD p), .sh (qD q)] := by
  refine ok_of_run ?_
  simp_arith only [F_plus, b_plus, ixq0, ixq1, fMul_q hp.1 (sz_den hq) (show j ≤ 9000 by omega) (show k ≤ 9000 by omega), fMul_q hq.1 (sz_den hp) (show k ≤ 9000 by omega) (show j ≤ 9000 by omega), fMul_q (sz_den hp) (sz_den hq) (show j ≤ 9000 by omega) (show k ≤ 9000 by omega)]
  rw [show ((p.den : Nat) : Int) * ((q.den : Nat) : Int) = ((p.den * q.den : Nat) : Int) from rfl]
  simp_arith only [lowest_q den_ne (sz_num hp hq) (sz_up (sz_mul hp.2 hq.2) (Nat.le_add_right _ 1)) (show j + k + 1 ≤ 4000 by omega)]
  rw [Rat.add_def]
theorem sz_nums {j k : Nat} {p q : Rat} (hp : sq j p) (hq : sq k q) : sz (j + k) (p.num * q.num).natAbs := by
  rw [Int.natAbs_mul]; exact sz_mul hp.1 hq.1
theorem times_q {p q : Rat} {j k : Nat} (hp : sq j p) (hq : sq k q) (h : j + k ≤ 3999) : F_times [.sh (qD p), .sh (qD q)] = .ok ⟨qD (p * q), false⟩ [.sh (qD p), .sh (qD q)] := by
  refine ok_of_run ?_
  simp_arith only [F_times, b_times, ixq0, ixq1, fMul_q hp.1 hq.1 (show j ≤ 9000 by omega) (show k ≤ 9000 by omega), fMul_q (sz_den hp) (sz_den hq) (show j ≤ 9000 by omega) (show k ≤ 9000 by omega)]
  rw [show ((p.den : Nat) : Int) * ((q.den : Nat) : Int) = ((p.den * q.den : Nat) : Int) from rfl]
  simp_arith only [lowest_q den_ne (sz_nums hp hq) (sz_mul hp.2 hq.2) (show j + k ≤ 4000 by omega)]
  rw [Rat.mul_def]
theorem qD_neg {q : Rat} : (.tuple [.int (-q.num), .int (q.den : Nat)] : D) = qD (-q) := rfl
theorem sq_neg {k : Nat} {q : Rat} (h : sq k q) : sq k (-q) := ⟨by rw [Rat.neg_num, Int.natAbs_neg]; exact h.1, h.2⟩
/-- a fraction of an integer -/
theorem qD_ok {q : Rat} : SeqAt.shaped (qD q) = true := by
  refine LD.okD (m := 1) ((LD_tup (m := 0) fun d hd => ?_).1) (by decide)
  simp at hd
  rcases hd with rfl | rfl <;> exact LD_int _
theorem eqv_qD {p q : Rat} : PyData.eqv (qD p) (qD q) = decide (p = q) := by
  have h : PyData.eqv (qD p) (qD q) = (decide (p.num = q.num) && (decide ((p.den : Int) = q.den) && true)) := by
    unfold qD
    simp [PyData.eqv, PyData.eqvAll]
    rfl
  rw [h, Bool.eq_iff_iff]
  simp only [Bool.and_true, Bool.and_eq_true, decide_eq_true_eq]
  exact ⟨fun ⟨h1, h2⟩ => Rat.ext h1 (by omega), fun h => by subst h; exact ⟨rfl, rfl⟩⟩
theorem fEq_qD {p q : Rat} : fEq (qD p) (qD q) = some ⟨.bool (decide (p = q)), false⟩ := by
  unfold fEq; rw [qD_ok, qD_ok, eqv_qD]; rfl
theorem fNe_qD {p q : Rat} : fNe (qD p) (qD q) = some ⟨.bool (!decide (p = q)), false⟩ := by
  unfold fNe; rw [qD_ok, qD_ok, eqv_qD]; rfl

theorem law_number_n : DSp F__law_number [] (fun r => ∃ i : Int, sz 101 i.natAbs ∧ r = ⟨.int i, false⟩) := by
  refine dsp_of fun x dx => ?_
  simp_arith only [↓rn_sSeq, F__law_number, b__law_number, show fPow (.int 10) (.int 30) = some ⟨.int 1000000000000000000000000000000, false⟩ from by kernel_rfl]
  refine xD_run (take_n (m := 4) (by decide) (by decide)) dx rfl rfl rfl fun r y dy hf => ?_
  obtain ⟨f, hf1, rfl⟩ := hf
  obtain ⟨s, hs1, hs2, hix⟩ : ∃ s : Nat, 0 < s ∧ s ≤ 10 ^ 30 ∧ fIxA (.list [.int 3, .int 20, .int 1000, .int 1000000000000000000000000000000]) (.int (f : Nat)) = some ⟨.int (s : Nat), false⟩ := by
    match f, hf1 with
    | 0, _ => exact ⟨3, by decide, by decide, rfl⟩
    | 1, _ => exact ⟨20, by decide, by decide, rfl⟩
    | 2, _ => exact ⟨1000, by decide, by decide, rfl⟩
    | 3, _ => exact ⟨10 ^ 30, by decide, by decide, rfl⟩
  have hsz : sz 100 s := Nat.lt_of_le_of_lt hs2 (by decide)
  have h2 : fMul (.int 2) (.int (s : Nat)) = some ⟨.int (2 * s), false⟩ := fMul_q (k := 3) (l := 100) (show (2 : Int).natAbs < 2 ^ 3 by decide) hsz (by decide) (by decide)
  simp_arith only [hix, h2]
  have hc : (2 : Int) * (s : Nat) + 1 = ((2 * s + 1 : Nat) : Int) := by omega
  refine xD_run (take_n (m := 2 * s + 1) (by omega) (by
    have : (10 : Nat) ^ 30 < 2 ^ 100 := by decide
    have h3 : (2 : Nat) ^ 200 = 2 ^ 100 * 2 ^ 100 := by rw [← Nat.pow_add]
    have h4 : (4 : Nat) ≤ 2 ^ 100 := by decide
    have h5 : 4 * 2 ^ 100 ≤ 2 ^ 100 * 2 ^ 100 := Nat.mul_le_mul_right _ h4
    omega)) dy rfl (ok_of_run (by simp_arith only [h2, hc])) rfl fun r z dz hf => ?_
  obtain ⟨g, hg, rfl⟩ := hf
  simp_arith only [backP_ds dz]
  refine ⟨z, [], rfl, dz, (g : Int) - s, ?_, rfl⟩
  have : (10 : Nat) ^ 30 < 2 ^ 100 := by decide
  have h6 : ((g : Int) - s).natAbs ≤ s := by omega
  exact Nat.lt_of_le_of_lt h6 (Nat.lt_of_le_of_lt hs2 (by decide))
theorem ratio_z {i j : Int} {k : Nat} (h : j ≠ 0) (hi : sz k i.natAbs) (hj : sz k j.natAbs) (hk : k ≤ 4000) : F_ratio [.sh (.int i), .sh (.int j)] = .ok ⟨qD (rq i j), false⟩ [.sh (.int i), .sh (.int j)] := by
  refine ok_of_run ?_
  simp_arith only [↓rn_sSeq, F_ratio, b_ratio, is_whole_d, isW, lowest_z h hi hj hk]
  rw [show decide (j = 0) = false from decide_eq_false h]
  simp_arith only [↓rn_sSeq, lowest_z h hi hj hk]
theorem minus_z {p q : Rat} {j k : Nat} (hp : sq j p) (hq : sq k q) (h : j + k ≤ 3999) : F_minus [.sh (qD p), .sh (qD q)] = .ok ⟨qD (rq (p.num * q.den - q.num * p.den) ((p.den * q.den : Nat) : Int)), false⟩ [.sh (qD p), .sh (qD q)] := by
  refine ok_of_run ?_
  have e : ((p.den : Nat) : Int) * ((q.den : Nat) : Int) = ((p.den * q.den : Nat) : Int) := by simp
  simp_arith only [↓rn_sSeq, F_minus, b_minus, ixq0, ixq1, fMul_q hp.1 (sz_den hq) (by omega) (by omega), fMul_q hq.1 (sz_den hp) (by omega) (by omega), fMul_q (sz_den hp) (sz_den hq) (by omega) (by omega), e, lowest_z (i := p.num * q.den - q.num * p.den) (j := ((p.den * q.den : Nat) : Int)) (k := j + k + 1) (by have := den_ne (p := p) (q := q); omega) (sz_num2 hp hq) (sz_up (sz_mul hp.2 hq.2) (by omega)) (by omega)]

theorem fMul_num {p q : Rat} {j k : Nat} (hp : sq j p) (hq : sq k q) (h : j + k ≤ 3999) : fMul (.int p.num) (.int q.num) = some ⟨.int (p.num * q.num), false⟩ := fMul_q hp.1 hq.1 (by omega) (by omega)
theorem fMul_nd {p q : Rat} {j k : Nat} (hp : sq j p) (hq : sq k q) (h : j + k ≤ 3999) : fMul (.int p.num) (.int (q.den : Nat)) = some ⟨.int (p.num * (q.den : Nat)), false⟩ := fMul_q hp.1 (sz_den hq) (by omega) (by omega)
theorem fMul_dn {p q : Rat} {j k : Nat} (hp : sq j p) (hq : sq k q) (h : j + k ≤ 3999) : fMul (.int (p.den : Nat)) (.int q.num) = some ⟨.int ((p.den : Nat) * q.num), false⟩ := fMul_q (sz_den hp) hq.1 (by omega) (by omega)
theorem fMul_dd {p q : Rat} {j k : Nat} (hp : sq j p) (hq : sq k q) (h : j + k ≤ 3999) : fMul (.int (p.den : Nat)) (.int (q.den : Nat)) = some ⟨.int ((p.den * q.den : Nat) : Int), false⟩ := by
  have e : ((p.den : Nat) : Int) * ((q.den : Nat) : Int) = ((p.den * q.den : Nat) : Int) := by simp
  rw [← e]
  exact fMul_q (sz_den hp) (sz_den hq) (by omega) (by omega)
theorem dd_ne {p q : Rat} : ((p.den * q.den : Nat) : Int) ≠ 0 := by have := den_ne (p := p) (q := q); omega
theorem dd_sz {p q : Rat} {j k : Nat} (hp : sq j p) (hq : sq k q) : sz (j + k + 1) ((p.den * q.den : Nat) : Int).natAbs := sz_up (sz_mul hp.2 hq.2) (by omega)
section
variable {p q : Rat} {j k : Nat}
theorem low_add (hp : sq j p) (hq : sq k q) (h : j + k ≤ 3999) : F__law_low [.sh (.int (p.num * (q.den : Nat) + q.num * (p.den : Nat))), .sh (.int ((p.den * q.den : Nat) : Int))] = .ok ⟨qD (p + q), false⟩ [.sh (.int (p.num * (q.den : Nat) + q.num * (p.den : Nat))), .sh (.int ((p.den * q.den : Nat) : Int))] := by
  rw [law_low_z dd_ne (sz_num hp hq) (dd_sz hp hq) (by omega), rq_nat den_ne, Rat.add_def]
theorem low_sub (hp : sq j p) (hq : sq k q) (h : j + k ≤ 3999) : F__law_low [.sh (.int (p.num * (q.den : Nat) - q.num * (p.den : Nat))), .sh (.int ((p.den * q.den : Nat) : Int))] = .ok ⟨qD (rq (p.num * q.den - q.num * p.den) ((p.den * q.den : Nat) : Int)), false⟩ [.sh (.int (p.num * (q.den : Nat) - q.num * (p.den : Nat))), .sh (.int ((p.den * q.den : Nat) : Int))] := by
  rw [law_low_z dd_ne (sz_num2 hp hq) (dd_sz hp hq) (by omega)]
theorem low_mul (hp : sq j p) (hq : sq k q) (h : j + k ≤ 3999) : F__law_low [.sh (.int (p.num * q.num)), .sh (.int ((p.den * q.den : Nat) : Int))] = .ok ⟨qD (p * q), false⟩ [.sh (.int (p.num * q.num)), .sh (.int ((p.den * q.den : Nat) : Int))] := by
  rw [law_low_z dd_ne (sz_up (sz_nums hp hq) (by omega)) (dd_sz hp hq) (by omega), rq_nat den_ne, Rat.mul_def]
theorem low_div (hp : sq j p) (hq : sq k q) (h : j + k ≤ 3999) (h0 : q.num ≠ 0) : F__law_low [.sh (.int (p.num * (q.den : Nat))), .sh (.int ((p.den : Nat) * q.num))] = .ok ⟨qD (rq (p.num * (q.den : Nat)) ((p.den : Nat) * q.num)), false⟩ [.sh (.int (p.num * (q.den : Nat))), .sh (.int ((p.den : Nat) * q.num))] :=
  law_low_z (Int.mul_ne_zero (by have := p.den_nz; omega) h0) (by rw [Int.natAbs_mul]; exact sz_mul hp.1 hq.2) (by rw [Int.natAbs_mul]; exact sz_mul hp.2 hq.1) (by omega)
theorem over_z (hp : sq j p) (hq : sq k q) (h : j + k ≤ 3999) (h0 : q.num ≠ 0) : F_over [.sh (qD p), .sh (qD q)] = .ok ⟨qD (rq (p.num * (q.den : Nat)) ((p.den : Nat) * q.num)), false⟩ [.sh (qD p), .sh (qD q)] := by
  refine ok_of_run ?_
  have := lowest_z (i := p.num * (q.den : Nat)) (j := (p.den : Nat) * q.num) (k := j + k) (Int.mul_ne_zero (by have := p.den_nz; omega) h0) (by rw [Int.natAbs_mul]; exact sz_mul hp.1 hq.2) (by rw [Int.natAbs_mul]; exact sz_mul hp.2 hq.1) (by omega)
  simp_arith only [↓rn_sSeq, F_over, b_over, ixq0, ixq1]
  rw [show decide (q.num = 0) = false from decide_eq_false h0]
  simp_arith only [↓rn_sSeq, ixq0, ixq1, fMul_nd hp hq h, fMul_dn hp hq h, this]
def ltq (p q : Rat) : Bool := decide (p.num * (q.den : Nat) < q.num * (p.den : Nat))
theorem below_q (hp : sq j p) (hq : sq k q) (h : j + k ≤ 3999) : F_below [.sh (qD p), .sh (qD q)] = .ok ⟨.bool (ltq p q), false⟩ [.sh (qD p), .sh (qD q)] := by
  refine ok_of_run ?_
  simp_arith only [↓rn_sSeq, F_below, b_below, ixq0, ixq1, fMul_nd hp hq h, fMul_nd hq hp (by omega)]
  rfl
theorem lesser_q (hp : sq j p) (hq : sq k q) (h : j + k ≤ 3999) : F_lesser [.sh (qD p), .sh (qD q)] = .ok ⟨if ltq q p then qD q else qD p, false⟩ [.sh (qD p), .sh (qD q)] := by
  refine ok_of_run ?_
  simp_arith only [↓rn_sSeq, F_lesser, b_lesser, below_q hq hp (by omega), truD_bool]
  cases ltq q p with
  | true => simp_arith only [↓rn_sSeq, and_self]
  | false => simp_arith only [↓rn_sSeq, and_self]
theorem greater_q (hp : sq j p) (hq : sq k q) (h : j + k ≤ 3999) : F_greater [.sh (qD p), .sh (qD q)] = .ok ⟨if ltq p q then qD q else qD p, false⟩ [.sh (qD p), .sh (qD q)] := by
  refine ok_of_run ?_
  simp_arith only [↓rn_sSeq, F_greater, b_greater, below_q hp hq h, truD_bool]
  cases ltq p q with
  | true => simp_arith only [↓rn_sSeq, and_self]
  | false => simp_arith only [↓rn_sSeq, and_self]
theorem ltq_tri (h1 : ltq p q = false) (h2 : ltq q p = false) : p = q := by
  unfold ltq at h1 h2
  have h1 := of_decide_eq_false h1
  have h2 := of_decide_eq_false h2
  refine (Rat.eq_iff_mul_eq_mul (p := p) (q := q)).mpr ?_
  omega
theorem ltq_asym (h1 : ltq p q = true) : ltq q p = false := by
  unfold ltq at *
  have h1 := of_decide_eq_true h1
  exact decide_eq_false (by omega)
theorem lc_is {ds : List D} {tt : En → Res Bool} {te : XF} {vs : List Nat} {e : En} {P : Rs → En → Prop} {E : Exn → Prop} {gg : Rs → En → Option En} (q : D → Bool) (hl : ds.length ≤ most)
    (hb : ∀ a ∈ ds, oK (gg ⟨a, false⟩ (wipeE e vs)) fun e1 => (tt e1).rn (fun b e2 => b = true ∧ iK true ((te e2).rn (fun r e3 => r.d = .bool (q a) ∧ wipeE e3 vs = wipeE e vs) fun _ => False) (wipeE e2 vs = wipeE e vs)) fun _ => False)
    (hP : P ⟨.list (ds.map fun a => .bool (q a)), true⟩ e) : (lcLoop gg tt te vs ds [] e).rn (lcR vs e P) E := by
  have := lc_map1 (E := E) ds (fun d => d) (fun a => .bool (q a)) hl hb hP
  rwa [List.map_id'] at this
theorem same_q : F__law_same [.sh (qD p), .sh (qD p)] = .ok ⟨.bool true, false⟩ [.sh (qD p), .sh (qD p)] := by
  refine ok_of_run ?_
  have e : fEq (qD p) (qD p) = some ⟨.bool true, false⟩ := by rw [fEq_qD]; simp
  have e2 : fLen (qD p) = some ⟨.int 2, false⟩ := rfl
  have e3 : itemsD (qD p) = some [.int p.num, .int (p.den : Nat)] := rfl
  have e4 : isT .tuple (qD p) = true := rfl
  simp_arith only [↓rn_sSeq, F__law_same, b__law_same, e, e2, e3, e4]
  refine lc_is isW (show 2 ≤ most by decide) (fun a ha => by cases a <;> simp_arith only [isW]) ?_
  simp_arith only [↓rn_sSeq, show fAll (.list [.bool (isW (.int p.num)), .bool (isW (.int (p.den : Nat)))]) = some ⟨.bool true, false⟩ from rfl, e]
theorem is_ratio_q (hp : sq j p) (h : j ≤ 3999) : F_is_ratio [.sh (qD p)] = .ok ⟨.bool true, false⟩ [.sh (qD p)] := by
  refine ok_of_run ?_
  have e2 : fLen (qD p) = some ⟨.int 2, false⟩ := rfl
  have e4 : isT .tuple (qD p) = true := rfl
  have hg : Nat.gcd p.num.natAbs ((p.den : Nat) : Int).natAbs = 1 := p.reduced
  simp_arith only [↓rn_sSeq, F_is_ratio, b_is_ratio, e2, e4, ixq0, ixq1, is_whole_d, isW]
  rw [show decide ((0 : Int) < (p.den : Nat)) = true from decide_eq_true (by have := p.den_pos; omega)]
  simp_arith only [↓rn_sSeq, ixq0, ixq1, common_z hp.1 (sz_den hp) (by omega), hg]
theorem says_b {b : Bool} : F__law_says [.sh (.bool b), .sh (.bool b)] = .ok ⟨.bool true, false⟩ [.sh (.bool b), .sh (.bool b)] := by
  refine ok_of_run ?_
  cases b <;> simp_arith only [↓rn_sSeq, F__law_says, b__law_says] <;> rfl
end

open SX in
abbrev SS (l : List Nat) : Str := SX.S l
theorem items_S {l : List Nat} : itemsD (.str (SS l)) = some (l.map fun c => .str (SS [c])) := rfl
theorem cut_take {l : List Nat} {k : Nat} : cutS (SS l) none (some (k : Int)) = SS (l.take k) := by
  unfold cutS
  rw [HT.sIx_nat, HT.sIx_none, Nat.sub_zero]
  show SS ((l.drop 0).take (min k (SS l).length)) = _
  rw [SX.S_len, List.drop_zero]
  rcases Nat.le_total k l.length with h | h
  · rw [Nat.min_eq_left h]
  · rw [Nat.min_eq_right h, List.take_of_length_le (Nat.le_refl _), List.take_of_length_le h]
theorem cut_drop {l : List Nat} {k : Nat} : cutS (SS l) (some (k : Int)) none = SS (l.drop k) := by
  unfold cutS
  rw [HT.sIx_nat, HT.sIx_none]
  show SS ((l.drop (min k (SS l).length)).take ((SS l).length - min k (SS l).length)) = _
  rw [SX.S_len]
  rcases Nat.le_total k l.length with h | h
  · rw [Nat.min_eq_left h, List.take_of_length_le (by rw [List.length_drop]; exact Nat.le_refl _)]
  · rw [Nat.min_eq_right h, List.drop_of_length_le (Nat.le_refl _), List.drop_of_length_le h, List.take_nil]
theorem fSl_st {l : List Nat} {k : Nat} (h : l.length ≤ 1000) : fSl (.str (SS l)) none (some (k : Int)) = some ⟨.str (SS (l.take k)), false⟩ := by
  show (if (SS l).length ≤ most then some (⟨.str (cutS (SS l) none (some (k : Int))), false⟩ : Rs) else none) = _
  rw [if_pos (by rw [SX.S_len]; exact most_s (by omega)), cut_take]
theorem fSl_sd {l : List Nat} {k : Nat} (h : l.length ≤ 1000) : fSl (.str (SS l)) (some (k : Int)) none = some ⟨.str (SS (l.drop k)), false⟩ := by
  show (if (SS l).length ≤ most then some (⟨.str (cutS (SS l) (some (k : Int)) none), false⟩ : Rs) else none) = _
  rw [if_pos (by rw [SX.S_len]; exact most_s (by omega)), cut_drop]
theorem fSl_st1 {l : List Nat} (h : l.length ≤ 1000) : fSl (.str (SS l)) none (some 1) = some ⟨.str (SS (l.take 1)), false⟩ := fSl_st (k := 1) h
theorem fSl_sd1 {l : List Nat} (h : l.length ≤ 1000) : fSl (.str (SS l)) (some 1) none = some ⟨.str (SS (l.drop 1)), false⟩ := fSl_sd (k := 1) h
/-- ascii -/
def AL (l : List Nat) : Prop := ∀ c ∈ l, c < 128
theorem AL.ok {l : List Nat} (h : AL l) : PyData.strOk (SS l) = true := by
  unfold PyData.strOk
  rw [← Array.all_toList]
  show l.all _ = true
  exact List.all_eq_true.mpr fun c hc => decide_eq_true (Nat.lt_trans (h c hc) (by decide))
theorem AL.take {l : List Nat} (h : AL l) (k : Nat) : AL (l.take k) := fun c hc => h c (List.mem_of_mem_take hc)
theorem AL.drop {l : List Nat} (h : AL l) (k : Nat) : AL (l.drop k) := fun c hc => h c (List.mem_of_mem_drop hc)
theorem AL.app {l m : List Nat} (h : AL l) (g : AL m) : AL (l ++ m) := fun c hc => (List.mem_append.mp hc).elim (h c) (g c)
theorem fEq_S {a b : List Nat} (ha : AL a) (hb : AL b) : fEq (.str (SS a)) (.str (SS b)) = some ⟨.bool (decide (a = b)), false⟩ := by
  rw [fEq_str ha.ok hb.ok]
  refine congrArg (fun z : Bool => some (Rs.mk (.bool z) false)) (decide_eq_decide.mpr ⟨SX.S_inj, fun h => by rw [h]⟩)
theorem fNe_str {x y : Str} (hx : PyData.strOk x = true) (hy : PyData.strOk y = true) : fNe (.str x) (.str y) = sb (decide (x ≠ y)) := by
  have h1 : ∀ {z : Str}, PyData.strOk z = true → SeqAt.shaped (.str z) = true := fun {z} h => by simp [SeqAt.shaped, PyData.canLay0, PyData.depth, h]
  have h := fEq_str hx hy
  unfold fEq at h
  rw [h1 hx, h1 hy] at h
  simp only [Bool.and_self, if_true] at h
  have h2 : PyData.eqv (.str x) (.str y) = decide (x = y) := by injection h with h; injection h with h; injection h
  unfold fNe
  rw [h1 hx, h1 hy, h2]
  simp
theorem fNe_S {a b : List Nat} (ha : AL a) (hb : AL b) : fNe (.str (SS a)) (.str (SS b)) = some ⟨.bool (!decide (a = b)), false⟩ := by
  rw [fNe_str ha.ok hb.ok]
  refine congrArg (fun z : Bool => some (Rs.mk (.bool z) false)) ?_
  rw [← decide_not]
  exact decide_eq_decide.mpr ⟨fun h z => h (by rw [z]), fun h z => h (SX.S_inj z)⟩
theorem AL_of {l : List Nat} (h : l.all (fun c => decide (c < 128)) = true) : AL l := fun c hc => of_decide_eq_true (List.all_eq_true.mp h c hc)
theorem s_dash : (("-" : Str)) = SS [45] := rfl
theorem s_zero : (("0" : Str)) = SS [48] := rfl
theorem s_empty : (("" : Str)) = SS [] := rfl
theorem s_slash : (("/" : Str)) = SS [47] := rfl
def DGL : List Nat := [48, 49, 50, 51, 52, 53, 54, 55, 56, 57]
theorem s_digits : (("0123456789" : Str)) = SS DGL := rfl
def isDg (c : Nat) : Bool := decide (c ∈ DGL)
theorem isDg_iff {c : Nat} : isDg c = true ↔ 48 ≤ c ∧ c ≤ 57 := by
  unfold isDg DGL
  rw [decide_eq_true_eq]
  simp only [List.mem_cons, List.not_mem_nil, or_false]
  omega
theorem fIn_sign {neg : Bool} {c : Nat} : fInA neg (.str (SS [c])) (.str (SS DGL)) = some ⟨.bool (if neg then !isDg c else isDg c), false⟩ := rfl
def bodyL (l : List Nat) : List Nat := if l.take 1 = [45] then l.drop 1 else l
def wt (l : List Nat) : Bool := !(bodyL l).isEmpty && ((bodyL l).all isDg && (decide (l = [48]) || !decide ((bodyL l).head? = some 48)))
def vl (l : List Nat) : Int := if l.take 1 = [45] then -((NumText.digitsVal (l.drop 1) : Nat) : Int) else (NumText.digitsVal l : Nat)
theorem bodyL_al {l : List Nat} (h : AL l) : AL (bodyL l) := by
  unfold bodyL; split
  · exact h.drop 1
  · exact h
theorem bodyL_len {l : List Nat} : (bodyL l).length ≤ l.length := by
  unfold bodyL; split
  · rw [List.length_drop]; omega
  · exact Nat.le_refl _
theorem ixS0 {l : List Nat} {c : Nat} (h : l.head? = some c) (hl : l.length ≤ 1000) : fIxA (.str (SS l)) (.int 0) = some ⟨.str (SS [c]), false⟩ := by
  cases l with
  | nil => cases h
  | cons a l =>
    cases h
    have e : fIx (.str (SS (c :: l))) (.int 0) = some ⟨.str (SS [c]), false⟩ := by
      show (if (SS (c :: l)).length ≤ most then (atI (c :: l) 0).map (fun c => Rs.mk (.str ⟨#[c]⟩) false) else none) = _
      rw [if_pos (by rw [SX.S_len]; exact most_s (by omega)), show atI (c :: l) 0 = some c by unfold atI ixN; simp]
      rfl
    unfold fIxA
    rw [e]
theorem al1 {c : Nat} (h : c < 128) : AL [c] := fun d hd => by simp at hd; omega
theorem head_some {l : List Nat} (h : l ≠ []) : ∃ c, l.head? = some c ∧ c ∈ l := by
  cases l with
  | nil => exact absurd rfl h
  | cons a l => exact ⟨a, rfl, List.mem_cons_self⟩
theorem fLen_S {l : List Nat} (h : l.length ≤ 1000) : fLen (.str (SS l)) = some ⟨.int (l.length : Nat), false⟩ := by
  show (if (SS l).length ≤ most then si ((SS l).length : Nat) else none) = _
  rw [SX.S_len, if_pos (most_s (by omega))]
theorem whole_text_n {l : List Nat} (ha : AL l) (hl : l.length ≤ 1000) : F__law_whole_text [.sh (.str (SS l))] = .ok ⟨.bool (wt l), false⟩ [.sh (.str (SS l))] := by
  refine ok_of_run ?_
  unfold F__law_whole_text b__law_whole_text
  simp_arith! only [and_self]
  refine seq_mid (fun e => e = [.sh (.str (SS l)), .sh (.str (SS (bodyL l))), .un]) ?_ ?_
  · simp_arith! only [fSl_st1 hl, s_dash, fEq_S (ha.take 1) (al1 (show 45 < 128 by decide))]
    unfold bodyL
    refine iK_dec (fun h => ?_) fun h => ?_
    · rw [if_pos h]
      simp_arith! only [fSl_sd1 hl]
    · rw [if_neg h]
  rintro e rfl
  have hb := bodyL_al ha
  have hbl : (bodyL l).length ≤ 1000 := Nat.le_trans bodyL_len hl
  rw [rn_sSeq]
  simp_arith! only [s_empty, fEq_S hb (AL_of (l := []) rfl)]
  unfold wt
  refine iK_dec (fun h => ?_) fun h => ?_
  · rw [h]
    simp_arith! only [and_self]
    rfl
  · have hne : (bodyL l).isEmpty = false := by
      cases hh : bodyL l with
      | nil => exact absurd hh h
      | cons a b => rfl
    rw [hne]
    simp_arith! only [items_S]
    refine lc_map1 (bodyL l) (fun c => .str (SS [c])) (fun c => .bool (!isDg c)) (most_s (by omega)) (fun c hc => ?_) ?_
    · simp_arith only [s_digits, fIn_sign]
    · simp_arith! only [fAny_map, truD_bool]
      have hany : (bodyL l).any (fun c => !isDg c) = !(bodyL l).all isDg := by
        rw [List.not_all_eq_any_not]
      rw [hany]
      cases hall : (bodyL l).all isDg with
      | false => simp_arith! only [and_self]
      | true =>
        simp_arith! only [s_zero, fEq_S ha (al1 (show 48 < 128 by decide))]
        obtain ⟨c, hc1, hc2⟩ := head_some h
        cases hz : decide (l = [48]) with
        | true => simp_arith! only [and_self]
        | false =>
          simp_arith! only [ixS0 hc1 hbl, fNe_S (al1 (hb c hc2)) (al1 (show 48 < 128 by decide)), hc1]
          rw [show decide ([c] = [48]) = decide (some c = some 48) from decide_eq_decide.mpr (by simp)]

theorem dMD : d_MOST_DIGITS = .int 4000 := rfl
theorem dDG : d_DIGITS = .str (SS DGL) := rfl
theorem wt_parts {l : List Nat} (h : wt l = true) : bodyL l ≠ [] ∧ NumText.AllDigits (bodyL l) := by
  unfold wt at h
  rw [Bool.and_eq_true, Bool.and_eq_true, List.all_eq_true] at h
  refine ⟨fun z => ?_, fun c hc => isDg_iff.mp (h.2.1 c hc)⟩
  rw [z] at h
  exact absurd h.1 (by decide)
theorem int_wt {l : List Nat} (h : wt l = true) (hl : l.length ≤ 600) : fIntS (.str (SS l)) = some ⟨.int (vl l), false⟩ := by
  obtain ⟨h1, h2⟩ := wt_parts h
  show (if (SS l).length ≤ 640 then (PySem.intText? (SS l)).map fun n => Rs.mk (.int n) false else none) = _
  rw [SX.S_len, if_pos (by omega)]
  have key : PySem.intText? (SS l) = some (vl l) := by
    unfold vl
    unfold bodyL at h1 h2
    split
    · rename_i h45
      rw [if_pos h45] at h1 h2
      refine PySem.intText_neg (cs := l.drop 1) ?_ h2 h1 (by rw [SX.S_len]; omega)
      show l = _
      cases l with
      | nil => cases h45
      | cons a l =>
        simp at h45
        subst h45; rfl
    · rename_i h45
      rw [if_neg h45] at h1 h2
      exact PySem.intText_digits (x := SS l) h2 h1 (by rw [SX.S_len]; omega)
  rw [key]; rfl
theorem read_whole_ok {l : List Nat} (ha : AL l) (hl : l.length ≤ 600) (hw : wt l = true) : F_read_whole [.sh (.str (SS l))] = .ok ⟨.int (vl l), false⟩ [.sh (.str (SS l))] := by
  refine ok_of_run ?_
  unfold F_read_whole b_read_whole
  simp_arith! only [and_self]
  rw [rn_sSeq]
  simp_arith! only [and_self]
  refine seq_mid (fun e => e = [.sh (.str (SS l)), .sh (.str (SS (bodyL l))), .un]) ?_ ?_
  · simp_arith! only [fSl_st1 (show l.length ≤ 1000 by omega), s_dash, fEq_S (ha.take 1) (al1 (show 45 < 128 by decide))]
    unfold bodyL
    refine iK_dec (fun h => ?_) fun h => ?_
    · rw [if_pos h]
      simp_arith! only [fSl_sd1 (show l.length ≤ 1000 by omega)]
    · rw [if_neg h]
  rintro e rfl
  have hb := bodyL_al ha
  have hbl : (bodyL l).length ≤ 600 := Nat.le_trans bodyL_len hl
  obtain ⟨h1, h2⟩ := wt_parts hw
  have hpos : 1 ≤ (bodyL l).length := List.length_pos_iff.mpr h1
  rw [rn_sSeq]
  simp_arith! only [fLen_S (show (bodyL l).length ≤ 1000 by omega), dMD]
  rw [show decide (((bodyL l).length : Int) < 1) = false from decide_eq_false (by omega), show decide ((4000 : Int) < ((bodyL l).length : Nat)) = false from decide_eq_false (by omega)]
  simp_arith! only [items_S]
  refine lc_map1 (bodyL l) (fun c => .str (SS [c])) (fun c => .bool (isDg c)) (most_s (by omega)) (fun c hc => ?_) ?_
  · simp_arith only [dDG, fIn_sign]
  · have hall : (bodyL l).all isDg = true := List.all_eq_true.mpr fun c hc => isDg_iff.mpr (h2 c hc)
    simp_arith! only [fAll_map, truD_bool, hall]
    rw [rn_sSeq]
    obtain ⟨c, hc1, hc2⟩ := head_some h1
    simp_arith! only [ixS0 hc1 (show (bodyL l).length ≤ 1000 by omega), s_zero, fEq_S (al1 (hb c hc2)) (al1 (show 48 < 128 by decide)), fNe_S ha (al1 (show 48 < 128 by decide)), int_wt hw hl]
    have hw0 := hw
    unfold wt at hw
    rw [Bool.and_eq_true, Bool.and_eq_true, hc1] at hw
    have h3 := hw.2.2
    cases e1 : decide ([c] = [48]) with
    | false => simp_arith! only [int_wt hw0 hl]
    | true =>
      have : c = 48 := by simpa using e1
      subst this
      simp at h3
      simp_arith! only [h3]
theorem read_whole_ex {l : List Nat} (ha : AL l) (hl : l.length ≤ 600) (hw : wt l = false) : F_read_whole [.sh (.str (SS l))] = .ex ⟨1, some (.int 0)⟩ := by
  refine ex_of_run ?_
  unfold F_read_whole b_read_whole
  simp_arith! only [and_self]
  rw [rn_sSeq]
  simp_arith! only [and_self]
  refine seq_mid (fun e => e = [.sh (.str (SS l)), .sh (.str (SS (bodyL l))), .un]) ?_ ?_
  · simp_arith! only [fSl_st1 (show l.length ≤ 1000 by omega), s_dash, fEq_S (ha.take 1) (al1 (show 45 < 128 by decide))]
    unfold bodyL
    refine iK_dec (fun h => ?_) fun h => ?_
    · rw [if_pos h]
      simp_arith! only [fSl_sd1 (show l.length ≤ 1000 by omega)]
    · rw [if_neg h]
  rintro e rfl
  have hb := bodyL_al ha
  have hbl : (bodyL l).length ≤ 600 := Nat.le_trans bodyL_len hl
  rw [rn_sSeq]
  simp_arith! only [fLen_S (show (bodyL l).length ≤ 1000 by omega), dMD]
  by_cases hne : bodyL l = []
  · rw [show decide (((bodyL l).length : Int) < 1) = true from decide_eq_true (by rw [hne]; decide)]
    simp_arith! only [and_self]
  have hpos : 1 ≤ (bodyL l).length := List.length_pos_iff.mpr hne
  rw [show decide (((bodyL l).length : Int) < 1) = false from decide_eq_false (by omega), show decide ((4000 : Int) < ((bodyL l).length : Nat)) = false from decide_eq_false (by omega)]
  simp_arith! only [items_S]
  refine lc_map1 (bodyL l) (fun c => .str (SS [c])) (fun c => .bool (isDg c)) (most_s (by omega)) (fun c hc => ?_) ?_
  · simp_arith only [dDG, fIn_sign]
  · simp_arith! only [fAll_map, truD_bool]
    cases hall : (bodyL l).all isDg with
    | false => simp_arith! only [and_self]
    | true =>
      simp_arith! only [and_self]
      rw [rn_sSeq]
      obtain ⟨c, hc1, hc2⟩ := head_some hne
      have hie : (bodyL l).isEmpty = false := by
        cases hh : bodyL l with
        | nil => exact absurd hh hne
        | cons a b => rfl
      unfold wt at hw
      rw [hall, hc1, hie] at hw
      simp at hw
      obtain ⟨w1, w2⟩ := hw
      subst w2
      simp_arith! only [ixS0 hc1 (show (bodyL l).length ≤ 1000 by omega), s_zero, fEq_S (al1 (show 48 < 128 by decide)) (al1 (show 48 < 128 by decide)), fNe_S ha (al1 (show 48 < 128 by decide)), w1]

def sD : D → Option Str | .str x => some x | _ => none
theorem sD_s {x : Str} : sD (.str x) = some x := rfl
theorem rn_xM1 {F : Str → D → Option Rs} {f : XF} {go : En → Res D} {e : En} {P : Rs → En → Prop} {E : Exn → Prop} : (xM1 F f go e).rn P E = (f e).rn (fun r e1 => oK (sD r.d) fun x => (go e1).rn (fun y e2 => oK (F x y) fun z => P z e2) E) E := by
  simp only [rn_run, oK_def]
  unfold xM1
  rw [run_bind]
  refine congrArg (fun q => (f e).run q E) (funext fun r => funext fun e1 => ?_)
  obtain ⟨d, fr⟩ := r
  cases d with
  | str x =>
    show ((go e1).bind _).run P E = oK0 (some x) _
    rw [run_bind]
    show (go e1).run _ E = (go e1).run _ E
    refine congrArg (fun q => (go e1).run q E) (funext fun y => funext fun e2 => ?_)
    cases F x y <;> rfl
  | _ => rfl
theorem cut47 : ∀ l : List Nat, 47 ∉ l ∨ ∃ p r, l = p ++ 47 :: r ∧ 47 ∉ p
  | [] => .inl (by simp)
  | c :: l => by
    by_cases h : c = 47
    · subst h; exact .inr ⟨[], l, rfl, by simp⟩
    · rcases cut47 l with h1 | ⟨p, r, rfl, h1⟩
      · exact .inl fun z => by
          rcases List.mem_cons.mp z with z | z
          · exact h z.symm
          · exact h1 z
      · exact .inr ⟨c :: p, r, rfl, fun z => by
          rcases List.mem_cons.mp z with z | z
          · exact h z.symm
          · exact h1 z⟩
def due2 (p r : List Nat) : Option (Int × Int) := if wt p && (wt r && (decide (1 ≤ vl r) && (decide (Nat.gcd (vl p).natAbs (vl r).natAbs = 1) && !decide (vl r = 1)))) then some (vl p, vl r) else none
def dueL (l : List Nat) : Option (Int × Int) := match TL.par [47] [] l with
  | none => if wt l then some (vl l, 1) else none
  | some (p, r) => due2 p r
theorem due_no {l : List Nat} (h : 47 ∉ l) : dueL l = if wt l then some (vl l, 1) else none := by
  unfold dueL
  rw [TL.par_none1 h]
theorem due_cut {p r : List Nat} (h : 47 ∉ p) : dueL (p ++ 47 :: r) = due2 p r := by
  unfold dueL
  have e := TL.par_part1 (s := 47) (S := []) (p := p) (rest := r) (acc := []) h
  have e2 : p ++ 47 :: r = p ++ ([47] ++ r) := rfl
  rw [e2, e]; rfl
theorem wt_no {l : List Nat} (h : 47 ∈ l) : wt l = false := by
  cases hw : wt l with
  | false => rfl
  | true =>
    exfalso
    obtain ⟨_, h2⟩ := wt_parts hw
    have : 47 ∈ bodyL l := by
      unfold bodyL
      split
      · rename_i h45
        cases l with
        | nil => cases h
        | cons a l =>
          simp at h45
          subst h45
          rcases List.mem_cons.mp h with z | z
          · cases z
          · exact z
      · exact h
    have := h2 47 this
    omega
theorem dv_lt : ∀ (l : List Nat) (a : Nat), NumText.AllDigits l → l.foldl (fun acc c => acc * 10 + (c - 48)) a < (a + 1) * 10 ^ l.length
  | [], a, _ => by simp
  | c :: l, a, h => by
    rw [List.foldl_cons, List.length_cons, Nat.pow_succ]
    refine Nat.lt_of_lt_of_le (dv_lt l _ h.tail) ?_
    have hc := h.head
    have : (a * 10 + (c - 48) + 1) ≤ (a + 1) * 10 := by omega
    calc (a * 10 + (c - 48) + 1) * 10 ^ l.length ≤ ((a + 1) * 10) * 10 ^ l.length := Nat.mul_le_mul_right _ this
      _ = (a + 1) * (10 ^ l.length * 10) := by rw [Nat.mul_assoc, Nat.mul_comm 10]
theorem vl_sz {l : List Nat} (hw : wt l = true) (hl : l.length ≤ 600) : sz 2400 (vl l).natAbs := by
  obtain ⟨h1, h2⟩ := wt_parts hw
  have hb := bodyL_len (l := l)
  have key : (vl l).natAbs = NumText.digitsVal (bodyL l) := by
    unfold vl bodyL
    split
    · rw [Int.natAbs_neg]; rfl
    · rfl
  have h3 := dv_lt (bodyL l) 0 h2
  unfold sz
  rw [key]
  refine Nat.lt_of_lt_of_le h3 ?_
  rw [Nat.zero_add, Nat.one_mul]
  calc 10 ^ (bodyL l).length ≤ 10 ^ 600 := Nat.pow_le_pow_right (by decide) (by omega)
    _ ≤ 16 ^ 600 := Nat.pow_le_pow_left (by decide) _
    _ = 2 ^ 2400 := by rw [show (16 : Nat) = 2 ^ 4 from rfl, ← Nat.pow_mul]
theorem d47 : decide ([47] = ([] : List Nat)) = false := rfl
def dueD : Option (Int × Int) → D | some (n, d) => .tuple [.int n, .int d] | none => .none
theorem part_no {l : List Nat} (h : 47 ∉ l) (hl : l.length ≤ 600) : fPart (SS l) (.str "/") = some ⟨.tuple [.str (SS l), .str (SS []), .str (SS [])], false⟩ := by
  have e : Txt.partition (SS l) (SS [47]) = (SS l, SS [], SS []) := SX.partition_none (by simp) (TL.par_none1 h)
  show (if (!((SS [47]).length == 0) && decide ((SS l).length ≤ most)) = true then some (⟨.tuple [.str (Txt.partition (SS l) (SS [47])).1, .str (Txt.partition (SS l) (SS [47])).2.1, .str (Txt.partition (SS l) (SS [47])).2.2], false⟩ : Rs) else none) = _
  rw [SX.S_len, SX.S_len, e, if_pos (by rw [decide_eq_true (most_s (by omega))]; rfl)]
theorem part_cut {p r : List Nat} (h : 47 ∉ p) (hl : (p ++ 47 :: r).length ≤ 600) : fPart (SS (p ++ 47 :: r)) (.str "/") = some ⟨.tuple [.str (SS p), .str (SS [47]), .str (SS r)], false⟩ := by
  have e0 := TL.par_part1 (s := 47) (S := []) (p := p) (rest := r) (acc := []) h
  have e : Txt.partition (SS (p ++ 47 :: r)) (SS [47]) = (SS p, SS [47], SS r) := SX.partition_some (by simp) e0
  show (if (!((SS [47]).length == 0) && decide ((SS (p ++ 47 :: r)).length ≤ most)) = true then some (⟨.tuple [.str (Txt.partition (SS (p ++ 47 :: r)) (SS [47])).1, .str (Txt.partition (SS (p ++ 47 :: r)) (SS [47])).2.1, .str (Txt.partition (SS (p ++ 47 :: r)) (SS [47])).2.2], false⟩ : Rs) else none) = _
  rw [SX.S_len, SX.S_len, e, if_pos (by rw [decide_eq_true (most_s (by omega))]; rfl)]
theorem is_ratio_z {i j : Int} {k : Nat} (hi : sz k i.natAbs) (hj : sz k j.natAbs) (hk : k ≤ 4000) : F_is_ratio [.sh (.tuple [.int i, .int j])] = .ok ⟨.bool (decide (1 ≤ j) && decide (Nat.gcd i.natAbs j.natAbs = 1)), false⟩ [.sh (.tuple [.int i, .int j])] := by
  refine ok_of_run ?_
  simp_arith only [↓rn_sSeq, F_is_ratio, b_is_ratio, is_whole_d, isW]
  by_cases h : 0 < j
  · rw [show decide ((0 : Int) < j) = true from decide_eq_true h, show decide (1 ≤ j) = true from decide_eq_true (by omega)]
    simp_arith only [↓rn_sSeq, common_z hi hj hk, dec_eq1]
  · rw [show decide ((0 : Int) < j) = false from decide_eq_false h, show decide (1 ≤ j) = false from decide_eq_false (by omega)]
    simp_arith only [↓rn_sSeq, and_self]
theorem read_ratio_n {l : List Nat} (ha : AL l) (hl : l.length ≤ 600) : (F_read_ratio [.sh (.str (SS l))]).rn (fun r e => ∃ n d, dueL l = some (n, d) ∧ r = ⟨.tuple [.int n, .int d], false⟩) (fun x => dueL l = none ∧ x = ⟨1, some (.int 0)⟩) := by
  unfold F_read_ratio b_read_ratio
  rcases cut47 l with h | ⟨p, r, rfl, h⟩
  · rw [due_no h]
    simp_arith! only [and_self]
    rw [rn_sSeq]
    simp_arith! only [and_self]
    rw [rn_sSeq]
    simp_arith! only [rn_xM1, sD_s, part_no h hl]
    cases hw : wt l with
    | false =>
      rw [rn_sSeq]
      simp_arith! only [read_whole_ex ha hl hw]
    | true =>
      rw [rn_sSeq]
      simp_arith! only [read_whole_ok ha hl hw, s_empty, fNe_S (AL_of (l := []) rfl) (AL_of (l := []) rfl)]
      rw [rn_sSeq]
      simp_arith! only [is_ratio_z (j := 1) (vl_sz hw hl) (show (1 : Int).natAbs < 2 ^ 2400 from Nat.one_lt_two_pow (by decide)) (by decide), show Nat.gcd (vl l).natAbs (1 : Int).natAbs = 1 from Nat.gcd_one_right _, s_empty, fNe_S (AL_of (l := []) rfl) (AL_of (l := []) rfl)]
      exact ⟨_, _, rfl, rfl⟩
  · rw [due_cut h]
    have hp : AL p := fun c hc => ha c (List.mem_append_left _ hc)
    have hr : AL r := fun c hc => ha c (List.mem_append_right _ (List.mem_cons_of_mem _ hc))
    have hl' := hl
    rw [List.length_append, List.length_cons] at hl'
    have hpl : p.length ≤ 600 := by omega
    have hrl : r.length ≤ 600 := by omega
    unfold due2
    simp_arith! only [and_self]
    rw [rn_sSeq]
    simp_arith! only [and_self]
    rw [rn_sSeq]
    simp_arith! only [rn_xM1, sD_s, part_cut h hl]
    cases hw : wt p with
    | false =>
      rw [rn_sSeq]
      simp_arith! only [read_whole_ex hp hpl hw]
    | true =>
      cases hw2 : wt r with
      | false =>
        rw [rn_sSeq]
        simp_arith! only [read_whole_ok hp hpl hw, s_empty, fNe_S (al1 (show 47 < 128 by decide)) (AL_of (l := []) rfl), d47, read_whole_ex hr hrl hw2]
      | true =>
        rw [rn_sSeq]
        simp_arith! only [read_whole_ok hp hpl hw, s_empty, fNe_S (al1 (show 47 < 128 by decide)) (AL_of (l := []) rfl), d47, read_whole_ok hr hrl hw2]
        rw [rn_sSeq]
        simp_arith! only [is_ratio_z (vl_sz hw hpl) (vl_sz hw2 hrl) (by decide), s_empty, fNe_S (al1 (show 47 < 128 by decide)) (AL_of (l := []) rfl), d47]
        cases h1 : decide (1 ≤ vl r) with
        | false => simp_arith! only [and_self]
        | true =>
          cases h2 : decide (Nat.gcd (vl p).natAbs (vl r).natAbs = 1) with
          | false => simp_arith! only [and_self]
          | true =>
            simp_arith! only [s_empty, fNe_S (al1 (show 47 < 128 by decide)) (AL_of (l := []) rfl), d47]
            cases h3 : decide (vl r = 1) with
            | false =>
              simp_arith! only [and_self]
              exact ⟨_, _, rfl, rfl⟩
            | true => simp_arith! only [and_self]

def optT : Option (Int × Int) → D | some z => .tuple [.int z.1, .int z.2] | none => .none
theorem split_no {l : List Nat} (h : 47 ∉ l) (hl : l.length ≤ 600) : fSplit (SS l) (.str "/") = some ⟨.list [.str (SS l)], true⟩ := by
  have e : Txt.split (SS l) (SS [47]) = [SS l] := by
    rw [SX.split_S (by simp) (by decide), TL.spl_last1 h]; rfl
  show (if (!((SS [47]).length == 0) && decide ((SS l).length + 2 ≤ most)) = true then some (⟨.list ((Txt.split (SS l) (SS [47])).map PyData.str), true⟩ : Rs) else none) = _
  rw [SX.S_len, SX.S_len, e, if_pos (by rw [decide_eq_true (most_s (by omega))]; rfl)]
  rfl
theorem split_cut {p r : List Nat} (h : 47 ∉ p) (hl : (p ++ 47 :: r).length ≤ 600) : fSplit (SS (p ++ 47 :: r)) (.str "/") = some ⟨.list (.str (SS p) :: (TL.spl [47] 0 [] r).map fun q => .str (SS q)), true⟩ := by
  have e : Txt.split (SS (p ++ 47 :: r)) (SS [47]) = SS p :: (TL.spl [47] 0 [] r).map SX.S := by
    rw [SX.split_S (by simp) (by decide)]
    have e2 : p ++ 47 :: r = p ++ ([47] ++ r) := rfl
    rw [e2, TL.spl_part1 (s := 47) (S := []) h]; rfl
  show (if (!((SS [47]).length == 0) && decide ((SS (p ++ 47 :: r)).length + 2 ≤ most)) = true then some (⟨.list ((Txt.split (SS (p ++ 47 :: r)) (SS [47])).map PyData.str), true⟩ : Rs) else none) = _
  rw [SX.S_len, SX.S_len, e, if_pos (by rw [decide_eq_true (most_s (by omega))]; rfl), List.map_cons, List.map_map]
  rfl
theorem spl_two {p r : List Nat} (h : 47 ∉ p) : TL.spl [47] 0 [] (p ++ 47 :: r) = p :: TL.spl [47] 0 [] r := by
  have e2 : p ++ 47 :: r = p ++ ([47] ++ r) := rfl
  rw [e2, TL.spl_part1 (s := 47) (S := []) h]; rfl
theorem spl_ne (l : List Nat) : 1 ≤ (TL.spl [47] 0 [] l).length := by
  rcases cut47 l with h | ⟨p, r, rfl, h⟩
  · rw [TL.spl_last1 h]; simp
  · rw [spl_two h]; simp
theorem fAll1 {a : Bool} : fAll (.list [.bool a]) = some ⟨.bool a, false⟩ := by cases a <;> rfl
theorem fAll2 {a b : Bool} : fAll (.list [.bool a, .bool b]) = some ⟨.bool (a && b), false⟩ := by cases a <;> cases b <;> rfl
theorem ixm2 {a b : D} : fIxA (.list [a, b]) (.int (-1)) = some ⟨b, false⟩ := rfl
theorem law_due_n {l : List Nat} (ha : AL l) (hl : l.length ≤ 600) : F__law_due [.sh (.str (SS l))] = .ok ⟨optT (dueL l), false⟩ [.sh (.str (SS l))] := by
  refine ok_of_run ?_
  unfold F__law_due b__law_due
  rcases cut47 l with h | ⟨p, r, rfl, h⟩
  · rw [due_no h]
    simp_arith! only [and_self]
    rw [rn_sSeq]
    simp_arith! only [rn_xM1, sD_s, split_no h hl]
    rw [rn_sSeq]
    simp_arith! only [and_self]
    refine lc_map1 [l] (fun q => .str (SS q)) (fun q => .bool (wt q)) (show 1 ≤ most by decide) (fun q hq => ?_) ?_
    · simp at hq; subst hq
      simp_arith only [whole_text_n ha (show q.length ≤ 1000 by omega)]
    · simp_arith! only [fAll1, truD_bool]
      cases hw : wt l with
      | false =>
        simp_arith! only [and_self]
        rfl
      | true =>
        simp_arith! only [and_self]
        rw [rn_sSeq]
        simp_arith! only [int_wt hw hl]
        rw [rn_sSeq]
        simp_arith! only [law_gcd_z (j := 1) (vl_sz hw hl) (show (1 : Int).natAbs < 2 ^ 2400 from Nat.one_lt_two_pow (by decide)) (by decide), show Nat.gcd (vl l).natAbs (1 : Int).natAbs = 1 from Nat.gcd_one_right _]
        rfl
  · rw [due_cut h]
    have hp : AL p := fun c hc => ha c (List.mem_append_left _ hc)
    have hr : AL r := fun c hc => ha c (List.mem_append_right _ (List.mem_cons_of_mem _ hc))
    have hl' := hl
    rw [List.length_append, List.length_cons] at hl'
    have hpl : p.length ≤ 600 := by omega
    have hrl : r.length ≤ 600 := by omega
    simp_arith! only [and_self]
    rw [rn_sSeq]
    simp_arith! only [rn_xM1, sD_s, split_cut h hl]
    by_cases h47 : 47 ∈ r
    · have hw2 := wt_no h47
      have hd : due2 p r = none := by unfold due2; rw [hw2]; simp
      have h3 : 2 ≤ (TL.spl [47] 0 [] r).length := by
        rcases cut47 r with z | ⟨p2, r2, e, z⟩
        · exact absurd h47 z
        · rw [e, spl_two z, List.length_cons]
          have := spl_ne r2
          omega
      rw [hd]
      rw [rn_sSeq]
      simp_arith! only [and_self]
      rw [show decide ((2 : Int) < (((TL.spl [47] 0 [] r).length + 1 : Nat) : Int)) = true from decide_eq_true (by omega)]
      simp_arith! only [and_self]
      rfl
    · rw [TL.spl_last1 h47]
      unfold due2
      rw [rn_sSeq]
      simp_arith! only [and_self]
      refine lc_map1 [p, r] (fun q => .str (SS q)) (fun q => .bool (wt q)) (show 2 ≤ most by decide) (fun q hq => ?_) ?_
      · simp at hq
        rcases hq with rfl | rfl
        · simp_arith only [whole_text_n hp (show q.length ≤ 1000 by omega)]
        · simp_arith only [whole_text_n hr (show q.length ≤ 1000 by omega)]
      · simp_arith! only [fAll2, truD_bool]
        cases hw : wt p with
        | false =>
          simp_arith! only [and_self]
          rfl
        | true =>
          cases hw2 : wt r with
          | false =>
            simp_arith! only [and_self]
            rfl
          | true =>
            simp_arith! only [and_self]
            rw [rn_sSeq]
            simp_arith! only [int_wt hw hpl, int_wt hw2 hrl, ixm2]
            rw [rn_sSeq]
            simp_arith! only [and_self]
            by_cases h1 : 1 ≤ vl r
            · rw [show decide (vl r < 1) = false from decide_eq_false (by omega), show decide (1 ≤ vl r) = true from decide_eq_true h1]
              simp_arith! only [law_gcd_z (vl_sz hw hpl) (vl_sz hw2 hrl) (by decide), dec_ne1]
              by_cases h2 : Nat.gcd (vl p).natAbs (vl r).natAbs = 1
              · rw [show decide (Nat.gcd (vl p).natAbs (vl r).natAbs ≠ 1) = false from decide_eq_false fun z => z h2, show decide (Nat.gcd (vl p).natAbs (vl r).natAbs = 1) = true from decide_eq_true h2]
                simp_arith! only [and_self]
                cases h3 : decide (vl r = 1) with
                | false =>
                  simp_arith! only [and_self]
                  rfl
                | true =>
                  simp_arith! only [and_self]
                  rfl
              · rw [show decide (Nat.gcd (vl p).natAbs (vl r).natAbs ≠ 1) = true from decide_eq_true h2, show decide (Nat.gcd (vl p).natAbs (vl r).natAbs = 1) = false from decide_eq_false h2]
                simp_arith! only [and_self]
                rfl
            · rw [show decide (vl r < 1) = true from decide_eq_true (by omega), show decide (1 ≤ vl r) = false from decide_eq_false h1]
              simp_arith! only [and_self]
              rfl
theorem pk_text {e : En} (h : 1 < e.length) : pick2 [(m_NoText, (hN 1 (nIf 1 true (nTup (nCons (nK (.str "at")) (nCons (nFld 1) nNil))) (nK (.str "other")))))] ⟨1, some (.int 0)⟩ e = .ok (.rt ⟨.tuple [.str "at", .int 0], false⟩) e := by
  show (if 1 < e.length then _ else _ : Res Fl) = _
  rw [if_pos h]
def readD : Option (Int × Int) → D | some z => .tuple [.int z.1, .int z.2] | none => .tuple [.str "at", .int 0]
theorem law_reads_n {l : List Nat} (ha : AL l) (hl : l.length ≤ 600) : F__law_reads [.sh (.str (SS l))] = .ok ⟨readD (dueL l), false⟩ [.sh (.str (SS l))] := by
  refine ok_of_run ?_
  have h := read_ratio_n ha hl
  unfold F__law_reads b__law_reads
  simp_arith! only [and_self]
  refine rn_mono h (fun r e ⟨n, d, h1, h2⟩ => ?_) (fun x ⟨h1, h2⟩ => ?_)
  · rw [h1, h2]
    simp_arith! only [and_self]
    rfl
  · rw [h1, h2, pk_text (e := [.un, .un]) (by decide)]
    simp_arith! only [and_self]
    rfl
theorem reads_bad {v : D} (h : isT .str v = false) : F__law_reads [.sh v] = .ok ⟨.tuple [.str "at", .int 0], false⟩ [.sh v] := by
  have h1 : F_read_ratio [.sh v] = .ex ⟨1, some (.int 0)⟩ := by
    refine ex_of_run ?_
    simp_arith only [↓rn_sSeq, F_read_ratio, b_read_ratio, h]
  refine ok_of_run ?_
  simp_arith only [↓rn_sSeq, F__law_reads, b__law_reads, h1, pk_text (e := [.un, .un]) (by decide)]

def strL (i : Int) : List Nat := if i < 0 then 45 :: TL.numL i.natAbs else TL.numL i.natAbs
theorem str_eq (i : Int) : Str.ofString (toString i) = SS (strL i) := by
  unfold strL
  by_cases h : i < 0
  · rw [if_pos h]
    obtain ⟨n, rfl⟩ : ∃ n : Nat, i = -((n + 1 : Nat) : Int) := ⟨i.natAbs - 1, by omega⟩
    have e : toString (-((n + 1 : Nat) : Int)) = "-" ++ toString ((n + 1 : Nat) : Int) := rfl
    rw [e, Int.natAbs_neg]
    have e2 : Str.ofString ("-" ++ toString ((n + 1 : Nat) : Int)) = Str.ofString "-" ++ Str.ofString (toString ((n + 1 : Nat) : Int)) := by
      rw [PySem.Str.ofString_eq_toList, PySem.Str.ofString_eq_toList, PySem.Str.ofString_eq_toList, String.toList_append, List.map_append]
      exact (SX.S_cat _ _).symm
    rw [e2, SX.num_S]
    show SS [45] ++ SS _ = SS _
    rw [SX.S_cat]; rfl
  · rw [if_neg h]
    obtain ⟨n, rfl⟩ : ∃ n : Nat, i = (n : Int) := ⟨i.natAbs, by omega⟩
    exact SX.num_S n
theorem fStr_z {i : Int} {k : Nat} (h : sz k i.natAbs) (hk : k ≤ 1900) : fStrI (.int i) = some ⟨.str (SS (strL i)), false⟩ := by
  have h1 := sz_log (sz_up h (Nat.le_add_right k 1)) (by omega)
  show (if i.natAbs.log2 < 1920 then some (⟨.str (Str.ofString (toString i)), false⟩ : Rs) else none) = _
  rw [if_pos (by omega), str_eq]
theorem numL_head : ∀ n : Nat, 1 ≤ n → (TL.numL n).head? ≠ some 48 := by
  intro n
  induction n using Nat.strongRecOn with
  | ind n ih =>
    intro h1
    by_cases h : n < 10
    · rw [TL.numL_lt h]
      simp; omega
    · rw [TL.numL_step (by omega)]
      have := ih (n / 10) (by omega) (by omega)
      cases e : TL.numL (n / 10) with
      | nil => exact absurd e (TL.numL_ne _)
      | cons a l => rw [e] at this; simpa using this
theorem numL_dg (n : Nat) : (TL.numL n).all isDg = true := List.all_eq_true.mpr fun c hc => isDg_iff.mpr (TL.numL_digits n c hc)
theorem numL_no45 (n : Nat) : (TL.numL n).take 1 ≠ [45] := fun z => by
  have h45 : 45 ∈ TL.numL n := List.mem_of_mem_take (i := 1) (by rw [z]; simp)
  exact TL.numL_free (.inl (by decide)) h45
theorem body_strL (i : Int) : bodyL (strL i) = TL.numL i.natAbs := by
  unfold strL bodyL
  by_cases h : i < 0
  · rw [if_pos h]; rfl
  · rw [if_neg h, if_neg (numL_no45 _)]
theorem wt_strL (i : Int) : wt (strL i) = true := by
  unfold wt
  rw [body_strL, numL_dg]
  have hne := TL.numL_ne i.natAbs
  have hie : (TL.numL i.natAbs).isEmpty = false := by
    cases hh : TL.numL i.natAbs with
    | nil => exact absurd hh hne
    | cons a b => rfl
  rw [hie]
  by_cases h : i = 0
  · subst h
    have : strL 0 = [48] := by unfold strL; rw [if_neg (by decide)]; exact TL.numL_lt (by decide)
    rw [this]; simp
  · rw [decide_eq_false (numL_head _ (by omega))]; simp
theorem vl_strL (i : Int) : vl (strL i) = i := by
  unfold vl strL
  by_cases h : i < 0
  · rw [if_pos h, if_pos (show (45 :: TL.numL i.natAbs).take 1 = [45] from rfl)]
    show -((NumText.digitsVal (TL.numL i.natAbs) : Nat) : Int) = i
    rw [TL.numL_val]; omega
  · rw [if_neg h, if_neg (numL_no45 _), TL.numL_val]; omega
theorem strL_no (i : Int) : 47 ∉ strL i := by
  unfold strL
  split
  · intro z
    rcases List.mem_cons.mp z with z | z
    · cases z
    · exact TL.numL_free (.inl (by decide)) z
  · exact TL.numL_free (.inl (by decide))
theorem strL_al (i : Int) : AL (strL i) := by
  have hd : ∀ c ∈ TL.numL i.natAbs, c < 128 := fun c hc => by have := TL.numL_digits _ c hc; omega
  unfold strL
  split
  · intro c hc
    rcases List.mem_cons.mp hc with rfl | hc
    · decide
    · exact hd c hc
  · exact hd
theorem strL_len {i : Int} (h : sz 101 i.natAbs) : (strL i).length ≤ 33 := by
  have h1 := TL.numL_len (n := i.natAbs) (k := 32) (by decide) (Nat.lt_trans h (by decide))
  unfold strL
  split
  · rw [List.length_cons]; omega
  · omega
def tx (q : Rat) : List Nat := if q.den = 1 then strL q.num else strL q.num ++ 47 :: strL (q.den : Nat)
theorem tx_al (q : Rat) : AL (tx q) := by
  unfold tx
  split
  · exact strL_al _
  · exact (strL_al _).app fun c hc => by
      rcases List.mem_cons.mp hc with rfl | hc
      · decide
      · exact strL_al _ c hc
theorem tx_len {q : Rat} (h : sq 101 q) : (tx q).length ≤ 80 := by
  have h1 := strL_len h.1
  have h2 := strL_len (sz_den h)
  unfold tx
  split
  · omega
  · rw [List.length_append, List.length_cons]; omega
theorem due_tx (q : Rat) : dueL (tx q) = some (q.num, ((q.den : Nat) : Int)) := by
  unfold tx
  by_cases h : q.den = 1
  · rw [if_pos h, due_no (strL_no _), wt_strL, vl_strL, h]; rfl
  · rw [if_neg h, due_cut (strL_no _)]
    unfold due2
    rw [wt_strL, wt_strL, vl_strL, vl_strL, decide_eq_true (show (1 : Int) ≤ (q.den : Nat) by have := q.den_pos; omega), decide_eq_true (show Nat.gcd q.num.natAbs ((q.den : Nat) : Int).natAbs = 1 from q.reduced), decide_eq_false (show ¬ ((q.den : Nat) : Int) = 1 by omega)]
    rfl
theorem fAdd_S {a b : List Nat} (h : a.length + b.length ≤ 1000) : fAdd (.str (SS a)) (.str (SS b)) = some ⟨.str (SS (a ++ b)), false⟩ := by
  show (if (SS a).length + (SS b).length ≤ most then some (⟨.str (SS a ++ SS b), false⟩ : Rs) else none) = _
  rw [SX.S_len, SX.S_len, if_pos (most_s (by omega)), SX.S_cat]
theorem ratio_text_n {q : Rat} (h : sq 101 q) : F_ratio_text [.sh (qD q)] = .ok ⟨.str (SS (tx q)), false⟩ [.sh (qD q)] := by
  have h1 := strL_len h.1
  have h2 := strL_len (sz_den h)
  refine ok_of_run ?_
  simp_arith only [↓rn_sSeq, F_ratio_text, b_ratio_text, ixq0, ixq1, dec_eq1, fStr_z h.1 (show 101 ≤ 1900 by decide), fStr_z (sz_den h) (show 101 ≤ 1900 by decide), s_slash]
  unfold tx
  refine iK_dec (fun hd => ?_) fun hd => ?_
  · rw [if_pos hd]
  · rw [if_neg hd]
    simp_arith only [ixq0, ixq1, fStr_z h.1 (show 101 ≤ 1900 by decide), fStr_z (sz_den h) (show 101 ≤ 1900 by decide), fAdd_S (a := strL q.num) (b := [47]) (by simp; omega), fAdd_S (a := strL q.num ++ [47]) (b := strL (q.den : Nat)) (by simp; omega)]
    simp
def sumQ (L : List Rat) : Rat := L.foldl (· + ·) 0
theorem qD_0 : (.tuple [.int 0, .int 1] : D) = qD 0 := rfl
theorem qD_1 : (.tuple [.int 1, .int 1] : D) = qD 1 := rfl
theorem sumQ_app {L : List Rat} {a : Rat} : sumQ (L ++ [a]) = sumQ L + a := by
  unfold sumQ; rw [List.foldl_append]; rfl
theorem sq_zero : sq 1 0 := ⟨show (0 : Nat) < 2 ^ 1 by decide, show (1 : Nat) < 2 ^ 1 by decide⟩
theorem foldQ_sq {k : Nat} : ∀ (L : List Rat) (a : Rat) (j : Nat), sq j a → (∀ q ∈ L, sq k q) → sq (j + (k + 1) * L.length) (L.foldl (· + ·) a)
  | [], a, j, h, _ => h
  | q :: L, a, j, h, hL => by
    refine sq_up (foldQ_sq L (a + q) (j + k + 1) (sq_add h (hL q (by simp))) fun x hx => hL x (by simp [hx])) ?_
    rw [List.length_cons, Nat.mul_add]
    omega
theorem sumQ_sq {k : Nat} {L : List Rat} (h : ∀ q ∈ L, sq k q) (pre post : List Rat) (hp : L = pre ++ post) : sq ((k + 1) * pre.length + 1) (sumQ pre) :=
  sq_up (foldQ_sq pre 0 1 sq_zero fun q hq => h q (by rw [hp]; simp [hq])) (by omega)
theorem total_q {L : List Rat} {k : Nat} (hL : ∀ q ∈ L, sq k q) (hb : (k + 1) * L.length + k ≤ 3900) : F_total [.sh (.list (L.map qD))] = .ok ⟨qD (sumQ L), false⟩ [.sh (.list (L.map qD))] := by
  refine ok_of_run ?_
  simp_arith only [F_total, b_total, show d_ZERO = qD 0 from rfl]
  refine forL L qD (fun pre e => ∃ s, e = [.sh (.list (L.map qD)), .sh (qD (sumQ pre)), s]) ⟨_, rfl⟩ (fun pre a post hq e ⟨s, he⟩ => ?_) (fun e ⟨s, he⟩ => ?_)
  · subst he
    have h1 := sumQ_sq hL pre (a :: post) hq
    have hlen : pre.length + 1 ≤ L.length := by rw [hq]; simp
    have := Nat.mul_le_mul_left (k + 1) hlen
    rw [Nat.mul_add] at this
    simp_arith only [ixq0]
    refine iK_dec (fun hn => ?_) fun hn => ?_
    · simp_arith only [plus_q h1 (hL a (by rw [hq]; simp)) (by omega)]
      exact ⟨_, by rw [sumQ_app]⟩
    · have h0 : a = 0 := Rat.num_eq_zero.mp (by omega)
      refine ⟨.sh (qD a), ?_⟩
      rw [sumQ_app, h0, Rat.add_zero]
  · subst he
    simp_arith only [and_self]
theorem total_0 : F_total [.sh (.tuple [])] = .ok ⟨.tuple [.int 0, .int 1], false⟩ [.sh (.tuple [])] := by
  refine ok_of_run ?_
  simp_arith only [F_total, b_total, show d_ZERO = .tuple [.int 0, .int 1] from rfl, rn_floop_nil]

theorem fNe_01 : fNe (.tuple [.int 0, .int 1]) (.tuple [.int 0, .int 1]) = some ⟨.bool false, false⟩ := by kernel_rfl
theorem rn_xOrV {f g : XF} {e : En} {P : Rs → En → Prop} {E : Exn → Prop} : (xOrV f g e).rn P E = (f e).rn (fun r e1 => oK (truD r.d) fun b => iK b (P r e1) ((g e1).rn P E)) E := by
  simp only [rn_run, oK_def, iK_def]
  unfold xOrV
  rw [run_bind]
  refine congrArg (fun q => (f e).run q E) (funext fun r => funext fun e1 => ?_)
  cases h : truD r.d with
  | none => rfl
  | some b =>
    cases b with
    | true => exact propext ⟨fun z => ⟨fun _ => z, fun z => by cases z⟩, fun z => z.1 rfl⟩
    | false => exact propext ⟨fun z => ⟨fun z => (by cases z), fun _ => z⟩, fun z => z.2 rfl⟩
theorem truD_i {i : Int} : truD (.int i) = some (i != 0) := rfl
theorem fNe_selfD {d : D} (h : SeqAt.shaped d = true) : fNe d d = some ⟨.bool false, false⟩ := by
  have e : PyData.eqv d d = true := SeqAt.eqv_refl d (SeqAt.canLay_of_shaped h)
  unfold fNe
  rw [h, e]
  rfl
theorem forD {gg : Rs → En → Option En} {b : SF} {e : En} {PF : Fl → En → Prop} {E : Exn → Prop} (us : List D) (I : List D → En → Prop) (h0 : I [] e)
    (hs : ∀ pre a post, us = pre ++ a :: post → ∀ e, I pre e → oK (gg ⟨a, false⟩ e) fun e1 => (b e1).rn (fun fl e2 => tK fl (I (pre ++ [a]) e2) (PF fl e2)) E)
    (hP : ∀ e, I us e → PF .nx e) : (floop gg b us e).rn PF E := by
  have h := forL (gg := gg) (b := b) (e := e) (PF := PF) (E := E) us (fun d => d) I h0 hs hP
  rwa [List.map_id'] at h
theorem pair_ok {i j : Int} : SeqAt.shaped (.tuple [.int i, .int j]) = true := by
  refine LD.okD (m := 1) ((LD_tup (m := 0) fun d hd => ?_).1) (by decide)
  simp only [List.mem_cons, List.not_mem_nil, or_false] at hd
  rcases hd with rfl | rfl <;> exact LD_int _
theorem at_ok : SeqAt.shaped (.tuple [.str "at", .int 0]) = true := by decide +kernel
theorem of_bne {i : Int} (h : (i != 0) = true) : i ≠ 0 := fun z => by subst z; cases h
theorem fSl_sk {l : List Nat} {k : Nat} (h : l.length ≤ 1000) : fSl (.str (SS l)) (some ((k : Int) + 1)) none = some ⟨.str (SS (l.drop (k + 1))), false⟩ := fSl_sd (k := k + 1) h
theorem zp3 {a b c : D} : zpA [.list [a, b, c], .list [a, b, c]] = some [.tuple [a, a], .tuple [b, b], .tuple [c, c]] := rfl
theorem sign_ix {k : Nat} (h : k < 15) : ∃ c, c < 128 ∧ fIxA (.str "0123456789/- +.") (.int (k : Nat)) = some ⟨.str (SS [c]), false⟩ := by
  match k, h with
  | 0, _ => exact ⟨48, by decide, rfl⟩
  | 1, _ => exact ⟨49, by decide, rfl⟩
  | 2, _ => exact ⟨50, by decide, rfl⟩
  | 3, _ => exact ⟨51, by decide, rfl⟩
  | 4, _ => exact ⟨52, by decide, rfl⟩
  | 5, _ => exact ⟨53, by decide, rfl⟩
  | 6, _ => exact ⟨54, by decide, rfl⟩
  | 7, _ => exact ⟨55, by decide, rfl⟩
  | 8, _ => exact ⟨56, by decide, rfl⟩
  | 9, _ => exact ⟨57, by decide, rfl⟩
  | 10, _ => exact ⟨47, by decide, rfl⟩
  | 11, _ => exact ⟨45, by decide, rfl⟩
  | 12, _ => exact ⟨32, by decide, rfl⟩
  | 13, _ => exact ⟨43, by decide, rfl⟩
  | 14, _ => exact ⟨46, by decide, rfl⟩
theorem s_1 : ("/1" : Str) = SS [47, 49] := rfl
theorem s_2 : ("/" : Str) = SS [47] := rfl
theorem s_3 : ("-" : Str) = SS [45] := rfl
theorem s_4 : ("" : Str) = SS [] := rfl
theorem s_5 : (" " : Str) = SS [32] := rfl
theorem s_6 : ("0" : Str) = SS [48] := rfl
theorem s_7 : ("/0" : Str) = SS [47, 48] := rfl
theorem pk_mal {e : En} (h : 3 < e.length) : pick2 [(m_Malformed, (hN 3 (nBl 0 true)))] ⟨0, none⟩ e = .ok (.rt ⟨.bool true, false⟩) e := by
  show (if 3 < e.length then _ else _ : Res Fl) = _
  rw [if_pos h]
theorem raises_0 {u v : D} (h : F_ratio [.sh u, .sh v] = .ex ⟨0, none⟩) : F__law_raises [.sh (.int 0), .sh u, .sh v] = .ok ⟨.bool true, false⟩ [.sh (.int 0), .sh u, .sh v] := by
  refine ok_of_run ?_
  simp_arith only [↓rn_sSeq, F__law_raises, b__law_raises, h, pk_mal (e := [.un, .un, .un, .un]) (by decide)]
theorem raises_1 {u v : D} (h : F_over [.sh u, .sh v] = .ex ⟨0, none⟩) : F__law_raises [.sh (.int 1), .sh u, .sh v] = .ok ⟨.bool true, false⟩ [.sh (.int 1), .sh u, .sh v] := by
  refine ok_of_run ?_
  simp_arith only [↓rn_sSeq, F__law_raises, b__law_raises, h, pk_mal (e := [.un, .un, .un, .un]) (by decide)]
theorem r_n0 {n : Int} : F_ratio [.sh (.int n), .sh (.int 0)] = .ex ⟨0, none⟩ := by
  refine ex_of_run ?_
  simp_arith only [↓rn_sSeq, F_ratio, b_ratio, is_whole_d, isW]
theorem r_t2 : F_ratio [.sh (.bool true), .sh (.int 2)] = .ex ⟨0, none⟩ := by kernel_rfl
theorem r_12 : F_ratio [.sh (.str "1"), .sh (.int 2)] = .ex ⟨0, none⟩ := by kernel_rfl
theorem r_1n : F_ratio [.sh (.int 1), .sh .none] = .ex ⟨0, none⟩ := by kernel_rfl
theorem o_a0 {A : Rat} : F_over [.sh (qD A), .sh (.tuple [.int 0, .int 1])] = .ex ⟨0, none⟩ := by
  refine ex_of_run ?_
  simp_arith only [↓rn_sSeq, F_over, b_over]
theorem v_add {n : Int} {A : Rat} : fAdd (.list [.tuple [.int n, .bool true, .bool false], .tuple [.bool true, .bool false, .bool false], .tuple [.str "1", .bool false, .bool false], .tuple [qD A, .bool false, .bool true], .tuple [.tuple [.int 2, .int 4], .bool false, .bool false], .tuple [.tuple [.int 1, .int (-2)], .bool false, .bool false]]) (.list [.tuple [.tuple [.int 0, .int 1], .bool false, .bool true], .tuple [.tuple [.int 0, .int 2], .bool false, .bool false], .tuple [.list [.int 1, .int 2], .bool false, .bool false], .tuple [.tuple [.bool true, .int 1], .bool false, .bool false], .tuple [.tuple [.int 1, .int 2, .int 3], .bool false, .bool false]]) = some ⟨.list [.tuple [.int n, .bool true, .bool false], .tuple [.bool true, .bool false, .bool false], .tuple [.str "1", .bool false, .bool false], .tuple [qD A, .bool false, .bool true], .tuple [.tuple [.int 2, .int 4], .bool false, .bool false], .tuple [.tuple [.int 1, .int (-2)], .bool false, .bool false], .tuple [.tuple [.int 0, .int 1], .bool false, .bool true], .tuple [.tuple [.int 0, .int 2], .bool false, .bool false], .tuple [.list [.int 1, .int 2], .bool false, .bool false], .tuple [.tuple [.bool true, .int 1], .bool false, .bool false], .tuple [.tuple [.int 1, .int 2, .int 3], .bool false, .bool false]], true⟩ := rfl
theorem v_add2 {n : Int} {A : Rat} : fAdd (.list [.tuple [.int n, .bool true, .bool false], .tuple [.bool true, .bool false, .bool false], .tuple [.str "1", .bool false, .bool false], .tuple [qD A, .bool false, .bool true], .tuple [.tuple [.int 2, .int 4], .bool false, .bool false], .tuple [.tuple [.int 1, .int (-2)], .bool false, .bool false], .tuple [.tuple [.int 0, .int 1], .bool false, .bool true], .tuple [.tuple [.int 0, .int 2], .bool false, .bool false], .tuple [.list [.int 1, .int 2], .bool false, .bool false], .tuple [.tuple [.bool true, .int 1], .bool false, .bool false], .tuple [.tuple [.int 1, .int 2, .int 3], .bool false, .bool false]]) (.list [.tuple [.none, .bool false, .bool false]]) = some ⟨.list [.tuple [.int n, .bool true, .bool false], .tuple [.bool true, .bool false, .bool false], .tuple [.str "1", .bool false, .bool false], .tuple [qD A, .bool false, .bool true], .tuple [.tuple [.int 2, .int 4], .bool false, .bool false], .tuple [.tuple [.int 1, .int (-2)], .bool false, .bool false], .tuple [.tuple [.int 0, .int 1], .bool false, .bool true], .tuple [.tuple [.int 0, .int 2], .bool false, .bool false], .tuple [.list [.int 1, .int 2], .bool false, .bool false], .tuple [.tuple [.bool true, .int 1], .bool false, .bool false], .tuple [.tuple [.int 1, .int 2, .int 3], .bool false, .bool false], .tuple [.none, .bool false, .bool false]], true⟩ := rfl
theorem w_1 : F_is_ratio [.sh (.bool true)] = .ok ⟨.bool false, false⟩ [.sh (.bool true)] := by kernel_rfl
theorem w_2 : F_is_ratio [.sh (.str "1")] = .ok ⟨.bool false, false⟩ [.sh (.str "1")] := by kernel_rfl
theorem w_3 : F_is_ratio [.sh (.list [.int 1, .int 2])] = .ok ⟨.bool false, false⟩ [.sh (.list [.int 1, .int 2])] := by kernel_rfl
theorem w_4 : F_is_ratio [.sh (.tuple [.bool true, .int 1])] = .ok ⟨.bool false, false⟩ [.sh (.tuple [.bool true, .int 1])] := by kernel_rfl
theorem w_5 : F_is_ratio [.sh (.tuple [.int 1, .int 2, .int 3])] = .ok ⟨.bool false, false⟩ [.sh (.tuple [.int 1, .int 2, .int 3])] := by kernel_rfl
theorem w_6 : F_is_ratio [.sh .none] = .ok ⟨.bool false, false⟩ [.sh .none] := by kernel_rfl
theorem w_n {n : Int} : F_is_ratio [.sh (.int n)] = .ok ⟨.bool false, false⟩ [.sh (.int n)] := by
  refine ok_of_run ?_
  simp_arith only [↓rn_sSeq, F_is_ratio, b_is_ratio]
theorem w_z {i j : Int} (hi : i.natAbs < 100) (hj : j.natAbs < 100) (b : Bool) (hb : (decide (1 ≤ j) && decide (Nat.gcd i.natAbs j.natAbs = 1)) = b) : F_is_ratio [.sh (.tuple [.int i, .int j])] = .ok ⟨.bool b, false⟩ [.sh (.tuple [.int i, .int j])] := by
  subst hb
  exact is_ratio_z (k := 10) (Nat.lt_trans hi (by decide)) (Nat.lt_trans hj (by decide)) (by decide)
theorem vals_ok {n : Int} {A : Rat} (hA : sq 101 A) : ∀ d ∈ ([.tuple [.int n, .bool true, .bool false], .tuple [.bool true, .bool false, .bool false], .tuple [.str "1", .bool false, .bool false], .tuple [qD A, .bool false, .bool true], .tuple [.tuple [.int 2, .int 4], .bool false, .bool false], .tuple [.tuple [.int 1, .int (-2)], .bool false, .bool false], .tuple [.tuple [.int 0, .int 1], .bool false, .bool true], .tuple [.tuple [.int 0, .int 2], .bool false, .bool false], .tuple [.list [.int 1, .int 2], .bool false, .bool false], .tuple [.tuple [.bool true, .int 1], .bool false, .bool false], .tuple [.tuple [.int 1, .int 2, .int 3], .bool false, .bool false], .tuple [.none, .bool false, .bool false]] : List D), ∃ v b1 b2, d = .tuple [v, .bool b1, .bool b2] ∧ F_is_whole [.sh v] = .ok ⟨.bool b1, false⟩ [.sh v] ∧ F_is_ratio [.sh v] = .ok ⟨.bool b2, false⟩ [.sh v] := by
  intro d hd
  simp only [List.mem_cons, List.not_mem_nil, or_false] at hd
  rcases hd with rfl | rfl | rfl | rfl | rfl | rfl | rfl | rfl | rfl | rfl | rfl | rfl
  · exact ⟨_, _, _, rfl, is_whole_d, w_n⟩
  · exact ⟨_, _, _, rfl, is_whole_d, w_1⟩
  · exact ⟨_, _, _, rfl, is_whole_d, w_2⟩
  · exact ⟨_, _, _, rfl, is_whole_d, is_ratio_q hA (by decide)⟩
  · exact ⟨_, _, _, rfl, is_whole_d, w_z (by decide) (by decide) false (by decide)⟩
  · exact ⟨_, _, _, rfl, is_whole_d, w_z (by decide) (by decide) false (by decide)⟩
  · exact ⟨_, _, _, rfl, is_whole_d, w_z (by decide) (by decide) true (by decide)⟩
  · exact ⟨_, _, _, rfl, is_whole_d, w_z (by decide) (by decide) false (by decide)⟩
  · exact ⟨_, _, _, rfl, is_whole_d, w_3⟩
  · exact ⟨_, _, _, rfl, is_whole_d, w_4⟩
  · exact ⟨_, _, _, rfl, is_whole_d, w_5⟩
  · exact ⟨_, _, _, rfl, is_whole_d, w_6⟩
def txs (t : List Nat) (k c : Nat) : List D := [.str (SS (t.take k ++ [c] ++ t.drop k)), .str (SS (t.take k ++ t.drop (k + 1))), .str (SS (t ++ [47, 49])), .str (SS (47 :: t)), .str (SS (45 :: t)), .str (SS ([])), .str (SS (32 :: t)), .str (SS (48 :: t)), .str (SS (t ++ [47, 48]))]
theorem txs_ok {t : List Nat} {k c : Nat} (ht : AL t) (hl : t.length ≤ 80) (hc : c < 128) : ∀ d ∈ txs t k c, ∃ l, d = .str (SS l) ∧ AL l ∧ l.length ≤ 300 := by
  intro d hd
  have htl : (t.take k).length ≤ 80 := Nat.le_trans (List.length_take_le' _ _) hl
  have hdl : ∀ j, (t.drop j).length ≤ 80 := fun j => by rw [List.length_drop]; omega
  have cons : ∀ x, x < 128 → AL (x :: t) := fun x hx y hy => by
    rcases List.mem_cons.mp hy with rfl | hy
    · exact hx
    · exact ht y hy
  simp only [txs, List.mem_cons, List.not_mem_nil, or_false] at hd
  rcases hd with rfl | rfl | rfl | rfl | rfl | rfl | rfl | rfl | rfl
  · exact ⟨_, rfl, ((ht.take k).app (al1 hc)).app (ht.drop k), by have := hdl k; simp only [List.length_append, List.length_cons, List.length_nil]; omega⟩
  · exact ⟨_, rfl, (ht.take k).app (ht.drop (k + 1)), by have := hdl (k + 1); simp only [List.length_append]; omega⟩
  · exact ⟨_, rfl, ht.app (AL_of (by decide)), by simp; omega⟩
  · exact ⟨_, rfl, cons _ (by decide), by simp; omega⟩
  · exact ⟨_, rfl, cons _ (by decide), by simp; omega⟩
  · exact ⟨_, rfl, AL_of (by decide), by simp⟩
  · exact ⟨_, rfl, cons _ (by decide), by simp; omega⟩
  · exact ⟨_, rfl, cons _ (by decide), by simp; omega⟩
  · exact ⟨_, rfl, ht.app (AL_of (by decide)), by simp; omega⟩
set_option maxHeartbeats 4000000 in
theorem plain_run (x : Sl) (dx : DSl x) : (b_law (.un :: x :: List.replicate 20 .un)).rn (fun fl e => ∃ fr, fl = .rt ⟨.bool true, fr⟩) fun _ => False := by
  simp_arith! only [b_law]
  rw [rn_sSeq]
  simp_arith! only [rg1_4]
  refine lc_drawN (by decide) law_number_n dx rfl rfl (by simp) (by decide) rfl (fun _ _ => rfl) fun rs x' dx' hl hq => ?_
  obtain ⟨r1, r2, r3, r4, rfl⟩ : ∃ r1 r2 r3 r4, rs = [r1, r2, r3, r4] := by
    match rs, hl with
    | [a, b, c, d], _ => exact ⟨a, b, c, d, rfl⟩
  obtain ⟨n, hn, rfl⟩ := hq r1 (by simp)
  obtain ⟨d0, hd0, rfl⟩ := hq r2 (by simp)
  obtain ⟨e0, he0, rfl⟩ := hq r3 (by simp)
  obtain ⟨f0, hf0, rfl⟩ := hq r4 (by simp)
  simp_arith! only [oK_gTl]
  refine seq_mid (fun e => ∃ d f : Int, d ≠ 0 ∧ f ≠ 0 ∧ sz 101 d.natAbs ∧ sz 101 f.natAbs ∧ e = [.un, x', .sh (.int n), .sh (.int d), .sh (.int e0), .sh (.int f), .un, .un, .un, .un, .un, .un, .un, .un, .un, .un, .un, .un, .un, .un, .un, .un]) ?_ ?_
  · simp_arith! only [rn_xOrV, truD_i]
    have h7 : sz 101 (7 : Int).natAbs := show 7 < 2 ^ 101 by decide
    have h2 : sz 101 (-2 : Int).natAbs := show 2 < 2 ^ 101 by decide
    refine iK_of (fun z1 => iK_of (fun z2 => ⟨_, _, of_bne z1, of_bne z2, hd0, hf0, rfl⟩) fun z2 => ⟨_, _, of_bne z1, by decide, hd0, h2, rfl⟩) fun z1 => iK_of (fun z2 => ⟨_, _, by decide, of_bne z2, h7, hf0, rfl⟩) fun z2 => ⟨_, _, by decide, by decide, h7, h2, rfl⟩
  rintro e ⟨d, f, hd1, hf1, hd, hf, rfl⟩
  have hA := rq_sq (i := n) (j := d) hd1 hn hd
  have hB := rq_sq (i := e0) (j := f) hf1 he0 hf
  rw [rn_sSeq]
  simp_arith! only [ratio_z hd1 hn hd (by decide), ratio_z hf1 he0 hf (by decide)]
  refine seq_mid (fun e => e = [.un, x', .sh (.int n), .sh (.int d), .sh (.int e0), .sh (.int f), .sh (qD (rq n d)), .sh (qD (rq e0 f)), .un, .un, .un, .un, .un, .un, .un, .un, .un, .un, .un, .un, .un, .un]) ?_ ?_
  · simp_arith! only [law_low_z hd1 hn hd (by decide), law_low_z hf1 he0 hf (by decide), same_q]
  rintro e rfl
  generalize hAe : rq n d = A at *
  generalize hBe : rq e0 f = B at *
  rw [rn_sSeq]
  simp_arith! only [ixq0, ixq1, fMul_nd hA hB (by decide), fMul_nd hB hA (by decide), fMul_dd hA hB (by decide), fMul_num hA hB (by decide), low_add hA hB (by decide), low_sub hA hB (by decide), low_mul hA hB (by decide)]
  refine seq_mid (fun e => ∃ u8 u9 u10 : Sl, e = [.un, x', .sh (.int n), .sh (.int d), .sh (.int e0), .sh (.int f), .sh (qD A), .sh (qD B), u8, u9, u10, .un, .un, .un, .un, .un, .un, .un, .un, .un, .un, .un]) ?_ ?_
  · simp_arith! only [plus_q hA hB (by decide), minus_z hA hB (by decide), times_q hA hB (by decide), zp3, rn_floop_cons, rn_floop_nil, same_q]
    exact ⟨_, _, _, rfl⟩
  rintro e ⟨u8, u9, u10, rfl⟩
  refine seq_mid (fun e => e = [.un, x', .sh (.int n), .sh (.int d), .sh (.int e0), .sh (.int f), .sh (qD A), .sh (qD B), u8, u9, u10, .un, .un, .un, .un, .un, .un, .un, .un, .un, .un, .un]) ?_ ?_
  · simp_arith! only [ixq0, ixq1]
    refine iK_of (fun z => ?_) fun z => ?_
    · have h0 : B.num ≠ 0 := of_decide_eq_true z
      simp_arith! only [over_z hA hB (by decide) h0, ixq0, ixq1, fMul_nd hA hB (by decide), fMul_dn hA hB (by decide), low_div hA hB (by decide) h0, same_q]
    · simp_arith! only [and_self]
  rintro e rfl
  refine seq_mid (fun e => e = [.un, x', .sh (.int n), .sh (.int d), .sh (.int e0), .sh (.int f), .sh (qD A), .sh (qD B), u8, u9, u10, .sh (.bool (ltq A B)), .un, .un, .un, .un, .un, .un, .un, .un, .un, .un]) ?_ ?_
  · simp_arith! only [ixq0, ixq1, fMul_nd hA hB (by decide), fMul_nd hB hA (by decide)]
    rfl
  rintro e rfl
  refine seq_mid (fun e => e = [.un, x', .sh (.int n), .sh (.int d), .sh (.int e0), .sh (.int f), .sh (qD A), .sh (qD B), u8, u9, u10, .sh (.bool (ltq A B)), .un, .un, .un, .un, .un, .un, .un, .un, .un, .un]) ?_ ?_
  · simp_arith! only [below_q hA hB (by decide), says_b, lesser_q hA hB (by decide), greater_q hA hB (by decide), truD_bool]
    cases h1 : ltq A B with
    | true =>
      have h2 := ltq_asym h1
      simp_arith! only [h1, h2, greater_q hA hB (by decide), truD_bool, fNe_qD]
    | false =>
      cases h2 : ltq B A with
      | true =>
        simp_arith! only [h1, h2, greater_q hA hB (by decide), truD_bool, fNe_qD]
      | false =>
        have h3 := ltq_tri h1 h2
        rw [h3] at h1 ⊢; simp_arith! only [h1, greater_q hB hB (by decide), truD_bool, fNe_qD]
  rintro e rfl
  refine seq_mid (fun e => e = [.un, x', .sh (.int n), .sh (.int d), .sh (.int e0), .sh (.int f), .sh (qD A), .sh (qD B), u8, u9, u10, .sh (.bool (ltq A B)), .un, .un, .un, .un, .un, .un, .un, .un, .un, .un]) ?_ ?_
  · have hL : ∀ q ∈ [A, B, A, B, B], sq 101 q := fun q hq => by
      simp only [List.mem_cons, List.not_mem_nil, or_false] at hq
      rcases hq with rfl | rfl | rfl | rfl | rfl <;> assumption
    have ht : F_total [.sh (.list [qD A, qD B, qD A, qD B, qD B])] = .ok ⟨qD (A + B + (A + B) + B), false⟩ [.sh (.list [qD A, qD B, qD A, qD B, qD B])] := by
      have := total_q hL (show 102 * 5 + 101 ≤ 3900 by decide)
      rw [show sumQ [A, B, A, B, B] = A + B + (A + B) + B by unfold sumQ; simp only [List.foldl_cons, List.foldl_nil]; grind] at this
      exact this
    have hS := sq_add hA hB
    have hS2 := sq_add hS hS
    simp_arith! only [ht, plus_q hA hB (by decide), plus_q hS hS (by decide), plus_q hS2 hB (by decide), same_q, total_0, fNe_01]
  rintro e rfl
  have hl1 := strL_len hA.1
  have hl2 := strL_len (sz_den hA)
  have hl3 := tx_len hA
  refine seq_mid (fun e => e = [.un, x', .sh (.int n), .sh (.int d), .sh (.int e0), .sh (.int f), .sh (qD A), .sh (qD B), u8, u9, u10, .sh (.bool (ltq A B)), .sh (.str (SS (tx A))), .un, .un, .un, .un, .un, .un, .un, .un, .un]) ?_ ?_
  · simp_arith! only [ixq0, ixq1, dec_eq1]
    unfold tx
    refine iK_dec (fun hd => ?_) fun hd => ?_
    · rw [if_pos hd]
      simp_arith! only [ixq0, ixq1, fStr_z hA.1 (show 101 ≤ 1900 by decide)]
    · rw [if_neg hd]
      simp_arith! only [ixq0, ixq1, s_slash, fStr_z hA.1 (show 101 ≤ 1900 by decide), fStr_z (sz_den hA) (show 101 ≤ 1900 by decide), fAdd_S (a := strL A.num) (b := [47]) (by simp; omega), fAdd_S (a := strL A.num ++ [47]) (b := strL (A.den : Nat)) (by simp; omega)]
      simp
  rintro e rfl
  have hal := tx_al A
  refine seq_mid (fun e => e = [.un, x', .sh (.int n), .sh (.int d), .sh (.int e0), .sh (.int f), .sh (qD A), .sh (qD B), u8, u9, u10, .sh (.bool (ltq A B)), .sh (.str (SS (tx A))), .un, .un, .un, .un, .un, .un, .un, .un, .un]) ?_ ?_
  · have hr := law_reads_n hal (by omega)
    rw [due_tx] at hr
    simp_arith! only [ratio_text_n hA, fNe_S hal hal, hr, show readD (some (A.num, ((A.den : Nat) : Int))) = qD A from rfl, fNe_qD]
  rintro e rfl
  have hrd := law_reads_n hal (show (tx A).length ≤ 600 by omega)
  rw [due_tx] at hrd
  clear hl1 hl2 hd0 hf0 hd hf hAe hBe
  generalize hte : tx A = t at *
  refine seq_mid (fun e => ∃ (k : Nat) (x2 : Sl), k ≤ t.length ∧ DSl x2 ∧ e = [.un, x2, .sh (.int n), .sh (.int d), .sh (.int e0), .sh (.int f), .sh (qD A), .sh (qD B), u8, u9, u10, .sh (.bool (ltq A B)), .sh (.str (SS t)), .sh (.int (k : Nat)), .un, .un, .un, .un, .un, .un, .un, .un]) ?_ ?_
  · simp_arith! only [and_self]
    refine xD_run (take_n (m := t.length + 1) (by omega) (Nat.lt_of_le_of_lt (show t.length + 1 ≤ 81 by omega) (by decide))) dx' rfl (ok_of_run (by simp_arith only [fLen_S (show t.length ≤ 1000 by omega)]; rfl)) rfl fun r x2 dx2 hf => ?_
    obtain ⟨k, hk, rfl⟩ := hf
    simp_arith! only [and_self]
    exact ⟨k, x2, by omega, dx2, rfl⟩
  rintro e ⟨k, x2, hk, dx2, rfl⟩
  refine seq_mid (fun e => ∃ (c : Nat) (x3 : Sl), c < 128 ∧ DSl x3 ∧ e = [.un, x3, .sh (.int n), .sh (.int d), .sh (.int e0), .sh (.int f), .sh (qD A), .sh (qD B), u8, u9, u10, .sh (.bool (ltq A B)), .sh (.str (SS t)), .sh (.int (k : Nat)), .sh (.str (SS [c])), .un, .un, .un, .un, .un, .un, .un]) ?_ ?_
  · simp_arith! only [and_self]
    refine xD_run (take_n (m := 15) (by decide) (by decide)) dx2 rfl rfl rfl fun r x3 dx3 hf => ?_
    obtain ⟨i, hi, rfl⟩ := hf
    obtain ⟨c, hc, hix⟩ := sign_ix hi
    simp_arith! only [hix]
    exact ⟨c, x3, hc, dx3, rfl⟩
  rintro e ⟨c, x3, hc, dx3, rfl⟩
  have htl : (t.take k).length ≤ 80 := Nat.le_trans (List.length_take_le' _ _) hl3
  have hdl : ∀ j, (t.drop j).length ≤ 80 := fun j => by rw [List.length_drop]; omega
  have hc1 := al1 hc
  refine seq_mid (fun e => ∃ u15 u16 : Sl, e = [.un, x3, .sh (.int n), .sh (.int d), .sh (.int e0), .sh (.int f), .sh (qD A), .sh (qD B), u8, u9, u10, .sh (.bool (ltq A B)), .sh (.str (SS t)), .sh (.int (k : Nat)), .sh (.str (SS [c])), u15, u16, .un, .un, .un, .un, .un]) ?_ ?_
  · have ht1 : t.length ≤ 1000 := by omega
    simp_arith! only [fSl_st (k := k) ht1, fSl_sd (k := k) ht1, fSl_sk (k := k) ht1, s_1, s_2, s_3, s_4, s_5, s_6, s_7, fAdd_S (a := t.take k) (b := [c]) (by simp; omega), fAdd_S (a := t.take k ++ [c]) (b := t.drop k) (by have := hdl k; simp at *; omega), fAdd_S (a := t.take k) (b := t.drop (k + 1)) (by have := hdl (k + 1); simp at *; omega), fAdd_S (a := t) (b := [47, 49]) (by simp; omega), fAdd_S (a := [47]) (b := t) (by simp; omega), fAdd_S (a := [45]) (b := t) (by simp; omega), fAdd_S (a := [32]) (b := t) (by simp; omega), fAdd_S (a := [48]) (b := t) (by simp; omega), fAdd_S (a := t) (b := [47, 48]) (by simp; omega)]
    refine forD (txs t k c) (fun _ e => ∃ u15 u16 : Sl, e = [.un, x3, .sh (.int n), .sh (.int d), .sh (.int e0), .sh (.int f), .sh (qD A), .sh (qD B), u8, u9, u10, .sh (.bool (ltq A B)), .sh (.str (SS t)), .sh (.int (k : Nat)), .sh (.str (SS [c])), u15, u16, .un, .un, .un, .un, .un]) ⟨_, _, rfl⟩ (fun pre a post hq e ⟨u15, u16, he⟩ => ?_) (fun e ⟨u15, u16, he⟩ => ?_)
    · subst he
      obtain ⟨l, rfl, hal2, hll⟩ := txs_ok hal hl3 hc a (by rw [hq]; simp)
      have h1 := law_due_n hal2 (show l.length ≤ 600 by omega)
      have h2 := law_reads_n hal2 (show l.length ≤ 600 by omega)
      cases hd : dueL l with
      | none =>
        rw [hd] at h1 h2
        simp_arith only [↓rn_sSeq, h1, h2, optT, readD, fNe_selfD at_ok, fIsN, show isNone .none = true from rfl]
        exact ⟨_, _, rfl⟩
      | some z =>
        obtain ⟨i, j⟩ := z
        rw [hd] at h1 h2
        simp_arith only [↓rn_sSeq, h1, h2, optT, readD, fNe_selfD pair_ok, fIsN, show isNone (.tuple [.int i, .int j]) = false from rfl]
        exact ⟨_, _, rfl⟩
    · subst he
      simp_arith! only [and_self]
      exact ⟨_, _, rfl⟩
  rintro e ⟨u15, u16, rfl⟩
  refine seq_mid (fun e => ∃ u17 : Sl, e = [.un, x3, .sh (.int n), .sh (.int d), .sh (.int e0), .sh (.int f), .sh (qD A), .sh (qD B), u8, u9, u10, .sh (.bool (ltq A B)), .sh (.str (SS t)), .sh (.int (k : Nat)), .sh (.str (SS [c])), u15, u16, u17, .un, .un, .un, .un]) ?_ ?_
  · simp_arith! only [and_self]
    refine forD [.none, .int 5, .tuple [.int 1, .int 2], .list [.str "1"], .bool true] (fun _ e => ∃ u17 : Sl, e = [.un, x3, .sh (.int n), .sh (.int d), .sh (.int e0), .sh (.int f), .sh (qD A), .sh (qD B), u8, u9, u10, .sh (.bool (ltq A B)), .sh (.str (SS t)), .sh (.int (k : Nat)), .sh (.str (SS [c])), u15, u16, u17, .un, .un, .un, .un]) ⟨_, rfl⟩ (fun pre a post hq e ⟨u17, he⟩ => ?_) (fun e ⟨u17, he⟩ => ?_)
    · subst he
      have hs : isT .str a = false := by
        have hm : a ∈ ([.none, .int 5, .tuple [.int 1, .int 2], .list [.str "1"], .bool true] : List D) := by rw [hq]; simp
        simp only [List.mem_cons, List.not_mem_nil, or_false] at hm
        rcases hm with rfl | rfl | rfl | rfl | rfl <;> rfl
      simp_arith! only [reads_bad hs, fNe_selfD at_ok]
      exact ⟨_, rfl⟩
    · subst he
      simp_arith! only [and_self]
      exact ⟨_, rfl⟩
  rintro e ⟨u17, rfl⟩
  rw [rn_sSeq]
  simp_arith! only [and_self]
  rw [rn_sSeq]
  simp_arith! only [v_add]
  refine seq_mid (fun e => ∃ v17 u18 u19 u20 : Sl, e = [.un, x3, .sh (.int n), .sh (.int d), .sh (.int e0), .sh (.int f), .sh (qD A), .sh (qD B), u8, u9, u10, .sh (.bool (ltq A B)), .sh (.str (SS t)), .sh (.int (k : Nat)), .sh (.str (SS [c])), u15, u16, v17, u18, u19, u20, .un]) ?_ ?_
  · simp_arith! only [v_add2]
    refine forD [.tuple [.int n, .bool true, .bool false], .tuple [.bool true, .bool false, .bool false], .tuple [.str "1", .bool false, .bool false], .tuple [qD A, .bool false, .bool true], .tuple [.tuple [.int 2, .int 4], .bool false, .bool false], .tuple [.tuple [.int 1, .int (-2)], .bool false, .bool false], .tuple [.tuple [.int 0, .int 1], .bool false, .bool true], .tuple [.tuple [.int 0, .int 2], .bool false, .bool false], .tuple [.list [.int 1, .int 2], .bool false, .bool false], .tuple [.tuple [.bool true, .int 1], .bool false, .bool false], .tuple [.tuple [.int 1, .int 2, .int 3], .bool false, .bool false], .tuple [.none, .bool false, .bool false]] (fun _ e => ∃ v17 u18 u19 u20 : Sl, e = [.un, x3, .sh (.int n), .sh (.int d), .sh (.int e0), .sh (.int f), .sh (qD A), .sh (qD B), u8, u9, u10, .sh (.bool (ltq A B)), .sh (.str (SS t)), .sh (.int (k : Nat)), .sh (.str (SS [c])), u15, u16, v17, u18, u19, u20, .un]) ⟨_, _, _, _, rfl⟩ (fun pre a post hq e ⟨v17, u18, u19, u20, he⟩ => ?_) (fun e ⟨v17, u18, u19, u20, he⟩ => ?_)
    · subst he
      obtain ⟨v, b1, b2, rfl, h1, h2⟩ := vals_ok hA a (by rw [hq]; simp)
      simp_arith only [↓rn_sSeq, h1, h2, says_b]
      exact ⟨_, _, _, _, rfl⟩
    · subst he
      simp_arith! only [and_self]
      exact ⟨_, _, _, _, rfl⟩
  rintro e ⟨v17, u18, u19, u20, rfl⟩
  have hsl := strL_len hn
  refine seq_mid (fun e => e = [.un, x3, .sh (.int n), .sh (.int d), .sh (.int e0), .sh (.int f), .sh (qD A), .sh (qD B), u8, u9, u10, .sh (.bool (ltq A B)), .sh (.str (SS t)), .sh (.int (k : Nat)), .sh (.str (SS [c])), u15, u16, v17, u18, u19, u20, .un]) ?_ ?_
  · simp_arith! only [fStr_z hn (show 101 ≤ 1900 by decide), read_whole_ok (strL_al n) (show (strL n).length ≤ 600 by omega) (wt_strL n), vl_strL]
  rintro e rfl
  simp_arith! only [raises_0 (r_n0 (n := n)), raises_0 r_t2, raises_0 r_12, raises_0 r_1n, raises_1 (o_a0 (A := A)), truD_bool]
  exact ⟨_, rfl⟩
theorem plain_law (ns : List Int) (seed : Int) (hn : ns.length ≤ 63) (hs : 0 ≤ seed) (hs1 : seed < 2147483647) : ∃ e' fr, b_law (.un :: .ow true (.list [.list (ns.map fun n => .int (absI n)), .int (-1), .int 0, .int seed]) :: List.replicate 20 .un) = .ok (.rt ⟨.bool true, fr⟩) e' := by
  have dx : DSl (.ow true (.list [.list (ns.map fun n => .int (absI n)), .int (-1), .int 0, .int seed])) := by
    refine ⟨ns.map absI, -1, 0, seed, ⟨fun c hc => ?_, by simpa using hn, by decide, by decide, hs, hs1⟩, ?_⟩
    · obtain ⟨i, _, rfl⟩ := List.mem_map.mp hc
      unfold absI
      split <;> omega
    · unfold drD
      rw [List.map_map]; rfl
  obtain ⟨fl, e, h, fr, rfl⟩ := rn_ex' (plain_run _ dx)
  exact ⟨e, fr, h⟩


theorem ok_draw (T : Tx C mg P) : ∃ f fd, FnG P w C.K mg base 1 f fd ["script"] (spDraw C.K) ∧ mg "_law_draw" = some (.ref f) ∧ PySem.W.keepIn C.K (.ref f) = true ∧ Binds C.K fd ["script"] [] := by
  obtain ⟨f, fd, F, hm, bd⟩ := T.d__law_draw
  have nd : (["script", "seed", "cell"] : List Str).Nodup := by decide
  have Sc := sc__law_draw
  refine ⟨f, fd, Fun.okG F Sc (fun vs H Q E h => ?_) (fun cdv A outer s H vs Q E hr h => ?_), hm, F.kp, bd⟩
  · obtain ⟨a, ns, rfl, _⟩ := h
    rfl
  obtain ⟨a, ns, rfl, hS, h63, q⟩ := h
  refine ⟨_, pss_cons (ps_set (i := 1) nd rfl (Or.inl (by kernel_rfl)) pe_int)
    (pss_cons (ps_for (passes_of rfl) rfl (pi_list (pe_var (i := 0) rfl (Or.inl (by kernel_rfl)))) (pg_name (i := 2) nd rfl (Or.inl (by kernel_rfl)))
      (pss_one (ps_set (i := 1) nd rfl (Or.inl (by kernel_rfl)) (pe_op op_mod (pe_callTy call_int1 (glk (by kernel_rfl)) T.b_int PyProof.Rows.boot_int (pa_cons (pe_op op_add (pe_op op_add (pe_op op_mulW (pe_var (i := 1) rfl (Or.inl (by kernel_rfl))) pe_int)
        (pe_op op_mod (pe_callB call_abs (glk (by kernel_rfl)) T.b_abs PyProof.Rows.boot_abs (pa_cons (pe_callTy call_int1 (glk (by kernel_rfl)) T.b_int PyProof.Rows.boot_int (pa_cons (pe_var (i := 2) rfl (Or.inl (by kernel_rfl))) pa_nil)) pa_nil)) pe_int)) pe_int) pa_nil)) pe_int))))
    (pss_one (ps_ret (pe_lst (pa_cons (pe_lc (own := [("cell", 2)]) (g := gName 2) (tt := tYes) rfl nd (pi_list (pe_var (i := 0) rfl (Or.inl (by kernel_rfl)))) (blkOk_by (by kernel_rfl))
        (fun _ _ _ _ _ => pg_name (i := 2) nd rfl (Or.inl (by kernel_rfl))) (fun _ _ _ _ _ => pts_nil)
        (fun _ _ _ _ _ => pe_callB call_abs (glk (by kernel_rfl)) T.b_abs PyProof.Rows.boot_abs (pa_cons (pe_callTy call_int1 (glk (by kernel_rfl)) T.b_int PyProof.Rows.boot_int (pa_cons (pe_var (i := 2) rfl (Or.inl (by kernel_rfl))) pa_nil)) pa_nil)))
      (pa_cons (pe_un un_neg pe_int) (pa_cons pe_int (pa_cons (pe_var (i := 1) rfl (Or.inl (by kernel_rfl))) pa_nil)))))))), ?_⟩
  refine ⟨_, rfl, a, rfl, ⟨_, hS⟩, for_list (xs := ns.map V.int) (fun _ σ H' => H' = H ∧ ∃ (seed : Int) (x : Option V), σ = [some (V.ref a), some (V.int seed), x] ∧ 0 ≤ seed ∧ seed < 2147483647) ⟨rfl, 7, none, rfl, by decide, by decide⟩ (fun _ _ _ _ h => by rw [h.1]; exact hS) (fun i x σ H' hx h => ?_) (fun σ H' h => ?_)⟩
  · obtain ⟨rfl, seed, y, rfl, h0, h1⟩ := h
    rw [List.getElem?_map] at hx
    cases z : ns[i]? with
    | none => rw [z] at hx; cases hx
    | some n =>
      rw [z] at hx
      cases hx
      refine ⟨_, rfl, _, _, rfl, rfl, seed_mul h0 h1, _, rfl, .inl ⟨n, rfl, n, rfl, _, _, rfl, rfl, (by show (0 : Int) < 65521; decide), _, _, rfl, rfl, _, _, rfl, rfl, .inl ⟨_, rfl, _, _, rfl, rfl, (by show (0 : Int) < 2147483647; decide), rfl, _, _, rfl, ?_, ?_⟩⟩⟩
      · exact Int.emod_nonneg _ (by decide)
      · exact Int.emod_lt_of_pos _ (by decide)
  · obtain ⟨rfl, seed, y, rfl, h0, h1⟩ := h
    refine ⟨_, rfl, a, rfl, ⟨_, hS⟩, fun c hc => lc_list (xs := ns.map V.int) (fun i H'' => Same H' H'' ∧ H'' c = some (.lst ((ns.take i).map fun n => V.int (absI n)))) ⟨same_new hc _, upd_same⟩ (fun _ _ _ h => h.1.seq hS) (fun i x H'' hx h => ?_) (fun H'' h => ?_)⟩
    · rw [List.getElem?_map] at hx
      cases z : ns[i]? with
      | none => rw [z] at hx; cases hx
      | some n =>
        rw [z] at hx
        cases hx
        refine ⟨rfl, ?_⟩
        dsimp only [tYes]
        rw [if_pos rfl]
        refine ⟨_, rfl, .inl ⟨n, rfl, n, rfl, (ns.take i).map fun n => V.int (absI n), h.2, ?_, ?_, ?_⟩⟩
        · rw [List.length_map, List.length_take]
          exact small1000 (by omega)
        · intro b u e
          rw [upd_ne (fun z => by rw [z, hc] at e; cases e)]
          exact h.1 b u e
        · rw [upd_same, List.take_add_one, z]
          simp [absI]
    · refine ⟨1, rfl, _, rfl, by show 4 ≤ sizeLine; exact most_ok (by decide), fun r hr' => ?_⟩
      have hl : ns.take (ns.map V.int).length = ns := by rw [List.length_map, List.take_length]
      rw [hl] at h
      have nc : r ≠ c := fun z => by rw [z, h.2] at hr'; cases hr'
      exact q r c _ seed (h.1.trans (same_new hr' _)) (h.1.free hr') hc nc upd_same (by rw [upd_ne (Ne.symm nc)]; exact h.2) h0 h1
theorem ok_law (T : Tx C mg P) (hlaw : ∀ (ns : List Int) (seed : Int), ns.length ≤ 63 → 0 ≤ seed → seed < 2147483647 → ∃ e' fr, b_law (.un :: .ow true (.list [.list (ns.map fun n => .int (absI n)), .int (-1), .int 0, .int seed]) :: List.replicate 20 .un) = .ok (.rt ⟨.bool true, fr⟩) e') :
    ∃ f fd, FnG P w C.K mg base 5 f fd ["script"] (spLaw C.K) ∧ mg "law" = some (.ref f) ∧ Fun C.K "law" "law" s_law f fd := by
  obtain ⟨f, fd, F, hm, bd⟩ := T.d_law
  obtain ⟨fD, fdD, FD, mD, kD, bD⟩ := ok_draw (P := P) (w := w) (base := base) T
  have nd : (["script", "draw", "n", "d", "e", "f", "a", "b", "due", "told", "item", "less", "text", "at", "sign", "other", "expected", "value", "values", "due_whole", "due_ratio", "turn"] : List Str).Nodup := by decide
  refine ⟨f, fd, Fun.okG F sc_law (fun vs H Q E h => ?_) (fun cdv A outer s H vs Q E hr h => ?_), hm, F⟩
  · obtain ⟨a, ns, rfl, _⟩ := h
    rfl
  obtain ⟨a, ns, rfl, hS, h63, q⟩ := h
  refine ⟨_, pss_cons (ps_set (i := 1) nd rfl (Or.inr (by kernel_rfl)) (pe_callG (FD.mono (by decide)) hr (glk (by kernel_rfl)) mD kD bD (takes_of rfl rfl rfl rfl) (pa_cons (pe_var (i := 0) rfl (Or.inl (by kernel_rfl))) pa_nil))) (r_law T hr), ?_⟩
  refine ⟨_, rfl, a, ns, rfl, hS, h63, fun r c H' seed same fr fc nc e1 e2 h0 h1 => ?_⟩
  obtain ⟨e', fr', he⟩ := hlaw ns seed h63 h0 h1
  refine ⟨_, fun _ => False, draw_sim (n := 20) (a := a) nc e1 e2, ?_⟩
  rw [he]
  exact fun σ' v H2 p => by
    have rp := p.is.sh.2
    cases rp
    exact q H2
set_option maxHeartbeats 0 in
theorem all_mk {l : PySem.W.OpenLaw} {w : World} {K : PySem.W.Frag} {h : Heap} {mg : Str → Option Value} {fa : Addr} (X : K.In h) (G : h.Ns mainGlobals mg) (hfa : mg "law" = some (.ref fa))
    (z_ValueError : PySem.W.nsIn K mainGlobals "ValueError" = some none)
    (z_abs : PySem.W.nsIn K mainGlobals "abs" = some none)
    (z_all : PySem.W.nsIn K mainGlobals "all" = some none)
    (z_any : PySem.W.nsIn K mainGlobals "any" = some none)
    (z_bool : PySem.W.nsIn K mainGlobals "bool" = some none)
    (z_int : PySem.W.nsIn K mainGlobals "int" = some none)
    (z_isinstance : PySem.W.nsIn K mainGlobals "isinstance" = some none)
    (z_len : PySem.W.nsIn K mainGlobals "len" = some none)
    (z_range : PySem.W.nsIn K mainGlobals "range" = some none)
    (z_str : PySem.W.nsIn K mainGlobals "str" = some none)
    (z_super : PySem.W.nsIn K mainGlobals "super" = some none)
    (z_tuple : PySem.W.nsIn K mainGlobals "tuple" = some none)
    (z_zip : PySem.W.nsIn K mainGlobals "zip" = some none)
    {u_MOST_DIGITS : Value}
    (ga_MOST_DIGITS : PySem.W.nsIn K mainGlobals "MOST_DIGITS" = some (some u_MOST_DIGITS))
    (gr_MOST_DIGITS : repIn K 30 u_MOST_DIGITS d_MOST_DIGITS = true)
    {u_DIGITS : Value}
    (ga_DIGITS : PySem.W.nsIn K mainGlobals "DIGITS" = some (some u_DIGITS))
    (gr_DIGITS : repIn K 30 u_DIGITS d_DIGITS = true)
    {u_ZERO : Value}
    (ga_ZERO : PySem.W.nsIn K mainGlobals "ZERO" = some (some u_ZERO))
    (gr_ZERO : repIn K 30 u_ZERO d_ZERO = true)
    {c_Malformed : Addr}
    {c_NoText : Addr}
    (xa_Malformed : PySem.W.nsIn K mainGlobals "Malformed" = some (some (.ref c_Malformed)))
    (xq_Malformed : PySem.W.excIn K c_Malformed [.type "ValueError", .type "Exception", .type "BaseException", .type "object"] "ValueError.__new__" = true)
    (xk_Malformed : PySem.W.keepIn K (.ref c_Malformed) = true)
    (xb_Malformed : PySem.W.subIn K (.ref c_Malformed) (.type "BaseException") = some true)
    (xt_Malformed : PySem.W.typeIn K (.ref c_Malformed) = some (.type "type"))
    (xa_NoText : PySem.W.nsIn K mainGlobals "NoText" = some (some (.ref c_NoText)))
    {cd_NoText : PySem.ClassData} {fI_NoText cda_NoText cc_NoText : Addr} {oc_NoText doc_NoText pm_NoText ct_NoText ccl_NoText cl_NoText : Value} {od_NoText an_NoText cdd_NoText cld_NoText : Option Addr} {osl_NoText ccs_NoText csl_NoText : Array (Option Value)} {vs_NoText : Array Value} {file_NoText : Str} {tf_NoText : Tok}
    (yq_NoText : PySem.W.excInitIn K c_NoText [.type "ValueError", .type "Exception", .type "BaseException", .type "object"] "ValueError.__new__" = true)
    (yc_NoText : PySem.W.clsIn K c_NoText = some cd_NoText)
    (ycm_NoText : PySem.HandSPX.refsVE cd_NoText.mro = true)
    (ych_NoText : cd_NoText.hasDict = true)
    (ysa_NoText : PySem.W.findIn K (.ref c_NoText) "__setattr__" = some (some (.builtin "object.__setattr__")))
    (yga_NoText : PySem.W.findIn K (.ref c_NoText) "__getattribute__" = some (some (.builtin "BaseException.__getattribute__")))
    (ygg_NoText : PySem.W.findIn K (.ref c_NoText) "__getattr__" = some none)
    (ynn_NoText : PySem.W.findIn K (.ref c_NoText) "at" = some none)
    (yiC_NoText : PySem.W.findIn K (.ref c_NoText) "__init__" = some (some (.ref fI_NoText)))
    (yk_NoText : PySem.W.keepIn K (.ref c_NoText) = true)
    (yeb_NoText : PySem.W.subIn K (.ref c_NoText) (.type "BaseException") = some true)
    (yvb_NoText : PySem.W.subIn K (.ref c_NoText) (.type "ValueError") = some true)
    (yty_NoText : PySem.W.typeIn K (.ref c_NoText) = some (.type "type"))
    (yhd_NoText : PySem.W.hasDictIn K c_NoText = true)
    (ysu_NoText : PySem.W.ks_superIn K c_NoText c_NoText "__init__" = some (some (.builtin "ValueError.__init__")))
    (yop_NoText : PySem.W.nsIn K cStatics "thirdparty.any" = some none)
    (ymr_NoText : PySem.W.mroIn K c_NoText (.ref c_NoText) = some true)
    (ytp_NoText : (l.prog.main.scope.names.lookup ("super" : Str)).isSome = false)
    (yti_NoText : PySem.W.typeIn K (.ref fI_NoText) = some (.type "function"))
    (yfn_NoText : K.lookup fI_NoText = some ⟨oc_NoText, od_NoText, .func (PySem.W.ksFn "__init__" "NoText.__init__" (PySem.OwnX.iA "at" ⟨8, 17, 8, 21⟩ ⟨8, 23, 8, 25⟩) (PySem.OwnX.iB "at" (PySem.OwnX.argN "at" "at " 0 ⟨9, 25, 9, 30⟩ ⟨9, 33, 9, 36⟩ ⟨9, 37, 9, 39⟩ ⟨9, 33, 9, 40⟩ ⟨9, 25, 9, 40⟩) ⟨9, 8, 9, 13⟩ ⟨9, 8, 9, 15⟩ ⟨9, 8, 9, 24⟩ ⟨9, 8, 9, 41⟩ ⟨9, 8, 9, 41⟩ ⟨10, 8, 10, 12⟩ ⟨10, 8, 10, 15⟩ ⟨10, 18, 10, 20⟩ ⟨10, 8, 10, 20⟩) { kind := .function, names := [(PySem.Str.ofString "self", .local), (PySem.Str.ofString "at", .local), (PySem.Str.ofString "__class__", .free), (PySem.Str.ofString "super", .globalImplicit), (PySem.Str.ofString "str", .globalImplicit)], isGenerator := false, isCoroutine := false, more := [] } .none .none doc_NoText pm_NoText an_NoText (.ref cda_NoText) ct_NoText cc_NoText), osl_NoText⟩)
    (yco_NoText : PySem.W.codeIn K (.ref cda_NoText) "NoText.__init__" = true)
    (ylc_NoText : K.lookup cda_NoText = some ⟨ccl_NoText, cdd_NoText, .fields vs_NoText, ccs_NoText⟩)
    (yvs_NoText : vs_NoText[2]? = some (.str file_NoText tf_NoText))
    (yfi_NoText : ((l.prog.main.file : Str) == file_NoText) = true)
    (yce_NoText : K.lookup cc_NoText = some ⟨cl_NoText, cld_NoText, .cell (some (.ref c_NoText)), csl_NoText⟩)
    {cf_Fault : Addr}
    (ja_Fault : PySem.W.nsIn K mainGlobals "Fault" = some (some (.ref cf_Fault)))
    {cf_Malformed : Addr}
    (ja_Malformed : PySem.W.nsIn K mainGlobals "Malformed" = some (some (.ref cf_Malformed)))
    {cf_NoText : Addr}
    (ja_NoText : PySem.W.nsIn K mainGlobals "NoText" = some (some (.ref cf_NoText)))
    (jcl2_Malformed_Fault : (PySem.W.clsIn K c_Malformed).isSome = true)
    (jga2_Malformed_Fault : PySem.W.findIn K (.ref c_Malformed) "__getattribute__" = some (some (.builtin "BaseException.__getattribute__")))
    (jgg2_Malformed_Fault : PySem.W.findIn K (.ref c_Malformed) "__getattr__" = some none)
    (jeb2_Malformed_Fault : PySem.W.subIn K (.ref c_Malformed) (.type "BaseException") = some true)
    (jca2_Malformed_Fault : PySem.W.findIn K (.ref c_Malformed) "__class__" = some (some (.builtin "object.__class__")))
    (jsp2_Malformed_Fault : PySem.W.specialIn K (.builtin "object.__class__") "__get__" = some (some (.builtin "getset_descriptor.__get__")))
    (jtk2_Malformed_Fault : PySem.W.takesIn K (.builtin "object.__class__") = some true)
    (jmo2_Malformed_Fault : PySem.W.mroIn K c_Malformed (.type "object") = some true)
    (jis2_Malformed_Fault : PySem.W.kitOne K (.ref c_Malformed) (.ref cf_Fault) = some true)
    (jcl2_Malformed_NoText : (PySem.W.clsIn K c_Malformed).isSome = true)
    (jga2_Malformed_NoText : PySem.W.findIn K (.ref c_Malformed) "__getattribute__" = some (some (.builtin "BaseException.__getattribute__")))
    (jgg2_Malformed_NoText : PySem.W.findIn K (.ref c_Malformed) "__getattr__" = some none)
    (jeb2_Malformed_NoText : PySem.W.subIn K (.ref c_Malformed) (.type "BaseException") = some true)
    (jca2_Malformed_NoText : PySem.W.findIn K (.ref c_Malformed) "__class__" = some (some (.builtin "object.__class__")))
    (jsp2_Malformed_NoText : PySem.W.specialIn K (.builtin "object.__class__") "__get__" = some (some (.builtin "getset_descriptor.__get__")))
    (jtk2_Malformed_NoText : PySem.W.takesIn K (.builtin "object.__class__") = some true)
    (jmo2_Malformed_NoText : PySem.W.mroIn K c_Malformed (.type "object") = some true)
    (jis2_Malformed_NoText : PySem.W.kitOne K (.ref c_Malformed) (.ref cf_NoText) = some false)
    (jcl2_NoText_Fault : (PySem.W.clsIn K c_NoText).isSome = true)
    (jga2_NoText_Fault : PySem.W.findIn K (.ref c_NoText) "__getattribute__" = some (some (.builtin "BaseException.__getattribute__")))
    (jgg2_NoText_Fault : PySem.W.findIn K (.ref c_NoText) "__getattr__" = some none)
    (jeb2_NoText_Fault : PySem.W.subIn K (.ref c_NoText) (.type "BaseException") = some true)
    (jca2_NoText_Fault : PySem.W.findIn K (.ref c_NoText) "__class__" = some (some (.builtin "object.__class__")))
    (jsp2_NoText_Fault : PySem.W.specialIn K (.builtin "object.__class__") "__get__" = some (some (.builtin "getset_descriptor.__get__")))
    (jtk2_NoText_Fault : PySem.W.takesIn K (.builtin "object.__class__") = some true)
    (jmo2_NoText_Fault : PySem.W.mroIn K c_NoText (.type "object") = some true)
    (jis2_NoText_Fault : PySem.W.kitOne K (.ref c_NoText) (.ref cf_Fault) = some true)
    (jcl2_NoText_ValueError : (PySem.W.clsIn K c_NoText).isSome = true)
    (jga2_NoText_ValueError : PySem.W.findIn K (.ref c_NoText) "__getattribute__" = some (some (.builtin "BaseException.__getattribute__")))
    (jgg2_NoText_ValueError : PySem.W.findIn K (.ref c_NoText) "__getattr__" = some none)
    (jeb2_NoText_ValueError : PySem.W.subIn K (.ref c_NoText) (.type "BaseException") = some true)
    (jca2_NoText_ValueError : PySem.W.findIn K (.ref c_NoText) "__class__" = some (some (.builtin "object.__class__")))
    (jsp2_NoText_ValueError : PySem.W.specialIn K (.builtin "object.__class__") "__get__" = some (some (.builtin "getset_descriptor.__get__")))
    (jtk2_NoText_ValueError : PySem.W.takesIn K (.builtin "object.__class__") = some true)
    (jmo2_NoText_ValueError : PySem.W.mroIn K c_NoText (.type "object") = some true)
    (jis2_NoText_ValueError : PySem.W.kitOne K (.ref c_NoText) (.type "ValueError") = some true)
    (jcl2_NoText_Malformed : (PySem.W.clsIn K c_NoText).isSome = true)
    (jga2_NoText_Malformed : PySem.W.findIn K (.ref c_NoText) "__getattribute__" = some (some (.builtin "BaseException.__getattribute__")))
    (jgg2_NoText_Malformed : PySem.W.findIn K (.ref c_NoText) "__getattr__" = some none)
    (jeb2_NoText_Malformed : PySem.W.subIn K (.ref c_NoText) (.type "BaseException") = some true)
    (jca2_NoText_Malformed : PySem.W.findIn K (.ref c_NoText) "__class__" = some (some (.builtin "object.__class__")))
    (jsp2_NoText_Malformed : PySem.W.specialIn K (.builtin "object.__class__") "__get__" = some (some (.builtin "getset_descriptor.__get__")))
    (jtk2_NoText_Malformed : PySem.W.takesIn K (.builtin "object.__class__") = some true)
    (jmo2_NoText_Malformed : PySem.W.mroIn K c_NoText (.type "object") = some true)
    (jis2_NoText_Malformed : PySem.W.kitOne K (.ref c_NoText) (.ref cf_Malformed) = some false)
    (xm_Malformed_Malformed : PySem.W.exmOne K (.ref c_Malformed) (.ref c_Malformed) = some true)
    (xm_NoText_Malformed : PySem.W.exmOne K (.ref c_NoText) (.ref c_Malformed) = some false)
    (xm_Malformed_NoText : PySem.W.exmOne K (.ref c_Malformed) (.ref c_NoText) = some false)
    (xm_NoText_NoText : PySem.W.exmOne K (.ref c_NoText) (.ref c_NoText) = some true)
    {f__law_draw : Addr} {od__law_draw an__law_draw : Option Addr} {sl__law_draw : Array (Option Value)} {oc__law_draw kV__law_draw dc__law_draw pm__law_draw cd__law_draw ct__law_draw : Value}
    (a__law_draw : PySem.W.nsIn K mainGlobals "_law_draw" = some (some (.ref f__law_draw)))
    (l__law_draw : K.lookup f__law_draw = some ⟨oc__law_draw, od__law_draw, .func (PySem.W.fnOf "_law_draw" "_law_draw" (defArgs s__law_draw) (defBody s__law_draw) (defScope s__law_draw) .none kV__law_draw dc__law_draw pm__law_draw an__law_draw cd__law_draw ct__law_draw), sl__law_draw⟩)
    (cc__law_draw : PySem.W.codeIn K cd__law_draw "_law_draw" = true)
    (k__law_draw : PySem.W.keepIn K (.ref f__law_draw) = true)
    {f__law_take : Addr} {od__law_take an__law_take : Option Addr} {sl__law_take : Array (Option Value)} {oc__law_take kV__law_take dc__law_take pm__law_take cd__law_take ct__law_take : Value}
    (a__law_take : PySem.W.nsIn K mainGlobals "_law_take" = some (some (.ref f__law_take)))
    (l__law_take : K.lookup f__law_take = some ⟨oc__law_take, od__law_take, .func (PySem.W.fnOf "_law_take" "_law_take" (defArgs s__law_take) (defBody s__law_take) (defScope s__law_take) .none kV__law_take dc__law_take pm__law_take an__law_take cd__law_take ct__law_take), sl__law_take⟩)
    (cc__law_take : PySem.W.codeIn K cd__law_take "_law_take" = true)
    (k__law_take : PySem.W.keepIn K (.ref f__law_take) = true)
    {f__law_number : Addr} {od__law_number an__law_number : Option Addr} {sl__law_number : Array (Option Value)} {oc__law_number kV__law_number dc__law_number pm__law_number cd__law_number ct__law_number : Value}
    (a__law_number : PySem.W.nsIn K mainGlobals "_law_number" = some (some (.ref f__law_number)))
    (l__law_number : K.lookup f__law_number = some ⟨oc__law_number, od__law_number, .func (PySem.W.fnOf "_law_number" "_law_number" (defArgs s__law_number) (defBody s__law_number) (defScope s__law_number) .none kV__law_number dc__law_number pm__law_number an__law_number cd__law_number ct__law_number), sl__law_number⟩)
    (cc__law_number : PySem.W.codeIn K cd__law_number "_law_number" = true)
    (k__law_number : PySem.W.keepIn K (.ref f__law_number) = true)
    {f_common : Addr} {od_common an_common : Option Addr} {sl_common : Array (Option Value)} {oc_common kV_common dc_common pm_common cd_common ct_common : Value}
    (a_common : PySem.W.nsIn K mainGlobals "common" = some (some (.ref f_common)))
    (l_common : K.lookup f_common = some ⟨oc_common, od_common, .func (PySem.W.fnOf "common" "common" (defArgs s_common) (defBody s_common) (defScope s_common) .none kV_common dc_common pm_common an_common cd_common ct_common), sl_common⟩)
    (cc_common : PySem.W.codeIn K cd_common "common" = true)
    (k_common : PySem.W.keepIn K (.ref f_common) = true)
    {f_lowest : Addr} {od_lowest an_lowest : Option Addr} {sl_lowest : Array (Option Value)} {oc_lowest kV_lowest dc_lowest pm_lowest cd_lowest ct_lowest : Value}
    (a_lowest : PySem.W.nsIn K mainGlobals "lowest" = some (some (.ref f_lowest)))
    (l_lowest : K.lookup f_lowest = some ⟨oc_lowest, od_lowest, .func (PySem.W.fnOf "lowest" "lowest" (defArgs s_lowest) (defBody s_lowest) (defScope s_lowest) .none kV_lowest dc_lowest pm_lowest an_lowest cd_lowest ct_lowest), sl_lowest⟩)
    (cc_lowest : PySem.W.codeIn K cd_lowest "lowest" = true)
    (k_lowest : PySem.W.keepIn K (.ref f_lowest) = true)
    {f_is_whole : Addr} {od_is_whole an_is_whole : Option Addr} {sl_is_whole : Array (Option Value)} {oc_is_whole kV_is_whole dc_is_whole pm_is_whole cd_is_whole ct_is_whole : Value}
    (a_is_whole : PySem.W.nsIn K mainGlobals "is_whole" = some (some (.ref f_is_whole)))
    (l_is_whole : K.lookup f_is_whole = some ⟨oc_is_whole, od_is_whole, .func (PySem.W.fnOf "is_whole" "is_whole" (defArgs s_is_whole) (defBody s_is_whole) (defScope s_is_whole) .none kV_is_whole dc_is_whole pm_is_whole an_is_whole cd_is_whole ct_is_whole), sl_is_whole⟩)
    (cc_is_whole : PySem.W.codeIn K cd_is_whole "is_whole" = true)
    (k_is_whole : PySem.W.keepIn K (.ref f_is_whole) = true)
    {f_ratio : Addr} {od_ratio an_ratio : Option Addr} {sl_ratio : Array (Option Value)} {oc_ratio kV_ratio dc_ratio pm_ratio cd_ratio ct_ratio : Value}
    (a_ratio : PySem.W.nsIn K mainGlobals "ratio" = some (some (.ref f_ratio)))
    (l_ratio : K.lookup f_ratio = some ⟨oc_ratio, od_ratio, .func (PySem.W.fnOf "ratio" "ratio" (defArgs s_ratio) (defBody s_ratio) (defScope s_ratio) .none kV_ratio dc_ratio pm_ratio an_ratio cd_ratio ct_ratio), sl_ratio⟩)
    (cc_ratio : PySem.W.codeIn K cd_ratio "ratio" = true)
    (k_ratio : PySem.W.keepIn K (.ref f_ratio) = true)
    {f__law_gcd : Addr} {od__law_gcd an__law_gcd : Option Addr} {sl__law_gcd : Array (Option Value)} {oc__law_gcd kV__law_gcd dc__law_gcd pm__law_gcd cd__law_gcd ct__law_gcd : Value}
    (a__law_gcd : PySem.W.nsIn K mainGlobals "_law_gcd" = some (some (.ref f__law_gcd)))
    (l__law_gcd : K.lookup f__law_gcd = some ⟨oc__law_gcd, od__law_gcd, .func (PySem.W.fnOf "_law_gcd" "_law_gcd" (defArgs s__law_gcd) (defBody s__law_gcd) (defScope s__law_gcd) .none kV__law_gcd dc__law_gcd pm__law_gcd an__law_gcd cd__law_gcd ct__law_gcd), sl__law_gcd⟩)
    (cc__law_gcd : PySem.W.codeIn K cd__law_gcd "_law_gcd" = true)
    (k__law_gcd : PySem.W.keepIn K (.ref f__law_gcd) = true)
    {f__law_low : Addr} {od__law_low an__law_low : Option Addr} {sl__law_low : Array (Option Value)} {oc__law_low kV__law_low dc__law_low pm__law_low cd__law_low ct__law_low : Value}
    (a__law_low : PySem.W.nsIn K mainGlobals "_law_low" = some (some (.ref f__law_low)))
    (l__law_low : K.lookup f__law_low = some ⟨oc__law_low, od__law_low, .func (PySem.W.fnOf "_law_low" "_law_low" (defArgs s__law_low) (defBody s__law_low) (defScope s__law_low) .none kV__law_low dc__law_low pm__law_low an__law_low cd__law_low ct__law_low), sl__law_low⟩)
    (cc__law_low : PySem.W.codeIn K cd__law_low "_law_low" = true)
    (k__law_low : PySem.W.keepIn K (.ref f__law_low) = true)
    {f__law_whole_text : Addr} {od__law_whole_text an__law_whole_text : Option Addr} {sl__law_whole_text : Array (Option Value)} {oc__law_whole_text kV__law_whole_text dc__law_whole_text pm__law_whole_text cd__law_whole_text ct__law_whole_text : Value}
    (a__law_whole_text : PySem.W.nsIn K mainGlobals "_law_whole_text" = some (some (.ref f__law_whole_text)))
    (l__law_whole_text : K.lookup f__law_whole_text = some ⟨oc__law_whole_text, od__law_whole_text, .func (PySem.W.fnOf "_law_whole_text" "_law_whole_text" (defArgs s__law_whole_text) (defBody s__law_whole_text) (defScope s__law_whole_text) .none kV__law_whole_text dc__law_whole_text pm__law_whole_text an__law_whole_text cd__law_whole_text ct__law_whole_text), sl__law_whole_text⟩)
    (cc__law_whole_text : PySem.W.codeIn K cd__law_whole_text "_law_whole_text" = true)
    (k__law_whole_text : PySem.W.keepIn K (.ref f__law_whole_text) = true)
    {f__law_due : Addr} {od__law_due an__law_due : Option Addr} {sl__law_due : Array (Option Value)} {oc__law_due kV__law_due dc__law_due pm__law_due cd__law_due ct__law_due : Value}
    (a__law_due : PySem.W.nsIn K mainGlobals "_law_due" = some (some (.ref f__law_due)))
    (l__law_due : K.lookup f__law_due = some ⟨oc__law_due, od__law_due, .func (PySem.W.fnOf "_law_due" "_law_due" (defArgs s__law_due) (defBody s__law_due) (defScope s__law_due) .none kV__law_due dc__law_due pm__law_due an__law_due cd__law_due ct__law_due), sl__law_due⟩)
    (cc__law_due : PySem.W.codeIn K cd__law_due "_law_due" = true)
    (k__law_due : PySem.W.keepIn K (.ref f__law_due) = true)
    {f_read_whole : Addr} {od_read_whole an_read_whole : Option Addr} {sl_read_whole : Array (Option Value)} {oc_read_whole kV_read_whole dc_read_whole pm_read_whole cd_read_whole ct_read_whole : Value}
    (a_read_whole : PySem.W.nsIn K mainGlobals "read_whole" = some (some (.ref f_read_whole)))
    (l_read_whole : K.lookup f_read_whole = some ⟨oc_read_whole, od_read_whole, .func (PySem.W.fnOf "read_whole" "read_whole" (defArgs s_read_whole) (defBody s_read_whole) (defScope s_read_whole) .none kV_read_whole dc_read_whole pm_read_whole an_read_whole cd_read_whole ct_read_whole), sl_read_whole⟩)
    (cc_read_whole : PySem.W.codeIn K cd_read_whole "read_whole" = true)
    (k_read_whole : PySem.W.keepIn K (.ref f_read_whole) = true)
    {f_over : Addr} {od_over an_over : Option Addr} {sl_over : Array (Option Value)} {oc_over kV_over dc_over pm_over cd_over ct_over : Value}
    (a_over : PySem.W.nsIn K mainGlobals "over" = some (some (.ref f_over)))
    (l_over : K.lookup f_over = some ⟨oc_over, od_over, .func (PySem.W.fnOf "over" "over" (defArgs s_over) (defBody s_over) (defScope s_over) .none kV_over dc_over pm_over an_over cd_over ct_over), sl_over⟩)
    (cc_over : PySem.W.codeIn K cd_over "over" = true)
    (k_over : PySem.W.keepIn K (.ref f_over) = true)
    {f__law_raises : Addr} {od__law_raises an__law_raises : Option Addr} {sl__law_raises : Array (Option Value)} {oc__law_raises kV__law_raises dc__law_raises pm__law_raises cd__law_raises ct__law_raises : Value}
    (a__law_raises : PySem.W.nsIn K mainGlobals "_law_raises" = some (some (.ref f__law_raises)))
    (l__law_raises : K.lookup f__law_raises = some ⟨oc__law_raises, od__law_raises, .func (PySem.W.fnOf "_law_raises" "_law_raises" (defArgs s__law_raises) (defBody s__law_raises) (defScope s__law_raises) .none kV__law_raises dc__law_raises pm__law_raises an__law_raises cd__law_raises ct__law_raises), sl__law_raises⟩)
    (cc__law_raises : PySem.W.codeIn K cd__law_raises "_law_raises" = true)
    (k__law_raises : PySem.W.keepIn K (.ref f__law_raises) = true)
    {f__law_same : Addr} {od__law_same an__law_same : Option Addr} {sl__law_same : Array (Option Value)} {oc__law_same kV__law_same dc__law_same pm__law_same cd__law_same ct__law_same : Value}
    (a__law_same : PySem.W.nsIn K mainGlobals "_law_same" = some (some (.ref f__law_same)))
    (l__law_same : K.lookup f__law_same = some ⟨oc__law_same, od__law_same, .func (PySem.W.fnOf "_law_same" "_law_same" (defArgs s__law_same) (defBody s__law_same) (defScope s__law_same) .none kV__law_same dc__law_same pm__law_same an__law_same cd__law_same ct__law_same), sl__law_same⟩)
    (cc__law_same : PySem.W.codeIn K cd__law_same "_law_same" = true)
    (k__law_same : PySem.W.keepIn K (.ref f__law_same) = true)
    {f_plus : Addr} {od_plus an_plus : Option Addr} {sl_plus : Array (Option Value)} {oc_plus kV_plus dc_plus pm_plus cd_plus ct_plus : Value}
    (a_plus : PySem.W.nsIn K mainGlobals "plus" = some (some (.ref f_plus)))
    (l_plus : K.lookup f_plus = some ⟨oc_plus, od_plus, .func (PySem.W.fnOf "plus" "plus" (defArgs s_plus) (defBody s_plus) (defScope s_plus) .none kV_plus dc_plus pm_plus an_plus cd_plus ct_plus), sl_plus⟩)
    (cc_plus : PySem.W.codeIn K cd_plus "plus" = true)
    (k_plus : PySem.W.keepIn K (.ref f_plus) = true)
    {f_minus : Addr} {od_minus an_minus : Option Addr} {sl_minus : Array (Option Value)} {oc_minus kV_minus dc_minus pm_minus cd_minus ct_minus : Value}
    (a_minus : PySem.W.nsIn K mainGlobals "minus" = some (some (.ref f_minus)))
    (l_minus : K.lookup f_minus = some ⟨oc_minus, od_minus, .func (PySem.W.fnOf "minus" "minus" (defArgs s_minus) (defBody s_minus) (defScope s_minus) .none kV_minus dc_minus pm_minus an_minus cd_minus ct_minus), sl_minus⟩)
    (cc_minus : PySem.W.codeIn K cd_minus "minus" = true)
    (k_minus : PySem.W.keepIn K (.ref f_minus) = true)
    {f_times : Addr} {od_times an_times : Option Addr} {sl_times : Array (Option Value)} {oc_times kV_times dc_times pm_times cd_times ct_times : Value}
    (a_times : PySem.W.nsIn K mainGlobals "times" = some (some (.ref f_times)))
    (l_times : K.lookup f_times = some ⟨oc_times, od_times, .func (PySem.W.fnOf "times" "times" (defArgs s_times) (defBody s_times) (defScope s_times) .none kV_times dc_times pm_times an_times cd_times ct_times), sl_times⟩)
    (cc_times : PySem.W.codeIn K cd_times "times" = true)
    (k_times : PySem.W.keepIn K (.ref f_times) = true)
    {f__law_says : Addr} {od__law_says an__law_says : Option Addr} {sl__law_says : Array (Option Value)} {oc__law_says kV__law_says dc__law_says pm__law_says cd__law_says ct__law_says : Value}
    (a__law_says : PySem.W.nsIn K mainGlobals "_law_says" = some (some (.ref f__law_says)))
    (l__law_says : K.lookup f__law_says = some ⟨oc__law_says, od__law_says, .func (PySem.W.fnOf "_law_says" "_law_says" (defArgs s__law_says) (defBody s__law_says) (defScope s__law_says) .none kV__law_says dc__law_says pm__law_says an__law_says cd__law_says ct__law_says), sl__law_says⟩)
    (cc__law_says : PySem.W.codeIn K cd__law_says "_law_says" = true)
    (k__law_says : PySem.W.keepIn K (.ref f__law_says) = true)
    {f_below : Addr} {od_below an_below : Option Addr} {sl_below : Array (Option Value)} {oc_below kV_below dc_below pm_below cd_below ct_below : Value}
    (a_below : PySem.W.nsIn K mainGlobals "below" = some (some (.ref f_below)))
    (l_below : K.lookup f_below = some ⟨oc_below, od_below, .func (PySem.W.fnOf "below" "below" (defArgs s_below) (defBody s_below) (defScope s_below) .none kV_below dc_below pm_below an_below cd_below ct_below), sl_below⟩)
    (cc_below : PySem.W.codeIn K cd_below "below" = true)
    (k_below : PySem.W.keepIn K (.ref f_below) = true)
    {f_lesser : Addr} {od_lesser an_lesser : Option Addr} {sl_lesser : Array (Option Value)} {oc_lesser kV_lesser dc_lesser pm_lesser cd_lesser ct_lesser : Value}
    (a_lesser : PySem.W.nsIn K mainGlobals "lesser" = some (some (.ref f_lesser)))
    (l_lesser : K.lookup f_lesser = some ⟨oc_lesser, od_lesser, .func (PySem.W.fnOf "lesser" "lesser" (defArgs s_lesser) (defBody s_lesser) (defScope s_lesser) .none kV_lesser dc_lesser pm_lesser an_lesser cd_lesser ct_lesser), sl_lesser⟩)
    (cc_lesser : PySem.W.codeIn K cd_lesser "lesser" = true)
    (k_lesser : PySem.W.keepIn K (.ref f_lesser) = true)
    {f_greater : Addr} {od_greater an_greater : Option Addr} {sl_greater : Array (Option Value)} {oc_greater kV_greater dc_greater pm_greater cd_greater ct_greater : Value}
    (a_greater : PySem.W.nsIn K mainGlobals "greater" = some (some (.ref f_greater)))
    (l_greater : K.lookup f_greater = some ⟨oc_greater, od_greater, .func (PySem.W.fnOf "greater" "greater" (defArgs s_greater) (defBody s_greater) (defScope s_greater) .none kV_greater dc_greater pm_greater an_greater cd_greater ct_greater), sl_greater⟩)
    (cc_greater : PySem.W.codeIn K cd_greater "greater" = true)
    (k_greater : PySem.W.keepIn K (.ref f_greater) = true)
    {f_total : Addr} {od_total an_total : Option Addr} {sl_total : Array (Option Value)} {oc_total kV_total dc_total pm_total cd_total ct_total : Value}
    (a_total : PySem.W.nsIn K mainGlobals "total" = some (some (.ref f_total)))
    (l_total : K.lookup f_total = some ⟨oc_total, od_total, .func (PySem.W.fnOf "total" "total" (defArgs s_total) (defBody s_total) (defScope s_total) .none kV_total dc_total pm_total an_total cd_total ct_total), sl_total⟩)
    (cc_total : PySem.W.codeIn K cd_total "total" = true)
    (k_total : PySem.W.keepIn K (.ref f_total) = true)
    {f_ratio_text : Addr} {od_ratio_text an_ratio_text : Option Addr} {sl_ratio_text : Array (Option Value)} {oc_ratio_text kV_ratio_text dc_ratio_text pm_ratio_text cd_ratio_text ct_ratio_text : Value}
    (a_ratio_text : PySem.W.nsIn K mainGlobals "ratio_text" = some (some (.ref f_ratio_text)))
    (l_ratio_text : K.lookup f_ratio_text = some ⟨oc_ratio_text, od_ratio_text, .func (PySem.W.fnOf "ratio_text" "ratio_text" (defArgs s_ratio_text) (defBody s_ratio_text) (defScope s_ratio_text) .none kV_ratio_text dc_ratio_text pm_ratio_text an_ratio_text cd_ratio_text ct_ratio_text), sl_ratio_text⟩)
    (cc_ratio_text : PySem.W.codeIn K cd_ratio_text "ratio_text" = true)
    (k_ratio_text : PySem.W.keepIn K (.ref f_ratio_text) = true)
    {f_is_ratio : Addr} {od_is_ratio an_is_ratio : Option Addr} {sl_is_ratio : Array (Option Value)} {oc_is_ratio kV_is_ratio dc_is_ratio pm_is_ratio cd_is_ratio ct_is_ratio : Value}
    (a_is_ratio : PySem.W.nsIn K mainGlobals "is_ratio" = some (some (.ref f_is_ratio)))
    (l_is_ratio : K.lookup f_is_ratio = some ⟨oc_is_ratio, od_is_ratio, .func (PySem.W.fnOf "is_ratio" "is_ratio" (defArgs s_is_ratio) (defBody s_is_ratio) (defScope s_is_ratio) .none kV_is_ratio dc_is_ratio pm_is_ratio an_is_ratio cd_is_ratio ct_is_ratio), sl_is_ratio⟩)
    (cc_is_ratio : PySem.W.codeIn K cd_is_ratio "is_ratio" = true)
    (k_is_ratio : PySem.W.keepIn K (.ref f_is_ratio) = true)
    {f_read_ratio : Addr} {od_read_ratio an_read_ratio : Option Addr} {sl_read_ratio : Array (Option Value)} {oc_read_ratio kV_read_ratio dc_read_ratio pm_read_ratio cd_read_ratio ct_read_ratio : Value}
    (a_read_ratio : PySem.W.nsIn K mainGlobals "read_ratio" = some (some (.ref f_read_ratio)))
    (l_read_ratio : K.lookup f_read_ratio = some ⟨oc_read_ratio, od_read_ratio, .func (PySem.W.fnOf "read_ratio" "read_ratio" (defArgs s_read_ratio) (defBody s_read_ratio) (defScope s_read_ratio) .none kV_read_ratio dc_read_ratio pm_read_ratio an_read_ratio cd_read_ratio ct_read_ratio), sl_read_ratio⟩)
    (cc_read_ratio : PySem.W.codeIn K cd_read_ratio "read_ratio" = true)
    (k_read_ratio : PySem.W.keepIn K (.ref f_read_ratio) = true)
    {f__law_reads : Addr} {od__law_reads an__law_reads : Option Addr} {sl__law_reads : Array (Option Value)} {oc__law_reads kV__law_reads dc__law_reads pm__law_reads cd__law_reads ct__law_reads : Value}
    (a__law_reads : PySem.W.nsIn K mainGlobals "_law_reads" = some (some (.ref f__law_reads)))
    (l__law_reads : K.lookup f__law_reads = some ⟨oc__law_reads, od__law_reads, .func (PySem.W.fnOf "_law_reads" "_law_reads" (defArgs s__law_reads) (defBody s__law_reads) (defScope s__law_reads) .none kV__law_reads dc__law_reads pm__law_reads an__law_reads cd__law_reads ct__law_reads), sl__law_reads⟩)
    (cc__law_reads : PySem.W.codeIn K cd__law_reads "_law_reads" = true)
    (k__law_reads : PySem.W.keepIn K (.ref f__law_reads) = true)
    {f_law : Addr} {od_law an_law : Option Addr} {sl_law : Array (Option Value)} {oc_law kV_law dc_law pm_law cd_law ct_law : Value}
    (a_law : PySem.W.nsIn K mainGlobals "law" = some (some (.ref f_law)))
    (l_law : K.lookup f_law = some ⟨oc_law, od_law, .func (PySem.W.fnOf "law" "law" (defArgs s_law) (defBody s_law) (defScope s_law) .none kV_law dc_law pm_law an_law cd_law ct_law), sl_law⟩)
    (cc_law : PySem.W.codeIn K cd_law "law" = true)
    (k_law : PySem.W.keepIn K (.ref f_law) = true) :
    ∃ fd : FuncData, (∀ (s : Shared) (v : Value), BindsTo s fd ⟨[v], []⟩ [("script", v)]) ∧ ∀ base : Heap, K.In base → base.Ns mainGlobals mg → FnG l.prog w K mg base 5 fa fd ["script"] (spLaw K) := by
  have e := hfa.symm.trans (PySem.W.mg_of X G a_law)
  cases e
  let C : Ct := ⟨K, fun i => match i with | 0 => c_Malformed | 1 => c_NoText | _ => 0, fun i => match i with | 1 => "at" | _ => ""⟩
  have T : Tx C mg l.prog := {
    b_ValueError := PySem.W.mg_none_of X G z_ValueError,
    b_abs := PySem.W.mg_none_of X G z_abs,
    b_all := PySem.W.mg_none_of X G z_all,
    b_any := PySem.W.mg_none_of X G z_any,
    b_bool := PySem.W.mg_none_of X G z_bool,
    b_int := PySem.W.mg_none_of X G z_int,
    b_isinstance := PySem.W.mg_none_of X G z_isinstance,
    b_len := PySem.W.mg_none_of X G z_len,
    b_range := PySem.W.mg_none_of X G z_range,
    b_str := PySem.W.mg_none_of X G z_str,
    b_super := PySem.W.mg_none_of X G z_super,
    b_tuple := PySem.W.mg_none_of X G z_tuple,
    b_zip := PySem.W.mg_none_of X G z_zip,
    g_MOST_DIGITS := globF_mk X G ga_MOST_DIGITS gr_MOST_DIGITS,
    g_DIGITS := globF_mk X G ga_DIGITS gr_DIGITS,
    g_ZERO := globF_mk X G ga_ZERO gr_ZERO,
    x_Malformed := ⟨xq_Malformed, PySem.W.mg_of X G xa_Malformed, xk_Malformed, xb_Malformed, xt_Malformed⟩,
    x_NoText := ⟨PySem.W.mg_of X G xa_NoText, yq_NoText, ⟨_, yc_NoText, ycm_NoText, ych_NoText⟩, ysa_NoText, yga_NoText, ygg_NoText, ynn_NoText, yk_NoText, yeb_NoText, yty_NoText, yhd_NoText, ysu_NoText, yvb_NoText, yop_NoText, PySem.W.mg_none_of X G z_super, PySem.W.mg_none_of X G z_str, ymr_NoText, ytp_NoText, by decide, by decide,
      ⟨_, _, _, _, _, _, _, _, _, _, _, _, _, _, _, _, _, _, _, _, _, _, _, _, _, _, _, _, _, _, _, _, _, yiC_NoText, yti_NoText, yfn_NoText, yco_NoText, ylc_NoText, yvs_NoText, yfi_NoText, yce_NoText, rfl, (.inr ⟨rfl, rfl, _, _, _, _, _, _, _, rfl, by decide⟩), rfl, rfl, rfl, rfl, rfl, rfl, rfl, by decide, fun _ _ _ => .of_eq rfl⟩⟩,
    f_NoText := rfl,
    q2_Malformed_Fault := ⟨cf_Fault, PySem.W.mg_of X G ja_Fault, ⟨jcl2_Malformed_Fault, jga2_Malformed_Fault, jgg2_Malformed_Fault, jeb2_Malformed_Fault, jca2_Malformed_Fault, jsp2_Malformed_Fault, jtk2_Malformed_Fault, jmo2_Malformed_Fault, jis2_Malformed_Fault⟩⟩,
    q2_Malformed_NoText := ⟨cf_NoText, PySem.W.mg_of X G ja_NoText, ⟨jcl2_Malformed_NoText, jga2_Malformed_NoText, jgg2_Malformed_NoText, jeb2_Malformed_NoText, jca2_Malformed_NoText, jsp2_Malformed_NoText, jtk2_Malformed_NoText, jmo2_Malformed_NoText, jis2_Malformed_NoText⟩⟩,
    q2_NoText_Fault := ⟨cf_Fault, PySem.W.mg_of X G ja_Fault, ⟨jcl2_NoText_Fault, jga2_NoText_Fault, jgg2_NoText_Fault, jeb2_NoText_Fault, jca2_NoText_Fault, jsp2_NoText_Fault, jtk2_NoText_Fault, jmo2_NoText_Fault, jis2_NoText_Fault⟩⟩,
    q2_NoText_ValueError := ⟨jcl2_NoText_ValueError, jga2_NoText_ValueError, jgg2_NoText_ValueError, jeb2_NoText_ValueError, jca2_NoText_ValueError, jsp2_NoText_ValueError, jtk2_NoText_ValueError, jmo2_NoText_ValueError, jis2_NoText_ValueError⟩,
    q2_NoText_Malformed := ⟨cf_Malformed, PySem.W.mg_of X G ja_Malformed, ⟨jcl2_NoText_Malformed, jga2_NoText_Malformed, jgg2_NoText_Malformed, jeb2_NoText_Malformed, jca2_NoText_Malformed, jsp2_NoText_Malformed, jtk2_NoText_Malformed, jmo2_NoText_Malformed, jis2_NoText_Malformed⟩⟩,
    m_Malformed := (fun k b h => match k, b, h with | 0, b, h => (by cases h; exact xm_Malformed_Malformed) | 1, b, h => (by cases h; exact xm_NoText_Malformed) | n + 2, b, h => (by cases h)),
    m_NoText := (fun k b h => match k, b, h with | 0, b, h => (by cases h; exact xm_Malformed_NoText) | 1, b, h => (by cases h; exact xm_NoText_NoText) | n + 2, b, h => (by cases h)),
    d__law_draw := ⟨_, _, fun_mk (st := s__law_draw) l__law_draw cc__law_draw k__law_draw, PySem.W.mg_of X G a__law_draw, (fun_mk (st := s__law_draw) l__law_draw cc__law_draw k__law_draw).binds (ps := ["script"]) fun _ _ _ _ _ _ us hl => match us, hl with | [_], _ => rfl⟩,
    d__law_take := ⟨_, _, fun_mk (st := s__law_take) l__law_take cc__law_take k__law_take, PySem.W.mg_of X G a__law_take, (fun_mk (st := s__law_take) l__law_take cc__law_take k__law_take).binds (ps := ["draw", "many"]) fun _ _ _ _ _ _ us hl => match us, hl with | [_, _], _ => rfl⟩,
    d__law_number := ⟨_, _, fun_mk (st := s__law_number) l__law_number cc__law_number k__law_number, PySem.W.mg_of X G a__law_number, (fun_mk (st := s__law_number) l__law_number cc__law_number k__law_number).binds (ps := ["draw"]) fun _ _ _ _ _ _ us hl => match us, hl with | [_], _ => rfl⟩,
    d_common := ⟨_, _, fun_mk (st := s_common) l_common cc_common k_common, PySem.W.mg_of X G a_common, (fun_mk (st := s_common) l_common cc_common k_common).binds (ps := ["a", "b"]) fun _ _ _ _ _ _ us hl => match us, hl with | [_, _], _ => rfl⟩,
    d_lowest := ⟨_, _, fun_mk (st := s_lowest) l_lowest cc_lowest k_lowest, PySem.W.mg_of X G a_lowest, (fun_mk (st := s_lowest) l_lowest cc_lowest k_lowest).binds (ps := ["n", "d"]) fun _ _ _ _ _ _ us hl => match us, hl with | [_, _], _ => rfl⟩,
    d_is_whole := ⟨_, _, fun_mk (st := s_is_whole) l_is_whole cc_is_whole k_is_whole, PySem.W.mg_of X G a_is_whole, (fun_mk (st := s_is_whole) l_is_whole cc_is_whole k_is_whole).binds (ps := ["value"]) fun _ _ _ _ _ _ us hl => match us, hl with | [_], _ => rfl⟩,
    d_ratio := ⟨_, _, fun_mk (st := s_ratio) l_ratio cc_ratio k_ratio, PySem.W.mg_of X G a_ratio, (fun_mk (st := s_ratio) l_ratio cc_ratio k_ratio).binds (ps := ["n", "d"]) fun _ _ _ _ _ _ us hl => match us, hl with | [_, _], _ => rfl⟩,
    d__law_gcd := ⟨_, _, fun_mk (st := s__law_gcd) l__law_gcd cc__law_gcd k__law_gcd, PySem.W.mg_of X G a__law_gcd, (fun_mk (st := s__law_gcd) l__law_gcd cc__law_gcd k__law_gcd).binds (ps := ["a", "b"]) fun _ _ _ _ _ _ us hl => match us, hl with | [_, _], _ => rfl⟩,
    d__law_low := ⟨_, _, fun_mk (st := s__law_low) l__law_low cc__law_low k__law_low, PySem.W.mg_of X G a__law_low, (fun_mk (st := s__law_low) l__law_low cc__law_low k__law_low).binds (ps := ["n", "d"]) fun _ _ _ _ _ _ us hl => match us, hl with | [_, _], _ => rfl⟩,
    d__law_whole_text := ⟨_, _, fun_mk (st := s__law_whole_text) l__law_whole_text cc__law_whole_text k__law_whole_text, PySem.W.mg_of X G a__law_whole_text, (fun_mk (st := s__law_whole_text) l__law_whole_text cc__law_whole_text k__law_whole_text).binds (ps := ["text"]) fun _ _ _ _ _ _ us hl => match us, hl with | [_], _ => rfl⟩,
    d__law_due := ⟨_, _, fun_mk (st := s__law_due) l__law_due cc__law_due k__law_due, PySem.W.mg_of X G a__law_due, (fun_mk (st := s__law_due) l__law_due cc__law_due k__law_due).binds (ps := ["text"]) fun _ _ _ _ _ _ us hl => match us, hl with | [_], _ => rfl⟩,
    d_read_whole := ⟨_, _, fun_mk (st := s_read_whole) l_read_whole cc_read_whole k_read_whole, PySem.W.mg_of X G a_read_whole, (fun_mk (st := s_read_whole) l_read_whole cc_read_whole k_read_whole).binds (ps := ["text"]) fun _ _ _ _ _ _ us hl => match us, hl with | [_], _ => rfl⟩,
    d_over := ⟨_, _, fun_mk (st := s_over) l_over cc_over k_over, PySem.W.mg_of X G a_over, (fun_mk (st := s_over) l_over cc_over k_over).binds (ps := ["a", "b"]) fun _ _ _ _ _ _ us hl => match us, hl with | [_, _], _ => rfl⟩,
    d__law_raises := ⟨_, _, fun_mk (st := s__law_raises) l__law_raises cc__law_raises k__law_raises, PySem.W.mg_of X G a__law_raises, (fun_mk (st := s__law_raises) l__law_raises cc__law_raises k__law_raises).binds (ps := ["which", "one", "two"]) fun _ _ _ _ _ _ us hl => match us, hl with | [_, _, _], _ => rfl⟩,
    d__law_same := ⟨_, _, fun_mk (st := s__law_same) l__law_same cc__law_same k__law_same, PySem.W.mg_of X G a__law_same, (fun_mk (st := s__law_same) l__law_same cc__law_same k__law_same).binds (ps := ["one", "two"]) fun _ _ _ _ _ _ us hl => match us, hl with | [_, _], _ => rfl⟩,
    d_plus := ⟨_, _, fun_mk (st := s_plus) l_plus cc_plus k_plus, PySem.W.mg_of X G a_plus, (fun_mk (st := s_plus) l_plus cc_plus k_plus).binds (ps := ["a", "b"]) fun _ _ _ _ _ _ us hl => match us, hl with | [_, _], _ => rfl⟩,
    d_minus := ⟨_, _, fun_mk (st := s_minus) l_minus cc_minus k_minus, PySem.W.mg_of X G a_minus, (fun_mk (st := s_minus) l_minus cc_minus k_minus).binds (ps := ["a", "b"]) fun _ _ _ _ _ _ us hl => match us, hl with | [_, _], _ => rfl⟩,
    d_times := ⟨_, _, fun_mk (st := s_times) l_times cc_times k_times, PySem.W.mg_of X G a_times, (fun_mk (st := s_times) l_times cc_times k_times).binds (ps := ["a", "b"]) fun _ _ _ _ _ _ us hl => match us, hl with | [_, _], _ => rfl⟩,
    d__law_says := ⟨_, _, fun_mk (st := s__law_says) l__law_says cc__law_says k__law_says, PySem.W.mg_of X G a__law_says, (fun_mk (st := s__law_says) l__law_says cc__law_says k__law_says).binds (ps := ["value", "due"]) fun _ _ _ _ _ _ us hl => match us, hl with | [_, _], _ => rfl⟩,
    d_below := ⟨_, _, fun_mk (st := s_below) l_below cc_below k_below, PySem.W.mg_of X G a_below, (fun_mk (st := s_below) l_below cc_below k_below).binds (ps := ["a", "b"]) fun _ _ _ _ _ _ us hl => match us, hl with | [_, _], _ => rfl⟩,
    d_lesser := ⟨_, _, fun_mk (st := s_lesser) l_lesser cc_lesser k_lesser, PySem.W.mg_of X G a_lesser, (fun_mk (st := s_lesser) l_lesser cc_lesser k_lesser).binds (ps := ["a", "b"]) fun _ _ _ _ _ _ us hl => match us, hl with | [_, _], _ => rfl⟩,
    d_greater := ⟨_, _, fun_mk (st := s_greater) l_greater cc_greater k_greater, PySem.W.mg_of X G a_greater, (fun_mk (st := s_greater) l_greater cc_greater k_greater).binds (ps := ["a", "b"]) fun _ _ _ _ _ _ us hl => match us, hl with | [_, _], _ => rfl⟩,
    d_total := ⟨_, _, fun_mk (st := s_total) l_total cc_total k_total, PySem.W.mg_of X G a_total, (fun_mk (st := s_total) l_total cc_total k_total).binds (ps := ["items"]) fun _ _ _ _ _ _ us hl => match us, hl with | [_], _ => rfl⟩,
    d_ratio_text := ⟨_, _, fun_mk (st := s_ratio_text) l_ratio_text cc_ratio_text k_ratio_text, PySem.W.mg_of X G a_ratio_text, (fun_mk (st := s_ratio_text) l_ratio_text cc_ratio_text k_ratio_text).binds (ps := ["a"]) fun _ _ _ _ _ _ us hl => match us, hl with | [_], _ => rfl⟩,
    d_is_ratio := ⟨_, _, fun_mk (st := s_is_ratio) l_is_ratio cc_is_ratio k_is_ratio, PySem.W.mg_of X G a_is_ratio, (fun_mk (st := s_is_ratio) l_is_ratio cc_is_ratio k_is_ratio).binds (ps := ["value"]) fun _ _ _ _ _ _ us hl => match us, hl with | [_], _ => rfl⟩,
    d_read_ratio := ⟨_, _, fun_mk (st := s_read_ratio) l_read_ratio cc_read_ratio k_read_ratio, PySem.W.mg_of X G a_read_ratio, (fun_mk (st := s_read_ratio) l_read_ratio cc_read_ratio k_read_ratio).binds (ps := ["text"]) fun _ _ _ _ _ _ us hl => match us, hl with | [_], _ => rfl⟩,
    d__law_reads := ⟨_, _, fun_mk (st := s__law_reads) l__law_reads cc__law_reads k__law_reads, PySem.W.mg_of X G a__law_reads, (fun_mk (st := s__law_reads) l__law_reads cc__law_reads k__law_reads).binds (ps := ["text"]) fun _ _ _ _ _ _ us hl => match us, hl with | [_], _ => rfl⟩,
    d_law := ⟨_, _, fun_mk (st := s_law) l_law cc_law k_law, PySem.W.mg_of X G a_law, (fun_mk (st := s_law) l_law cc_law k_law).binds (ps := ["script"]) fun _ _ _ _ _ _ us hl => match us, hl with | [_], _ => rfl⟩ }
  refine ⟨PySem.W.fnOf "law" "law" (defArgs s_law) (defBody s_law) (defScope s_law) .none kV_law dc_law pm_law an_law cd_law ct_law, fun s v => .of_eq rfl, fun base _ _ => ?_⟩
  obtain ⟨f, fd, FL, mL, F⟩ := ok_law (P := l.prog) (w := w) (base := base) T plain_law
  have e2 := hfa.symm.trans mL
  cases e2
  obtain ⟨oc, od, kV, doc, pm, an, cdv, ct, osl, e3, l3, _⟩ := F.ex
  have e4 := l_law.symm.trans l3
  cases e4

  exact FL
theorem walk {l : PySem.W.OpenLaw} {q : Program} {loose : List Str} {XP : (Str → Option Value) → Heap → Prop} {YP : World → Heap → Prop} {d : DefRec} {K : Params → PySem.W.Frag} (hn : l.most = some 63) (hdf : d.params.defaults = []) (hY : ∀ (w : World) (h : Heap), YP w h → (K w.params).In h)
    (F : ∀ (w : World) (mg : Str → Option Value) (fa : Addr) (h : Heap), (K w.params).In h → h.Ns mainGlobals mg → mg d.name = some (.ref fa) →
      ∃ fd : FuncData, (∀ (s : Shared) (u : Value), BindsTo s fd ⟨[u], []⟩ [("script", u)]) ∧ ∀ base : Heap, (K w.params).In base → base.Ns mainGlobals mg → FnG l.prog w (K w.params) mg base 5 fa fd ["script"] (spLaw (K w.params))) :
    PySem.W.WalkO q loose XP YP l.row.toRowW d [] (fun f vs => PySem.call f vs) :=
  walk_G (n := 63) (k := 5) (x := "script") (sp := spLaw) hn (by decide) hdf ⟨⟨rfl, by decide, by decide⟩, rfl⟩ hY F fun _ _ a ns hl hS => ⟨a, ns, rfl, hS, hl, fun _ => rfl⟩
end G
end L2
open PySem PySem.W PyProof.Rows
set_option maxRecDepth 100000 in
set_option maxHeartbeats 0 in
theorem PySem.Challenge.cw_lampkinds_k00_fractions_holds : PySem.Challenge.rw_lampkinds_k00_fractions.Holds := by
  w_on; o_law; k_head; (case hw => w_witness2)
  k_fill
  refine L2.G.walk (l := PySem.Challenge.rw_lampkinds_k00_fractions) rfl rfl (fun w h Y => PySem.W.kIn_of Y) ?F
  case F =>
    intro w mg fa h KX G hmg
    refine' L2.G.all_mk KX G hmg ?z_ValueError ?z_abs ?z_all ?z_any ?z_bool ?z_int ?z_isinstance ?z_len ?z_range ?z_str ?z_super ?z_tuple ?z_zip ?ga_MOST_DIGITS ?gr_MOST_DIGITS ?ga_DIGITS ?gr_DIGITS ?ga_ZERO ?gr_ZERO ?xa_Malformed ?xq_Malformed ?xk_Malformed ?xb_Malformed ?xt_Malformed ?xa_NoText ?yq_NoText ?yc_NoText ?ycm_NoText ?ych_NoText ?ysa_NoText ?yga_NoText ?ygg_NoText ?ynn_NoText ?yiC_NoText ?yk_NoText ?yeb_NoText ?yvb_NoText ?yty_NoText ?yhd_NoText ?ysu_NoText ?yop_NoText ?ymr_NoText ?ytp_NoText ?yti_NoText ?yfn_NoText ?yco_NoText ?ylc_NoText ?yvs_NoText ?yfi_NoText ?yce_NoText ?ja_Fault ?ja_Malformed ?ja_NoText ?jcl2_Malformed_Fault ?jga2_Malformed_Fault ?jgg2_Malformed_Fault ?jeb2_Malformed_Fault ?jca2_Malformed_Fault ?jsp2_Malformed_Fault ?jtk2_Malformed_Fault ?jmo2_Malformed_Fault ?jis2_Malformed_Fault ?jcl2_Malformed_NoText ?jga2_Malformed_NoText ?jgg2_Malformed_NoText ?jeb2_Malformed_NoText ?jca2_Malformed_NoText ?jsp2_Malformed_NoText ?jtk2_Malformed_NoText ?jmo2_Malformed_NoText ?jis2_Malformed_NoText ?jcl2_NoText_Fault ?jga2_NoText_Fault ?jgg2_NoText_Fault ?jeb2_NoText_Fault ?jca2_NoText_Fault ?jsp2_NoText_Fault ?jtk2_NoText_Fault ?jmo2_NoText_Fault ?jis2_NoText_Fault ?jcl2_NoText_ValueError ?jga2_NoText_ValueError ?jgg2_NoText_ValueError ?jeb2_NoText_ValueError ?jca2_NoText_ValueError ?jsp2_NoText_ValueError ?jtk2_NoText_ValueError ?jmo2_NoText_ValueError ?jis2_NoText_ValueError ?jcl2_NoText_Malformed ?jga2_NoText_Malformed ?jgg2_NoText_Malformed ?jeb2_NoText_Malformed ?jca2_NoText_Malformed ?jsp2_NoText_Malformed ?jtk2_NoText_Malformed ?jmo2_NoText_Malformed ?jis2_NoText_Malformed ?xm_Malformed_Malformed ?xm_NoText_Malformed ?xm_Malformed_NoText ?xm_NoText_NoText ?a__law_draw ?l__law_draw ?cc__law_draw ?k__law_draw ?a__law_take ?l__law_take ?cc__law_take ?k__law_take ?a__law_number ?l__law_number ?cc__law_number ?k__law_number ?a_common ?l_common ?cc_common ?k_common ?a_lowest ?l_lowest ?cc_lowest ?k_lowest ?a_is_whole ?l_is_whole ?cc_is_whole ?k_is_whole ?a_ratio ?l_ratio ?cc_ratio ?k_ratio ?a__law_gcd ?l__law_gcd ?cc__law_gcd ?k__law_gcd ?a__law_low ?l__law_low ?cc__law_low ?k__law_low ?a__law_whole_text ?l__law_whole_text ?cc__law_whole_text ?k__law_whole_text ?a__law_due ?l__law_due ?cc__law_due ?k__law_due ?a_read_whole ?l_read_whole ?cc_read_whole ?k_read_whole ?a_over ?l_over ?cc_over ?k_over ?a__law_raises ?l__law_raises ?cc__law_raises ?k__law_raises ?a__law_same ?l__law_same ?cc__law_same ?k__law_same ?a_plus ?l_plus ?cc_plus ?k_plus ?a_minus ?l_minus ?cc_minus ?k_minus ?a_times ?l_times ?cc_times ?k_times ?a__law_says ?l__law_says ?cc__law_says ?k__law_says ?a_below ?l_below ?cc_below ?k_below ?a_lesser ?l_lesser ?cc_lesser ?k_lesser ?a_greater ?l_greater ?cc_greater ?k_greater ?a_total ?l_total ?cc_total ?k_total ?a_ratio_text ?l_ratio_text ?cc_ratio_text ?k_ratio_text ?a_is_ratio ?l_is_ratio ?cc_is_ratio ?k_is_ratio ?a_read_ratio ?l_read_ratio ?cc_read_ratio ?k_read_ratio ?a__law_reads ?l__law_reads ?cc__law_reads ?k__law_reads ?a_law ?l_law ?cc_law ?k_law
    (case z_ValueError => k_is)
    (case z_abs => k_is)
    (case z_all => k_is)
    (case z_any => k_is)
    (case z_bool => k_is)
    (case z_int => k_is)
    (case z_isinstance => k_is)
    (case z_len => k_is)
    (case z_range => k_is)
    (case z_str => k_is)
    (case z_super => k_is)
    (case z_tuple => k_is)
    (case z_zip => k_is)
    (case ga_MOST_DIGITS => k_is)
    (case gr_MOST_DIGITS => kernel_rfl)
    (case ga_DIGITS => k_is)
    (case gr_DIGITS => kernel_rfl)
    (case ga_ZERO => k_is)
    (case gr_ZERO => kernel_rfl)
    (case xa_Malformed => k_is)
    (case xq_Malformed => kernel_rfl)
    (case xk_Malformed => k_is)
    (case xb_Malformed => k_is)
    (case xt_Malformed => k_is)
    (case xa_NoText => k_is)
    (case yq_NoText => kernel_rfl)
    (case yc_NoText => k_is)
    (case ycm_NoText => decide +kernel)
    (case ych_NoText => rfl)
    (case ysa_NoText => k_is)
    (case yga_NoText => k_is)
    (case ygg_NoText => k_is)
    (case ynn_NoText => k_is)
    (case yiC_NoText => k_is)
    (case yk_NoText => k_is)
    (case yeb_NoText => k_is)
    (case yvb_NoText => k_is)
    (case yty_NoText => k_is)
    (case yhd_NoText => k_is)
    (case ysu_NoText => kernel_rfl)
    (case yop_NoText => k_is)
    (case ymr_NoText => k_is)
    (case ytp_NoText => decide +kernel)
    (case yti_NoText => k_is)
    (case yfn_NoText => k_is)
    (case yco_NoText => k_is)
    (case ylc_NoText => k_is)
    (case yvs_NoText => rfl)
    (case yfi_NoText => first | rfl | decide +kernel)
    (case yce_NoText => k_is)
    (case ja_Fault => k_is)
    (case ja_Malformed => k_is)
    (case ja_NoText => k_is)
    (case jcl2_Malformed_Fault => kernel_rfl)
    (case jga2_Malformed_Fault => k_is)
    (case jgg2_Malformed_Fault => k_is)
    (case jeb2_Malformed_Fault => k_is)
    (case jca2_Malformed_Fault => k_is)
    (case jsp2_Malformed_Fault => k_is)
    (case jtk2_Malformed_Fault => k_is)
    (case jmo2_Malformed_Fault => k_is)
    (case jis2_Malformed_Fault => kernel_rfl)
    (case jcl2_Malformed_NoText => kernel_rfl)
    (case jga2_Malformed_NoText => k_is)
    (case jgg2_Malformed_NoText => k_is)
    (case jeb2_Malformed_NoText => k_is)
    (case jca2_Malformed_NoText => k_is)
    (case jsp2_Malformed_NoText => k_is)
    (case jtk2_Malformed_NoText => k_is)
    (case jmo2_Malformed_NoText => k_is)
    (case jis2_Malformed_NoText => kernel_rfl)
    (case jcl2_NoText_Fault => kernel_rfl)
    (case jga2_NoText_Fault => k_is)
    (case jgg2_NoText_Fault => k_is)
    (case jeb2_NoText_Fault => k_is)
    (case jca2_NoText_Fault => k_is)
    (case jsp2_NoText_Fault => k_is)
    (case jtk2_NoText_Fault => k_is)
    (case jmo2_NoText_Fault => k_is)
    (case jis2_NoText_Fault => kernel_rfl)
    (case jcl2_NoText_ValueError => kernel_rfl)
    (case jga2_NoText_ValueError => k_is)
    (case jgg2_NoText_ValueError => k_is)
    (case jeb2_NoText_ValueError => k_is)
    (case jca2_NoText_ValueError => k_is)
    (case jsp2_NoText_ValueError => k_is)
    (case jtk2_NoText_ValueError => k_is)
    (case jmo2_NoText_ValueError => k_is)
    (case jis2_NoText_ValueError => kernel_rfl)
    (case jcl2_NoText_Malformed => kernel_rfl)
    (case jga2_NoText_Malformed => k_is)
    (case jgg2_NoText_Malformed => k_is)
    (case jeb2_NoText_Malformed => k_is)
    (case jca2_NoText_Malformed => k_is)
    (case jsp2_NoText_Malformed => k_is)
    (case jtk2_NoText_Malformed => k_is)
    (case jmo2_NoText_Malformed => k_is)
    (case jis2_NoText_Malformed => kernel_rfl)
    (case xm_Malformed_Malformed => kernel_rfl)
    (case xm_NoText_Malformed => kernel_rfl)
    (case xm_Malformed_NoText => kernel_rfl)
    (case xm_NoText_NoText => kernel_rfl)
    (case a__law_draw => k_is)
    (case l__law_draw => k_is)
    (case cc__law_draw => k_is)
    (case k__law_draw => k_is)
    (case a__law_take => k_is)
    (case l__law_take => k_is)
    (case cc__law_take => k_is)
    (case k__law_take => k_is)
    (case a__law_number => k_is)
    (case l__law_number => k_is)
    (case cc__law_number => k_is)
    (case k__law_number => k_is)
    (case a_common => k_is)
    (case l_common => k_is)
    (case cc_common => k_is)
    (case k_common => k_is)
    (case a_lowest => k_is)
    (case l_lowest => k_is)
    (case cc_lowest => k_is)
    (case k_lowest => k_is)
    (case a_is_whole => k_is)
    (case l_is_whole => k_is)
    (case cc_is_whole => k_is)
    (case k_is_whole => k_is)
    (case a_ratio => k_is)
    (case l_ratio => k_is)
    (case cc_ratio => k_is)
    (case k_ratio => k_is)
    (case a__law_gcd => k_is)
    (case l__law_gcd => k_is)
    (case cc__law_gcd => k_is)
    (case k__law_gcd => k_is)
    (case a__law_low => k_is)
    (case l__law_low => k_is)
    (case cc__law_low => k_is)
    (case k__law_low => k_is)
    (case a__law_whole_text => k_is)
    (case l__law_whole_text => k_is)
    (case cc__law_whole_text => k_is)
    (case k__law_whole_text => k_is)
    (case a__law_due => k_is)
    (case l__law_due => k_is)
    (case cc__law_due => k_is)
    (case k__law_due => k_is)
    (case a_read_whole => k_is)
    (case l_read_whole => k_is)
    (case cc_read_whole => k_is)
    (case k_read_whole => k_is)
    (case a_over => k_is)
    (case l_over => k_is)
    (case cc_over => k_is)
    (case k_over => k_is)
    (case a__law_raises => k_is)
    (case l__law_raises => k_is)
    (case cc__law_raises => k_is)
    (case k__law_raises => k_is)
    (case a__law_same => k_is)
    (case l__law_same => k_is)
    (case cc__law_same => k_is)
    (case k__law_same => k_is)
    (case a_plus => k_is)
    (case l_plus => k_is)
    (case cc_plus => k_is)
    (case k_plus => k_is)
    (case a_minus => k_is)
    (case l_minus => k_is)
    (case cc_minus => k_is)
    (case k_minus => k_is)
    (case a_times => k_is)
    (case l_times => k_is)
    (case cc_times => k_is)
    (case k_times => k_is)
    (case a__law_says => k_is)
    (case l__law_says => k_is)
    (case cc__law_says => k_is)
    (case k__law_says => k_is)
    (case a_below => k_is)
    (case l_below => k_is)
    (case cc_below => k_is)
    (case k_below => k_is)
    (case a_lesser => k_is)
    (case l_lesser => k_is)
    (case cc_lesser => k_is)
    (case k_lesser => k_is)
    (case a_greater => k_is)
    (case l_greater => k_is)
    (case cc_greater => k_is)
    (case k_greater => k_is)
    (case a_total => k_is)
    (case l_total => k_is)
    (case cc_total => k_is)
    (case k_total => k_is)
    (case a_ratio_text => k_is)
    (case l_ratio_text => k_is)
    (case cc_ratio_text => k_is)
    (case k_ratio_text => k_is)
    (case a_is_ratio => k_is)
    (case l_is_ratio => k_is)
    (case cc_is_ratio => k_is)
    (case k_is_ratio => k_is)
    (case a_read_ratio => k_is)
    (case l_read_ratio => k_is)
    (case cc_read_ratio => k_is)
    (case k_read_ratio => k_is)
    (case a__law_reads => k_is)
    (case l__law_reads => k_is)
    (case cc__law_reads => k_is)
    (case k__law_reads => k_is)
    (case a_law => k_is)
    (case l_law => k_is)
    (case cc_law => k_is)
    (case k_law => k_is)
