import PyProof.Rows.All
import Wide.All
import OpenK.AllK
import Wide.FinOn
import HandS.ForMost
import HandS.ForExc
import HandS.CallSlots
import HandS.Wide
import HandS.IsInst
import HandS.Style
import HandS.Conv
import HandS.More
import HandS.NoneIn
import HandS.Small
import KE.GoesMore
import KE.GoesZip
import HandS.Star
import HandS.SortInts
import PySem.Challenge.RW_allcells_k75_texts_of_terms_and_statemen
set_option Elab.async false
set_option linter.all false
set_option maxRecDepth 100000
set_option maxHeartbeats 4000000
/-! PD: pure data over the hand layer. Values are read as plain data; a def's promise is a plain function on data. -/
namespace PD
open PySem L2

/-- plain data -/
inductive D where
  | non | bl (b : Bool) | int (i : Int) | str (x : Str) | ty (n : String) | cl (c : Nat)
  | scr (ns : List Int) | lst (xs : List D) | tup (xs : List D) | dct (kvs : List (Key × D)) | ins (c : Nat) (fs : List (Str × D))

mutual
/-- the value v in the heap G is the data d; cn: the addresses of the classes -/
inductive Dt (K : PySem.W.Frag) (cn : Nat → Addr) (G : Hp) : V → D → Prop
  | non : Dt K cn G .non .non
  | bl (b : Bool) : Dt K cn G (.bl b) (.bl b)
  | int (i : Int) : Dt K cn G (.int i) (.int i)
  | str (x : Str) : Dt K cn G (.str x) (.str x)
  | ty (n : String) : Dt K cn G (.ty n) (.ty n)
  | cl (c : Nat) : Dt K cn G (.ref (cn c)) (.cl c)
  | scr {a : Addr} {ns : List Int} : SqL K G a (ns.map V.int) → Dt K cn G (.ref a) (.scr ns)
  | lst {a : Addr} {vs : List V} {ds : List D} : G a = some (.lst vs) → DtL K cn G vs ds → Dt K cn G (.ref a) (.lst ds)
  | tup {a : Addr} {vs : List V} {ds : List D} : G a = some (.tup vs) → DtL K cn G vs ds → Dt K cn G (.ref a) (.tup ds)
  | dct {a : Addr} {kvs : List (Key × V)} {dks : List (Key × D)} : Rd G a (.dK kvs) → kvs.map (·.1) = dks.map (·.1) → DtL K cn G (kvs.map (·.2)) (dks.map (·.2)) → Dt K cn G (.ref a) (.dct dks)
  | ins {a dx : Addr} {c : Nat} {fs : List (Str × V)} {dfs : List (Str × D)} : G a = some (.ins (cn c) dx fs) → fs.map (·.1) = dfs.map (·.1) → DtL K cn G (fs.map (·.2)) (dfs.map (·.2)) → Dt K cn G (.ref a) (.ins c dfs)
inductive DtL (K : PySem.W.Frag) (cn : Nat → Addr) (G : Hp) : List V → List D → Prop
  | nil : DtL K cn G [] []
  | cons {v : V} {vs : List V} {d : D} {ds : List D} : Dt K cn G v d → DtL K cn G vs ds → DtL K cn G (v :: vs) (d :: ds)
end

section
variable {K : PySem.W.Frag} {cn : Nat → Addr} {G G' : Hp}
theorem Rd.same {a : Addr} {u : HO} (e : Same G G') (h : Rd G a u) : Rd G' a u := by
  rcases h with h | ⟨o, h⟩
  · exact .inl (e _ _ h)
  · exact .inr ⟨o, e _ _ h⟩
theorem seqT {a : Addr} {xs : List V} (e : Same G G') (h : SqT K G a xs) : SqT K G' a xs := by
  rcases h with h | h
  · exact .inl (Rd.same e h)
  · exact .inr h
mutual
theorem Dt.same (e : Same G G') : ∀ {v : V} {d : D}, Dt K cn G v d → Dt K cn G' v d
  | _, _, .non => .non
  | _, _, .bl b => .bl b
  | _, _, .int i => .int i
  | _, _, .str x => .str x
  | _, _, .ty n => .ty n
  | _, _, .cl c => .cl c
  | _, _, .scr h => .scr (e.seq h)
  | _, _, .lst h t => .lst (e _ _ h) (DtL.same e t)
  | _, _, .tup h t => .tup (e _ _ h) (DtL.same e t)
  | _, _, .dct h k t => .dct (Rd.same e h) k (DtL.same e t)
  | _, _, .ins h k t => .ins (e _ _ h) k (DtL.same e t)
theorem DtL.same (e : Same G G') : ∀ {vs : List V} {ds : List D}, DtL K cn G vs ds → DtL K cn G' vs ds
  | _, _, .nil => .nil
  | _, _, .cons h t => .cons (Dt.same e h) (DtL.same e t)
end
theorem DtL.length : ∀ {vs : List V} {ds : List D}, DtL K cn G vs ds → vs.length = ds.length
  | _, _, .nil => rfl
  | _, _, .cons _ t => congrArg (· + 1) (DtL.length t)
theorem DtL.get : ∀ {vs : List V} {ds : List D} {i : Nat} {d : D}, DtL K cn G vs ds → ds[i]? = some d → ∃ v, vs[i]? = some v ∧ Dt K cn G v d
  | _, _, _, _, .nil, e => by simp at e
  | _, _, 0, _, .cons h t, e => by simp at e; subst e; exact ⟨_, rfl, h⟩
  | _, _, i + 1, d, .cons h t, e => by
    obtain ⟨v, h1, h2⟩ := DtL.get (i := i) (d := d) t (by simpa using e)
    exact ⟨v, by simpa using h1, h2⟩
theorem DtL.getV : ∀ {vs : List V} {ds : List D} {i : Nat} {v : V}, DtL K cn G vs ds → vs[i]? = some v → ∃ d, ds[i]? = some d ∧ Dt K cn G v d
  | _, _, _, _, .nil, e => by simp at e
  | _, _, 0, _, .cons h t, e => by simp at e; subst e; exact ⟨_, rfl, h⟩
  | _, _, i + 1, v, .cons h t, e => by
    obtain ⟨d, h1, h2⟩ := DtL.getV (i := i) (v := v) t (by simpa using e)
    exact ⟨d, by simpa using h1, h2⟩
theorem DtL.append : ∀ {vs ws : List V} {ds es : List D}, DtL K cn G vs ds → DtL K cn G ws es → DtL K cn G (vs ++ ws) (ds ++ es)
  | _, _, _, _, .nil, h => h
  | _, _, _, _, .cons h t, h' => .cons h (DtL.append t h')
theorem DtL.take : ∀ {vs : List V} {ds : List D} (n : Nat), DtL K cn G vs ds → DtL K cn G (vs.take n) (ds.take n)
  | _, _, 0, _ => .nil
  | _, _, _ + 1, .nil => .nil
  | _, _, n + 1, .cons h t => .cons h (DtL.take n t)
theorem DtL.drop : ∀ {vs : List V} {ds : List D} (n : Nat), DtL K cn G vs ds → DtL K cn G (vs.drop n) (ds.drop n)
  | _, _, 0, h => h
  | _, _, _ + 1, .nil => .nil
  | _, _, n + 1, .cons h t => DtL.drop n t
theorem DtL.set : ∀ {vs : List V} {ds : List D} (n : Nat) {v : V} {d : D}, DtL K cn G vs ds → Dt K cn G v d → DtL K cn G (vs.set n v) (ds.set n d)
  | _, _, _, _, _, .nil, _ => .nil
  | _, _, 0, _, _, .cons _ t, h => .cons h t
  | _, _, n + 1, _, _, .cons h' t, h => .cons h' (DtL.set n t h)
theorem DtL.rev : ∀ {vs : List V} {ds : List D}, DtL K cn G vs ds → DtL K cn G vs.reverse ds.reverse
  | _, _, .nil => .nil
  | _, _, .cons h t => by
    rw [List.reverse_cons, List.reverse_cons]
    exact DtL.append (DtL.rev t) (.cons h .nil)
theorem DtL.one {v : V} {d : D} (h : Dt K cn G v d) : DtL K cn G [v] [d] := .cons h .nil
theorem DtL.ints : ∀ (ns : List Int), DtL K cn G (ns.map V.int) (ns.map D.int)
  | [] => .nil
  | n :: r => .cons (.int n) (DtL.ints r)
theorem DtL.strs : ∀ (ns : List Str), DtL K cn G (ns.map V.str) (ns.map D.str)
  | [] => .nil
  | n :: r => .cons (.str n) (DtL.strs r)
theorem DtL.ints_inv : ∀ {vs : List V} (ns : List Int), DtL K cn G vs (ns.map D.int) → vs = ns.map V.int
  | _, [], .nil => rfl
  | _, n :: r, .cons (.int _) t => by rw [DtL.ints_inv r t]; rfl
theorem DtL.strs_inv : ∀ {vs : List V} (ns : List Str), DtL K cn G vs (ns.map D.str) → vs = ns.map V.str
  | _, [], .nil => rfl
  | _, n :: r, .cons (.str _) t => by rw [DtL.strs_inv r t]; rfl
theorem DtL.bls_inv : ∀ {vs : List V} (ns : List Bool), DtL K cn G vs (ns.map D.bl) → vs = ns.map V.bl
  | _, [], .nil => rfl
  | _, n :: r, .cons (.bl _) t => by rw [DtL.bls_inv r t]; rfl

/-! ### steps: G what one sees, H the whole -/
structure Stp (G H G' H' : Hp) : Prop where
  g : Same G G'
  h : Same H H'
  sub : Same G' H'
  fr : ∀ a, G' a ≠ none → G a ≠ none ∨ H a = none
variable {H H' G'' H'' : Hp}
theorem Stp.refl (s : Same G H) : Stp G H G H := ⟨Same.refl _, Same.refl _, s, fun _ h => .inl h⟩
theorem Stp.trans (a : Stp G H G' H') (b : Stp G' H' G'' H'') : Stp G H G'' H'' :=
  ⟨a.g.trans b.g, a.h.trans b.h, b.sub, fun x h => by
    rcases b.fr x h with h | h
    · exact a.fr x h
    · exact .inr (a.h.free h)⟩
theorem same_upd {p : Addr} {o : HO} (h : H p = none) : Same H (upd H p o) := fun b x e => by
  rw [upd_ne (ne_of_none e h)]
  exact e
theorem same_upd2 {p : Addr} {o : HO} (s : Same G H) (h : G p = none) : Same G (upd H p o) := fun b x e => by
  rw [upd_ne (ne_of_none e h)]
  exact s b x e
/-- a new object that one sees -/
theorem Stp.new {p : Addr} {o : HO} (s : Same G H) (h : H p = none) : Stp G H (upd G p o) (upd H p o) :=
  ⟨same_upd (s.free h), same_upd h, fun b x e => by
    by_cases q : b = p
    · subst q; rw [upd_same] at e ⊢; exact e
    · rw [upd_ne q] at e ⊢; exact s b x e, fun a e => by
    by_cases q : a = p
    · subst q; exact .inr h
    · rw [upd_ne q] at e; exact .inl e⟩
/-- a new object that one does not see yet -/
theorem Stp.hid {p : Addr} {o : HO} (s : Same G H) (h : H p = none) : Stp G H G (upd H p o) :=
  ⟨Same.refl _, same_upd h, same_upd2 s (s.free h), fun _ h => .inl h⟩

/-- what stands at p: the top of the data d; the rest is seen -/
def Top (K : PySem.W.Frag) (cn : Nat → Addr) (G H : Hp) (p : Addr) : D → Prop
  | .lst ds => ∃ vs, H p = some (.lst vs) ∧ DtL K cn G vs ds
  | .tup ds => ∃ vs, H p = some (.tup vs) ∧ DtL K cn G vs ds
  | .dct dks => ∃ kvs, H p = some (.dK kvs) ∧ kvs.map (·.1) = dks.map (·.1) ∧ DtL K cn G (kvs.map (·.2)) (dks.map (·.2))
  | .ins c dfs => ∃ dx fs, H p = some (.ins (cn c) dx fs) ∧ fs.map (·.1) = dfs.map (·.1) ∧ DtL K cn G (fs.map (·.2)) (dfs.map (·.2))
  | _ => False
theorem Top.same {p : Addr} {d : D} (eg : Same G G') (eh : ∀ o, H p = some o → H' p = some o) (h : Top K cn G H p d) : Top K cn G' H' p d := by
  cases d with
  | lst ds => obtain ⟨vs, h1, h2⟩ := h; exact ⟨vs, eh _ h1, DtL.same eg h2⟩
  | tup ds => obtain ⟨vs, h1, h2⟩ := h; exact ⟨vs, eh _ h1, DtL.same eg h2⟩
  | dct dks => obtain ⟨vs, h1, k, h2⟩ := h; exact ⟨vs, eh _ h1, k, DtL.same eg h2⟩
  | ins c dfs => obtain ⟨dx, vs, h1, k, h2⟩ := h; exact ⟨dx, vs, eh _ h1, k, DtL.same eg h2⟩
  | _ => exact h.elim
theorem Top.some {p : Addr} {d : D} (h : Top K cn G H p d) : ∃ o, H p = Option.some o := by
  cases d with
  | lst ds => obtain ⟨vs, h1, h2⟩ := h; exact ⟨_, h1⟩
  | tup ds => obtain ⟨vs, h1, h2⟩ := h; exact ⟨_, h1⟩
  | dct dks => obtain ⟨vs, h1, k, h2⟩ := h; exact ⟨_, h1⟩
  | ins c dfs => obtain ⟨dx, vs, h1, k, h2⟩ := h; exact ⟨_, h1⟩
  | _ => exact h.elim
theorem Top.dt {p : Addr} {d : D} (h : Top K cn G H p d) (s : Same G G') (e : ∀ o, H p = Option.some o → G' p = Option.some o) : Dt K cn G' (.ref p) d := by
  cases d with
  | lst ds => obtain ⟨vs, h1, h2⟩ := h; exact .lst (e _ h1) (h2.same s)
  | tup ds => obtain ⟨vs, h1, h2⟩ := h; exact .tup (e _ h1) (h2.same s)
  | dct dks => obtain ⟨vs, h1, k, h2⟩ := h; exact .dct (.inl (e _ h1)) k (h2.same s)
  | ins c dfs => obtain ⟨dx, vs, h1, k, h2⟩ := h; exact .ins (e _ h1) k (h2.same s)
  | _ => exact h.elim

/-- what may be read as d: seen, or its top is there -/
def DB (K : PySem.W.Frag) (cn : Nat → Addr) (G H : Hp) (v : V) (d : D) : Prop := Dt K cn G v d ∨ ∃ p, v = .ref p ∧ G p = none ∧ Top K cn G H p d
theorem DB.step {v : V} {d : D} (s : Stp G H G' H') (h : DB K cn G H v d) : DB K cn G' H' v d := by
  rcases h with h | ⟨p, e, n, t⟩
  · exact .inl (h.same s.g)
  · refine .inr ⟨p, e, ?_, t.same s.g fun o q => s.h _ _ q⟩
    cases q : G' p with
    | none => rfl
    | some o =>
      rcases s.fr p (by rw [q]; simp) with z | z
      · exact absurd n z
      · obtain ⟨o', e'⟩ := t.some
        rw [z] at e'; cases e'

/-- shared (seen) | new (nobody else's) | borrowed (a local's own) -/
inductive Kd where
  | sh | nw | bo
  deriving DecidableEq
def VI (K : PySem.W.Frag) (cn : Nat → Addr) (H G' H' : Hp) : Kd → V → D → Prop
  | .sh, v, d => Dt K cn G' v d
  | .nw, v, d => ∃ p, v = .ref p ∧ H p = none ∧ G' p = none ∧ Top K cn G' H' p d
  | .bo, v, d => ∃ p, v = .ref p ∧ G' p = none ∧ Top K cn G' H' p d
theorem VI.db {k : Kd} {v : V} {d : D} (h : VI K cn H G' H' k v d) : DB K cn G' H' v d := by
  cases k with
  | sh => exact .inl h
  | nw => obtain ⟨p, e, _, n, t⟩ := h; exact .inr ⟨p, e, n, t⟩
  | bo => obtain ⟨p, e, n, t⟩ := h; exact .inr ⟨p, e, n, t⟩
/-- a new thing is shown -/
theorem VI.sh {v : V} {d : D} (s : Stp G H G' H') (h : VI K cn H G' H' .nw v d) : ∃ G2, Stp G H G2 H' ∧ Dt K cn G2 v d := by
  obtain ⟨p, rfl, hn, gn, t⟩ := h
  obtain ⟨o, ho⟩ := t.some
  have sg : Same G' (upd G' p o) := same_upd gn
  refine ⟨upd G' p o, ⟨s.g.trans sg, s.h, fun b x e => ?_, fun a e => ?_⟩, t.dt sg fun o' q => ?_⟩
  · by_cases q : b = p
    · subst q; rw [upd_same] at e; cases e; exact ho
    · rw [upd_ne q] at e; exact s.sub b x e
  · by_cases q : a = p
    · subst q; exact .inr hn
    · rw [upd_ne q] at e; exact s.fr a e
  · rw [upd_same, ← ho, q]

/-! ### what an expression gives -/
inductive R where
  | val (k : Kd) (d : D)
  | er (c : Nat) (d : D)
/-- a local's data: shared, or its own (a list, a dict, an instance that it alone holds) -/
inductive Sl where
  | sh (d : D)
  | ow (d : D)
abbrev En := List (Option Sl)
def SlotR (K : PySem.W.Frag) (cn : Nat → Addr) (G H : Hp) (σ : L2.St) (i : Nat) : Sl → Prop
  | .sh d => ∃ v, σ[i]? = some (some v) ∧ Dt K cn G v d
  | .ow d => ∃ p, σ[i]? = some (some (.ref p)) ∧ G p = none ∧ Top K cn G H p d
structure SR (K : PySem.W.Frag) (cn : Nat → Addr) (G H : Hp) (σ : L2.St) (en : En) : Prop where
  sub : Same G H
  sl : ∀ i s, en[i]? = some (some s) → SlotR K cn G H σ i s
  len : en.length = σ.length
theorem SlotR.step {σ : L2.St} {i : Nat} {x : Sl} (s : Stp G H G' H') (h : SlotR K cn G H σ i x) : SlotR K cn G' H' σ i x := by
  cases x with
  | sh d => obtain ⟨v, e, h⟩ := h; exact ⟨v, e, h.same s.g⟩
  | ow d =>
    obtain ⟨p, e, n, t⟩ := h
    rcases DB.step (v := .ref p) s (.inr ⟨p, rfl, n, t⟩) with q | ⟨p', q, n', t'⟩
    · refine ⟨p, e, ?_, t.same s.g fun o q => s.h _ _ q⟩
      cases q : G' p with
      | none => rfl
      | some o =>
        rcases s.fr p (by rw [q]; simp) with z | z
        · exact absurd n z
        · obtain ⟨o', e'⟩ := t.some
          rw [z] at e'; cases e'
    · cases q; exact ⟨p, e, n', t'⟩
theorem SR.step {σ : L2.St} {en : En} (s : Stp G H G' H') (h : SR K cn G H σ en) : SR K cn G' H' σ en := ⟨s.sub, fun i x e => (h.sl i x e).step s, h.len⟩

/-- the wish of an exception of the class c with the value d -/
def Xd : Str := "value"
def RQ (K : PySem.W.Frag) (cn : Nat → Addr) (G H : Hp) (Q : VK) (W : XK) : R → Prop
  | .val k d => ∀ v G' H', Stp G H G' H' → VI K cn H G' H' k v d → Q v H'
  | .er c d => ∀ dx v G' H', Stp G H G' H' → H' dx = some (.xd [(Xd, v)]) → Dt K cn G' v d → W (.ref (cn c)) (some dx) H'
theorem RQ.step {Q : VK} {W : XK} {r : R} (s : Stp G H G' H') (hv : ∀ k v d G2 H2, VI K cn H' G2 H2 k v d → VI K cn H G2 H2 k v d) (h : RQ K cn G H Q W r) : RQ K cn G' H' Q W r := by
  cases r with
  | val k d => exact fun v G2 H2 s2 q => h v G2 H2 (s.trans s2) (hv _ _ _ _ _ q)
  | er c d => exact fun dx v G2 H2 s2 q1 q2 => h dx v G2 H2 (s.trans s2) q1 q2
theorem VI.back {k : Kd} {v : V} {d : D} {G2 H2 : Hp} (s : Same H H') (h : VI K cn H' G2 H2 k v d) : VI K cn H G2 H2 k v d := by
  cases k with
  | sh => exact h
  | nw => obtain ⟨p, e, hn, gn, t⟩ := h; exact ⟨p, e, s.free hn, gn, t⟩
  | bo => exact h
theorem RQ.on {Q : VK} {W : XK} {r : R} (s : Stp G H G' H') (h : RQ K cn G H Q W r) : RQ K cn G' H' Q W r := RQ.step s (fun _ _ _ _ _ q => q.back s.h) h
end

/-- the reading of an expression by its data function -/
def tD (K : PySem.W.Frag) (cn : Nat → Addr) (W : WX) (f : En → Option R) : TE := fun σ H Q => ∃ G en r, SR K cn G H σ en ∧ f en = some r ∧ RQ K cn G H Q (fun c d H' => W c d σ H') r
/-- a test -/
inductive RB where
  | b (b : Bool)
  | er (c : Nat) (d : D)
def BQ (K : PySem.W.Frag) (cn : Nat → Addr) (G H : Hp) (Q : Bool → Hp → Prop) (W : XK) : RB → Prop
  | .b b => ∀ G' H', Stp G H G' H' → Q b H'
  | .er c d => ∀ dx v G' H', Stp G H G' H' → H' dx = some (.xd [(Xd, v)]) → Dt K cn G' v d → W (.ref (cn c)) (some dx) H'
def tT (K : PySem.W.Frag) (cn : Nat → Addr) (W : WX) (f : En → Option RB) : TT := fun σ H Q => ∃ G en r, SR K cn G H σ en ∧ f en = some r ∧ BQ K cn G H Q (fun c d H' => W c d σ H') r
/-- arguments: all seen -/
inductive RA where
  | vals (ds : List D)
  | er (c : Nat) (d : D)
def AQ (K : PySem.W.Frag) (cn : Nat → Addr) (G H : Hp) (Q : List V → Hp → Prop) (W : XK) : RA → Prop
  | .vals ds => ∀ vs G' H', Stp G H G' H' → DtL K cn G' vs ds → Q vs H'
  | .er c d => ∀ dx v G' H', Stp G H G' H' → H' dx = some (.xd [(Xd, v)]) → Dt K cn G' v d → W (.ref (cn c)) (some dx) H'
def tA (K : PySem.W.Frag) (cn : Nat → Addr) (W : WX) (f : En → Option RA) : TA := fun σ H Q => ∃ G en r, SR K cn G H σ en ∧ f en = some r ∧ AQ K cn G H Q (fun c d H' => W c d σ H') r

/-- the judgements -/
abbrev DE (X : Cx) (cn : Nat → Addr) (W : WX) (e : Expr) (f : En → Option R) : Prop := PE X e (tD X.K cn W f)
abbrev DT (X : Cx) (cn : Nat → Addr) (W : WX) (e : Expr) (f : En → Option RB) : Prop := PT X e (tT X.K cn W f)
abbrev DW (X : Cx) (cn : Nat → Addr) (W : WX) (e : Expr) (f : En → Option RB) : Prop := PW X e (tT X.K cn W f)
abbrev DA (X : Cx) (cn : Nat → Addr) (W : WX) (es : List Expr) (f : En → Option RA) : Prop := PA X es (tA X.K cn W f)

theorem PE.imp {X : Cx} {e : Expr} {t u : TE} (h : PE X e t) (i : ∀ σ H Q, u σ H Q → t σ H Q) : PE X e u := ⟨fun pins s σ H Q I q => h.run pins s σ H Q I (i σ H Q q)⟩
theorem PT.imp {X : Cx} {e : Expr} {t u : TT} (h : PT X e t) (i : ∀ σ H Q, u σ H Q → t σ H Q) : PT X e u := ⟨fun pins s σ H Q I q => h.run pins s σ H Q I (i σ H Q q)⟩
theorem PW.imp {X : Cx} {e : Expr} {t u : TT} (h : PW X e t) (i : ∀ σ H Q, u σ H Q → t σ H Q) : PW X e u := ⟨fun wh pins s σ H Q I q => h.run wh pins s σ H Q I (i σ H Q q)⟩
theorem PA.imp {X : Cx} {es : List Expr} {t u : TA} (h : PA X es t) (i : ∀ σ H Q, u σ H Q → t σ H Q) : PA X es u := ⟨fun pos pins s σ H Q I q => h.run pos pins s σ H Q I (i σ H Q q)⟩
theorem PS.imp {X : Cx} {st : Stmt} {t u : TS} (h : PS X st t) (i : ∀ E σ H, u E σ H → t E σ H) : PS X st u := ⟨fun pins s σ H E I q => h.run pins s σ H E I (i E σ H q)⟩
theorem PSs.imp {X : Cx} {st : List Stmt} {t u : TS} (h : PSs X st t) (i : ∀ E σ H, u E σ H → t E σ H) : PSs X st u := ⟨fun pins s σ H E I q => h.run pins s σ H E I (i E σ H q)⟩
end PD
/-! PD2: expressions by their data functions: names, constants, operators, truth, displays. -/
namespace PD
open PySem L2

/-! ### reading data back -/
section
variable {K : PySem.W.Frag} {cn : Nat → Addr} {G H : Hp} {v : V}
theorem DB.non (h : DB K cn G H v .non) : v = .non := by
  rcases h with h | ⟨p, _, _, t⟩
  · cases h; rfl
  · exact t.elim
theorem DB.bl {b : Bool} (h : DB K cn G H v (.bl b)) : v = .bl b := by
  rcases h with h | ⟨p, _, _, t⟩
  · cases h; rfl
  · exact t.elim
theorem DB.int {b : Int} (h : DB K cn G H v (.int b)) : v = .int b := by
  rcases h with h | ⟨p, _, _, t⟩
  · cases h; rfl
  · exact t.elim
theorem DB.str {b : Str} (h : DB K cn G H v (.str b)) : v = .str b := by
  rcases h with h | ⟨p, _, _, t⟩
  · cases h; rfl
  · exact t.elim
theorem DB.ty {b : String} (h : DB K cn G H v (.ty b)) : v = .ty b := by
  rcases h with h | ⟨p, _, _, t⟩
  · cases h; rfl
  · exact t.elim
theorem DB.scr (s : Same G H) {ns : List Int} (h : DB K cn G H v (.scr ns)) : ∃ p, v = .ref p ∧ SqL K H p (ns.map V.int) := by
  rcases h with h | ⟨p, _, _, t⟩
  · cases h with
    | scr h => exact ⟨_, rfl, s.seq h⟩
  · exact t.elim
theorem DB.lst (s : Same G H) {ds : List D} (h : DB K cn G H v (.lst ds)) : ∃ p vs, v = .ref p ∧ H p = some (.lst vs) ∧ DtL K cn G vs ds := by
  rcases h with h | ⟨p, e, _, t⟩
  · cases h with
    | lst h t => exact ⟨_, _, rfl, s _ _ h, t⟩
  · obtain ⟨vs, h, t⟩ := t
    exact ⟨p, vs, e, h, t⟩
theorem DB.tupS (s : Same G H) {ds : List D} (h : DB K cn G H v (.tup ds)) : ∃ p vs, v = .ref p ∧ H p = some (.tup vs) ∧ DtL K cn G vs ds := by
  rcases h with h | ⟨p, e, _, t⟩
  · cases h with
    | tup h t => exact ⟨_, _, rfl, s _ _ h, t⟩
  · obtain ⟨vs, h, t⟩ := t
    exact ⟨p, vs, e, h, t⟩
theorem DB.tup (s : Same G H) {ds : List D} (h : DB K cn G H v (.tup ds)) : ∃ p vs, v = .ref p ∧ SqT K H p vs ∧ DtL K cn G vs ds :=
  let ⟨p, vs, e, h1, t⟩ := h.tupS s
  ⟨p, vs, e, SqT.of h1, t⟩
theorem DB.dct (s : Same G H) {dks : List (Key × D)} (h : DB K cn G H v (.dct dks)) : ∃ p kvs, v = .ref p ∧ Rd H p (.dK kvs) ∧ kvs.map (·.1) = dks.map (·.1) ∧ DtL K cn G (kvs.map (·.2)) (dks.map (·.2)) := by
  rcases h with h | ⟨p, e, _, t⟩
  · cases h with
    | dct h k t => exact ⟨_, _, rfl, Rd.same s h, k, t⟩
  · obtain ⟨vs, h, k, t⟩ := t
    exact ⟨p, vs, e, .inl h, k, t⟩
theorem DB.ins (s : Same G H) {c : Nat} {dfs : List (Str × D)} (h : DB K cn G H v (.ins c dfs)) : ∃ p dx fs, v = .ref p ∧ H p = some (.ins (cn c) dx fs) ∧ fs.map (·.1) = dfs.map (·.1) ∧ DtL K cn G (fs.map (·.2)) (dfs.map (·.2)) := by
  rcases h with h | ⟨p, e, _, t⟩
  · cases h with
    | ins h k t => exact ⟨_, _, _, rfl, s _ _ h, k, t⟩
  · obtain ⟨dx, vs, h, k, t⟩ := t
    exact ⟨p, dx, vs, e, h, k, t⟩
end

/-! ### results -/
def bR (a : Option R) (k : D → Option R) : Option R := match a with
  | some (.val _ d) => k d
  | some (.er c d) => some (.er c d)
  | none => none
/-- it must be seen afterwards: not a local's own -/
def shr : Option R → Option R
  | some (.val .bo _) => none
  | some (.val _ d) => some (.val .sh d)
  | some (.er c d) => some (.er c d)
  | none => none
section
variable {K : PySem.W.Frag} {cn : Nat → Addr} {W : WX} {G H : Hp} {σ : L2.St} {en : En} {f : En → Option R} {Q T : VK}
theorem ev_bind {k : D → Option R} {r : R} (sr : SR K cn G H σ en) (e : bR (f en) k = some r) (q : RQ K cn G H Q (fun c d H' => W c d σ H') r)
    (cont : ∀ v d G1 H1, Stp G H G1 H1 → SR K cn G1 H1 σ en → DB K cn G1 H1 v d → k d = some r → RQ K cn G1 H1 Q (fun c d H' => W c d σ H') r → T v H1) : tD K cn W f σ H T := by
  cases hf : f en with
  | none => rw [hf] at e; cases e
  | some a =>
    rw [hf] at e
    refine ⟨G, en, a, sr, hf, ?_⟩
    cases a with
    | val kd d => exact fun v G1 H1 st vi => cont v d G1 H1 st (sr.step st) vi.db e (q.on st)
    | er c d => cases e; exact q
theorem ev_bindS {k : D → Option R} {r : R} (sr : SR K cn G H σ en) (e : bR (shr (f en)) k = some r) (q : RQ K cn G H Q (fun c d H' => W c d σ H') r)
    (cont : ∀ v d G1 H1, Stp G H G1 H1 → SR K cn G1 H1 σ en → Dt K cn G1 v d → k d = some r → RQ K cn G1 H1 Q (fun c d H' => W c d σ H') r → T v H1) : tD K cn W f σ H T := by
  cases hf : f en with
  | none => rw [hf] at e; cases e
  | some a =>
    rw [hf] at e
    refine ⟨G, en, a, sr, hf, ?_⟩
    cases a with
    | val kd d =>
      cases kd with
      | sh => exact fun v G1 H1 st vi => cont v d G1 H1 st (sr.step st) vi e (q.on st)
      | nw =>
        intro v G1 H1 st vi
        obtain ⟨G2, st2, h⟩ := vi.sh st
        exact cont v d G2 H1 st2 (sr.step st2) h e (q.on st2)
      | bo => cases e
    | er c d => cases e; exact q
/-- .. for tests, for arguments -/
def bB (a : Option R) (k : D → Option RB) : Option RB := match a with
  | some (.val _ d) => k d
  | some (.er c d) => some (.er c d)
  | none => none
theorem et_bind {k : D → Option RB} {r : RB} {Q : Bool → Hp → Prop} (sr : SR K cn G H σ en) (e : bB (f en) k = some r) (q : BQ K cn G H Q (fun c d H' => W c d σ H') r)
    (cont : ∀ v d G1 H1, Stp G H G1 H1 → SR K cn G1 H1 σ en → DB K cn G1 H1 v d → k d = some r → BQ K cn G1 H1 Q (fun c d H' => W c d σ H') r → T v H1) : tD K cn W f σ H T := by
  have on : ∀ G1 H1, Stp G H G1 H1 → BQ K cn G1 H1 Q (fun c d H' => W c d σ H') r := fun G1 H1 st => by
    cases r with
    | b b => exact fun G2 H2 s2 => q G2 H2 (st.trans s2)
    | er c d => exact fun dx v G2 H2 s2 => q dx v G2 H2 (st.trans s2)
  cases hf : f en with
  | none => rw [hf] at e; cases e
  | some a =>
    rw [hf] at e
    refine ⟨G, en, a, sr, hf, ?_⟩
    cases a with
    | val kd d => exact fun v G1 H1 st vi => cont v d G1 H1 st (sr.step st) vi.db e (on _ _ st)
    | er c d => cases e; exact q
end
theorem BQ.on {K : PySem.W.Frag} {cn : Nat → Addr} {G H G1 H1 : Hp} {Q : Bool → Hp → Prop} {W : XK} {r : RB} (st : Stp G H G1 H1) (q : BQ K cn G H Q W r) : BQ K cn G1 H1 Q W r := by
  cases r with
  | b b => exact fun G2 H2 s2 => q G2 H2 (st.trans s2)
  | er c d => exact fun dx v G2 H2 s2 => q dx v G2 H2 (st.trans s2)
theorem AQ.on {K : PySem.W.Frag} {cn : Nat → Addr} {G H G1 H1 : Hp} {Q : List V → Hp → Prop} {W : XK} {r : RA} (st : Stp G H G1 H1) (q : AQ K cn G H Q W r) : AQ K cn G1 H1 Q W r := by
  cases r with
  | vals ds => exact fun vs G2 H2 s2 => q vs G2 H2 (st.trans s2)
  | er c d => exact fun dx v G2 H2 s2 => q dx v G2 H2 (st.trans s2)

/-! ### names, constants -/
def fVar (i : Nat) : En → Option R := fun en => match en[i]? with
  | some (some (.sh d)) => some (.val .sh d)
  | some (some (.ow d)) => some (.val .bo d)
  | _ => none
def fC (d : D) : En → Option R := fun _ => some (.val .sh d)
section
variable {X : Cx} {cn : Nat → Addr} {W : WX} {a b c : Expr} {fa fb fc : En → Option R} {pos : Pos}
theorem de_var {i : Nat} {e : Expr} (h : PE X e (tVar i)) : DE X cn W e (fVar i) := PE.imp h fun σ H Q ⟨G, en, r, sr, e, q⟩ => by
  unfold fVar at e
  split at e
  · rename_i d hs
    cases e
    obtain ⟨v, e1, h1⟩ := sr.sl i _ hs
    exact ⟨v, e1, q v G H (Stp.refl sr.sub) h1⟩
  · rename_i d hs
    cases e
    obtain ⟨p, e1, h1, h2⟩ := sr.sl i _ hs
    exact ⟨.ref p, e1, q (.ref p) G H (Stp.refl sr.sub) ⟨p, rfl, h1, h2⟩⟩
  · cases e
theorem de_c {v : V} {d : D} {e : Expr} (h : PE X e (tC v)) (hd : ∀ G, Dt X.K cn G v d) : DE X cn W e (fC d) := PE.imp h fun σ H Q ⟨G, en, r, sr, e, q⟩ => by
  cases e
  exact q v G H (Stp.refl sr.sub) (hd G)
theorem de_int {i j} : DE X cn W (.Constant (.int i) j pos) (fC (.int i)) := de_c pe_int fun _ => .int i
theorem de_str {i j} : DE X cn W (.Constant (.str i) j pos) (fC (.str i)) := de_c pe_str fun _ => .str i
theorem de_bl {i j} : DE X cn W (.Constant (.bool i) j pos) (fC (.bl i)) := de_c pe_bl fun _ => .bl i
theorem de_non {j} : DE X cn W (.Constant .none j pos) (fC .non) := de_c pe_non fun _ => .non

/-! ### operators -/
def rD2 (K : PySem.W.Frag) (cn : Nat → Addr) (g : D → D → Option (Kd × D)) : R2 := fun x y H Q => ∃ G dx dy k d, Same G H ∧ DB K cn G H x dx ∧ DB K cn G H y dy ∧ g dx dy = some (k, d) ∧ ∀ v G' H', Stp G H G' H' → VI K cn H G' H' k v d → Q v H'
def rD1 (K : PySem.W.Frag) (cn : Nat → Addr) (g : D → Option (Kd × D)) : V → Hp → VK → Prop := fun x H Q => ∃ G dx k d, Same G H ∧ DB K cn G H x dx ∧ g dx = some (k, d) ∧ ∀ v G' H', Stp G H G' H' → VI K cn H G' H' k v d → Q v H'
def lf : Option (Kd × D) → Option R
  | some (k, d) => some (.val k d)
  | none => none
theorem lf_some {o : Option (Kd × D)} {r : R} (h : lf o = some r) : ∃ k d, o = some (k, d) ∧ r = .val k d := by
  unfold lf at h
  split at h
  · cases h; exact ⟨_, _, rfl, rfl⟩
  · cases h
def fOp (g : D → D → Option (Kd × D)) (fa fb : En → Option R) : En → Option R := fun en => bR (fa en) fun x => bR (fb en) fun y => lf (g x y)
def fUn (g : D → Option (Kd × D)) (fa : En → Option R) : En → Option R := fun en => bR (fa en) fun x => lf (g x)
theorem tOp_of {g : D → D → Option (Kd × D)} {σ : L2.St} {H : Hp} {Q : VK} (h : tD X.K cn W (fOp g fa fb) σ H Q) : tOp (rD2 X.K cn g) (tD X.K cn W fa) (tD X.K cn W fb) σ H Q := by
  obtain ⟨G, en, r, sr, e, q⟩ := h
  refine ev_bind sr e q fun x dx G1 H1 s1 sr1 hx e1 q1 => ?_
  refine ev_bind sr1 e1 q1 fun y dy G2 H2 s2 sr2 hy e2 q2 => ?_
  obtain ⟨k, d, e3, rfl⟩ := lf_some e2
  exact ⟨G2, dx, dy, k, d, sr2.sub, hx.step s2, hy, e3, q2⟩
theorem de_op {op : Operator} {g : D → D → Option (Kd × D)} (ho : OpR X (binaryOp op) (rD2 X.K cn g)) (ha : DE X cn W a fa) (hb : DE X cn W b fb) : DE X cn W (.BinOp a op b pos) (fOp g fa fb) :=
  PE.imp (pe_op ho ha hb) fun _ _ _ h => tOp_of h
theorem de_un {op : UnaryOp} {g : D → Option (Kd × D)} (ho : UnR X (unaryOp op) (rD1 X.K cn g)) (ha : DE X cn W a fa) : DE X cn W (.UnaryOp op a pos) (fUn g fa) :=
  PE.imp (pe_un ho ha) fun σ H Q ⟨G, en, r, sr, e, q⟩ => ev_bind sr e q fun x dx G1 H1 s1 sr1 hx e1 q1 => by
    obtain ⟨k, d, e3, rfl⟩ := lf_some e1
    exact ⟨G1, dx, k, d, sr1.sub, hx, e3, q1⟩
theorem de_cmp {op : CmpOp} {g : D → D → Option (Kd × D)} (ho : OpR X (compareOp op) (rD2 X.K cn g)) (ha : DE X cn W a fa) (hb : DE X cn W b fb) (hm : behindInMarks op b = false) : DE X cn W (.Compare a [op] [b] pos) (fOp g fa fb) :=
  PE.imp (pe_cmpR ho ha hb hm) fun _ _ _ h => tOp_of h
/-- a result that is a bool, as a test -/
def tB1 : Option R → Option RB
  | some (.val _ (.bl b)) => some (.b b)
  | some (.er c d) => some (.er c d)
  | _ => none
theorem tTest_of {f : En → Option R} {t : TE} {σ : L2.St} {H : Hp} {Q : Bool → Hp → Prop} (h : tT X.K cn W (fun en => tB1 (f en)) σ H Q) (i : ∀ Q, tD X.K cn W f σ H Q → t σ H Q) : tTest t σ H Q := by
  obtain ⟨G, en, r, sr, e, q⟩ := h
  replace e : tB1 (f en) = some r := e
  refine i _ ?_
  cases hf : f en with
  | none => rw [hf] at e; cases e
  | some a =>
    rw [hf] at e
    refine ⟨G, en, a, sr, hf, ?_⟩
    cases a with
    | val kd d =>
      cases d with
      | bl b =>
        cases e
        exact fun v G1 H1 st vi => ⟨b, (vi.db).bl, q G1 H1 st⟩
      | _ => cases e
    | er c d => cases e; exact q
theorem dt_cmp {op : CmpOp} {g : D → D → Option (Kd × D)} (ho : OpR X (compareOp op) (rD2 X.K cn g)) (ha : DE X cn W a fa) (hb : DE X cn W b fb) (hm : behindInMarks op b = false) : DT X cn W (.Compare a [op] [b] pos) (fun en => tB1 (fOp g fa fb en)) :=
  PT.imp (pt_cmpR ho ha hb hm) fun _ _ _ h => tTest_of h fun _ h => tOp_of h
/-- a < b < c -/
def fChain (g g' : D → D → Option (Kd × D)) (fa fb fc : En → Option R) : En → Option R := fun en => bR (fa en) fun x => bR (fb en) fun y => match g x y with
  | some (_, .bl true) => bR (fc en) fun z => lf (g' y z)
  | some (_, .bl false) => some (.val .sh (.bl false))
  | _ => none
theorem tChain_of {g g' : D → D → Option (Kd × D)} {σ : L2.St} {H : Hp} {Q : VK} (h : tD X.K cn W (fChain g g' fa fb fc) σ H Q) : tChain (rD2 X.K cn g) (rD2 X.K cn g') (tD X.K cn W fa) (tD X.K cn W fb) (tD X.K cn W fc) σ H Q := by
  obtain ⟨G, en, r, sr, e, q⟩ := h
  refine ev_bind sr e q fun x dx G1 H1 s1 sr1 hx e1 q1 => ?_
  refine ev_bind sr1 e1 q1 fun y dy G2 H2 s2 sr2 hy e2 q2 => ?_
  revert e2
  cases hg : g dx dy with
  | none => intro e2; cases e2
  | some kd =>
    obtain ⟨k, d⟩ := kd
    cases d with
    | bl z =>
      intro e2
      refine ⟨G2, dx, dy, k, .bl z, sr2.sub, hx.step s2, hy, hg, fun v G3 H3 s3 vi => ?_⟩
      refine ⟨z, (vi.db).bl, ?_⟩
      have sr3 := sr2.step s3
      cases z with
      | true =>
        rw [if_pos rfl]
        refine ev_bind sr3 e2 (q2.on s3) fun w dw G4 H4 s4 sr4 hw e4 q4 => ?_
        obtain ⟨k', d', e5, rfl⟩ := lf_some e4
        exact ⟨G4, dy, dw, k', d', sr4.sub, (hy.step s3).step s4, hw, e5, q4⟩
      | false =>
        rw [if_neg Bool.false_ne_true]
        cases e2
        exact (q2.on s3) (.bl false) G3 H3 (Stp.refl sr3.sub) (.bl false)
    | _ => intro e2; cases e2
theorem de_chain {op op' : CmpOp} {g g' : D → D → Option (Kd × D)} (ho : OpR X (compareOp op) (rD2 X.K cn g)) (ho' : OpR X (compareOp op') (rD2 X.K cn g')) (ha : DE X cn W a fa) (hb : DE X cn W b fb) (hc : DE X cn W c fc)
    (hm : lastMarks [op, op'] [b, c] = false := by with_unfolding_all rfl) : DE X cn W (.Compare a [op, op'] [b, c] pos) (fChain g g' fa fb fc) := PE.imp (pe_chain ho ho' ha hb hc hm) fun _ _ _ h => tChain_of h
theorem dt_chain {op op' : CmpOp} {g g' : D → D → Option (Kd × D)} (ho : OpR X (compareOp op) (rD2 X.K cn g)) (ho' : OpR X (compareOp op') (rD2 X.K cn g')) (ha : DE X cn W a fa) (hb : DE X cn W b fb) (hc : DE X cn W c fc)
    (hm : lastMarks [op, op'] [b, c] = false := by with_unfolding_all rfl) : DT X cn W (.Compare a [op, op'] [b, c] pos) (fun en => tB1 (fChain g g' fa fb fc en)) := PT.imp (pt_chain ho ho' ha hb hc hm) fun _ _ _ h => tTest_of h fun _ h => tChain_of h
end
end PD
/-! PD3: truth, and, or, not, if; arguments, displays, calls. -/
namespace PD
open PySem L2
section
variable {X : Cx} {cn : Nat → Addr} {W : WX} {a b c e : Expr} {fa fb fc f : En → Option R} {ta tb : En → Option RB} {pos : Pos} {rest es : List Expr}

/-! ### truth -/
def truD : D → Option Bool
  | .non => some false
  | .bl b => some b
  | .int i => some (i != 0)
  | .str x => if x.length ≤ 16777216 then some ((x.length : Int) != 0) else none
  | .lst xs => some (!xs.isEmpty)
  | .tup xs => some (!xs.isEmpty)
  | .scr xs => some (!xs.isEmpty)
  | _ => none
def truR : Option R → Option RB
  | some (.val _ d) => (truD d).map .b
  | some (.er c d) => some (.er c d)
  | none => none
theorem DtL.isEmpty {K : PySem.W.Frag} {G : Hp} {vs : List V} {ds : List D} (h : DtL K cn G vs ds) : vs.isEmpty = ds.isEmpty := by cases h <;> rfl
theorem tru_of {K : PySem.W.Frag} {G H : Hp} {v : V} {d : D} {b : Bool} (s : Same G H) (h : DB K cn G H v d) (e : truD d = some b) : TruV K v H b := by
  cases d with
  | non => cases e; rw [h.non]; rfl
  | bl _ => cases e; rw [h.bl]; rfl
  | int _ => cases e; rw [h.int]; rfl
  | str x =>
    rw [h.str]
    replace e : (if x.length ≤ 16777216 then some ((x.length : Int) != 0) else none) = some b := e
    split at e
    · cases e
      rename_i hl
      exact ⟨by rw [sizeLine_eq]; exact hl, rfl⟩
    · cases e
  | lst ds =>
    obtain ⟨p, vs, rfl, hp, t⟩ := h.lst s
    cases e
    exact .inl ⟨vs, SqL.of hp, by rw [t.isEmpty]⟩
  | tup ds =>
    obtain ⟨p, vs, rfl, hp, t⟩ := h.tup s
    cases e
    exact .inr (.inl ⟨vs, hp, by rw [t.isEmpty]⟩)
  | scr ns =>
    obtain ⟨p, rfl, hp⟩ := h.scr s
    cases e
    exact .inl ⟨_, hp, by cases ns <;> rfl⟩
  | _ => cases e
theorem dt_tru (ha : DE X cn W a fa) (he : ∀ whole, isTrue a X.env whole = (do let v ← whole; standAt a.pos; holding [v] (truthy v)) := by intro _; rfl) : DT X cn W a (fun en => truR (fa en)) := by
  refine PT.imp (pt_truth ha he) ?_
  rintro σ H Q ⟨G, en, r, sr, e, q⟩
  replace e : truR (fa en) = some r := e
  cases hf : fa en with
  | none => rw [hf] at e; cases e
  | some a =>
    rw [hf] at e
    refine ⟨G, en, a, sr, hf, ?_⟩
    cases a with
    | val kd d =>
      obtain ⟨b, hb, rfl⟩ := Option.map_eq_some_iff.mp e
      exact fun v G1 H1 st vi => ⟨b, tru_of st.sub vi.db hb, q G1 H1 st⟩
    | er c d => cases e; exact q

/-! ### and, or, not, if -/
def fAndT (ta tb : En → Option RB) : En → Option RB := fun en => match ta en with
  | some (.b true) => tb en
  | some (.b false) => some (.b false)
  | some (.er c d) => some (.er c d)
  | none => none
def fOrT (ta tb : En → Option RB) : En → Option RB := fun en => match ta en with
  | some (.b false) => tb en
  | some (.b true) => some (.b true)
  | some (.er c d) => some (.er c d)
  | none => none
def fNotT (ta : En → Option RB) : En → Option RB := fun en => match ta en with
  | some (.b b) => some (.b (!b))
  | some (.er c d) => some (.er c d)
  | none => none
theorem dw_and1 (ha : DT X cn W a ta) : DW X cn W (.BoolOp .And [a] pos) ta := pw_and1 ha
theorem dw_or1 (ha : DT X cn W a ta) : DW X cn W (.BoolOp .Or [a] pos) ta := pw_or1 ha
theorem dw_and (ha : DT X cn W a ta) (hb : DW X cn W (.BoolOp .And (b :: rest) pos) tb) : DW X cn W (.BoolOp .And (a :: b :: rest) pos) (fAndT ta tb) := by
  refine PW.imp (pw_and ha hb) ?_
  rintro σ H Q ⟨G, en, r, sr, e, q⟩
  unfold fAndT at e
  cases hf : ta en with
  | none => rw [hf] at e; cases e
  | some x =>
    rw [hf] at e
    refine ⟨G, en, x, sr, hf, ?_⟩
    cases x with
    | b k =>
      intro G1 H1 st
      cases k with
      | true => rw [if_pos rfl]; exact ⟨G1, en, r, sr.step st, e, q.on st⟩
      | false => rw [if_neg Bool.false_ne_true]; cases e; exact q G1 H1 st
    | er c d => cases e; exact q
theorem dw_or (ha : DT X cn W a ta) (hb : DW X cn W (.BoolOp .Or (b :: rest) pos) tb) : DW X cn W (.BoolOp .Or (a :: b :: rest) pos) (fOrT ta tb) := by
  refine PW.imp (pw_or ha hb) ?_
  rintro σ H Q ⟨G, en, r, sr, e, q⟩
  unfold fOrT at e
  cases hf : ta en with
  | none => rw [hf] at e; cases e
  | some x =>
    rw [hf] at e
    refine ⟨G, en, x, sr, hf, ?_⟩
    cases x with
    | b k =>
      intro G1 H1 st
      cases k with
      | false => rw [if_neg Bool.false_ne_true]; exact ⟨G1, en, r, sr.step st, e, q.on st⟩
      | true => rw [if_pos rfl]; cases e; exact q G1 H1 st
    | er c d => cases e; exact q
theorem dt_w (h : DW X cn W a ta) : DT X cn W a ta := h.pt
theorem dt_not (ha : DT X cn W a ta) : DT X cn W (.UnaryOp .Not a pos) (fNotT ta) := by
  refine PT.imp (pt_not ha) ?_
  rintro σ H Q ⟨G, en, r, sr, e, q⟩
  unfold fNotT at e
  cases hf : ta en with
  | none => rw [hf] at e; cases e
  | some x =>
    rw [hf] at e
    refine ⟨G, en, x, sr, hf, ?_⟩
    cases x with
    | b k => cases e; exact fun G1 H1 st => q G1 H1 st
    | er c d => cases e; exact q
/-- as values: all but the last give bools -/
def fAndV (fa fb : En → Option R) : En → Option R := fun en => match fa en with
  | some (.val _ (.bl true)) => fb en
  | some (.val _ (.bl false)) => some (.val .sh (.bl false))
  | some (.er c d) => some (.er c d)
  | _ => none
def fOrV (fa fb : En → Option R) : En → Option R := fun en => match fa en with
  | some (.val _ (.bl false)) => fb en
  | some (.val _ (.bl true)) => some (.val .sh (.bl true))
  | some (.er c d) => some (.er c d)
  | _ => none
def fNotV (fa : En → Option R) : En → Option R := fun en => match fa en with
  | some (.val _ (.bl b)) => some (.val .sh (.bl (!b)))
  | some (.er c d) => some (.er c d)
  | _ => none
theorem de_one {op} (h : DE X cn W a fa) : DE X cn W (.BoolOp op [a] pos) fa := pe_one h
theorem de_and (ha : DE X cn W a fa) (hb : DE X cn W (.BoolOp .And (b :: rest) pos) fb) : DE X cn W (.BoolOp .And (a :: b :: rest) pos) (fAndV fa fb) := by
  refine PE.imp (pe_and ha hb) ?_
  rintro σ H Q ⟨G, en, r, sr, e, q⟩
  unfold fAndV at e
  cases hf : fa en with
  | none => rw [hf] at e; cases e
  | some x =>
    rw [hf] at e
    refine ⟨G, en, x, sr, hf, ?_⟩
    cases x with
    | val kd d =>
      intro v G1 H1 st vi
      cases d with
      | bl k =>
        refine ⟨k, (vi.db).bl, ?_⟩
        cases k with
        | true => rw [if_pos rfl]; exact ⟨G1, en, r, sr.step st, e, q.on st⟩
        | false => rw [if_neg Bool.false_ne_true]; cases e; exact q _ G1 H1 st (.bl false)
      | _ => cases e
    | er c d => cases e; exact q
theorem de_or (ha : DE X cn W a fa) (hb : DE X cn W (.BoolOp .Or (b :: rest) pos) fb) : DE X cn W (.BoolOp .Or (a :: b :: rest) pos) (fOrV fa fb) := by
  refine PE.imp (pe_or ha hb) ?_
  rintro σ H Q ⟨G, en, r, sr, e, q⟩
  unfold fOrV at e
  cases hf : fa en with
  | none => rw [hf] at e; cases e
  | some x =>
    rw [hf] at e
    refine ⟨G, en, x, sr, hf, ?_⟩
    cases x with
    | val kd d =>
      intro v G1 H1 st vi
      cases d with
      | bl k =>
        refine ⟨k, (vi.db).bl, ?_⟩
        cases k with
        | false => rw [if_neg Bool.false_ne_true]; exact ⟨G1, en, r, sr.step st, e, q.on st⟩
        | true => rw [if_pos rfl]; cases e; exact q _ G1 H1 st (.bl true)
      | _ => cases e
    | er c d => cases e; exact q
theorem de_not (ha : DE X cn W a fa) : DE X cn W (.UnaryOp .Not a pos) (fNotV fa) := by
  refine PE.imp (pe_not ha) ?_
  rintro σ H Q ⟨G, en, r, sr, e, q⟩
  unfold fNotV at e
  cases hf : fa en with
  | none => rw [hf] at e; cases e
  | some x =>
    rw [hf] at e
    refine ⟨G, en, x, sr, hf, ?_⟩
    cases x with
    | val kd d =>
      intro v G1 H1 st vi
      cases d with
      | bl k => cases e; exact ⟨k, (vi.db).bl, q _ G1 H1 st (.bl _)⟩
      | _ => cases e
    | er c d => cases e; exact q
def fIf (t : En → Option RB) (fa fb : En → Option R) : En → Option R := fun en => match t en with
  | some (.b true) => fa en
  | some (.b false) => fb en
  | some (.er c d) => some (.er c d)
  | none => none
theorem de_if (hc : DT X cn W c ta) (ha : DE X cn W a fa) (hb : DE X cn W b fb) : DE X cn W (.IfExp c a b pos) (fIf ta fa fb) := by
  refine PE.imp (pe_ifExp hc ha hb) ?_
  rintro σ H Q ⟨G, en, r, sr, e, q⟩
  unfold fIf at e
  cases hf : ta en with
  | none => rw [hf] at e; cases e
  | some x =>
    rw [hf] at e
    refine ⟨G, en, x, sr, hf, ?_⟩
    cases x with
    | b k =>
      intro G1 H1 st
      cases k with
      | true => rw [if_pos rfl]; exact ⟨G1, en, r, sr.step st, e, q.on st⟩
      | false => rw [if_neg Bool.false_ne_true]; exact ⟨G1, en, r, sr.step st, e, q.on st⟩
    | er c d => cases e; exact q

/-! ### arguments -/
def bA (a : Option RA) (k : List D → Option R) : Option R := match a with
  | some (.vals ds) => k ds
  | some (.er c d) => some (.er c d)
  | none => none
def fNil : En → Option RA := fun _ => some (.vals [])
def fCons (f : En → Option R) (t : En → Option RA) : En → Option RA := fun en => match shr (f en) with
  | some (.val _ d) => (match t en with
    | some (.vals ds) => some (.vals (d :: ds))
    | x => x)
  | some (.er c d) => some (.er c d)
  | none => none
variable {t : En → Option RA}
theorem da_nil : DA X cn W [] fNil := PA.imp pa_nil fun σ H Q ⟨G, en, r, sr, e, q⟩ => by
  cases e
  exact q [] G H (Stp.refl sr.sub) .nil
theorem tCons_of {σ : L2.St} {H : Hp} {Q : List V → Hp → Prop} (h : tA X.K cn W (fCons f t) σ H Q) : tCons (tD X.K cn W f) (tA X.K cn W t) σ H Q := by
  obtain ⟨G, en, r, sr, e, q⟩ := h
  unfold fCons at e
  -- the first argument, seen
  have go : ∀ v d G1 H1, Stp G H G1 H1 → Dt X.K cn G1 v d → (match t en with | some (.vals ds) => some (RA.vals (d :: ds)) | x => x) = some r → tA X.K cn W t σ H1 fun xs H2 => Q (v :: xs) H2 := fun v d G1 H1 st h e => by
    cases ht : t en with
    | none => rw [ht] at e; cases e
    | some y =>
      rw [ht] at e
      refine ⟨G1, en, y, sr.step st, ht, ?_⟩
      cases y with
      | vals ds => cases e; exact fun vs G2 H2 s2 h2 => q (v :: vs) G2 H2 (st.trans s2) (.cons (h.same s2.g) h2)
      | er c d => cases e; exact fun dx v' G2 H2 s2 => q dx v' G2 H2 (st.trans s2)
  cases hf : f en with
  | none => rw [hf] at e; cases e
  | some x =>
    rw [hf] at e
    refine ⟨G, en, x, sr, hf, ?_⟩
    cases x with
    | val kd d =>
      cases kd with
      | sh => exact fun v G1 H1 st vi => go v d G1 H1 st vi e
      | nw =>
        intro v G1 H1 st vi
        obtain ⟨G2, st2, h⟩ := vi.sh st
        exact go v d G2 H1 st2 h e
      | bo => cases e
    | er c d => cases e; exact q
theorem da_cons (ha : DE X cn W e f) (hr : DA X cn W es t) (hs : starEach (e :: es) X.env = (false, eval e X.env) :: starEach es X.env := by rfl) : DA X cn W (e :: es) (fCons f t) := PA.imp (pa_cons ha hr hs) fun _ _ _ q => tCons_of q
theorem PK.imp {kws : List Keyword} {u u' : TA} (h : PK X kws u) (i : ∀ σ H Q, u' σ H Q → u σ H Q) : PK X kws u' := ⟨fun pos pins s σ H Q I q => h.run pos pins s σ H Q I (i σ H Q q)⟩
abbrev DK (X : Cx) (cn : Nat → Addr) (W : WX) (kws : List Keyword) (f : En → Option RA) : Prop := PK X kws (tA X.K cn W f)
theorem dk_nil : DK X cn W [] fNil := PK.imp pk_nil fun σ H Q ⟨G, en, r, sr, e, q⟩ => by
  cases e
  exact q [] G H (Stp.refl sr.sub) .nil
theorem dk_cons {kws : List Keyword} {nm : Option Str} {kpos : Pos} (ha : DE X cn W e f) (hr : DK X cn W kws t) : DK X cn W (⟨nm, e, kpos⟩ :: kws) (fCons f t) := PK.imp (pk_cons ha hr) fun _ _ _ q => tCons_of q
theorem ea_bind {k : List D → Option R} {r : R} {G H : Hp} {σ : L2.St} {en : En} {Q : VK} {T : List V → Hp → Prop} (sr : SR X.K cn G H σ en) (e : bA (t en) k = some r) (q : RQ X.K cn G H Q (fun c d H' => W c d σ H') r)
    (cont : ∀ vs ds G1 H1, Stp G H G1 H1 → SR X.K cn G1 H1 σ en → DtL X.K cn G1 vs ds → k ds = some r → RQ X.K cn G1 H1 Q (fun c d H' => W c d σ H') r → T vs H1) : tA X.K cn W t σ H T := by
  cases ht : t en with
  | none => rw [ht] at e; cases e
  | some y =>
    rw [ht] at e
    refine ⟨G, en, y, sr, ht, ?_⟩
    cases y with
    | vals ds => exact fun vs G1 H1 st h => cont vs ds G1 H1 st (sr.step st) h e (q.on st)
    | er c d => cases e; exact q

/-! ### displays -/
def fLst (t : En → Option RA) : En → Option R := fun en => bA (t en) fun ds => if ds.length ≤ 16777216 then some (.val .nw (.lst ds)) else none
def fTup (t : En → Option RA) : En → Option R := fun en => bA (t en) fun ds => if ds.length ≤ 16777216 then some (.val .sh (.tup ds)) else none
theorem de_lst (h : DA X cn W es t) : DE X cn W (.List es pos) (fLst t) := by
  refine PE.imp (pe_lst h) ?_
  rintro σ H Q ⟨G, en, r, sr, e, q⟩
  refine ea_bind sr e q fun vs ds G1 H1 st sr1 h1 e1 q1 => ?_
  split at e1
  · rename_i hl
    cases e1
    refine ⟨by rw [h1.length, sizeLine_eq]; exact hl, fun p hp => ?_⟩
    exact q1 (.ref p) G1 _ (Stp.hid sr1.sub hp) ⟨p, rfl, hp, sr1.sub.free hp, vs, upd_same, h1⟩
  · cases e1
theorem de_tup {x1} (h : DA X cn W es t) : DE X cn W (.Tuple es x1 pos) (fTup t) := by
  refine PE.imp (pe_tup h) ?_
  rintro σ H Q ⟨G, en, r, sr, e, q⟩
  refine ea_bind sr e q fun vs ds G1 H1 st sr1 h1 e1 q1 => ?_
  split at e1
  · rename_i hl
    cases e1
    refine ⟨by rw [h1.length, sizeLine_eq]; exact hl, fun p hp => ?_⟩
    exact q1 (.ref p) (upd G1 p (.tup vs)) _ (Stp.new sr1.sub hp) (.tup upd_same (h1.same (same_upd (sr1.sub.free hp))))
  · cases e1
def fDct0 : En → Option R := fun _ => some (.val .nw (.dct []))
theorem de_dct0 : DE X cn W (.Dict [] [] pos) fDct0 := PE.imp pe_dnewK fun σ H Q ⟨G, en, r, sr, e, q⟩ => by
  cases e
  exact fun p hp => q (.ref p) G _ (Stp.hid sr.sub hp) ⟨p, rfl, hp, sr.sub.free hp, [], upd_same, rfl, .nil⟩

/-! ### calls of defs -/
/-- the promise of a def by its data function (n: its parameters) -/
def spD (K : PySem.W.Frag) (cn : Nat → Addr) (n : Nat) (F : List D → Option R) : Sp := fun vs H Q E => ∃ G ds r, Same G H ∧ DtL K cn G vs ds ∧ ds.length = n ∧ F ds = some r ∧ RQ K cn G H Q E r
theorem spD_len {K : PySem.W.Frag} {n : Nat} {F : List D → Option R} (vs : List V) (H : Hp) (Q : VK) (E : XK) (h : spD K cn n F vs H Q E) : vs.length = n := by
  obtain ⟨G, ds, r, _, h1, h2, _⟩ := h
  rw [h1.length, h2]
def fCall (F : List D → Option R) (n : Nat) (t : En → Option RA) : En → Option R := fun en => bA (t en) fun ds => if ds.length = n then F ds else none
variable {k n : Nat} {g C : Addr} {fd : FuncData} {ps : List Str} {F : List D → Option R} {x : Str} {p : Pos}
theorem tCall_of {σ : L2.St} {H : Hp} {Q : VK} (h : tD X.K cn W (fCall F n t) σ H Q) : tA X.K cn W t σ H fun vs H1 => spD X.K cn n F vs H1 Q (WE W σ) := by
  obtain ⟨G, en, r, sr, e, q⟩ := h
  refine ea_bind sr e q fun vs ds G1 H1 st sr1 h1 e1 q1 => ?_
  split at e1
  · rename_i hn
    exact ⟨G1, ds, r, sr1.sub, h1, hn, e1, q1⟩
  · cases e1
theorem de_call (FO : FnOk X.prog X.w X.K X.mg X.base (L2.CX X.prog X.w) k g fd ps (spD X.K cn n F)) (hr : Room k X.A) (hg : Gl X x) (hm : X.mg x = some (.ref g)) (hk : PySem.W.keepIn X.K (.ref g) = true) (hb : Binds X.K fd ps []) (tk : Takes X W)
    (ha : DA X cn W (e :: es) t) (hdb : (x == ("__debug__" : Str)) = false := by decide) (he : starEach (e :: es) X.env = (false, eval e X.env) :: starEach es X.env := by rfl) (hpl : (backTo pos (starEach es X.env)).any (·.1) = false := by rfl) :
    DE X cn W (.Call (.Name x p) (e :: es) [] pos) (fCall F n t) :=
  PE.imp (pe_callSD FO hr hg hm hk hb .nil (fun σ => passAt tk σ) ha hdb he hpl) fun σ H Q h => by
    show tA X.K cn W t σ H fun vs H1 => spD X.K cn n F (vs ++ []) H1 Q (WE W σ)
    have h' := tCall_of h
    have e0 : (fun (vs : List V) (H1 : Hp) => spD X.K cn n F (vs ++ []) H1 Q (WE W σ)) = fun vs H1 => spD X.K cn n F vs H1 Q (WE W σ) := by
      funext vs H1
      rw [List.append_nil]
    rw [e0]
    exact h'

/-! ### calls of built-ins -/
def rB1 (K : PySem.W.Frag) (cn : Nat → Addr) (g : D → Option (Kd × D)) : List V → Hp → VK → Prop := fun xs H Q => ∃ x, xs = [x] ∧ rD1 K cn g x H Q
def rBn (K : PySem.W.Frag) (cn : Nat → Addr) (g : List D → Option (Kd × D)) : List V → Hp → VK → Prop := fun xs H Q => ∃ G ds k d, Same G H ∧ DtL K cn G xs ds ∧ g ds = some (k, d) ∧ ∀ v G' H', Stp G H G' H' → VI K cn H G' H' k v d → Q v H'
theorem tCB1_of {g : D → Option (Kd × D)} {σ : L2.St} {H : Hp} {Q : VK} (h : tD X.K cn W (fUn g fa) σ H Q) : tCB (rB1 X.K cn g) (tCons (tD X.K cn W fa) tNil) σ H Q := by
  obtain ⟨G, en, r, sr, e, q⟩ := h
  refine ev_bind sr e q fun x dx G1 H1 s1 sr1 hx e1 q1 => ?_
  obtain ⟨k, d, e3, rfl⟩ := lf_some e1
  exact ⟨x, rfl, G1, dx, k, d, sr1.sub, hx, e3, q1⟩
variable {id T : String}
/-- len(e), .. : one argument, which may be a local's own -/
theorem de_b1 {g : D → Option (Kd × D)} (hc : CallR X (.builtin id) (rB1 X.K cn g)) (hg : Gl X x) (hm : X.mg x = none) (hv : bootBuiltins x = some (.builtin id)) (ha : DE X cn W e fa) (hn : x ≠ "__name__" := by decide) (hdb : (x == ("__debug__" : Str)) = false := by decide)
    (hs : starEach [e] X.env = (false, eval e X.env) :: starEach [] X.env := by rfl) (he : starEach [e] X.env = (false, eval e X.env) :: starEach [] X.env := by rfl) (hpl : (backTo pos (starEach [] X.env)).any (·.1) = false := by rfl) :
    DE X cn W (.Call (.Name x p) [e] [] pos) (fUn g fa) :=
  PE.imp (pe_callB hc hg hm hv (pa_cons ha pa_nil hs) hn hdb he hpl) fun σ H Q h => tCB1_of h
theorem de_t1 {g : D → Option (Kd × D)} (hc : CallR X (.type T) (rB1 X.K cn g)) (hg : Gl X x) (hm : X.mg x = none) (hv : bootBuiltins x = some (.type T)) (ha : DE X cn W e fa) (hn : x ≠ "__name__" := by decide) (hdb : (x == ("__debug__" : Str)) = false := by decide)
    (hs : starEach [e] X.env = (false, eval e X.env) :: starEach [] X.env := by rfl) (he : starEach [e] X.env = (false, eval e X.env) :: starEach [] X.env := by rfl) (hpl : (backTo pos (starEach [] X.env)).any (·.1) = false := by rfl) :
    DE X cn W (.Call (.Name x p) [e] [] pos) (fUn g fa) :=
  PE.imp (pe_callTy hc hg hm hv (pa_cons ha pa_nil hs) hn hdb he hpl) fun σ H Q h => tCB1_of h
def fBn (g : List D → Option (Kd × D)) (t : En → Option RA) : En → Option R := fun en => bA (t en) fun ds => lf (g ds)
theorem tCBn_of {g : List D → Option (Kd × D)} {σ : L2.St} {H : Hp} {Q : VK} (h : tD X.K cn W (fBn g t) σ H Q) : tCB (rBn X.K cn g) (tA X.K cn W t) σ H Q := by
  obtain ⟨G, en, r, sr, e, q⟩ := h
  refine ea_bind sr e q fun vs ds G1 H1 st sr1 h1 e1 q1 => ?_
  obtain ⟨k, d, e3, rfl⟩ := lf_some e1
  exact ⟨G1, ds, k, d, sr1.sub, h1, e3, q1⟩
theorem de_bn {g : List D → Option (Kd × D)} (hc : CallR X (.builtin id) (rBn X.K cn g)) (hg : Gl X x) (hm : X.mg x = none) (hv : bootBuiltins x = some (.builtin id)) (ha : DA X cn W (e :: es) t) (hn : x ≠ "__name__" := by decide) (hdb : (x == ("__debug__" : Str)) = false := by decide)
    (he : starEach (e :: es) X.env = (false, eval e X.env) :: starEach es X.env := by rfl) (hpl : (backTo pos (starEach es X.env)).any (·.1) = false := by rfl) :
    DE X cn W (.Call (.Name x p) (e :: es) [] pos) (fBn g t) :=
  PE.imp (pe_callB hc hg hm hv ha hn hdb he hpl) fun σ H Q h => tCBn_of h
end
end PD
/-! PD4: the operations on data, and that the machine does them. -/
namespace PD
open PySem L2
section
variable {X : Cx} {cn : Nat → Addr}
theorem szl : (sizeLine : Nat) = 16777216 := sizeLine_eq

/-! ### sums, products, quotients -/
def addD : D → D → Option (Kd × D)
  | .int a, .int b => some (.sh, .int (a + b))
  | .str a, .str b => if a.length + b.length ≤ 16777216 then some (.sh, .str (a ++ b)) else none
  | .lst a, .lst b => if a.length + b.length ≤ 16777216 then some (.nw, .lst (a ++ b)) else none
  | .tup (x :: a), .tup (y :: b) => if (x :: a).length + (y :: b).length ≤ 16777216 then some (.sh, .tup ((x :: a) ++ (y :: b))) else none
  | _, _ => none
def subD : D → D → Option (Kd × D)
  | .int a, .int b => some (.sh, .int (a - b))
  | _, _ => none
def mulOk (i j : Int) : Bool := decide (-(2 ^ 64) < i ∧ i < 2 ^ 64) || decide (-(2 ^ 64) < j ∧ j < 2 ^ 64) || decide (i.natAbs.log2 + j.natAbs.log2 < 1000000)
def mulD : D → D → Option (Kd × D)
  | .int a, .int b => if mulOk a b = true then some (.sh, .int (a * b)) else none
  | .lst a, .int k => if -(2 ^ 63) ≤ k ∧ k < 2 ^ 63 ∧ a.length * k.toNat ≤ 16777216 then some (.nw, .lst (List.replicate k.toNat a).flatten) else none
  | _, _ => none
def fdivD : D → D → Option (Kd × D)
  | .int a, .int b => if 0 < b ∧ b.natAbs.log2 < 9000 then some (.sh, .int (a / b)) else none
  | _, _ => none
def modD : D → D → Option (Kd × D)
  | .int a, .int b => if 0 < b then some (.sh, .int (a % b)) else none
  | _, _ => none
def powD : D → D → Option (Kd × D)
  | .int a, .int b => if 0 ≤ b ∧ b ≤ 1000000 ∧ a.natAbs < 2 ^ 64 then some (.sh, .int (a ^ b.toNat)) else none
  | _, _ => none
def negD : D → Option (Kd × D)
  | .int a => some (.sh, .int (-a))
  | _ => none
theorem un_ok : UnR X (unaryOp .USub) (rD1 X.K cn negD) := by
  rintro pins s σ H x v Q I rx ⟨G, dx, k, d, sg, hx, e, q⟩
  cases dx with
  | int a =>
    cases e
    have h := hx.int; subst h
    exact un_neg pins s σ H _ v Q I rx ⟨a, rfl, q _ G H (Stp.refl sg) (.int _)⟩
  | _ => cases e
theorem sub_ok : OpR X (binaryOp .Sub) (rD2 X.K cn subD) := by
  rintro pins s σ H x y v u Q I rx ry ⟨G, dx, dy, k, d, sg, hx, hy, e, q⟩
  cases dx with
  | int a => cases dy with
    | int b =>
      cases e
      have h := hx.int; subst h
      have h := hy.int; subst h
      exact op_sub pins s σ H _ _ v u Q I rx ry ⟨a, b, rfl, rfl, q _ G H (Stp.refl sg) (.int _)⟩
    | _ => cases e
  | _ => cases e
theorem fdiv_ok : OpR X (binaryOp .FloorDiv) (rD2 X.K cn fdivD) := by
  rintro pins s σ H x y v u Q I rx ry ⟨G, dx, dy, k, d, sg, hx, hy, e, q⟩
  cases dx with
  | int a => cases dy with
    | int b =>
      replace e : (if 0 < b ∧ b.natAbs.log2 < 9000 then some (Kd.sh, D.int (a / b)) else none) = some (k, d) := e
      split at e
      · rename_i hc
        cases e
        have h := hx.int; subst h
        have h := hy.int; subst h
        exact op_fdivW pins s σ H _ _ v u Q I rx ry ⟨a, b, rfl, rfl, hc, q _ G H (Stp.refl sg) (.int _)⟩
      · cases e
    | _ => cases e
  | _ => cases e
theorem mod_ok : OpR X (binaryOp .Mod) (rD2 X.K cn modD) := by
  rintro pins s σ H x y v u Q I rx ry ⟨G, dx, dy, k, d, sg, hx, hy, e, q⟩
  cases dx with
  | int a => cases dy with
    | int b =>
      replace e : (if 0 < b then some (Kd.sh, D.int (a % b)) else none) = some (k, d) := e
      split at e
      · rename_i hc
        cases e
        have h := hx.int; subst h
        have h := hy.int; subst h
        exact op_mod pins s σ H _ _ v u Q I rx ry ⟨a, b, rfl, rfl, hc, q _ G H (Stp.refl sg) (.int _)⟩
      · cases e
    | _ => cases e
  | _ => cases e
theorem pow_ok : OpR X (binaryOp .Pow) (rD2 X.K cn powD) := by
  rintro pins s σ H x y v u Q I rx ry ⟨G, dx, dy, k, d, sg, hx, hy, e, q⟩
  cases dx with
  | int a => cases dy with
    | int b =>
      replace e : (if 0 ≤ b ∧ b ≤ 1000000 ∧ a.natAbs < 2 ^ 64 then some (Kd.sh, D.int (a ^ b.toNat)) else none) = some (k, d) := e
      split at e
      · rename_i hc
        cases e
        have h := hx.int; subst h
        have h := hy.int; subst h
        exact op_pow pins s σ H _ _ v u Q I rx ry ⟨a, b, rfl, rfl, hc, q _ G H (Stp.refl sg) (.int _)⟩
      · cases e
    | _ => cases e
  | _ => cases e
theorem DtL.flat {K : PySem.W.Frag} {G : Hp} {vs : List V} {ds : List D} (h : DtL K cn G vs ds) : ∀ n : Nat, DtL K cn G (List.replicate n vs).flatten (List.replicate n ds).flatten
  | 0 => .nil
  | n + 1 => by
    rw [List.replicate_succ, List.replicate_succ, List.flatten_cons, List.flatten_cons]
    exact h.append (DtL.flat h n)
theorem mul_ok : OpR X (binaryOp .Mult) (rD2 X.K cn mulD) := by
  rintro pins s σ H x y v u Q I rx ry ⟨G, dx, dy, k, d, sg, hx, hy, e, q⟩
  cases dx with
  | int a => cases dy with
    | int b =>
      replace e : (if mulOk a b = true then some (Kd.sh, D.int (a * b)) else none) = some (k, d) := e
      split at e
      · rename_i hc
        cases e
        have h := hx.int; subst h
        have h := hy.int; subst h
        have fin := q _ G H (Stp.refl sg) (.int _)
        unfold mulOk at hc
        rw [Bool.or_eq_true, Bool.or_eq_true, decide_eq_true_eq, decide_eq_true_eq, decide_eq_true_eq] at hc
        rcases hc with hc | hc
        · exact op_mul pins s σ H _ _ v u Q I rx ry ⟨a, b, rfl, rfl, hc, fin⟩
        · exact op_mulW pins s σ H _ _ v u Q I rx ry ⟨a, b, rfl, rfl, hc, fin⟩
      · cases e
    | _ => cases e
  | lst a => cases dy with
    | int n =>
      replace e : (if -(2 ^ 63) ≤ n ∧ n < 2 ^ 63 ∧ a.length * n.toNat ≤ 16777216 then some (Kd.nw, D.lst (List.replicate n.toNat a).flatten) else none) = some (k, d) := e
      split at e
      · rename_i hc
        cases e
        obtain ⟨p, vs, rfl, hp, t⟩ := hx.lst sg
        have h := hy.int; subst h
        refine op_rep pins s σ H _ _ v u Q I rx ry ⟨p, n, vs, rfl, rfl, hp, hc.1, hc.2.1, ?_, fun l hl => ?_⟩
        · rw [t.length, szl]; exact hc.2.2
        · exact q (.ref l) G _ (Stp.hid sg hl) ⟨l, rfl, hl, sg.free hl, _, upd_same, t.flat _⟩
      · cases e
    | _ => cases e
  | _ => cases e
theorem add_ok : OpR X (binaryOp .Add) (rD2 X.K cn addD) := by
  rintro pins s σ H x y v u Q I rx ry ⟨G, dx, dy, k, d, sg, hx, hy, e, q⟩
  cases dx with
  | int a => cases dy with
    | int b =>
      cases e
      have h := hx.int; subst h
      have h := hy.int; subst h
      exact op_add pins s σ H _ _ v u Q I rx ry ⟨a, b, rfl, rfl, q _ G H (Stp.refl sg) (.int _)⟩
    | _ => cases e
  | str a => cases dy with
    | str b =>
      replace e : (if a.length + b.length ≤ 16777216 then some (Kd.sh, D.str (a ++ b)) else none) = some (k, d) := e
      split at e
      · rename_i hc
        cases e
        have h := hx.str; subst h
        have h := hy.str; subst h
        exact op_add_str pins s σ H _ _ v u Q I rx ry ⟨a, b, rfl, rfl, by rw [szl]; exact hc, q _ G H (Stp.refl sg) (.str _)⟩
      · cases e
    | _ => cases e
  | lst a => cases dy with
    | lst b =>
      replace e : (if a.length + b.length ≤ 16777216 then some (Kd.nw, D.lst (a ++ b)) else none) = some (k, d) := e
      split at e
      · rename_i hc
        cases e
        obtain ⟨p, vs, rfl, hp, t⟩ := hx.lst sg
        obtain ⟨p', vs', rfl, hp', t'⟩ := hy.lst sg
        refine op_cat pins s σ H _ _ v u Q I rx ry ⟨p, p', vs, vs', rfl, rfl, hp, hp', ?_, fun l hl => ?_⟩
        · rw [t.length, t'.length, szl]; exact hc
        · exact q (.ref l) G _ (Stp.hid sg hl) ⟨l, rfl, hl, sg.free hl, _, upd_same, t.append t'⟩
      · cases e
    | _ => cases e
  | tup a => cases a with
    | nil => cases dy <;> cases e
    | cons a0 a => cases dy with
      | tup b => cases b with
        | nil => cases e
        | cons b0 b =>
          replace e : (if (a0 :: a).length + (b0 :: b).length ≤ 16777216 then some (Kd.sh, D.tup ((a0 :: a) ++ (b0 :: b))) else none) = some (k, d) := e
          split at e
          · rename_i hc
            cases e
            obtain ⟨p, vs, rfl, hp, t⟩ := hx.tup sg
            obtain ⟨p', vs', rfl, hp', t'⟩ := hy.tup sg
            cases t with
            | cons t0 tr =>
              cases t' with
              | cons t0' tr' =>
                refine op_catT pins s σ H _ _ v u Q I rx ry ⟨p, p', _, _, rfl, rfl, hp, hp', by simp, ?_, fun z => ?_, fun _ l hl => ?_⟩
                · have h1 := (DtL.cons t0 tr).length
                  have h2 := (DtL.cons t0' tr').length
                  rw [h1, h2, szl]; exact hc
                · cases z
                · exact q (.ref l) _ _ (Stp.new sg hl) (.tup upd_same (((DtL.cons t0 tr).append (DtL.cons t0' tr')).same (same_upd (sg.free hl))))
          · cases e
      | _ => cases e
  | _ => cases dy <;> cases e

/-! ### comparisons -/
def cmpI (f : Int → Int → Bool) (g : List Nat → List Nat → Bool) : D → D → Option (Kd × D)
  | .int a, .int b => some (.sh, .bl (f a b))
  | .str a, .str b => some (.sh, .bl (g a.cps.toList b.cps.toList))
  | _, _ => none
def cmpI0 (f : Int → Int → Bool) : D → D → Option (Kd × D)
  | .int a, .int b => some (.sh, .bl (f a b))
  | _, _ => none
abbrev ltD := cmpI0 fun i j => decide (i < j)
abbrev leD := cmpI0 fun i j => decide (i ≤ j)
abbrev gtD := cmpI0 fun i j => decide (j < i)
abbrev geD := cmpI0 fun i j => decide (j ≤ i)
theorem cmp_ok {op : CmpOp} {f : Int → Int → Bool} (h0 : OpR X (compareOp op) (rI0 fun i j => .bl (f i j))) : OpR X (compareOp op) (rD2 X.K cn (cmpI0 f)) := by
  rintro pins s σ H x y v u Q I rx ry ⟨G, dx, dy, k, d, sg, hx, hy, e, q⟩
  cases dx with
  | int a => cases dy with
    | int b =>
      cases e
      have h := hx.int; subst h
      have h := hy.int; subst h
      exact h0 pins s σ H _ _ v u Q I rx ry ⟨a, b, rfl, rfl, q _ G H (Stp.refl sg) (.bl _)⟩
    | _ => cases e
  | _ => cases e
theorem lt_ok : OpR X (compareOp .Lt) (rD2 X.K cn ltD) := cmp_ok op_lt
theorem le_ok : OpR X (compareOp .LtE) (rD2 X.K cn leD) := cmp_ok op_le
theorem gt_ok : OpR X (compareOp .Gt) (rD2 X.K cn gtD) := cmp_ok op_gt
theorem ge_ok : OpR X (compareOp .GtE) (rD2 X.K cn geD) := cmp_ok op_ge
/-- x is None -/
def isND : D → D → Option (Kd × D)
  | .non, .non => some (.sh, .bl true)
  | .cl _, .non => none
  | _, .non => some (.sh, .bl false)
  | _, _ => none
def notND : D → D → Option (Kd × D)
  | .non, .non => some (.sh, .bl false)
  | .cl _, .non => none
  | _, .non => some (.sh, .bl true)
  | _, _ => none
theorem DB.nonIff {K : PySem.W.Frag} {G H : Hp} {v : V} {d : D} (h : DB K cn G H v d) : (d = .non ↔ v = .non) := by
  rcases h with h | ⟨p, e, _, t⟩
  · cases h <;> simp
  · subst e
    cases d <;> first | exact t.elim | simp
theorem is_ok : OpR X (compareOp .Is) (rD2 X.K cn isND) := by
  rintro pins s σ H x y v u Q I rx ry ⟨G, dx, dy, k, d, sg, hx, hy, e, q⟩
  cases dy with
  | non =>
    have h := hy.non; subst h
    have hi := hx.nonIff
    refine op_isN pins s σ H _ _ v u Q I rx ry ⟨rfl, ?_⟩
    cases dx with
    | non => cases e; rw [hi.mp rfl]; exact q _ G H (Stp.refl sg) (.bl _)
    | cl _ => cases e
    | _ =>
      cases e
      rw [decide_eq_false (fun z => by have := hi.mpr z; cases this)]
      exact q _ G H (Stp.refl sg) (.bl _)
  | _ => cases dx <;> cases e
theorem isnot_ok : OpR X (compareOp .IsNot) (rD2 X.K cn notND) := by
  rintro pins s σ H x y v u Q I rx ry ⟨G, dx, dy, k, d, sg, hx, hy, e, q⟩
  cases dy with
  | non =>
    have h := hy.non; subst h
    have hi := hx.nonIff
    refine op_notN pins s σ H _ _ v u Q I rx ry ⟨rfl, ?_⟩
    cases dx with
    | non => cases e; rw [hi.mp rfl]; exact q _ G H (Stp.refl sg) (.bl _)
    | cl _ => cases e
    | _ =>
      cases e
      rw [decide_eq_false (fun z => by have := hi.mpr z; cases this)]
      exact q _ G H (Stp.refl sg) (.bl _)
  | _ => cases dx <;> cases e

/-! ### equality -/
mutual
def toP : D → Option PyData
  | .non => some .none
  | .bl b => some (.bool b)
  | .int i => some (.int i)
  | .str x => some (.str x)
  | .lst xs => (toPs xs).map .list
  | .tup xs => (toPs xs).map .tuple
  | .scr ns => some (.list (ns.map .int))
  | _ => none
def toPs : List D → Option (List PyData)
  | [] => some []
  | x :: r => match toP x, toPs r with
    | some p, some q => some (p :: q)
    | _, _ => none
end
theorem dp_ints {K : PySem.W.Frag} {G : Hp} : ∀ ns : List Int, DpAll K G (ns.map V.int) (ns.map PyData.int)
  | [] => .nil
  | n :: r => .cons (.int n) (dp_ints r)
mutual
theorem dp_of {K : PySem.W.Frag} {G : Hp} : ∀ {v : V} {d : D} {p : PyData}, Dt K cn G v d → toP d = some p → Dp K G v p
  | _, _, _, .non, e => by simp only [toP, Option.some.injEq] at e; subst e; exact .non
  | _, _, _, .bl b, e => by simp only [toP, Option.some.injEq] at e; subst e; exact .bl b
  | _, _, _, .int b, e => by simp only [toP, Option.some.injEq] at e; subst e; exact .int b
  | _, _, _, .str b, e => by simp only [toP, Option.some.injEq] at e; subst e; exact .str b
  | _, _, _, .ty _, e => by simp [toP] at e
  | _, _, _, .cl _, e => by simp [toP] at e
  | _, _, _, .scr h, e => by simp only [toP, Option.some.injEq] at e; subst e; exact .lst h (dp_ints _)
  | _, _, _, .lst h t, e => by
    simp only [toP, Option.map_eq_some_iff] at e
    obtain ⟨ps, e1, rfl⟩ := e
    exact .lst (SqL.of h) (dps_of t e1)
  | _, _, _, .tup h t, e => by
    simp only [toP, Option.map_eq_some_iff] at e
    obtain ⟨ps, e1, rfl⟩ := e
    exact .tup (SqT.of h) (dps_of t e1)
  | _, _, _, .dct _ _ _, e => by simp [toP] at e
  | _, _, _, .ins _ _ _, e => by simp [toP] at e
theorem dps_of {K : PySem.W.Frag} {G : Hp} : ∀ {vs : List V} {ds : List D} {ps : List PyData}, DtL K cn G vs ds → toPs ds = some ps → DpAll K G vs ps
  | _, _, _, .nil, e => by simp only [toPs, Option.some.injEq] at e; subst e; exact .nil
  | _, _, _, .cons h t, e => by
    simp only [toPs] at e
    split at e
    · rename_i p q e1 e2
      cases e
      exact .cons (dp_of h e1) (dps_of t e2)
    · cases e
end
theorem dp_same {K : PySem.W.Frag} {G H : Hp} (sg : Same G H) : ∀ {v : V} {d : D} {p : PyData}, DB K cn G H v d → toP d = some p → Dp K H v p := by
  intro v d p h e
  rcases h with h | ⟨q, rfl, _, t⟩
  · exact dp_of (h.same sg) e
  · exact dp_of (t.dt sg fun _ x => x) e
def eqb (neg : Bool) (b : Bool) : Option (Kd × D) := some (.sh, .bl (if neg then !b else b))
def eqN (neg : Bool) : D → D → Option (Kd × D)
  | .int a, .int b => eqb neg (decide (a = b))
  | .str a, .str b => eqb neg (decide (a = b))
  | .bl a, .bl b => eqb neg (decide (a = b))
  | .non, .non => eqb neg true
  | .non, .int _ => eqb neg false
  | .int _, .non => eqb neg false
  | .non, .str _ => eqb neg false
  | .str _, .non => eqb neg false
  | .int _, .str _ => eqb neg false
  | .str _, .int _ => eqb neg false
  | x, y => match toP x, toP y with
    | some p, some q => if SeqAt.shaped p = true ∧ SeqAt.shaped q = true then eqb neg (PyData.eqv p q) else none
    | _, _ => none
abbrev eqD := eqN false
abbrev neD := eqN true
theorem eq_sc {neg : Bool} {op : CmpOp} {rs rd : R2} (h1 : OpR X (compareOp op) rs) (h2 : OpR X (compareOp op) rd)
    (e1 : ∀ x y H Q, scal x y = true → Q (.bl (if neg then !decide (x = y) else decide (x = y))) H → rs x y H Q)
    (e2 : ∀ x y H Q d e, Dp X.K H x d → Dp X.K H y e → SeqAt.shaped d = true → SeqAt.shaped e = true → Q (.bl (if neg then !PyData.eqv d e else PyData.eqv d e)) H → rd x y H Q) : OpR X (compareOp op) (rD2 X.K cn (eqN neg)) := by
  rintro pins s σ H x y v u Q I rx ry ⟨G, dx, dy, k, d, sg, hx, hy, e, q⟩
  have sc : ∀ b : Bool, scal x y = true → decide (x = y) = b → eqb neg b = some (k, d) → wpAny (model X.prog X.w) X.A (compareOp op v u) (EP X pins σ Q) X.xe s := fun b h0 hb e => by
    unfold eqb at e
    cases e
    subst hb
    exact h1 pins s σ H _ _ v u Q I rx ry (e1 _ _ _ _ h0 (q _ G H (Stp.refl sg) (.bl _)))
  have dp : (match toP dx, toP dy with | some p, some q => if SeqAt.shaped p = true ∧ SeqAt.shaped q = true then eqb neg (PyData.eqv p q) else none | _, _ => none) = some (k, d) → wpAny (model X.prog X.w) X.A (compareOp op v u) (EP X pins σ Q) X.xe s := fun e => by
    split at e
    · rename_i p p' ep ep'
      split at e
      · rename_i hs
        unfold eqb at e
        cases e
        exact h2 pins s σ H _ _ v u Q I rx ry (e2 _ _ _ _ _ _ (dp_same sg hx ep) (dp_same sg hy ep') hs.1 hs.2 (q _ G H (Stp.refl sg) (.bl _)))
      · cases e
    · cases e
  unfold eqN at e
  split at e
  · exact sc _ (by rw [hx.int, hy.int]; rfl) (by rw [hx.int, hy.int]; simp) e
  · exact sc _ (by rw [hx.str, hy.str]; rfl) (by rw [hx.str, hy.str]; simp) e
  · exact sc _ (by rw [hx.bl, hy.bl]; rfl) (by rw [hx.bl, hy.bl]; simp) e
  · exact sc _ (by rw [hx.non, hy.non]; rfl) (by rw [hx.non, hy.non]; simp) e
  · exact sc _ (by rw [hx.non, hy.int]; rfl) (by rw [hx.non, hy.int]; simp) e
  · exact sc _ (by rw [hx.int, hy.non]; rfl) (by rw [hx.int, hy.non]; simp) e
  · exact sc _ (by rw [hx.non, hy.str]; rfl) (by rw [hx.non, hy.str]; simp) e
  · exact sc _ (by rw [hx.str, hy.non]; rfl) (by rw [hx.str, hy.non]; simp) e
  · exact sc _ (by rw [hx.int, hy.str]; rfl) (by rw [hx.int, hy.str]; simp) e
  · exact sc _ (by rw [hx.str, hy.int]; rfl) (by rw [hx.str, hy.int]; simp) e
  · exact dp e
theorem eq_ok (hu : X.A.units + 64 < cLine) : OpR X (compareOp .Eq) (rD2 X.K cn eqD) := eq_sc op_eq (op_eqD hu) (fun _ _ _ _ h q => ⟨h, q⟩) fun _ _ _ _ d e h1 h2 h3 h4 q => ⟨d, e, h1, h2, h3, h4, q⟩
theorem ne_ok (hu : X.A.units + 64 < cLine) : OpR X (compareOp .NotEq) (rD2 X.K cn neD) := eq_sc op_ne (op_neD hu) (fun _ _ _ _ h q => ⟨h, q⟩) fun _ _ _ _ d e h1 h2 h3 h4 q => ⟨d, e, h1, h2, h3, h4, q⟩
end
end PD
/-! PD5: in, subscripts, slices, and the built-in functions on data. -/
namespace PD
open PySem PySem.Spec PyProof.Rows L2
section
variable {X : Cx} {cn : Nat → Addr}

/-! ### in -/
def flatD : D → Bool
  | .non => true
  | .bl _ => true
  | .int _ => true
  | .str _ => true
  | _ => false
def eqF : D → D → Bool
  | .non, .non => true
  | .bl a, .bl b => a == b
  | .bl a, .int b => (if a then 1 else 0) == b
  | .int a, .bl b => a == (if b then 1 else 0)
  | .int a, .int b => a == b
  | .str a, .str b => a == b
  | _, _ => false
def keyD : D → Option Key
  | .int i => some (.inl i)
  | .str x => some (.inr x)
  | _ => none
def lookD (dks : List (Key × D)) (k : Key) : Option D := (dks.find? fun kv => decide (kv.1 = k)).map (·.2)
def inN (neg : Bool) : D → D → Option (Kd × D)
  | .str x, .str z => match x.cps.toList with
    | [c] => eqb neg (decide (c ∈ z.cps.toList))
    | _ => none
  | x, .lst ds => if flatD x = true ∧ ds.all flatD = true then eqb neg (ds.any fun y => eqF y x) else none
  | x, .tup ds => if flatD x = true ∧ ds.all flatD = true then eqb neg (ds.any fun y => eqF y x) else none
  | x, .dct dks => match keyD x with
    | some k => eqb neg (lookD dks k).isSome
    | none => none
  | _, _ => none
abbrev inD := inN false
abbrev notInD := inN true
theorem flat_of {K : PySem.W.Frag} {G : Hp} : ∀ {v : V} {d : D}, Dt K cn G v d → flatD d = true → flatV v = true ∧ (∀ (w : V) (e : D), Dt K cn G w e → flatD e = true → eqV v w = eqF d e) := by
  intro v d h f
  cases h <;> first | exact absurd f Bool.false_ne_true | (refine ⟨rfl, fun w e h2 f2 => ?_⟩; cases h2 <;> first | exact absurd f2 Bool.false_ne_true | rfl)
theorem flats_of {K : PySem.W.Frag} {G : Hp} {w : V} {e : D} (he : Dt K cn G w e) (fe : flatD e = true) : ∀ {vs : List V} {ds : List D}, DtL K cn G vs ds → ds.all flatD = true → vs.all flatV = true ∧ inV w vs = ds.any fun y => eqF y e
  | _, _, .nil, _ => ⟨rfl, rfl⟩
  | _, _, .cons h t, f => by
    rw [List.all_cons, Bool.and_eq_true] at f
    obtain ⟨h1, h2⟩ := flat_of h f.1
    obtain ⟨h3, h4⟩ := flats_of he fe t f.2
    refine ⟨by rw [List.all_cons, h1, h3]; rfl, ?_⟩
    unfold inV at h4 ⊢
    rw [List.any_cons, List.any_cons, h4, h2 w e he fe]
theorem DB.flat {K : PySem.W.Frag} {G H : Hp} {v : V} {d : D} (h : DB K cn G H v d) (f : flatD d = true) : Dt K cn G v d := by
  rcases h with h | ⟨p, _, _, t⟩
  · exact h
  · cases d <;> first | exact absurd f Bool.false_ne_true | exact t.elim
theorem key_of_d {K : PySem.W.Frag} {G H : Hp} {v : V} {d : D} {k : Key} (h : DB K cn G H v d) (e : keyD d = some k) : v = kV k := by
  cases d with
  | int i => rw [h.int]; cases e; rfl
  | str i => rw [h.str]; cases e; rfl
  | _ => exact nomatch e
theorem look_of {K : PySem.W.Frag} {G : Hp} {k : Key} : ∀ {kvs : List (Key × V)} {dks : List (Key × D)}, kvs.map (·.1) = dks.map (·.1) → DtL K cn G (kvs.map (·.2)) (dks.map (·.2)) →
    (∀ d, lookD dks k = some d → ∃ v, valV kvs k = some v ∧ Dt K cn G v d) ∧ (lookD dks k = none → valV kvs k = none)
  | [], [], _, _ => ⟨fun d e => by simp [lookD] at e, fun _ => rfl⟩
  | (k1, v1) :: kvs, (k2, d2) :: dks, e, t => by
    simp only [List.map_cons, List.cons.injEq] at e
    obtain ⟨e1, e2⟩ := e
    subst e1
    simp only [List.map_cons] at t
    cases t with
    | cons h t =>
      obtain ⟨i1, i2⟩ := look_of (k := k) e2 t
      unfold lookD valV at *
      by_cases hk : k1 = k
      · simp only [List.find?_cons, decide_eq_true hk, Option.map_some, Option.some.injEq]
        exact ⟨fun d e => ⟨v1, rfl, e ▸ h⟩, fun e => by cases e⟩
      · simp only [List.find?_cons, decide_eq_false hk]
        exact ⟨i1, i2⟩
  | [], _ :: _, e, _ => by simp at e
  | _ :: _, [], e, _ => by simp at e
theorem some_iff {K : PySem.W.Frag} {G : Hp} {k : Key} {kvs : List (Key × V)} {dks : List (Key × D)} (e : kvs.map (·.1) = dks.map (·.1)) (t : DtL K cn G (kvs.map (·.2)) (dks.map (·.2))) : (valV kvs k).isSome = (lookD dks k).isSome := by
  obtain ⟨i1, i2⟩ := look_of (k := k) e t
  cases h : lookD dks k with
  | none => rw [i2 h]; rfl
  | some d =>
    obtain ⟨v, hv, _⟩ := i1 d h
    rw [hv]; rfl
theorem in_gen {neg : Bool} {op : CmpOp} (hs : OpR X (compareOp op) (fun x y H Q => ∃ (c : Nat) (z : Str), x = .str ⟨#[c]⟩ ∧ y = .str z ∧ Q (.bl (if neg then !decide (c ∈ z.cps.toList) else decide (c ∈ z.cps.toList))) H))
    (hq : OpR X (compareOp op) (rIn X.K neg)) (hd : OpR X (compareOp op) (fun x y H Q => ∃ a o, y = .ref a ∧ DGet H a x o ∧ Q (.bl (if neg then !o.isSome else o.isSome)) H)) : OpR X (compareOp op) (rD2 X.K cn (inN neg)) := by
  rintro pins s σ H x y v u Q I rx ry ⟨G, dx, dy, k, d, sg, hx, hy, e, q⟩
  unfold inN at e
  split at e
  · split at e
    · rename_i x' z _ c hc
      unfold eqb at e
      cases e
      refine hs pins s σ H _ _ v u Q I rx ry ⟨c, z, ?_, hy.str, q _ G H (Stp.refl sg) (.bl _)⟩
      rw [hx.str]
      congr 1
      obtain ⟨cps⟩ := x'
      congr 1
      exact Array.toList_inj.mp hc
    · cases e
  · split at e
    · rename_i ds hf
      unfold eqb at e
      cases e
      obtain ⟨p, vs, rfl, hp, t⟩ := hy.lst sg
      have hx' := hx.flat hf.1
      obtain ⟨f2, f3⟩ := flats_of hx' hf.1 t hf.2
      refine hq pins s σ H _ _ v u Q I rx ry ⟨p, vs, rfl, .inl (SqL.of hp), (flat_of hx' hf.1).1, f2, ?_⟩
      rw [f3]
      exact q _ G H (Stp.refl sg) (.bl _)
    · cases e
  · split at e
    · rename_i ds hf
      unfold eqb at e
      cases e
      obtain ⟨p, vs, rfl, hp, t⟩ := hy.tup sg
      have hx' := hx.flat hf.1
      obtain ⟨f2, f3⟩ := flats_of hx' hf.1 t hf.2
      refine hq pins s σ H _ _ v u Q I rx ry ⟨p, vs, rfl, .inr hp, (flat_of hx' hf.1).1, f2, ?_⟩
      rw [f3]
      exact q _ G H (Stp.refl sg) (.bl _)
    · cases e
  · split at e
    · rename_i dks k' hk
      unfold eqb at e
      cases e
      obtain ⟨p, kvs, rfl, hp, ek, t⟩ := hy.dct sg
      refine hd pins s σ H _ _ v u Q I rx ry ⟨p, valV kvs k', rfl, .inl ⟨kvs, k', hp, key_of_d hx hk, rfl⟩, ?_⟩
      rw [some_iff ek t]
      exact q _ G H (Stp.refl sg) (.bl _)
    · cases e
  · cases e
theorem in_ok (hu : X.A.units + 1 < cLine) : OpR X (compareOp .In) (rD2 X.K cn inD) := in_gen op_in_sign op_in_seq fun pins s σ H x y v u Q I rx ry ⟨a, o, ey, g, q⟩ => by
  subst ey
  obtain rfl : u = Value.ref a := ry
  exact d_in hu I g rx fun s3 I3 => ⟨.bl _, H, I3, rfl, q⟩
theorem notin_ok (hu : X.A.units + 1 < cLine) : OpR X (compareOp .NotIn) (rD2 X.K cn notInD) := in_gen op_notIn_sign op_notIn_seq fun pins s σ H x y v u Q I rx ry ⟨a, o, ey, g, q⟩ => by
  subst ey
  obtain rfl : u = Value.ref a := ry
  exact d_notIn hu I g rx fun s3 I3 => ⟨.bl _, H, I3, rfl, q⟩

/-! ### subscripts -/
def ixD : D → D → Option (Kd × D)
  | .lst ds, .int i => (atI ds i).map fun d => (.sh, d)
  | .tup ds, .int i => (atI ds i).map fun d => (.sh, d)
  | .scr ns, .int i => (atI ns i).map fun d => (.sh, .int d)
  | .str z, .int i => if z.length ≤ 16777216 then (atI z.cps.toList i).map fun c => (.sh, .str ⟨#[c]⟩) else none
  | .dct dks, y => match keyD y with
    | some k => (lookD dks k).map fun d => (.sh, d)
    | none => none
  | _, _ => none
theorem atI_of {K : PySem.W.Frag} {G : Hp} {vs : List V} {ds : List D} (t : DtL K cn G vs ds) {i : Int} {d : D} (h : atI ds i = some d) : ∃ v, atI vs i = some v ∧ Dt K cn G v d := by
  unfold atI at h ⊢
  rw [t.length]
  cases e : ixN ds.length i with
  | none => rw [e] at h; cases h
  | some j =>
    rw [e] at h
    exact t.get h
theorem ix_ok (hu : X.A.units + 1 < cLine) : IxR X (rD2 X.K cn ixD) := by
  rintro value slice pins s σ H x y v u Q I rx ry ⟨G, dx, dy, k, d, sg, hx, hy, e, q⟩ hsub
  unfold ixD at e
  split at e
  · obtain ⟨d', hd, e⟩ := Option.map_eq_some_iff.mp e
    cases e
    obtain ⟨p, vs, rfl, hp, t⟩ := hx.lst sg
    obtain ⟨w, hw, dw⟩ := atI_of t hd
    exact ix_list value slice pins s σ H _ _ v u Q I rx ry ⟨p, vs, _, w, rfl, hy.int, SqL.of hp, hw, q w G H (Stp.refl sg) dw⟩ hsub
  · obtain ⟨d', hd, e⟩ := Option.map_eq_some_iff.mp e
    cases e
    obtain ⟨p, vs, rfl, hp, t⟩ := hx.tup sg
    obtain ⟨w, hw, dw⟩ := atI_of t hd
    exact ix_tup value slice pins s σ H _ _ v u Q I rx ry ⟨p, vs, _, w, rfl, hy.int, hp, hw, q w G H (Stp.refl sg) dw⟩ hsub
  · obtain ⟨d', hd, e⟩ := Option.map_eq_some_iff.mp e
    cases e
    obtain ⟨p, rfl, hp⟩ := hx.scr sg
    refine ix_list value slice pins s σ H _ _ v u Q I rx ry ⟨p, _, _, .int d', rfl, hy.int, hp, ?_, q _ G H (Stp.refl sg) (.int _)⟩ hsub
    unfold atI at hd ⊢
    rw [List.length_map]
    cases e : ixN _ _ with
    | none => rw [e] at hd; cases hd
    | some j =>
      rw [e] at hd
      show (List.map V.int _)[j]? = some (V.int d')
      rw [List.getElem?_map]
      exact congrArg (Option.map V.int) hd
  · split at e
    · rename_i z i hz
      obtain ⟨c, hc, e⟩ := Option.map_eq_some_iff.mp e
      cases e
      exact ix_str value slice pins s σ H _ _ v u Q I rx ry ⟨z, i, c, hx.str, hy.int, by rw [szl]; exact hz, hc, q _ G H (Stp.refl sg) (.str _)⟩ hsub
    · cases e
  · split at e
    · rename_i dks y' k' hk
      obtain ⟨d', hd, e⟩ := Option.map_eq_some_iff.mp e
      cases e
      obtain ⟨p, kvs, rfl, hp, ek, t⟩ := hx.dct sg
      obtain ⟨w, hw, dw⟩ := (look_of ek t).1 _ hd
      have g : DGet H p y (some w) := .inl ⟨kvs, k', hp, key_of_d hy hk, hw.symm⟩
      obtain rfl : v = Value.ref p := rx
      have hT := dict_typeIs I g
      unfold subscriptTail
      refine wpAny_bind ?_
      rw [getitemInPython_of_ne hT.not_modules]
      refine wpAny_bind (wpAny_specialOf hT PySem.F.slot_dict_getitem.lookup ?_)
      have fin : wpAny (model X.prog X.w) X.A (subscripted slice false (.ref p) u) (fun r s₃ => wpAny (model X.prog X.w) X.A (letTemporaryGo value (.ref p) r >>= fun _ => pure r) (EP X pins σ Q) X.xe s₃) X.xe s := by
        rw [hsub]
        exact wpAny_operating (d_getItem hu I g ry fun w' s3 I3 rw' => wpAny_bind (wpAny_letTemporaryGo (wpAny_pure ⟨w, H, I3, rw', q w G H (Stp.refl sg) dw⟩)))
      first
        | exact wpAny_pure (wpAny_bind fin)
        | exact wpAny_bind (wpAny_pure (wpAny_bind fin))
        | exact wpAny_bind fin
    · cases e
  · cases e
variable {W : WX} {a b c e : Expr} {fa fb fc f : En → Option R} {pos p2 : Pos} {es : List Expr} {t : En → Option RA}
theorem de_ix (hu : X.A.units + 1 < cLine) (ha : DE X cn W a fa) (hb : DE X cn W b fb) (hs : PlainIx b := by intro _ _; rfl) : DE X cn W (.Subscript a b pos) (fOp ixD fa fb) :=
  PE.imp (pe_ix (ix_ok hu) ha hb hs) fun _ _ _ h => tOp_of h

/-! ### slices -/
def cutD {α : Type} (xs : List α) (lo hi : Option Int) : List α := (xs.drop (HT.sIx xs.length 0 lo)).take (HT.sIx xs.length xs.length hi - HT.sIx xs.length 0 lo)
def slD : D → Option Int → Option Int → Option (Kd × D)
  | .lst ds, lo, hi => some (.nw, .lst (cutD ds lo hi))
  | .scr ns, lo, hi => some (.nw, .lst ((cutD ns lo hi).map .int))
  | .tup ds, lo, hi => if HT.sIx ds.length 0 lo = 0 ∧ HT.sIx ds.length ds.length hi = ds.length then none else some (.sh, .tup (cutD ds lo hi))
  | .str z, lo, hi => if z.length ≤ 16777216 then some (.sh, .str (cutS z lo hi)) else none
  | _, _, _ => none
theorem cut_of {K : PySem.W.Frag} {G : Hp} {vs : List V} {ds : List D} (t : DtL K cn G vs ds) (lo hi : Option Int) : DtL K cn G (cutV vs lo hi) (cutD ds lo hi) := by
  unfold cutV cutD
  rw [t.length]
  exact (t.drop _).take _
theorem sl_ok : SlR X (fun x lo hi H Q => ∃ G dx k d, Same G H ∧ DB X.K cn G H x dx ∧ slD dx lo hi = some (k, d) ∧ ∀ v G' H', Stp G H G' H' → VI X.K cn H G' H' k v d → Q v H') := by
  rintro pins s σ H x v vl vu lo hi sl Q I rx hs pl pu ⟨G, dx, k, d, sg, hx, e, q⟩
  unfold slD at e
  split at e
  · cases e
    obtain ⟨p, vs, rfl, hp, t⟩ := hx.lst sg
    exact sl_list pins s σ H _ v vl vu lo hi sl Q I rx hs pl pu ⟨p, vs, rfl, SqL.of hp, fun l hl => q (.ref l) G _ (Stp.hid sg hl) ⟨l, rfl, hl, sg.free hl, _, upd_same, cut_of t lo hi⟩⟩
  · cases e
    obtain ⟨p, rfl, hp⟩ := hx.scr sg
    refine sl_list pins s σ H _ v vl vu lo hi sl Q I rx hs pl pu ⟨p, _, rfl, hp, fun l hl => q (.ref l) G _ (Stp.hid sg hl) ⟨l, rfl, hl, sg.free hl, _, upd_same, ?_⟩⟩
    have e0 : ∀ ns : List Int, cutV (ns.map V.int) lo hi = (cutD ns lo hi).map V.int := fun ns => by
      unfold cutV cutD
      rw [List.length_map, List.map_take, List.map_drop]
    rw [e0]
    exact .ints _
  · split at e
    · cases e
    · rename_i ds hw
      cases e
      obtain ⟨p, vs, rfl, hp, t⟩ := hx.tup sg
      exact sl_tup pins s σ H _ v vl vu lo hi sl Q I rx hs pl pu ⟨p, vs, rfl, hp, by rw [t.length]; exact hw, fun l hl => q (.ref l) _ _ (Stp.new sg hl) (.tup upd_same ((cut_of t lo hi).same (same_upd (sg.free hl))))⟩
  · split at e
    · rename_i z hz
      cases e
      exact sl_str pins s σ H _ v vl vu lo hi sl Q I rx hs pl pu ⟨z, hx.str, by rw [szl]; exact hz, q _ G H (Stp.refl sg) (.str _)⟩
    · cases e
  · cases e
def tO (K : PySem.W.Frag) (cn : Nat → Addr) (W : WX) : Option (En → Option R) → TO
  | none => tNoPart
  | some f => tPart (tD K cn W f)
theorem do_none : PO X none (tO X.K cn W none) := po_none
theorem do_some (h : DE X cn W e f) : PO X (some e) (tO X.K cn W (some f)) := po_some h
def bO (fo : Option (En → Option R)) (en : En) (k : Option Int → Option R) : Option R := match fo with
  | none => k none
  | some g => bR (g en) fun d => match d with
    | .int i => k (some i)
    | _ => none
theorem eo_bind {fo : Option (En → Option R)} {k : Option Int → Option R} {r : R} {G H : Hp} {σ : L2.St} {en : En} {Q : VK} {T : Option Int → Hp → Prop} (sr : SR X.K cn G H σ en) (e : bO fo en k = some r) (q : RQ X.K cn G H Q (fun c d H' => W c d σ H') r)
    (cont : ∀ o G1 H1, Stp G H G1 H1 → SR X.K cn G1 H1 σ en → k o = some r → RQ X.K cn G1 H1 Q (fun c d H' => W c d σ H') r → T o H1) : tO X.K cn W fo σ H T := by
  cases fo with
  | none => exact cont none G H (Stp.refl sr.sub) sr e q
  | some g =>
    refine ev_bind sr e q fun v d G1 H1 st sr1 hv e1 q1 => ?_
    cases d with
    | int i => exact ⟨i, hv.int, cont (some i) G1 H1 st sr1 e1 q1⟩
    | _ => cases e1
def fSl (fa : En → Option R) (lo hi : Option (En → Option R)) : En → Option R := fun en => bR (fa en) fun x => bO lo en fun l => bO hi en fun h => lf (slD x l h)
theorem de_sl {lo hi : Option Expr} {fl fh : Option (En → Option R)} (ha : DE X cn W a fa) (hl : PO X lo (tO X.K cn W fl)) (hh : PO X hi (tO X.K cn W fh)) : DE X cn W (.Subscript a (.Slice lo hi none p2) pos) (fSl fa fl fh) := by
  refine PE.imp (pe_slice (sl_ok (cn := cn)) ha hl hh) ?_
  rintro σ H Q ⟨G, en, r, sr, e, q⟩
  refine ev_bind sr e q fun x dx G1 H1 s1 sr1 hx e1 q1 => ?_
  refine eo_bind sr1 e1 q1 fun l G2 H2 s2 sr2 e2 q2 => ?_
  refine eo_bind sr2 e2 q2 fun h G3 H3 s3 sr3 e3 q3 => ?_
  obtain ⟨k, d, e4, rfl⟩ := lf_some e3
  exact ⟨G3, dx, k, d, sr3.sub, (hx.step s2).step s3, e4, q3⟩
/-- xs[::-1] -/
def revD : D → Option (Kd × D)
  | .lst ds => some (.nw, .lst ds.reverse)
  | .scr ns => some (.nw, .lst (ns.reverse.map .int))
  | _ => none
theorem de_rev {k : Nat} {p1 p2 p3 : Pos} (ha : DE X cn W a fa) : DE X cn W (.Subscript a (.Slice none none (some (.UnaryOp .USub (.Constant (.int 1) k p1) p2)) p3) pos) (fUn revD fa) := by
  refine PE.imp (pe_revL ha) ?_
  rintro σ H Q ⟨G, en, r, sr, e, q⟩
  refine ev_bind sr e q fun x dx G1 H1 s1 sr1 hx e1 q1 => ?_
  obtain ⟨k, d, e3, rfl⟩ := lf_some e1
  have sg := sr1.sub
  unfold revD at e3
  split at e3
  · cases e3
    obtain ⟨p, vs, rfl, hp, t⟩ := hx.lst sg
    exact ⟨p, vs, rfl, SqL.of hp, fun l hl => q1 (.ref l) G1 _ (Stp.hid sg hl) ⟨l, rfl, hl, sg.free hl, _, upd_same, t.rev⟩⟩
  · cases e3
    obtain ⟨p, rfl, hp⟩ := hx.scr sg
    refine ⟨p, _, rfl, hp, fun l hl => q1 (.ref l) G1 _ (Stp.hid sg hl) ⟨l, rfl, hl, sg.free hl, _, upd_same, ?_⟩⟩
    rw [← List.map_reverse]
    exact .ints _
  · cases e3

/-! ### len, int, list, tuple, str, max, min, abs -/
def lenD : D → Option (Kd × D)
  | .lst ds => some (.sh, .int ds.length)
  | .tup ds => some (.sh, .int ds.length)
  | .scr ns => some (.sh, .int ns.length)
  | .str z => if z.length ≤ 16777216 then some (.sh, .int z.length) else none
  | _ => none
theorem len_ok : CallR X (.builtin "len") (rB1 X.K cn lenD) := by
  rintro pins s σ H xs us Q I r ⟨x, rfl, G, dx, k, d, sg, hx, e, q⟩
  unfold lenD at e
  split at e
  · cases e
    obtain ⟨p, vs, rfl, hp, t⟩ := hx.lst sg
    refine call_len_seq pins s σ H _ us Q I r ⟨p, vs, rfl, .inl (SqL.of hp), ?_⟩
    rw [t.length]; exact q _ G H (Stp.refl sg) (.int _)
  · cases e
    obtain ⟨p, vs, rfl, hp, t⟩ := hx.tup sg
    refine call_len_seq pins s σ H _ us Q I r ⟨p, vs, rfl, .inr hp, ?_⟩
    rw [t.length]; exact q _ G H (Stp.refl sg) (.int _)
  · cases e
    obtain ⟨p, rfl, hp⟩ := hx.scr sg
    refine call_len_seq pins s σ H _ us Q I r ⟨p, _, rfl, .inl hp, ?_⟩
    rw [List.length_map]; exact q _ G H (Stp.refl sg) (.int _)
  · split at e
    · rename_i z hz
      cases e
      have h := hx.str; subst h
      exact call_len_str pins s σ H _ us Q I r ⟨z, rfl, by rw [szl]; exact hz, q _ G H (Stp.refl sg) (.int _)⟩
    · cases e
  · cases e
def intD : D → Option (Kd × D)
  | .int i => some (.sh, .int i)
  | .bl b => some (.sh, .int (if b then 1 else 0))
  | _ => none
theorem int_ok : CallR X (.type "int") (rB1 X.K cn intD) := by
  rintro pins s σ H xs us Q I r ⟨x, rfl, G, dx, k, d, sg, hx, e, q⟩
  cases dx with
  | int i =>
    cases e
    have h := hx.int; subst h
    exact call_int1 pins s σ H _ us Q I r (.inl ⟨i, rfl, q _ G H (Stp.refl sg) (.int _)⟩)
  | bl i =>
    cases e
    have h := hx.bl; subst h
    exact call_int1 pins s σ H _ us Q I r (.inr ⟨i, rfl, q _ G H (Stp.refl sg) (.int _)⟩)
  | _ => cases e
def strD : D → Option (Kd × D)
  | .int i => if i.natAbs.log2 < 1920 then some (.sh, .str (toString i)) else none
  | _ => none
theorem str_ok : CallR X (.type "str") (rB1 X.K cn strD) := by
  rintro pins s σ H xs us Q I r ⟨x, rfl, G, dx, k, d, sg, hx, e, q⟩
  cases dx with
  | int i =>
    replace e : (if i.natAbs.log2 < 1920 then some (Kd.sh, D.str (toString i)) else none) = some (k, d) := e
    split at e
    · rename_i hc
      cases e
      have h := hx.int; subst h
      exact call_str_int pins s σ H _ us Q I r ⟨i, rfl, hc, q _ G H (Stp.refl sg) (.str _)⟩
    · cases e
  | _ => cases e
def kD : Key → D
  | .inl i => .int i
  | .inr x => .str x
theorem Dt.key {K : PySem.W.Frag} {cn : Nat → Addr} {G : Hp} (k : Key) : Dt K cn G (kV k) (kD k) := by
  cases k with
  | inl i => exact .int i
  | inr x => exact .str x
theorem DtL.keys {K : PySem.W.Frag} {cn : Nat → Addr} {G : Hp} : ∀ (ks : List Key), DtL K cn G (ks.map kV) (ks.map kD)
  | [] => .nil
  | k :: r => .cons (Dt.key k) (DtL.keys r)
def listD : D → Option (Kd × D)
  | .lst ds => some (.nw, .lst ds)
  | .tup ds => some (.nw, .lst ds)
  | .scr ns => some (.nw, .lst (ns.map .int))
  | .dct dks => some (.nw, .lst (dks.map fun kv => kD kv.1))
  | _ => none
theorem list_ok (hc : X.calm = true) : CallR X (.type "list") (rB1 X.K cn listD) := by
  rintro pins s σ H xs us Q I r ⟨x, rfl, G, dx, k, d, sg, hx, e, q⟩
  unfold listD at e
  split at e
  · cases e
    obtain ⟨p, vs, rfl, hp, t⟩ := hx.lst sg
    exact call_list_of pins s σ H _ us Q I r ⟨p, vs, rfl, .inl (SqL.of hp), fun l hl => q (.ref l) G _ (Stp.hid sg hl) ⟨l, rfl, hl, sg.free hl, _, upd_same, t⟩⟩
  · cases e
    obtain ⟨p, vs, rfl, hp, t⟩ := hx.tup sg
    exact call_list_of pins s σ H _ us Q I r ⟨p, vs, rfl, .inr hp, fun l hl => q (.ref l) G _ (Stp.hid sg hl) ⟨l, rfl, hl, sg.free hl, _, upd_same, t⟩⟩
  · cases e
    obtain ⟨p, rfl, hp⟩ := hx.scr sg
    exact call_list_of pins s σ H _ us Q I r ⟨p, _, rfl, .inl hp, fun l hl => q (.ref l) G _ (Stp.hid sg hl) ⟨l, rfl, hl, sg.free hl, _, upd_same, .ints _⟩⟩
  · cases e
    obtain ⟨p, kvs, rfl, hp, hk, t⟩ := hx.dct sg
    refine call_listD hc pins s σ H _ us Q I r ⟨p, kvs, rfl, hp, fun l hl => q (.ref l) G _ (Stp.hid sg hl) ⟨l, rfl, hl, sg.free hl, _, upd_same, ?_⟩⟩
    have e1 : kvs.map (fun kv => kV kv.1) = (kvs.map (·.1)).map kV := by rw [List.map_map]; rfl
    have e3 : kvs.map (fun kv => kV kv.1) = (kvs.map (·.1)).map kV := e1
    rw [e3, hk]
    have e4 : ∀ dks : List (Key × D), (dks.map fun kv => kD kv.1) = (dks.map (·.1)).map kD := fun dks => by rw [List.map_map]; rfl
    rw [e4]
    exact .keys _
  · cases e
def tupD : D → Option (Kd × D)
  | .lst ds => some (.sh, .tup ds)
  | .scr ns => some (.sh, .tup (ns.map .int))
  | _ => none
theorem tup_ok : CallR X (.type "tuple") (rB1 X.K cn tupD) := by
  rintro pins s σ H xs us Q I r ⟨x, rfl, G, dx, k, d, sg, hx, e, q⟩
  unfold tupD at e
  split at e
  · cases e
    obtain ⟨p, vs, rfl, hp, t⟩ := hx.lst sg
    exact call_tuple_of pins s σ H _ us Q I r ⟨p, vs, rfl, .inl ⟨SqL.of hp, fun l hl => q (.ref l) _ _ (Stp.new sg hl) (.tup upd_same (t.same (same_upd (sg.free hl))))⟩⟩
  · cases e
    obtain ⟨p, rfl, hp⟩ := hx.scr sg
    exact call_tuple_of pins s σ H _ us Q I r ⟨p, _, rfl, .inl ⟨hp, fun l hl => q (.ref l) _ _ (Stp.new sg hl) (.tup upd_same (.ints _))⟩⟩
  · cases e
def absD : D → Option (Kd × D)
  | .int i => some (.sh, .int (if i < 0 then -i else i))
  | _ => none
theorem abs_ok : CallR X (.builtin "abs") (rB1 X.K cn absD) := by
  rintro pins s σ H xs us Q I r ⟨x, rfl, G, dx, k, d, sg, hx, e, q⟩
  cases dx with
  | int i =>
    cases e
    have h := hx.int; subst h
    exact call_abs pins s σ H _ us Q I r ⟨i, rfl, q _ G H (Stp.refl sg) (.int _)⟩
  | _ => cases e
def max2D : List D → Option (Kd × D)
  | [.int i, .int j] => some (.sh, .int (if j > i then j else i))
  | _ => none
def min2D : List D → Option (Kd × D)
  | [.int i, .int j] => some (.sh, .int (if j < i then j else i))
  | _ => none
theorem DtL.two {K : PySem.W.Frag} {G : Hp} {vs : List V} {i j : Int} (h : DtL K cn G vs [.int i, .int j]) : vs = [.int i, .int j] := by
  cases h with
  | cons h t => cases h; cases t with
    | cons h t => cases h; cases t; rfl
theorem max2_ok (hc : X.calm = true) : CallR X (.builtin "max") (rBn X.K cn max2D) := by
  rintro pins s σ H xs us Q I r ⟨G, ds, k, d, sg, hx, e, q⟩
  unfold max2D at e
  split at e
  · cases e
    have h := hx.two; subst h
    exact call_max2 hc pins s σ H _ us Q I r ⟨_, _, rfl, q _ G H (Stp.refl sg) (.int _)⟩
  · cases e
theorem min2_ok (hc : X.calm = true) : CallR X (.builtin "min") (rBn X.K cn min2D) := by
  rintro pins s σ H xs us Q I r ⟨G, ds, k, d, sg, hx, e, q⟩
  unfold min2D at e
  split at e
  · cases e
    have h := hx.two; subst h
    exact call_min2 hc pins s σ H _ us Q I r ⟨_, _, rfl, q _ G H (Stp.refl sg) (.int _)⟩
  · cases e

/-! ### all, any, sum -/
def blsOf : List D → Option (List Bool)
  | [] => some []
  | .bl b :: r => (blsOf r).map (b :: ·)
  | _ => none
def intsOf : List D → Option (List Int)
  | [] => some []
  | .int b :: r => (intsOf r).map (b :: ·)
  | _ => none
def strsOf : List D → Option (List Str)
  | [] => some []
  | .str b :: r => (strsOf r).map (b :: ·)
  | _ => none
theorem blsOf_eq : ∀ {ds : List D} {bs : List Bool}, blsOf ds = some bs → ds = bs.map D.bl
  | [], _, e => by cases e; rfl
  | .bl b :: r, _, e => by
    obtain ⟨bs, h, rfl⟩ := Option.map_eq_some_iff.mp e
    rw [blsOf_eq h]; rfl
  | .non :: _, _, e | .int _ :: _, _, e | .str _ :: _, _, e | .ty _ :: _, _, e | .cl _ :: _, _, e | .scr _ :: _, _, e | .lst _ :: _, _, e | .tup _ :: _, _, e | .dct _ :: _, _, e | .ins _ _ :: _, _, e => by cases e
theorem intsOf_eq : ∀ {ds : List D} {bs : List Int}, intsOf ds = some bs → ds = bs.map D.int
  | [], _, e => by cases e; rfl
  | .int b :: r, _, e => by
    obtain ⟨bs, h, rfl⟩ := Option.map_eq_some_iff.mp e
    rw [intsOf_eq h]; rfl
  | .non :: _, _, e | .bl _ :: _, _, e | .str _ :: _, _, e | .ty _ :: _, _, e | .cl _ :: _, _, e | .scr _ :: _, _, e | .lst _ :: _, _, e | .tup _ :: _, _, e | .dct _ :: _, _, e | .ins _ _ :: _, _, e => by cases e
theorem strsOf_eq : ∀ {ds : List D} {bs : List Str}, strsOf ds = some bs → ds = bs.map D.str
  | [], _, e => by cases e; rfl
  | .str b :: r, _, e => by
    obtain ⟨bs, h, rfl⟩ := Option.map_eq_some_iff.mp e
    rw [strsOf_eq h]; rfl
  | .non :: _, _, e | .bl _ :: _, _, e | .int _ :: _, _, e | .ty _ :: _, _, e | .cl _ :: _, _, e | .scr _ :: _, _, e | .lst _ :: _, _, e | .tup _ :: _, _, e | .dct _ :: _, _, e | .ins _ _ :: _, _, e => by cases e
theorem blsOf_map (bs : List Bool) : blsOf (bs.map D.bl) = some bs := by
  induction bs with
  | nil => rfl
  | cons b r ih => show (blsOf (r.map D.bl)).map (b :: ·) = _; rw [ih]; rfl
theorem intsOf_map (bs : List Int) : intsOf (bs.map D.int) = some bs := by
  induction bs with
  | nil => rfl
  | cons b r ih => show (intsOf (r.map D.int)).map (b :: ·) = _; rw [ih]; rfl
theorem strsOf_map (bs : List Str) : strsOf (bs.map D.str) = some bs := by
  induction bs with
  | nil => rfl
  | cons b r ih => show (strsOf (r.map D.str)).map (b :: ·) = _; rw [ih]; rfl
def allD : D → Option (Kd × D)
  | .lst ds => (blsOf ds).map fun bs => (.sh, .bl (bs.all id))
  | _ => none
def anyD : D → Option (Kd × D)
  | .lst ds => (blsOf ds).map fun bs => (.sh, .bl (bs.any id))
  | _ => none
def sumD : D → Option (Kd × D)
  | .lst ds => (intsOf ds).map fun bs => (.sh, .int bs.sum)
  | _ => none
theorem all_ok (hc : X.calm = true) : CallR X (.builtin "all") (rB1 X.K cn allD) := by
  rintro pins s σ H xs us Q I r ⟨x, rfl, G, dx, k, d, sg, hx, e, q⟩
  cases dx with
  | lst ds =>
    obtain ⟨bs, hb, e⟩ := Option.map_eq_some_iff.mp e
    cases e
    obtain ⟨p, vs, rfl, hp, t⟩ := hx.lst sg
    rw [blsOf_eq hb] at t
    have h := DtL.bls_inv bs t; subst h
    exact cr_all hc pins s σ H _ us Q I r ⟨p, bs, rfl, SqL.of hp, q _ G H (Stp.refl sg) (.bl _)⟩
  | _ => cases e
theorem any_ok (hc : X.calm = true) : CallR X (.builtin "any") (rB1 X.K cn anyD) := by
  rintro pins s σ H xs us Q I r ⟨x, rfl, G, dx, k, d, sg, hx, e, q⟩
  cases dx with
  | lst ds =>
    obtain ⟨bs, hb, e⟩ := Option.map_eq_some_iff.mp e
    cases e
    obtain ⟨p, vs, rfl, hp, t⟩ := hx.lst sg
    rw [blsOf_eq hb] at t
    have h := DtL.bls_inv bs t; subst h
    exact cr_any hc pins s σ H _ us Q I r ⟨p, bs, rfl, SqL.of hp, q _ G H (Stp.refl sg) (.bl _)⟩
  | _ => cases e
theorem sum_ok (hc : X.calm = true) : CallR X (.builtin "sum") (rB1 X.K cn sumD) := by
  rintro pins s σ H xs us Q I r ⟨x, rfl, G, dx, k, d, sg, hx, e, q⟩
  cases dx with
  | lst ds =>
    obtain ⟨bs, hb, e⟩ := Option.map_eq_some_iff.mp e
    cases e
    obtain ⟨p, vs, rfl, hp, t⟩ := hx.lst sg
    rw [intsOf_eq hb] at t
    have h := DtL.ints_inv bs t; subst h
    exact cr_sum hc pins s σ H _ us Q I r ⟨p, bs, rfl, SqL.of hp, q _ G H (Stp.refl sg) (.int _)⟩
  | _ => cases e

/-! ### isinstance -/
def tyD : D → Option String
  | .non => some "NoneType"
  | .bl _ => some "bool"
  | .int _ => some "int"
  | .str _ => some "str"
  | .lst _ => some "list"
  | .scr _ => some "list"
  | .tup _ => some "tuple"
  | .dct _ => some "dict"
  | _ => none
def subT (a b : String) : Bool := a == b || (a == "bool" && b == "int")
def isiD (T : String) : D → Option (Kd × D) := fun d => (tyD d).map fun a => (.sh, .bl (subT a T))
theorem kit_all : ∀ a ∈ ["NoneType", "bool", "int", "str", "list", "tuple", "dict"], ∀ b ∈ ["bool", "int", "str", "list", "tuple", "dict"], kitB a b = some (subT a b) := by decide +kernel
theorem ty_of {K : PySem.W.Frag} {G H : Hp} {v : V} {d : D} {a : String} (sg : Same G H) (h : DB K cn G H v d) (e : tyD d = some a) : TyX K H v (.type a) ∧ a ∈ ["NoneType", "bool", "int", "str", "list", "tuple", "dict"] := by
  cases d with
  | non => cases e; rw [h.non]; exact ⟨.base .non, by simp⟩
  | bl b => cases e; rw [h.bl]; exact ⟨.base (.bl _), by simp⟩
  | int b => cases e; rw [h.int]; exact ⟨.base (.int _), by simp⟩
  | str b => cases e; rw [h.str]; exact ⟨.base (.str _), by simp⟩
  | lst ds =>
    cases e
    obtain ⟨p, vs, rfl, hp, t⟩ := h.lst sg
    exact ⟨.base (.lst hp), by simp⟩
  | scr ns =>
    cases e
    obtain ⟨p, rfl, hp⟩ := h.scr sg
    refine ⟨?_, by simp⟩
    rcases hp with (hp | ⟨o, hp⟩) | ⟨o, its, n, h1, h2, _⟩
    · exact .base (.lst hp)
    · exact .base (.frz hp)
    · exact .kList h1 h2
  | tup ds =>
    cases e
    obtain ⟨p, vs, rfl, hp, t⟩ := h.tup sg
    refine ⟨?_, by simp⟩
    rcases hp with (hp | ⟨o, hp⟩) | ⟨o, its, n, h1, h2, _⟩
    · exact .base (.tup hp)
    · exact .fTuple hp
    · exact .kTuple h1 h2
  | dct ds =>
    cases e
    obtain ⟨p, kvs, rfl, hp, _, t⟩ := h.dct sg
    refine ⟨?_, by simp⟩
    rcases hp with hp | ⟨o, hp⟩
    · exact .base (.dK hp)
    · exact .fDict hp
  | _ => cases e
theorem de_isi {T : String} {p : Pos} (hT : T ∈ ["bool", "int", "str", "list", "tuple", "dict"]) (hg : Gl X "isinstance") (hm : X.mg "isinstance" = none) (ha : DE X cn W e f) (hb : PE X c (tC (.ty T)))
    (hs : starEach [e, c] X.env = (false, eval e X.env) :: starEach [c] X.env := by rfl) (hs2 : starEach [c] X.env = (false, eval c X.env) :: starEach [] X.env := by rfl) (hpl : (backTo pos (starEach [c] X.env)).any (·.1) = false := by rfl) :
    DE X cn W (.Call (.Name "isinstance" p) [e, c] [] pos) (fUn (isiD T) f) := by
  refine PE.imp (pe_callB call_isi hg hm (by decide +kernel) (pa_cons ha (pa_cons hb pa_nil hs2) hs) (by decide) (by decide) hs hpl) ?_
  rintro σ H Q ⟨G, en, r, sr, e, q⟩
  refine ev_bind sr e q fun x dx G1 H1 s1 sr1 hx e1 q1 => ?_
  obtain ⟨k, d, e3, rfl⟩ := lf_some e1
  obtain ⟨a, ea, e4⟩ := Option.map_eq_some_iff.mp e3
  cases e4
  obtain ⟨h1, h2⟩ := ty_of sr1.sub hx ea
  exact ⟨x, .ty T, _, _, subT a T, rfl, .ty T, h1, kit_ty (kit_all a h2 T hT), q1 _ G1 H1 (Stp.refl sr1.sub) (.bl _)⟩

/-! ### sep.join(xs) -/
def joinD (a : Str) : D → Option (Kd × D)
  | .lst ds => match strsOf ds with
    | some ys => if (ys.map (·.length)).sum + ys.length * a.length ≤ 16777216 then some (.sh, .str (Txt.join a ys)) else none
    | none => none
  | _ => none
/-- a method of a text with one argument -/
def fSm (g : Str → D → Option (Kd × D)) (fa fb : En → Option R) : En → Option R := fun en => bR (fa en) fun x => match x with
  | .str a => bR (fb en) fun y => lf (g a y)
  | _ => none
theorem de_join (h : PE X e (tM1 (fun x xs H Q => ∃ a p, ∃ ys : List Str, x = .str a ∧ xs = [.ref p] ∧ (SqL X.K H p (ys.map V.str) ∨ SqT X.K H p (ys.map V.str)) ∧
    (ys.map (·.length)).sum + ys.length * a.length ≤ 16777216 ∧ Q (.str (Txt.join a ys)) H) (tD X.K cn W fa) (tD X.K cn W fb))) : DE X cn W e (fSm joinD fa fb) := by
  refine PE.imp h ?_
  rintro σ H Q ⟨G, en, r, sr, e, q⟩
  refine ev_bind sr e q fun x dx G1 H1 s1 sr1 hx e1 q1 => ?_
  cases dx with
  | str a =>
    have hxs := hx.str
    refine ⟨⟨a, hxs⟩, ?_⟩
    refine ev_bind sr1 e1 q1 fun y dy G2 H2 s2 sr2 hy e2 q2 => ?_
    obtain ⟨k, d, e3, rfl⟩ := lf_some e2
    cases dy with
    | lst ds =>
      replace e3 : (match strsOf ds with | some ys => if (ys.map (·.length)).sum + ys.length * a.length ≤ 16777216 then some (Kd.sh, D.str (Txt.join a ys)) else none | none => none) = some (k, d) := e3
      split at e3
      · rename_i ys hy2
        split at e3
        · rename_i hc
          cases e3
          obtain ⟨p, vs, rfl, hp, t⟩ := hy.lst sr2.sub
          rw [strsOf_eq hy2] at t
          have h := DtL.strs_inv ys t; subst h
          exact ⟨a, p, ys, hxs, rfl, .inl (SqL.of hp), hc, q2 _ G2 H2 (Stp.refl sr2.sub) (.str _)⟩
        · cases e3
      · cases e3
    | _ => cases e3
  | _ => cases e1
end
end PD
/-! PD6: targets, what is walked, list comprehensions. -/
namespace PD
open PySem L2
section
variable {K : PySem.W.Frag} {cn : Nat → Addr}

/-! ### slots that are set -/
abbrev Ws := List (Nat × V × D)
def setE (en : En) (ws : Ws) : En := ws.foldl (fun en w => en.set w.1 (some (.sh w.2.2))) en
def setS (σ : L2.St) (ws : Ws) : L2.St := ws.foldl (fun σ w => σ.set w.1 (some w.2.1)) σ
theorem SR.set {G H : Hp} {σ : L2.St} {en : En} (s : SR K cn G H σ en) {i : Nat} {v : V} {d : D} (h : Dt K cn G v d) : SR K cn G H (σ.set i (some v)) (en.set i (some (.sh d))) := by
  refine ⟨s.sub, fun j x e => ?_, by rw [List.length_set, List.length_set, s.len]⟩
  by_cases q : i = j
  · subst q
    rw [List.getElem?_set] at e
    rw [if_pos rfl] at e
    split at e
    · rename_i hl
      cases e
      refine ⟨v, ?_, h⟩
      rw [List.getElem?_set_self (by rw [← s.len]; exact hl)]
    · cases e
  · rw [List.getElem?_set_ne q] at e
    have := s.sl j x e
    cases x with
    | sh d => obtain ⟨v', e1, h1⟩ := this; exact ⟨v', by rw [List.getElem?_set_ne q]; exact e1, h1⟩
    | ow d => obtain ⟨p, e1, h1⟩ := this; exact ⟨p, by rw [List.getElem?_set_ne q]; exact e1, h1⟩
theorem SR.sets {G H : Hp} : ∀ (ws : Ws) {σ : L2.St} {en : En}, SR K cn G H σ en → (∀ w ∈ ws, Dt K cn G w.2.1 w.2.2) → SR K cn G H (setS σ ws) (setE en ws)
  | [], _, _, s, _ => s
  | w :: ws, _, _, s, h => SR.sets ws (s.set (i := w.1) (h w List.mem_cons_self)) fun x hx => h x (List.mem_cons_of_mem _ hx)

/-! ### targets -/
/-- the target g stores what h says at the places ix -/
def DG (K : PySem.W.Frag) (cn : Nat → Addr) (g : TG) (h : D → En → Option En) (ix : List Nat) : Prop := ∀ v d en en' σ G H (Q : L2.St → Hp → Prop), Same G H → Dt K cn G v d → h d en = some en' →
  (∀ ws : Ws, en' = setE en ws → ws.map (·.1) = ix → (∀ w ∈ ws, Dt K cn G w.2.1 w.2.2) → Q (setS σ ws) H) → g v σ H Q
def DGs (K : PySem.W.Frag) (cn : Nat → Addr) (g : TGs) (h : List D → En → Option En) (ix : List Nat) : Prop := ∀ vs ds en en' σ G H (Q : L2.St → Hp → Prop), Same G H → DtL K cn G vs ds → h ds en = some en' →
  (∀ ws : Ws, en' = setE en ws → ws.map (·.1) = ix → (∀ w ∈ ws, Dt K cn G w.2.1 w.2.2) → Q (setS σ ws) H) → g vs σ H Q
def hName (i : Nat) : D → En → Option En := fun d en => some (en.set i (some (.sh d)))
def hNil : List D → En → Option En := fun ds en => match ds with
  | [] => some en
  | _ => none
def hCons (h : D → En → Option En) (hs : List D → En → Option En) : List D → En → Option En := fun ds en => match ds with
  | d :: r => (h d en).bind fun en1 => hs r en1
  | [] => none
def hTup (n : Nat) (hs : List D → En → Option En) : D → En → Option En := fun d en => match d with
  | .tup ds => if ds.length = n then hs ds en else none
  | _ => none
theorem dg_name (i : Nat) : DG K cn (gName i) (hName i) [i] := fun v d en en' σ G H Q _ hd e k => by
  cases e
  exact k [(i, v, d)] rfl rfl fun w hw => by
    have : w = (i, v, d) := by simpa using hw
    subst this; exact hd
theorem dgs_nil : DGs K cn gNil hNil [] := fun vs ds en en' σ G H Q _ hd e k => by
  cases hd with
  | nil => cases e; exact ⟨rfl, k [] rfl rfl fun w hw => by cases hw⟩
  | cons _ _ => cases e
theorem dgs_cons {g : TG} {gs : TGs} {h : D → En → Option En} {hs : List D → En → Option En} {ix ixs : List Nat} (h1 : DG K cn g h ix) (h2 : DGs K cn gs hs ixs) : DGs K cn (gCons g gs) (hCons h hs) (ix ++ ixs) := fun vs ds en en' σ G H Q sg hd e k => by
  cases hd with
  | nil => cases e
  | cons d0 dr =>
    obtain ⟨en1, e1, e2⟩ := Option.bind_eq_some_iff.mp e
    refine ⟨_, _, rfl, h1 _ _ en en1 σ G H _ sg d0 e1 fun ws ew ei hw => ?_⟩
    subst ew
    refine h2 _ _ _ en' _ G H _ sg dr e2 fun ws2 ew2 ei2 hw2 => ?_
    have es : setS (setS σ ws) ws2 = setS σ (ws ++ ws2) := by unfold setS; rw [List.foldl_append]
    have ee : setE (setE en ws) ws2 = setE en (ws ++ ws2) := by unfold setE; rw [List.foldl_append]
    rw [es]
    refine k (ws ++ ws2) (by rw [ew2, ee]) (by rw [List.map_append, ei, ei2]) fun w hm => ?_
    rcases List.mem_append.mp hm with hm | hm
    · exact hw w hm
    · exact hw2 w hm
theorem dg_tup {n : Nat} {gs : TGs} {hs : List D → En → Option En} {ixs : List Nat} (h : DGs K cn gs hs ixs) : DG K cn (gTup K n gs) (hTup n hs) ixs := fun v d en en' σ G H Q sg hd e k => by
  unfold hTup at e
  split at e
  · split at e
    · rename_i ds hn
      cases hd with
      | tup hp t => exact ⟨_, _, rfl, SqT.of (sg _ _ hp), by rw [t.length]; exact hn, h _ _ en en' σ G H Q sg t e k⟩
    · cases e
  · cases e

/-! ### what is walked -/
def Gives (K : PySem.W.Frag) (cn : Nat → Addr) (J : It) (G : Hp) (ds : List D) : Prop := ∀ G' H', Same G G' → Same G' H' → ∀ i,
  (∀ d, ds[i]? = some d → J.go i H' ∧ ∀ x H2, J.yld i H' x H2 → ∃ G2, Stp G' H' G2 H2 ∧ Dt K cn G2 x d) ∧ (i = ds.length → J.stop i H')
theorem Gives.same {J : It} {G G1 : Hp} {ds : List D} (s : Same G G1) (h : Gives K cn J G ds) : Gives K cn J G1 ds := fun G' H' a b => h G' H' (s.trans a) b
def tI (K : PySem.W.Frag) (cn : Nat → Addr) (W : WX) (f : En → Option RA) : TI := fun σ H R => ∃ G en r, SR K cn G H σ en ∧ f en = some r ∧ match r with
  | .vals ds => ∀ J G' H', Stp G H G' H' → Gives K cn J G' ds → R J H'
  | .er c d => ∀ dx v G' H', Stp G H G' H' → H' dx = some (.xd [(Xd, v)]) → Dt K cn G' v d → W (.ref (cn c)) (some dx) σ H'
theorem PI.imp {X : Cx} {tg e : Expr} {t u : TI} (h : PI X tg e t) (i : ∀ σ H R, u σ H R → t σ H R) : PI X tg e u := ⟨fun pins s σ H R I q => h.run pins s σ H R I (i σ H R q)⟩
theorem PI.or {X : Cx} {tg e : Expr} {t u : TI} (h : PI X tg e t) (h2 : PI X tg e u) : PI X tg e (fun σ H R => t σ H R ∨ u σ H R) := ⟨fun pins s σ H R I q => q.elim (h.run pins s σ H R I) (h2.run pins s σ H R I)⟩
abbrev DI (X : Cx) (cn : Nat → Addr) (W : WX) (tg e : Expr) (f : En → Option RA) : Prop := PI X tg e (tI X.K cn W f)
def itemsD : D → Option (List D)
  | .lst ds => some ds
  | .tup ds => some ds
  | .scr ns => some (ns.map .int)
  | .str z => some (z.cps.toList.map fun c => .str ⟨#[c]⟩)
  | _ => none
def fItems (f : En → Option R) : En → Option RA := fun en => match shr (f en) with
  | some (.val _ d) => (itemsD d).map .vals
  | some (.er c d) => some (.er c d)
  | none => none
theorem gives_list {a : Addr} {G : Hp} {vs : List V} {ds : List D} (h : SqL K G a vs) (t : DtL K cn G vs ds) : Gives K cn (Itl K a) G ds := fun G' H' s1 s2 i => by
  have h' : SqL K H' a vs := s2.seq (s1.seq h)
  refine ⟨fun d hd => ?_, fun hl => ⟨vs, h', by rw [t.length, hl]; exact Nat.le_refl _⟩⟩
  obtain ⟨v, hv, dv⟩ := t.get hd
  refine ⟨⟨vs, v, h', hv⟩, fun x H2 y => ?_⟩
  obtain ⟨rfl, hx⟩ := y
  have := hx vs h'
  rw [hv] at this; cases this
  exact ⟨G', Stp.refl s2, dv.same s1⟩
theorem gives_tup {a : Addr} {G : Hp} {vs : List V} {ds : List D} (h : SqT K G a vs) (t : DtL K cn G vs ds) : Gives K cn (Itt K a) G ds := fun G' H' s1 s2 i => by
  have h' : SqT K H' a vs := seqT s2 (seqT s1 h)
  refine ⟨fun d hd => ?_, fun hl => ⟨vs, h', by rw [t.length, hl]; exact Nat.le_refl _⟩⟩
  obtain ⟨v, hv, dv⟩ := t.get hd
  refine ⟨⟨vs, v, h', hv⟩, fun x H2 y => ?_⟩
  obtain ⟨rfl, hx⟩ := y
  have := hx vs h'
  rw [hv] at this; cases this
  exact ⟨G', Stp.refl s2, dv.same s1⟩
theorem gives_str {z : Str} {G : Hp} : Gives K cn (Its z) G (z.cps.toList.map fun c => D.str ⟨#[c]⟩) := fun G' H' s1 s2 i => by
  refine ⟨fun d hd => ?_, fun hl => ?_⟩
  · rw [List.getElem?_map] at hd
    obtain ⟨c, hc, rfl⟩ := Option.map_eq_some_iff.mp hd
    rw [Array.getElem?_toList] at hc
    refine ⟨(Array.getElem?_eq_some_iff.mp hc).1, fun x H2 y => ?_⟩
    obtain ⟨rfl, c', hc', rfl⟩ := y
    rw [hc] at hc'; cases hc'
    exact ⟨G', Stp.refl s2, .str _⟩
  · rw [List.length_map, Array.length_toList] at hl
    exact Nat.le_of_eq hl.symm
theorem di_items {X : Cx} {W : WX} {tg e : Expr} {f : En → Option R} (h : DE X cn W e f) : DI X cn W tg e (fItems f) := by
  refine PI.imp (PI.or (pi_list h) (PI.or (pi_tup h) (pi_str h))) ?_
  rintro σ H Rr ⟨G, en, r, sr, e, q⟩
  unfold fItems at e
  cases hf : f en with
  | none => rw [hf] at e; cases e
  | some x =>
    rw [hf] at e
    cases x with
    | er c d =>
      cases e
      exact .inl ⟨G, en, _, sr, hf, q⟩
    | val kd d =>
      have see : ∀ T : V → Hp → Prop, (kd ≠ .bo) → (∀ v G1 H1, Stp G H G1 H1 → Dt X.K cn G1 v d → T v H1) → tD X.K cn W f σ H T := fun T hk k => by
        refine ⟨G, en, _, sr, hf, ?_⟩
        cases kd with
        | sh => exact fun v G1 H1 st vi => k v G1 H1 st vi
        | nw =>
          intro v G1 H1 st vi
          obtain ⟨G2, st2, h⟩ := vi.sh st
          exact k v G2 H1 st2 h
        | bo => exact absurd rfl hk
      have hk : kd ≠ .bo := by rintro rfl; cases e
      have e' : (itemsD d).map RA.vals = some r := by cases kd with
        | sh => exact e
        | nw => exact e
        | bo => exact absurd rfl hk
      obtain ⟨ds, hds, rfl⟩ := Option.map_eq_some_iff.mp e'
      cases d with
      | lst xs =>
        cases hds
        refine .inl (see _ hk fun v G1 H1 st dv => ?_)
        cases dv with
        | lst hp t => exact ⟨_, rfl, ⟨_, SqL.of (st.sub _ _ hp)⟩, q _ G1 H1 st (gives_list (SqL.of hp) t)⟩
      | scr ns =>
        cases hds
        refine .inl (see _ hk fun v G1 H1 st dv => ?_)
        cases dv with
        | scr hp => exact ⟨_, rfl, ⟨_, st.sub.seq hp⟩, q _ G1 H1 st (gives_list hp (.ints ns))⟩
      | tup xs =>
        cases hds
        refine .inr (.inl (see _ hk fun v G1 H1 st dv => ?_))
        cases dv with
        | tup hp t => exact ⟨_, rfl, ⟨_, SqT.of (st.sub _ _ hp)⟩, q _ G1 H1 st (gives_tup (SqT.of hp) t)⟩
      | str z =>
        cases hds
        refine .inr (.inr (see _ hk fun v G1 H1 st dv => ?_))
        cases dv with
        | str => exact ⟨z, rfl, q _ G1 H1 st gives_str⟩
      | _ => cases hds
section
variable {X : Cx} {cn : Nat → Addr} {W : WX} {tg e : Expr} {f : En → Option R} {t : En → Option RA} {pos p : Pos}
/-- range(n), range(a, b) -/
def rngL (lo : Int) (n : Nat) : List D := (List.range n).map fun (i : Nat) => D.int (lo + (i : Int))
def rng1D : List D → Option (List D)
  | [.int n] => if -(2 ^ 62) ≤ n ∧ n < 2 ^ 62 then some (rngL 0 n.toNat) else none
  | _ => none
def rng2D : List D → Option (List D)
  | [.int a, .int b] => if -(2 ^ 62) ≤ a ∧ a < 2 ^ 62 ∧ -(2 ^ 62) ≤ b ∧ b < 2 ^ 62 then some (rngL a (b - a).toNat) else none
  | _ => none
/-- the items by the arguments -/
def fIt (g : List D → Option (List D)) (t : En → Option RA) : En → Option RA := fun en => match t en with
  | some (.vals ds) => (g ds).map .vals
  | x => x
theorem gives_rng {lo : Int} {n : Nat} {K : PySem.W.Frag} {G : Hp} : Gives K cn (Itr lo n) G (rngL lo n) := fun G' H' s1 s2 i => by
  unfold rngL
  refine ⟨fun d hd => ?_, fun hl => by rw [List.length_map, List.length_range] at hl; exact Nat.le_of_eq hl.symm⟩
  rw [List.getElem?_map] at hd
  obtain ⟨c, hc, rfl⟩ := Option.map_eq_some_iff.mp hd
  obtain ⟨h1, h2⟩ := List.getElem?_eq_some_iff.mp hc
  rw [List.getElem_range] at h2
  subst h2
  rw [List.length_range] at h1
  refine ⟨h1, fun x H2 y => ?_⟩
  obtain ⟨rfl, rfl⟩ := y
  exact ⟨G', Stp.refl s2, .int _⟩
theorem tI_of {g : List D → Option (List D)} {σ : L2.St} {H : Hp} {Rr : It → Hp → Prop} {T : List V → Hp → Prop} (h : tI X.K cn W (fIt g t) σ H Rr)
    (k : ∀ vs ds xs G1 H1, Same G1 H1 → DtL X.K cn G1 vs ds → g ds = some xs → (∀ J, Gives X.K cn J G1 xs → Rr J H1) → T vs H1) : tA X.K cn W t σ H T := by
  obtain ⟨G, en, r, sr, e, q⟩ := h
  unfold fIt at e
  cases ht : t en with
  | none => rw [ht] at e; cases e
  | some y =>
    rw [ht] at e
    refine ⟨G, en, y, sr, ht, ?_⟩
    cases y with
    | er c d => cases e; exact q
    | vals ds =>
      obtain ⟨xs, hx, rfl⟩ := Option.map_eq_some_iff.mp e
      exact fun vs G1 H1 st hv => k vs ds xs G1 H1 st.sub hv hx fun J hJ => q J G1 H1 st hJ
theorem di_rng1 {a : Expr} (hg : Gl X "range") (hm : X.mg "range" = none) (ha : DA X cn W [a] t) (hs : starEach [a] X.env = [(false, eval a X.env)] := by rfl) : DI X cn W tg (.Call (.Name "range" p) [a] [] pos) (fIt rng1D t) := by
  refine PI.imp (pi_range1 hg hm ha hs) fun σ H Rr h => tI_of h fun vs ds xs G1 H1 sg hv hx q => ?_
  unfold rng1D at hx
  split at hx
  · split at hx
    · rename_i n hc
      cases hx
      cases hv with
      | cons h0 hr =>
        cases h0
        cases hr
        exact ⟨n, rfl, hc.1, hc.2, q _ gives_rng⟩
    · cases hx
  · cases hx
theorem di_rng2 {a b : Expr} (hg : Gl X "range") (hm : X.mg "range" = none) (ha : DA X cn W [a, b] t) (hs : starEach [a, b] X.env = [(false, eval a X.env), (false, eval b X.env)] := by rfl) (hs2 : starEach [b] X.env = [(false, eval b X.env)] := by rfl) :
    DI X cn W tg (.Call (.Name "range" p) [a, b] [] pos) (fIt rng2D t) := by
  refine PI.imp (pi_range2 hg hm ha hs hs2) fun σ H Rr h => tI_of h fun vs ds xs G1 H1 sg hv hx q => ?_
  unfold rng2D at hx
  split at hx
  · split at hx
    · rename_i a' b' hc
      cases hx
      have h := hv.two; subst h
      exact ⟨a', b', rfl, hc, q _ gives_rng⟩
    · cases hx
  · cases hx

/-! ### list comprehensions -/
def tgIf (tg : D → En → Option En) (tt : En → Option RB) (fe : En → Option R) (en : En) : List D → Option (List D)
  | [] => some []
  | d :: r => match tg d en with
    | none => none
    | some en1 => match tt en1 with
      | some (.b true) => (match shr (fe en1) with
        | some (.val _ x) => (tgIf tg tt fe en r).map (x :: ·)
        | _ => none)
      | some (.b false) => tgIf tg tt fe en r
      | _ => none
def wipeE (en : En) : List Nat → En
  | [] => en
  | v :: vs => (wipeE en vs).set v none
def fLc (it : En → Option RA) (tg : D → En → Option En) (tt : En → Option RB) (fe : En → Option R) (vs : List Nat) : En → Option R := fun en => match it en with
  | some (.vals ds) => if ds.length ≤ 16777216 then (tgIf tg tt fe (wipeE en vs) ds).map fun xs => .val .nw (.lst xs) else none
  | some (.er c d) => some (.er c d)
  | none => none
def fYes : En → Option RB := fun _ => some (.b true)
abbrev DTs (X : Cx) (cn : Nat → Addr) (W : WX) (ifs : List Expr) (f : En → Option RB) : Prop := PTs X ifs (tT X.K cn W f)
theorem dts_nil : DTs X cn W [] fYes := ⟨fun pins s σ H Q I ⟨G, en, r, sr, e, q⟩ => by
  cases e
  exact pts_nil.run pins s σ H Q I (q G H (Stp.refl sr.sub))⟩
theorem dts_one {c : Expr} {tt : En → Option RB} (h : DT X cn W c tt) : DTs X cn W [c] tt := pts_one h
theorem SR.wipe {K : PySem.W.Frag} {G H : Hp} {σ : L2.St} {en : En} (s : SR K cn G H σ en) : ∀ vs : List Nat, SR K cn G H (L2.wipe σ vs) (wipeE en vs)
  | [] => s
  | v :: vs => by
    have ih := SR.wipe s vs
    unfold L2.wipe wipeE
    refine ⟨ih.sub, fun j x e => ?_, by rw [List.length_set, List.length_set, ih.len]⟩
    by_cases q : v = j
    · subst q
      rw [List.getElem?_set, if_pos rfl] at e
      split at e <;> cases e
    · rw [List.getElem?_set_ne q] at e
      have h := ih.sl j x e
      cases x with
      | sh d => obtain ⟨v', e1, h1⟩ := h; exact ⟨v', by rw [List.getElem?_set_ne q]; exact e1, h1⟩
      | ow d => obtain ⟨p, e1, h1⟩ := h; exact ⟨p, by rw [List.getElem?_set_ne q]; exact e1, h1⟩
theorem wipe_get (σ : L2.St) : ∀ (vs : List Nat) (i : Nat), (L2.wipe σ vs)[i]? = if i ∈ vs ∧ i < σ.length then some none else σ[i]?
  | [], i => by simp [L2.wipe]
  | v :: vs, i => by
    unfold L2.wipe
    have ih := wipe_get σ vs i
    have hl := L2.wipe_length σ vs
    rw [List.getElem?_set]
    by_cases q : v = i
    · subst q
      rw [if_pos rfl, hl]
      by_cases h : v < σ.length
      · simp [h]
      · simp [h]
    · rw [if_neg q, ih]
      have : (i ∈ v :: vs) ↔ i ∈ vs := by simp [Ne.symm q]
      simp only [this]
theorem setS_length : ∀ (ws : Ws) (σ : L2.St), (setS σ ws).length = σ.length
  | [], _ => rfl
  | w :: ws, σ => by
    show (setS (σ.set w.1 (some w.2.1)) ws).length = _
    rw [setS_length ws, List.length_set]
theorem setS_get : ∀ (ws : Ws) (σ : L2.St) (i : Nat), i ∉ ws.map (·.1) → (setS σ ws)[i]? = σ[i]?
  | [], _, _, _ => rfl
  | w :: ws, σ, i, h => by
    show (setS (σ.set w.1 (some w.2.1)) ws)[i]? = _
    simp only [List.map_cons, List.mem_cons, not_or] at h
    rw [setS_get ws _ i h.2, List.getElem?_set_ne (Ne.symm h.1)]
theorem wipe_setS (σ : L2.St) (ws : Ws) (vs : List Nat) (h : ∀ i ∈ ws.map (·.1), i ∈ vs) : L2.wipe (setS (L2.wipe σ vs) ws) vs = L2.wipe σ vs := by
  apply List.ext_getElem?
  intro i
  rw [wipe_get, wipe_get, setS_length, L2.wipe_length]
  by_cases hi : i ∈ vs ∧ i < σ.length
  · rw [if_pos hi, if_pos hi]
  · rw [if_neg hi, if_neg hi]
    by_cases hv : i ∈ vs
    · have hl : ¬ i < σ.length := fun z => hi ⟨hv, z⟩
      rw [List.getElem?_eq_none (by rw [setS_length, L2.wipe_length]; omega), List.getElem?_eq_none (by omega)]
    · rw [setS_get _ _ _ fun z => hv (h i z), wipe_get, if_neg (fun z => hv z.1)]
theorem tLc_of {it : En → Option RA} {g : TG} {tg : D → En → Option En} {ix : List Nat} {tt : En → Option RB} {fe : En → Option R} {vs : List Nat} {σ : L2.St} {H : Hp} {Q : VK} (hg : DG X.K cn g tg ix) (hix : ∀ i ∈ ix, i ∈ vs)
    (h : tD X.K cn W (fLc it tg tt fe vs) σ H Q) : tLc (tI X.K cn W it) g (tT X.K cn (fun _ _ _ _ => False) tt) (tD X.K cn (fun _ _ _ _ => False) fe) vs σ H Q := by
  obtain ⟨G, en, r, sr, e, q⟩ := h
  unfold fLc at e
  cases ht : it en with
  | none => rw [ht] at e; cases e
  | some y =>
    rw [ht] at e
    refine ⟨G, en, y, sr, ht, ?_⟩
    cases y with
    | er c d => cases e; exact q
    | vals ds =>
      replace e : (if ds.length ≤ 16777216 then (tgIf tg tt fe (wipeE en vs) ds).map fun xs => R.val .nw (.lst xs) else none) = some r := e
      split at e
      · rename_i hlen
        obtain ⟨all, hall, rfl⟩ := Option.map_eq_some_iff.mp e
        intro J G1 H1 st hJ Dl hD
        have sr1 := (sr.step st).wipe vs
        -- the word: what is made so far and what is to come are all
        refine ⟨fun i m H' => m = ds.length - i ∧ ∃ G' acc out rest, Stp G1 H1 G' H' ∧ G' Dl = none ∧ H' Dl = some (.lst acc) ∧ DtL X.K cn G' acc out ∧ out.length ≤ i ∧ i ≤ ds.length ∧ tgIf tg tt fe (wipeE en vs) (ds.drop i) = some rest ∧ all = out ++ rest,
          ⟨ds.length, by simp, G1, [], [], all, Stp.hid st.sub hD, st.sub.free hD, upd_same, .nil, Nat.le_refl _, Nat.zero_le _, hall, rfl⟩, ?_⟩
        rintro i m H' ⟨rfl, G', acc, out, rest, s', gD, hDl, t', hoi, hid, hrest, hsum⟩
        obtain ⟨hgo, hstop⟩ := hJ G' H' s'.g s'.sub i
        by_cases hi : i < ds.length
        · obtain ⟨d, hd⟩ : ∃ d, ds[i]? = some d := ⟨ds[i], List.getElem?_eq_getElem hi⟩
          obtain ⟨h1, h2⟩ := hgo d hd
          have hdrop : ds.drop i = d :: ds.drop (i + 1) := by
            rw [List.drop_eq_getElem_cons hi]
            rw [List.getElem?_eq_getElem hi] at hd
            cases hd; rfl
          rw [hdrop] at hrest
          refine .inr ⟨h1, fun H'' => ∃ G'' acc' out' rest', Stp G1 H1 G'' H'' ∧ G'' Dl = none ∧ H'' Dl = some (.lst acc') ∧ DtL X.K cn G'' acc' out' ∧ out'.length ≤ i + 1 ∧ tgIf tg tt fe (wipeE en vs) (ds.drop (i + 1)) = some rest' ∧ all = out' ++ rest',
            fun H'' ⟨G'', acc', out', rest', a1, a2, a3, a4, a5, a6, a7⟩ => ⟨ds.length - (i + 1), by omega, rfl, G'', acc', out', rest', a1, a2, a3, a4, a5, hi, a6, a7⟩, fun x H2 y => ?_⟩
          obtain ⟨G2, s2, dx⟩ := h2 x H2 y
          unfold tgIf at hrest
          cases htg : tg d (wipeE en vs) with
          | none => rw [htg] at hrest; cases hrest
          | some en1 =>
            rw [htg] at hrest
            simp only at hrest
            have sr2 := sr1.step (s'.trans s2)
            refine hg x d (wipeE en vs) en1 (L2.wipe σ vs) G2 H2 _ sr2.sub dx htg fun ws hws hix2 hw => ?_
            refine ⟨wipe_setS σ ws vs fun j hj => hix j (by rw [hix2] at hj; exact hj), ?_⟩
            have sr3 : SR X.K cn G2 H2 (setS (L2.wipe σ vs) ws) en1 := by rw [hws]; exact sr2.sets ws hw
            have keepD : ∀ G3 H3, Stp G2 H2 G3 H3 → G3 Dl = none ∧ H3 Dl = some (.lst acc) := fun G3 H3 s3 => by
              have hs := s2.trans s3
              refine ⟨?_, hs.h _ _ hDl⟩
              cases z : G3 Dl with
              | none => rfl
              | some o =>
                rcases hs.fr Dl (by rw [z]; simp) with q1 | q1
                · exact absurd gD q1
                · rw [hDl] at q1; cases q1
            cases htt : tt en1 with
            | none => rw [htt] at hrest; cases hrest
            | some b =>
              rw [htt] at hrest
              refine ⟨G2, en1, b, sr3, htt, ?_⟩
              cases b with
              | er c d => cases hrest
              | b k =>
                intro G3 H3 s3
                cases k with
                | false =>
                  rw [if_neg Bool.false_ne_true]
                  obtain ⟨k1, k2⟩ := keepD G3 H3 s3
                  exact ⟨G3, acc, out, rest, s'.trans (s2.trans s3), k1, k2, t'.same (s2.trans s3).g, by omega, hrest, hsum⟩
                | true =>
                  rw [if_pos rfl]
                  simp only at hrest
                  cases hfe : fe en1 with
                  | none => rw [hfe] at hrest; cases hrest
                  | some z =>
                    rw [hfe] at hrest
                    refine ⟨G3, en1, z, sr3.step s3, hfe, ?_⟩
                    cases z with
                    | er c d => cases hrest
                    | val kd dz =>
                      have fin : ∀ v G4 H4, Stp G3 H3 G4 H4 → Dt X.K cn G4 v dz → (tgIf tg tt fe (wipeE en vs) (ds.drop (i + 1))).map (dz :: ·) = some rest →
                          ∃ acc1, H4 Dl = some (.lst acc1) ∧ acc1.length < sizeLine ∧ ∃ G'' acc' out' rest', Stp G1 H1 G'' (upd H4 Dl (.lst (acc1 ++ [v]))) ∧ G'' Dl = none ∧ (upd H4 Dl (.lst (acc1 ++ [v]))) Dl = some (.lst acc') ∧ DtL X.K cn G'' acc' out' ∧ out'.length ≤ i + 1 ∧ tgIf tg tt fe (wipeE en vs) (ds.drop (i + 1)) = some rest' ∧ all = out' ++ rest' := fun v G4 H4 s4 dv hr => by
                        obtain ⟨rest', hr', e3⟩ := Option.map_eq_some_iff.mp hr
                        obtain ⟨k1, k2⟩ := keepD G4 H4 (s3.trans s4)
                        have sall := s'.trans (s2.trans (s3.trans s4))
                        refine ⟨acc, k2, by rw [t'.length, szl]; omega, G4, acc ++ [v], out ++ [dz], rest', ⟨sall.g, same_upd2 sall.h hD, same_upd2 sall.sub k1, sall.fr⟩, k1, upd_same, (t'.same (s2.trans (s3.trans s4)).g).append (.one dv), ?_, hr', ?_⟩
                        · rw [List.length_append, List.length_singleton]; omega
                        · rw [hsum, ← e3, List.append_assoc]; rfl
                      cases kd with
                      | sh => exact fun v G4 H4 s4 vi => fin v G4 H4 s4 vi hrest
                      | nw =>
                        intro v G4 H4 s4 vi
                        obtain ⟨G5, s5, hv⟩ := vi.sh s4
                        exact fin v G5 H4 s5 hv hrest
                      | bo => cases hrest
        · have he : i = ds.length := by omega
          subst he
          rw [List.drop_length] at hrest
          cases hrest
          rw [List.append_nil] at hsum
          refine .inl ⟨hstop rfl, q (.ref Dl) G' H' (st.trans s') ⟨Dl, rfl, st.h.free hD, gD, acc, hDl, by rw [hsum]; exact t'⟩⟩
      · cases e
end
end
end PD
/-! PD7: statements, loops, defs. -/
namespace PD
open PySem L2

/-! ### the state in a def: G0, H0 at its entry -/
structure S0 (K : PySem.W.Frag) (cn : Nat → Addr) (G0 H0 G H : Hp) (σ : L2.St) (en : En) : Prop where
  sr : SR K cn G H σ en
  g : Same G0 G
  h : Same H0 H
  fr : ∀ a, G a ≠ none → G0 a ≠ none ∨ H0 a = none
  ow : ∀ (i : Nat) (d : D) (p : Addr), en[i]? = some (some (.ow d)) → σ[i]? = some (some (.ref p)) → H0 p = none
  ap : ∀ (i j : Nat) (d e : D) (p : Addr), i ≠ j → en[i]? = some (some (.ow d)) → en[j]? = some (some (.ow e)) → σ[i]? = some (some (.ref p)) → σ[j]? = some (some (.ref p)) → False
inductive Out where
  | nx (en : En)
  | rt (k : Kd) (d : D)
  | bk (en : En)
  | ct (en : En)
  | er (en : En) (c : Nat) (d : D)
def OQ (K : PySem.W.Frag) (cn : Nat → Addr) (W : WX) (G0 H0 G : Hp) (E : Ends) : Out → Prop
  | .nx en => ∀ σ G' H', Same G G' → S0 K cn G0 H0 G' H' σ en → E.nx σ H'
  | .bk en => ∀ σ G' H', Same G G' → S0 K cn G0 H0 G' H' σ en → E.bk σ H'
  | .ct en => ∀ σ G' H', Same G G' → S0 K cn G0 H0 G' H' σ en → E.ct σ H'
  | .rt k d => ∀ v G' H', Stp G0 H0 G' H' → VI K cn H0 G' H' k v d → E.rt v H'
  | .er en c d => ∀ σ dx v G' H', Same G G' → S0 K cn G0 H0 G' H' σ en → H' dx = some (.xd [(Xd, v)]) → Dt K cn G' v d → W (.ref (cn c)) (some dx) σ H'
theorem OQ.on {K : PySem.W.Frag} {cn : Nat → Addr} {W : WX} {G0 H0 G G1 : Hp} {E : Ends} {o : Out} (a : Same G G1) (h : OQ K cn W G0 H0 G E o) : OQ K cn W G0 H0 G1 E o := by
  cases o with
  | nx en => exact fun σ G' H' b => h σ G' H' (a.trans b)
  | bk en => exact fun σ G' H' b => h σ G' H' (a.trans b)
  | ct en => exact fun σ G' H' b => h σ G' H' (a.trans b)
  | rt k d => exact h
  | er en c d => exact fun σ dx v G' H' b => h σ dx v G' H' (a.trans b)
def tS (K : PySem.W.Frag) (cn : Nat → Addr) (W : WX) (G0 H0 : Hp) (F : En → Option Out) : TS := fun E σ H => ∃ G en o, S0 K cn G0 H0 G H σ en ∧ F en = some o ∧ OQ K cn W G0 H0 G E o
abbrev DS (X : Cx) (cn : Nat → Addr) (W : WX) (G0 H0 : Hp) (st : Stmt) (F : En → Option Out) : Prop := PS X st (tS X.K cn W G0 H0 F)
abbrev DSs (X : Cx) (cn : Nat → Addr) (W : WX) (G0 H0 : Hp) (st : List Stmt) (F : En → Option Out) : Prop := PSs X st (tS X.K cn W G0 H0 F)
section
variable {K : PySem.W.Frag} {cn : Nat → Addr} {W : WX} {G0 H0 G H G' H' : Hp} {σ : L2.St} {en : En} {E : Ends}
theorem S0.stp (s : S0 K cn G0 H0 G H σ en) : Stp G0 H0 G H := ⟨s.g, s.h, s.sr.sub, s.fr⟩
theorem S0.step (s : S0 K cn G0 H0 G H σ en) (st : Stp G H G' H') : S0 K cn G0 H0 G' H' σ en :=
  ⟨s.sr.step st, s.g.trans st.g, s.h.trans st.h, (s.stp.trans st).fr, s.ow, s.ap⟩
/-- a shared thing is stored -/
theorem S0.set (s : S0 K cn G0 H0 G H σ en) {i : Nat} {v : V} {d : D} (h : Dt K cn G v d) : S0 K cn G0 H0 G H (σ.set i (some v)) (en.set i (some (.sh d))) := by
  have key : ∀ (j : Nat) (x : D), (en.set i (some (.sh d)))[j]? = some (some (.ow x)) → j ≠ i ∧ en[j]? = some (some (.ow x)) := fun j x e => by
    by_cases q : i = j
    · subst q
      rw [List.getElem?_set, if_pos rfl] at e
      split at e <;> cases e
    · rw [List.getElem?_set_ne q] at e
      exact ⟨Ne.symm q, e⟩
  refine ⟨s.sr.set h, s.g, s.h, s.fr, fun j x p e1 e2 => ?_, fun j l x y p hne e1 e2 e3 e4 => ?_⟩
  · obtain ⟨n, e⟩ := key j x e1
    rw [List.getElem?_set_ne n.symm] at e2
    exact s.ow j x p e e2
  · obtain ⟨n, e⟩ := key j x e1
    obtain ⟨n', e'⟩ := key l y e2
    rw [List.getElem?_set_ne n.symm] at e3
    rw [List.getElem?_set_ne n'.symm] at e4
    exact s.ap j l x y p hne e e' e3 e4
theorem S0.sets : ∀ (ws : Ws) {σ : L2.St} {en : En}, S0 K cn G0 H0 G H σ en → (∀ w ∈ ws, Dt K cn G w.2.1 w.2.2) → S0 K cn G0 H0 G H (setS σ ws) (setE en ws)
  | [], _, _, s, _ => s
  | w :: ws, _, _, s, h => S0.sets ws (s.set (i := w.1) (h w List.mem_cons_self)) fun x hx => h x (List.mem_cons_of_mem _ hx)
/-- a new thing is stored: the local's own; H1: the heap before it was made -/
theorem S0.own {H1 : Hp} (s : S0 K cn G0 H0 G H σ en) {i : Nat} {p : Addr} {d : D} (h0 : H0 p = none) (hn : ∀ (j : Nat) (x : D) (q : Addr), en[j]? = some (some (.ow x)) → σ[j]? = some (some (.ref q)) → q ≠ p) (gn : G p = none) (t : Top K cn G H p d) :
    S0 K cn G0 H0 G H (σ.set i (some (.ref p))) (en.set i (some (.ow d))) := by
  have len := s.sr.len
  have at_i : ∀ x, (en.set i (some (.ow d)))[i]? = some (some x) → x = .ow d ∧ (σ.set i (some (V.ref p)))[i]? = some (some (.ref p)) := fun x e => by
    rw [List.getElem?_set, if_pos rfl] at e
    split at e
    · rename_i hl
      cases e
      exact ⟨rfl, List.getElem?_set_self (by rw [← len]; exact hl)⟩
    · cases e
  refine ⟨⟨s.sr.sub, fun j x e => ?_, by rw [List.length_set, List.length_set, len]⟩, s.g, s.h, s.fr, fun j x q e1 e2 => ?_, fun j l x y q hne e1 e2 e3 e4 => ?_⟩
  · by_cases q : i = j
    · subst q
      obtain ⟨rfl, e2⟩ := at_i x e
      exact ⟨p, e2, gn, t⟩
    · rw [List.getElem?_set_ne q] at e
      have h := s.sr.sl j x e
      cases x with
      | sh d => obtain ⟨v', e1, h1⟩ := h; exact ⟨v', by rw [List.getElem?_set_ne q]; exact e1, h1⟩
      | ow d => obtain ⟨p, e1, h1⟩ := h; exact ⟨p, by rw [List.getElem?_set_ne q]; exact e1, h1⟩
  · by_cases z : i = j
    · subst z
      obtain ⟨_, e3⟩ := at_i _ e1
      rw [e3] at e2
      cases e2
      exact h0
    · rw [List.getElem?_set_ne z] at e1 e2
      exact s.ow j x q e1 e2
  · by_cases z : i = j
    · subst z
      obtain ⟨_, e5⟩ := at_i _ e1
      rw [e5] at e3
      cases e3
      rw [List.getElem?_set_ne hne] at e2 e4
      exact hn l y _ e2 e4 rfl
    · rw [List.getElem?_set_ne z] at e1 e3
      by_cases z' : i = l
      · subst z'
        obtain ⟨_, e5⟩ := at_i _ e2
        rw [e5] at e4
        cases e4
        exact hn j x _ e1 e3 rfl
      · rw [List.getElem?_set_ne z'] at e2 e4
        exact s.ap j l x y q hne e1 e2 e3 e4
/-- a local's own thing is changed -/
theorem S0.mut (s : S0 K cn G0 H0 G H σ en) {i : Nat} {p : Addr} {d d' : D} {o : HO} (e : en[i]? = some (some (.ow d))) (es : σ[i]? = some (some (.ref p))) (hp : ∃ u, H p = some u) (gn : G p = none)
    (t : Top K cn G (upd H p o) p d') : S0 K cn G0 H0 G (upd H p o) σ (en.set i (some (.ow d'))) := by
  have il : i < en.length := (List.getElem?_eq_some_iff.mp e).1
  have h0 := s.ow i d p e es
  have sub : Same G (upd H p o) := same_upd2 s.sr.sub gn
  refine ⟨⟨sub, fun j x ej => ?_, by rw [List.length_set, s.sr.len]⟩, s.g, same_upd2 s.h h0, s.fr, fun j x q e1 e2 => ?_, fun j l x y q hne e1 e2 e3 e4 => ?_⟩
  · by_cases q : i = j
    · subst q
      rw [List.getElem?_set_self il] at ej
      cases ej
      exact ⟨p, es, gn, t⟩
    · rw [List.getElem?_set_ne q] at ej
      have h := s.sr.sl j x ej
      cases x with
      | sh d => exact h
      | ow d2 =>
        obtain ⟨p2, e1, h1, t2⟩ := h
        refine ⟨p2, e1, h1, t2.same (Same.refl _) fun o' q2 => ?_⟩
        rw [upd_ne]
        · exact q2
        · rintro rfl
          exact s.ap i j d d2 _ q e ej es e1
  · by_cases z : i = j
    · subst z
      rw [List.getElem?_set_self il] at e1
      rw [es] at e2
      cases e2
      exact h0
    · rw [List.getElem?_set_ne z] at e1
      exact s.ow j x q e1 e2
  · by_cases z : i = j
    · subst z
      rw [List.getElem?_set_ne hne] at e2
      exact s.ap i l d y q hne e e2 e3 e4
    · rw [List.getElem?_set_ne z] at e1
      by_cases z' : i = l
      · subst z'
        exact s.ap j i x d q hne e1 e e3 e4
      · rw [List.getElem?_set_ne z'] at e2
        exact s.ap j l x y q hne e1 e2 e3 e4
/-- a local's own thing is shown: it may be shared from now on, and changes no more -/
def frzE (en : En) (i : Nat) : En := match en[i]? with
  | some (some (.ow d)) => en.set i (some (.sh d))
  | _ => en
theorem S0.freeze (s : S0 K cn G0 H0 G H σ en) (i : Nat) : ∃ G', Same G G' ∧ S0 K cn G0 H0 G' H σ (frzE en i) := by
  unfold frzE
  split
  · rename_i d e
    obtain ⟨p, es, gn, t⟩ := s.sr.sl i _ e
    obtain ⟨o, ho⟩ := t.some
    have sg : Same G (upd G p o) := same_upd gn
    have h0 := s.ow i d p e es
    have sub : Same (upd G p o) H := fun b x q => by
      by_cases z : b = p
      · subst z; rw [upd_same] at q; cases q; exact ho
      · rw [upd_ne z] at q; exact s.sr.sub b x q
    have dv : Dt K cn (upd G p o) (.ref p) d := t.dt sg fun o' q => by rw [upd_same, ← ho, q]
    have il : i < en.length := (List.getElem?_eq_some_iff.mp e).1
    refine ⟨upd G p o, sg, ⟨sub, fun j x ej => ?_, by rw [List.length_set, s.sr.len]⟩, s.g.trans sg, s.h, fun a q => ?_, fun j x q e1 e2 => ?_, fun j l x y q hne e1 e2 e3 e4 => ?_⟩
    · by_cases q : i = j
      · subst q
        rw [List.getElem?_set_self il] at ej
        cases ej
        exact ⟨_, es, dv⟩
      · rw [List.getElem?_set_ne q] at ej
        have h := s.sr.sl j x ej
        cases x with
        | sh d => obtain ⟨v', e1, h1⟩ := h; exact ⟨v', e1, h1.same sg⟩
        | ow d2 =>
          obtain ⟨p2, e1, h1, t2⟩ := h
          refine ⟨p2, e1, ?_, t2.same sg fun _ q => q⟩
          rw [upd_ne]
          · exact h1
          · rintro rfl
            exact s.ap i j d d2 _ q e ej es e1
    · by_cases z : a = p
      · subst z; exact .inr h0
      · rw [upd_ne z] at q; exact s.fr a q
    · by_cases z : i = j
      · subst z
        rw [List.getElem?_set_self il] at e1
        cases e1
      · rw [List.getElem?_set_ne z] at e1
        exact s.ow j x q e1 e2
    · by_cases z : i = j
      · subst z
        rw [List.getElem?_set_self il] at e1
        cases e1
      · rw [List.getElem?_set_ne z] at e1
        by_cases z' : i = l
        · subst z'
          rw [List.getElem?_set_self il] at e2
          cases e2
        · rw [List.getElem?_set_ne z'] at e2
          exact s.ap j l x y q hne e1 e2 e3 e4
  · exact ⟨G, Same.refl _, s⟩

/-! ### from expressions to statements -/
/-- the result, then the statement's end -/
def bS (a : Option R) (en : En) (k : Kd → D → Option Out) : Option Out := match a with
  | some (.val kd d) => k kd d
  | some (.er c d) => some (.er en c d)
  | none => none
theorem es_bind {f : En → Option R} {k : Kd → D → Option Out} {o : Out} {T : VK} (s : S0 K cn G0 H0 G H σ en) (e : bS (f en) en k = some o) (q : OQ K cn W G0 H0 G E o)
    (cont : ∀ v kd d G1 H1, Stp G H G1 H1 → S0 K cn G0 H0 G1 H1 σ en → VI K cn H G1 H1 kd v d → k kd d = some o → T v H1) : tD K cn W f σ H T := by
  cases hf : f en with
  | none => rw [hf] at e; cases e
  | some a =>
    rw [hf] at e
    refine ⟨G, en, a, s.sr, hf, ?_⟩
    cases a with
    | val kd d => exact fun v G1 H1 st vi => cont v kd d G1 H1 st (s.step st) vi e
    | er c d =>
      cases e
      exact fun dx v G1 H1 st h1 h2 => q σ dx v G1 H1 st.g (s.step st) h1 h2
/-- a new thing: nobody's yet -/
theorem new_ne {p : Addr} (s : S0 K cn G0 H0 G H σ en) (hn : H p = none) : ∀ (j : Nat) (x : D) (q : Addr), en[j]? = some (some (.ow x)) → σ[j]? = some (some (.ref q)) → q ≠ p := fun j x q e1 e2 z => by
  subst z
  obtain ⟨p', e3, _, t⟩ := s.sr.sl j _ e1
  rw [e2] at e3
  cases e3
  obtain ⟨o, ho⟩ := t.some
  rw [hn] at ho; cases ho
def stoE (en : En) (i : Nat) : Kd → D → Option En
  | .sh, d => some (en.set i (some (.sh d)))
  | .nw, d => some (en.set i (some (.ow d)))
  | .bo, _ => none
theorem S0.sto {i : Nat} {kd : Kd} {v : V} {d : D} {en1 : En} {G1 H1 : Hp} (s0 : S0 K cn G0 H0 G H σ en) (st : Stp G H G1 H1) (vi : VI K cn H G1 H1 kd v d) (e : stoE en i kd d = some en1) : S0 K cn G0 H0 G1 H1 (σ.set i (some v)) en1 := by
  have s := s0.step st
  cases kd with
  | sh => cases e; exact s.set vi
  | nw =>
    cases e
    obtain ⟨p, rfl, hn, gn, t⟩ := vi
    exact s.own (H1 := H) (s0.h.free hn) (new_ne s0 hn) gn t
  | bo => cases e
def fSet (i : Nat) (f : En → Option R) : En → Option Out := fun en => bS (f en) en fun kd d => (stoE en i kd d).map .nx
theorem tAsg_of {i : Nat} {f : En → Option R} {te : TE} (hi : ∀ σ H Q, tD K cn W f σ H Q → te σ H Q) (h : tS K cn W G0 H0 (fSet i f) E σ H) : tAsg te (gName i) E σ H := by
  obtain ⟨G, en, o, s, e, q⟩ := h
  refine hi σ H _ (es_bind s e q fun v kd d G1 H1 st s1 vi e1 => ?_)
  obtain ⟨en1, e2, rfl⟩ := Option.map_eq_some_iff.mp e1
  exact q _ G1 H1 st.g (s.sto st vi e2)
end
section
variable {X : Cx} {cn : Nat → Addr} {W : WX} {G0 H0 : Hp} {st : Stmt} {sts : List Stmt} {f : En → Option R} {F F1 F2 : En → Option Out} {e : Expr} {pos : Pos} {tt : En → Option RB} {c : Expr}
/-- x = e: h by ps_set or ps_setLc -/
theorem ds_set {i : Nat} (h : PS X st (tAsg (tD X.K cn W f) (gName i))) : DS X cn W G0 H0 st (fSet i f) := PS.imp h fun E σ H q => tAsg_of (fun _ _ _ h => h) q
theorem ds_setC {i : Nat} {te : TE} (hi : ∀ σ H Q, tD X.K cn W f σ H Q → te σ H Q) (h : PS X st (tAsg te (gName i))) : DS X cn W G0 H0 st (fSet i f) := PS.imp h fun E σ H q => tAsg_of hi q
/-- a target that is a tuple of names -/
def fAsg (tg : D → En → Option En) (f : En → Option R) : En → Option Out := fun en => bS (shr (f en)) en fun _ d => (tg d en).map .nx
theorem es_bindS {K : PySem.W.Frag} {G H : Hp} {σ : L2.St} {en : En} {E : Ends} {k : Kd → D → Option Out} {o : Out} {T : VK} (s : S0 K cn G0 H0 G H σ en) (e : bS (shr (f en)) en k = some o) (q : OQ K cn W G0 H0 G E o)
    (cont : ∀ v d G1 H1, Stp G H G1 H1 → S0 K cn G0 H0 G1 H1 σ en → Dt K cn G1 v d → k .sh d = some o → T v H1) : tD K cn W f σ H T := by
  cases hf : f en with
  | none => rw [hf] at e; cases e
  | some a =>
    rw [hf] at e
    refine ⟨G, en, a, s.sr, hf, ?_⟩
    cases a with
    | val kd d =>
      cases kd with
      | sh => exact fun v G1 H1 st vi => cont v d G1 H1 st (s.step st) vi e
      | nw =>
        intro v G1 H1 st vi
        obtain ⟨G2, st2, h⟩ := vi.sh st
        exact cont v d G2 H1 st2 (s.step st2) h e
      | bo => cases e
    | er c d =>
      cases e
      exact fun dx v G1 H1 st h1 h2 => q σ dx v G1 H1 st.g (s.step st) h1 h2
theorem ds_asg {g : TG} {tg : D → En → Option En} {ix : List Nat} (hg : DG X.K cn g tg ix) (h : PS X st (tAsg (tD X.K cn W f) g)) : DS X cn W G0 H0 st (fAsg tg f) := by
  refine PS.imp h ?_
  rintro E σ H ⟨G, en, o, s, e, q⟩
  refine es_bindS s e q fun v d G1 H1 st s1 dv e1 => ?_
  obtain ⟨en1, e2, rfl⟩ := Option.map_eq_some_iff.mp e1
  refine hg v d en en1 σ G1 H1 _ s1.sr.sub dv e2 fun ws ew _ hw => ?_
  subst ew
  exact q _ G1 H1 st.g (s1.sets ws hw)
def fDrop (f : En → Option R) : En → Option Out := fun en => bS (f en) en fun _ _ => some (.nx en)
theorem ds_drop (h : PS X st (tDrop (tD X.K cn W f))) : DS X cn W G0 H0 st (fDrop f) := by
  refine PS.imp h ?_
  rintro E σ H ⟨G, en, o, s, e, q⟩
  refine es_bind s e q fun v kd d G1 H1 st s1 vi e1 => ?_
  cases e1
  exact q σ G1 H1 st.g s1
/-- return e -/
def rtK : Kd → D → Option Out
  | .bo, _ => none
  | k, d => some (.rt k d)
def fRet (f : En → Option R) : En → Option Out := fun en => bS (f en) en rtK
theorem ds_ret (he : DE X cn W e f) : DS X cn W G0 H0 (.Return (some e) pos) (fRet f) := by
  refine PS.imp (ps_ret he) ?_
  rintro E σ H ⟨G, en, o, s, e, q⟩
  refine es_bind s e q fun v kd d G1 H1 st s1 vi e1 => ?_
  cases kd with
  | sh => cases e1; exact q v G1 H1 s1.stp vi
  | nw =>
    cases e1
    obtain ⟨p, rfl, hn, gn, t⟩ := vi
    exact q _ G1 H1 s1.stp ⟨p, rfl, s.h.free hn, gn, t⟩
  | bo => cases e1
/-- return x: a local's own thing is handed on -/
def fRetV (i : Nat) : En → Option Out := fun en => match en[i]? with
  | some (some (.sh d)) => some (.rt .sh d)
  | some (some (.ow d)) => some (.rt .nw d)
  | _ => none
theorem ds_retV {i : Nat} (he : PE X e (tVar i)) : DS X cn W G0 H0 (.Return (some e) pos) (fRetV i) := by
  refine PS.imp (ps_ret he) ?_
  rintro E σ H ⟨G, en, o, s, e, q⟩
  unfold fRetV at e
  split at e
  · rename_i d hs
    cases e
    obtain ⟨v, e1, h1⟩ := s.sr.sl i _ hs
    exact ⟨v, e1, q v G H s.stp h1⟩
  · rename_i d hs
    cases e
    obtain ⟨p, e1, h1, h2⟩ := s.sr.sl i _ hs
    exact ⟨.ref p, e1, q (.ref p) G H s.stp ⟨p, rfl, s.ow i d p hs e1, h1, h2⟩⟩
  · cases e
def fRetN : En → Option Out := fun _ => some (.rt .sh .non)
theorem ds_retN : DS X cn W G0 H0 (.Return none pos) fRetN := PS.imp ps_retN fun E σ H ⟨G, en, o, s, e, q⟩ => by
  cases e
  exact q .non G H s.stp .non
def fNx : En → Option Out := fun en => some (.nx en)
theorem ds_pass : DS X cn W G0 H0 (.Pass pos) fNx := PS.imp ps_pass fun E σ H ⟨G, en, o, s, e, q⟩ => by
  cases e
  exact q σ G H (Same.refl _) s
theorem dss_nil : DSs X cn W G0 H0 [] fNx := PSs.imp pss_nil fun E σ H ⟨G, en, o, s, e, q⟩ => by
  cases e
  exact q σ G H (Same.refl _) s
theorem ds_break : DS X cn W G0 H0 (.Break pos) (fun en => some (.bk en)) := PS.imp ps_break fun E σ H ⟨G, en, o, s, e, q⟩ => by
  cases e
  exact q σ G H (Same.refl _) s
theorem ds_continue : DS X cn W G0 H0 (.Continue pos) (fun en => some (.ct en)) := PS.imp ps_continue fun E σ H ⟨G, en, o, s, e, q⟩ => by
  cases e
  exact q σ G H (Same.refl _) s
def fSeq (F1 F2 : En → Option Out) : En → Option Out := fun en => match F1 en with
  | some (.nx en1) => F2 en1
  | o => o
theorem dss_cons (h1 : DS X cn W G0 H0 st F1) (h2 : DSs X cn W G0 H0 sts F2) : DSs X cn W G0 H0 (st :: sts) (fSeq F1 F2) := by
  refine PSs.imp (pss_cons h1 h2) ?_
  rintro E σ H ⟨G, en, o, s, e, q⟩
  unfold fSeq at e
  cases hf : F1 en with
  | none => rw [hf] at e; cases e
  | some o1 =>
    rw [hf] at e
    refine ⟨G, en, o1, s, hf, ?_⟩
    cases o1 with
    | nx en1 => exact fun σ1 G1 H1 sg s1 => ⟨G1, en1, o, s1, e, q.on sg⟩
    | rt k d => cases e; exact q
    | bk en1 => cases e; exact q
    | ct en1 => cases e; exact q
    | er en1 c d => cases e; exact q
theorem dss_one (h : DS X cn W G0 H0 st F) : DSs X cn W G0 H0 [st] F := pss_one h
/-- the slot i is shown from here on -/
theorem dss_frz {i : Nat} (h : DSs X cn W G0 H0 sts F) : DSs X cn W G0 H0 sts (fun en => F (frzE en i)) := PSs.imp h fun E σ H ⟨G, en, o, s, e, q⟩ => by
  obtain ⟨G1, sg, s1⟩ := s.freeze i
  exact ⟨G1, _, o, s1, e, q.on sg⟩
def fIfS (tt : En → Option RB) (F1 F2 : En → Option Out) : En → Option Out := fun en => match tt en with
  | some (.b true) => F1 en
  | some (.b false) => F2 en
  | some (.er c d) => some (.er en c d)
  | none => none
theorem ds_if {a b : List Stmt} (hc : DT X cn W c tt) (ha : DSs X cn W G0 H0 a F1) (hb : DSs X cn W G0 H0 b F2) : DS X cn W G0 H0 (.If c a b pos) (fIfS tt F1 F2) := by
  refine PS.imp (ps_if hc ha hb) ?_
  rintro E σ H ⟨G, en, o, s, e, q⟩
  unfold fIfS at e
  cases ht : tt en with
  | none => rw [ht] at e; cases e
  | some x =>
    rw [ht] at e
    refine ⟨G, en, x, s.sr, ht, ?_⟩
    cases x with
    | b k =>
      intro G1 H1 st
      cases k with
      | true => rw [if_pos rfl]; exact ⟨G1, en, o, s.step st, e, q.on st.g⟩
      | false => rw [if_neg Bool.false_ne_true]; exact ⟨G1, en, o, s.step st, e, q.on st.g⟩
    | er c d =>
      cases e
      exact fun dx v G1 H1 st h1 h2 => q σ dx v G1 H1 st.g (s.step st) h1 h2

/-! ### for -/
def forD (tg : D → En → Option En) (F : En → Option Out) : List D → En → Option Out
  | [], en => some (.nx en)
  | d :: r, en => match tg d en with
    | none => none
    | some en1 => match F en1 with
      | some (.nx en2) => forD tg F r en2
      | some (.ct en2) => forD tg F r en2
      | some (.bk en2) => some (.nx en2)
      | o => o
def fFor (it : En → Option RA) (tg : D → En → Option En) (F : En → Option Out) : En → Option Out := fun en => match it en with
  | some (.vals ds) => forD tg F ds en
  | some (.er c d) => some (.er en c d)
  | none => none
theorem ds_for {tgt iter : Expr} {body : List Stmt} {it : En → Option RA} {g : TG} {tg : D → En → Option En} {ix : List Nat} (hp : PassesOwn (model X.prog X.w) X.A X.env X.xe) (hc : X.calm = true) (hi : DI X cn W tgt iter it) (hg : PG X tgt g) (hd : DG X.K cn g tg ix) (hb : DSs X cn W G0 H0 body F)
    (hs : ∀ x, foldedSetIterable iter X.env x = pure x := by intro _; rfl) : DS X cn W G0 H0 (.For tgt iter body [] pos) (fFor it tg F) := by
  refine PS.imp (ps_for hp hc hi hg hb hs) ?_
  rintro E σ H ⟨G, en, o, s, e, q⟩
  unfold fFor at e
  cases ht : it en with
  | none => rw [ht] at e; cases e
  | some y =>
    rw [ht] at e
    refine ⟨G, en, y, s.sr, ht, ?_⟩
    cases y with
    | er c d => cases e; exact fun dx v G1 H1 st h1 h2 => q σ dx v G1 H1 st.g (s.step st) h1 h2
    | vals ds =>
      intro J G1 H1 st hJ
      refine ⟨fun i m σ' H' => m = ds.length - i ∧ ∃ G' en', S0 X.K cn G0 H0 G' H' σ' en' ∧ Same G1 G' ∧ forD tg F (ds.drop i) en' = some o ∧ i ≤ ds.length,
        ⟨ds.length, by simp, G1, en, s.step st, Same.refl _, e, Nat.zero_le _⟩, ?_⟩
      rintro i m σ' H' ⟨rfl, G', en', s', sg, hf, hid⟩
      obtain ⟨hgo, hstop⟩ := hJ G' H' sg s'.sr.sub i
      by_cases hi : i < ds.length
      · obtain ⟨d, hd'⟩ : ∃ d, ds[i]? = some d := ⟨ds[i], List.getElem?_eq_getElem hi⟩
        obtain ⟨h1, h2⟩ := hgo d hd'
        have hdrop : ds.drop i = d :: ds.drop (i + 1) := by
          rw [List.drop_eq_getElem_cons hi]
          rw [List.getElem?_eq_getElem hi] at hd'
          cases hd'; rfl
        rw [hdrop] at hf
        unfold forD at hf
        refine .inr ⟨h1, fun σ2 H2 => ∃ G2 en2, S0 X.K cn G0 H0 G2 H2 σ2 en2 ∧ Same G1 G2 ∧ forD tg F (ds.drop (i + 1)) en2 = some o,
          fun σ2 H2 ⟨G2, en2, a1, a2, a3⟩ => ⟨ds.length - (i + 1), by omega, rfl, G2, en2, a1, a2, a3, hi⟩, fun x H2 y => ?_⟩
        obtain ⟨G2, s2, dx⟩ := h2 x H2 y
        cases htg : tg d en' with
        | none => rw [htg] at hf; cases hf
        | some en1 =>
          rw [htg] at hf
          simp only at hf
          have s3 := s'.step s2
          refine hd x d en' en1 σ' G2 H2 _ s3.sr.sub dx htg fun ws hws _ hw => ?_
          have s4 : S0 X.K cn G0 H0 G2 H2 (setS σ' ws) en1 := by rw [hws]; exact s3.sets ws hw
          have sg2 : Same G1 G2 := sg.trans s2.g
          cases hF : F en1 with
          | none => rw [hF] at hf; cases hf
          | some o1 =>
            rw [hF] at hf
            refine ⟨G2, en1, o1, s4, hF, ?_⟩
            cases o1 with
            | nx en2 => exact fun σ5 G5 H5 b s5 => ⟨G5, en2, s5, sg2.trans b, hf⟩
            | ct en2 => exact fun σ5 G5 H5 b s5 => ⟨G5, en2, s5, sg2.trans b, hf⟩
            | bk en2 => cases hf; exact fun σ5 G5 H5 b s5 => q σ5 G5 H5 (st.g.trans (sg2.trans b)) s5
            | rt k d => cases hf; exact q
            | er en2 c d => cases hf; exact q.on (st.g.trans sg2)
      · have he : i = ds.length := by omega
        subst he
        rw [List.drop_length] at hf
        cases hf
        exact .inl ⟨hstop rfl, q σ' G' H' (st.g.trans sg) s'⟩
end
end PD
/-! PD8: stores into a local's own things; defs by their data functions. -/
namespace PD
open PySem PySem.Spec PyProof.Rows L2
section
variable {X : Cx} {cn : Nat → Addr} {W : WX} {G0 H0 : Hp} {st : Stmt} {sts : List Stmt} {f fk : En → Option R} {F F1 F2 : En → Option Out} {e : Expr} {pos : Pos}

/-! ### comprehensions, calls -/
theorem de_lc {elt tg iter : Expr} {ifs : List Expr} {scope : Scope} {own : List (Str × Nat)} {it : En → Option RA} {g : TG} {h : D → En → Option En} {ix : List Nat} {tt : En → Option RB} {fe : En → Option R} (hc : X.calm = true) (hN : X.N.Nodup) (hi : DI X cn W tg iter it)
    (ok : BlkOk X.N X.env.scope scope own) (hd : DG X.K cn g h ix) (hix : ∀ i ∈ ix, i ∈ own.map (·.2)) (hg : ∀ (s : Shared) (H : Hp) (C : Addr) (cl : List (Str × Addr)) (fp : List Addr), PG (X.blk s H scope (compEnvC scope cl C X.env) fp) tg g)
    (ht : ∀ (s : Shared) (H : Hp) (C : Addr) (cl : List (Str × Addr)) (fp : List Addr), DTs (X.blk s H scope (compEnvC scope cl C X.env) fp) cn (fun _ _ _ _ => False) ifs tt)
    (he : ∀ (s : Shared) (H : Hp) (C : Addr) (cl : List (Str × Addr)) (fp : List Addr), DE (X.blk s H scope (compEnvC scope cl C X.env) fp) cn (fun _ _ _ _ => False) elt fe) (hs : ∀ x, foldedSetIterable iter X.env x = pure x := by intro _; rfl) :
    DE X cn W (.ListComp elt [⟨tg, iter, ifs, 0⟩] scope pos) (fLc it h tt fe (own.map (·.2))) := PE.imp (pe_lc hc hN hi ok hg ht he hs) fun _ _ _ q => tLc_of hd hix q
/-- y = [..] -/
theorem ds_lc {i : Nat} {it : En → Option RA} {g : TG} {h : D → En → Option En} {ix : List Nat} {tt : En → Option RB} {fe : En → Option R} {vs : List Nat} (hd : DG X.K cn g h ix) (hix : ∀ i ∈ ix, i ∈ vs)
    (hp : PS X st (tAsg (tLc (tI X.K cn W it) g (tT X.K cn (fun _ _ _ _ => False) tt) (tD X.K cn (fun _ _ _ _ => False) fe) vs) (gName i))) : DS X cn W G0 H0 st (fSet i (fLc it h tt fe vs)) := ds_setC (fun _ _ _ q => tLc_of hd hix q) hp

/-! ### stores into a local's own list, dict -/
def fApp (i : Nat) (f : En → Option R) : En → Option Out := fun en => match en[i]? with
  | some (some (.ow (.lst ds))) => bS (shr (f en)) en fun _ d => if ds.length < 16777216 then some (.nx (en.set i (some (.ow (.lst (ds ++ [d])))))) else none
  | _ => none
theorem ds_app {i : Nat} (h : PS X st (tDrop (tBM X.K "list" rAppend (tVar i) (tCons (tD X.K cn W f) tNil)))) : DS X cn W G0 H0 st (fApp i f) := by
  refine PS.imp h ?_
  rintro E σ H ⟨G, en, o, s, e, q⟩
  unfold fApp at e
  split at e
  · rename_i ds hs
    obtain ⟨p, e1, gn, vs, hp, t⟩ := s.sr.sl i _ hs
    refine ⟨.ref p, e1, .inl ⟨rfl, vs, SqL.of hp⟩, ?_⟩
    refine es_bindS s e q fun v d G1 H1 st s1 dv e2 => ?_
    split at e2
    · rename_i hl
      cases e2
      have hp1 := st.h _ _ hp
      obtain ⟨p', e1', gn', _⟩ := s1.sr.sl i _ hs
      rw [e1] at e1'; cases e1'
      exact ⟨p, vs, v, rfl, rfl, hp1, by rw [t.length, szl]; exact hl, q σ G1 _ st.g (s1.mut hs e1 ⟨_, hp1⟩ gn' ⟨_, upd_same, (t.same st.g).append (.one dv)⟩)⟩
    · cases e2
  · cases e
/-- o[i] = v, by values: a list's or a dict's -/
theorem PSet.or {t u : TSet} (h : PSet X t) (h2 : PSet X u) : PSet X (fun o i v H Q => t o i v H Q ∨ u o i v H Q) := fun pins s σ H o i v ov iv uv Q I r1 r2 r3 q => q.elim (h pins s σ H o i v ov iv uv Q I r1 r2 r3) (h2 pins s σ H o i v ov iv uv Q I r1 r2 r3)
def rSet : V → V → V → Hp → (Hp → Prop) → Prop := fun o i v H Q => rSetL o i v H Q ∨ rSetD o i v H Q
theorem set_any (hu : X.A.units + 1 < cLine) : PSet X rSet := PSet.or set_list (set_dict hu)
def putD (dks : List (Key × D)) (k : Key) (d : D) : List (Key × D) :=
  if (dks.any fun kv => decide (kv.1 = k)) = true then dks.map (fun kv => if kv.1 = k then (kv.1, d) else kv) else dks ++ [(k, d)]
def putO (v : D) : D → D → Option D
  | .lst ds, .int i => (ixN ds.length i).map fun j => .lst (ds.set j v)
  | .dct dks, k => if dks.length < 16777216 then (keyD k).map fun k => .dct (putD dks k v) else none
  | _, _ => none
/-- x[k] = e: e first, then k -/
def fPut (i : Nat) (fk f : En → Option R) : En → Option Out := fun en => match en[i]? with
  | some (some (.ow x)) => bS (shr (f en)) en fun _ v => bS (fk en) en fun _ k => (putO v x k).map fun y => .nx (en.set i (some (.ow y)))
  | _ => none
theorem any_keys {k : Key} : ∀ {kvs : List (Key × V)} {dks : List (Key × D)}, kvs.map (·.1) = dks.map (·.1) → (kvs.any fun kv => decide (kv.1 = k)) = dks.any fun kv => decide (kv.1 = k)
  | [], [], _ => rfl
  | a :: r, b :: r', e => by
    simp only [List.map_cons, List.cons.injEq] at e
    rw [List.any_cons, List.any_cons, e.1, any_keys e.2]
  | [], _ :: _, e => by simp at e
  | _ :: _, [], e => by simp at e
theorem put_map {K : PySem.W.Frag} {G : Hp} {k : Key} {v : V} {d : D} (hv : Dt K cn G v d) : ∀ {kvs : List (Key × V)} {dks : List (Key × D)}, kvs.map (·.1) = dks.map (·.1) → DtL K cn G (kvs.map (·.2)) (dks.map (·.2)) →
    (kvs.map fun kv => if kv.1 = k then (kv.1, v) else kv).map (·.1) = (dks.map fun kv => if kv.1 = k then (kv.1, d) else kv).map (·.1) ∧ DtL K cn G ((kvs.map fun kv => if kv.1 = k then (kv.1, v) else kv).map (·.2)) ((dks.map fun kv => if kv.1 = k then (kv.1, d) else kv).map (·.2))
  | [], [], _, _ => ⟨rfl, .nil⟩
  | (a, x) :: r, (b, y) :: r', e, t => by
    simp only [List.map_cons, List.cons.injEq] at e
    obtain ⟨e1, e2⟩ := e
    subst e1
    simp only [List.map_cons] at t
    cases t with
    | cons h t =>
      obtain ⟨i1, i2⟩ := put_map (k := k) hv e2 t
      simp only [List.map_cons]
      by_cases q : a = k
      · rw [if_pos q, if_pos q]
        exact ⟨by rw [i1], .cons hv i2⟩
      · rw [if_neg q, if_neg q]
        exact ⟨by rw [i1], .cons h i2⟩
  | [], _ :: _, e, _ => by simp at e
  | _ :: _, [], e, _ => by simp at e
theorem putK_of {K : PySem.W.Frag} {G : Hp} {k : Key} {v : V} {d : D} (hv : Dt K cn G v d) {kvs : List (Key × V)} {dks : List (Key × D)} (e : kvs.map (·.1) = dks.map (·.1)) (t : DtL K cn G (kvs.map (·.2)) (dks.map (·.2))) :
    (putK kvs k v).map (·.1) = (putD dks k d).map (·.1) ∧ DtL K cn G ((putK kvs k v).map (·.2)) ((putD dks k d).map (·.2)) := by
  unfold putK putD
  rw [any_keys e]
  split
  · exact put_map hv e t
  · rw [List.map_append, List.map_append, List.map_append, List.map_append, e]
    exact ⟨rfl, t.append (.one hv)⟩
theorem ds_put {i : Nat} (h : PS X st (tAsg (tD X.K cn W f) (gSub (tVar i) (tD X.K cn W fk) rSet))) : DS X cn W G0 H0 st (fPut i fk f) := by
  refine PS.imp h ?_
  rintro E σ H ⟨G, en, o, s, e, q⟩
  unfold fPut at e
  split at e
  · rename_i x hs
    refine es_bindS s e q fun v d G1 H1 st s1 dv e1 => ?_
    obtain ⟨p, ep, gn, t⟩ := s1.sr.sl i _ hs
    refine ⟨.ref p, ep, ?_⟩
    refine es_bind s1 e1 (q.on st.g) fun y kd dk G2 H2 st2 s2 vi e2 => ?_
    obtain ⟨z, hz, rfl⟩ := Option.map_eq_some_iff.mp e2
    obtain ⟨p', ep', gn', t'⟩ := s2.sr.sl i _ hs
    rw [ep] at ep'; cases ep'
    have hv := dv.same st2.g
    unfold putO at hz
    split at hz
    · obtain ⟨m, hm, rfl⟩ := Option.map_eq_some_iff.mp hz
      obtain ⟨vs, hp, tl⟩ := t'
      have hy := vi.db.int
      refine .inl ⟨p, vs, _, m, rfl, hy, hp, by rw [tl.length]; exact hm, ?_⟩
      exact q σ G2 _ (st.g.trans st2.g) (s2.mut hs ep ⟨_, hp⟩ gn' ⟨_, upd_same, tl.set m hv⟩)
    · split at hz
      · rename_i kd2 dks hl
        obtain ⟨k', hk, rfl⟩ := Option.map_eq_some_iff.mp hz
        obtain ⟨kvs, hp, ek, tl⟩ := t'
        have hy := key_of_d vi.db hk
        obtain ⟨b1, b2⟩ := putK_of (k := k') hv ek tl
        have hlen : kvs.length = dks.length := by
          have := congrArg List.length ek
          rw [List.length_map, List.length_map] at this
          exact this
        refine .inr ⟨p, _, rfl, .inl ⟨kvs, k', hp, hy, by rw [hlen, szl]; exact hl, rfl⟩, ?_⟩
        exact q σ G2 _ (st.g.trans st2.g) (s2.mut hs ep ⟨_, hp⟩ gn' ⟨_, upd_same, b1, b2⟩)
      · cases hz
    · cases hz
  · cases e

/-! ### a list taken apart -/
def hUnl (n : Nat) (hs : List D → En → Option En) : D → En → Option En := fun d en => match d with
  | .lst ds => if ds.length = n then hs ds en else none
  | _ => none
theorem dg_unl {K : PySem.W.Frag} {n : Nat} {gs : TGs} {hs : List D → En → Option En} {ixs : List Nat} (h : DGs K cn gs hs ixs) : DG K cn (gUnl K n gs) (hUnl n hs) ixs := fun v d en en' σ G H Q sg hd e k => by
  unfold hUnl at e
  split at e
  · split at e
    · rename_i ds hn
      cases hd with
      | lst hp t => exact ⟨_, _, rfl, SqL.of (sg _ _ hp), by rw [t.length]; exact hn, h _ _ en en' σ G H Q sg t e k⟩
    · cases e
  · cases e
/-- a tuple or a list -/
def hTL (n : Nat) (hs : List D → En → Option En) : D → En → Option En := fun d en => match d with
  | .tup ds => if ds.length = n then hs ds en else none
  | .lst ds => if ds.length = n then hs ds en else none
  | _ => none
theorem PG.or {tg : Expr} {t u : TG} (h : PG X tg t) (h2 : PG X tg u) : PG X tg (fun v σ H Q => t v σ H Q ∨ u v σ H Q) := ⟨fun pins s σ H v w Q I r q => q.elim (h.run pins s σ H v w Q I r) (h2.run pins s σ H v w Q I r)⟩
theorem dg_tl {K : PySem.W.Frag} {n : Nat} {gs : TGs} {hs : List D → En → Option En} {ixs : List Nat} (h : DGs K cn gs hs ixs) : DG K cn (fun v σ H Q => gTup K n gs v σ H Q ∨ gUnl K n gs v σ H Q) (hTL n hs) ixs := fun v d en en' σ G H Q sg hd e k => by
  cases d with
  | tup ds => exact .inl (dg_tup h v _ en en' σ G H Q sg hd e k)
  | lst ds => exact .inr (dg_unl h v _ en en' σ G H Q sg hd e k)
  | _ => cases e

/-! ### defs -/
def startE (m : Nat) (ds : List D) : En := ds.map (fun d => some (.sh d)) ++ List.replicate (m - ds.length) none
def runF (F : En → Option Out) (m : Nat) (ds : List D) : Option R := match F (startE m ds) with
  | some (.nx _) => some (.val .sh .non)
  | some (.rt k d) => some (.val k d)
  | some (.er _ c d) => some (.er c d)
  | _ => none
theorem start_sr {K : PySem.W.Frag} {G H : Hp} {N : List Str} {vs : List V} {ds : List D} (s : Same G H) (h : DtL K cn G vs ds) (hl : vs.length ≤ N.length) : SR K cn G H (L2.start N vs) (startE N.length ds) := by
  have e0 := h.length
  refine ⟨s, fun i x e => ?_, ?_⟩
  · unfold startE at e
    by_cases hi : i < ds.length
    · rw [List.getElem?_append_left (by simpa using hi), List.getElem?_map] at e
      obtain ⟨d, hd, e⟩ := Option.map_eq_some_iff.mp e
      cases e
      obtain ⟨v, hv, dv⟩ := h.get hd
      refine ⟨v, ?_, dv⟩
      unfold L2.start
      rw [List.getElem?_append_left (by simpa [e0] using hi), List.getElem?_map, hv]
      rfl
    · rw [List.getElem?_append_right (by simpa using hi), List.getElem?_replicate] at e
      split at e <;> cases e
  · unfold startE L2.start
    simp [e0]
theorem start_no (m : Nat) (ds : List D) (i : Nat) (x : D) : (startE m ds)[i]? ≠ some (some (.ow x)) := fun e => by
  unfold startE at e
  by_cases hi : i < ds.length
  · rw [List.getElem?_append_left (by simpa using hi), List.getElem?_map] at e
    obtain ⟨d, _, e⟩ := Option.map_eq_some_iff.mp e
    cases e
  · rw [List.getElem?_append_right (by simpa using hi), List.getElem?_replicate] at e
    split at e <;> cases e
/-- THE RULE of a def -/
theorem fn_D {P : Program} {w : World} {K : PySem.W.Frag} {mg : Str → Option Value} {base : Heap} {x qual : Str} {fst : Stmt} {fa : Addr} {fd : FuncData} {N ps : List Str} {k n : Nat} {Fd : List D → Option R} {FB : En → Option Out} (Fn : Fun K x qual fst fa fd) (S : FnScope N ps (defScope fst)) (hn : ps.length = n)
    (hbody : ∀ (cdv : Value) (A : Around) (outer : List Env) (s : Shared) (H : Hp) (E : XK) (G0 : Hp), Room k (A.deeper (envOfC qual (defScope fst) s.heap.objs.size fa cdv)) →
      Takes (cxOf (L2.CX P w) P w K mg base N qual (defScope fst) fa cdv A outer s H E) (fun c d _ H => E c d H) →
      DSs (cxOf (L2.CX P w) P w K mg base N qual (defScope fst) fa cdv A outer s H E) cn (fun c d _ H => E c d H) G0 H (defBody fst) FB)
    (hF : ∀ ds r, ds.length = n → Fd ds = some r → runF FB N.length ds = some r) : FnOk P w K mg base (L2.CX P w) (k + 1) fa fd ps (spD K cn n Fd) := by
  refine Fn.okX S (fun vs H Q E h => by rw [spD_len vs H Q E h, hn]) fun cdv A outer s H vs Q E hr h => ?_
  obtain ⟨G, ds, r, sg, hv, hl, e, q⟩ := h
  refine ⟨_, hbody cdv A outer s H E G hr (takes_of rfl rfl rfl rfl), ?_⟩
  have hpl : ps.length ≤ N.length := by have := congrArg List.length S.pre; rw [List.length_take] at this; omega
  have e2 := hF ds r hl e
  unfold runF at e2
  cases hb : FB (startE N.length ds) with
  | none => rw [hb] at e2; cases e2
  | some o =>
    rw [hb] at e2
    refine ⟨G, startE N.length ds, o, ⟨start_sr sg hv (by rw [hv.length, hl, ← hn]; exact hpl), Same.refl _, Same.refl _, fun _ h => .inl h, fun i d p e => absurd e (start_no _ _ _ _), fun i j d d' p _ e => absurd e (start_no _ _ _ _)⟩, hb, ?_⟩
    cases o with
    | nx en => cases e2; exact fun σ G' H' _ s' => q .non G' H' s'.stp .non
    | rt k d => cases e2; exact fun v G' H' s' vi => q v G' H' s' vi
    | er en c d => cases e2; exact fun σ dx v G' H' _ s' h1 h2 => q dx v G' H' s'.stp h1 h2
    | bk en => cases e2
    | ct en => cases e2
/-- x = e, x never changed in place -/
def fSh (i : Nat) (f : En → Option R) : En → Option Out := fun en => bS (shr (f en)) en fun _ d => some (.nx (en.set i (some (.sh d))))
theorem ds_shC {i : Nat} {te : TE} (hi : ∀ σ H Q, tD X.K cn W f σ H Q → te σ H Q) (h : PS X st (tAsg te (gName i))) : DS X cn W G0 H0 st (fSh i f) := by
  refine PS.imp h ?_
  rintro E σ H ⟨G, en, o, s, e, q⟩
  refine hi σ H _ (es_bindS s e q fun v d G1 H1 st s1 dv e1 => ?_)
  cases e1
  exact q _ G1 H1 st.g (s1.set dv)
theorem ds_sh {i : Nat} (h : PS X st (tAsg (tD X.K cn W f) (gName i))) : DS X cn W G0 H0 st (fSh i f) := ds_shC (fun _ _ _ h => h) h
theorem ds_shLc {i : Nat} {it : En → Option RA} {g : TG} {h : D → En → Option En} {ix : List Nat} {tt : En → Option RB} {fe : En → Option R} {vs : List Nat} (hd : DG X.K cn g h ix) (hix : ∀ i ∈ ix, i ∈ vs)
    (hp : PS X st (tAsg (tLc (tI X.K cn W it) g (tT X.K cn (fun _ _ _ _ => False) tt) (tD X.K cn (fun _ _ _ _ => False) fe) vs) (gName i))) : DS X cn W G0 H0 st (fSh i (fLc it h tt fe vs)) := ds_shC (fun _ _ _ q => tLc_of hd hix q) hp
def fFrz (i : Nat) (F : En → Option Out) : En → Option Out := fun en => F (frzE en i)
theorem dss_fr {i : Nat} (h : DSs X cn W G0 H0 sts F) : DSs X cn W G0 H0 sts (fFrz i F) := dss_frz h

/-! ### calls with keywords: the parameters' last names, in their order -/
def KB (K : PySem.W.Frag) (fd : FuncData) (ps : List Str) (n : Nat) (ks : List Str) : Prop := ∀ (s : Shared) (us ws : List Value), K.In s.heap → us.length = n → ws.length = ks.length → BindsTo s fd ⟨us, ks.zip ws⟩ (ps.zip (us ++ ws))
variable {k n : Nat} {g : Addr} {fd : FuncData} {ps ks : List Str} {Fd : List D → Option R} {x : Str} {p : Pos} {t tk0 : En → Option RA} {es : List Expr} {kws : List Keyword}
theorem run_fnK {pins : List (Addr × Obj)} {σ : L2.St} {H : Hp} {s : Shared} {Q : VK} {us ws : List Value} {vs : List V} {E : XK} {sp : Sp} (FO : FnOk X.prog X.w X.K X.mg X.base (L2.CX X.prog X.w) k g fd ps sp) (hr : Room k X.A) (hb : BindsTo s fd ⟨us, ks.zip ws⟩ (ps.zip (us ++ ws)))
    (hx : PassesAt (L2.CX X.prog X.w) X σ E) (I : L2.Inv X pins σ H s) (r : Vals vs (us ++ ws)) (h : sp vs H Q E) : wpAny (model X.prog X.w) X.A (call (.ref g) us (ks.zip ws)) (EP X pins σ Q) X.xe s := by
  refine wpAny_call (codeAny_mono (FO.run X.A X.stack s H ⟨us, ks.zip ws⟩ (us ++ ws) vs Q E hr I.env0 hb r h) fun r s' hq => ?_)
  cases r with
  | error e => exact hx pins H s e s' I hq
  | ok fl =>
    cases fl with
    | ret u => exact I.after hq
    | next => exact False.elim hq
    | brk => exact False.elim hq
    | cont => exact False.elim hq
theorem de_callK0 (FO : FnOk X.prog X.w X.K X.mg X.base (L2.CX X.prog X.w) k g fd ps (spD X.K cn n Fd)) (hr : Room k X.A) (hg : Gl X x) (hm : X.mg x = some (.ref g)) (hk : PySem.W.keepIn X.K (.ref g) = true) (hb : KB X.K fd ps 0 ks) (hps : ks.length = n) (tk : Takes X W)
    (hkw : DK X cn W kws tk0) (hall : (backToKw pos (keywordEach kws X.env)).all (·.1.isSome) = true := by rfl) (hks : (backToKw pos (keywordEach kws X.env)).filterMap (·.1) = ks := by rfl) (hdb : (x == ("__debug__" : Str)) = false := by decide)
    (hpl : ((backTo pos (starEach [] X.env)).any (·.1) || (backToKw pos (keywordEach kws X.env)).any (·.1.isNone)) = false := by rfl) :
    DE X cn W (.Call (.Name x p) [] kws pos) (fCall Fd n tk0) := by
  refine ⟨fun pins s σ H Q I h => ?_⟩
  refine wpAny_Call_Name_kw (ld_glob I hg hm ?_ hdb)
  refine PySem.W.callWith_KW0 (h₀ := X.base) I.ok.mod.kin hk hall ?_ hpl
  refine thn (hkw.run pos pins s σ H _ I (tCall_of h)) fun ws s2 ⟨zs, H2, I2, rz, q2⟩ => ⟨I2.kIn, ?_⟩
  rw [hks]
  have hl : ws.length = ks.length := by rw [← rz.length, spD_len _ _ _ _ q2, hps]
  exact run_fnK (us := []) FO hr (hb s2 [] ws I2.kIn rfl hl) (passAt tk σ) I2 rz q2
end
end PD
/-! PD9: zip over texts, tuples and lists; stars; sorted. -/
namespace PD
open PySem PySem.Spec PyProof.Rows L2

/-! ### zip of two sequences of any kind -/
inductive Src where
  | ls (a : Addr) | tp (a : Addr) | tx (x : Str) (t : Tok)
def Src.val : Src → Value
  | .ls a => .ref a
  | .tp a => .ref a
  | .tx x t => .str x t
def Src.at : Src → Hp → List V → Prop
  | .ls a, H, vs => H a = some (.lst vs)
  | .tp a, H, vs => H a = some (.tup vs)
  | .tx x _, _, vs => vs = x.cps.toList.map fun c => V.str ⟨#[c]⟩
/-- the iterator's own state -/
def Src.it : Src → Addr → Nat → Heap → Prop
  | .ls a, i, n, h => h.IsListIter i a n
  | .tp a, i, n, h => h.IsTupleIter i a n
  | .tx x t, i, n, h => h.IsStrIter i (strIterType x) x t n
def Src.obj : Src → Obj
  | .ls a => { cls := .type "list_iterator", data := .fields #[.ref a, .int 0 0] }
  | .tp a => { cls := .type "tuple_iterator", data := .fields #[.ref a, .int 0 0] }
  | .tx x t => { cls := .type (strIterType x), data := .fields #[.str x t, .int 0 0] }
section
variable {X : Cx} {pins : List (Addr × Obj)} {σ : L2.St} {H : Hp} {s : Shared}
theorem Src.it0 (S : Src) {i : Addr} {h : Heap} (e : h.get? i = some S.obj) : S.it i 0 h := by
  cases S with
  | ls a => exact ⟨_, e, rfl, rfl⟩
  | tp a => exact ⟨_, e, rfl, rfl⟩
  | tx x t => exact ⟨_, e, rfl, rfl⟩
theorem Src.it_at (S : Src) {i : Addr} {n : Nat} {h h' : Heap} (x : S.it i n h) (k : ∀ o, h.get? i = some o → h'.get? i = some o) : S.it i n h' := by
  cases S with
  | ls a => exact x.at k
  | tp a => exact x.at k
  | tx y t => obtain ⟨o, e, c⟩ := x; exact ⟨o, k o e, c⟩
theorem Src.it_obj (S : Src) {i : Addr} {n : Nat} {h : Heap} (x : S.it i n h) : ∃ o, h.get? i = some o ∧ ∀ v, o.data ≠ .cell v := by
  cases S with
  | ls a => obtain ⟨o, e, c, d⟩ := x; exact ⟨o, e, fun v z => by rw [d] at z; cases z⟩
  | tp a => obtain ⟨o, e, c, d⟩ := x; exact ⟨o, e, fun v z => by rw [d] at z; cases z⟩
  | tx y t => obtain ⟨o, e, c, d⟩ := x; exact ⟨o, e, fun v z => by rw [d] at z; cases z⟩
/-- the source's own address, where it has one -/
def Src.ad : Src → Option Addr
  | .ls a => some a
  | .tp a => some a
  | .tx _ _ => none
theorem Src.ad_some (S : Src) {vs : List V} (h : S.at H vs) : ∀ b, S.ad = some b → ∃ o, H b = some o := by
  intro b e
  cases S with
  | ls a => cases e; exact ⟨_, h⟩
  | tp a => cases e; exact ⟨_, h⟩
  | tx x t => cases e
structure SrcD (P : Program) (w : World) (A : Around) (S : Src) (i : Addr) (vs : List V) (fp : List Addr) (Pn : Nat → Value → Prop) (St : Nat → Heap → Prop) : Prop where
  d : Draws P w A i fp vs.length Pn St
  out : ∀ n h, St n h → S.it i n h
  mem : i ∈ fp
  fps : ∀ b ∈ fp, b = i ∨ S.ad = some b
  val : ∀ n u, Pn n u → ∃ v, vs[n]? = some v ∧ RelV v u
theorem Src.draws (S : Src) {i : Addr} {vs : List V} {A : Around} (I : L2.Inv X pins σ H s) (h : S.at H vs) (hA : A.handled = none) (hne : ∀ a, S.ad = some a → a ≠ i) :
    ∃ fp Pn St, SrcD X.prog X.w A S i vs fp Pn St ∧ ∀ n, S.it i n s.heap → St n s.heap := by
  cases S with
  | ls a =>
    obtain ⟨its, r, p, _⟩ := I.list (SqL.of h)
    have hl := r.length
    refine ⟨[i, a], (fun n v => its.toArray[n]? = some v), (fun n h => h.IsListIter i a n ∧ h.IsList a its.toArray), ⟨?_, fun n h x => x.1, by simp, fun b hb => ?_, ?_⟩, fun n x => ⟨x, p.isList⟩⟩
    · have D := Draws.list (prog := X.prog) (w := X.w) (A := A) hA i a (hne a rfl) its.toArray
      rw [List.size_toArray, ← hl] at D
      exact D
    · have : b = i ∨ b = a := by simpa using hb
      exact this.imp id fun e => by rw [e]; rfl
    · intro n u e
      have e' : its[n]? = some u := by simpa using e
      have : n < vs.length := by rw [hl]; exact (List.getElem?_eq_some_iff.mp e').1
      obtain ⟨u', e2, r2⟩ := r.get (List.getElem?_eq_getElem this)
      rw [e'] at e2; cases e2
      exact ⟨_, List.getElem?_eq_getElem this, r2⟩
  | tp a =>
    obtain ⟨its, r, p, _⟩ := I.tuple (SqT.of h)
    have hl := r.length
    refine ⟨[i, a], (fun n v => its.toArray[n]? = some v), (fun n h => h.IsTupleIter i a n ∧ h.IsTuple a its.toArray), ⟨?_, fun n h x => x.1, by simp, fun b hb => ?_, ?_⟩, fun n x => ⟨x, (show s.heap.IsTuple a its.toArray from p)⟩⟩
    · have D := Draws.tuple (prog := X.prog) (w := X.w) (A := A) hA i a (hne a rfl) its.toArray
      rw [List.size_toArray, ← hl] at D
      exact D
    · have : b = i ∨ b = a := by simpa using hb
      exact this.imp id fun e => by rw [e]; rfl
    · intro n u e
      have e' : its[n]? = some u := by simpa using e
      have : n < vs.length := by rw [hl]; exact (List.getElem?_eq_some_iff.mp e').1
      obtain ⟨u', e2, r2⟩ := r.get (List.getElem?_eq_getElem this)
      rw [e'] at e2; cases e2
      exact ⟨_, List.getElem?_eq_getElem this, r2⟩
  | tx x t =>
    have hv : vs = x.cps.toList.map fun c => V.str ⟨#[c]⟩ := h
    subst hv
    refine ⟨[i], (fun n v => ∃ c u, x.cps[n]? = some c ∧ v = .str ⟨#[c]⟩ u), (fun n h => h.IsStrIter i (strIterType x) x t n), ⟨?_, fun n h y => y, by simp, fun b hb => .inl (by simpa using hb), ?_⟩, fun n y => y⟩
    · have D := Draws.text (prog := X.prog) (w := X.w) (A := A) hA i x t
      have e : (x.cps.toList.map fun c => V.str ⟨#[c]⟩).length = x.cps.size := by simp
      rw [e]
      exact D
    · rintro n u ⟨c, t', e, rfl⟩
      refine ⟨.str ⟨#[c]⟩, ?_, t', rfl⟩
      rw [List.getElem?_map, Array.getElem?_toList, e]
      rfl
/-- the pairs of two sources -/
def Itg (S1 S2 : Src) : It :=
  ⟨fun n H => ∃ vs ws x y, S1.at H vs ∧ S2.at H ws ∧ vs[n]? = some x ∧ ws[n]? = some y,
    fun n H v H' => ∃ T x y, v = .ref T ∧ H T = none ∧ H' = upd H T (.tup [x, y]) ∧ ∃ vs ws, S1.at H vs ∧ S2.at H ws ∧ vs[n]? = some x ∧ ws[n]? = some y,
    fun n H => ∃ vs ws, S1.at H vs ∧ S2.at H ws ∧ n ≤ vs.length ∧ n ≤ ws.length ∧ (n = vs.length ∨ n = ws.length)⟩
structure Apart (z TI TO i1 i2 : Addr) : Prop where
  a : TI ≠ z
  b : TO ≠ z
  c : TI ≠ TO
  d : TI ≠ i1
  e : TI ≠ i2
  f : z ≠ i1
  g : z ≠ i2
  h : TO ≠ i1
  i : TO ≠ i2
  j : i1 ≠ i2
theorem turn_zipG {P : Program} {w : World} {K : PySem.W.Frag} {elts : List Expr} {kk : Nat} {tpos : Pos} {S1 S2 : Src} {z TI TO i1 i2 : Addr} (D : Apart z TI TO i1 i2) :
    Turn P w K (.Tuple elts kk tpos) (Itg S1 S2) [z, TI, TO, i1, i2] z (fun n h => IsZip h z TI TO .none ∧ IsTupOf2 h TI (.ref i1) (.ref i2) ∧ (∃ x y, IsTupOf2 h TO x y) ∧ S1.it i1 n h ∧ S2.it i2 n h) where
  mem := by simp
  obj := fun n h st c hc => by
    obtain ⟨hz, hTI, ⟨x, y, hTO⟩, h1, h2⟩ := st
    have e' : c = z ∨ c = TI ∨ c = TO ∨ c = i1 ∨ c = i2 := by simpa using hc
    rcases e' with q | q | q | q | q <;> subst q
    · exact ⟨_, hz, fun v q => nomatch q⟩
    · exact ⟨_, hTI, fun v q => nomatch q⟩
    · exact ⟨_, hTO, fun v q => nomatch q⟩
    · exact S1.it_obj h1
    · exact S2.it_obj h2
  keep := fun n h h' st k => by
    obtain ⟨hz, hTI, ⟨x, y, hTO⟩, h1, h2⟩ := st
    exact ⟨k z (by simp) _ hz, k TI (by simp) _ hTI, ⟨x, y, k TO (by simp) _ hTO⟩, S1.it_at h1 fun o q => k i1 (by simp) o q, S2.it_at h2 fun o q => k i2 (by simp) o q⟩
  item := by
    intro X hP hw hK hc n pins s σ H E I hf st hg
    subst hP hw hK
    obtain ⟨hz, hTI, ⟨x0, y0, hTO⟩, h1, h2⟩ := st
    obtain ⟨vs, ws, x, y, q1, q2, hx, hy⟩ := hg
    have hA : X.A.in1.handled = none := I.ok.hd hc
    have no : ∀ b ∈ [z, TI, TO, i1, i2], H b = none := fun b hb => (hf b hb).1
    have ne1 : ∀ b ∈ [z, TI, TO, i1, i2], ∀ a, S1.ad = some a → a ≠ b := fun b hb a ea z => by
      obtain ⟨o, e⟩ := S1.ad_some q1 a ea
      rw [z, no b hb] at e; cases e
    have ne2 : ∀ b ∈ [z, TI, TO, i1, i2], ∀ a, S2.ad = some a → a ≠ b := fun b hb a ea z => by
      obtain ⟨o, e⟩ := S2.ad_some q2 a ea
      rw [z, no b hb] at e; cases e
    obtain ⟨fp1, P1, St1, d1, s1⟩ := S1.draws I q1 hA (ne1 i1 (by simp))
    obtain ⟨fp2, P2, St2, d2, s2⟩ := S2.draws I q2 hA (ne2 i2 (by simp))
    have out1 : ∀ b ∈ [z, TI, TO, i1, i2], b ≠ i1 → b ∉ fp1 := fun b hb hn hm => by
      rcases d1.fps b hm with e | e
      · exact hn e
      · exact ne1 b hb b e rfl
    have out2 : ∀ b ∈ [z, TI, TO, i1, i2], b ≠ i2 → b ∉ fp2 := fun b hb hn hm => by
      rcases d2.fps b hm with e | e
      · exact hn e
      · exact ne2 b hb b e rfl
    have SZ : ZipSep2 z TI TO i1 i2 fp1 fp2 := ⟨D.a, D.b, D.c, D.d, d1.mem, out1 z (by simp) D.f, out1 TO (by simp) D.h, D.e, d2.mem, out2 z (by simp) D.g, out2 TO (by simp) D.i, out2 i1 (by simp) D.j, out1 i2 (by simp) (Ne.symm D.j)⟩
    refine wpAny_pyNext_zipD2_item SZ d1.d d2.d hz hTI hTO (s1 n h1) (s2 n h2) (List.getElem?_eq_some_iff.mp hx).1 (List.getElem?_eq_some_iff.mp hy).1 fun u1 u2 h' tk p1 p2 z' TO' t1 t2 hT hsz hk => ?_
    obtain ⟨x', ex, rx⟩ := d1.val n u1 p1
    obtain ⟨y', ey, ry⟩ := d2.val n u2 p2
    rw [hx] at ex; cases ex
    rw [hy] at ey; cases ey
    have hzl : z < s.heap.objs.size := Heap.lt_size hz
    refine ⟨_, rfl, wpAny_letOwnedTupleGo_zip (s := { s with heap := h', toks := tk }) z' fun h'' z'' sb => ?_⟩
    have hT2 : h''.get? s.heap.objs.size = some { cls := .type "tuple", data := .seq #[u1, u2] } := (sb.2 _ (Nat.ne_of_gt hzl)).trans hT
    have new : ObjOk X.prog X.w (upd H s.heap.objs.size (.tup [x, y])) h'' s.heap.objs.size (.tup [x, y]) :=
      ⟨by show 2 ≤ sizeLine; decide, [u1, u2], .cons rx (.cons ry .nil), ⟨_, hT2, rfl, _, rfl⟩⟩
    have ho : ∀ c o, c ∉ [z, TI, TO, i1, i2] → s.heap.get? c = some o → h''.get? c = some o := fun c o hb q =>
      (sb.2 c (fun e => hb (by simp [e]))).trans (hk c o (fun e => hb (by simp [e])) (fun e => hb (by simp [e])) (fun e => hb (by simp [e])) (fun e => hb (by simp [e])) q)
    have I1 : L2.Inv X pins σ (upd H s.heap.objs.size (.tup [x, y])) { s with heap := h'', toks := tk } := I.turnedNew (t' := tk) (ch := [z, TI, TO, i1, i2]) ho hf (Nat.le_refl _) new
    refine ⟨.ref s.heap.objs.size, _, I1, rfl, ⟨_, x, y, rfl, I.hok.fresh (Nat.le_refl _), rfl, vs, ws, q1, q2, hx, hy⟩, ⟨z'', ?_, ⟨u1, u2, ?_⟩, ?_, ?_⟩, fun c hcm => ?_⟩
    · exact (sb.2 _ D.a).trans (hk _ _ D.a D.c D.d D.e hTI)
    · exact (sb.2 _ D.b).trans TO'
    · exact S1.it_at (d1.out _ _ t1) fun o q => (sb.2 _ (Ne.symm D.f)).trans q
    · exact S2.it_at (d2.out _ _ t2) fun o q => (sb.2 _ (Ne.symm D.g)).trans q
    · have hlt : c < s.heap.objs.size := by
        have e' : c = z ∨ c = TI ∨ c = TO ∨ c = i1 ∨ c = i2 := by simpa using hcm
        rcases e' with q | q | q | q | q <;> subst q
        · exact hzl
        · exact Heap.lt_size hTI
        · exact Heap.lt_size hTO
        · obtain ⟨_, e1, _⟩ := S1.it_obj h1; exact Heap.lt_size e1
        · obtain ⟨_, e2, _⟩ := S2.it_obj h2; exact Heap.lt_size e2
      rw [upd_ne (Nat.ne_of_lt hlt)]
      exact (hf c hcm).1
  done := by
    intro X hP hw hK hc n pins s σ H E I hf st hg
    subst hP hw hK
    obtain ⟨hz, hTI, ⟨x0, y0, hTO⟩, h1, h2⟩ := st
    obtain ⟨vs, ws, q1, q2, l1, l2, hend⟩ := hg
    have hA : X.A.in1.handled = none := I.ok.hd hc
    have no : ∀ b ∈ [z, TI, TO, i1, i2], H b = none := fun b hb => (hf b hb).1
    have ne1 : ∀ b ∈ [z, TI, TO, i1, i2], ∀ a, S1.ad = some a → a ≠ b := fun b hb a ea z => by
      obtain ⟨o, e⟩ := S1.ad_some q1 a ea
      rw [z, no b hb] at e; cases e
    have ne2 : ∀ b ∈ [z, TI, TO, i1, i2], ∀ a, S2.ad = some a → a ≠ b := fun b hb a ea z => by
      obtain ⟨o, e⟩ := S2.ad_some q2 a ea
      rw [z, no b hb] at e; cases e
    obtain ⟨fp1, P1, St1, d1, s1⟩ := S1.draws I q1 hA (ne1 i1 (by simp))
    obtain ⟨fp2, P2, St2, d2, s2⟩ := S2.draws I q2 hA (ne2 i2 (by simp))
    have out1 : ∀ b ∈ [z, TI, TO, i1, i2], b ≠ i1 → b ∉ fp1 := fun b hb hn hm => by
      rcases d1.fps b hm with e | e
      · exact hn e
      · exact ne1 b hb b e rfl
    have out2 : ∀ b ∈ [z, TI, TO, i1, i2], b ≠ i2 → b ∉ fp2 := fun b hb hn hm => by
      rcases d2.fps b hm with e | e
      · exact hn e
      · exact ne2 b hb b e rfl
    have SZ : ZipSep2 z TI TO i1 i2 fp1 fp2 := ⟨D.a, D.b, D.c, D.d, d1.mem, out1 z (by simp) D.f, out1 TO (by simp) D.h, D.e, d2.mem, out2 z (by simp) D.g, out2 TO (by simp) D.i, out2 i1 (by simp) D.j, out1 i2 (by simp) (Ne.symm D.j)⟩
    refine wpAny_pyNext_zipD2_end SZ d1.d d2.d hz hTI hTO (s1 n h1) (s2 n h2) l1 l2 hend fun h' tk hk => ⟨rfl, ?_⟩
    exact I.turnedL (t' := tk) (ch := [z, TI, TO, i1, i2]) (fun c o hb q => hk c o (fun e => hb (by simp [e])) (fun e => hb (by simp [e])) (fun e => hb (by simp [e])) (fun e => hb (by simp [e])) q) hf
  self := fun A n s Q E st h => wpAny_pyIter_zip st.1 h
/-- how a source begins -/
def Src.ok (S : Src) (h : Heap) : Prop := match S with
  | .ls a => ∃ its, h.IsList a its
  | .tp a => ∃ its, h.IsTuple a its
  | .tx _ _ => True
theorem Src.begins (S : Src) {h : Heap} (x : S.ok h) : ∃ Hp, Begins S.val S.obj Hp ∧ Hp h := by
  cases S with
  | ls a => obtain ⟨its, e⟩ := x; exact ⟨_, begins_list a its, e⟩
  | tp a => obtain ⟨its, e⟩ := x; exact ⟨_, begins_tuple a its, e⟩
  | tx y t => exact ⟨_, begins_text y t, trivial⟩
theorem Src.ok_of (S : Src) {vs : List V} (I : L2.Inv X pins σ H s) (h : S.at H vs) : S.ok s.heap := by
  cases S with
  | ls a =>
    obtain ⟨its, r, p, _⟩ := I.list (SqL.of h)
    exact ⟨_, p.isList⟩
  | tp a =>
    obtain ⟨its, r, p, _⟩ := I.tuple (SqT.of h)
    exact ⟨_, p⟩
  | tx y t => exact trivial
theorem apart_new (n : Nat) : Apart (n + 4) (n + 2) (n + 3) n (n + 1) := by
  refine ⟨?_, ?_, ?_, ?_, ?_, ?_, ?_, ?_, ?_, ?_⟩ <;> (intro z; have z' : (_ : Nat) = _ := z; omega)
end
section
variable {X : Cx} {cn : Nat → Addr} {W : WX} {e e2 : Expr} {f : En → Option R} {t : En → Option RA} {p pos tpos : Pos} {elts : List Expr} {kk : Nat}
def seqD : D → Option (List D)
  | .lst ds => some ds
  | .tup ds => some ds
  | .str z => some (z.cps.toList.map fun c => .str ⟨#[c]⟩)
  | _ => none
def zipW : List D → List D → List D
  | a :: r, b :: r' => .tup [a, b] :: zipW r r'
  | _, _ => []
theorem zipW_get : ∀ (xs ys : List D) (i : Nat) (d : D), (zipW xs ys)[i]? = some d → ∃ a b, xs[i]? = some a ∧ ys[i]? = some b ∧ d = .tup [a, b]
  | [], _, _, _, h => by simp [zipW] at h
  | _ :: _, [], _, _, h => by simp [zipW] at h
  | a :: r, b :: r', 0, d, h => by simp [zipW] at h; exact ⟨a, b, rfl, rfl, h.symm⟩
  | a :: r, b :: r', i + 1, d, h => by
    obtain ⟨x, y, h1, h2, h3⟩ := zipW_get r r' i d (by simpa [zipW] using h)
    exact ⟨x, y, by simpa using h1, by simpa using h2, h3⟩
theorem zipW_len : ∀ (xs ys : List D), (zipW xs ys).length = min xs.length ys.length
  | [], _ => by simp [zipW]
  | _ :: _, [] => by simp [zipW]
  | a :: r, b :: r' => by simp only [zipW, List.length_cons, zipW_len r r']; omega
def zipD : List D → Option (List D)
  | [x, y] => match seqD x, seqD y with
    | some xs, some ys => some (zipW xs ys)
    | _, _ => none
  | _ => none
/-- a value that is a source -/
theorem src_of {K : PySem.W.Frag} {G : Hp} {v : V} {u : Value} {d : D} {ds : List D} (h : Dt K cn G v d) (e : seqD d = some ds) (r : RelV v u) : ∃ (S : Src) (vs : List V), u = S.val ∧ S.at G vs ∧ DtL K cn G vs ds ∧ ∀ H', Same G H' → S.at H' vs := by
  cases h with
  | lst hp t => cases e; cases r; exact ⟨.ls _, _, rfl, hp, t, fun H' s => s _ _ hp⟩
  | tup hp t => cases e; cases r; exact ⟨.tp _, _, rfl, hp, t, fun H' s => s _ _ hp⟩
  | str z =>
    cases e
    obtain ⟨t, rfl⟩ := r
    refine ⟨.tx z t, _, rfl, rfl, ?_, fun _ _ => rfl⟩
    have : ∀ l : List Nat, DtL K cn G (l.map fun c => V.str ⟨#[c]⟩) (l.map fun c => D.str ⟨#[c]⟩) := fun l => by
      induction l with
      | nil => exact .nil
      | cons c l ih => exact .cons (.str _) ih
    exact this _
  | _ => cases e
theorem src_at_inj {H : Hp} {S : Src} {vs ws : List V} (a : S.at H vs) (b : S.at H ws) : vs = ws := by
  cases S with
  | ls _ => have a' : H _ = _ := a; rw [show H _ = _ from b] at a'; cases a'; rfl
  | tp _ => have a' : H _ = _ := a; rw [show H _ = _ from b] at a'; cases a'; rfl
  | tx x t => exact (show vs = _ from a).trans (show ws = _ from b).symm
theorem gives_zip {K : PySem.W.Frag} {G : Hp} {S1 S2 : Src} {vs ws : List V} {ds es : List D} (h1 : ∀ H', Same G H' → S1.at H' vs) (h2 : ∀ H', Same G H' → S2.at H' ws) (t1 : DtL K cn G vs ds) (t2 : DtL K cn G ws es) : Gives K cn (Itg S1 S2) G (zipW ds es) := fun G' H' s1 s2 i => by
  have a1 := h1 H' (s1.trans s2)
  have a2 := h2 H' (s1.trans s2)
  refine ⟨fun d hd => ?_, fun hl => ?_⟩
  · obtain ⟨x, y, hx, hy, rfl⟩ := zipW_get _ _ _ _ hd
    obtain ⟨v, hv, dv⟩ := t1.get hx
    obtain ⟨w, hw, dw⟩ := t2.get hy
    refine ⟨⟨vs, ws, v, w, a1, a2, hv, hw⟩, fun x0 H2 y0 => ?_⟩
    obtain ⟨T, v', w', rfl, hT, rfl, vs', ws', b1, b2, e1, e2⟩ := y0
    have q1 := src_at_inj a1 b1; subst q1
    have q2 := src_at_inj a2 b2; subst q2
    rw [hv] at e1; cases e1
    rw [hw] at e2; cases e2
    have gT := s2.free hT
    exact ⟨_, Stp.new s2 hT, .tup upd_same (.cons (dv.same (s1.trans (same_upd gT))) (.one (dw.same (s1.trans (same_upd gT)))))⟩
  · rw [zipW_len] at hl
    have e1 := t1.length
    have e2 := t2.length
    exact ⟨vs, ws, a1, a2, by omega, by omega, by omega⟩
theorem di_zip (hg : Gl X "zip") (hm : X.mg "zip" = none) (ha : DA X cn W [e, e2] t)
    (hs : starEach [e, e2] X.env = (false, eval e X.env) :: starEach [e2] X.env := by rfl) (hpl : (backTo pos (starEach [e2] X.env)).any (·.1) = false := by rfl) :
    DI X cn W (.Tuple elts kk tpos) (.Call (.Name "zip" p) [e, e2] [] pos) (fIt zipD t) := by
  refine ⟨fun pins s σ H Rr I h => ?_⟩
  have h2 : tA X.K cn W t σ H (fun vs H1 => ∃ G1 ds xs, Same G1 H1 ∧ DtL X.K cn G1 vs ds ∧ zipD ds = some xs ∧ ∀ J, Gives X.K cn J G1 xs → Rr J H1) := tI_of h fun vs ds xs G1 H1 sg hv hx q => ⟨G1, ds, xs, sg, hv, hx, q⟩
  refine Call_ (ld_blt I hg hm PyProof.Rows.boot_zip (PyProof.Rows.callWith_type1 (thn (ha.run pos pins s σ H _ I h2) fun us s1 ⟨vs, H1, I1, r1, G1, ds, xs, sg, hv, hx, q⟩ => ?_) hs hpl))
  unfold zipD at hx
  split at hx
  · rename_i x y
    split at hx
    · rename_i as bs e1 e2'
      cases hx
      cases hv with
      | cons hv1 hv =>
        cases hv with
        | cons hv2 hv =>
          cases hv
          cases r1 with
          | cons ra rr =>
            cases rr with
            | cons rb rr =>
              cases rr
              obtain ⟨S1, v1, rfl, a1, t1, k1⟩ := src_of hv1 e1 ra
              obtain ⟨S2, v2, rfl, a2, t2, k2⟩ := src_of hv2 e2' rb
              obtain ⟨P1, B1, b1⟩ := S1.begins (S1.ok_of I1 (k1 _ sg))
              obtain ⟨P2, B2, b2⟩ := S2.begins (S2.ok_of I1 (k2 _ sg))
              refine zip_begins2 B1 B2 b1 b2 fun h' hz hTI hTO o1 o2 hsz hk => wpAny_pyIter_zip hz ?_
              have I2 : L2.Inv X pins σ H1 { s1 with heap := h' } := I1.kept (t' := s1.toks) hk
              refine ⟨s1.heap.objs.size + 4, [s1.heap.objs.size + 4, s1.heap.objs.size + 2, s1.heap.objs.size + 3, s1.heap.objs.size, s1.heap.objs.size + 1], _, _, H1, rfl, I2, turn_zipG (apart_new _), ⟨hz, hTI, ⟨_, _, hTO⟩, S1.it0 o1, S2.it0 o2⟩, fun c hcm => ?_, q _ (gives_zip k1 k2 t1 t2)⟩
              have hle : s1.heap.objs.size ≤ c := by
                have e' : c = s1.heap.objs.size + 4 ∨ c = s1.heap.objs.size + 2 ∨ c = s1.heap.objs.size + 3 ∨ c = s1.heap.objs.size ∨ c = s1.heap.objs.size + 1 := by simpa using hcm
                rcases e' with z | z | z | z | z <;> (rw [z]; first | exact Nat.le_add_right _ _ | exact Nat.le_refl _)
              exact I1.fpOk hle (I1.hok.fresh hle)
    · cases hx
  · cases hx

/-! ### *e in a display -/
def fStar (f : En → Option R) (t : En → Option RA) : En → Option RA := fun en => match f en with
  | some (.val _ (.lst ds)) => (match t en with
    | some (.vals es) => some (.vals (ds ++ es))
    | x => x)
  | some (.val _ (.tup ds)) => (match t en with
    | some (.vals es) => some (.vals (ds ++ es))
    | x => x)
  | some (.er c d) => some (.er c d)
  | _ => none
theorem da_star {es : List Expr} (he : DE X cn W e f) (hr : DA X cn W es t) (hs : starEach (.Starred e p :: es) X.env = (true, eval e X.env) :: starEach es X.env := by rfl) : DA X cn W (.Starred e p :: es) (fStar f t) := by
  refine PA.imp (StX.pa_star he hr hs) ?_
  rintro σ H Q ⟨G, en, r, sr, e, q⟩
  unfold fStar at e
  have go : ∀ (ds : List D) (vs : List V) (G1 H1 : Hp), Stp G H G1 H1 → DtL X.K cn G1 vs ds → (match t en with | some (.vals es) => some (RA.vals (ds ++ es)) | x => x) = some r → tA X.K cn W t σ H1 fun ys H2 => Q (vs ++ ys) H2 := fun ds vs G1 H1 st h e => by
    cases ht : t en with
    | none => rw [ht] at e; cases e
    | some y =>
      rw [ht] at e
      refine ⟨G1, en, y, sr.step st, ht, ?_⟩
      cases y with
      | vals es => cases e; exact fun ws G2 H2 s2 h2 => q (vs ++ ws) G2 H2 (st.trans s2) ((h.same s2.g).append h2)
      | er c d => cases e; exact fun dx v' G2 H2 s2 => q dx v' G2 H2 (st.trans s2)
  cases hf : f en with
  | none => rw [hf] at e; cases e
  | some x =>
    rw [hf] at e
    refine ⟨G, en, x, sr, hf, ?_⟩
    cases x with
    | er c d => cases e; exact q
    | val kd d =>
      intro v G1 H1 st vi
      cases d with
      | lst ds =>
        obtain ⟨p, vs, rfl, hp, tl⟩ := (vi.db).lst st.sub
        exact ⟨p, vs, rfl, .inr (SqL.of hp), go ds vs G1 H1 st tl e⟩
      | tup ds =>
        obtain ⟨p, vs, rfl, hp, tl⟩ := (vi.db).tup st.sub
        exact ⟨p, vs, rfl, .inl hp, go ds vs G1 H1 st tl e⟩
      | _ => cases e

/-! ### sorted -/
def sortI (ns : List Int) : List Int := ns.mergeSort fun a b => decide (a ≤ b)
theorem sortI_perm (ns : List Int) : (sortI ns).Perm ns := List.mergeSort_perm _ _
theorem sortI_pw (ns : List Int) : (sortI ns).Pairwise (· ≤ ·) := by
  have h := List.pairwise_mergeSort (le := fun a b : Int => decide (a ≤ b)) (fun a b c h1 h2 => by simp at h1 h2 ⊢; omega) (fun a b => by simp; omega) ns
  exact h.imp fun h => by simpa using h
theorem sortI_eq {ns ms : List Int} (hp : ms.Perm ns) (hs : ms.Pairwise (· ≤ ·)) : ms = sortI ns := (hp.trans (sortI_perm ns).symm).eq_of_pairwise (fun x y _ _ h1 h2 => Int.le_antisymm h1 h2) hs (sortI_pw ns)
def sortD : D → Option (Kd × D)
  | .lst ds => (intsOf ds).map fun ns => (.nw, .lst ((sortI ns).map .int))
  | _ => none
theorem sort_ok : CallR X (.builtin "sorted") (rB1 X.K cn sortD) := by
  rintro pins s σ H xs us Q I r ⟨x, rfl, G, dx, k, d, sg, hx, e, q⟩
  cases dx with
  | lst ds =>
    obtain ⟨ns, hb, e⟩ := Option.map_eq_some_iff.mp e
    cases e
    obtain ⟨p, vs, rfl, hp, t⟩ := hx.lst sg
    rw [intsOf_eq hb] at t
    have h := DtL.ints_inv ns t; subst h
    refine cr_sortedI pins s σ H _ us Q I r ⟨p, ns, rfl, SqL.of hp, fun ms l h1 h2 hl => ?_⟩
    rw [sortI_eq h1 h2]
    exact q (.ref l) G _ (Stp.hid sg hl) ⟨l, rfl, hl, sg.free hl, _, upd_same, .ints _⟩
  | _ => cases e

/-! ### a written dict of texts -/
def tabD (tab : List (Str × Str)) : D → Option (Kd × D)
  | .str z => (tab.lookup z).map fun v => (.sh, .str v)
  | _ => none
theorem de_tab {a b : Expr} {fb : En → Option R} {pd : Addr} {tab : List (Str × Str)} (hm : PE X a (tC (.ref pd))) (hk : ∀ z v, tab.lookup z = some v → KDct X.K X.w pd z (.str v)) (hb : DE X cn W b fb) (hs : PlainIx b := by intro _ _; rfl) :
    DE X cn W (.Subscript a b pos) (fUn (tabD tab) fb) := PE.imp (pe_ix ix_kdict hm hb hs) fun σ H Q ⟨G, en, r, sr, e, q⟩ => by
  show tD X.K cn W fb σ H _
  refine ev_bind sr e q fun x dx G1 H1 s1 sr1 hx e1 q1 => ?_
  obtain ⟨k, d, e3, rfl⟩ := lf_some e1
  cases dx with
  | str z =>
    obtain ⟨v, hv, e4⟩ := Option.map_eq_some_iff.mp e3
    cases e4
    exact ⟨pd, z, .str v, rfl, hx.str, hk z v hv, q1 _ G1 H1 (Stp.refl sr1.sub) (.str _)⟩
  | _ => cases e3
theorem look_all {K : PySem.W.Frag} {w : World} {pd : Addr} : ∀ {tab : List (Str × Str)}, (∀ p ∈ tab, KDct K w pd p.1 (.str p.2)) → ∀ z v, tab.lookup z = some v → KDct K w pd z (.str v)
  | [], _, z, v, e => by cases e
  | (a, b) :: r, h, z, v, e => by
    rw [List.lookup_cons] at e
    split at e
    · rename_i hz
      cases e
      rw [eq_of_beq hz]
      exact h (a, _) List.mem_cons_self
    · exact look_all (fun p hp => h p (List.mem_cons_of_mem _ hp)) z v e
end
end PD
namespace C
open PySem L2 PD
def b_Lfigure : En → Option Out := fSeq (fSh 2 (fC (.int 0))) (fSeq (fIfS (fun en => tB1 ((fOp ltD (fVar 1) (fUn lenD (fVar 0))) en)) (fSh 2 (fOp ixD (fVar 0) (fVar 1))) (fNx)) (fSeq (fIfS (fun en => tB1 ((fOp ltD (fVar 2) (fC (.int 0))) en)) (fSh 2 (fOp subD (fUn negD (fC (.int 1))) (fOp mulD (fC (.int 2)) (fVar 2)))) (fNx)) (fRet (fOp modD (fUn intD (fVar 2)) (fOp mulD (fOp mulD (fOp powD (fC (.int 10)) (fC (.int 60))) (fOp powD (fC (.int 10)) (fC (.int 60)))) (fOp powD (fC (.int 10)) (fC (.int 60))))))))
def F_Lfigure : List D → Option R := runF b_Lfigure 3
def b_Ldraws : En → Option Out := fSeq (fSh 3 (fCall F_Lfigure 2 (fCons (fVar 0) (fCons (fVar 1) (fNil))))) (fSeq (fSh 4 (fOp subD (fVar 3) (fOp powD (fC (.int 10)) (fC (.int 18))))) (fSeq (fSet 5 (fLst (fNil))) (fSeq (fFor (fIt rng1D (fCons (fUn lenD (fVar 2)) (fNil))) (hName 6) (fSeq (fSh 7 (fOp modD (fUn intD (fOp addD (fOp addD (fOp mulD (fVar 3) (fOp addD (fC (.int 30011)) (fOp mulD (fOp mulD (fC (.int 2)) (fVar 6)) (fVar 6)))) (fOp mulD (fOp addD (fVar 6) (fC (.int 5))) (fC (.int 86028121)))) (fOp mulD (fVar 1) (fC (.int 15485863))))) (fC (.int 2147483587)))) (fSeq (fSh 7 (fOp fdivD (fOp modD (fUn intD (fOp addD (fOp addD (fOp mulD (fVar 7) (fVar 7)) (fOp mulD (fC (.int 611953)) (fVar 6))) (fVar 3))) (fC (.int 2147483549))) (fC (.int 11)))) (fSeq (fIfS (fun en => tB1 ((fOp geD (fVar 3) (fOp powD (fC (.int 10)) (fC (.int 18)))) en)) (fSeq (fSh 7 (fVar 4)) (fSh 4 (fOp fdivD (fVar 4) (fOp ixD (fVar 2) (fVar 6))))) (fNx)) (fApp 5 (fOp modD (fUn intD (fVar 7)) (fOp ixD (fVar 2) (fVar 6)))))))) (fRetV 5))))
def F_Ldraws : List D → Option R := runF b_Ldraws 8
def b_Lnames : En → Option Out := fSeq (fSh 3 (fC (.str "abcdefghijklmnopqrstuvwxyz"))) (fSeq (fSh 4 (fCall F_Ldraws 3 (fCons (fVar 0) (fCons (fVar 1) (fCons (fOp addD (fLst (fCons (fC (.int 4)) (fNil))) (fOp mulD (fLst (fCons (fC (.int 6)) (fCons (fC (.int 26)) (fCons (fC (.int 26)) (fCons (fC (.int 26)) (fCons (fC (.int 26)) (fCons (fC (.int 26)) (fCons (fC (.int 26)) (fNil))))))))) (fVar 2))) (fNil)))))) (fSeq (fSet 5 (fLst (fNil))) (fSeq (fFor (fIt rng1D (fCons (fVar 2) (fNil))) (hName 6) (fSeq (fSh 7 (fSl (fVar 4) (some (fOp addD (fC (.int 2)) (fOp mulD (fC (.int 7)) (fVar 6)))) (some (fOp addD (fOp addD (fC (.int 3)) (fOp mulD (fC (.int 7)) (fVar 6))) (fOp ixD (fVar 4) (fOp addD (fC (.int 1)) (fOp mulD (fC (.int 7)) (fVar 6)))))))) (fSeq (fIfS (fun en => tB1 ((fOp eqD (fOp ixD (fVar 4) (fC (.int 0))) (fC (.int 1))) en)) (fSh 7 (fLc (fItems (fVar 7)) (hName 10) (fYes) (fOp modD (fUn intD (fVar 10)) (fC (.int 2))) [10])) (fNx)) (fSeq (fSh 8 (fSm joinD (fC (.str "")) (fLc (fItems (fVar 7)) (hName 10) (fYes) (fOp ixD (fVar 3) (fVar 10)) [10]))) (fSeq (fFor (fIt rng1D (fCons (fC (.int 26)) (fNil))) (hName 9) (fIfS (fun en => tB1 ((fOp inD (fVar 8) (fVar 5)) en)) (fSh 8 (fOp addD (fOp ixD (fVar 3) (fOp modD (fUn intD (fOp addD (fOp addD (fOp ixD (fVar 7) (fC (.int 0))) (fVar 9)) (fC (.int 1)))) (fC (.int 26)))) (fSl (fVar 8) (some (fC (.int 1))) none))) (fNx))) (fApp 5 (fVar 8))))))) (fRetV 5))))
def F_Lnames : List D → Option R := runF b_Lnames 11
def b_Lrow : En → Option Out := fSeq (fSh 5 (fCall F_Ldraws 3 (fCons (fVar 0) (fCons (fVar 1) (fCons (fOp addD (fLst (fCons (fC (.int 4)) (fCons (fVar 3) (fCons (fVar 4) (fNil))))) (fOp mulD (fLst (fCons (fC (.int 2)) (fCons (fVar 4) (fNil)))) (fVar 3))) (fNil)))))) (fSeq (fSh 6 (fLc (fIt rng1D (fCons (fVar 3) (fNil))) (hName 8) (fun en => tB1 ((fOp eqD (fOp ixD (fVar 5) (fOp addD (fC (.int 3)) (fOp mulD (fC (.int 2)) (fVar 8)))) (fC (.int 1))) en)) (fTup (fCons (fOp addD (fVar 2) (fVar 8)) (fCons (fOp ixD (fVar 5) (fOp addD (fC (.int 4)) (fOp mulD (fC (.int 2)) (fVar 8)))) (fNil)))) [8])) (fSeq (fIfS (fun en => tB1 ((fOp eqD (fVar 6) (fLst (fNil))) en)) (fSh 6 (fLst (fCons (fTup (fCons (fOp addD (fVar 2) (fOp ixD (fVar 5) (fC (.int 1)))) (fCons (fOp ixD (fVar 5) (fC (.int 2))) (fNil)))) (fNil)))) (fNx)) (fSeq (fIfS (fun en => tB1 ((fOp eqD (fOp ixD (fVar 5) (fC (.int 0))) (fC (.int 1))) en)) (fSh 6 (fUn revD (fVar 6))) (fNx)) (fSeq (fIfS (fun en => tB1 ((fOp eqD (fOp ixD (fVar 5) (fC (.int 0))) (fC (.int 2))) en)) (fSh 6 (fOp addD (fSl (fVar 6) (some (fC (.int 1))) none) (fSl (fVar 6) none (some (fC (.int 1)))))) (fNx)) (fSeq (fIfS (fun en => tB1 ((fOp eqD (fOp ixD (fVar 5) (fC (.int 0))) (fC (.int 3))) en)) (fSeq (fSh 7 (fUn sortD (fLc (fItems (fVar 6)) (hName 9) (fYes) (fOp ixD (fVar 9) (fC (.int 1))) [9]))) (fSh 6 (fLc (fIt rng1D (fCons (fUn lenD (fVar 6)) (fNil))) (hName 8) (fYes) (fTup (fCons (fOp ixD (fOp ixD (fVar 6) (fVar 8)) (fC (.int 0))) (fCons (fOp ixD (fVar 7) (fVar 8)) (fNil)))) [8]))) (fNx)) (fRetV 6))))))
def F_Lrow : List D → Option R := runF b_Lrow 10
def b_Lparts : En → Option Out := fSeq (fSh 2 (fCall F_Ldraws 3 (fCons (fVar 0) (fCons (fVar 1) (fCons (fOp addD (fOp addD (fLst (fCons (fC (.int 4)) (fCons (fC (.int 3)) (fCons (fC (.int 4)) (fCons (fC (.int 2)) (fCons (fC (.int 3)) (fNil))))))) (fOp mulD (fLst (fCons (fC (.int 11)) (fNil))) (fC (.int 3)))) (fOp mulD (fLst (fCons (fC (.int 9)) (fNil))) (fC (.int 2)))) (fNil)))))) (fSeq (fSh 3 (fCall F_Lnames 3 (fCons (fVar 0) (fCons (fOp addD (fVar 1) (fC (.int 1))) (fCons (fC (.int 8)) (fNil)))))) (fSeq (fSet 4 (fDct0)) (fSeq (fFor (fIt rng1D (fCons (fOp ixD (fVar 2) (fC (.int 0))) (fNil))) (hName 5) (fPut 4 (fOp ixD (fVar 3) (fVar 5)) (fOp subD (fOp ixD (fVar 2) (fOp addD (fC (.int 5)) (fVar 5))) (fC (.int 4))))) (fSeq (fSet 6 (fDct0)) (fSeq (fFor (fIt rng1D (fCons (fOp ixD (fVar 2) (fC (.int 1))) (fNil))) (hName 5) (fPut 6 (fOp ixD (fVar 3) (fOp addD (fC (.int 3)) (fVar 5))) (fOp subD (fOp ixD (fVar 2) (fOp addD (fC (.int 8)) (fVar 5))) (fC (.int 2))))) (fSeq (fSet 7 (fDct0)) (fSeq (fFor (fIt rng1D (fCons (fOp ixD (fVar 2) (fC (.int 2))) (fNil))) (hName 5) (fPut 7 (fOp ixD (fVar 3) (fOp addD (fC (.int 5)) (fVar 5))) (fCall F_Lrow 5 (fCons (fVar 0) (fCons (fOp addD (fOp addD (fVar 1) (fC (.int 2))) (fVar 5)) (fCons (fUn negD (fC (.int 6))) (fCons (fC (.int 15)) (fCons (fOp subD (fC (.int 4)) (fOp ixD (fVar 2) (fC (.int 3)))) (fNil))))))))) (fSeq (fIfS (fAndT (fun en => tB1 ((fOp gtD (fOp ixD (fVar 2) (fC (.int 2))) (fC (.int 1))) en)) (fun en => tB1 ((fOp eqD (fOp ixD (fVar 2) (fC (.int 3))) (fC (.int 1))) en))) (fSeq (fSet 8 (fLc (fItems (fOp ixD (fVar 7) (fOp ixD (fVar 3) (fC (.int 5))))) (hTL 2 (hCons (hName 10) (hCons (hName 11) (hNil)))) (fYes) (fTup (fCons (fVar 10) (fCons (fOp addD (fVar 11) (fOp ixD (fVar 2) (fC (.int 4)))) (fNil)))) [10, 11])) (fSeq (fPut 8 (fOp modD (fUn intD (fOp ixD (fVar 2) (fC (.int 5)))) (fUn lenD (fVar 8))) (fOp ixD (fOp ixD (fVar 7) (fOp ixD (fVar 3) (fC (.int 6)))) (fC (.int 0)))) (fFrz 8 (fSeq (fSh 9 (fLc (fItems (fVar 8)) (hName 12) (fYes) (fOp ixD (fVar 12) (fC (.int 0))) [12])) (fPut 7 (fOp ixD (fVar 3) (fC (.int 6))) (fLc (fIt rng1D (fCons (fUn lenD (fVar 8)) (fNil))) (hName 5) (fun en => tB1 ((fOp notInD (fOp ixD (fOp ixD (fVar 8) (fVar 5)) (fC (.int 0))) (fSl (fVar 9) none (some (fVar 5)))) en)) (fOp ixD (fVar 8) (fVar 5)) [5])))))) (fNx)) (fFrz 4 (fFrz 6 (fFrz 7 (fRet (fTup (fCons (fVar 4) (fCons (fVar 6) (fCons (fVar 7) (fNil)))))))))))))))))
def F_Lparts : List D → Option R := runF b_Lparts 13
def b_Llong : En → Option Out := fSeq (fSh 3 (fCall F_Ldraws 3 (fCons (fVar 0) (fCons (fVar 1) (fCons (fOp mulD (fLst (fCons (fC (.int 31)) (fCons (fC (.int 2)) (fCons (fOp powD (fC (.int 10)) (fC (.int 8))) (fCons (fOp powD (fC (.int 10)) (fC (.int 8))) (fCons (fOp powD (fC (.int 10)) (fC (.int 8))) (fCons (fOp powD (fC (.int 10)) (fC (.int 8))) (fNil)))))))) (fVar 2)) (fNil)))))) (fSeq (fSet 4 (fLst (fNil))) (fSeq (fFor (fIt rng1D (fCons (fVar 2) (fNil))) (hName 5) (fSeq (fSh 6 (fC (.int 1))) (fSeq (fFor (fIt rng1D (fCons (fOp ixD (fVar 3) (fOp mulD (fC (.int 6)) (fVar 5))) (fNil))) (hName 7) (fSh 6 (fOp mulD (fVar 6) (fC (.int 10))))) (fSeq (fSh 8 (fC (.int 0))) (fSeq (fFor (fItems (fSl (fVar 3) (some (fOp addD (fOp mulD (fC (.int 6)) (fVar 5)) (fC (.int 2)))) (some (fOp addD (fOp mulD (fC (.int 6)) (fVar 5)) (fC (.int 6)))))) (hName 9) (fSh 8 (fOp addD (fOp mulD (fVar 8) (fOp powD (fC (.int 10)) (fC (.int 8)))) (fVar 9)))) (fSeq (fSh 8 (fOp modD (fUn intD (fVar 8)) (fVar 6))) (fApp 4 (fIf (fun en => tB1 ((fOp eqD (fOp ixD (fVar 3) (fOp addD (fOp mulD (fC (.int 6)) (fVar 5)) (fC (.int 1)))) (fC (.int 1))) en)) (fUn negD (fVar 8)) (fVar 8))))))))) (fRetV 4)))
def F_Llong : List D → Option R := runF b_Llong 10
def b_Lscale : En → Option Out := fSeq (fSh 2 (fCall F_Ldraws 3 (fCons (fVar 0) (fCons (fVar 1) (fCons (fLst (fCons (fC (.int 4)) (fCons (fOp powD (fC (.int 10)) (fC (.int 8))) (fCons (fOp powD (fC (.int 10)) (fC (.int 6))) (fCons (fOp powD (fC (.int 10)) (fC (.int 8))) (fCons (fOp powD (fC (.int 10)) (fC (.int 6))) (fNil))))))) (fNil)))))) (fSeq (fSh 3 (fCall F_Llong 3 (fCons (fVar 0) (fCons (fOp addD (fVar 1) (fC (.int 1))) (fCons (fC (.int 2)) (fNil)))))) (fSeq (fIfS (fun en => tB1 ((fOp eqD (fOp ixD (fVar 2) (fC (.int 0))) (fC (.int 0))) en)) (fRet (fTup (fCons (fC (.int 1)) (fCons (fC (.int 0)) (fCons (fC (.int 1)) (fCons (fC (.int 0)) (fNil))))))) (fNx)) (fSeq (fIfS (fun en => tB1 ((fOp eqD (fOp ixD (fVar 2) (fC (.int 0))) (fC (.int 1))) en)) (fRet (fTup (fCons (fC (.int 1)) (fCons (fOp fdivD (fOp ixD (fVar 3) (fC (.int 0))) (fC (.int 10))) (fCons (fC (.int 1)) (fCons (fOp fdivD (fOp ixD (fVar 3) (fC (.int 1))) (fC (.int 10))) (fNil))))))) (fNx)) (fRet (fTup (fCons (fOp addD (fC (.int 1)) (fOp mulD (fOp ixD (fVar 2) (fC (.int 1))) (fOp ixD (fVar 2) (fC (.int 2))))) (fCons (fOp fdivD (fOp ixD (fVar 3) (fC (.int 0))) (fC (.int 10))) (fCons (fOp addD (fC (.int 1)) (fOp mulD (fOp ixD (fVar 2) (fC (.int 3))) (fOp ixD (fVar 2) (fC (.int 4))))) (fCons (fOp fdivD (fOp ixD (fVar 3) (fC (.int 1))) (fC (.int 10))) (fNil))))))))))
def F_Lscale : List D → Option R := runF b_Lscale 4
def b_Lsums : En → Option Out := fSeq (fSet 4 (fLst (fNil))) (fSeq (fFor (fIt rng1D (fCons (fC (.int 2)) (fNil))) (hName 5) (fSeq (fSh 6 (fOp addD (fLst (fCons (fC (.str "")) (fNil))) (fVar 2))) (fSeq (fAsg (hTL 5 (hCons (hName 8) (hCons (hName 9) (hCons (hName 10) (hCons (hName 11) (hCons (hName 12) (hNil))))))) (fSl (fVar 0) (some (fOp mulD (fC (.int 5)) (fVar 5))) (some (fOp addD (fOp mulD (fC (.int 5)) (fVar 5)) (fC (.int 5)))))) (fSeq (fSh 7 (fTup (fCons (fOp ixD (fVar 6) (fOp modD (fUn intD (fVar 9)) (fUn lenD (fVar 6)))) (fCons (fOp subD (fVar 10) (fC (.int 4))) (fNil))))) (fSeq (fIfS (fAndT (fun en => tB1 ((fOp eqD (fVar 8) (fC (.int 1))) en)) (fun en => tB1 ((fOp gtD (fUn lenD (fVar 3)) (fC (.int 0))) en))) (fSh 7 (fTup (fCons (fOp ixD (fVar 3) (fOp modD (fUn intD (fVar 9)) (fUn lenD (fVar 3)))) (fCons (fTup (fCons (fOp ixD (fVar 1) (fOp modD (fUn intD (fVar 11)) (fUn lenD (fVar 1)))) (fCons (fOp subD (fVar 12) (fC (.int 4))) (fNil)))) (fCons (fOp subD (fVar 10) (fC (.int 4))) (fNil)))))) (fNx)) (fApp 4 (fVar 7))))))) (fRetV 4))
def F_Lsums : List D → Option R := runF b_Lsums 13
def b_Lsaying : En → Option Out := fSeq (fAsg (hTL 3 (hCons (hName 12) (hCons (hName 13) (hCons (hName 14) (hNil))))) (fLc (fItems (fVar 2)) (hName 15) (fYes) (fUn listD (fVar 15)) [15])) (fSeq (fSh 3 (fCall F_Ldraws 3 (fCons (fVar 0) (fCons (fVar 1) (fCons (fOp addD (fOp addD (fOp addD (fLst (fCons (fC (.int 7)) (fNil))) (fOp mulD (fLst (fCons (fC (.int 12)) (fCons (fC (.int 9)) (fCons (fC (.int 5)) (fNil))))) (fC (.int 4)))) (fOp mulD (fLst (fCons (fC (.int 2)) (fCons (fC (.int 12)) (fCons (fC (.int 9)) (fCons (fC (.int 12)) (fCons (fC (.int 9)) (fNil))))))) (fC (.int 2)))) (fLst (fCons (fC (.int 6)) (fCons (fC (.int 6)) (fCons (fC (.int 9)) (fNil)))))) (fNil)))))) (fSeq (fSh 4 (fOp addD (fLst (fCons (fC (.str "")) (fNil))) (fVar 12))) (fSeq (fSh 5 (fLc (fIt rng1D (fCons (fC (.int 4)) (fNil))) (hName 16) (fYes) (fTup (fCons (fOp ixD (fVar 4) (fOp modD (fUn intD (fOp ixD (fVar 3) (fOp addD (fC (.int 1)) (fOp mulD (fC (.int 3)) (fVar 16))))) (fUn lenD (fVar 4)))) (fCons (fOp subD (fOp ixD (fVar 3) (fOp addD (fC (.int 2)) (fOp mulD (fC (.int 3)) (fVar 16)))) (fC (.int 4))) (fNil)))) [16])) (fSeq (fSh 6 (fLc (fIt rng1D (fCons (fC (.int 4)) (fNil))) (hName 16) (fYes) (fIf (fun en => tB1 ((fOp eqD (fOp ixD (fVar 3) (fOp addD (fC (.int 3)) (fOp mulD (fC (.int 3)) (fVar 16)))) (fC (.int 0))) en)) (fC .non) (fOp ixD (fVar 5) (fVar 16))) [16])) (fSeq (fSh 7 (fCall F_Lsums 4 (fCons (fSl (fVar 3) (some (fC (.int 13))) (some (fC (.int 23)))) (fCons (fVar 4) (fCons (fVar 13) (fCons (fVar 14) (fNil))))))) (fSeq (fSh 8 (fLst (fCons (fTup (fCons (fC (.str "place")) (fCons (fOp ixD (fVar 5) (fC (.int 0))) (fCons (fOp ixD (fVar 5) (fC (.int 1))) (fNil))))) (fCons (fTup (fCons (fC (.str "value")) (fCons (fOp ixD (fVar 7) (fC (.int 0))) (fCons (fOp ixD (fVar 7) (fC (.int 1))) (fNil))))) (fNil))))) (fSeq (fIfS (fun en => tB1 ((fOp eqD (fUn lenD (fVar 14)) (fC (.int 0))) en)) (fRet (fOp ixD (fVar 8) (fOp modD (fUn intD (fOp ixD (fVar 3) (fC (.int 0)))) (fC (.int 2))))) (fNx)) (fSeq (fSh 9 (fOp ixD (fVar 14) (fOp modD (fUn intD (fOp ixD (fVar 3) (fC (.int 23)))) (fUn lenD (fVar 14))))) (fSeq (fSh 10 (fOp ixD (fVar 14) (fOp modD (fUn intD (fOp ixD (fVar 3) (fC (.int 24)))) (fUn lenD (fVar 14))))) (fSeq (fSh 11 (fOp addD (fVar 8) (fLst (fCons (fTup (fCons (fC (.str "rising")) (fCons (fVar 9) (fCons (fOp ixD (fVar 6) (fC (.int 0))) (fCons (fOp ixD (fVar 6) (fC (.int 1))) (fNil)))))) (fNil))))) (fSeq (fSh 11 (fOp addD (fVar 11) (fLst (fCons (fTup (fCons (fC (.str "low")) (fCons (fVar 9) (fCons (fOp ixD (fVar 6) (fC (.int 0))) (fCons (fOp ixD (fVar 6) (fC (.int 1))) (fCons (fOp ixD (fVar 7) (fC (.int 0))) (fNil))))))) (fCons (fTup (fCons (fC (.str "high")) (fCons (fVar 9) (fCons (fOp ixD (fVar 6) (fC (.int 0))) (fCons (fOp ixD (fVar 6) (fC (.int 1))) (fCons (fOp ixD (fVar 7) (fC (.int 0))) (fNil))))))) (fNil)))))) (fSeq (fSh 11 (fOp addD (fVar 11) (fLst (fCons (fTup (fCons (fC (.str "below")) (fCons (fVar 9) (fCons (fOp ixD (fVar 6) (fC (.int 0))) (fCons (fOp ixD (fVar 6) (fC (.int 1))) (fCons (fVar 10) (fCons (fOp ixD (fVar 6) (fC (.int 2))) (fCons (fOp ixD (fVar 6) (fC (.int 3))) (fCons (fOp subD (fOp ixD (fVar 3) (fC (.int 25))) (fC (.int 4))) (fNil)))))))))) (fNil))))) (fSeq (fSh 11 (fOp addD (fVar 11) (fLst (fCons (fTup (fCons (fC (.str "same")) (fCons (fVar 9) (fCons (fVar 10) (fCons (fOp ixD (fVar 6) (fC (.int 0))) (fCons (fOp ixD (fVar 6) (fC (.int 1))) (fCons (fOp subD (fOp ixD (fVar 3) (fC (.int 25))) (fC (.int 4))) (fNil)))))))) (fNil))))) (fRet (fOp ixD (fVar 11) (fOp ixD (fVar 3) (fC (.int 0))))))))))))))))))
def F_Lsaying : List D → Option R := runF b_Lsaying 17
def b_Lscaled_term (F_Lscaled_term : List D → Option R) : En → Option Out := fSeq (fIfS (fun en => tB1 ((fOp isND (fVar 0) (fC .non)) en)) (fRet (fC .non)) (fNx)) (fSeq (fIfS (fun en => tB1 ((fOp eqD (fUn lenD (fVar 0)) (fC (.int 3))) en)) (fRet (fTup (fCons (fOp ixD (fVar 0) (fC (.int 0))) (fCons (fCall F_Lscaled_term 3 (fCons (fOp ixD (fVar 0) (fC (.int 1))) (fCons (fVar 1) (fCons (fC (.int 0)) (fNil))))) (fCons (fOp mulD (fOp ixD (fVar 0) (fC (.int 2))) (fOp ixD (fVar 1) (fC (.int 2)))) (fNil)))))) (fNx)) (fSeq (fSh 3 (fOp mulD (fOp ixD (fVar 0) (fC (.int 1))) (fOp ixD (fVar 1) (fOp mulD (fC (.int 2)) (fVar 2))))) (fSeq (fIfS (fun en => tB1 ((fOp eqD (fOp ixD (fVar 0) (fC (.int 0))) (fC (.str ""))) en)) (fSh 3 (fOp addD (fVar 3) (fOp ixD (fVar 1) (fOp addD (fOp mulD (fC (.int 2)) (fVar 2)) (fC (.int 1)))))) (fNx)) (fRet (fTup (fCons (fOp ixD (fVar 0) (fC (.int 0))) (fCons (fVar 3) (fNil))))))))
def G_Lscaled_term : Nat → List D → Option R
  | 0 => fun _ => none
  | n + 1 => runF (b_Lscaled_term (G_Lscaled_term n)) 4
def F_Lscaled_term : List D → Option R := G_Lscaled_term 8
def b_Lscaled_saying : En → Option Out := fSeq (fIfS (fun en => tB1 ((fOp eqD (fOp ixD (fVar 0) (fC (.int 0))) (fC (.str "place"))) en)) (fRet (fTup (fCons (fC (.str "place")) (fCons (fCall F_Lscaled_term 3 (fCons (fOp ixD (fVar 0) (fC (.int 1))) (fCons (fVar 1) (fCons (fC (.int 0)) (fNil))))) (fCons (fCall F_Lscaled_term 3 (fCons (fOp ixD (fVar 0) (fC (.int 2))) (fCons (fVar 1) (fCons (fC (.int 0)) (fNil))))) (fNil)))))) (fNx)) (fSeq (fIfS (fun en => tB1 ((fOp eqD (fOp ixD (fVar 0) (fC (.int 0))) (fC (.str "value"))) en)) (fRet (fTup (fCons (fC (.str "value")) (fCons (fCall F_Lscaled_term 3 (fCons (fOp ixD (fVar 0) (fC (.int 1))) (fCons (fVar 1) (fCons (fC (.int 1)) (fNil))))) (fCons (fCall F_Lscaled_term 3 (fCons (fOp ixD (fVar 0) (fC (.int 2))) (fCons (fVar 1) (fCons (fC (.int 1)) (fNil))))) (fNil)))))) (fNx)) (fSeq (fSet 2 (fLst (fNil))) (fSeq (fFor (fItems (fVar 0)) (hName 3) (fIfS (fun en => truR ((fUn (isiD "int") (fVar 3)) en)) (fApp 2 (fOp mulD (fVar 3) (fOp ixD (fVar 1) (fC (.int 2))))) (fIfS (fun en => truR ((fUn (isiD "str") (fVar 3)) en)) (fApp 2 (fVar 3)) (fApp 2 (fCall F_Lscaled_term 3 (fCons (fVar 3) (fCons (fVar 1) (fCons (fC (.int 0)) (fNil))))))))) (fSeq (fIfS (fun en => tB1 ((fOp inD (fOp ixD (fVar 0) (fC (.int 0))) (fTup (fCons (fC (.str "low")) (fCons (fC (.str "high")) (fNil))))) en)) (fPut 2 (fC (.int 4)) (fCall F_Lscaled_term 3 (fCons (fOp ixD (fVar 0) (fC (.int 4))) (fCons (fVar 1) (fCons (fC (.int 1)) (fNil)))))) (fNx)) (fRet (fUn tupD (fVar 2)))))))
def F_Lscaled_saying : List D → Option R := runF b_Lscaled_saying 4
def b_Lsame (F_Lsame : List D → Option R) : En → Option Out := fSeq (fIfS (fun en => tB1 ((fOp isND (fVar 1) (fC .non)) en)) (fRet (fOp isND (fVar 0) (fC .non))) (fNx)) (fSeq (fIfS (fOrT (fun en => truR ((fUn (isiD "bool") (fVar 1)) en)) (fun en => truR ((fUn (isiD "bool") (fVar 0)) en))) (fRet (fAndV (fUn (isiD "bool") (fVar 1)) (fAndV (fUn (isiD "bool") (fVar 0)) (fOp eqD (fVar 0) (fVar 1))))) (fNx)) (fSeq (fIfS (fun en => truR ((fUn (isiD "int") (fVar 1)) en)) (fRet (fAndV (fUn (isiD "int") (fVar 0)) (fOp eqD (fVar 0) (fVar 1)))) (fNx)) (fSeq (fIfS (fun en => truR ((fUn (isiD "str") (fVar 1)) en)) (fRet (fAndV (fUn (isiD "str") (fVar 0)) (fOp eqD (fVar 0) (fVar 1)))) (fNx)) (fSeq (fIfS (fun en => truR ((fUn (isiD "dict") (fVar 1)) en)) (fSeq (fIfS (fOrT (fNotT (fun en => truR ((fUn (isiD "dict") (fVar 0)) en))) (fun en => tB1 ((fOp neD (fUn lenD (fVar 0)) (fUn lenD (fVar 1))) en))) (fRet (fC (.bl false))) (fNx)) (fRet (fUn allD (fLc (fItems (fVar 1)) (hName 2) (fYes) (fAndV (fOp inD (fVar 2) (fVar 0)) (fCall F_Lsame 2 (fCons (fOp ixD (fVar 0) (fVar 2)) (fCons (fOp ixD (fVar 1) (fVar 2)) (fNil))))) [2])))) (fNx)) (fSeq (fIfS (fOrT (fun en => tB1 ((fOp neD (fUn (isiD "list") (fVar 1)) (fUn (isiD "list") (fVar 0))) en)) (fun en => tB1 ((fOp neD (fUn (isiD "tuple") (fVar 1)) (fUn (isiD "tuple") (fVar 0))) en))) (fRet (fC (.bl false))) (fNx)) (fSeq (fIfS (fun en => tB1 ((fOp neD (fUn lenD (fVar 0)) (fUn lenD (fVar 1))) en)) (fRet (fC (.bl false))) (fNx)) (fRet (fUn allD (fLc (fIt rng1D (fCons (fUn lenD (fVar 1)) (fNil))) (hName 3) (fYes) (fCall F_Lsame 2 (fCons (fOp ixD (fVar 0) (fVar 3)) (fCons (fOp ixD (fVar 1) (fVar 3)) (fNil)))) [3])))))))))
def G_Lsame : Nat → List D → Option R
  | 0 => fun _ => none
  | n + 1 => runF (b_Lsame (G_Lsame n)) 4
def F_Lsame : List D → Option R := G_Lsame 8
end C
/-! PDM: reckoning with data functions: what they yield, step by step. -/
namespace PD
open PySem L2

def wR (r : Option R) (Q : R → Prop) : Prop := ∃ x, r = some x ∧ Q x
def wB (r : Option RB) (Q : RB → Prop) : Prop := ∃ x, r = some x ∧ Q x
def wA (r : Option RA) (Q : RA → Prop) : Prop := ∃ x, r = some x ∧ Q x
def wO (r : Option Out) (Q : Out → Prop) : Prop := ∃ x, r = some x ∧ Q x
def wG (r : Option (Kd × D)) (Q : Kd → D → Prop) : Prop := ∃ k d, r = some (k, d) ∧ Q k d
/-- a value, or the same error -/
def onV (Q : R → Prop) (K : Kd → D → Prop) : R → Prop
  | .val k d => K k d
  | .er c d => Q (.er c d)
/-- .. in a statement -/
def onS (en : En) (Q : Out → Prop) (K : Kd → D → Prop) : R → Prop
  | .val k d => K k d
  | .er c d => Q (.er en c d)
def onB (en : En) (Q : Out → Prop) (K : Bool → Prop) : RB → Prop
  | .b b => K b
  | .er c d => Q (.er en c d)
def onBR (Q : R → Prop) (K : Bool → Prop) : RB → Prop
  | .b b => K b
  | .er c d => Q (.er c d)
def onA (Q : R → Prop) (K : List D → Prop) : RA → Prop
  | .vals ds => K ds
  | .er c d => Q (.er c d)
def onVB (Q : RB → Prop) (K : Kd → D → Prop) : R → Prop
  | .val k d => K k d
  | .er c d => Q (.er c d)
def onVA (Q : RA → Prop) (K : Kd → D → Prop) : R → Prop
  | .val k d => K k d
  | .er c d => Q (.er c d)
def onAA (Q : RA → Prop) (K : List D → Prop) : RA → Prop
  | .vals ds => K ds
  | .er c d => Q (.er c d)
def onAO (en : En) (Q : Out → Prop) (K : List D → Prop) : RA → Prop
  | .vals ds => K ds
  | .er c d => Q (.er en c d)
def onBB (Q : RB → Prop) (K : Bool → Prop) : RB → Prop
  | .b b => K b
  | .er c d => Q (.er c d)
/-- behind a statement -/
def onO (Q : Out → Prop) (K : En → Prop) : Out → Prop
  | .nx en => K en
  | o => Q o
theorem onV_v {Q K k d} : onV Q K (.val k d) = K k d := rfl
theorem onV_e {Q K c d} : onV Q K (.er c d) = Q (.er c d) := rfl
theorem onS_v {en Q K k d} : onS en Q K (.val k d) = K k d := rfl
theorem onS_e {en Q K c d} : onS en Q K (.er c d) = Q (.er en c d) := rfl
theorem onB_v {en Q K b} : onB en Q K (.b b) = K b := rfl
theorem onB_e {en Q K c d} : onB en Q K (.er c d) = Q (.er en c d) := rfl
theorem onBR_v {Q K b} : onBR Q K (.b b) = K b := rfl
theorem onBR_e {Q K c d} : onBR Q K (.er c d) = Q (.er c d) := rfl
theorem onA_v {Q K ds} : onA Q K (.vals ds) = K ds := rfl
theorem onA_e {Q K c d} : onA Q K (.er c d) = Q (.er c d) := rfl
theorem onVB_v {Q K k d} : onVB Q K (.val k d) = K k d := rfl
theorem onVB_e {Q K c d} : onVB Q K (.er c d) = Q (.er c d) := rfl
theorem onVA_v {Q K k d} : onVA Q K (.val k d) = K k d := rfl
theorem onVA_e {Q K c d} : onVA Q K (.er c d) = Q (.er c d) := rfl
theorem onAA_v {Q K ds} : onAA Q K (.vals ds) = K ds := rfl
theorem onAA_e {Q K c d} : onAA Q K (.er c d) = Q (.er c d) := rfl
theorem onAO_v {en Q K ds} : onAO en Q K (.vals ds) = K ds := rfl
theorem onAO_e {en Q K c d} : onAO en Q K (.er c d) = Q (.er en c d) := rfl
theorem onBB_v {Q K b} : onBB Q K (.b b) = K b := rfl
theorem onBB_e {Q K c d} : onBB Q K (.er c d) = Q (.er c d) := rfl
theorem onO_n {Q K en} : onO Q K (.nx en) = K en := rfl
theorem onO_r {Q K k d} : onO Q K (.rt k d) = Q (.rt k d) := rfl
theorem onO_b {Q K en} : onO Q K (.bk en) = Q (.bk en) := rfl
theorem onO_c {Q K en} : onO Q K (.ct en) = Q (.ct en) := rfl
theorem onO_e {Q K en c d} : onO Q K (.er en c d) = Q (.er en c d) := rfl

theorem wR.mono {r : Option R} {P Q : R → Prop} (h : wR r P) (i : ∀ x, P x → Q x) : wR r Q := let ⟨x, e, p⟩ := h; ⟨x, e, i x p⟩
theorem wB.mono {r : Option RB} {P Q : RB → Prop} (h : wB r P) (i : ∀ x, P x → Q x) : wB r Q := let ⟨x, e, p⟩ := h; ⟨x, e, i x p⟩
theorem wA.mono {r : Option RA} {P Q : RA → Prop} (h : wA r P) (i : ∀ x, P x → Q x) : wA r Q := let ⟨x, e, p⟩ := h; ⟨x, e, i x p⟩
theorem wO.mono {r : Option Out} {P Q : Out → Prop} (h : wO r P) (i : ∀ x, P x → Q x) : wO r Q := let ⟨x, e, p⟩ := h; ⟨x, e, i x p⟩
theorem wR_some {x : R} {Q} : wR (some x) Q = Q x := propext ⟨fun ⟨_, e, q⟩ => by cases e; exact q, fun q => ⟨_, rfl, q⟩⟩
theorem wB_some {x : RB} {Q} : wB (some x) Q = Q x := propext ⟨fun ⟨_, e, q⟩ => by cases e; exact q, fun q => ⟨_, rfl, q⟩⟩
theorem wA_some {x : RA} {Q} : wA (some x) Q = Q x := propext ⟨fun ⟨_, e, q⟩ => by cases e; exact q, fun q => ⟨_, rfl, q⟩⟩
theorem wO_some {x : Out} {Q} : wO (some x) Q = Q x := propext ⟨fun ⟨_, e, q⟩ => by cases e; exact q, fun q => ⟨_, rfl, q⟩⟩
theorem wG_some {k d} {Q} : wG (some (k, d)) Q = Q k d := propext ⟨fun ⟨_, _, e, q⟩ => by cases e; exact q, fun q => ⟨_, _, rfl, q⟩⟩
theorem wR_none {Q : R → Prop} : wR none Q = False := propext ⟨fun ⟨_, e, q⟩ => (by cases e), fun q => False.elim q⟩
theorem wO_none {Q : Out → Prop} : wO none Q = False := propext ⟨fun ⟨_, e, q⟩ => (by cases e), fun q => False.elim q⟩
theorem wG_none {Q : Kd → D → Prop} : wG none Q = False := propext ⟨fun ⟨_, _, e, q⟩ => (by cases e), fun q => False.elim q⟩

section
variable {en : En} {f fa fb fc : En → Option R} {tt ta tb : En → Option RB} {t : En → Option RA} {F F1 F2 : En → Option Out} {Q : R → Prop} {QB : RB → Prop} {QA : RA → Prop} {QO : Out → Prop}
theorem w_bR {a : Option R} {k : D → Option R} : wR (bR a k) Q = wR a (onV Q fun _ d => wR (k d) Q) := by
  apply propext
  unfold bR wR
  constructor
  · rintro ⟨x, e, q⟩
    cases a with
    | none => cases e
    | some a =>
      cases a with
      | val k d => exact ⟨_, rfl, x, e, q⟩
      | er c d => cases e; exact ⟨_, rfl, q⟩
  · rintro ⟨a, rfl, q⟩
    cases a with
    | val k d => exact q
    | er c d => exact ⟨_, rfl, q⟩
theorem w_bA {a : Option RA} {k : List D → Option R} : wR (bA a k) Q = wA a (onA Q fun d => wR (k d) Q) := by
  apply propext
  unfold bA wR wA
  constructor
  · rintro ⟨x, e, q⟩
    cases a with
    | none => cases e
    | some a =>
      cases a with
      | vals d => exact ⟨_, rfl, x, e, q⟩
      | er c d => cases e; exact ⟨_, rfl, q⟩
  · rintro ⟨a, rfl, q⟩
    cases a with
    | vals d => exact q
    | er c d => exact ⟨_, rfl, q⟩
theorem w_lf {g : Option (Kd × D)} : wR (lf g) Q = wG g fun k d => Q (.val k d) := by
  apply propext
  constructor
  · rintro ⟨x, e, q⟩
    obtain ⟨k, d, rfl, rfl⟩ := lf_some e
    exact ⟨k, d, rfl, q⟩
  · rintro ⟨k, d, rfl, q⟩
    exact ⟨_, rfl, q⟩
def okK (K : Kd → D → Prop) : Kd → D → Prop := fun k d => k ≠ .bo ∧ K .sh d
theorem w_shr {a : Option R} : wR (shr a) Q = wR a (onV Q (okK fun k d => Q (.val k d))) := by
  apply propext
  unfold shr wR
  constructor
  · rintro ⟨x, e, q⟩
    cases a with
    | none => cases e
    | some a =>
      cases a with
      | val k d =>
        cases k with
        | sh => cases e; exact ⟨_, rfl, by simp, q⟩
        | nw => cases e; exact ⟨_, rfl, by simp, q⟩
        | bo => cases e
      | er c d => cases e; exact ⟨_, rfl, q⟩
  · rintro ⟨a, rfl, q⟩
    cases a with
    | val k d =>
      obtain ⟨h, q⟩ := q
      cases k with
      | sh => exact ⟨_, rfl, q⟩
      | nw => exact ⟨_, rfl, q⟩
      | bo => exact absurd rfl h
    | er c d => exact ⟨_, rfl, q⟩
theorem okK_s {K d} : okK K .sh d = K .sh d := propext ⟨fun h => h.2, fun h => ⟨by simp, h⟩⟩
theorem okK_n {K d} : okK K .nw d = K .sh d := propext ⟨fun h => h.2, fun h => ⟨by simp, h⟩⟩
theorem w_c {d} : wR (fC d en) Q = Q (.val .sh d) := wR_some
theorem w_var {i} : wR (fVar i en) Q = (match en[i]? with | some (some (.sh d)) => Q (.val .sh d) | some (some (.ow d)) => Q (.val .bo d) | _ => False) := by
  unfold fVar
  generalize en[i]? = o
  rcases o with _ | _ | _ | _ <;> first | exact wR_some | exact wR_none
theorem w_op {g} : wR (fOp g fa fb en) Q = wR (fa en) (onV Q fun _ x => wR (fb en) (onV Q fun _ y => wG (g x y) fun k d => Q (.val k d))) := by
  unfold fOp
  simp only [w_bR, w_lf]
theorem w_un {g} : wR (fUn g fa en) Q = wR (fa en) (onV Q fun _ x => wG (g x) fun k d => Q (.val k d)) := by
  unfold fUn
  simp only [w_bR, w_lf]
theorem w_tB1 {r : Option R} : wB (tB1 r) QB = wR r (onVB QB fun _ d => match d with | .bl b => QB (.b b) | _ => False) := by
  apply propext
  unfold tB1 wB wR
  constructor
  · rintro ⟨x, e, q⟩
    cases r with
    | none => cases e
    | some a =>
      cases a with
      | val k d =>
        cases d with
        | bl b => cases e; exact ⟨_, rfl, q⟩
        | _ => cases e
      | er c d => cases e; exact ⟨_, rfl, q⟩
  · rintro ⟨a, rfl, q⟩
    cases a with
    | val k d =>
      cases d with
      | bl b => exact ⟨_, rfl, q⟩
      | _ => exact q.elim
    | er c d => exact ⟨_, rfl, q⟩
theorem w_truR {r : Option R} : wB (truR r) QB = wR r (onVB QB fun _ d => ∃ b, truD d = some b ∧ QB (.b b)) := by
  apply propext
  unfold truR wB wR
  constructor
  · rintro ⟨x, e, q⟩
    cases r with
    | none => cases e
    | some a =>
      cases a with
      | val k d =>
        obtain ⟨b, hb, rfl⟩ := Option.map_eq_some_iff.mp e
        exact ⟨_, rfl, b, hb, q⟩
      | er c d => cases e; exact ⟨_, rfl, q⟩
  · rintro ⟨a, rfl, q⟩
    cases a with
    | val k d =>
      obtain ⟨b, hb, q⟩ := q
      exact ⟨.b b, by simp [hb], q⟩
    | er c d => exact ⟨_, rfl, q⟩
theorem w_chain {g g'} : wR (fChain g g' fa fb fc en) Q = wR (fa en) (onV Q fun _ x => wR (fb en) (onV Q fun _ y => wG (g x y) fun _ d => match d with
    | .bl true => wR (fc en) (onV Q fun _ z => wG (g' y z) fun k d => Q (.val k d))
    | .bl false => Q (.val .sh (.bl false))
    | _ => False)) := by
  unfold fChain
  simp only [w_bR]
  congr 1
  funext r
  cases r with
  | er c d => rfl
  | val k x =>
    simp only [onV_v]
    congr 1
    funext r
    cases r with
    | er c d => rfl
    | val k y =>
      simp only [onV_v]
      cases hg : g x y with
      | none => simp only [wR_none, wG_none]
      | some kd =>
        obtain ⟨k, d⟩ := kd
        simp only [wG_some]
        cases d with
        | bl b => cases b <;> simp only [w_bR, w_lf, wR_some]
        | _ => simp only [wR_none]
theorem w_andT : wB (fAndT ta tb en) QB = wB (ta en) (onBB QB fun b => if b = true then wB (tb en) QB else QB (.b false)) := by
  apply propext
  unfold fAndT wB
  constructor
  · rintro ⟨x, e, q⟩
    cases h : ta en with
    | none => rw [h] at e; cases e
    | some a =>
      rw [h] at e
      cases a with
      | b k => cases k with
        | true => exact ⟨_, rfl, by simp only [onBB_v, if_true]; exact ⟨x, e, q⟩⟩
        | false => cases e; exact ⟨_, rfl, by simp only [onBB_v]; exact q⟩
      | er c d => cases e; exact ⟨_, rfl, q⟩
  · rintro ⟨a, h, q⟩
    rw [h]
    cases a with
    | b k => cases k with
      | true => simp only [onBB_v, if_true] at q; exact q
      | false => exact ⟨_, rfl, by simpa [onBB_v] using q⟩
    | er c d => exact ⟨_, rfl, q⟩
theorem w_orT : wB (fOrT ta tb en) QB = wB (ta en) (onBB QB fun b => if b = true then QB (.b true) else wB (tb en) QB) := by
  apply propext
  unfold fOrT wB
  constructor
  · rintro ⟨x, e, q⟩
    cases h : ta en with
    | none => rw [h] at e; cases e
    | some a =>
      rw [h] at e
      cases a with
      | b k => cases k with
        | false => exact ⟨_, rfl, by simp only [onBB_v]; exact ⟨x, e, q⟩⟩
        | true => cases e; exact ⟨_, rfl, by simp only [onBB_v, if_true]; exact q⟩
      | er c d => cases e; exact ⟨_, rfl, q⟩
  · rintro ⟨a, h, q⟩
    rw [h]
    cases a with
    | b k => cases k with
      | false => simp only [onBB_v] at q; exact q
      | true => exact ⟨_, rfl, by simpa [onBB_v] using q⟩
    | er c d => exact ⟨_, rfl, q⟩
theorem w_notT : wB (fNotT ta en) QB = wB (ta en) (onBB QB fun b => QB (.b (!b))) := by
  apply propext
  unfold fNotT wB
  constructor
  · rintro ⟨x, e, q⟩
    cases h : ta en with
    | none => rw [h] at e; cases e
    | some a =>
      rw [h] at e
      cases a with
      | b k => cases e; exact ⟨_, rfl, q⟩
      | er c d => cases e; exact ⟨_, rfl, q⟩
  · rintro ⟨a, h, q⟩
    rw [h]
    cases a with
    | b k => exact ⟨_, rfl, q⟩
    | er c d => exact ⟨_, rfl, q⟩
theorem w_andV : wR (fAndV fa fb en) Q = wR (fa en) (onV Q fun _ d => match d with | .bl true => wR (fb en) Q | .bl false => Q (.val .sh (.bl false)) | _ => False) := by
  apply propext
  unfold fAndV wR
  constructor
  · rintro ⟨x, e, q⟩
    cases h : fa en with
    | none => rw [h] at e; cases e
    | some a =>
      rw [h] at e
      cases a with
      | val k d => cases d with
        | bl b => cases b with
          | true => exact ⟨_, rfl, x, e, q⟩
          | false => cases e; exact ⟨_, rfl, q⟩
        | _ => cases e
      | er c d => cases e; exact ⟨_, rfl, q⟩
  · rintro ⟨a, h, q⟩
    rw [h]
    cases a with
    | val k d => cases d with
      | bl b => cases b with
        | true => exact q
        | false => exact ⟨_, rfl, q⟩
      | _ => exact q.elim
    | er c d => exact ⟨_, rfl, q⟩
theorem w_orV : wR (fOrV fa fb en) Q = wR (fa en) (onV Q fun _ d => match d with | .bl false => wR (fb en) Q | .bl true => Q (.val .sh (.bl true)) | _ => False) := by
  apply propext
  unfold fOrV wR
  constructor
  · rintro ⟨x, e, q⟩
    cases h : fa en with
    | none => rw [h] at e; cases e
    | some a =>
      rw [h] at e
      cases a with
      | val k d => cases d with
        | bl b => cases b with
          | false => exact ⟨_, rfl, x, e, q⟩
          | true => cases e; exact ⟨_, rfl, q⟩
        | _ => cases e
      | er c d => cases e; exact ⟨_, rfl, q⟩
  · rintro ⟨a, h, q⟩
    rw [h]
    cases a with
    | val k d => cases d with
      | bl b => cases b with
        | false => exact q
        | true => exact ⟨_, rfl, q⟩
      | _ => exact q.elim
    | er c d => exact ⟨_, rfl, q⟩
theorem w_notV : wR (fNotV fa en) Q = wR (fa en) (onV Q fun _ d => match d with | .bl b => Q (.val .sh (.bl (!b))) | _ => False) := by
  apply propext
  unfold fNotV wR
  constructor
  · rintro ⟨x, e, q⟩
    cases h : fa en with
    | none => rw [h] at e; cases e
    | some a =>
      rw [h] at e
      cases a with
      | val k d => cases d with
        | bl b => cases e; exact ⟨_, rfl, q⟩
        | _ => cases e
      | er c d => cases e; exact ⟨_, rfl, q⟩
  · rintro ⟨a, h, q⟩
    rw [h]
    cases a with
    | val k d => cases d with
      | bl b => exact ⟨_, rfl, q⟩
      | _ => exact q.elim
    | er c d => exact ⟨_, rfl, q⟩
theorem w_if : wR (fIf tt fa fb en) Q = wB (tt en) (onBR Q fun b => if b = true then wR (fa en) Q else wR (fb en) Q) := by
  apply propext
  unfold fIf wR wB
  constructor
  · rintro ⟨x, e, q⟩
    cases h : tt en with
    | none => rw [h] at e; cases e
    | some a =>
      rw [h] at e
      cases a with
      | b k => cases k with
        | true => exact ⟨_, rfl, by simp only [onBR_v, if_true]; exact ⟨x, e, q⟩⟩
        | false => exact ⟨_, rfl, by simp only [onBR_v]; exact ⟨x, e, q⟩⟩
      | er c d => cases e; exact ⟨_, rfl, q⟩
  · rintro ⟨a, h, q⟩
    rw [h]
    cases a with
    | b k => cases k with
      | true => simp only [onBR_v, if_true] at q; exact q
      | false => simp only [onBR_v] at q; exact q
    | er c d => exact ⟨_, rfl, q⟩
theorem w_nil : wA (fNil en) QA = QA (.vals []) := wA_some
theorem w_cons : wA (fCons f t en) QA = wR (f en) (onVA QA (okK fun _ d => wA (t en) (onAA QA fun ds => QA (.vals (d :: ds))))) := by
  apply propext
  unfold fCons
  constructor
  · rintro ⟨x, e, q⟩
    cases h : f en with
    | none => rw [h] at e; cases e
    | some a =>
      rw [h] at e
      have go : ∀ d, (match t en with | some (.vals ds) => some (RA.vals (d :: ds)) | x => x) = some x → wA (t en) (onAA QA fun ds => QA (.vals (d :: ds))) := fun d e => by
        cases ht : t en with
        | none => rw [ht] at e; cases e
        | some b =>
          rw [ht] at e
          cases b with
          | vals ds => cases e; exact ⟨_, rfl, q⟩
          | er c d => cases e; exact ⟨_, rfl, q⟩
      cases a with
      | val k d =>
        cases k with
        | sh => exact ⟨_, rfl, by simp, go d e⟩
        | nw => exact ⟨_, rfl, by simp, go d e⟩
        | bo => cases e
      | er c d => cases e; exact ⟨_, rfl, q⟩
  · rintro ⟨a, h, q⟩
    rw [h]
    cases a with
    | val k d =>
      obtain ⟨hk, b, hb, q⟩ := q
      have go : ∃ x, (match t en with | some (.vals ds) => some (RA.vals (d :: ds)) | x => x) = some x ∧ QA x := by
        rw [hb]
        cases b with
        | vals ds => exact ⟨_, rfl, q⟩
        | er c d => exact ⟨_, rfl, q⟩
      cases k with
      | sh => exact go
      | nw => exact go
      | bo => exact absurd rfl hk
    | er c d => exact ⟨_, rfl, q⟩
theorem w_lst : wR (fLst t en) Q = wA (t en) (onA Q fun ds => ds.length ≤ 16777216 ∧ Q (.val .nw (.lst ds))) := by
  unfold fLst
  rw [w_bA]
  congr 1
  funext r
  cases r with
  | vals ds => simp only [onA_v]; split <;> simp [*, wR_some, wR_none]
  | er c d => rfl
theorem w_tup : wR (fTup t en) Q = wA (t en) (onA Q fun ds => ds.length ≤ 16777216 ∧ Q (.val .sh (.tup ds))) := by
  unfold fTup
  rw [w_bA]
  congr 1
  funext r
  cases r with
  | vals ds => simp only [onA_v]; split <;> simp [*, wR_some, wR_none]
  | er c d => rfl
theorem w_dct0 : wR (fDct0 en) Q = Q (.val .nw (.dct [])) := wR_some
theorem w_call {Fd n} : wR (fCall Fd n t en) Q = wA (t en) (onA Q fun ds => ds.length = n ∧ wR (Fd ds) Q) := by
  unfold fCall
  rw [w_bA]
  congr 1
  funext r
  cases r with
  | vals ds => simp only [onA_v]; split <;> simp [*, wR_none]
  | er c d => rfl
theorem w_bn {g} : wR (fBn g t en) Q = wA (t en) (onA Q fun ds => wG (g ds) fun k d => Q (.val k d)) := by
  unfold fBn
  simp only [w_bA, w_lf]
theorem w_sm {g} : wR (fSm g fa fb en) Q = wR (fa en) (onV Q fun _ x => match x with | .str a => wR (fb en) (onV Q fun _ y => wG (g a y) fun k d => Q (.val k d)) | _ => False) := by
  unfold fSm
  rw [w_bR]
  congr 1
  funext r
  cases r with
  | val k d => cases d <;> simp only [onV_v, w_bR, w_lf, wR_none]
  | er c d => rfl
theorem w_bO {fo} {k : Option Int → Option R} : wR (bO fo en k) Q = (match fo with | none => wR (k none) Q | some g => wR (g en) (onV Q fun _ d => match d with | .int i => wR (k (some i)) Q | _ => False)) := by
  cases fo with
  | none => rfl
  | some g =>
    simp only [bO]
    rw [w_bR]
    congr 1
    funext r
    cases r with
    | val k d => cases d <;> simp only [onV_v, wR_none]
    | er c d => rfl
theorem w_sl {lo hi} : wR (fSl fa lo hi en) Q = wR (fa en) (onV Q fun _ x => wR (bO lo en fun l => bO hi en fun h => lf (slD x l h)) Q) := by
  unfold fSl
  simp only [w_bR]
theorem w_star : wA (fStar f t en) QA = wR (f en) (onVA QA fun _ d => match d with
    | .lst ds => wA (t en) (onAA QA fun es => QA (.vals (ds ++ es)))
    | .tup ds => wA (t en) (onAA QA fun es => QA (.vals (ds ++ es)))
    | _ => False) := by
  apply propext
  unfold fStar wA wR
  constructor
  · rintro ⟨x, e, q⟩
    cases h : f en with
    | none => rw [h] at e; cases e
    | some a =>
      rw [h] at e
      cases a with
      | val k d => cases d with
        | lst ds =>
          refine ⟨_, rfl, ?_⟩
          cases ht : t en with
          | none => simp only [ht] at e; cases e
          | some b =>
            simp only [ht] at e
            cases b with
            | vals es => cases e; exact ⟨_, rfl, q⟩
            | er c d => cases e; exact ⟨_, rfl, q⟩
        | tup ds =>
          refine ⟨_, rfl, ?_⟩
          cases ht : t en with
          | none => simp only [ht] at e; cases e
          | some b =>
            simp only [ht] at e
            cases b with
            | vals es => cases e; exact ⟨_, rfl, q⟩
            | er c d => cases e; exact ⟨_, rfl, q⟩
        | _ => cases e
      | er c d => cases e; exact ⟨_, rfl, q⟩
  · rintro ⟨a, h, q⟩
    rw [h]
    cases a with
    | val k d => cases d with
      | lst ds =>
        obtain ⟨b, hb, q⟩ := q
        simp only [hb]
        cases b with
        | vals es => exact ⟨_, rfl, q⟩
        | er c d => exact ⟨_, rfl, q⟩
      | tup ds =>
        obtain ⟨b, hb, q⟩ := q
        simp only [hb]
        cases b with
        | vals es => exact ⟨_, rfl, q⟩
        | er c d => exact ⟨_, rfl, q⟩
      | _ => exact q.elim
    | er c d => exact ⟨_, rfl, q⟩

/-! ### statements -/
theorem w_bS {a : Option R} {k : Kd → D → Option Out} : wO (bS a en k) QO = wR a (onS en QO fun kd d => wO (k kd d) QO) := by
  apply propext
  unfold bS wR wO
  constructor
  · rintro ⟨x, e, q⟩
    cases a with
    | none => cases e
    | some a =>
      cases a with
      | val k d => exact ⟨_, rfl, x, e, q⟩
      | er c d => cases e; exact ⟨_, rfl, q⟩
  · rintro ⟨a, rfl, q⟩
    cases a with
    | val k d => exact q
    | er c d => exact ⟨_, rfl, q⟩
theorem w_shrS {a : Option R} {K : Kd → D → Prop} : wR (shr a) (onS en QO K) = wR a (onS en QO (okK K)) := by
  rw [w_shr]
  congr 1
theorem w_sh {i} : wO (fSh i f en) QO = wR (f en) (onS en QO (okK fun _ d => QO (.nx (en.set i (some (.sh d)))))) := by
  unfold fSh
  rw [w_bS, w_shrS]
  simp only [wO_some]
theorem w_set {i} : wO (fSet i f en) QO = wR (f en) (onS en QO fun k d => match k with | .sh => QO (.nx (en.set i (some (.sh d)))) | .nw => QO (.nx (en.set i (some (.ow d)))) | .bo => False) := by
  unfold fSet
  rw [w_bS]
  congr 1
  funext r
  cases r with
  | val k d => cases k <;> simp [onS_v, stoE, wO]
  | er c d => rfl
theorem w_omap {α : Type} {o : Option α} {g : α → Out} : wO (o.map g) QO = ∃ y, o = some y ∧ QO (g y) := by
  apply propext
  constructor
  · rintro ⟨x, e, q⟩
    obtain ⟨y, rfl, rfl⟩ := Option.map_eq_some_iff.mp e
    exact ⟨y, rfl, q⟩
  · rintro ⟨y, rfl, q⟩
    exact ⟨_, rfl, q⟩
theorem w_asg {tg} : wO (fAsg tg f en) QO = wR (f en) (onS en QO (okK fun _ d => ∃ en1, tg d en = some en1 ∧ QO (.nx en1))) := by
  unfold fAsg
  rw [w_bS, w_shrS]
  congr 1
  funext r
  cases r with
  | val k d =>
    simp only [onS_v, okK]
    congr 1
    exact w_omap
  | er c d => rfl
theorem w_drop : wO (fDrop f en) QO = wR (f en) (onS en QO fun _ _ => QO (.nx en)) := by
  unfold fDrop
  rw [w_bS]
  simp only [wO_some]
theorem w_ret : wO (fRet f en) QO = wR (f en) (onS en QO fun k d => k ≠ .bo ∧ QO (.rt k d)) := by
  unfold fRet
  rw [w_bS]
  congr 1
  funext r
  cases r with
  | val k d => cases k <;> simp [onS_v, rtK, wO]
  | er c d => rfl
theorem w_retV {i} : wO (fRetV i en) QO = (match en[i]? with | some (some (.sh d)) => QO (.rt .sh d) | some (some (.ow d)) => QO (.rt .nw d) | _ => False) := by
  unfold fRetV
  generalize en[i]? = o
  rcases o with _ | _ | _ | _ <;> first | exact wO_some | exact wO_none
theorem w_retN : wO (fRetN en) QO = QO (.rt .sh .non) := wO_some
theorem w_nx : wO (fNx en) QO = QO (.nx en) := wO_some
theorem w_seq : wO (fSeq F1 F2 en) QO = wO (F1 en) (onO QO fun en1 => wO (F2 en1) QO) := by
  apply propext
  unfold fSeq wO
  constructor
  · rintro ⟨x, e, q⟩
    cases h : F1 en with
    | none => rw [h] at e; cases e
    | some a =>
      rw [h] at e
      cases a with
      | nx en1 => exact ⟨_, rfl, x, e, q⟩
      | _ => cases e; exact ⟨_, rfl, q⟩
  · rintro ⟨a, h, q⟩
    rw [h]
    cases a with
    | nx en1 => exact q
    | _ => exact ⟨_, rfl, q⟩
theorem w_frz {i} : wO (fFrz i F en) QO = wO (F (frzE en i)) QO := rfl
theorem w_ifS : wO (fIfS tt F1 F2 en) QO = wB (tt en) (onB en QO fun b => if b = true then wO (F1 en) QO else wO (F2 en) QO) := by
  apply propext
  unfold fIfS wO wB
  constructor
  · rintro ⟨x, e, q⟩
    cases h : tt en with
    | none => rw [h] at e; cases e
    | some a =>
      rw [h] at e
      cases a with
      | b k => cases k with
        | true => exact ⟨_, rfl, by simp only [onB_v, if_true]; exact ⟨x, e, q⟩⟩
        | false => exact ⟨_, rfl, by simp only [onB_v]; exact ⟨x, e, q⟩⟩
      | er c d => cases e; exact ⟨_, rfl, q⟩
  · rintro ⟨a, h, q⟩
    rw [h]
    cases a with
    | b k => cases k with
      | true => simp only [onB_v, if_true] at q; exact q
      | false => simp only [onB_v] at q; exact q
    | er c d => exact ⟨_, rfl, q⟩
theorem w_app {i} : wO (fApp i f en) QO = (match en[i]? with | some (some (.ow (.lst ds))) => wR (f en) (onS en QO (okK fun _ d => ds.length < 16777216 ∧ QO (.nx (en.set i (some (.ow (.lst (ds ++ [d])))))))) | _ => False) := by
  unfold fApp
  generalize en[i]? = o
  rcases o with _ | _ | _ | x
  · exact wO_none
  · exact wO_none
  · exact wO_none
  · cases x with
    | lst ds =>
      simp only []
      rw [w_bS, w_shrS]
      congr 1
      funext r
      cases r with
      | val k d =>
        simp only [onS_v, okK]
        split <;> simp [*, wO]
      | er c d => rfl
    | _ => exact wO_none
theorem w_put {i fk} : wO (fPut i fk f en) QO = (match en[i]? with | some (some (.ow x)) => wR (f en) (onS en QO (okK fun _ v => wR (fk en) (onS en QO fun _ k => ∃ y, putO v x k = some y ∧ QO (.nx (en.set i (some (.ow y))))))) | _ => False) := by
  unfold fPut
  generalize en[i]? = o
  rcases o with _ | _ | _ | x
  · exact wO_none
  · exact wO_none
  · exact wO_none
  · simp only []
    rw [w_bS, w_shrS]
    congr 1
    funext r
    cases r with
    | val k d =>
      simp only [onS_v, okK]
      congr 1
      rw [w_bS]
      congr 1
      funext r
      cases r with
      | val k d => simp only [onS_v]; exact w_omap
      | er c d => rfl
    | er c d => rfl

/-! ### walks and loops -/
theorem w_items : wA (fItems f en) QA = wR (f en) (onVA QA (okK fun _ d => ∃ ds, itemsD d = some ds ∧ QA (.vals ds))) := by
  apply propext
  unfold fItems
  constructor
  · rintro ⟨x, e, q⟩
    cases h : f en with
    | none => rw [h] at e; cases e
    | some a =>
      rw [h] at e
      cases a with
      | val k d =>
        cases k with
        | sh => obtain ⟨ds, h1, rfl⟩ := Option.map_eq_some_iff.mp e; exact ⟨_, rfl, by simp, ds, h1, q⟩
        | nw => obtain ⟨ds, h1, rfl⟩ := Option.map_eq_some_iff.mp e; exact ⟨_, rfl, by simp, ds, h1, q⟩
        | bo => cases e
      | er c d => cases e; exact ⟨_, rfl, q⟩
  · rintro ⟨a, h, q⟩
    rw [h]
    cases a with
    | val k d =>
      obtain ⟨hk, ds, h1, q⟩ := q
      cases k with
      | sh => exact ⟨.vals ds, by simp [shr, h1], q⟩
      | nw => exact ⟨.vals ds, by simp [shr, h1], q⟩
      | bo => exact absurd rfl hk
    | er c d => exact ⟨_, rfl, q⟩
theorem w_it {g} : wA (fIt g t en) QA = wA (t en) (onAA QA fun ds => ∃ xs, g ds = some xs ∧ QA (.vals xs)) := by
  apply propext
  unfold fIt
  constructor
  · rintro ⟨x, e, q⟩
    cases h : t en with
    | none => rw [h] at e; cases e
    | some a =>
      rw [h] at e
      cases a with
      | vals ds => obtain ⟨xs, h1, rfl⟩ := Option.map_eq_some_iff.mp e; exact ⟨_, rfl, xs, h1, q⟩
      | er c d => cases e; exact ⟨_, rfl, q⟩
  · rintro ⟨a, h, q⟩
    rw [h]
    cases a with
    | vals ds => obtain ⟨xs, h1, q⟩ := q; exact ⟨.vals xs, by simp [h1], q⟩
    | er c d => exact ⟨_, rfl, q⟩
theorem w_for {it tg} : wO (fFor it tg F en) QO = wA (it en) (onAO en QO fun ds => wO (forD tg F ds en) QO) := by
  apply propext
  unfold fFor wO wA
  constructor
  · rintro ⟨x, e, q⟩
    cases h : it en with
    | none => rw [h] at e; cases e
    | some a =>
      rw [h] at e
      cases a with
      | vals ds => exact ⟨_, rfl, x, e, q⟩
      | er c d => cases e; exact ⟨_, rfl, q⟩
  · rintro ⟨a, h, q⟩
    rw [h]
    cases a with
    | vals ds => exact q
    | er c d => exact ⟨_, rfl, q⟩
/-- a turn's end -/
def onT (Q : Out → Prop) (K : En → Prop) : Out → Prop
  | .nx en => K en
  | .ct en => K en
  | .bk en => Q (.nx en)
  | o => Q o
theorem forD_inv {tg : D → En → Option En} {F : En → Option Out} {QO : Out → Prop} : ∀ (ds : List D) (I : Nat → En → Prop) (en : En), I 0 en →
    (∀ i d en, ds[i]? = some d → I i en → ∃ en1, tg d en = some en1 ∧ wO (F en1) (onT QO (I (i + 1)))) → (∀ en, I ds.length en → QO (.nx en)) → wO (forD tg F ds en) QO
  | [], I, en, h0, _, hd => ⟨_, rfl, hd en h0⟩
  | d :: r, I, en, h0, hs, hd => by
    obtain ⟨en1, e1, o, e2, q⟩ := hs 0 d en rfl h0
    unfold forD
    simp only [e1, e2]
    have rest : ∀ en2, I 1 en2 → wO (forD tg F r en2) QO := fun en2 h => forD_inv r (fun i => I (i + 1)) en2 h (fun i x en' hx h' => hs (i + 1) x en' (by simpa using hx) h') fun en' h' => hd en' h'
    cases o with
    | nx en2 => exact rest en2 q
    | ct en2 => exact rest en2 q
    | bk en2 => exact ⟨_, rfl, q⟩
    | rt k d => exact ⟨_, rfl, q⟩
    | er en2 c d => exact ⟨_, rfl, q⟩
theorem onT_n {Q K en} : onT Q K (.nx en) = K en := rfl
theorem onT_c {Q K en} : onT Q K (.ct en) = K en := rfl
theorem onT_b {Q K en} : onT Q K (.bk en) = Q (.nx en) := rfl
theorem onT_r {Q K k d} : onT Q K (.rt k d) = Q (.rt k d) := rfl
theorem onT_e {Q K en c d} : onT Q K (.er en c d) = Q (.er en c d) := rfl
theorem w_lc {it tg fe vs} : wR (fLc it tg tt fe vs en) Q = wA (it en) (onA Q fun ds => ds.length ≤ 16777216 ∧ ∃ xs, tgIf tg tt fe (wipeE en vs) ds = some xs ∧ Q (.val .nw (.lst xs))) := by
  apply propext
  unfold fLc wA wR
  constructor
  · rintro ⟨x, e, q⟩
    cases h : it en with
    | none => rw [h] at e; cases e
    | some a =>
      rw [h] at e
      cases a with
      | vals ds =>
        refine ⟨_, rfl, ?_⟩
        replace e : (if ds.length ≤ 16777216 then (tgIf tg tt fe (wipeE en vs) ds).map fun xs => R.val .nw (.lst xs) else none) = some x := e
        split at e
        · obtain ⟨xs, h1, rfl⟩ := Option.map_eq_some_iff.mp e
          exact ⟨by assumption, xs, h1, q⟩
        · cases e
      | er c d => cases e; exact ⟨_, rfl, q⟩
  · rintro ⟨a, h, q⟩
    rw [h]
    cases a with
    | vals ds =>
      obtain ⟨hl, xs, h1, q⟩ := q
      exact ⟨_, by simp [hl, h1], q⟩
    | er c d => exact ⟨_, rfl, q⟩
/-- a comprehension without tests: item by item -/
theorem lc_all {tg : D → En → Option En} {fe : En → Option R} {en : En} (P : D → D → Prop) : ∀ (ds : List D), (∀ d ∈ ds, ∃ en1, tg d en = some en1 ∧ ∃ k x, fe en1 = some (.val k x) ∧ k ≠ .bo ∧ P d x) →
    ∃ xs : List D, tgIf tg fYes fe en ds = some xs ∧ xs.length = ds.length ∧ ∀ (i : Nat) (d x : D), ds[i]? = some d → xs[i]? = some x → P d x
  | [], _ => ⟨[], rfl, rfl, fun i d x h => by simp at h⟩
  | d :: r, h => by
    obtain ⟨en1, e1, k, x, e2, hk, p⟩ := h d List.mem_cons_self
    obtain ⟨xs, e3, hl, hp⟩ := lc_all P r fun d hd => h d (List.mem_cons_of_mem _ hd)
    refine ⟨x :: xs, ?_, by simp [hl], fun i d' x' h1 h2 => ?_⟩
    · unfold tgIf
      simp only [e1, fYes, e2]
      cases k with
      | sh => simp [shr, e3]
      | nw => simp [shr, e3]
      | bo => exact absurd rfl hk
    · cases i with
      | zero => simp at h1 h2; subst h1; subst h2; exact p
      | succ i => exact hp i d' x' (by simpa using h1) (by simpa using h2)
/-- .. by a function -/
theorem lc_fn {tg : D → En → Option En} {tt : En → Option RB} {fe : En → Option R} {en : En} (g : D → Option D) : ∀ (ds : List D), (∀ d ∈ ds, ∃ en1, tg d en = some en1 ∧ ∃ b, tt en1 = some (.b b) ∧ (b = false → g d = none) ∧ (b = true → ∃ k x, fe en1 = some (.val k x) ∧ k ≠ .bo ∧ g d = some x)) →
    tgIf tg tt fe en ds = some (ds.filterMap g)
  | [], _ => rfl
  | d :: r, h => by
    obtain ⟨en1, e1, b, e2, h1, h2⟩ := h d List.mem_cons_self
    have ih := lc_fn g r fun d hd => h d (List.mem_cons_of_mem _ hd)
    unfold tgIf
    simp only [e1, e2]
    cases b with
    | false =>
      rw [List.filterMap_cons, h1 rfl]
      exact ih
    | true =>
      obtain ⟨k, x, e3, hk, hg⟩ := h2 rfl
      rw [List.filterMap_cons, hg]
      simp only [e3]
      cases k with
      | sh => simp [shr, ih]
      | nw => simp [shr, ih]
      | bo => exact absurd rfl hk

/-! ### defs -/
def onR (Q : R → Prop) : Out → Prop
  | .nx _ => Q (.val .sh .non)
  | .rt k d => Q (.val k d)
  | .er _ c d => Q (.er c d)
  | _ => False
theorem w_run {m ds} : wR (runF F m ds) Q = wO (F (startE m ds)) (onR Q) := by
  apply propext
  unfold runF wO wR
  constructor
  · rintro ⟨x, e, q⟩
    cases h : F (startE m ds) with
    | none => rw [h] at e; cases e
    | some a =>
      rw [h] at e
      cases a <;> first | (cases e; exact ⟨_, rfl, q⟩) | cases e
  · rintro ⟨a, h, q⟩
    rw [h]
    cases a <;> first | exact ⟨_, rfl, q⟩ | exact q.elim
theorem onR_n {Q en} : onR Q (.nx en) = Q (.val .sh .non) := rfl
theorem onR_r {Q k d} : onR Q (.rt k d) = Q (.val k d) := rfl
theorem onR_e {Q en c d} : onR Q (.er en c d) = Q (.er c d) := rfl

/-! ### operations -/
variable {QG : Kd → D → Prop}
theorem g_add {a b : Int} : wG (addD (.int a) (.int b)) QG = QG .sh (.int (a + b)) := wG_some
theorem g_sub {a b : Int} : wG (subD (.int a) (.int b)) QG = QG .sh (.int (a - b)) := wG_some
theorem g_neg {a : Int} : wG (negD (.int a)) QG = QG .sh (.int (-a)) := wG_some
theorem wG_if {c : Prop} [Decidable c] {k d} : wG (if c then some (k, d) else none) QG = (c ∧ QG k d) := by
  split <;> simp [*, wG_some, wG_none]
theorem g_mul {a b : Int} : wG (mulD (.int a) (.int b)) QG = (mulOk a b = true ∧ QG .sh (.int (a * b))) := wG_if
theorem g_rep {a : List D} {b : Int} : wG (mulD (.lst a) (.int b)) QG = ((-(2 ^ 63) ≤ b ∧ b < 2 ^ 63 ∧ a.length * b.toNat ≤ 16777216) ∧ QG .nw (.lst (List.replicate b.toNat a).flatten)) := wG_if
theorem g_fdiv {a b : Int} : wG (fdivD (.int a) (.int b)) QG = ((0 < b ∧ b.natAbs.log2 < 9000) ∧ QG .sh (.int (a / b))) := wG_if
theorem g_mod {a b : Int} : wG (modD (.int a) (.int b)) QG = (0 < b ∧ QG .sh (.int (a % b))) := wG_if
theorem g_pow {a b : Int} : wG (powD (.int a) (.int b)) QG = ((0 ≤ b ∧ b ≤ 1000000 ∧ a.natAbs < 2 ^ 64) ∧ QG .sh (.int (a ^ b.toNat))) := wG_if
theorem g_addS {a b : Str} : wG (addD (.str a) (.str b)) QG = (a.length + b.length ≤ 16777216 ∧ QG .sh (.str (a ++ b))) := wG_if
theorem g_addL {a b : List D} : wG (addD (.lst a) (.lst b)) QG = (a.length + b.length ≤ 16777216 ∧ QG .nw (.lst (a ++ b))) := wG_if
theorem g_cmp0 {f : Int → Int → Bool} {a b : Int} : wG (cmpI0 f (.int a) (.int b)) QG = QG .sh (.bl (f a b)) := wG_some
theorem g_eqI {n} {a b : Int} : wG (eqN n (.int a) (.int b)) QG = QG .sh (.bl (if n then !decide (a = b) else decide (a = b))) := wG_some
theorem g_eqS {n} {a b : Str} : wG (eqN n (.str a) (.str b)) QG = QG .sh (.bl (if n then !decide (a = b) else decide (a = b))) := wG_some
theorem g_eqB {n} {a b : Bool} : wG (eqN n (.bl a) (.bl b)) QG = QG .sh (.bl (if n then !decide (a = b) else decide (a = b))) := wG_some
theorem g_lenL {a : List D} : wG (lenD (.lst a)) QG = QG .sh (.int a.length) := wG_some
theorem g_lenT {a : List D} : wG (lenD (.tup a)) QG = QG .sh (.int a.length) := wG_some
theorem g_lenR {a : List Int} : wG (lenD (.scr a)) QG = QG .sh (.int a.length) := wG_some
theorem g_lenS {a : Str} : wG (lenD (.str a)) QG = (a.length ≤ 16777216 ∧ QG .sh (.int a.length)) := wG_if
theorem g_int {a : Int} : wG (intD (.int a)) QG = QG .sh (.int a) := wG_some
theorem g_intB {a : Bool} : wG (intD (.bl a)) QG = QG .sh (.int (if a then 1 else 0)) := wG_some
theorem g_str {a : Int} : wG (strD (.int a)) QG = (a.natAbs.log2 < 1920 ∧ QG .sh (.str (toString a))) := wG_if
theorem g_listL {a : List D} : wG (listD (.lst a)) QG = QG .nw (.lst a) := wG_some
theorem g_listT {a : List D} : wG (listD (.tup a)) QG = QG .nw (.lst a) := wG_some
theorem g_listM {a : List (Key × D)} : wG (listD (.dct a)) QG = QG .nw (.lst (a.map fun kv => kD kv.1)) := wG_some
theorem g_tup {a : List D} : wG (tupD (.lst a)) QG = QG .sh (.tup a) := wG_some
theorem g_abs {a : Int} : wG (absD (.int a)) QG = QG .sh (.int (if a < 0 then -a else a)) := wG_some
theorem g_max2 {a b : Int} : wG (max2D [.int a, .int b]) QG = QG .sh (.int (if b > a then b else a)) := wG_some
theorem g_min2 {a b : Int} : wG (min2D [.int a, .int b]) QG = QG .sh (.int (if b < a then b else a)) := wG_some
theorem wG_map {α : Type} {o : Option α} {g : α → Kd × D} : wG (o.map g) QG = ∃ x, o = some x ∧ QG (g x).1 (g x).2 := by
  apply propext
  constructor
  · rintro ⟨k, d, e, q⟩
    obtain ⟨x, rfl, e2⟩ := Option.map_eq_some_iff.mp e
    exact ⟨x, rfl, by rw [e2]; exact q⟩
  · rintro ⟨x, rfl, q⟩
    exact ⟨_, _, rfl, q⟩
theorem g_ixL {ds : List D} {i : Int} : wG (ixD (.lst ds) (.int i)) QG = ∃ x, atI ds i = some x ∧ QG .sh x := wG_map
theorem g_ixT {ds : List D} {i : Int} : wG (ixD (.tup ds) (.int i)) QG = ∃ x, atI ds i = some x ∧ QG .sh x := wG_map
theorem g_ixR {ds : List Int} {i : Int} : wG (ixD (.scr ds) (.int i)) QG = ∃ x, atI ds i = some x ∧ QG .sh (.int x) := wG_map
theorem g_slL {ds : List D} {l h} : wG (slD (.lst ds) l h) QG = QG .nw (.lst (cutD ds l h)) := wG_some
theorem g_isiD {T d} : wG (isiD T d) QG = ∃ a, tyD d = some a ∧ QG .sh (.bl (subT a T)) := wG_map
end
theorem start_def (m : Nat) (ds : List D) : startE m ds = ds.map (fun d => some (Sl.sh d)) ++ List.replicate (m - ds.length) none := rfl
end PD
/-! PDZ: the lazy rules (printed by mkz.py). -/
namespace PD
open PySem L2
structure Tg {α : Type} (f : α) : Type where
/-- a continuation, shut -/
def Z {α : Type} (f : α) (_ : Tg f) : α := f
theorem Z1 {α : Type} {β : Type} {f : α → β} {t : Tg f} {x : α} : Z f t x = f x := rfl
theorem Z2 {α α2 : Type} {β : Type} {f : α → α2 → β} {t : Tg f} {x : α} {y : α2} : Z f t x y = f x y := rfl
/-- a value that is there -/
def exO {α : Type} (o : Option α) (P : α → Prop) : Prop := ∃ y, o = some y ∧ P y
theorem exO_some {α : Type} {x : α} {P : α → Prop} : exO (some x) P = P x := propext ⟨fun ⟨_, e, p⟩ => by cases e; exact p, fun p => ⟨_, rfl, p⟩⟩
theorem hTL_l {n : Nat} {hs : List D → En → Option En} {ds : List D} {en : En} : hTL n hs (.lst ds) en = if ds.length = n then hs ds en else none := rfl
theorem hTL_t {n : Nat} {hs : List D → En → Option En} {ds : List D} {en : En} : hTL n hs (.tup ds) en = if ds.length = n then hs ds en else none := rfl
theorem hName_e {i : Nat} {d : D} {en : En} : hName i d en = some (en.set i (some (.sh d))) := rfl
theorem hCons_c {h : D → En → Option En} {hs : List D → En → Option En} {d : D} {r : List D} {en : En} : hCons h hs (d :: r) en = (h d en).bind (fun en1 => hs r en1) := rfl
theorem hNil_n {en : En} : hNil [] en = some en := rfl
theorem bind_so {α β : Type} {x : α} {f : α → Option β} : (some x).bind f = f x := rfl
theorem it_l {ds : List D} : itemsD (.lst ds) = some ds := rfl
theorem it_t {ds : List D} : itemsD (.tup ds) = some ds := rfl
theorem it_r {ds : List Int} : itemsD (.scr ds) = some (ds.map .int) := rfl
section
variable {en : En} {f fa fb fc : En → Option R} {tt ta tb : En → Option RB} {t : En → Option RA} {F F1 F2 : En → Option Out} {Q : R → Prop} {QB : RB → Prop} {QA : RA → Prop} {QO : Out → Prop}
theorem z_lf {g : Option (Kd × D)} : wR (lf g) Q = wG g (Z (fun k d => Q (.val k d)) ⟨⟩) := w_lf
theorem z_shr {a : Option R} : wR (shr a) Q = wR a (onV Q (okK (Z (fun k d => Q (.val k d)) ⟨⟩))) := w_shr
theorem z_op {g} : wR (fOp g fa fb en) Q = wR (fa en) (onV Q (Z (fun _ x => wR (fb en) (onV Q (Z (fun _ y => wG (g x y) (Z (fun k d => Q (.val k d)) ⟨⟩)) ⟨⟩))) ⟨⟩)) := w_op
theorem z_un {g} : wR (fUn g fa en) Q = wR (fa en) (onV Q (Z (fun _ x => wG (g x) (Z (fun k d => Q (.val k d)) ⟨⟩)) ⟨⟩)) := w_un
theorem z_tB1 {r : Option R} : wB (tB1 r) QB = wR r (onVB QB (Z (fun _ d => match d with | .bl b => QB (.b b) | _ => False) ⟨⟩)) := w_tB1
theorem z_truR {r : Option R} : wB (truR r) QB = wR r (onVB QB (Z (fun _ d => exO (truD d) ((Z (fun b => QB (.b b)) ⟨⟩))) ⟨⟩)) := w_truR
theorem z_chain {g g'} : wR (fChain g g' fa fb fc en) Q = wR (fa en) (onV Q (Z (fun _ x => wR (fb en) (onV Q (Z (fun _ y => wG (g x y) (Z (fun _ d => match d with
    | .bl true => wR (fc en) (onV Q (Z (fun _ z => wG (g' y z) (Z (fun k d => Q (.val k d)) ⟨⟩)) ⟨⟩))
    | .bl false => Q (.val .sh (.bl false))
    | _ => False) ⟨⟩)) ⟨⟩))) ⟨⟩)) := w_chain
theorem z_andT : wB (fAndT ta tb en) QB = wB (ta en) (onBB QB (Z (fun b => if b = true then wB (tb en) QB else QB (.b false)) ⟨⟩)) := w_andT
theorem z_orT : wB (fOrT ta tb en) QB = wB (ta en) (onBB QB (Z (fun b => if b = true then QB (.b true) else wB (tb en) QB) ⟨⟩)) := w_orT
theorem z_notT : wB (fNotT ta en) QB = wB (ta en) (onBB QB (Z (fun b => QB (.b (!b))) ⟨⟩)) := w_notT
theorem z_andV : wR (fAndV fa fb en) Q = wR (fa en) (onV Q (Z (fun _ d => match d with | .bl true => wR (fb en) Q | .bl false => Q (.val .sh (.bl false)) | _ => False) ⟨⟩)) := w_andV
theorem z_orV : wR (fOrV fa fb en) Q = wR (fa en) (onV Q (Z (fun _ d => match d with | .bl false => wR (fb en) Q | .bl true => Q (.val .sh (.bl true)) | _ => False) ⟨⟩)) := w_orV
theorem z_notV : wR (fNotV fa en) Q = wR (fa en) (onV Q (Z (fun _ d => match d with | .bl b => Q (.val .sh (.bl (!b))) | _ => False) ⟨⟩)) := w_notV
theorem z_if : wR (fIf tt fa fb en) Q = wB (tt en) (onBR Q (Z (fun b => if b = true then wR (fa en) Q else wR (fb en) Q) ⟨⟩)) := w_if
theorem z_cons : wA (fCons f t en) QA = wR (f en) (onVA QA (okK (Z (fun _ d => wA (t en) (onAA QA (Z (fun ds => QA (.vals (d :: ds))) ⟨⟩))) ⟨⟩))) := w_cons
theorem z_lst : wR (fLst t en) Q = wA (t en) (onA Q (Z (fun ds => ds.length ≤ 16777216 ∧ Q (.val .nw (.lst ds))) ⟨⟩)) := w_lst
theorem z_tup : wR (fTup t en) Q = wA (t en) (onA Q (Z (fun ds => ds.length ≤ 16777216 ∧ Q (.val .sh (.tup ds))) ⟨⟩)) := w_tup
theorem z_call {Fd n} : wR (fCall Fd n t en) Q = wA (t en) (onA Q (Z (fun ds => ds.length = n ∧ wR (Fd ds) Q) ⟨⟩)) := w_call
theorem z_bn {g} : wR (fBn g t en) Q = wA (t en) (onA Q (Z (fun ds => wG (g ds) (Z (fun k d => Q (.val k d)) ⟨⟩)) ⟨⟩)) := w_bn
theorem z_sm {g} : wR (fSm g fa fb en) Q = wR (fa en) (onV Q (Z (fun _ x => match x with | .str a => wR (fb en) (onV Q (Z (fun _ y => wG (g a y) (Z (fun k d => Q (.val k d)) ⟨⟩)) ⟨⟩)) | _ => False) ⟨⟩)) := w_sm
theorem z_bO {fo} {k : Option Int → Option R} : wR (bO fo en k) Q = (match fo with | none => wR (k none) Q | some g => wR (g en) (onV Q (Z (fun _ d => match d with | .int i => wR (k (some i)) Q | _ => False) ⟨⟩))) := w_bO
theorem z_sl {lo hi} : wR (fSl fa lo hi en) Q = wR (fa en) (onV Q (Z (fun _ x => wR (bO lo en (Z (fun l => bO hi en (Z (fun h => lf (slD x l h)) ⟨⟩)) ⟨⟩)) Q) ⟨⟩)) := w_sl
theorem z_star : wA (fStar f t en) QA = wR (f en) (onVA QA (Z (fun _ d => match d with
    | .lst ds => wA (t en) (onAA QA (Z (fun es => QA (.vals (ds ++ es))) ⟨⟩))
    | .tup ds => wA (t en) (onAA QA (Z (fun es => QA (.vals (ds ++ es))) ⟨⟩))
    | _ => False) ⟨⟩)) := w_star
theorem z_sh {i} : wO (fSh i f en) QO = wR (f en) (onS en QO (okK (Z (fun _ d => QO (.nx (en.set i (some (.sh d))))) ⟨⟩))) := w_sh
theorem z_set {i} : wO (fSet i f en) QO = wR (f en) (onS en QO (Z (fun k d => match k with | .sh => QO (.nx (en.set i (some (.sh d)))) | .nw => QO (.nx (en.set i (some (.ow d)))) | .bo => False) ⟨⟩)) := w_set
theorem z_asg {tg} : wO (fAsg tg f en) QO = wR (f en) (onS en QO (okK (Z (fun _ d => exO (tg d en) ((Z (fun en1 => QO (.nx en1)) ⟨⟩))) ⟨⟩))) := w_asg
theorem z_drop : wO (fDrop f en) QO = wR (f en) (onS en QO (Z (fun _ _ => QO (.nx en)) ⟨⟩)) := w_drop
theorem z_ret : wO (fRet f en) QO = wR (f en) (onS en QO (Z (fun k d => k ≠ .bo ∧ QO (.rt k d)) ⟨⟩)) := w_ret
theorem z_seq : wO (fSeq F1 F2 en) QO = wO (F1 en) (onO QO (Z (fun en1 => wO (F2 en1) QO) ⟨⟩)) := w_seq
theorem z_ifS : wO (fIfS tt F1 F2 en) QO = wB (tt en) (onB en QO (Z (fun b => if b = true then wO (F1 en) QO else wO (F2 en) QO) ⟨⟩)) := w_ifS
theorem z_app {i} : wO (fApp i f en) QO = (match en[i]? with | some (some (.ow (.lst ds))) => wR (f en) (onS en QO (okK (Z (fun _ d => ds.length < 16777216 ∧ QO (.nx (en.set i (some (.ow (.lst (ds ++ [d]))))))) ⟨⟩))) | _ => False) := w_app
theorem z_put {i fk} : wO (fPut i fk f en) QO = (match en[i]? with | some (some (.ow x)) => wR (f en) (onS en QO (okK (Z (fun _ v => wR (fk en) (onS en QO (Z (fun _ k => exO (putO v x k) ((Z (fun y => QO (.nx (en.set i (some (.ow y))))) ⟨⟩))) ⟨⟩))) ⟨⟩))) | _ => False) := w_put
theorem z_items : wA (fItems f en) QA = wR (f en) (onVA QA (okK (Z (fun _ d => exO (itemsD d) ((Z (fun ds => QA (.vals ds)) ⟨⟩))) ⟨⟩))) := w_items
theorem z_it {g} : wA (fIt g t en) QA = wA (t en) (onAA QA (Z (fun ds => exO (g ds) ((Z (fun xs => QA (.vals xs)) ⟨⟩))) ⟨⟩)) := w_it
theorem z_for {it tg} : wO (fFor it tg F en) QO = wA (it en) (onAO en QO (Z (fun ds => wO (forD tg F ds en) QO) ⟨⟩)) := w_for
theorem z_lc {it tg fe vs} : wR (fLc it tg tt fe vs en) Q = wA (it en) (onA Q (Z (fun ds => ds.length ≤ 16777216 ∧ exO (tgIf tg tt fe (wipeE en vs) ds) ((Z (fun xs => Q (.val .nw (.lst xs))) ⟨⟩))) ⟨⟩)) := w_lc
theorem z_bO0 {k : Option Int → Option R} : wR (bO none en k) Q = wR (k none) Q := rfl
theorem z_bO1 {g : En → Option R} {k : Option Int → Option R} : wR (bO (some g) en k) Q = wR (g en) (onV Q (Z (fun _ d => match d with | .int i => wR (k (some i)) Q | _ => False) ⟨⟩)) := w_bO
variable {QG : Kd → D → Prop}
theorem gz_ixL {ds : List D} {i : Int} : wG (ixD (.lst ds) (.int i)) QG = exO (atI ds i) (Z (fun x => QG .sh x) ⟨⟩) := wG_map
theorem gz_ixT {ds : List D} {i : Int} : wG (ixD (.tup ds) (.int i)) QG = exO (atI ds i) (Z (fun x => QG .sh x) ⟨⟩) := wG_map
theorem gz_ixR {ds : List Int} {i : Int} : wG (ixD (.scr ds) (.int i)) QG = exO (atI ds i) (Z (fun x => QG .sh (.int x)) ⟨⟩) := wG_map
theorem gz_isiD {T d} : wG (isiD T d) QG = exO (tyD d) (Z (fun x => QG .sh (.bl (subT x T))) ⟨⟩) := wG_map
theorem gi_bool_non  : wG (isiD "bool" .non) QG = QG .sh (.bl false) := by
  show wG (some (Kd.sh, D.bl (subT "NoneType" "bool"))) QG = _
  rw [show subT "NoneType" "bool" = false by decide]
  exact wG_some
theorem gi_bool_bl {b : Bool} : wG (isiD "bool" (.bl b)) QG = QG .sh (.bl true) := by
  show wG (some (Kd.sh, D.bl (subT "bool" "bool"))) QG = _
  rw [show subT "bool" "bool" = true by decide]
  exact wG_some
theorem gi_bool_int {i : Int} : wG (isiD "bool" (.int i)) QG = QG .sh (.bl false) := by
  show wG (some (Kd.sh, D.bl (subT "int" "bool"))) QG = _
  rw [show subT "int" "bool" = false by decide]
  exact wG_some
theorem gi_bool_str {x : Str} : wG (isiD "bool" (.str x)) QG = QG .sh (.bl false) := by
  show wG (some (Kd.sh, D.bl (subT "str" "bool"))) QG = _
  rw [show subT "str" "bool" = false by decide]
  exact wG_some
theorem gi_bool_lst {ds : List D} : wG (isiD "bool" (.lst ds)) QG = QG .sh (.bl false) := by
  show wG (some (Kd.sh, D.bl (subT "list" "bool"))) QG = _
  rw [show subT "list" "bool" = false by decide]
  exact wG_some
theorem gi_bool_tup {ds : List D} : wG (isiD "bool" (.tup ds)) QG = QG .sh (.bl false) := by
  show wG (some (Kd.sh, D.bl (subT "tuple" "bool"))) QG = _
  rw [show subT "tuple" "bool" = false by decide]
  exact wG_some
theorem gi_bool_scr {ds : List Int} : wG (isiD "bool" (.scr ds)) QG = QG .sh (.bl false) := by
  show wG (some (Kd.sh, D.bl (subT "list" "bool"))) QG = _
  rw [show subT "list" "bool" = false by decide]
  exact wG_some
theorem gi_bool_dct {ds : List (Key × D)} : wG (isiD "bool" (.dct ds)) QG = QG .sh (.bl false) := by
  show wG (some (Kd.sh, D.bl (subT "dict" "bool"))) QG = _
  rw [show subT "dict" "bool" = false by decide]
  exact wG_some
theorem gi_int_non  : wG (isiD "int" .non) QG = QG .sh (.bl false) := by
  show wG (some (Kd.sh, D.bl (subT "NoneType" "int"))) QG = _
  rw [show subT "NoneType" "int" = false by decide]
  exact wG_some
theorem gi_int_bl {b : Bool} : wG (isiD "int" (.bl b)) QG = QG .sh (.bl true) := by
  show wG (some (Kd.sh, D.bl (subT "bool" "int"))) QG = _
  rw [show subT "bool" "int" = true by decide]
  exact wG_some
theorem gi_int_int {i : Int} : wG (isiD "int" (.int i)) QG = QG .sh (.bl true) := by
  show wG (some (Kd.sh, D.bl (subT "int" "int"))) QG = _
  rw [show subT "int" "int" = true by decide]
  exact wG_some
theorem gi_int_str {x : Str} : wG (isiD "int" (.str x)) QG = QG .sh (.bl false) := by
  show wG (some (Kd.sh, D.bl (subT "str" "int"))) QG = _
  rw [show subT "str" "int" = false by decide]
  exact wG_some
theorem gi_int_lst {ds : List D} : wG (isiD "int" (.lst ds)) QG = QG .sh (.bl false) := by
  show wG (some (Kd.sh, D.bl (subT "list" "int"))) QG = _
  rw [show subT "list" "int" = false by decide]
  exact wG_some
theorem gi_int_tup {ds : List D} : wG (isiD "int" (.tup ds)) QG = QG .sh (.bl false) := by
  show wG (some (Kd.sh, D.bl (subT "tuple" "int"))) QG = _
  rw [show subT "tuple" "int" = false by decide]
  exact wG_some
theorem gi_int_scr {ds : List Int} : wG (isiD "int" (.scr ds)) QG = QG .sh (.bl false) := by
  show wG (some (Kd.sh, D.bl (subT "list" "int"))) QG = _
  rw [show subT "list" "int" = false by decide]
  exact wG_some
theorem gi_int_dct {ds : List (Key × D)} : wG (isiD "int" (.dct ds)) QG = QG .sh (.bl false) := by
  show wG (some (Kd.sh, D.bl (subT "dict" "int"))) QG = _
  rw [show subT "dict" "int" = false by decide]
  exact wG_some
theorem gi_str_non  : wG (isiD "str" .non) QG = QG .sh (.bl false) := by
  show wG (some (Kd.sh, D.bl (subT "NoneType" "str"))) QG = _
  rw [show subT "NoneType" "str" = false by decide]
  exact wG_some
theorem gi_str_bl {b : Bool} : wG (isiD "str" (.bl b)) QG = QG .sh (.bl false) := by
  show wG (some (Kd.sh, D.bl (subT "bool" "str"))) QG = _
  rw [show subT "bool" "str" = false by decide]
  exact wG_some
theorem gi_str_int {i : Int} : wG (isiD "str" (.int i)) QG = QG .sh (.bl false) := by
  show wG (some (Kd.sh, D.bl (subT "int" "str"))) QG = _
  rw [show subT "int" "str" = false by decide]
  exact wG_some
theorem gi_str_str {x : Str} : wG (isiD "str" (.str x)) QG = QG .sh (.bl true) := by
  show wG (some (Kd.sh, D.bl (subT "str" "str"))) QG = _
  rw [show subT "str" "str" = true by decide]
  exact wG_some
theorem gi_str_lst {ds : List D} : wG (isiD "str" (.lst ds)) QG = QG .sh (.bl false) := by
  show wG (some (Kd.sh, D.bl (subT "list" "str"))) QG = _
  rw [show subT "list" "str" = false by decide]
  exact wG_some
theorem gi_str_tup {ds : List D} : wG (isiD "str" (.tup ds)) QG = QG .sh (.bl false) := by
  show wG (some (Kd.sh, D.bl (subT "tuple" "str"))) QG = _
  rw [show subT "tuple" "str" = false by decide]
  exact wG_some
theorem gi_str_scr {ds : List Int} : wG (isiD "str" (.scr ds)) QG = QG .sh (.bl false) := by
  show wG (some (Kd.sh, D.bl (subT "list" "str"))) QG = _
  rw [show subT "list" "str" = false by decide]
  exact wG_some
theorem gi_str_dct {ds : List (Key × D)} : wG (isiD "str" (.dct ds)) QG = QG .sh (.bl false) := by
  show wG (some (Kd.sh, D.bl (subT "dict" "str"))) QG = _
  rw [show subT "dict" "str" = false by decide]
  exact wG_some
theorem gi_list_non  : wG (isiD "list" .non) QG = QG .sh (.bl false) := by
  show wG (some (Kd.sh, D.bl (subT "NoneType" "list"))) QG = _
  rw [show subT "NoneType" "list" = false by decide]
  exact wG_some
theorem gi_list_bl {b : Bool} : wG (isiD "list" (.bl b)) QG = QG .sh (.bl false) := by
  show wG (some (Kd.sh, D.bl (subT "bool" "list"))) QG = _
  rw [show subT "bool" "list" = false by decide]
  exact wG_some
theorem gi_list_int {i : Int} : wG (isiD "list" (.int i)) QG = QG .sh (.bl false) := by
  show wG (some (Kd.sh, D.bl (subT "int" "list"))) QG = _
  rw [show subT "int" "list" = false by decide]
  exact wG_some
theorem gi_list_str {x : Str} : wG (isiD "list" (.str x)) QG = QG .sh (.bl false) := by
  show wG (some (Kd.sh, D.bl (subT "str" "list"))) QG = _
  rw [show subT "str" "list" = false by decide]
  exact wG_some
theorem gi_list_lst {ds : List D} : wG (isiD "list" (.lst ds)) QG = QG .sh (.bl true) := by
  show wG (some (Kd.sh, D.bl (subT "list" "list"))) QG = _
  rw [show subT "list" "list" = true by decide]
  exact wG_some
theorem gi_list_tup {ds : List D} : wG (isiD "list" (.tup ds)) QG = QG .sh (.bl false) := by
  show wG (some (Kd.sh, D.bl (subT "tuple" "list"))) QG = _
  rw [show subT "tuple" "list" = false by decide]
  exact wG_some
theorem gi_list_scr {ds : List Int} : wG (isiD "list" (.scr ds)) QG = QG .sh (.bl true) := by
  show wG (some (Kd.sh, D.bl (subT "list" "list"))) QG = _
  rw [show subT "list" "list" = true by decide]
  exact wG_some
theorem gi_list_dct {ds : List (Key × D)} : wG (isiD "list" (.dct ds)) QG = QG .sh (.bl false) := by
  show wG (some (Kd.sh, D.bl (subT "dict" "list"))) QG = _
  rw [show subT "dict" "list" = false by decide]
  exact wG_some
theorem gi_tuple_non  : wG (isiD "tuple" .non) QG = QG .sh (.bl false) := by
  show wG (some (Kd.sh, D.bl (subT "NoneType" "tuple"))) QG = _
  rw [show subT "NoneType" "tuple" = false by decide]
  exact wG_some
theorem gi_tuple_bl {b : Bool} : wG (isiD "tuple" (.bl b)) QG = QG .sh (.bl false) := by
  show wG (some (Kd.sh, D.bl (subT "bool" "tuple"))) QG = _
  rw [show subT "bool" "tuple" = false by decide]
  exact wG_some
theorem gi_tuple_int {i : Int} : wG (isiD "tuple" (.int i)) QG = QG .sh (.bl false) := by
  show wG (some (Kd.sh, D.bl (subT "int" "tuple"))) QG = _
  rw [show subT "int" "tuple" = false by decide]
  exact wG_some
theorem gi_tuple_str {x : Str} : wG (isiD "tuple" (.str x)) QG = QG .sh (.bl false) := by
  show wG (some (Kd.sh, D.bl (subT "str" "tuple"))) QG = _
  rw [show subT "str" "tuple" = false by decide]
  exact wG_some
theorem gi_tuple_lst {ds : List D} : wG (isiD "tuple" (.lst ds)) QG = QG .sh (.bl false) := by
  show wG (some (Kd.sh, D.bl (subT "list" "tuple"))) QG = _
  rw [show subT "list" "tuple" = false by decide]
  exact wG_some
theorem gi_tuple_tup {ds : List D} : wG (isiD "tuple" (.tup ds)) QG = QG .sh (.bl true) := by
  show wG (some (Kd.sh, D.bl (subT "tuple" "tuple"))) QG = _
  rw [show subT "tuple" "tuple" = true by decide]
  exact wG_some
theorem gi_tuple_scr {ds : List Int} : wG (isiD "tuple" (.scr ds)) QG = QG .sh (.bl false) := by
  show wG (some (Kd.sh, D.bl (subT "list" "tuple"))) QG = _
  rw [show subT "list" "tuple" = false by decide]
  exact wG_some
theorem gi_tuple_dct {ds : List (Key × D)} : wG (isiD "tuple" (.dct ds)) QG = QG .sh (.bl false) := by
  show wG (some (Kd.sh, D.bl (subT "dict" "tuple"))) QG = _
  rw [show subT "dict" "tuple" = false by decide]
  exact wG_some
theorem gi_dict_non  : wG (isiD "dict" .non) QG = QG .sh (.bl false) := by
  show wG (some (Kd.sh, D.bl (subT "NoneType" "dict"))) QG = _
  rw [show subT "NoneType" "dict" = false by decide]
  exact wG_some
theorem gi_dict_bl {b : Bool} : wG (isiD "dict" (.bl b)) QG = QG .sh (.bl false) := by
  show wG (some (Kd.sh, D.bl (subT "bool" "dict"))) QG = _
  rw [show subT "bool" "dict" = false by decide]
  exact wG_some
theorem gi_dict_int {i : Int} : wG (isiD "dict" (.int i)) QG = QG .sh (.bl false) := by
  show wG (some (Kd.sh, D.bl (subT "int" "dict"))) QG = _
  rw [show subT "int" "dict" = false by decide]
  exact wG_some
theorem gi_dict_str {x : Str} : wG (isiD "dict" (.str x)) QG = QG .sh (.bl false) := by
  show wG (some (Kd.sh, D.bl (subT "str" "dict"))) QG = _
  rw [show subT "str" "dict" = false by decide]
  exact wG_some
theorem gi_dict_lst {ds : List D} : wG (isiD "dict" (.lst ds)) QG = QG .sh (.bl false) := by
  show wG (some (Kd.sh, D.bl (subT "list" "dict"))) QG = _
  rw [show subT "list" "dict" = false by decide]
  exact wG_some
theorem gi_dict_tup {ds : List D} : wG (isiD "dict" (.tup ds)) QG = QG .sh (.bl false) := by
  show wG (some (Kd.sh, D.bl (subT "tuple" "dict"))) QG = _
  rw [show subT "tuple" "dict" = false by decide]
  exact wG_some
theorem gi_dict_scr {ds : List Int} : wG (isiD "dict" (.scr ds)) QG = QG .sh (.bl false) := by
  show wG (some (Kd.sh, D.bl (subT "list" "dict"))) QG = _
  rw [show subT "list" "dict" = false by decide]
  exact wG_some
theorem gi_dict_dct {ds : List (Key × D)} : wG (isiD "dict" (.dct ds)) QG = QG .sh (.bl true) := by
  show wG (some (Kd.sh, D.bl (subT "dict" "dict"))) QG = _
  rw [show subT "dict" "dict" = true by decide]
  exact wG_some
theorem tr_b {b : Bool} : truD (.bl b) = some b := rfl
end
end PD
namespace C
open PySem L2 PD
theorem mulOk_r {i j : Int} (h1 : -(2 ^ 64) < j) (h2 : j < 2 ^ 64) : mulOk i j = true := by
  unfold mulOk
  rw [Bool.or_eq_true, Bool.or_eq_true]
  exact .inl (.inr (decide_eq_true ⟨h1, h2⟩))
theorem mulOk_l {i j : Int} (h1 : -(2 ^ 64) < i) (h2 : i < 2 ^ 64) : mulOk i j = true := by
  unfold mulOk
  rw [Bool.or_eq_true, Bool.or_eq_true]
  exact .inl (.inl (decide_eq_true ⟨h1, h2⟩))
theorem atI_nat {α : Type} {xs : List α} {k : Nat} : atI xs (k : Int) = xs[k]? := by
  unfold atI ixN
  rw [if_pos (by omega)]
  by_cases h : (k : Int) < xs.length
  · rw [if_pos h]; rfl
  · rw [if_neg h]
    exact (List.getElem?_eq_none (by omega)).symm
theorem atI_of_nat {α : Type} {xs : List α} {i : Int} {k : Nat} (h : i = (k : Int)) : atI xs i = xs[k]? := by subst h; exact atI_nat
theorem atI_some {α : Type} {xs : List α} {i : Int} (h0 : 0 ≤ i) (h1 : i < xs.length) : ∃ x, atI xs i = some x ∧ xs[i.toNat]? = some x := by
  refine ⟨xs[i.toNat]'(by omega), ?_, List.getElem?_eq_getElem (by omega)⟩
  rw [atI_of_nat (k := i.toNat) (by omega)]
  exact List.getElem?_eq_getElem (by omega)
theorem atI_map' {α β : Type} {f : α → β} {xs : List α} {i : Int} : atI (xs.map f) i = (atI xs i).map f := by
  unfold atI
  rw [List.length_map]
  cases ixN xs.length i with
  | none => rfl
  | some j => simp
theorem ex_some {α : Type} {x : α} {P : α → Prop} : (∃ y, some x = some y ∧ P y) = P x := propext ⟨fun ⟨_, e, p⟩ => by cases e; exact p, fun p => ⟨_, rfl, p⟩⟩
theorem dT {p : Prop} [Decidable p] : (decide p = true) = p := propext decide_eq_true_iff
theorem snb : (Kd.sh ≠ Kd.bo) = True := propext ⟨fun _ => trivial, fun _ => by simp⟩
theorem nnb : (Kd.nw ≠ Kd.bo) = True := propext ⟨fun _ => trivial, fun _ => by simp⟩
theorem rng1_ok {n : Nat} (h : n < 2 ^ 62) : rng1D [.int (n : Int)] = some (rngL 0 n) := by
  unfold rng1D
  dsimp only
  rw [if_pos (by omega), Int.toNat_natCast]
theorem rngL_get {n i : Nat} {d : D} : ((rngL 0 n)[i]? = some d) = (i < n ∧ d = .int i) := by
  unfold rngL
  apply propext
  rw [List.getElem?_map]
  by_cases h : i < n
  · rw [List.getElem?_range h]
    simp [h, eq_comm]
  · rw [List.getElem?_eq_none (by simp; omega)]
    simp [h]
theorem rngL_len {n : Nat} : (rngL 0 n).length = n := by simp [rngL]
theorem w_cut {F1 F2 : En → Option Out} {en : En} {QO : Out → Prop} (I : En → Prop) (h1 : wO (F1 en) (onO QO I)) (h2 : ∀ en1, I en1 → wO (F2 en1) QO) : wO (fSeq F1 F2 en) QO := by
  rw [w_seq]
  refine h1.mono fun o h => ?_
  cases o with
  | nx en1 => exact h2 en1 h
  | _ => exact h
/-- a comprehension without tests over a typed list -/
theorem lc_map {α : Type} {i : Nat} {fe : En → Option R} {en : En} {c g : α → D} : ∀ (ys : List α), (∀ y ∈ ys, wR (fe (en.set i (some (.sh (c y))))) fun r => ∃ k, r = .val k (g y) ∧ k ≠ .bo) → tgIf (hName i) fYes fe en (ys.map c) = some (ys.map g)
  | [], _ => rfl
  | y :: r, h => by
    obtain ⟨x, e, k, rfl, hk⟩ := h y List.mem_cons_self
    have ih := lc_map r fun z hz => h z (List.mem_cons_of_mem _ hz)
    rw [List.map_cons]
    unfold tgIf
    simp only [hName, fYes, e]
    cases k with
    | sh => simp only [shr, ih]; rfl
    | nw => simp only [shr, ih]; rfl
    | bo => exact absurd rfl hk
/-- a figure -/
theorem fig_pow : (10 ^ Int.toNat 60 * 10 ^ Int.toNat 60 * 10 ^ Int.toNat 60 : Int) = 10 ^ 180 := by decide +kernel
theorem figure_spec (ns : List Int) (i : Nat) : wR (F_Lfigure [.scr ns, .int i]) fun r => ∃ z : Int, r = .val .sh (.int z) ∧ 0 ≤ z ∧ z < 10 ^ 180 := by
  have c1 : (0 ≤ (60 : Int) ∧ (60 : Int) ≤ 1000000 ∧ Int.natAbs 10 < 2 ^ 64) = True := eq_true (by decide)
  have c2 : (mulOk (10 ^ Int.toNat 60) (10 ^ Int.toNat 60) = true) = True := eq_true (by decide +kernel)
  have c3 : (mulOk (10 ^ Int.toNat 60 * 10 ^ Int.toNat 60) (10 ^ Int.toNat 60) = true) = True := eq_true (by decide +kernel)
  have c4 : ((0 : Int) < 10 ^ 180) = True := eq_true (by decide +kernel)
  have c5 : ∀ x : Int, (∃ z, R.val Kd.sh (D.int (x % 10 ^ 180)) = R.val Kd.sh (D.int z) ∧ 0 ≤ z ∧ z < 10 ^ 180) = True := fun x => eq_true ⟨_, rfl, Int.emod_nonneg _ (by decide +kernel), Int.emod_lt_of_pos _ (by decide +kernel)⟩
  have c6 : ∀ x : Int, (mulOk 2 x = true) = True := fun x => eq_true (mulOk_l (by decide) (by decide))
  rw [F_Lfigure, w_run, b_Lfigure]
  by_cases h : (i : Int) < ns.length
  · obtain ⟨x, hx, _⟩ := atI_some (xs := ns) (i := i) (by omega) h
    simp only [start_def, List.map_cons, List.map_nil, List.length_cons, List.length_nil, Nat.reduceAdd, Nat.reduceSub, List.replicate_succ, List.replicate_zero, List.cons_append, List.nil_append, Z1, Z2, z_bO0, z_bO1, z_for, z_lc, onV_v, onV_e, onS_v, onS_e, onB_v, onB_e, onBR_v, onBR_e, onA_v, onA_e, onVB_v, onVB_e, onVA_v, onVA_e, onAA_v, onAA_e, onAO_v, onAO_e, onBB_v, onBB_e, onO_n, onO_r, onO_b, onO_c, onO_e, onT_n, onT_c, onT_b, onT_r, onT_e, onR_n, onR_r, onR_e, okK_s, okK_n, wO_some, wR_some, wB_some, wA_some, z_lf, z_shr, w_c, w_var, z_op, z_un, z_tB1, z_truR, z_chain, z_andT, z_orT, z_notT, z_andV, z_orV, z_notV, z_if, w_nil, z_cons, z_lst, z_tup, w_dct0, z_call, z_bn, z_sm, z_sl, z_star, z_sh, z_set, z_asg, z_drop, z_ret, w_retV, w_retN, w_nx, z_seq, w_frz, z_ifS, z_app, z_put, z_items, z_it, g_add, g_sub, g_neg, g_mul, g_rep, g_fdiv, g_mod, g_pow, g_addS, g_addL, g_cmp0, g_eqI, g_eqS, g_eqB, g_lenL, g_lenT, g_lenR, g_lenS, g_int, g_intB, g_str, g_listL, g_listT, g_listM, g_tup, g_abs, g_max2, g_min2, gz_ixL, gz_ixT, gz_ixR, g_slL, gi_bool_non, gi_bool_bl, gi_bool_int, gi_bool_str, gi_bool_lst, gi_bool_tup, gi_bool_scr, gi_bool_dct, gi_int_non, gi_int_bl, gi_int_int, gi_int_str, gi_int_lst, gi_int_tup, gi_int_scr, gi_int_dct, gi_str_non, gi_str_bl, gi_str_int, gi_str_str, gi_str_lst, gi_str_tup, gi_str_scr, gi_str_dct, gi_list_non, gi_list_bl, gi_list_int, gi_list_str, gi_list_lst, gi_list_tup, gi_list_scr, gi_list_dct, gi_tuple_non, gi_tuple_bl, gi_tuple_int, gi_tuple_str, gi_tuple_lst, gi_tuple_tup, gi_tuple_scr, gi_tuple_dct, gi_dict_non, gi_dict_bl, gi_dict_int, gi_dict_str, gi_dict_lst, gi_dict_tup, gi_dict_scr, gi_dict_dct, tr_b, true_and, and_true, eq_self, exO_some, hTL_l, hTL_t, hName_e, hCons_c, hNil_n, bind_so, it_l, it_t, it_r, List.getElem?_cons_zero, List.getElem?_cons_succ, List.set_cons_zero, List.set_cons_succ, true_and, and_true, Nat.zero_le, snb, nnb, ex_some, dT, if_true, Bool.false_eq_true, if_false, wipeE, Int.reduceLT, List.length_nil, List.length_cons, Nat.reduceAdd, Nat.reduceLeDiff, Nat.reduceLT, h, hx, c1, c2, c3, true_and, fig_pow, c4, c5, c6, snb, ite_self, and_true]
  · simp only [start_def, List.map_cons, List.map_nil, List.length_cons, List.length_nil, Nat.reduceAdd, Nat.reduceSub, List.replicate_succ, List.replicate_zero, List.cons_append, List.nil_append, Z1, Z2, z_bO0, z_bO1, z_for, z_lc, onV_v, onV_e, onS_v, onS_e, onB_v, onB_e, onBR_v, onBR_e, onA_v, onA_e, onVB_v, onVB_e, onVA_v, onVA_e, onAA_v, onAA_e, onAO_v, onAO_e, onBB_v, onBB_e, onO_n, onO_r, onO_b, onO_c, onO_e, onT_n, onT_c, onT_b, onT_r, onT_e, onR_n, onR_r, onR_e, okK_s, okK_n, wO_some, wR_some, wB_some, wA_some, z_lf, z_shr, w_c, w_var, z_op, z_un, z_tB1, z_truR, z_chain, z_andT, z_orT, z_notT, z_andV, z_orV, z_notV, z_if, w_nil, z_cons, z_lst, z_tup, w_dct0, z_call, z_bn, z_sm, z_sl, z_star, z_sh, z_set, z_asg, z_drop, z_ret, w_retV, w_retN, w_nx, z_seq, w_frz, z_ifS, z_app, z_put, z_items, z_it, g_add, g_sub, g_neg, g_mul, g_rep, g_fdiv, g_mod, g_pow, g_addS, g_addL, g_cmp0, g_eqI, g_eqS, g_eqB, g_lenL, g_lenT, g_lenR, g_lenS, g_int, g_intB, g_str, g_listL, g_listT, g_listM, g_tup, g_abs, g_max2, g_min2, gz_ixL, gz_ixT, gz_ixR, g_slL, gi_bool_non, gi_bool_bl, gi_bool_int, gi_bool_str, gi_bool_lst, gi_bool_tup, gi_bool_scr, gi_bool_dct, gi_int_non, gi_int_bl, gi_int_int, gi_int_str, gi_int_lst, gi_int_tup, gi_int_scr, gi_int_dct, gi_str_non, gi_str_bl, gi_str_int, gi_str_str, gi_str_lst, gi_str_tup, gi_str_scr, gi_str_dct, gi_list_non, gi_list_bl, gi_list_int, gi_list_str, gi_list_lst, gi_list_tup, gi_list_scr, gi_list_dct, gi_tuple_non, gi_tuple_bl, gi_tuple_int, gi_tuple_str, gi_tuple_lst, gi_tuple_tup, gi_tuple_scr, gi_tuple_dct, gi_dict_non, gi_dict_bl, gi_dict_int, gi_dict_str, gi_dict_lst, gi_dict_tup, gi_dict_scr, gi_dict_dct, tr_b, true_and, and_true, eq_self, exO_some, hTL_l, hTL_t, hName_e, hCons_c, hNil_n, bind_so, it_l, it_t, it_r, List.getElem?_cons_zero, List.getElem?_cons_succ, List.set_cons_zero, List.set_cons_succ, true_and, and_true, Nat.zero_le, snb, nnb, ex_some, dT, if_true, Bool.false_eq_true, if_false, wipeE, Int.reduceLT, List.length_nil, List.length_cons, Nat.reduceAdd, Nat.reduceLeDiff, Nat.reduceLT, h, c1, c2, c3, true_and, fig_pow, c4, c5, c6, snb, ite_self, and_true]
/-- drawn numbers lie below their limits -/
theorem log_of {l : Int} {m : Nat} (h0 : 0 < l) (h : l < 2 ^ m) : l.natAbs.log2 < m := by
  have e : l = (l.natAbs : Int) := by omega
  rw [e] at h
  have h2 : l.natAbs < 2 ^ m := by exact_mod_cast h
  exact (Nat.log2_lt (by omega)).mpr h2
theorem log_100 {l : Int} (h0 : 0 < l) (h : l ≤ 10 ^ 100) : l.natAbs.log2 < 9000 := log_of h0 (Int.lt_of_le_of_lt h (by decide +kernel))
theorem below_app {ds lim : List Int} {d l : Int} (h : ∀ (k : Nat) (d l : Int), ds[k]? = some d → lim[k]? = some l → 0 ≤ d ∧ d < l) (hl : lim[ds.length]? = some l) (hd : 0 ≤ d ∧ d < l) :
    ∀ (k : Nat) (x y : Int), (ds ++ [d])[k]? = some x → lim[k]? = some y → 0 ≤ x ∧ x < y := fun k x y hx hy => by
  by_cases hk : k < ds.length
  · rw [List.getElem?_append_left hk] at hx
    exact h k x y hx hy
  · by_cases e : k = ds.length
    · subst e
      rw [hl] at hy
      cases hy
      simp at hx
      subst hx
      exact hd
    · rw [List.getElem?_eq_none (by simp; omega)] at hx
      cases hx
/-- drawn numbers lie below their limits -/
def Below (ds lim : List Int) : Prop := ds.length = lim.length ∧ ∀ (k : Nat) (d l : Int), ds[k]? = some d → lim[k]? = some l → 0 ≤ d ∧ d < l
theorem draws_spec (ns : List Int) (i : Nat) (lim : List Int) (hl : lim.length < 10000) (hp : ∀ l ∈ lim, 0 < l ∧ l ≤ 10 ^ 100) :
    wR (F_Ldraws [.scr ns, .int i, .lst (lim.map .int)]) fun r => ∃ ds : List Int, r = .val .nw (.lst (ds.map .int)) ∧ Below ds lim := by
  rw [F_Ldraws, w_run, b_Ldraws]
  simp only [start_def, List.map_cons, List.map_nil, List.length_cons, List.length_nil, Nat.reduceAdd, Nat.reduceSub, List.replicate_succ, List.replicate_zero, List.cons_append, List.nil_append, Z1, Z2, z_bO0, z_bO1, z_for, z_lc, onV_v, onV_e, onS_v, onS_e, onB_v, onB_e, onBR_v, onBR_e, onA_v, onA_e, onVB_v, onVB_e, onVA_v, onVA_e, onAA_v, onAA_e, onAO_v, onAO_e, onBB_v, onBB_e, onO_n, onO_r, onO_b, onO_c, onO_e, onT_n, onT_c, onT_b, onT_r, onT_e, onR_n, onR_r, onR_e, okK_s, okK_n, wO_some, wR_some, wB_some, wA_some, z_lf, z_shr, w_c, w_var, z_op, z_un, z_tB1, z_truR, z_chain, z_andT, z_orT, z_notT, z_andV, z_orV, z_notV, z_if, w_nil, z_cons, z_lst, z_tup, w_dct0, z_call, z_bn, z_sm, z_sl, z_star, z_sh, z_set, z_asg, z_drop, z_ret, w_retV, w_retN, w_nx, z_seq, w_frz, z_ifS, z_app, z_put, z_items, z_it, g_add, g_sub, g_neg, g_mul, g_rep, g_fdiv, g_mod, g_pow, g_addS, g_addL, g_cmp0, g_eqI, g_eqS, g_eqB, g_lenL, g_lenT, g_lenR, g_lenS, g_int, g_intB, g_str, g_listL, g_listT, g_listM, g_tup, g_abs, g_max2, g_min2, gz_ixL, gz_ixT, gz_ixR, g_slL, gi_bool_non, gi_bool_bl, gi_bool_int, gi_bool_str, gi_bool_lst, gi_bool_tup, gi_bool_scr, gi_bool_dct, gi_int_non, gi_int_bl, gi_int_int, gi_int_str, gi_int_lst, gi_int_tup, gi_int_scr, gi_int_dct, gi_str_non, gi_str_bl, gi_str_int, gi_str_str, gi_str_lst, gi_str_tup, gi_str_scr, gi_str_dct, gi_list_non, gi_list_bl, gi_list_int, gi_list_str, gi_list_lst, gi_list_tup, gi_list_scr, gi_list_dct, gi_tuple_non, gi_tuple_bl, gi_tuple_int, gi_tuple_str, gi_tuple_lst, gi_tuple_tup, gi_tuple_scr, gi_tuple_dct, gi_dict_non, gi_dict_bl, gi_dict_int, gi_dict_str, gi_dict_lst, gi_dict_tup, gi_dict_scr, gi_dict_dct, tr_b, true_and, and_true, eq_self, exO_some, hTL_l, hTL_t, hName_e, hCons_c, hNil_n, bind_so, it_l, it_t, it_r, List.getElem?_cons_zero, List.getElem?_cons_succ, List.set_cons_zero, List.set_cons_succ, true_and, and_true, Nat.zero_le, snb, nnb, ex_some, dT, if_true, Bool.false_eq_true, if_false, wipeE, Int.reduceLT, List.length_nil, List.length_cons, Nat.reduceAdd, Nat.reduceLeDiff, Nat.reduceLT]
  refine (figure_spec ns i).mono ?_
  rintro r ⟨z, rfl, hz⟩
  simp only [Z1, Z2, z_bO0, z_bO1, z_for, z_lc, onV_v, onV_e, onS_v, onS_e, onB_v, onB_e, onBR_v, onBR_e, onA_v, onA_e, onVB_v, onVB_e, onVA_v, onVA_e, onAA_v, onAA_e, onAO_v, onAO_e, onBB_v, onBB_e, onO_n, onO_r, onO_b, onO_c, onO_e, onT_n, onT_c, onT_b, onT_r, onT_e, onR_n, onR_r, onR_e, okK_s, okK_n, wO_some, wR_some, wB_some, wA_some, z_lf, z_shr, w_c, w_var, z_op, z_un, z_tB1, z_truR, z_chain, z_andT, z_orT, z_notT, z_andV, z_orV, z_notV, z_if, w_nil, z_cons, z_lst, z_tup, w_dct0, z_call, z_bn, z_sm, z_sl, z_star, z_sh, z_set, z_asg, z_drop, z_ret, w_retV, w_retN, w_nx, z_seq, w_frz, z_ifS, z_app, z_put, z_items, z_it, g_add, g_sub, g_neg, g_mul, g_rep, g_fdiv, g_mod, g_pow, g_addS, g_addL, g_cmp0, g_eqI, g_eqS, g_eqB, g_lenL, g_lenT, g_lenR, g_lenS, g_int, g_intB, g_str, g_listL, g_listT, g_listM, g_tup, g_abs, g_max2, g_min2, gz_ixL, gz_ixT, gz_ixR, g_slL, gi_bool_non, gi_bool_bl, gi_bool_int, gi_bool_str, gi_bool_lst, gi_bool_tup, gi_bool_scr, gi_bool_dct, gi_int_non, gi_int_bl, gi_int_int, gi_int_str, gi_int_lst, gi_int_tup, gi_int_scr, gi_int_dct, gi_str_non, gi_str_bl, gi_str_int, gi_str_str, gi_str_lst, gi_str_tup, gi_str_scr, gi_str_dct, gi_list_non, gi_list_bl, gi_list_int, gi_list_str, gi_list_lst, gi_list_tup, gi_list_scr, gi_list_dct, gi_tuple_non, gi_tuple_bl, gi_tuple_int, gi_tuple_str, gi_tuple_lst, gi_tuple_tup, gi_tuple_scr, gi_tuple_dct, gi_dict_non, gi_dict_bl, gi_dict_int, gi_dict_str, gi_dict_lst, gi_dict_tup, gi_dict_scr, gi_dict_dct, tr_b, true_and, and_true, eq_self, exO_some, hTL_l, hTL_t, hName_e, hCons_c, hNil_n, bind_so, it_l, it_t, it_r, List.getElem?_cons_zero, List.getElem?_cons_succ, List.set_cons_zero, List.set_cons_succ, true_and, and_true, Nat.zero_le, snb, nnb, ex_some, dT, if_true, Bool.false_eq_true, if_false, wipeE, Int.reduceLT, List.length_nil, List.length_cons, Nat.reduceAdd, Nat.reduceLeDiff, Nat.reduceLT]
  have c1 : (0 ≤ (18 : Int) ∧ (18 : Int) ≤ 1000000 ∧ Int.natAbs 10 < 2 ^ 64) = True := eq_true (by decide)
  simp only [c1, true_and]
  simp only [Z1, Z2, z_bO0, z_bO1, z_for, z_lc, onV_v, onV_e, onS_v, onS_e, onB_v, onB_e, onBR_v, onBR_e, onA_v, onA_e, onVB_v, onVB_e, onVA_v, onVA_e, onAA_v, onAA_e, onAO_v, onAO_e, onBB_v, onBB_e, onO_n, onO_r, onO_b, onO_c, onO_e, onT_n, onT_c, onT_b, onT_r, onT_e, onR_n, onR_r, onR_e, okK_s, okK_n, wO_some, wR_some, wB_some, wA_some, z_lf, z_shr, w_c, w_var, z_op, z_un, z_tB1, z_truR, z_chain, z_andT, z_orT, z_notT, z_andV, z_orV, z_notV, z_if, w_nil, z_cons, z_lst, z_tup, w_dct0, z_call, z_bn, z_sm, z_sl, z_star, z_sh, z_set, z_asg, z_drop, z_ret, w_retV, w_retN, w_nx, z_seq, w_frz, z_ifS, z_app, z_put, z_items, z_it, g_add, g_sub, g_neg, g_mul, g_rep, g_fdiv, g_mod, g_pow, g_addS, g_addL, g_cmp0, g_eqI, g_eqS, g_eqB, g_lenL, g_lenT, g_lenR, g_lenS, g_int, g_intB, g_str, g_listL, g_listT, g_listM, g_tup, g_abs, g_max2, g_min2, gz_ixL, gz_ixT, gz_ixR, g_slL, gi_bool_non, gi_bool_bl, gi_bool_int, gi_bool_str, gi_bool_lst, gi_bool_tup, gi_bool_scr, gi_bool_dct, gi_int_non, gi_int_bl, gi_int_int, gi_int_str, gi_int_lst, gi_int_tup, gi_int_scr, gi_int_dct, gi_str_non, gi_str_bl, gi_str_int, gi_str_str, gi_str_lst, gi_str_tup, gi_str_scr, gi_str_dct, gi_list_non, gi_list_bl, gi_list_int, gi_list_str, gi_list_lst, gi_list_tup, gi_list_scr, gi_list_dct, gi_tuple_non, gi_tuple_bl, gi_tuple_int, gi_tuple_str, gi_tuple_lst, gi_tuple_tup, gi_tuple_scr, gi_tuple_dct, gi_dict_non, gi_dict_bl, gi_dict_int, gi_dict_str, gi_dict_lst, gi_dict_tup, gi_dict_scr, gi_dict_dct, tr_b, true_and, and_true, eq_self, exO_some, hTL_l, hTL_t, hName_e, hCons_c, hNil_n, bind_so, it_l, it_t, it_r, List.getElem?_cons_zero, List.getElem?_cons_succ, List.set_cons_zero, List.set_cons_succ, true_and, and_true, Nat.zero_le, snb, nnb, ex_some, dT, if_true, Bool.false_eq_true, if_false, wipeE, Int.reduceLT, List.length_nil, List.length_cons, Nat.reduceAdd, Nat.reduceLeDiff, Nat.reduceLT, List.length_map, rng1_ok (show lim.length < 2 ^ 62 by omega)]
  refine forD_inv _ (fun k en => ∃ (rest : Int) (ds : List Int) (o6 o7 : Option Sl), en = [some (Sl.sh (D.scr ns)), some (Sl.sh (D.int i)), some (Sl.sh (D.lst (lim.map .int))), some (Sl.sh (D.int z)), some (Sl.sh (D.int rest)), some (Sl.ow (D.lst (ds.map .int))), o6, o7] ∧ ds.length = k ∧ ∀ (k : Nat) (d l : Int), ds[k]? = some d → lim[k]? = some l → 0 ≤ d ∧ d < l) _
    ⟨_, [], none, none, rfl, rfl, fun k d l h => by simp at h⟩ ?_ ?_
  · rintro k d en hd ⟨rest, ds, o6, o7, rfl, hk, hb⟩
    rw [rngL_get] at hd
    obtain ⟨hk2, rfl⟩ := hd
    refine ⟨_, rfl, ?_⟩
    obtain ⟨l, h1⟩ : ∃ l, lim[k]? = some l := ⟨lim[k], List.getElem?_eq_getElem hk2⟩
    have hl2 := hp l (List.mem_of_getElem? h1)
    have h2 : atI (lim.map D.int) (k : Int) = some (.int l) := by rw [atI_map', atI_nat, h1]; rfl
    simp only [Z1, Z2, z_bO0, z_bO1, z_for, z_lc, onV_v, onV_e, onS_v, onS_e, onB_v, onB_e, onBR_v, onBR_e, onA_v, onA_e, onVB_v, onVB_e, onVA_v, onVA_e, onAA_v, onAA_e, onAO_v, onAO_e, onBB_v, onBB_e, onO_n, onO_r, onO_b, onO_c, onO_e, onT_n, onT_c, onT_b, onT_r, onT_e, onR_n, onR_r, onR_e, okK_s, okK_n, wO_some, wR_some, wB_some, wA_some, z_lf, z_shr, w_c, w_var, z_op, z_un, z_tB1, z_truR, z_chain, z_andT, z_orT, z_notT, z_andV, z_orV, z_notV, z_if, w_nil, z_cons, z_lst, z_tup, w_dct0, z_call, z_bn, z_sm, z_sl, z_star, z_sh, z_set, z_asg, z_drop, z_ret, w_retV, w_retN, w_nx, z_seq, w_frz, z_ifS, z_app, z_put, z_items, z_it, g_add, g_sub, g_neg, g_mul, g_rep, g_fdiv, g_mod, g_pow, g_addS, g_addL, g_cmp0, g_eqI, g_eqS, g_eqB, g_lenL, g_lenT, g_lenR, g_lenS, g_int, g_intB, g_str, g_listL, g_listT, g_listM, g_tup, g_abs, g_max2, g_min2, gz_ixL, gz_ixT, gz_ixR, g_slL, gi_bool_non, gi_bool_bl, gi_bool_int, gi_bool_str, gi_bool_lst, gi_bool_tup, gi_bool_scr, gi_bool_dct, gi_int_non, gi_int_bl, gi_int_int, gi_int_str, gi_int_lst, gi_int_tup, gi_int_scr, gi_int_dct, gi_str_non, gi_str_bl, gi_str_int, gi_str_str, gi_str_lst, gi_str_tup, gi_str_scr, gi_str_dct, gi_list_non, gi_list_bl, gi_list_int, gi_list_str, gi_list_lst, gi_list_tup, gi_list_scr, gi_list_dct, gi_tuple_non, gi_tuple_bl, gi_tuple_int, gi_tuple_str, gi_tuple_lst, gi_tuple_tup, gi_tuple_scr, gi_tuple_dct, gi_dict_non, gi_dict_bl, gi_dict_int, gi_dict_str, gi_dict_lst, gi_dict_tup, gi_dict_scr, gi_dict_dct, tr_b, true_and, and_true, eq_self, exO_some, hTL_l, hTL_t, hName_e, hCons_c, hNil_n, bind_so, it_l, it_t, it_r, List.getElem?_cons_zero, List.getElem?_cons_succ, List.set_cons_zero, List.set_cons_succ, true_and, and_true, Nat.zero_le, snb, nnb, ex_some, dT, if_true, Bool.false_eq_true, if_false, wipeE, Int.reduceLT, List.length_nil, List.length_cons, Nat.reduceAdd, Nat.reduceLeDiff, Nat.reduceLT, c1, h2]
    have sm : -(2 ^ 64) < (k : Int) ∧ (k : Int) < 2 ^ 64 := by omega
    have hk3 : (k : Int) < 10000 := by omega
    have kk : (k : Int) * k ≤ 10000 * 10000 := Int.mul_le_mul (by omega) (by omega) (by omega) (by omega)
    have kk0 : 0 ≤ (k : Int) * k := Int.mul_nonneg (by omega) (by omega)
    have kk2 : 2 * (k : Int) * k = 2 * (k * k) := by rw [Int.mul_assoc]
    have dm : ∀ a : Int, 0 ≤ a % l ∧ a % l < l := fun a => ⟨Int.emod_nonneg _ (by omega), Int.emod_lt_of_pos _ hl2.1⟩
    have fin : ∀ (a r : Int) (p7 : Option Sl), ∃ rest_1 ds_1 o6 o7,
        [some (Sl.sh (D.scr ns)), some (Sl.sh (D.int ↑i)), some (Sl.sh (D.lst (List.map D.int lim))), some (Sl.sh (D.int z)), some (Sl.sh (D.int r)), some (Sl.ow (D.lst (List.map D.int ds ++ [D.int (a % l)]))), some (Sl.sh (D.int ↑k)), p7] =
          [some (Sl.sh (D.scr ns)), some (Sl.sh (D.int ↑i)), some (Sl.sh (D.lst (List.map D.int lim))), some (Sl.sh (D.int z)), some (Sl.sh (D.int rest_1)), some (Sl.ow (D.lst (List.map D.int ds_1))), o6, o7] ∧
        ds_1.length = k + 1 ∧ ∀ (k : Nat) (d l : Int), ds_1[k]? = some d → lim[k]? = some l → 0 ≤ d ∧ d < l := fun a r p7 =>
      ⟨r, ds ++ [a % l], _, _, by rw [List.map_append]; rfl, by rw [List.length_append, hk]; rfl, below_app hb (by rw [hk]; exact h1) (dm a)⟩
    refine ⟨mulOk_l (by decide) (by decide), mulOk_r (by omega) (by omega), mulOk_r (by omega) (by omega), mulOk_r (by decide) (by decide), mulOk_r (by decide) (by decide), mulOk_r ?_ ?_, mulOk_l (by decide) (by decide), by decide, ?_⟩
    · omega
    · omega
    · have lnt : (List.map D.int ds).length < 16777216 := by rw [List.length_map]; omega
      split
      · exact ⟨⟨hl2.1, log_100 hl2.1 hl2.2⟩, hl2.1, lnt, fin _ _ _⟩
      · exact ⟨hl2.1, lnt, fin _ _ _⟩
  · rintro en ⟨rest, ds, o6, o7, rfl, hk, hb⟩
    simp only [Z1, Z2, z_bO0, z_bO1, z_for, z_lc, onV_v, onV_e, onS_v, onS_e, onB_v, onB_e, onBR_v, onBR_e, onA_v, onA_e, onVB_v, onVB_e, onVA_v, onVA_e, onAA_v, onAA_e, onAO_v, onAO_e, onBB_v, onBB_e, onO_n, onO_r, onO_b, onO_c, onO_e, onT_n, onT_c, onT_b, onT_r, onT_e, onR_n, onR_r, onR_e, okK_s, okK_n, wO_some, wR_some, wB_some, wA_some, z_lf, z_shr, w_c, w_var, z_op, z_un, z_tB1, z_truR, z_chain, z_andT, z_orT, z_notT, z_andV, z_orV, z_notV, z_if, w_nil, z_cons, z_lst, z_tup, w_dct0, z_call, z_bn, z_sm, z_sl, z_star, z_sh, z_set, z_asg, z_drop, z_ret, w_retV, w_retN, w_nx, z_seq, w_frz, z_ifS, z_app, z_put, z_items, z_it, g_add, g_sub, g_neg, g_mul, g_rep, g_fdiv, g_mod, g_pow, g_addS, g_addL, g_cmp0, g_eqI, g_eqS, g_eqB, g_lenL, g_lenT, g_lenR, g_lenS, g_int, g_intB, g_str, g_listL, g_listT, g_listM, g_tup, g_abs, g_max2, g_min2, gz_ixL, gz_ixT, gz_ixR, g_slL, gi_bool_non, gi_bool_bl, gi_bool_int, gi_bool_str, gi_bool_lst, gi_bool_tup, gi_bool_scr, gi_bool_dct, gi_int_non, gi_int_bl, gi_int_int, gi_int_str, gi_int_lst, gi_int_tup, gi_int_scr, gi_int_dct, gi_str_non, gi_str_bl, gi_str_int, gi_str_str, gi_str_lst, gi_str_tup, gi_str_scr, gi_str_dct, gi_list_non, gi_list_bl, gi_list_int, gi_list_str, gi_list_lst, gi_list_tup, gi_list_scr, gi_list_dct, gi_tuple_non, gi_tuple_bl, gi_tuple_int, gi_tuple_str, gi_tuple_lst, gi_tuple_tup, gi_tuple_scr, gi_tuple_dct, gi_dict_non, gi_dict_bl, gi_dict_int, gi_dict_str, gi_dict_lst, gi_dict_tup, gi_dict_scr, gi_dict_dct, tr_b, true_and, and_true, eq_self, exO_some, hTL_l, hTL_t, hName_e, hCons_c, hNil_n, bind_so, it_l, it_t, it_r, List.getElem?_cons_zero, List.getElem?_cons_succ, List.set_cons_zero, List.set_cons_succ, true_and, and_true, Nat.zero_le, snb, nnb, ex_some, dT, if_true, Bool.false_eq_true, if_false, wipeE, Int.reduceLT, List.length_nil, List.length_cons, Nat.reduceAdd, Nat.reduceLeDiff, Nat.reduceLT]
    exact ⟨ds, rfl, by rw [hk, rngL_len], hb⟩
end C
namespace C
open PySem L2 PD
/-! ### texts -/
theorem sl_app (a b : Str) : (a ++ b).length = a.length + b.length := by
  show (a.cps ++ b.cps).size = _
  rw [Array.size_append]
  rfl
theorem num_len (i : Int) {k : Nat} (hk : 0 < k) (h : i.natAbs < 10 ^ k) : (Str.ofString (toString i)).length ≤ k + 1 := by
  cases i with
  | ofNat n =>
    have e : (Str.ofString (toString (Int.ofNat n))).cps.toList = TL.numL n := TL.tl_num n
    have l : (Str.ofString (toString (Int.ofNat n))).length = (TL.numL n).length := by rw [← e]; exact Array.length_toList.symm
    rw [l]
    exact Nat.le_succ_of_le (TL.numL_len hk h)
  | negSucc n =>
    have e2 : (toString (Int.negSucc n)) = "-" ++ toString ((n + 1 : Nat) : Int) := rfl
    have e : (Str.ofString (toString (Int.negSucc n))).cps.toList = 45 :: TL.numL (n + 1) := by
      rw [e2, Str.ofString_eq_toList]
      have e3 : (Str.ofString (toString ((n + 1 : Nat) : Int))).cps.toList = TL.numL (n + 1) := TL.tl_num (n + 1)
      rw [Str.ofString_eq_toList] at e3
      simp only [String.toList_append, List.map_append] at e3 ⊢
      exact congrArg (45 :: ·) e3
    have l : (Str.ofString (toString (Int.negSucc n))).length = (TL.numL (n + 1)).length + 1 := by
      have : (Str.ofString (toString (Int.negSucc n))).length = (Str.ofString (toString (Int.negSucc n))).cps.toList.length := Array.length_toList.symm
      rw [this, e]; rfl
    rw [l]
    exact Nat.succ_le_succ (TL.numL_len hk h)
theorem log_abs {i : Int} {k : Nat} (h : i.natAbs < 2 ^ k) (hk : 0 < k) : i.natAbs.log2 < k := by
  by_cases h0 : i.natAbs = 0
  · rw [h0]; simpa using hk
  · exact (Nat.log2_lt h0).mpr h
theorem one_len (c : Nat) : (⟨#[c]⟩ : Str).length = 1 := rfl
theorem cut1_len (z : Str) (h : 1 ≤ z.length) : (cutS z (some 1) none).length = z.length - 1 := by
  have e : HT.sIx z.length 0 (some 1) = 1 := by rw [show (1 : Int) = ((1 : Nat) : Int) from rfl, HT.sIx_nat]; omega
  show (List.toArray _).size = _
  rw [e, HT.sIx_none, List.size_toArray, List.length_take, List.length_drop, Array.length_toList]
  show min (z.length - 1) (z.length - 1) = z.length - 1
  omega
theorem join0_len : ∀ ys : List Str, (Str.join ⟨#[]⟩ ys).length = (ys.map (·.length)).sum
  | [] => rfl
  | [y] => by simp [Str.join]
  | x :: z :: r => by
    have ih := join0_len (z :: r)
    show (x ++ ⟨#[]⟩ ++ Str.join ⟨#[]⟩ (z :: r)).length = _
    rw [sl_app, sl_app, ih]
    simp [show (⟨#[]⟩ : Str).length = 0 from rfl]
theorem sum_ones : ∀ ys : List Str, (∀ y ∈ ys, y.length = 1) → (ys.map (·.length)).sum = ys.length
  | [], _ => rfl
  | y :: r, h => by
    simp only [List.map_cons, List.sum_cons, List.length_cons]
    rw [h y List.mem_cons_self, sum_ones r fun z hz => h z (List.mem_cons_of_mem _ hz)]
    omega
theorem strsOf_map : ∀ ys : List Str, strsOf (ys.map .str) = some ys
  | [] => rfl
  | y :: r => by simp [strsOf, strsOf_map r]
theorem intsOf_map : ∀ ys : List Int, intsOf (ys.map .int) = some ys
  | [] => rfl
  | y :: r => by simp [intsOf, intsOf_map r]
theorem cutD_nat {α : Type} (xs : List α) (a b : Nat) (h : a ≤ xs.length) (h2 : b ≤ xs.length) : cutD xs (some (a : Int)) (some (b : Int)) = (xs.drop a).take (b - a) := by
  unfold cutD
  rw [HT.sIx_nat, HT.sIx_nat, Nat.min_eq_left h, Nat.min_eq_left h2]
theorem any_mem (x : Str) : ∀ ss : List Str, (ss.any fun y => y == x) = decide (x ∈ ss)
  | [] => rfl
  | a :: r => by
    rw [List.any_cons, any_mem x r]
    by_cases h : a = x
    · subst h; simp
    · have h' : x ≠ a := fun q => h q.symm
      simp [h, h']
theorem g_inS {x : Str} {ss : List Str} {QG : Kd → D → Prop} : wG (inD (.str x) (.lst (ss.map .str))) QG = QG .sh (.bl (decide (x ∈ ss))) := by
  have e : inD (.str x) (.lst (ss.map .str)) = some (.sh, .bl (decide (x ∈ ss))) := by
    have f : (ss.map D.str).all flatD = true := by rw [List.all_map]; exact List.all_eq_true.mpr fun _ _ => rfl
    show (if flatD (.str x) = true ∧ (ss.map D.str).all flatD = true then eqb false ((ss.map D.str).any fun y => eqF y (.str x)) else none) = _
    rw [if_pos ⟨rfl, f⟩, List.any_map]
    show some (Kd.sh, D.bl _) = _
    congr 3
    exact any_mem x ss
  rw [e, wG_some]
theorem g_ixS {z : Str} {i : Int} {QG : Kd → D → Prop} : wG (ixD (.str z) (.int i)) QG = (z.length ≤ 16777216 ∧ exO (atI z.cps.toList i) (Z (fun c => QG .sh (.str ⟨#[c]⟩)) ⟨⟩)) := by
  show wG (if z.length ≤ 16777216 then (atI z.cps.toList i).map fun c => (Kd.sh, D.str ⟨#[c]⟩) else none) QG = _
  split
  · simp only [*, true_and]; exact wG_map
  · simp [*, wG_none]
theorem g_slS {z : Str} {l h : Option Int} {QG : Kd → D → Prop} : wG (slD (.str z) l h) QG = (z.length ≤ 16777216 ∧ QG .sh (.str (cutS z l h))) := wG_if
theorem g_join {a : Str} {ys : List Str} {QG : Kd → D → Prop} : wG (joinD a (.lst (ys.map .str))) QG = ((ys.map (·.length)).sum + ys.length * a.length ≤ 16777216 ∧ QG .sh (.str (Str.join a ys))) := by
  show wG (match strsOf (ys.map .str) with | some ys => if (ys.map (·.length)).sum + ys.length * a.length ≤ 16777216 then some (Kd.sh, D.str (Txt.join a ys)) else none | none => none) QG = _
  rw [strsOf_map, ← TL.join_eq]
  exact wG_if
/-- eight names -/
def Nms (ss : List Str) : Prop := ss.length = 8 ∧ ∀ s ∈ ss, 1 ≤ s.length ∧ s.length ≤ 6
def limN : List Int := 4 :: (List.replicate 8 [6, 26, 26, 26, 26, 26, 26]).flatten
def enN (ns : List Int) (i : Nat) (A : Str) (ds : List Int) (ss : List Str) (k : Nat) (o7 o8 o9 o10 : Option Sl) : En := [some (Sl.sh (D.scr ns)), some (Sl.sh (D.int i)), some (Sl.sh (D.int 8)), some (Sl.sh (D.str A)), some (Sl.sh (D.lst (ds.map .int))), some (Sl.ow (D.lst (ss.map .str))), some (Sl.sh (D.int k)), o7, o8, o9, o10]
theorem names_spec (ns : List Int) (i : Nat) : wR (F_Lnames [.scr ns, .int i, .int 8]) fun r => ∃ ss : List Str, r = .val .nw (.lst (ss.map .str)) ∧ Nms ss := by
  have ix : ∀ k : Nat, k < 8 → limN[1 + 7 * k]? = some 6 ∧ ∀ j : Nat, j < 6 → limN[2 + 7 * k + j]? = some 26 := by decide
  have fl : (Str.ofString "abcdefghijklmnopqrstuvwxyz").length = 26 := by decide +kernel
  have e0 : Str.ofString "" = ⟨#[]⟩ := by decide +kernel
  generalize hA : Str.ofString "abcdefghijklmnopqrstuvwxyz" = A at *
  rw [F_Lnames, w_run, b_Lnames]
  rw [hA, e0]
  simp only [start_def, List.map_cons, List.map_nil, List.length_cons, List.length_nil, Nat.reduceAdd, Nat.reduceSub, List.replicate_succ, List.replicate_zero, List.cons_append, List.nil_append, Z1, Z2, z_bO0, z_bO1, z_for, z_lc, onV_v, onV_e, onS_v, onS_e, onB_v, onB_e, onBR_v, onBR_e, onA_v, onA_e, onVB_v, onVB_e, onVA_v, onVA_e, onAA_v, onAA_e, onAO_v, onAO_e, onBB_v, onBB_e, onO_n, onO_r, onO_b, onO_c, onO_e, onT_n, onT_c, onT_b, onT_r, onT_e, onR_n, onR_r, onR_e, okK_s, okK_n, wO_some, wR_some, wB_some, wA_some, z_lf, z_shr, w_c, w_var, z_op, z_un, z_tB1, z_truR, z_chain, z_andT, z_orT, z_notT, z_andV, z_orV, z_notV, z_if, w_nil, z_cons, z_lst, z_tup, w_dct0, z_call, z_bn, z_sm, z_sl, z_star, z_sh, z_set, z_asg, z_drop, z_ret, w_retV, w_retN, w_nx, z_seq, w_frz, z_ifS, z_app, z_put, z_items, z_it, g_add, g_sub, g_neg, g_mul, g_rep, g_fdiv, g_mod, g_pow, g_addS, g_addL, g_cmp0, g_eqI, g_eqS, g_eqB, g_lenL, g_lenT, g_lenR, g_lenS, g_int, g_intB, g_str, g_listL, g_listT, g_listM, g_tup, g_abs, g_max2, g_min2, gz_ixL, gz_ixT, gz_ixR, g_slL, gi_bool_non, gi_bool_bl, gi_bool_int, gi_bool_str, gi_bool_lst, gi_bool_tup, gi_bool_scr, gi_bool_dct, gi_int_non, gi_int_bl, gi_int_int, gi_int_str, gi_int_lst, gi_int_tup, gi_int_scr, gi_int_dct, gi_str_non, gi_str_bl, gi_str_int, gi_str_str, gi_str_lst, gi_str_tup, gi_str_scr, gi_str_dct, gi_list_non, gi_list_bl, gi_list_int, gi_list_str, gi_list_lst, gi_list_tup, gi_list_scr, gi_list_dct, gi_tuple_non, gi_tuple_bl, gi_tuple_int, gi_tuple_str, gi_tuple_lst, gi_tuple_tup, gi_tuple_scr, gi_tuple_dct, gi_dict_non, gi_dict_bl, gi_dict_int, gi_dict_str, gi_dict_lst, gi_dict_tup, gi_dict_scr, gi_dict_dct, tr_b, true_and, and_true, eq_self, exO_some, hTL_l, hTL_t, hName_e, hCons_c, hNil_n, bind_so, it_l, it_t, it_r, List.getElem?_cons_zero, List.getElem?_cons_succ, List.set_cons_zero, List.set_cons_succ, true_and, and_true, Nat.zero_le, snb, nnb, ex_some, dT, if_true, Bool.false_eq_true, if_false, wipeE, Int.reduceLT, List.length_nil, List.length_cons, Nat.reduceAdd, Nat.reduceLeDiff, Nat.reduceLT, g_inS, g_ixS, g_slS, g_join]
  repeat (refine ⟨by first | decide | omega, ?_⟩)
  refine (draws_spec ns i limN (by decide) (by decide +kernel)).mono ?_
  rintro r ⟨ds, rfl, hl, hd⟩
  have hl : ds.length = 57 := hl
  simp only [Z1, Z2, z_bO0, z_bO1, z_for, z_lc, onV_v, onV_e, onS_v, onS_e, onB_v, onB_e, onBR_v, onBR_e, onA_v, onA_e, onVB_v, onVB_e, onVA_v, onVA_e, onAA_v, onAA_e, onAO_v, onAO_e, onBB_v, onBB_e, onO_n, onO_r, onO_b, onO_c, onO_e, onT_n, onT_c, onT_b, onT_r, onT_e, onR_n, onR_r, onR_e, okK_s, okK_n, wO_some, wR_some, wB_some, wA_some, z_lf, z_shr, w_c, w_var, z_op, z_un, z_tB1, z_truR, z_chain, z_andT, z_orT, z_notT, z_andV, z_orV, z_notV, z_if, w_nil, z_cons, z_lst, z_tup, w_dct0, z_call, z_bn, z_sm, z_sl, z_star, z_sh, z_set, z_asg, z_drop, z_ret, w_retV, w_retN, w_nx, z_seq, w_frz, z_ifS, z_app, z_put, z_items, z_it, g_add, g_sub, g_neg, g_mul, g_rep, g_fdiv, g_mod, g_pow, g_addS, g_addL, g_cmp0, g_eqI, g_eqS, g_eqB, g_lenL, g_lenT, g_lenR, g_lenS, g_int, g_intB, g_str, g_listL, g_listT, g_listM, g_tup, g_abs, g_max2, g_min2, gz_ixL, gz_ixT, gz_ixR, g_slL, gi_bool_non, gi_bool_bl, gi_bool_int, gi_bool_str, gi_bool_lst, gi_bool_tup, gi_bool_scr, gi_bool_dct, gi_int_non, gi_int_bl, gi_int_int, gi_int_str, gi_int_lst, gi_int_tup, gi_int_scr, gi_int_dct, gi_str_non, gi_str_bl, gi_str_int, gi_str_str, gi_str_lst, gi_str_tup, gi_str_scr, gi_str_dct, gi_list_non, gi_list_bl, gi_list_int, gi_list_str, gi_list_lst, gi_list_tup, gi_list_scr, gi_list_dct, gi_tuple_non, gi_tuple_bl, gi_tuple_int, gi_tuple_str, gi_tuple_lst, gi_tuple_tup, gi_tuple_scr, gi_tuple_dct, gi_dict_non, gi_dict_bl, gi_dict_int, gi_dict_str, gi_dict_lst, gi_dict_tup, gi_dict_scr, gi_dict_dct, tr_b, true_and, and_true, eq_self, exO_some, hTL_l, hTL_t, hName_e, hCons_c, hNil_n, bind_so, it_l, it_t, it_r, List.getElem?_cons_zero, List.getElem?_cons_succ, List.set_cons_zero, List.set_cons_succ, true_and, and_true, Nat.zero_le, snb, nnb, ex_some, dT, if_true, Bool.false_eq_true, if_false, wipeE, Int.reduceLT, List.length_nil, List.length_cons, Nat.reduceAdd, Nat.reduceLeDiff, Nat.reduceLT, g_inS, g_ixS, g_slS, g_join, show rng1D [D.int 8] = some (rngL 0 8) from rng1_ok (n := 8) (by decide)]
  have at0 : ∀ j : Nat, j < 57 → ∃ x, ds[j]? = some x ∧ atI (ds.map D.int) (j : Int) = some (.int x) := fun j hj =>
    ⟨_, List.getElem?_eq_getElem (by omega), by rw [atI_map', atI_nat, List.getElem?_eq_getElem (by omega)]; rfl⟩
  refine forD_inv _ (fun k en => ∃ (ss : List Str) (o6 o7 o8 o9 o10 : Option Sl), en = [some (Sl.sh (D.scr ns)), some (Sl.sh (D.int i)), some (Sl.sh (D.int 8)), some (Sl.sh (D.str A)), some (Sl.sh (D.lst (ds.map .int))), some (Sl.ow (D.lst (ss.map .str))), o6, o7, o8, o9, o10] ∧ ss.length = k ∧ ∀ s ∈ ss, 1 ≤ s.length ∧ s.length ≤ 6) _
    ⟨[], none, none, none, none, none, rfl, rfl, fun s h => by cases h⟩ ?_ ?_
  · rintro k d en hd0 ⟨ss, o6, o7, o8, o9, o10, rfl, hk, hb⟩
    rw [rngL_get] at hd0
    obtain ⟨hk2, rfl⟩ := hd0
    refine ⟨_, rfl, ?_⟩
    obtain ⟨x1, hx1, ha1⟩ := at0 (1 + 7 * k) (by omega)
    obtain ⟨x0, hx0, ha0⟩ := at0 0 (by omega)
    have b1 := hd _ _ _ hx1 (ix k hk2).1
    have c1 : cutD (ds.map D.int) (some (2 + 7 * (k : Int))) (some (3 + 7 * (k : Int) + x1)) = ((ds.drop (2 + 7 * k)).take (x1.toNat + 1)).map D.int := by
      have := cutD_nat (ds.map D.int) (2 + 7 * k) (3 + 7 * k + x1.toNat) (by rw [List.length_map]; omega) (by rw [List.length_map]; omega)
      rw [show (((2 + 7 * k : Nat) : Int)) = 2 + 7 * (k : Int) by omega, show (((3 + 7 * k + x1.toNat : Nat) : Int)) = 3 + 7 * (k : Int) + x1 by omega] at this
      rw [this, show 3 + 7 * k + x1.toNat - (2 + 7 * k) = x1.toNat + 1 by omega, List.map_take, List.map_drop]
    have ys26 : ∀ y ∈ (ds.drop (2 + 7 * k)).take (x1.toNat + 1), 0 ≤ y ∧ y < 26 := fun y hy => by
      obtain ⟨j, hj⟩ := List.getElem?_of_mem hy
      rw [List.getElem?_take] at hj
      split at hj
      · rw [List.getElem?_drop] at hj
        exact hd _ _ _ hj ((ix k hk2).2 j (by omega))
      · cases hj
    have ysl : ((ds.drop (2 + 7 * k)).take (x1.toNat + 1)).length = x1.toNat + 1 := by rw [List.length_take, List.length_drop]; omega
    generalize (ds.drop (2 + 7 * k)).take (x1.toNat + 1) = ys at *
    rw [show ((1 + 7 * k : Nat) : Int) = 1 + 7 * (k : Int) by omega] at ha1
    rw [show ((0 : Nat) : Int) = 0 from rfl] at ha0
    have m7 : (mulOk 7 (k : Int) = true) = True := eq_true (mulOk_l (by decide) (by decide))
    refine w_cut (fun en => ∃ (zs : List Int), en = enN ns i A ds ss k (some (Sl.sh (D.lst (zs.map .int)))) o8 o9 o10 ∧ zs.length = x1.toNat + 1 ∧ ∀ y ∈ zs, 0 ≤ y ∧ y < 26) ?_ ?_
    · simp only [ha1, m7, Z1, Z2, z_bO0, z_bO1, z_for, z_lc, onV_v, onV_e, onS_v, onS_e, onB_v, onB_e, onBR_v, onBR_e, onA_v, onA_e, onVB_v, onVB_e, onVA_v, onVA_e, onAA_v, onAA_e, onAO_v, onAO_e, onBB_v, onBB_e, onO_n, onO_r, onO_b, onO_c, onO_e, onT_n, onT_c, onT_b, onT_r, onT_e, onR_n, onR_r, onR_e, okK_s, okK_n, wO_some, wR_some, wB_some, wA_some, z_lf, z_shr, w_c, w_var, z_op, z_un, z_tB1, z_truR, z_chain, z_andT, z_orT, z_notT, z_andV, z_orV, z_notV, z_if, w_nil, z_cons, z_lst, z_tup, w_dct0, z_call, z_bn, z_sm, z_sl, z_star, z_sh, z_set, z_asg, z_drop, z_ret, w_retV, w_retN, w_nx, z_seq, w_frz, z_ifS, z_app, z_put, z_items, z_it, g_add, g_sub, g_neg, g_mul, g_rep, g_fdiv, g_mod, g_pow, g_addS, g_addL, g_cmp0, g_eqI, g_eqS, g_eqB, g_lenL, g_lenT, g_lenR, g_lenS, g_int, g_intB, g_str, g_listL, g_listT, g_listM, g_tup, g_abs, g_max2, g_min2, gz_ixL, gz_ixT, gz_ixR, g_slL, gi_bool_non, gi_bool_bl, gi_bool_int, gi_bool_str, gi_bool_lst, gi_bool_tup, gi_bool_scr, gi_bool_dct, gi_int_non, gi_int_bl, gi_int_int, gi_int_str, gi_int_lst, gi_int_tup, gi_int_scr, gi_int_dct, gi_str_non, gi_str_bl, gi_str_int, gi_str_str, gi_str_lst, gi_str_tup, gi_str_scr, gi_str_dct, gi_list_non, gi_list_bl, gi_list_int, gi_list_str, gi_list_lst, gi_list_tup, gi_list_scr, gi_list_dct, gi_tuple_non, gi_tuple_bl, gi_tuple_int, gi_tuple_str, gi_tuple_lst, gi_tuple_tup, gi_tuple_scr, gi_tuple_dct, gi_dict_non, gi_dict_bl, gi_dict_int, gi_dict_str, gi_dict_lst, gi_dict_tup, gi_dict_scr, gi_dict_dct, tr_b, true_and, and_true, eq_self, exO_some, hTL_l, hTL_t, hName_e, hCons_c, hNil_n, bind_so, it_l, it_t, it_r, List.getElem?_cons_zero, List.getElem?_cons_succ, List.set_cons_zero, List.set_cons_succ, true_and, and_true, Nat.zero_le, snb, nnb, ex_some, dT, if_true, Bool.false_eq_true, if_false, wipeE, Int.reduceLT, List.length_nil, List.length_cons, Nat.reduceAdd, Nat.reduceLeDiff, Nat.reduceLT, g_inS, g_ixS, g_slS, g_join, c1]
      exact ⟨ys, rfl, ysl, ys26⟩
    rintro en1 ⟨ys1, rfl, ysl1, ys126⟩
    refine w_cut (fun en => ∃ (zs : List Int), en = enN ns i A ds ss k (some (Sl.sh (D.lst (zs.map .int)))) o8 o9 o10 ∧ zs.length = x1.toNat + 1 ∧ ∀ y ∈ zs, 0 ≤ y ∧ y < 26) ?_ ?_
    · simp only [enN, ha0, Z1, Z2, z_bO0, z_bO1, z_for, z_lc, onV_v, onV_e, onS_v, onS_e, onB_v, onB_e, onBR_v, onBR_e, onA_v, onA_e, onVB_v, onVB_e, onVA_v, onVA_e, onAA_v, onAA_e, onAO_v, onAO_e, onBB_v, onBB_e, onO_n, onO_r, onO_b, onO_c, onO_e, onT_n, onT_c, onT_b, onT_r, onT_e, onR_n, onR_r, onR_e, okK_s, okK_n, wO_some, wR_some, wB_some, wA_some, z_lf, z_shr, w_c, w_var, z_op, z_un, z_tB1, z_truR, z_chain, z_andT, z_orT, z_notT, z_andV, z_orV, z_notV, z_if, w_nil, z_cons, z_lst, z_tup, w_dct0, z_call, z_bn, z_sm, z_sl, z_star, z_sh, z_set, z_asg, z_drop, z_ret, w_retV, w_retN, w_nx, z_seq, w_frz, z_ifS, z_app, z_put, z_items, z_it, g_add, g_sub, g_neg, g_mul, g_rep, g_fdiv, g_mod, g_pow, g_addS, g_addL, g_cmp0, g_eqI, g_eqS, g_eqB, g_lenL, g_lenT, g_lenR, g_lenS, g_int, g_intB, g_str, g_listL, g_listT, g_listM, g_tup, g_abs, g_max2, g_min2, gz_ixL, gz_ixT, gz_ixR, g_slL, gi_bool_non, gi_bool_bl, gi_bool_int, gi_bool_str, gi_bool_lst, gi_bool_tup, gi_bool_scr, gi_bool_dct, gi_int_non, gi_int_bl, gi_int_int, gi_int_str, gi_int_lst, gi_int_tup, gi_int_scr, gi_int_dct, gi_str_non, gi_str_bl, gi_str_int, gi_str_str, gi_str_lst, gi_str_tup, gi_str_scr, gi_str_dct, gi_list_non, gi_list_bl, gi_list_int, gi_list_str, gi_list_lst, gi_list_tup, gi_list_scr, gi_list_dct, gi_tuple_non, gi_tuple_bl, gi_tuple_int, gi_tuple_str, gi_tuple_lst, gi_tuple_tup, gi_tuple_scr, gi_tuple_dct, gi_dict_non, gi_dict_bl, gi_dict_int, gi_dict_str, gi_dict_lst, gi_dict_tup, gi_dict_scr, gi_dict_dct, tr_b, true_and, and_true, eq_self, exO_some, hTL_l, hTL_t, hName_e, hCons_c, hNil_n, bind_so, it_l, it_t, it_r, List.getElem?_cons_zero, List.getElem?_cons_succ, List.set_cons_zero, List.set_cons_succ, true_and, and_true, Nat.zero_le, snb, nnb, ex_some, dT, if_true, Bool.false_eq_true, if_false, wipeE, Int.reduceLT, List.length_nil, List.length_cons, Nat.reduceAdd, Nat.reduceLeDiff, Nat.reduceLT, g_inS, g_ixS, g_slS, g_join]
      split
      · simp only [Z1, Z2, z_bO0, z_bO1, z_for, z_lc, onV_v, onV_e, onS_v, onS_e, onB_v, onB_e, onBR_v, onBR_e, onA_v, onA_e, onVB_v, onVB_e, onVA_v, onVA_e, onAA_v, onAA_e, onAO_v, onAO_e, onBB_v, onBB_e, onO_n, onO_r, onO_b, onO_c, onO_e, onT_n, onT_c, onT_b, onT_r, onT_e, onR_n, onR_r, onR_e, okK_s, okK_n, wO_some, wR_some, wB_some, wA_some, z_lf, z_shr, w_c, w_var, z_op, z_un, z_tB1, z_truR, z_chain, z_andT, z_orT, z_notT, z_andV, z_orV, z_notV, z_if, w_nil, z_cons, z_lst, z_tup, w_dct0, z_call, z_bn, z_sm, z_sl, z_star, z_sh, z_set, z_asg, z_drop, z_ret, w_retV, w_retN, w_nx, z_seq, w_frz, z_ifS, z_app, z_put, z_items, z_it, g_add, g_sub, g_neg, g_mul, g_rep, g_fdiv, g_mod, g_pow, g_addS, g_addL, g_cmp0, g_eqI, g_eqS, g_eqB, g_lenL, g_lenT, g_lenR, g_lenS, g_int, g_intB, g_str, g_listL, g_listT, g_listM, g_tup, g_abs, g_max2, g_min2, gz_ixL, gz_ixT, gz_ixR, g_slL, gi_bool_non, gi_bool_bl, gi_bool_int, gi_bool_str, gi_bool_lst, gi_bool_tup, gi_bool_scr, gi_bool_dct, gi_int_non, gi_int_bl, gi_int_int, gi_int_str, gi_int_lst, gi_int_tup, gi_int_scr, gi_int_dct, gi_str_non, gi_str_bl, gi_str_int, gi_str_str, gi_str_lst, gi_str_tup, gi_str_scr, gi_str_dct, gi_list_non, gi_list_bl, gi_list_int, gi_list_str, gi_list_lst, gi_list_tup, gi_list_scr, gi_list_dct, gi_tuple_non, gi_tuple_bl, gi_tuple_int, gi_tuple_str, gi_tuple_lst, gi_tuple_tup, gi_tuple_scr, gi_tuple_dct, gi_dict_non, gi_dict_bl, gi_dict_int, gi_dict_str, gi_dict_lst, gi_dict_tup, gi_dict_scr, gi_dict_dct, tr_b, true_and, and_true, eq_self, exO_some, hTL_l, hTL_t, hName_e, hCons_c, hNil_n, bind_so, it_l, it_t, it_r, List.getElem?_cons_zero, List.getElem?_cons_succ, List.set_cons_zero, List.set_cons_succ, true_and, and_true, Nat.zero_le, snb, nnb, ex_some, dT, if_true, Bool.false_eq_true, if_false, wipeE, Int.reduceLT, List.length_nil, List.length_cons, Nat.reduceAdd, Nat.reduceLeDiff, Nat.reduceLT, g_inS, g_ixS, g_slS, g_join, List.length_map, ysl1]
        rw [lc_map (g := fun y => D.int (y % 2)) ys1 fun y hy => by simp only [Z1, Z2, z_bO0, z_bO1, z_for, z_lc, onV_v, onV_e, onS_v, onS_e, onB_v, onB_e, onBR_v, onBR_e, onA_v, onA_e, onVB_v, onVB_e, onVA_v, onVA_e, onAA_v, onAA_e, onAO_v, onAO_e, onBB_v, onBB_e, onO_n, onO_r, onO_b, onO_c, onO_e, onT_n, onT_c, onT_b, onT_r, onT_e, onR_n, onR_r, onR_e, okK_s, okK_n, wO_some, wR_some, wB_some, wA_some, z_lf, z_shr, w_c, w_var, z_op, z_un, z_tB1, z_truR, z_chain, z_andT, z_orT, z_notT, z_andV, z_orV, z_notV, z_if, w_nil, z_cons, z_lst, z_tup, w_dct0, z_call, z_bn, z_sm, z_sl, z_star, z_sh, z_set, z_asg, z_drop, z_ret, w_retV, w_retN, w_nx, z_seq, w_frz, z_ifS, z_app, z_put, z_items, z_it, g_add, g_sub, g_neg, g_mul, g_rep, g_fdiv, g_mod, g_pow, g_addS, g_addL, g_cmp0, g_eqI, g_eqS, g_eqB, g_lenL, g_lenT, g_lenR, g_lenS, g_int, g_intB, g_str, g_listL, g_listT, g_listM, g_tup, g_abs, g_max2, g_min2, gz_ixL, gz_ixT, gz_ixR, g_slL, gi_bool_non, gi_bool_bl, gi_bool_int, gi_bool_str, gi_bool_lst, gi_bool_tup, gi_bool_scr, gi_bool_dct, gi_int_non, gi_int_bl, gi_int_int, gi_int_str, gi_int_lst, gi_int_tup, gi_int_scr, gi_int_dct, gi_str_non, gi_str_bl, gi_str_int, gi_str_str, gi_str_lst, gi_str_tup, gi_str_scr, gi_str_dct, gi_list_non, gi_list_bl, gi_list_int, gi_list_str, gi_list_lst, gi_list_tup, gi_list_scr, gi_list_dct, gi_tuple_non, gi_tuple_bl, gi_tuple_int, gi_tuple_str, gi_tuple_lst, gi_tuple_tup, gi_tuple_scr, gi_tuple_dct, gi_dict_non, gi_dict_bl, gi_dict_int, gi_dict_str, gi_dict_lst, gi_dict_tup, gi_dict_scr, gi_dict_dct, tr_b, true_and, and_true, eq_self, exO_some, hTL_l, hTL_t, hName_e, hCons_c, hNil_n, bind_so, it_l, it_t, it_r, List.getElem?_cons_zero, List.getElem?_cons_succ, List.set_cons_zero, List.set_cons_succ, true_and, and_true, Nat.zero_le, snb, nnb, ex_some, dT, if_true, Bool.false_eq_true, if_false, wipeE, Int.reduceLT, List.length_nil, List.length_cons, Nat.reduceAdd, Nat.reduceLeDiff, Nat.reduceLT, g_inS, g_ixS, g_slS, g_join]; exact ⟨_, rfl, by simp⟩]
        simp only [Z1, Z2, z_bO0, z_bO1, z_for, z_lc, onV_v, onV_e, onS_v, onS_e, onB_v, onB_e, onBR_v, onBR_e, onA_v, onA_e, onVB_v, onVB_e, onVA_v, onVA_e, onAA_v, onAA_e, onAO_v, onAO_e, onBB_v, onBB_e, onO_n, onO_r, onO_b, onO_c, onO_e, onT_n, onT_c, onT_b, onT_r, onT_e, onR_n, onR_r, onR_e, okK_s, okK_n, wO_some, wR_some, wB_some, wA_some, z_lf, z_shr, w_c, w_var, z_op, z_un, z_tB1, z_truR, z_chain, z_andT, z_orT, z_notT, z_andV, z_orV, z_notV, z_if, w_nil, z_cons, z_lst, z_tup, w_dct0, z_call, z_bn, z_sm, z_sl, z_star, z_sh, z_set, z_asg, z_drop, z_ret, w_retV, w_retN, w_nx, z_seq, w_frz, z_ifS, z_app, z_put, z_items, z_it, g_add, g_sub, g_neg, g_mul, g_rep, g_fdiv, g_mod, g_pow, g_addS, g_addL, g_cmp0, g_eqI, g_eqS, g_eqB, g_lenL, g_lenT, g_lenR, g_lenS, g_int, g_intB, g_str, g_listL, g_listT, g_listM, g_tup, g_abs, g_max2, g_min2, gz_ixL, gz_ixT, gz_ixR, g_slL, gi_bool_non, gi_bool_bl, gi_bool_int, gi_bool_str, gi_bool_lst, gi_bool_tup, gi_bool_scr, gi_bool_dct, gi_int_non, gi_int_bl, gi_int_int, gi_int_str, gi_int_lst, gi_int_tup, gi_int_scr, gi_int_dct, gi_str_non, gi_str_bl, gi_str_int, gi_str_str, gi_str_lst, gi_str_tup, gi_str_scr, gi_str_dct, gi_list_non, gi_list_bl, gi_list_int, gi_list_str, gi_list_lst, gi_list_tup, gi_list_scr, gi_list_dct, gi_tuple_non, gi_tuple_bl, gi_tuple_int, gi_tuple_str, gi_tuple_lst, gi_tuple_tup, gi_tuple_scr, gi_tuple_dct, gi_dict_non, gi_dict_bl, gi_dict_int, gi_dict_str, gi_dict_lst, gi_dict_tup, gi_dict_scr, gi_dict_dct, tr_b, true_and, and_true, eq_self, exO_some, hTL_l, hTL_t, hName_e, hCons_c, hNil_n, bind_so, it_l, it_t, it_r, List.getElem?_cons_zero, List.getElem?_cons_succ, List.set_cons_zero, List.set_cons_succ, true_and, and_true, Nat.zero_le, snb, nnb, ex_some, dT, if_true, Bool.false_eq_true, if_false, wipeE, Int.reduceLT, List.length_nil, List.length_cons, Nat.reduceAdd, Nat.reduceLeDiff, Nat.reduceLT, g_inS, g_ixS, g_slS, g_join]
        refine ⟨by omega, ys1.map (· % 2), by rw [List.map_map]; rfl, by rw [List.length_map, ysl1], fun y hy => ?_⟩
        obtain ⟨z, hz, rfl⟩ := List.mem_map.mp hy
        omega
      · exact ⟨ys1, rfl, ysl1, ys126⟩
    rintro en2 ⟨zs, rfl, zl, zb⟩
    have az : ∀ y : Int, 0 ≤ y → y < 26 → ∃ c, atI A.cps.toList y = some c := fun y h0 h1 => by
      obtain ⟨c, hc, _⟩ := atI_some (xs := A.cps.toList) h0 (by rw [Array.length_toList]; show y < (A.length : Int); omega)
      exact ⟨c, hc⟩
    have eA : A.length ≤ 16777216 := by omega
    refine w_cut (fun en => ∃ nm : Str, en = enN ns i A ds ss k (some (Sl.sh (D.lst (zs.map .int)))) (some (Sl.sh (D.str nm))) o9 o10 ∧ nm.length = x1.toNat + 1) ?_ ?_
    · simp only [enN, Z1, Z2, z_bO0, z_bO1, z_for, z_lc, onV_v, onV_e, onS_v, onS_e, onB_v, onB_e, onBR_v, onBR_e, onA_v, onA_e, onVB_v, onVB_e, onVA_v, onVA_e, onAA_v, onAA_e, onAO_v, onAO_e, onBB_v, onBB_e, onO_n, onO_r, onO_b, onO_c, onO_e, onT_n, onT_c, onT_b, onT_r, onT_e, onR_n, onR_r, onR_e, okK_s, okK_n, wO_some, wR_some, wB_some, wA_some, z_lf, z_shr, w_c, w_var, z_op, z_un, z_tB1, z_truR, z_chain, z_andT, z_orT, z_notT, z_andV, z_orV, z_notV, z_if, w_nil, z_cons, z_lst, z_tup, w_dct0, z_call, z_bn, z_sm, z_sl, z_star, z_sh, z_set, z_asg, z_drop, z_ret, w_retV, w_retN, w_nx, z_seq, w_frz, z_ifS, z_app, z_put, z_items, z_it, g_add, g_sub, g_neg, g_mul, g_rep, g_fdiv, g_mod, g_pow, g_addS, g_addL, g_cmp0, g_eqI, g_eqS, g_eqB, g_lenL, g_lenT, g_lenR, g_lenS, g_int, g_intB, g_str, g_listL, g_listT, g_listM, g_tup, g_abs, g_max2, g_min2, gz_ixL, gz_ixT, gz_ixR, g_slL, gi_bool_non, gi_bool_bl, gi_bool_int, gi_bool_str, gi_bool_lst, gi_bool_tup, gi_bool_scr, gi_bool_dct, gi_int_non, gi_int_bl, gi_int_int, gi_int_str, gi_int_lst, gi_int_tup, gi_int_scr, gi_int_dct, gi_str_non, gi_str_bl, gi_str_int, gi_str_str, gi_str_lst, gi_str_tup, gi_str_scr, gi_str_dct, gi_list_non, gi_list_bl, gi_list_int, gi_list_str, gi_list_lst, gi_list_tup, gi_list_scr, gi_list_dct, gi_tuple_non, gi_tuple_bl, gi_tuple_int, gi_tuple_str, gi_tuple_lst, gi_tuple_tup, gi_tuple_scr, gi_tuple_dct, gi_dict_non, gi_dict_bl, gi_dict_int, gi_dict_str, gi_dict_lst, gi_dict_tup, gi_dict_scr, gi_dict_dct, tr_b, true_and, and_true, eq_self, exO_some, hTL_l, hTL_t, hName_e, hCons_c, hNil_n, bind_so, it_l, it_t, it_r, List.getElem?_cons_zero, List.getElem?_cons_succ, List.set_cons_zero, List.set_cons_succ, true_and, and_true, Nat.zero_le, snb, nnb, ex_some, dT, if_true, Bool.false_eq_true, if_false, wipeE, Int.reduceLT, List.length_nil, List.length_cons, Nat.reduceAdd, Nat.reduceLeDiff, Nat.reduceLT, g_inS, g_ixS, g_slS, g_join, List.length_map, zl]
      rw [lc_map (g := fun y => D.str ⟨#[(atI A.cps.toList y).getD 0]⟩) zs fun y hy => by
        obtain ⟨c, hc⟩ := az y (zb y hy).1 (zb y hy).2
        simp only [Z1, Z2, z_bO0, z_bO1, z_for, z_lc, onV_v, onV_e, onS_v, onS_e, onB_v, onB_e, onBR_v, onBR_e, onA_v, onA_e, onVB_v, onVB_e, onVA_v, onVA_e, onAA_v, onAA_e, onAO_v, onAO_e, onBB_v, onBB_e, onO_n, onO_r, onO_b, onO_c, onO_e, onT_n, onT_c, onT_b, onT_r, onT_e, onR_n, onR_r, onR_e, okK_s, okK_n, wO_some, wR_some, wB_some, wA_some, z_lf, z_shr, w_c, w_var, z_op, z_un, z_tB1, z_truR, z_chain, z_andT, z_orT, z_notT, z_andV, z_orV, z_notV, z_if, w_nil, z_cons, z_lst, z_tup, w_dct0, z_call, z_bn, z_sm, z_sl, z_star, z_sh, z_set, z_asg, z_drop, z_ret, w_retV, w_retN, w_nx, z_seq, w_frz, z_ifS, z_app, z_put, z_items, z_it, g_add, g_sub, g_neg, g_mul, g_rep, g_fdiv, g_mod, g_pow, g_addS, g_addL, g_cmp0, g_eqI, g_eqS, g_eqB, g_lenL, g_lenT, g_lenR, g_lenS, g_int, g_intB, g_str, g_listL, g_listT, g_listM, g_tup, g_abs, g_max2, g_min2, gz_ixL, gz_ixT, gz_ixR, g_slL, gi_bool_non, gi_bool_bl, gi_bool_int, gi_bool_str, gi_bool_lst, gi_bool_tup, gi_bool_scr, gi_bool_dct, gi_int_non, gi_int_bl, gi_int_int, gi_int_str, gi_int_lst, gi_int_tup, gi_int_scr, gi_int_dct, gi_str_non, gi_str_bl, gi_str_int, gi_str_str, gi_str_lst, gi_str_tup, gi_str_scr, gi_str_dct, gi_list_non, gi_list_bl, gi_list_int, gi_list_str, gi_list_lst, gi_list_tup, gi_list_scr, gi_list_dct, gi_tuple_non, gi_tuple_bl, gi_tuple_int, gi_tuple_str, gi_tuple_lst, gi_tuple_tup, gi_tuple_scr, gi_tuple_dct, gi_dict_non, gi_dict_bl, gi_dict_int, gi_dict_str, gi_dict_lst, gi_dict_tup, gi_dict_scr, gi_dict_dct, tr_b, true_and, and_true, eq_self, exO_some, hTL_l, hTL_t, hName_e, hCons_c, hNil_n, bind_so, it_l, it_t, it_r, List.getElem?_cons_zero, List.getElem?_cons_succ, List.set_cons_zero, List.set_cons_succ, true_and, and_true, Nat.zero_le, snb, nnb, ex_some, dT, if_true, Bool.false_eq_true, if_false, wipeE, Int.reduceLT, List.length_nil, List.length_cons, Nat.reduceAdd, Nat.reduceLeDiff, Nat.reduceLT, g_inS, g_ixS, g_slS, g_join, wipeE, List.set_cons_zero, List.set_cons_succ, hc, eA]
        exact ⟨_, rfl, by simp⟩]
      simp only [Z1, Z2, z_bO0, z_bO1, z_for, z_lc, onV_v, onV_e, onS_v, onS_e, onB_v, onB_e, onBR_v, onBR_e, onA_v, onA_e, onVB_v, onVB_e, onVA_v, onVA_e, onAA_v, onAA_e, onAO_v, onAO_e, onBB_v, onBB_e, onO_n, onO_r, onO_b, onO_c, onO_e, onT_n, onT_c, onT_b, onT_r, onT_e, onR_n, onR_r, onR_e, okK_s, okK_n, wO_some, wR_some, wB_some, wA_some, z_lf, z_shr, w_c, w_var, z_op, z_un, z_tB1, z_truR, z_chain, z_andT, z_orT, z_notT, z_andV, z_orV, z_notV, z_if, w_nil, z_cons, z_lst, z_tup, w_dct0, z_call, z_bn, z_sm, z_sl, z_star, z_sh, z_set, z_asg, z_drop, z_ret, w_retV, w_retN, w_nx, z_seq, w_frz, z_ifS, z_app, z_put, z_items, z_it, g_add, g_sub, g_neg, g_mul, g_rep, g_fdiv, g_mod, g_pow, g_addS, g_addL, g_cmp0, g_eqI, g_eqS, g_eqB, g_lenL, g_lenT, g_lenR, g_lenS, g_int, g_intB, g_str, g_listL, g_listT, g_listM, g_tup, g_abs, g_max2, g_min2, gz_ixL, gz_ixT, gz_ixR, g_slL, gi_bool_non, gi_bool_bl, gi_bool_int, gi_bool_str, gi_bool_lst, gi_bool_tup, gi_bool_scr, gi_bool_dct, gi_int_non, gi_int_bl, gi_int_int, gi_int_str, gi_int_lst, gi_int_tup, gi_int_scr, gi_int_dct, gi_str_non, gi_str_bl, gi_str_int, gi_str_str, gi_str_lst, gi_str_tup, gi_str_scr, gi_str_dct, gi_list_non, gi_list_bl, gi_list_int, gi_list_str, gi_list_lst, gi_list_tup, gi_list_scr, gi_list_dct, gi_tuple_non, gi_tuple_bl, gi_tuple_int, gi_tuple_str, gi_tuple_lst, gi_tuple_tup, gi_tuple_scr, gi_tuple_dct, gi_dict_non, gi_dict_bl, gi_dict_int, gi_dict_str, gi_dict_lst, gi_dict_tup, gi_dict_scr, gi_dict_dct, tr_b, true_and, and_true, eq_self, exO_some, hTL_l, hTL_t, hName_e, hCons_c, hNil_n, bind_so, it_l, it_t, it_r, List.getElem?_cons_zero, List.getElem?_cons_succ, List.set_cons_zero, List.set_cons_succ, true_and, and_true, Nat.zero_le, snb, nnb, ex_some, dT, if_true, Bool.false_eq_true, if_false, wipeE, Int.reduceLT, List.length_nil, List.length_cons, Nat.reduceAdd, Nat.reduceLeDiff, Nat.reduceLT, g_inS, g_ixS, g_slS, g_join]
      have em : zs.map (fun y => D.str ⟨#[(atI A.cps.toList y).getD 0]⟩) = (zs.map fun y => (⟨#[(atI A.cps.toList y).getD 0]⟩ : Str)).map D.str := by rw [List.map_map]; rfl
      have e1 : ((zs.map fun y => (⟨#[(atI A.cps.toList y).getD 0]⟩ : Str)).map (·.length)).sum = zs.length := by
        rw [sum_ones _ fun y hy => by obtain ⟨z, _, rfl⟩ := List.mem_map.mp hy; rfl, List.length_map]
      rw [em]
      simp only [Z1, Z2, z_bO0, z_bO1, z_for, z_lc, onV_v, onV_e, onS_v, onS_e, onB_v, onB_e, onBR_v, onBR_e, onA_v, onA_e, onVB_v, onVB_e, onVA_v, onVA_e, onAA_v, onAA_e, onAO_v, onAO_e, onBB_v, onBB_e, onO_n, onO_r, onO_b, onO_c, onO_e, onT_n, onT_c, onT_b, onT_r, onT_e, onR_n, onR_r, onR_e, okK_s, okK_n, wO_some, wR_some, wB_some, wA_some, z_lf, z_shr, w_c, w_var, z_op, z_un, z_tB1, z_truR, z_chain, z_andT, z_orT, z_notT, z_andV, z_orV, z_notV, z_if, w_nil, z_cons, z_lst, z_tup, w_dct0, z_call, z_bn, z_sm, z_sl, z_star, z_sh, z_set, z_asg, z_drop, z_ret, w_retV, w_retN, w_nx, z_seq, w_frz, z_ifS, z_app, z_put, z_items, z_it, g_add, g_sub, g_neg, g_mul, g_rep, g_fdiv, g_mod, g_pow, g_addS, g_addL, g_cmp0, g_eqI, g_eqS, g_eqB, g_lenL, g_lenT, g_lenR, g_lenS, g_int, g_intB, g_str, g_listL, g_listT, g_listM, g_tup, g_abs, g_max2, g_min2, gz_ixL, gz_ixT, gz_ixR, g_slL, gi_bool_non, gi_bool_bl, gi_bool_int, gi_bool_str, gi_bool_lst, gi_bool_tup, gi_bool_scr, gi_bool_dct, gi_int_non, gi_int_bl, gi_int_int, gi_int_str, gi_int_lst, gi_int_tup, gi_int_scr, gi_int_dct, gi_str_non, gi_str_bl, gi_str_int, gi_str_str, gi_str_lst, gi_str_tup, gi_str_scr, gi_str_dct, gi_list_non, gi_list_bl, gi_list_int, gi_list_str, gi_list_lst, gi_list_tup, gi_list_scr, gi_list_dct, gi_tuple_non, gi_tuple_bl, gi_tuple_int, gi_tuple_str, gi_tuple_lst, gi_tuple_tup, gi_tuple_scr, gi_tuple_dct, gi_dict_non, gi_dict_bl, gi_dict_int, gi_dict_str, gi_dict_lst, gi_dict_tup, gi_dict_scr, gi_dict_dct, tr_b, true_and, and_true, eq_self, exO_some, hTL_l, hTL_t, hName_e, hCons_c, hNil_n, bind_so, it_l, it_t, it_r, List.getElem?_cons_zero, List.getElem?_cons_succ, List.set_cons_zero, List.set_cons_succ, true_and, and_true, Nat.zero_le, snb, nnb, ex_some, dT, if_true, Bool.false_eq_true, if_false, wipeE, Int.reduceLT, List.length_nil, List.length_cons, Nat.reduceAdd, Nat.reduceLeDiff, Nat.reduceLT, g_inS, g_ixS, g_slS, g_join]
      refine ⟨by omega, ?_, _, rfl, by rw [join0_len, e1, zl]⟩
      rw [e1, show (⟨#[]⟩ : Str).length = 0 from rfl]
      omega
    rintro en3 ⟨nm, rfl, nl⟩
    refine w_cut (fun en => ∃ (nm : Str) (o9 : Option Sl), en = enN ns i A ds ss k (some (Sl.sh (D.lst (zs.map .int)))) (some (Sl.sh (D.str nm))) o9 o10 ∧ nm.length = x1.toNat + 1) ?_ ?_
    · simp only [enN, Z1, Z2, z_bO0, z_bO1, z_for, z_lc, onV_v, onV_e, onS_v, onS_e, onB_v, onB_e, onBR_v, onBR_e, onA_v, onA_e, onVB_v, onVB_e, onVA_v, onVA_e, onAA_v, onAA_e, onAO_v, onAO_e, onBB_v, onBB_e, onO_n, onO_r, onO_b, onO_c, onO_e, onT_n, onT_c, onT_b, onT_r, onT_e, onR_n, onR_r, onR_e, okK_s, okK_n, wO_some, wR_some, wB_some, wA_some, z_lf, z_shr, w_c, w_var, z_op, z_un, z_tB1, z_truR, z_chain, z_andT, z_orT, z_notT, z_andV, z_orV, z_notV, z_if, w_nil, z_cons, z_lst, z_tup, w_dct0, z_call, z_bn, z_sm, z_sl, z_star, z_sh, z_set, z_asg, z_drop, z_ret, w_retV, w_retN, w_nx, z_seq, w_frz, z_ifS, z_app, z_put, z_items, z_it, g_add, g_sub, g_neg, g_mul, g_rep, g_fdiv, g_mod, g_pow, g_addS, g_addL, g_cmp0, g_eqI, g_eqS, g_eqB, g_lenL, g_lenT, g_lenR, g_lenS, g_int, g_intB, g_str, g_listL, g_listT, g_listM, g_tup, g_abs, g_max2, g_min2, gz_ixL, gz_ixT, gz_ixR, g_slL, gi_bool_non, gi_bool_bl, gi_bool_int, gi_bool_str, gi_bool_lst, gi_bool_tup, gi_bool_scr, gi_bool_dct, gi_int_non, gi_int_bl, gi_int_int, gi_int_str, gi_int_lst, gi_int_tup, gi_int_scr, gi_int_dct, gi_str_non, gi_str_bl, gi_str_int, gi_str_str, gi_str_lst, gi_str_tup, gi_str_scr, gi_str_dct, gi_list_non, gi_list_bl, gi_list_int, gi_list_str, gi_list_lst, gi_list_tup, gi_list_scr, gi_list_dct, gi_tuple_non, gi_tuple_bl, gi_tuple_int, gi_tuple_str, gi_tuple_lst, gi_tuple_tup, gi_tuple_scr, gi_tuple_dct, gi_dict_non, gi_dict_bl, gi_dict_int, gi_dict_str, gi_dict_lst, gi_dict_tup, gi_dict_scr, gi_dict_dct, tr_b, true_and, and_true, eq_self, exO_some, hTL_l, hTL_t, hName_e, hCons_c, hNil_n, bind_so, it_l, it_t, it_r, List.getElem?_cons_zero, List.getElem?_cons_succ, List.set_cons_zero, List.set_cons_succ, true_and, and_true, Nat.zero_le, snb, nnb, ex_some, dT, if_true, Bool.false_eq_true, if_false, wipeE, Int.reduceLT, List.length_nil, List.length_cons, Nat.reduceAdd, Nat.reduceLeDiff, Nat.reduceLT, g_inS, g_ixS, g_slS, g_join, show rng1D [D.int 26] = some (rngL 0 26) from rng1_ok (n := 26) (by decide)]
      refine forD_inv _ (fun _ en => ∃ (nm : Str) (o9 : Option Sl), en = enN ns i A ds ss k (some (Sl.sh (D.lst (zs.map .int)))) (some (Sl.sh (D.str nm))) o9 o10 ∧ nm.length = x1.toNat + 1) _ ⟨nm, _, rfl, nl⟩ ?_ ?_
      · rintro j d en hd1 ⟨nm, o9, rfl, nl⟩
        refine ⟨_, rfl, ?_⟩
        rw [rngL_get] at hd1
        obtain ⟨hj, rfl⟩ := hd1
        obtain ⟨z0, hz0⟩ : ∃ z0, zs[0]? = some z0 := ⟨_, List.getElem?_eq_getElem (by omega)⟩
        have a0 : atI (zs.map D.int) 0 = some (.int z0) := by rw [atI_map', show (0 : Int) = ((0 : Nat) : Int) from rfl, atI_nat, hz0]; rfl
        simp only [enN, Z1, Z2, z_bO0, z_bO1, z_for, z_lc, onV_v, onV_e, onS_v, onS_e, onB_v, onB_e, onBR_v, onBR_e, onA_v, onA_e, onVB_v, onVB_e, onVA_v, onVA_e, onAA_v, onAA_e, onAO_v, onAO_e, onBB_v, onBB_e, onO_n, onO_r, onO_b, onO_c, onO_e, onT_n, onT_c, onT_b, onT_r, onT_e, onR_n, onR_r, onR_e, okK_s, okK_n, wO_some, wR_some, wB_some, wA_some, z_lf, z_shr, w_c, w_var, z_op, z_un, z_tB1, z_truR, z_chain, z_andT, z_orT, z_notT, z_andV, z_orV, z_notV, z_if, w_nil, z_cons, z_lst, z_tup, w_dct0, z_call, z_bn, z_sm, z_sl, z_star, z_sh, z_set, z_asg, z_drop, z_ret, w_retV, w_retN, w_nx, z_seq, w_frz, z_ifS, z_app, z_put, z_items, z_it, g_add, g_sub, g_neg, g_mul, g_rep, g_fdiv, g_mod, g_pow, g_addS, g_addL, g_cmp0, g_eqI, g_eqS, g_eqB, g_lenL, g_lenT, g_lenR, g_lenS, g_int, g_intB, g_str, g_listL, g_listT, g_listM, g_tup, g_abs, g_max2, g_min2, gz_ixL, gz_ixT, gz_ixR, g_slL, gi_bool_non, gi_bool_bl, gi_bool_int, gi_bool_str, gi_bool_lst, gi_bool_tup, gi_bool_scr, gi_bool_dct, gi_int_non, gi_int_bl, gi_int_int, gi_int_str, gi_int_lst, gi_int_tup, gi_int_scr, gi_int_dct, gi_str_non, gi_str_bl, gi_str_int, gi_str_str, gi_str_lst, gi_str_tup, gi_str_scr, gi_str_dct, gi_list_non, gi_list_bl, gi_list_int, gi_list_str, gi_list_lst, gi_list_tup, gi_list_scr, gi_list_dct, gi_tuple_non, gi_tuple_bl, gi_tuple_int, gi_tuple_str, gi_tuple_lst, gi_tuple_tup, gi_tuple_scr, gi_tuple_dct, gi_dict_non, gi_dict_bl, gi_dict_int, gi_dict_str, gi_dict_lst, gi_dict_tup, gi_dict_scr, gi_dict_dct, tr_b, true_and, and_true, eq_self, exO_some, hTL_l, hTL_t, hName_e, hCons_c, hNil_n, bind_so, it_l, it_t, it_r, List.getElem?_cons_zero, List.getElem?_cons_succ, List.set_cons_zero, List.set_cons_succ, true_and, and_true, Nat.zero_le, snb, nnb, ex_some, dT, if_true, Bool.false_eq_true, if_false, wipeE, Int.reduceLT, List.length_nil, List.length_cons, Nat.reduceAdd, Nat.reduceLeDiff, Nat.reduceLT, g_inS, g_ixS, g_slS, g_join, a0]
        split
        · obtain ⟨c, hc⟩ := az ((z0 + (j : Int) + 1) % 26) (by omega) (by omega)
          simp only [Z1, Z2, z_bO0, z_bO1, z_for, z_lc, onV_v, onV_e, onS_v, onS_e, onB_v, onB_e, onBR_v, onBR_e, onA_v, onA_e, onVB_v, onVB_e, onVA_v, onVA_e, onAA_v, onAA_e, onAO_v, onAO_e, onBB_v, onBB_e, onO_n, onO_r, onO_b, onO_c, onO_e, onT_n, onT_c, onT_b, onT_r, onT_e, onR_n, onR_r, onR_e, okK_s, okK_n, wO_some, wR_some, wB_some, wA_some, z_lf, z_shr, w_c, w_var, z_op, z_un, z_tB1, z_truR, z_chain, z_andT, z_orT, z_notT, z_andV, z_orV, z_notV, z_if, w_nil, z_cons, z_lst, z_tup, w_dct0, z_call, z_bn, z_sm, z_sl, z_star, z_sh, z_set, z_asg, z_drop, z_ret, w_retV, w_retN, w_nx, z_seq, w_frz, z_ifS, z_app, z_put, z_items, z_it, g_add, g_sub, g_neg, g_mul, g_rep, g_fdiv, g_mod, g_pow, g_addS, g_addL, g_cmp0, g_eqI, g_eqS, g_eqB, g_lenL, g_lenT, g_lenR, g_lenS, g_int, g_intB, g_str, g_listL, g_listT, g_listM, g_tup, g_abs, g_max2, g_min2, gz_ixL, gz_ixT, gz_ixR, g_slL, gi_bool_non, gi_bool_bl, gi_bool_int, gi_bool_str, gi_bool_lst, gi_bool_tup, gi_bool_scr, gi_bool_dct, gi_int_non, gi_int_bl, gi_int_int, gi_int_str, gi_int_lst, gi_int_tup, gi_int_scr, gi_int_dct, gi_str_non, gi_str_bl, gi_str_int, gi_str_str, gi_str_lst, gi_str_tup, gi_str_scr, gi_str_dct, gi_list_non, gi_list_bl, gi_list_int, gi_list_str, gi_list_lst, gi_list_tup, gi_list_scr, gi_list_dct, gi_tuple_non, gi_tuple_bl, gi_tuple_int, gi_tuple_str, gi_tuple_lst, gi_tuple_tup, gi_tuple_scr, gi_tuple_dct, gi_dict_non, gi_dict_bl, gi_dict_int, gi_dict_str, gi_dict_lst, gi_dict_tup, gi_dict_scr, gi_dict_dct, tr_b, true_and, and_true, eq_self, exO_some, hTL_l, hTL_t, hName_e, hCons_c, hNil_n, bind_so, it_l, it_t, it_r, List.getElem?_cons_zero, List.getElem?_cons_succ, List.set_cons_zero, List.set_cons_succ, true_and, and_true, Nat.zero_le, snb, nnb, ex_some, dT, if_true, Bool.false_eq_true, if_false, wipeE, Int.reduceLT, List.length_nil, List.length_cons, Nat.reduceAdd, Nat.reduceLeDiff, Nat.reduceLT, g_inS, g_ixS, g_slS, g_join, a0, hc, eA]
          have cl := cut1_len nm (by omega)
          refine ⟨by omega, ?_, _, _, rfl, ?_⟩
          · rw [one_len, cl]; omega
          · rw [sl_app, one_len, cl]; omega
        · exact ⟨nm, _, rfl, nl⟩
      · rintro en ⟨nm, o9, rfl, nl⟩
        simp only [Z1, Z2, z_bO0, z_bO1, z_for, z_lc, onV_v, onV_e, onS_v, onS_e, onB_v, onB_e, onBR_v, onBR_e, onA_v, onA_e, onVB_v, onVB_e, onVA_v, onVA_e, onAA_v, onAA_e, onAO_v, onAO_e, onBB_v, onBB_e, onO_n, onO_r, onO_b, onO_c, onO_e, onT_n, onT_c, onT_b, onT_r, onT_e, onR_n, onR_r, onR_e, okK_s, okK_n, wO_some, wR_some, wB_some, wA_some, z_lf, z_shr, w_c, w_var, z_op, z_un, z_tB1, z_truR, z_chain, z_andT, z_orT, z_notT, z_andV, z_orV, z_notV, z_if, w_nil, z_cons, z_lst, z_tup, w_dct0, z_call, z_bn, z_sm, z_sl, z_star, z_sh, z_set, z_asg, z_drop, z_ret, w_retV, w_retN, w_nx, z_seq, w_frz, z_ifS, z_app, z_put, z_items, z_it, g_add, g_sub, g_neg, g_mul, g_rep, g_fdiv, g_mod, g_pow, g_addS, g_addL, g_cmp0, g_eqI, g_eqS, g_eqB, g_lenL, g_lenT, g_lenR, g_lenS, g_int, g_intB, g_str, g_listL, g_listT, g_listM, g_tup, g_abs, g_max2, g_min2, gz_ixL, gz_ixT, gz_ixR, g_slL, gi_bool_non, gi_bool_bl, gi_bool_int, gi_bool_str, gi_bool_lst, gi_bool_tup, gi_bool_scr, gi_bool_dct, gi_int_non, gi_int_bl, gi_int_int, gi_int_str, gi_int_lst, gi_int_tup, gi_int_scr, gi_int_dct, gi_str_non, gi_str_bl, gi_str_int, gi_str_str, gi_str_lst, gi_str_tup, gi_str_scr, gi_str_dct, gi_list_non, gi_list_bl, gi_list_int, gi_list_str, gi_list_lst, gi_list_tup, gi_list_scr, gi_list_dct, gi_tuple_non, gi_tuple_bl, gi_tuple_int, gi_tuple_str, gi_tuple_lst, gi_tuple_tup, gi_tuple_scr, gi_tuple_dct, gi_dict_non, gi_dict_bl, gi_dict_int, gi_dict_str, gi_dict_lst, gi_dict_tup, gi_dict_scr, gi_dict_dct, tr_b, true_and, and_true, eq_self, exO_some, hTL_l, hTL_t, hName_e, hCons_c, hNil_n, bind_so, it_l, it_t, it_r, List.getElem?_cons_zero, List.getElem?_cons_succ, List.set_cons_zero, List.set_cons_succ, true_and, and_true, Nat.zero_le, snb, nnb, ex_some, dT, if_true, Bool.false_eq_true, if_false, wipeE, Int.reduceLT, List.length_nil, List.length_cons, Nat.reduceAdd, Nat.reduceLeDiff, Nat.reduceLT, g_inS, g_ixS, g_slS, g_join]
        exact ⟨nm, o9, rfl, nl⟩
    rintro en4 ⟨nm, o9, rfl, nl⟩
    simp only [enN, Z1, Z2, z_bO0, z_bO1, z_for, z_lc, onV_v, onV_e, onS_v, onS_e, onB_v, onB_e, onBR_v, onBR_e, onA_v, onA_e, onVB_v, onVB_e, onVA_v, onVA_e, onAA_v, onAA_e, onAO_v, onAO_e, onBB_v, onBB_e, onO_n, onO_r, onO_b, onO_c, onO_e, onT_n, onT_c, onT_b, onT_r, onT_e, onR_n, onR_r, onR_e, okK_s, okK_n, wO_some, wR_some, wB_some, wA_some, z_lf, z_shr, w_c, w_var, z_op, z_un, z_tB1, z_truR, z_chain, z_andT, z_orT, z_notT, z_andV, z_orV, z_notV, z_if, w_nil, z_cons, z_lst, z_tup, w_dct0, z_call, z_bn, z_sm, z_sl, z_star, z_sh, z_set, z_asg, z_drop, z_ret, w_retV, w_retN, w_nx, z_seq, w_frz, z_ifS, z_app, z_put, z_items, z_it, g_add, g_sub, g_neg, g_mul, g_rep, g_fdiv, g_mod, g_pow, g_addS, g_addL, g_cmp0, g_eqI, g_eqS, g_eqB, g_lenL, g_lenT, g_lenR, g_lenS, g_int, g_intB, g_str, g_listL, g_listT, g_listM, g_tup, g_abs, g_max2, g_min2, gz_ixL, gz_ixT, gz_ixR, g_slL, gi_bool_non, gi_bool_bl, gi_bool_int, gi_bool_str, gi_bool_lst, gi_bool_tup, gi_bool_scr, gi_bool_dct, gi_int_non, gi_int_bl, gi_int_int, gi_int_str, gi_int_lst, gi_int_tup, gi_int_scr, gi_int_dct, gi_str_non, gi_str_bl, gi_str_int, gi_str_str, gi_str_lst, gi_str_tup, gi_str_scr, gi_str_dct, gi_list_non, gi_list_bl, gi_list_int, gi_list_str, gi_list_lst, gi_list_tup, gi_list_scr, gi_list_dct, gi_tuple_non, gi_tuple_bl, gi_tuple_int, gi_tuple_str, gi_tuple_lst, gi_tuple_tup, gi_tuple_scr, gi_tuple_dct, gi_dict_non, gi_dict_bl, gi_dict_int, gi_dict_str, gi_dict_lst, gi_dict_tup, gi_dict_scr, gi_dict_dct, tr_b, true_and, and_true, eq_self, exO_some, hTL_l, hTL_t, hName_e, hCons_c, hNil_n, bind_so, it_l, it_t, it_r, List.getElem?_cons_zero, List.getElem?_cons_succ, List.set_cons_zero, List.set_cons_succ, true_and, and_true, Nat.zero_le, snb, nnb, ex_some, dT, if_true, Bool.false_eq_true, if_false, wipeE, Int.reduceLT, List.length_nil, List.length_cons, Nat.reduceAdd, Nat.reduceLeDiff, Nat.reduceLT, g_inS, g_ixS, g_slS, g_join]
    refine ⟨by rw [List.length_map]; omega, ss ++ [nm], _, _, _, _, _, by rw [List.map_append]; rfl, by rw [List.length_append, hk]; rfl, fun s hs => ?_⟩
    rcases List.mem_append.mp hs with hs | hs
    · exact hb s hs
    · have : s = nm := by simpa using hs
      subst this
      omega
  · rintro en ⟨ss, o6, o7, o8, o9, o10, rfl, hk, hb⟩
    simp only [Z1, Z2, z_bO0, z_bO1, z_for, z_lc, onV_v, onV_e, onS_v, onS_e, onB_v, onB_e, onBR_v, onBR_e, onA_v, onA_e, onVB_v, onVB_e, onVA_v, onVA_e, onAA_v, onAA_e, onAO_v, onAO_e, onBB_v, onBB_e, onO_n, onO_r, onO_b, onO_c, onO_e, onT_n, onT_c, onT_b, onT_r, onT_e, onR_n, onR_r, onR_e, okK_s, okK_n, wO_some, wR_some, wB_some, wA_some, z_lf, z_shr, w_c, w_var, z_op, z_un, z_tB1, z_truR, z_chain, z_andT, z_orT, z_notT, z_andV, z_orV, z_notV, z_if, w_nil, z_cons, z_lst, z_tup, w_dct0, z_call, z_bn, z_sm, z_sl, z_star, z_sh, z_set, z_asg, z_drop, z_ret, w_retV, w_retN, w_nx, z_seq, w_frz, z_ifS, z_app, z_put, z_items, z_it, g_add, g_sub, g_neg, g_mul, g_rep, g_fdiv, g_mod, g_pow, g_addS, g_addL, g_cmp0, g_eqI, g_eqS, g_eqB, g_lenL, g_lenT, g_lenR, g_lenS, g_int, g_intB, g_str, g_listL, g_listT, g_listM, g_tup, g_abs, g_max2, g_min2, gz_ixL, gz_ixT, gz_ixR, g_slL, gi_bool_non, gi_bool_bl, gi_bool_int, gi_bool_str, gi_bool_lst, gi_bool_tup, gi_bool_scr, gi_bool_dct, gi_int_non, gi_int_bl, gi_int_int, gi_int_str, gi_int_lst, gi_int_tup, gi_int_scr, gi_int_dct, gi_str_non, gi_str_bl, gi_str_int, gi_str_str, gi_str_lst, gi_str_tup, gi_str_scr, gi_str_dct, gi_list_non, gi_list_bl, gi_list_int, gi_list_str, gi_list_lst, gi_list_tup, gi_list_scr, gi_list_dct, gi_tuple_non, gi_tuple_bl, gi_tuple_int, gi_tuple_str, gi_tuple_lst, gi_tuple_tup, gi_tuple_scr, gi_tuple_dct, gi_dict_non, gi_dict_bl, gi_dict_int, gi_dict_str, gi_dict_lst, gi_dict_tup, gi_dict_scr, gi_dict_dct, tr_b, true_and, and_true, eq_self, exO_some, hTL_l, hTL_t, hName_e, hCons_c, hNil_n, bind_so, it_l, it_t, it_r, List.getElem?_cons_zero, List.getElem?_cons_succ, List.set_cons_zero, List.set_cons_succ, true_and, and_true, Nat.zero_le, snb, nnb, ex_some, dT, if_true, Bool.false_eq_true, if_false, wipeE, Int.reduceLT, List.length_nil, List.length_cons, Nat.reduceAdd, Nat.reduceLeDiff, Nat.reduceLT, g_inS, g_ixS, g_slS, g_join]
    exact ⟨ss, rfl, by rw [hk, rngL_len], hb⟩
end C
namespace C
open PySem L2 PD
theorem frz_def (en : En) (i : Nat) : frzE en i = match en[i]? with
  | some (some (.ow d)) => en.set i (some (.sh d))
  | _ => en := rfl
/-! ### data that == reads -/
def okP (k : Nat) (d : D) : Prop := ∃ p, toP d = some p ∧ p.canLay0 = true ∧ p.depth ≤ k
def okPs (k : Nat) (ds : List D) : Prop := ∃ ps, toPs ds = some ps ∧ ps.length = ds.length ∧ PyData.canLayAll0 ps = true ∧ PyData.depthAll ps ≤ k
theorem okPs_of {k : Nat} : ∀ {ds : List D}, (∀ d ∈ ds, okP k d) → okPs k ds
  | [], _ => ⟨[], by simp [toPs], rfl, by simp [PyData.canLayAll0], by simp [PyData.depthAll]⟩
  | d :: r, h => by
    obtain ⟨p, h1, h2, h3⟩ := h d List.mem_cons_self
    obtain ⟨ps, h4, h0, h5, h6⟩ := okPs_of fun x hx => h x (List.mem_cons_of_mem _ hx)
    exact ⟨p :: ps, by simp only [toPs, h1, h4], by rw [List.length_cons, List.length_cons, h0], by simp only [PyData.canLayAll0, h2, h5]; rfl, by simp only [PyData.depthAll]; omega⟩
theorem okP_int {k : Nat} (i : Int) : okP k (.int i) := ⟨.int i, by simp [toP], by simp [PyData.canLay0], by simp [PyData.depth]⟩
theorem okP_tup {k : Nat} {ds : List D} (h : ∀ d ∈ ds, okP k d) : okP (k + 1) (.tup ds) := by
  obtain ⟨ps, h1, h0, h2, h3⟩ := okPs_of h
  exact ⟨.tuple ps, by simp [toP, h1], by simp only [PyData.canLay0, h2], by simp only [PyData.depth]; omega⟩
theorem okP_lst {k : Nat} {ds : List D} (h : ∀ d ∈ ds, okP k d) : okP (k + 1) (.lst ds) := by
  obtain ⟨ps, h1, h0, h2, h3⟩ := okPs_of h
  exact ⟨.list ps, by simp [toP, h1], by simp only [PyData.canLay0, h2], by simp only [PyData.depth]; omega⟩
theorem okP.shaped {k : Nat} {d : D} (h : okP k d) (hk : k ≤ 64) : ∃ p, toP d = some p ∧ SeqAt.shaped p = true ∧ p.canLay0 = true := by
  obtain ⟨p, h1, h2, h3⟩ := h
  exact ⟨p, h1, by show (p.canLay0 && decide (p.depth ≤ 64)) = true; rw [h2, decide_eq_true (by omega)]; rfl, h2⟩
theorem eq_lists {n : Bool} {xs ys : List D} {p q : PyData} (h1 : toP (.lst xs) = some p) (h2 : toP (.lst ys) = some q) (h3 : SeqAt.shaped p = true) (h4 : SeqAt.shaped q = true) : eqN n (.lst xs) (.lst ys) = eqb n (PyData.eqv p q) := by
  show (match toP (.lst xs), toP (.lst ys) with | some p, some q => if SeqAt.shaped p = true ∧ SeqAt.shaped q = true then eqb n (PyData.eqv p q) else none | _, _ => none) = _
  rw [h1, h2]
  simp only [h3, h4, and_self, if_true]
theorem g_eqNil {n : Bool} {xs : List D} {QG : Kd → D → Prop} {k : Nat} (hk : k < 64) (h : ∀ d ∈ xs, okP k d) : wG (eqN n (.lst xs) (.lst [])) QG = QG .sh (.bl (if n then !decide (xs = []) else decide (xs = []))) := by
  obtain ⟨ps, e1, e0, e2, e3⟩ := okPs_of h
  have e : eqN n (.lst xs) (.lst []) = eqb n (decide (xs = [])) := by
    rw [eq_lists (p := .list ps) (q := .list []) (by simp [toP, e1]) (by simp [toP, toPs]) ?_ ?_]
    · congr 1
      cases xs with
      | nil => cases ps with
        | nil => rfl
        | cons _ _ => simp at e0
      | cons x r => cases ps with
        | nil => simp at e0
        | cons _ _ => simp [PyData.eqv, PyData.eqvAll]
    · show (PyData.canLay0 (.list ps) && decide (PyData.depth (.list ps) ≤ 64)) = true
      rw [show PyData.canLay0 (.list ps) = true by simp only [PyData.canLay0, e2], decide_eq_true (by simp only [PyData.depth]; omega)]
      rfl
    · decide
  rw [e]
  exact wG_some
/-! ### places by literal -/
theorem atI_lit {α : Type} {xs : List α} {n : Nat} : atI xs (@OfNat.ofNat Int n instOfNat) = xs[n]? := atI_nat
theorem atI_0 {α : Type} {xs : List α} : atI xs 0 = xs[0]? := atI_lit
theorem atI_1 {α : Type} {xs : List α} : atI xs 1 = xs[1]? := atI_lit
theorem atI_2 {α : Type} {xs : List α} : atI xs 2 = xs[2]? := atI_lit
theorem atI_3 {α : Type} {xs : List α} : atI xs 3 = xs[3]? := atI_lit
theorem atI_4 {α : Type} {xs : List α} : atI xs 4 = xs[4]? := atI_lit
theorem atI_5 {α : Type} {xs : List α} : atI xs 5 = xs[5]? := atI_lit
theorem atI_6 {α : Type} {xs : List α} : atI xs 6 = xs[6]? := atI_lit
theorem atI_7 {α : Type} {xs : List α} : atI xs 7 = xs[7]? := atI_lit
theorem atI_8 {α : Type} {xs : List α} : atI xs 8 = xs[8]? := atI_lit
theorem atI_9 {α : Type} {xs : List α} : atI xs 9 = xs[9]? := atI_lit
theorem atI_10 {α : Type} {xs : List α} : atI xs 10 = xs[10]? := atI_lit
theorem atI_11 {α : Type} {xs : List α} : atI xs 11 = xs[11]? := atI_lit
theorem atI_12 {α : Type} {xs : List α} : atI xs 12 = xs[12]? := atI_lit
theorem atI_13 {α : Type} {xs : List α} : atI xs 13 = xs[13]? := atI_lit
theorem atI_14 {α : Type} {xs : List α} : atI xs 14 = xs[14]? := atI_lit
theorem atI_15 {α : Type} {xs : List α} : atI xs 15 = xs[15]? := atI_lit
theorem atI_16 {α : Type} {xs : List α} : atI xs 16 = xs[16]? := atI_lit
theorem atI_17 {α : Type} {xs : List α} : atI xs 17 = xs[17]? := atI_lit
theorem atI_18 {α : Type} {xs : List α} : atI xs 18 = xs[18]? := atI_lit
theorem atI_19 {α : Type} {xs : List α} : atI xs 19 = xs[19]? := atI_lit
theorem atI_20 {α : Type} {xs : List α} : atI xs 20 = xs[20]? := atI_lit
theorem atI_21 {α : Type} {xs : List α} : atI xs 21 = xs[21]? := atI_lit
theorem atI_22 {α : Type} {xs : List α} : atI xs 22 = xs[22]? := atI_lit
theorem atI_23 {α : Type} {xs : List α} : atI xs 23 = xs[23]? := atI_lit
theorem atI_24 {α : Type} {xs : List α} : atI xs 24 = xs[24]? := atI_lit
theorem atI_25 {α : Type} {xs : List α} : atI xs 25 = xs[25]? := atI_lit
theorem atI_26 {α : Type} {xs : List α} : atI xs 26 = xs[26]? := atI_lit
theorem atI_27 {α : Type} {xs : List α} : atI xs 27 = xs[27]? := atI_lit
theorem atI_28 {α : Type} {xs : List α} : atI xs 28 = xs[28]? := atI_lit
theorem atI_29 {α : Type} {xs : List α} : atI xs 29 = xs[29]? := atI_lit
theorem atI_30 {α : Type} {xs : List α} : atI xs 30 = xs[30]? := atI_lit
theorem rngL_map {n : Nat} : rngL 0 n = (List.range n).map fun i : Nat => D.int (i : Int) := by
  unfold rngL
  exact List.map_congr_left fun i _ => by rw [Int.zero_add]
theorem rng1_lit {n : Nat} (h : n < 2 ^ 62) : rng1D [.int (@OfNat.ofNat Int n instOfNat)] = some ((List.range n).map fun i : Nat => D.int (i : Int)) := (rng1_ok h).trans (by rw [rngL_map])
theorem rng1_nat {n : Nat} (h : n < 2 ^ 62) : rng1D [.int (n : Int)] = some ((List.range n).map fun i : Nat => D.int (i : Int)) := (rng1_ok h).trans (by rw [rngL_map])
theorem cut_drop {α : Type} {xs : List α} {n : Nat} (h : n ≤ xs.length) : cutD xs (some (@OfNat.ofNat Int n instOfNat)) none = xs.drop n := by
  unfold cutD
  rw [show (@OfNat.ofNat Int n instOfNat) = ((n : Nat) : Int) from rfl, HT.sIx_nat, HT.sIx_none, Nat.min_eq_left h]
  exact List.take_of_length_le (by rw [List.length_drop]; exact Nat.le_refl _)
theorem cut_take {α : Type} {xs : List α} {n : Nat} (h : n ≤ xs.length) : cutD xs none (some (@OfNat.ofNat Int n instOfNat)) = xs.take n := by
  unfold cutD
  rw [show (@OfNat.ofNat Int n instOfNat) = ((n : Nat) : Int) from rfl, HT.sIx_nat, HT.sIx_none, Nat.min_eq_left h, List.drop_zero, Nat.sub_zero]
theorem g_sort {vs : List Int} {QG : Kd → D → Prop} : wG (sortD (.lst (vs.map .int))) QG = QG .nw (.lst ((sortI vs).map .int)) := by
  show wG ((intsOf (vs.map .int)).map fun ns => (Kd.nw, D.lst ((sortI ns).map .int))) QG = _
  rw [intsOf_map]
  exact wG_some
theorem g_rev {ds : List D} {QG : Kd → D → Prop} : wG (revD (.lst ds)) QG = QG .nw (.lst ds.reverse) := wG_some
/-- a comprehension with a test over a typed list -/
theorem lc_filter {α : Type} {i : Nat} {tt : En → Option RB} {fe : En → Option R} {en : En} {c g : α → D} (p : α → Bool) : ∀ (ys : List α), (∀ y ∈ ys, wB (tt (en.set i (some (.sh (c y))))) (fun r => r = .b (p y)) ∧ (p y = true → wR (fe (en.set i (some (.sh (c y))))) fun r => ∃ k, r = .val k (g y) ∧ k ≠ .bo)) →
    tgIf (hName i) tt fe en (ys.map c) = some ((ys.filter p).map g)
  | [], _ => rfl
  | y :: r, h => by
    obtain ⟨⟨b, e1, rfl⟩, h2⟩ := h y List.mem_cons_self
    have ih := lc_filter p r fun z hz => h z (List.mem_cons_of_mem _ hz)
    rw [List.map_cons, List.filter_cons]
    unfold tgIf
    simp only [hName, e1]
    cases hp : p y with
    | false => simpa using ih
    | true =>
      obtain ⟨x, e, k, rfl, hk⟩ := h2 hp
      simp only [e]
      cases k with
      | sh => simp only [shr, ih]; rfl
      | nw => simp only [shr, ih]; rfl
      | bo => exact absurd rfl hk
/-! ### rows -/
def prD (p : Int × Int) : D := .tup [.int p.1, .int p.2]
def Row (first : Int) (size : Nat) (high : Int) (es : List (Int × Int)) : Prop := es ≠ [] ∧ es.length ≤ size ∧ (es.map (·.1)).Nodup ∧ ∀ e ∈ es, (first ≤ e.1 ∧ e.1 < first + size) ∧ 0 ≤ e.2 ∧ e.2 < high
theorem Row.perm {first : Int} {size : Nat} {high : Int} {es fs : List (Int × Int)} (h : Row first size high es) (p : fs.Perm es) : Row first size high fs :=
  ⟨fun e => h.1 (by subst e; exact p.nil_eq.symm), p.length_eq ▸ h.2.1, (p.map _).nodup_iff.mpr h.2.2.1, fun e he => h.2.2.2 e (p.mem_iff.mp he)⟩
theorem okP_prD (p : Int × Int) : okP 1 (prD p) := okP_tup fun d hd => by
  rcases List.mem_cons.mp hd with rfl | hd
  · exact okP_int _
  · rcases List.mem_cons.mp hd with rfl | hd
    · exact okP_int _
    · cases hd
def limR (h : Int) : List Int := 4 :: 15 :: h :: (List.replicate 15 [2, h]).flatten
theorem row_spec (ns : List Int) (i : Nat) (h : Int) (h0 : 0 < h) (h1 : h ≤ 100) : wR (F_Lrow [.scr ns, .int i, .int (-6), .int 15, .int h]) fun r => ∃ es : List (Int × Int), r = .val .sh (.lst (es.map prD)) ∧ Row (-6) 15 h es := by
  have ix : ∀ k : Nat, k < 15 → (limR h)[3 + 2 * k]? = some 2 ∧ (limR h)[4 + 2 * k]? = some h := by
    intro k hk
    have : ∀ k : Nat, k < 15 → (limR h)[3 + 2 * k]? = some 2 ∧ (limR h)[4 + 2 * k]? = some h := by
      intro k hk
      match k, hk with
      | 0, _ | 1, _ | 2, _ | 3, _ | 4, _ | 5, _ | 6, _ | 7, _ | 8, _ | 9, _ | 10, _ | 11, _ | 12, _ | 13, _ | 14, _ => exact ⟨rfl, rfl⟩
    exact this k hk
  rw [F_Lrow, w_run, b_Lrow]
  simp only [start_def, List.map_cons, List.map_nil, List.length_cons, List.length_nil, Nat.reduceAdd, Nat.reduceSub, List.replicate_succ, List.replicate_zero, List.cons_append, List.nil_append, Z1, Z2, z_bO0, z_bO1, z_for, z_lc, onV_v, onV_e, onS_v, onS_e, onB_v, onB_e, onBR_v, onBR_e, onA_v, onA_e, onVB_v, onVB_e, onVA_v, onVA_e, onAA_v, onAA_e, onAO_v, onAO_e, onBB_v, onBB_e, onO_n, onO_r, onO_b, onO_c, onO_e, onT_n, onT_c, onT_b, onT_r, onT_e, onR_n, onR_r, onR_e, okK_s, okK_n, wO_some, wR_some, wB_some, wA_some, z_lf, z_shr, w_c, w_var, z_op, z_un, z_tB1, z_truR, z_chain, z_andT, z_orT, z_notT, z_andV, z_orV, z_notV, z_if, w_nil, z_cons, z_lst, z_tup, w_dct0, z_call, z_bn, z_sm, z_sl, z_star, z_sh, z_set, z_asg, z_drop, z_ret, w_retV, w_retN, w_nx, z_seq, w_frz, z_ifS, z_app, z_put, z_items, z_it, g_add, g_sub, g_neg, g_mul, g_rep, g_fdiv, g_mod, g_pow, g_addS, g_addL, g_cmp0, g_eqI, g_eqS, g_eqB, g_lenL, g_lenT, g_lenR, g_lenS, g_int, g_intB, g_str, g_listL, g_listT, g_listM, g_tup, g_abs, g_max2, g_min2, gz_ixL, gz_ixT, gz_ixR, g_slL, gi_bool_non, gi_bool_bl, gi_bool_int, gi_bool_str, gi_bool_lst, gi_bool_tup, gi_bool_scr, gi_bool_dct, gi_int_non, gi_int_bl, gi_int_int, gi_int_str, gi_int_lst, gi_int_tup, gi_int_scr, gi_int_dct, gi_str_non, gi_str_bl, gi_str_int, gi_str_str, gi_str_lst, gi_str_tup, gi_str_scr, gi_str_dct, gi_list_non, gi_list_bl, gi_list_int, gi_list_str, gi_list_lst, gi_list_tup, gi_list_scr, gi_list_dct, gi_tuple_non, gi_tuple_bl, gi_tuple_int, gi_tuple_str, gi_tuple_lst, gi_tuple_tup, gi_tuple_scr, gi_tuple_dct, gi_dict_non, gi_dict_bl, gi_dict_int, gi_dict_str, gi_dict_lst, gi_dict_tup, gi_dict_scr, gi_dict_dct, tr_b, true_and, and_true, eq_self, exO_some, hTL_l, hTL_t, hName_e, hCons_c, hNil_n, bind_so, it_l, it_t, it_r, List.getElem?_cons_zero, List.getElem?_cons_succ, List.set_cons_zero, List.set_cons_succ, true_and, and_true, Nat.zero_le, snb, nnb, ex_some, dT, if_true, Bool.false_eq_true, if_false, wipeE, Int.reduceLT, List.length_nil, List.length_cons, Nat.reduceAdd, Nat.reduceLeDiff, Nat.reduceLT, g_inS, g_ixS, g_slS, g_join]
  repeat (refine ⟨by first | decide | omega, ?_⟩)
  refine ⟨show 33 ≤ 16777216 by decide, ?_⟩
  refine (draws_spec ns i (limR h) (show 33 < 10000 by decide) (fun l hl => ?_)).mono ?_
  · have : ∀ l ∈ limR h, l = 4 ∨ l = 15 ∨ l = 2 ∨ l = h := fun l hl => by
      rcases List.mem_cons.mp hl with e | hl
      · exact .inl e
      rcases List.mem_cons.mp hl with e | hl
      · exact .inr (.inl e)
      rcases List.mem_cons.mp hl with e | hl
      · exact .inr (.inr (.inr e))
      · obtain ⟨s, hs, hl⟩ := List.mem_flatten.mp hl
        rw [(List.mem_replicate.mp hs).2] at hl
        rcases List.mem_cons.mp hl with e | hl
        · exact .inr (.inr (.inl e))
        · exact .inr (.inr (.inr (by simpa using hl)))
    have b : (100 : Int) ≤ 10 ^ 100 := by decide +kernel
    rcases this l hl with rfl | rfl | rfl | rfl <;> constructor <;> first | omega | exact Int.le_trans (by omega) b
  rintro r ⟨ds, rfl, hl, hd⟩
  have hl : ds.length = 33 := hl
  have at0 : ∀ j : Nat, j < 33 → ∃ x, ds[j]? = some x ∧ atI (ds.map D.int) (j : Int) = some (.int x) := fun j hj =>
    ⟨_, List.getElem?_eq_getElem (by omega), by rw [atI_map', atI_nat, List.getElem?_eq_getElem (by omega)]; rfl⟩
  obtain ⟨x0, hx0, ha0⟩ := at0 0 (by omega)
  obtain ⟨x1, hx1, ha1⟩ := at0 1 (by omega)
  obtain ⟨x2, hx2, ha2⟩ := at0 2 (by omega)
  have b1 := hd 1 _ _ hx1 rfl
  have b2 := hd 2 _ _ hx2 rfl
  rw [show ((0 : Nat) : Int) = 0 from rfl] at ha0
  rw [show ((1 : Nat) : Int) = 1 from rfl] at ha1
  rw [show ((2 : Nat) : Int) = 2 from rfl] at ha2
  simp only [onS_v, onS_e, okK_s, okK_n, Z1, Z2, onO_n, List.set_cons_zero, List.set_cons_succ]
  let I : En → Prop := fun en => ∃ (es : List (Int × Int)) (o7 o8 o9 : Option Sl), en = [some (Sl.sh (D.scr ns)), some (Sl.sh (D.int i)), some (Sl.sh (D.int (-6))), some (Sl.sh (D.int 15)), some (Sl.sh (D.int h)), some (Sl.sh (D.lst (ds.map .int))), some (Sl.sh (D.lst (es.map prD))), o7, o8, o9] ∧ Row (-6) 15 h es
  refine w_cut (fun en => ∃ (es : List (Int × Int)) (o7 o8 o9 : Option Sl), en = [some (Sl.sh (D.scr ns)), some (Sl.sh (D.int i)), some (Sl.sh (D.int (-6))), some (Sl.sh (D.int 15)), some (Sl.sh (D.int h)), some (Sl.sh (D.lst (ds.map .int))), some (Sl.sh (D.lst (es.map prD))), o7, o8, o9] ∧ (es ≠ [] → Row (-6) 15 h es)) ?_ ?_
  · simp only [Z1, Z2, z_bO0, z_bO1, z_for, z_lc, onV_v, onV_e, onS_v, onS_e, onB_v, onB_e, onBR_v, onBR_e, onA_v, onA_e, onVB_v, onVB_e, onVA_v, onVA_e, onAA_v, onAA_e, onAO_v, onAO_e, onBB_v, onBB_e, onO_n, onO_r, onO_b, onO_c, onO_e, onT_n, onT_c, onT_b, onT_r, onT_e, onR_n, onR_r, onR_e, okK_s, okK_n, wO_some, wR_some, wB_some, wA_some, z_lf, z_shr, w_c, w_var, z_op, z_un, z_tB1, z_truR, z_chain, z_andT, z_orT, z_notT, z_andV, z_orV, z_notV, z_if, w_nil, z_cons, z_lst, z_tup, w_dct0, z_call, z_bn, z_sm, z_sl, z_star, z_sh, z_set, z_asg, z_drop, z_ret, w_retV, w_retN, w_nx, z_seq, w_frz, z_ifS, z_app, z_put, z_items, z_it, g_add, g_sub, g_neg, g_mul, g_rep, g_fdiv, g_mod, g_pow, g_addS, g_addL, g_cmp0, g_eqI, g_eqS, g_eqB, g_lenL, g_lenT, g_lenR, g_lenS, g_int, g_intB, g_str, g_listL, g_listT, g_listM, g_tup, g_abs, g_max2, g_min2, gz_ixL, gz_ixT, gz_ixR, g_slL, gi_bool_non, gi_bool_bl, gi_bool_int, gi_bool_str, gi_bool_lst, gi_bool_tup, gi_bool_scr, gi_bool_dct, gi_int_non, gi_int_bl, gi_int_int, gi_int_str, gi_int_lst, gi_int_tup, gi_int_scr, gi_int_dct, gi_str_non, gi_str_bl, gi_str_int, gi_str_str, gi_str_lst, gi_str_tup, gi_str_scr, gi_str_dct, gi_list_non, gi_list_bl, gi_list_int, gi_list_str, gi_list_lst, gi_list_tup, gi_list_scr, gi_list_dct, gi_tuple_non, gi_tuple_bl, gi_tuple_int, gi_tuple_str, gi_tuple_lst, gi_tuple_tup, gi_tuple_scr, gi_tuple_dct, gi_dict_non, gi_dict_bl, gi_dict_int, gi_dict_str, gi_dict_lst, gi_dict_tup, gi_dict_scr, gi_dict_dct, tr_b, true_and, and_true, eq_self, exO_some, hTL_l, hTL_t, hName_e, hCons_c, hNil_n, bind_so, it_l, it_t, it_r, List.getElem?_cons_zero, List.getElem?_cons_succ, List.set_cons_zero, List.set_cons_succ, true_and, and_true, Nat.zero_le, snb, nnb, ex_some, dT, if_true, Bool.false_eq_true, if_false, wipeE, Int.reduceLT, List.length_nil, List.length_cons, Nat.reduceAdd, Nat.reduceLeDiff, Nat.reduceLT, g_inS, g_ixS, g_slS, g_join, frz_def, g_sort, g_rev, List.length_map, List.length_range, rng1_lit (n := 15) (by decide)]
    have gk : ∀ k : Nat, k < 15 → ∃ x y, atI (ds.map D.int) (3 + 2 * (k : Int)) = some (.int x) ∧ atI (ds.map D.int) (4 + 2 * (k : Int)) = some (.int y) ∧ ds[3 + 2 * k]? = some x ∧ ds[4 + 2 * k]? = some y ∧ 0 ≤ y ∧ y < h := fun k hk => by
      obtain ⟨x, e1, e2⟩ := at0 (3 + 2 * k) (by omega)
      obtain ⟨y, e3, e4⟩ := at0 (4 + 2 * k) (by omega)
      exact ⟨x, y, by rw [← e2]; congr 1, by rw [← e4]; congr 1, e1, e3, hd _ _ _ e3 (ix k hk).2⟩
    rw [lc_filter (fun k : Nat => decide (ds[3 + 2 * k]?.getD 0 = 1)) (g := fun k : Nat => prD (-6 + (k : Int), ds[4 + 2 * k]?.getD 0)) (List.range 15) fun k hk => by
      obtain ⟨x, y, e1, e2, e3, e4, _⟩ := gk k (List.mem_range.mp hk)
      have m2 : (mulOk 2 (k : Int) = true) = True := eq_true (mulOk_l (by decide) (by decide))
      constructor
      · simp only [Z1, Z2, z_bO0, z_bO1, z_for, z_lc, onV_v, onV_e, onS_v, onS_e, onB_v, onB_e, onBR_v, onBR_e, onA_v, onA_e, onVB_v, onVB_e, onVA_v, onVA_e, onAA_v, onAA_e, onAO_v, onAO_e, onBB_v, onBB_e, onO_n, onO_r, onO_b, onO_c, onO_e, onT_n, onT_c, onT_b, onT_r, onT_e, onR_n, onR_r, onR_e, okK_s, okK_n, wO_some, wR_some, wB_some, wA_some, z_lf, z_shr, w_c, w_var, z_op, z_un, z_tB1, z_truR, z_chain, z_andT, z_orT, z_notT, z_andV, z_orV, z_notV, z_if, w_nil, z_cons, z_lst, z_tup, w_dct0, z_call, z_bn, z_sm, z_sl, z_star, z_sh, z_set, z_asg, z_drop, z_ret, w_retV, w_retN, w_nx, z_seq, w_frz, z_ifS, z_app, z_put, z_items, z_it, g_add, g_sub, g_neg, g_mul, g_rep, g_fdiv, g_mod, g_pow, g_addS, g_addL, g_cmp0, g_eqI, g_eqS, g_eqB, g_lenL, g_lenT, g_lenR, g_lenS, g_int, g_intB, g_str, g_listL, g_listT, g_listM, g_tup, g_abs, g_max2, g_min2, gz_ixL, gz_ixT, gz_ixR, g_slL, gi_bool_non, gi_bool_bl, gi_bool_int, gi_bool_str, gi_bool_lst, gi_bool_tup, gi_bool_scr, gi_bool_dct, gi_int_non, gi_int_bl, gi_int_int, gi_int_str, gi_int_lst, gi_int_tup, gi_int_scr, gi_int_dct, gi_str_non, gi_str_bl, gi_str_int, gi_str_str, gi_str_lst, gi_str_tup, gi_str_scr, gi_str_dct, gi_list_non, gi_list_bl, gi_list_int, gi_list_str, gi_list_lst, gi_list_tup, gi_list_scr, gi_list_dct, gi_tuple_non, gi_tuple_bl, gi_tuple_int, gi_tuple_str, gi_tuple_lst, gi_tuple_tup, gi_tuple_scr, gi_tuple_dct, gi_dict_non, gi_dict_bl, gi_dict_int, gi_dict_str, gi_dict_lst, gi_dict_tup, gi_dict_scr, gi_dict_dct, tr_b, true_and, and_true, eq_self, exO_some, hTL_l, hTL_t, hName_e, hCons_c, hNil_n, bind_so, it_l, it_t, it_r, List.getElem?_cons_zero, List.getElem?_cons_succ, List.set_cons_zero, List.set_cons_succ, true_and, and_true, Nat.zero_le, snb, nnb, ex_some, dT, if_true, Bool.false_eq_true, if_false, wipeE, Int.reduceLT, List.length_nil, List.length_cons, Nat.reduceAdd, Nat.reduceLeDiff, Nat.reduceLT, g_inS, g_ixS, g_slS, g_join, frz_def, g_sort, g_rev, List.length_map, List.length_range, e1, m2, e3, Option.getD_some]
      · intro _
        simp only [Z1, Z2, z_bO0, z_bO1, z_for, z_lc, onV_v, onV_e, onS_v, onS_e, onB_v, onB_e, onBR_v, onBR_e, onA_v, onA_e, onVB_v, onVB_e, onVA_v, onVA_e, onAA_v, onAA_e, onAO_v, onAO_e, onBB_v, onBB_e, onO_n, onO_r, onO_b, onO_c, onO_e, onT_n, onT_c, onT_b, onT_r, onT_e, onR_n, onR_r, onR_e, okK_s, okK_n, wO_some, wR_some, wB_some, wA_some, z_lf, z_shr, w_c, w_var, z_op, z_un, z_tB1, z_truR, z_chain, z_andT, z_orT, z_notT, z_andV, z_orV, z_notV, z_if, w_nil, z_cons, z_lst, z_tup, w_dct0, z_call, z_bn, z_sm, z_sl, z_star, z_sh, z_set, z_asg, z_drop, z_ret, w_retV, w_retN, w_nx, z_seq, w_frz, z_ifS, z_app, z_put, z_items, z_it, g_add, g_sub, g_neg, g_mul, g_rep, g_fdiv, g_mod, g_pow, g_addS, g_addL, g_cmp0, g_eqI, g_eqS, g_eqB, g_lenL, g_lenT, g_lenR, g_lenS, g_int, g_intB, g_str, g_listL, g_listT, g_listM, g_tup, g_abs, g_max2, g_min2, gz_ixL, gz_ixT, gz_ixR, g_slL, gi_bool_non, gi_bool_bl, gi_bool_int, gi_bool_str, gi_bool_lst, gi_bool_tup, gi_bool_scr, gi_bool_dct, gi_int_non, gi_int_bl, gi_int_int, gi_int_str, gi_int_lst, gi_int_tup, gi_int_scr, gi_int_dct, gi_str_non, gi_str_bl, gi_str_int, gi_str_str, gi_str_lst, gi_str_tup, gi_str_scr, gi_str_dct, gi_list_non, gi_list_bl, gi_list_int, gi_list_str, gi_list_lst, gi_list_tup, gi_list_scr, gi_list_dct, gi_tuple_non, gi_tuple_bl, gi_tuple_int, gi_tuple_str, gi_tuple_lst, gi_tuple_tup, gi_tuple_scr, gi_tuple_dct, gi_dict_non, gi_dict_bl, gi_dict_int, gi_dict_str, gi_dict_lst, gi_dict_tup, gi_dict_scr, gi_dict_dct, tr_b, true_and, and_true, eq_self, exO_some, hTL_l, hTL_t, hName_e, hCons_c, hNil_n, bind_so, it_l, it_t, it_r, List.getElem?_cons_zero, List.getElem?_cons_succ, List.set_cons_zero, List.set_cons_succ, true_and, and_true, Nat.zero_le, snb, nnb, ex_some, dT, if_true, Bool.false_eq_true, if_false, wipeE, Int.reduceLT, List.length_nil, List.length_cons, Nat.reduceAdd, Nat.reduceLeDiff, Nat.reduceLT, g_inS, g_ixS, g_slS, g_join, frz_def, g_sort, g_rev, List.length_map, List.length_range, e2, m2, e4, Option.getD_some]
        exact ⟨_, rfl, by simp⟩]
    simp only [Z1, Z2, z_bO0, z_bO1, z_for, z_lc, onV_v, onV_e, onS_v, onS_e, onB_v, onB_e, onBR_v, onBR_e, onA_v, onA_e, onVB_v, onVB_e, onVA_v, onVA_e, onAA_v, onAA_e, onAO_v, onAO_e, onBB_v, onBB_e, onO_n, onO_r, onO_b, onO_c, onO_e, onT_n, onT_c, onT_b, onT_r, onT_e, onR_n, onR_r, onR_e, okK_s, okK_n, wO_some, wR_some, wB_some, wA_some, z_lf, z_shr, w_c, w_var, z_op, z_un, z_tB1, z_truR, z_chain, z_andT, z_orT, z_notT, z_andV, z_orV, z_notV, z_if, w_nil, z_cons, z_lst, z_tup, w_dct0, z_call, z_bn, z_sm, z_sl, z_star, z_sh, z_set, z_asg, z_drop, z_ret, w_retV, w_retN, w_nx, z_seq, w_frz, z_ifS, z_app, z_put, z_items, z_it, g_add, g_sub, g_neg, g_mul, g_rep, g_fdiv, g_mod, g_pow, g_addS, g_addL, g_cmp0, g_eqI, g_eqS, g_eqB, g_lenL, g_lenT, g_lenR, g_lenS, g_int, g_intB, g_str, g_listL, g_listT, g_listM, g_tup, g_abs, g_max2, g_min2, gz_ixL, gz_ixT, gz_ixR, g_slL, gi_bool_non, gi_bool_bl, gi_bool_int, gi_bool_str, gi_bool_lst, gi_bool_tup, gi_bool_scr, gi_bool_dct, gi_int_non, gi_int_bl, gi_int_int, gi_int_str, gi_int_lst, gi_int_tup, gi_int_scr, gi_int_dct, gi_str_non, gi_str_bl, gi_str_int, gi_str_str, gi_str_lst, gi_str_tup, gi_str_scr, gi_str_dct, gi_list_non, gi_list_bl, gi_list_int, gi_list_str, gi_list_lst, gi_list_tup, gi_list_scr, gi_list_dct, gi_tuple_non, gi_tuple_bl, gi_tuple_int, gi_tuple_str, gi_tuple_lst, gi_tuple_tup, gi_tuple_scr, gi_tuple_dct, gi_dict_non, gi_dict_bl, gi_dict_int, gi_dict_str, gi_dict_lst, gi_dict_tup, gi_dict_scr, gi_dict_dct, tr_b, true_and, and_true, eq_self, exO_some, hTL_l, hTL_t, hName_e, hCons_c, hNil_n, bind_so, it_l, it_t, it_r, List.getElem?_cons_zero, List.getElem?_cons_succ, List.set_cons_zero, List.set_cons_succ, true_and, and_true, Nat.zero_le, snb, nnb, ex_some, dT, if_true, Bool.false_eq_true, if_false, wipeE, Int.reduceLT, List.length_nil, List.length_cons, Nat.reduceAdd, Nat.reduceLeDiff, Nat.reduceLT, g_inS, g_ixS, g_slS, g_join, frz_def, g_sort, g_rev, List.length_map, List.length_range]
    refine ⟨((List.range 15).filter fun k : Nat => decide (ds[3 + 2 * k]?.getD 0 = 1)).map fun k : Nat => (-6 + (k : Int), ds[4 + 2 * k]?.getD 0), _, _, _, by rw [List.map_map]; rfl, fun hne => ⟨hne, ?_, ?_, ?_⟩⟩
    · rw [List.length_map]; exact Nat.le_trans (List.length_filter_le _ _) (by simp)
    · rw [List.map_map]
      refine List.Pairwise.map _ ?_ (List.Pairwise.filter _ List.pairwise_lt_range)
      intro a b hab
      show (-6 + (a : Int)) ≠ -6 + (b : Int)
      omega
    · intro e he
      obtain ⟨k, hk, rfl⟩ := List.mem_map.mp he
      have hk := List.mem_range.mp (List.mem_filter.mp hk).1
      obtain ⟨x, y, _, _, _, e4, b⟩ := gk k hk
      rw [e4]
      exact ⟨by constructor <;> (show _; simp only []; omega), b⟩
  rintro en1 ⟨es, o7, o8, o9, rfl, hr⟩
  refine w_cut I ?_ ?_
  · simp only [Z1, Z2, z_bO0, z_bO1, z_for, z_lc, onV_v, onV_e, onS_v, onS_e, onB_v, onB_e, onBR_v, onBR_e, onA_v, onA_e, onVB_v, onVB_e, onVA_v, onVA_e, onAA_v, onAA_e, onAO_v, onAO_e, onBB_v, onBB_e, onO_n, onO_r, onO_b, onO_c, onO_e, onT_n, onT_c, onT_b, onT_r, onT_e, onR_n, onR_r, onR_e, okK_s, okK_n, wO_some, wR_some, wB_some, wA_some, z_lf, z_shr, w_c, w_var, z_op, z_un, z_tB1, z_truR, z_chain, z_andT, z_orT, z_notT, z_andV, z_orV, z_notV, z_if, w_nil, z_cons, z_lst, z_tup, w_dct0, z_call, z_bn, z_sm, z_sl, z_star, z_sh, z_set, z_asg, z_drop, z_ret, w_retV, w_retN, w_nx, z_seq, w_frz, z_ifS, z_app, z_put, z_items, z_it, g_add, g_sub, g_neg, g_mul, g_rep, g_fdiv, g_mod, g_pow, g_addS, g_addL, g_cmp0, g_eqI, g_eqS, g_eqB, g_lenL, g_lenT, g_lenR, g_lenS, g_int, g_intB, g_str, g_listL, g_listT, g_listM, g_tup, g_abs, g_max2, g_min2, gz_ixL, gz_ixT, gz_ixR, g_slL, gi_bool_non, gi_bool_bl, gi_bool_int, gi_bool_str, gi_bool_lst, gi_bool_tup, gi_bool_scr, gi_bool_dct, gi_int_non, gi_int_bl, gi_int_int, gi_int_str, gi_int_lst, gi_int_tup, gi_int_scr, gi_int_dct, gi_str_non, gi_str_bl, gi_str_int, gi_str_str, gi_str_lst, gi_str_tup, gi_str_scr, gi_str_dct, gi_list_non, gi_list_bl, gi_list_int, gi_list_str, gi_list_lst, gi_list_tup, gi_list_scr, gi_list_dct, gi_tuple_non, gi_tuple_bl, gi_tuple_int, gi_tuple_str, gi_tuple_lst, gi_tuple_tup, gi_tuple_scr, gi_tuple_dct, gi_dict_non, gi_dict_bl, gi_dict_int, gi_dict_str, gi_dict_lst, gi_dict_tup, gi_dict_scr, gi_dict_dct, tr_b, true_and, and_true, eq_self, exO_some, hTL_l, hTL_t, hName_e, hCons_c, hNil_n, bind_so, it_l, it_t, it_r, List.getElem?_cons_zero, List.getElem?_cons_succ, List.set_cons_zero, List.set_cons_succ, true_and, and_true, Nat.zero_le, snb, nnb, ex_some, dT, if_true, Bool.false_eq_true, if_false, wipeE, Int.reduceLT, List.length_nil, List.length_cons, Nat.reduceAdd, Nat.reduceLeDiff, Nat.reduceLT, g_inS, g_ixS, g_slS, g_join, frz_def, g_sort, g_rev, List.length_map, List.length_range, g_eqNil (k := 1) (xs := es.map prD) (by decide) (fun d hd => by obtain ⟨p, _, rfl⟩ := List.mem_map.mp hd; exact okP_prD p)]
    split
    · simp only [Z1, Z2, z_bO0, z_bO1, z_for, z_lc, onV_v, onV_e, onS_v, onS_e, onB_v, onB_e, onBR_v, onBR_e, onA_v, onA_e, onVB_v, onVB_e, onVA_v, onVA_e, onAA_v, onAA_e, onAO_v, onAO_e, onBB_v, onBB_e, onO_n, onO_r, onO_b, onO_c, onO_e, onT_n, onT_c, onT_b, onT_r, onT_e, onR_n, onR_r, onR_e, okK_s, okK_n, wO_some, wR_some, wB_some, wA_some, z_lf, z_shr, w_c, w_var, z_op, z_un, z_tB1, z_truR, z_chain, z_andT, z_orT, z_notT, z_andV, z_orV, z_notV, z_if, w_nil, z_cons, z_lst, z_tup, w_dct0, z_call, z_bn, z_sm, z_sl, z_star, z_sh, z_set, z_asg, z_drop, z_ret, w_retV, w_retN, w_nx, z_seq, w_frz, z_ifS, z_app, z_put, z_items, z_it, g_add, g_sub, g_neg, g_mul, g_rep, g_fdiv, g_mod, g_pow, g_addS, g_addL, g_cmp0, g_eqI, g_eqS, g_eqB, g_lenL, g_lenT, g_lenR, g_lenS, g_int, g_intB, g_str, g_listL, g_listT, g_listM, g_tup, g_abs, g_max2, g_min2, gz_ixL, gz_ixT, gz_ixR, g_slL, gi_bool_non, gi_bool_bl, gi_bool_int, gi_bool_str, gi_bool_lst, gi_bool_tup, gi_bool_scr, gi_bool_dct, gi_int_non, gi_int_bl, gi_int_int, gi_int_str, gi_int_lst, gi_int_tup, gi_int_scr, gi_int_dct, gi_str_non, gi_str_bl, gi_str_int, gi_str_str, gi_str_lst, gi_str_tup, gi_str_scr, gi_str_dct, gi_list_non, gi_list_bl, gi_list_int, gi_list_str, gi_list_lst, gi_list_tup, gi_list_scr, gi_list_dct, gi_tuple_non, gi_tuple_bl, gi_tuple_int, gi_tuple_str, gi_tuple_lst, gi_tuple_tup, gi_tuple_scr, gi_tuple_dct, gi_dict_non, gi_dict_bl, gi_dict_int, gi_dict_str, gi_dict_lst, gi_dict_tup, gi_dict_scr, gi_dict_dct, tr_b, true_and, and_true, eq_self, exO_some, hTL_l, hTL_t, hName_e, hCons_c, hNil_n, bind_so, it_l, it_t, it_r, List.getElem?_cons_zero, List.getElem?_cons_succ, List.set_cons_zero, List.set_cons_succ, true_and, and_true, Nat.zero_le, snb, nnb, ex_some, dT, if_true, Bool.false_eq_true, if_false, wipeE, Int.reduceLT, List.length_nil, List.length_cons, Nat.reduceAdd, Nat.reduceLeDiff, Nat.reduceLT, g_inS, g_ixS, g_slS, g_join, frz_def, g_sort, g_rev, List.length_map, List.length_range, ha1, ha2]
      refine ⟨[(-6 + x1, x2)], _, _, _, rfl, by simp, by simp, by simp, fun e he => ?_⟩
      have : e = (-6 + x1, x2) := by simpa using he
      subst this
      exact ⟨by constructor <;> (show _; simp only []; omega), b2⟩
    · exact ⟨es, _, _, _, rfl, hr fun e => by subst e; contradiction⟩
  rintro en2 ⟨es, o7, o8, o9, rfl, hr⟩
  refine w_cut I ?_ ?_
  · simp only [Z1, Z2, z_bO0, z_bO1, z_for, z_lc, onV_v, onV_e, onS_v, onS_e, onB_v, onB_e, onBR_v, onBR_e, onA_v, onA_e, onVB_v, onVB_e, onVA_v, onVA_e, onAA_v, onAA_e, onAO_v, onAO_e, onBB_v, onBB_e, onO_n, onO_r, onO_b, onO_c, onO_e, onT_n, onT_c, onT_b, onT_r, onT_e, onR_n, onR_r, onR_e, okK_s, okK_n, wO_some, wR_some, wB_some, wA_some, z_lf, z_shr, w_c, w_var, z_op, z_un, z_tB1, z_truR, z_chain, z_andT, z_orT, z_notT, z_andV, z_orV, z_notV, z_if, w_nil, z_cons, z_lst, z_tup, w_dct0, z_call, z_bn, z_sm, z_sl, z_star, z_sh, z_set, z_asg, z_drop, z_ret, w_retV, w_retN, w_nx, z_seq, w_frz, z_ifS, z_app, z_put, z_items, z_it, g_add, g_sub, g_neg, g_mul, g_rep, g_fdiv, g_mod, g_pow, g_addS, g_addL, g_cmp0, g_eqI, g_eqS, g_eqB, g_lenL, g_lenT, g_lenR, g_lenS, g_int, g_intB, g_str, g_listL, g_listT, g_listM, g_tup, g_abs, g_max2, g_min2, gz_ixL, gz_ixT, gz_ixR, g_slL, gi_bool_non, gi_bool_bl, gi_bool_int, gi_bool_str, gi_bool_lst, gi_bool_tup, gi_bool_scr, gi_bool_dct, gi_int_non, gi_int_bl, gi_int_int, gi_int_str, gi_int_lst, gi_int_tup, gi_int_scr, gi_int_dct, gi_str_non, gi_str_bl, gi_str_int, gi_str_str, gi_str_lst, gi_str_tup, gi_str_scr, gi_str_dct, gi_list_non, gi_list_bl, gi_list_int, gi_list_str, gi_list_lst, gi_list_tup, gi_list_scr, gi_list_dct, gi_tuple_non, gi_tuple_bl, gi_tuple_int, gi_tuple_str, gi_tuple_lst, gi_tuple_tup, gi_tuple_scr, gi_tuple_dct, gi_dict_non, gi_dict_bl, gi_dict_int, gi_dict_str, gi_dict_lst, gi_dict_tup, gi_dict_scr, gi_dict_dct, tr_b, true_and, and_true, eq_self, exO_some, hTL_l, hTL_t, hName_e, hCons_c, hNil_n, bind_so, it_l, it_t, it_r, List.getElem?_cons_zero, List.getElem?_cons_succ, List.set_cons_zero, List.set_cons_succ, true_and, and_true, Nat.zero_le, snb, nnb, ex_some, dT, if_true, Bool.false_eq_true, if_false, wipeE, Int.reduceLT, List.length_nil, List.length_cons, Nat.reduceAdd, Nat.reduceLeDiff, Nat.reduceLT, g_inS, g_ixS, g_slS, g_join, frz_def, g_sort, g_rev, List.length_map, List.length_range, ha0]
    split
    · exact ⟨es.reverse, _, _, _, by rw [List.map_reverse], hr.perm es.reverse_perm⟩
    · exact ⟨es, _, _, _, rfl, hr⟩
  rintro en3 ⟨es, o7, o8, o9, rfl, hr⟩
  have l1 : 1 ≤ (es.map prD).length := by
    rw [List.length_map]
    have := List.length_pos_iff.mpr hr.1
    omega
  have l2 := hr.2.1
  refine w_cut I ?_ ?_
  · simp only [Z1, Z2, z_bO0, z_bO1, z_for, z_lc, onV_v, onV_e, onS_v, onS_e, onB_v, onB_e, onBR_v, onBR_e, onA_v, onA_e, onVB_v, onVB_e, onVA_v, onVA_e, onAA_v, onAA_e, onAO_v, onAO_e, onBB_v, onBB_e, onO_n, onO_r, onO_b, onO_c, onO_e, onT_n, onT_c, onT_b, onT_r, onT_e, onR_n, onR_r, onR_e, okK_s, okK_n, wO_some, wR_some, wB_some, wA_some, z_lf, z_shr, w_c, w_var, z_op, z_un, z_tB1, z_truR, z_chain, z_andT, z_orT, z_notT, z_andV, z_orV, z_notV, z_if, w_nil, z_cons, z_lst, z_tup, w_dct0, z_call, z_bn, z_sm, z_sl, z_star, z_sh, z_set, z_asg, z_drop, z_ret, w_retV, w_retN, w_nx, z_seq, w_frz, z_ifS, z_app, z_put, z_items, z_it, g_add, g_sub, g_neg, g_mul, g_rep, g_fdiv, g_mod, g_pow, g_addS, g_addL, g_cmp0, g_eqI, g_eqS, g_eqB, g_lenL, g_lenT, g_lenR, g_lenS, g_int, g_intB, g_str, g_listL, g_listT, g_listM, g_tup, g_abs, g_max2, g_min2, gz_ixL, gz_ixT, gz_ixR, g_slL, gi_bool_non, gi_bool_bl, gi_bool_int, gi_bool_str, gi_bool_lst, gi_bool_tup, gi_bool_scr, gi_bool_dct, gi_int_non, gi_int_bl, gi_int_int, gi_int_str, gi_int_lst, gi_int_tup, gi_int_scr, gi_int_dct, gi_str_non, gi_str_bl, gi_str_int, gi_str_str, gi_str_lst, gi_str_tup, gi_str_scr, gi_str_dct, gi_list_non, gi_list_bl, gi_list_int, gi_list_str, gi_list_lst, gi_list_tup, gi_list_scr, gi_list_dct, gi_tuple_non, gi_tuple_bl, gi_tuple_int, gi_tuple_str, gi_tuple_lst, gi_tuple_tup, gi_tuple_scr, gi_tuple_dct, gi_dict_non, gi_dict_bl, gi_dict_int, gi_dict_str, gi_dict_lst, gi_dict_tup, gi_dict_scr, gi_dict_dct, tr_b, true_and, and_true, eq_self, exO_some, hTL_l, hTL_t, hName_e, hCons_c, hNil_n, bind_so, it_l, it_t, it_r, List.getElem?_cons_zero, List.getElem?_cons_succ, List.set_cons_zero, List.set_cons_succ, true_and, and_true, Nat.zero_le, snb, nnb, ex_some, dT, if_true, Bool.false_eq_true, if_false, wipeE, Int.reduceLT, List.length_nil, List.length_cons, Nat.reduceAdd, Nat.reduceLeDiff, Nat.reduceLT, g_inS, g_ixS, g_slS, g_join, frz_def, g_sort, g_rev, List.length_map, List.length_range, ha0]
    split
    · simp only [Z1, Z2, z_bO0, z_bO1, z_for, z_lc, onV_v, onV_e, onS_v, onS_e, onB_v, onB_e, onBR_v, onBR_e, onA_v, onA_e, onVB_v, onVB_e, onVA_v, onVA_e, onAA_v, onAA_e, onAO_v, onAO_e, onBB_v, onBB_e, onO_n, onO_r, onO_b, onO_c, onO_e, onT_n, onT_c, onT_b, onT_r, onT_e, onR_n, onR_r, onR_e, okK_s, okK_n, wO_some, wR_some, wB_some, wA_some, z_lf, z_shr, w_c, w_var, z_op, z_un, z_tB1, z_truR, z_chain, z_andT, z_orT, z_notT, z_andV, z_orV, z_notV, z_if, w_nil, z_cons, z_lst, z_tup, w_dct0, z_call, z_bn, z_sm, z_sl, z_star, z_sh, z_set, z_asg, z_drop, z_ret, w_retV, w_retN, w_nx, z_seq, w_frz, z_ifS, z_app, z_put, z_items, z_it, g_add, g_sub, g_neg, g_mul, g_rep, g_fdiv, g_mod, g_pow, g_addS, g_addL, g_cmp0, g_eqI, g_eqS, g_eqB, g_lenL, g_lenT, g_lenR, g_lenS, g_int, g_intB, g_str, g_listL, g_listT, g_listM, g_tup, g_abs, g_max2, g_min2, gz_ixL, gz_ixT, gz_ixR, g_slL, gi_bool_non, gi_bool_bl, gi_bool_int, gi_bool_str, gi_bool_lst, gi_bool_tup, gi_bool_scr, gi_bool_dct, gi_int_non, gi_int_bl, gi_int_int, gi_int_str, gi_int_lst, gi_int_tup, gi_int_scr, gi_int_dct, gi_str_non, gi_str_bl, gi_str_int, gi_str_str, gi_str_lst, gi_str_tup, gi_str_scr, gi_str_dct, gi_list_non, gi_list_bl, gi_list_int, gi_list_str, gi_list_lst, gi_list_tup, gi_list_scr, gi_list_dct, gi_tuple_non, gi_tuple_bl, gi_tuple_int, gi_tuple_str, gi_tuple_lst, gi_tuple_tup, gi_tuple_scr, gi_tuple_dct, gi_dict_non, gi_dict_bl, gi_dict_int, gi_dict_str, gi_dict_lst, gi_dict_tup, gi_dict_scr, gi_dict_dct, tr_b, true_and, and_true, eq_self, exO_some, hTL_l, hTL_t, hName_e, hCons_c, hNil_n, bind_so, it_l, it_t, it_r, List.getElem?_cons_zero, List.getElem?_cons_succ, List.set_cons_zero, List.set_cons_succ, true_and, and_true, Nat.zero_le, snb, nnb, ex_some, dT, if_true, Bool.false_eq_true, if_false, wipeE, Int.reduceLT, List.length_nil, List.length_cons, Nat.reduceAdd, Nat.reduceLeDiff, Nat.reduceLT, g_inS, g_ixS, g_slS, g_join, frz_def, g_sort, g_rev, List.length_map, List.length_range, cut_drop l1, cut_take l1]
      refine ⟨by rw [List.length_drop, List.length_take, List.length_map]; omega, es.drop 1 ++ es.take 1, _, _, _, by rw [List.map_append, List.map_drop, List.map_take], hr.perm ?_⟩
      exact (List.perm_append_comm).trans (by rw [List.take_append_drop])
    · exact ⟨es, _, _, _, rfl, hr⟩
  rintro en4 ⟨es, o7, o8, o9, rfl, hr⟩
  have l2 := hr.2.1
  refine w_cut I ?_ ?_
  · simp only [Z1, Z2, z_bO0, z_bO1, z_for, z_lc, onV_v, onV_e, onS_v, onS_e, onB_v, onB_e, onBR_v, onBR_e, onA_v, onA_e, onVB_v, onVB_e, onVA_v, onVA_e, onAA_v, onAA_e, onAO_v, onAO_e, onBB_v, onBB_e, onO_n, onO_r, onO_b, onO_c, onO_e, onT_n, onT_c, onT_b, onT_r, onT_e, onR_n, onR_r, onR_e, okK_s, okK_n, wO_some, wR_some, wB_some, wA_some, z_lf, z_shr, w_c, w_var, z_op, z_un, z_tB1, z_truR, z_chain, z_andT, z_orT, z_notT, z_andV, z_orV, z_notV, z_if, w_nil, z_cons, z_lst, z_tup, w_dct0, z_call, z_bn, z_sm, z_sl, z_star, z_sh, z_set, z_asg, z_drop, z_ret, w_retV, w_retN, w_nx, z_seq, w_frz, z_ifS, z_app, z_put, z_items, z_it, g_add, g_sub, g_neg, g_mul, g_rep, g_fdiv, g_mod, g_pow, g_addS, g_addL, g_cmp0, g_eqI, g_eqS, g_eqB, g_lenL, g_lenT, g_lenR, g_lenS, g_int, g_intB, g_str, g_listL, g_listT, g_listM, g_tup, g_abs, g_max2, g_min2, gz_ixL, gz_ixT, gz_ixR, g_slL, gi_bool_non, gi_bool_bl, gi_bool_int, gi_bool_str, gi_bool_lst, gi_bool_tup, gi_bool_scr, gi_bool_dct, gi_int_non, gi_int_bl, gi_int_int, gi_int_str, gi_int_lst, gi_int_tup, gi_int_scr, gi_int_dct, gi_str_non, gi_str_bl, gi_str_int, gi_str_str, gi_str_lst, gi_str_tup, gi_str_scr, gi_str_dct, gi_list_non, gi_list_bl, gi_list_int, gi_list_str, gi_list_lst, gi_list_tup, gi_list_scr, gi_list_dct, gi_tuple_non, gi_tuple_bl, gi_tuple_int, gi_tuple_str, gi_tuple_lst, gi_tuple_tup, gi_tuple_scr, gi_tuple_dct, gi_dict_non, gi_dict_bl, gi_dict_int, gi_dict_str, gi_dict_lst, gi_dict_tup, gi_dict_scr, gi_dict_dct, tr_b, true_and, and_true, eq_self, exO_some, hTL_l, hTL_t, hName_e, hCons_c, hNil_n, bind_so, it_l, it_t, it_r, List.getElem?_cons_zero, List.getElem?_cons_succ, List.set_cons_zero, List.set_cons_succ, true_and, and_true, Nat.zero_le, snb, nnb, ex_some, dT, if_true, Bool.false_eq_true, if_false, wipeE, Int.reduceLT, List.length_nil, List.length_cons, Nat.reduceAdd, Nat.reduceLeDiff, Nat.reduceLT, g_inS, g_ixS, g_slS, g_join, frz_def, g_sort, g_rev, List.length_map, List.length_range, ha0]
    split
    · rw [lc_map (c := prD) (g := fun e => D.int e.2) es fun e he => by
        simp only [Z1, Z2, z_bO0, z_bO1, z_for, z_lc, onV_v, onV_e, onS_v, onS_e, onB_v, onB_e, onBR_v, onBR_e, onA_v, onA_e, onVB_v, onVB_e, onVA_v, onVA_e, onAA_v, onAA_e, onAO_v, onAO_e, onBB_v, onBB_e, onO_n, onO_r, onO_b, onO_c, onO_e, onT_n, onT_c, onT_b, onT_r, onT_e, onR_n, onR_r, onR_e, okK_s, okK_n, wO_some, wR_some, wB_some, wA_some, z_lf, z_shr, w_c, w_var, z_op, z_un, z_tB1, z_truR, z_chain, z_andT, z_orT, z_notT, z_andV, z_orV, z_notV, z_if, w_nil, z_cons, z_lst, z_tup, w_dct0, z_call, z_bn, z_sm, z_sl, z_star, z_sh, z_set, z_asg, z_drop, z_ret, w_retV, w_retN, w_nx, z_seq, w_frz, z_ifS, z_app, z_put, z_items, z_it, g_add, g_sub, g_neg, g_mul, g_rep, g_fdiv, g_mod, g_pow, g_addS, g_addL, g_cmp0, g_eqI, g_eqS, g_eqB, g_lenL, g_lenT, g_lenR, g_lenS, g_int, g_intB, g_str, g_listL, g_listT, g_listM, g_tup, g_abs, g_max2, g_min2, gz_ixL, gz_ixT, gz_ixR, g_slL, gi_bool_non, gi_bool_bl, gi_bool_int, gi_bool_str, gi_bool_lst, gi_bool_tup, gi_bool_scr, gi_bool_dct, gi_int_non, gi_int_bl, gi_int_int, gi_int_str, gi_int_lst, gi_int_tup, gi_int_scr, gi_int_dct, gi_str_non, gi_str_bl, gi_str_int, gi_str_str, gi_str_lst, gi_str_tup, gi_str_scr, gi_str_dct, gi_list_non, gi_list_bl, gi_list_int, gi_list_str, gi_list_lst, gi_list_tup, gi_list_scr, gi_list_dct, gi_tuple_non, gi_tuple_bl, gi_tuple_int, gi_tuple_str, gi_tuple_lst, gi_tuple_tup, gi_tuple_scr, gi_tuple_dct, gi_dict_non, gi_dict_bl, gi_dict_int, gi_dict_str, gi_dict_lst, gi_dict_tup, gi_dict_scr, gi_dict_dct, tr_b, true_and, and_true, eq_self, exO_some, hTL_l, hTL_t, hName_e, hCons_c, hNil_n, bind_so, it_l, it_t, it_r, List.getElem?_cons_zero, List.getElem?_cons_succ, List.set_cons_zero, List.set_cons_succ, true_and, and_true, Nat.zero_le, snb, nnb, ex_some, dT, if_true, Bool.false_eq_true, if_false, wipeE, Int.reduceLT, List.length_nil, List.length_cons, Nat.reduceAdd, Nat.reduceLeDiff, Nat.reduceLT, g_inS, g_ixS, g_slS, g_join, frz_def, g_sort, g_rev, List.length_map, List.length_range, prD, atI_0, atI_1, atI_2, atI_3, atI_4, atI_5, atI_6, atI_7, atI_8, atI_9, atI_10, atI_11, atI_12, atI_13, atI_14, atI_15, atI_16, atI_17, atI_18, atI_19, atI_20, atI_21, atI_22, atI_23, atI_24, atI_25, atI_26, atI_27, atI_28, atI_29, atI_30]
        exact ⟨_, rfl, by simp⟩]
      have em : es.map (fun e => D.int e.2) = (es.map (·.2)).map D.int := by rw [List.map_map]; rfl
      simp only [Z1, Z2, z_bO0, z_bO1, z_for, z_lc, onV_v, onV_e, onS_v, onS_e, onB_v, onB_e, onBR_v, onBR_e, onA_v, onA_e, onVB_v, onVB_e, onVA_v, onVA_e, onAA_v, onAA_e, onAO_v, onAO_e, onBB_v, onBB_e, onO_n, onO_r, onO_b, onO_c, onO_e, onT_n, onT_c, onT_b, onT_r, onT_e, onR_n, onR_r, onR_e, okK_s, okK_n, wO_some, wR_some, wB_some, wA_some, z_lf, z_shr, w_c, w_var, z_op, z_un, z_tB1, z_truR, z_chain, z_andT, z_orT, z_notT, z_andV, z_orV, z_notV, z_if, w_nil, z_cons, z_lst, z_tup, w_dct0, z_call, z_bn, z_sm, z_sl, z_star, z_sh, z_set, z_asg, z_drop, z_ret, w_retV, w_retN, w_nx, z_seq, w_frz, z_ifS, z_app, z_put, z_items, z_it, g_add, g_sub, g_neg, g_mul, g_rep, g_fdiv, g_mod, g_pow, g_addS, g_addL, g_cmp0, g_eqI, g_eqS, g_eqB, g_lenL, g_lenT, g_lenR, g_lenS, g_int, g_intB, g_str, g_listL, g_listT, g_listM, g_tup, g_abs, g_max2, g_min2, gz_ixL, gz_ixT, gz_ixR, g_slL, gi_bool_non, gi_bool_bl, gi_bool_int, gi_bool_str, gi_bool_lst, gi_bool_tup, gi_bool_scr, gi_bool_dct, gi_int_non, gi_int_bl, gi_int_int, gi_int_str, gi_int_lst, gi_int_tup, gi_int_scr, gi_int_dct, gi_str_non, gi_str_bl, gi_str_int, gi_str_str, gi_str_lst, gi_str_tup, gi_str_scr, gi_str_dct, gi_list_non, gi_list_bl, gi_list_int, gi_list_str, gi_list_lst, gi_list_tup, gi_list_scr, gi_list_dct, gi_tuple_non, gi_tuple_bl, gi_tuple_int, gi_tuple_str, gi_tuple_lst, gi_tuple_tup, gi_tuple_scr, gi_tuple_dct, gi_dict_non, gi_dict_bl, gi_dict_int, gi_dict_str, gi_dict_lst, gi_dict_tup, gi_dict_scr, gi_dict_dct, tr_b, true_and, and_true, eq_self, exO_some, hTL_l, hTL_t, hName_e, hCons_c, hNil_n, bind_so, it_l, it_t, it_r, List.getElem?_cons_zero, List.getElem?_cons_succ, List.set_cons_zero, List.set_cons_succ, true_and, and_true, Nat.zero_le, snb, nnb, ex_some, dT, if_true, Bool.false_eq_true, if_false, wipeE, Int.reduceLT, List.length_nil, List.length_cons, Nat.reduceAdd, Nat.reduceLeDiff, Nat.reduceLT, g_inS, g_ixS, g_slS, g_join, frz_def, g_sort, g_rev, List.length_map, List.length_range, em, rng1_nat (n := es.length) (by omega)]
      have hp := sortI_perm (es.map (·.2))
      have hl3 := hp.length_eq
      rw [List.length_map] at hl3
      generalize sortI (es.map (·.2)) = vs at *
      rw [lc_map (g := fun k : Nat => prD ((es[k]?.getD (0, 0)).1, vs[k]?.getD 0)) (List.range es.length) fun k hk => by
        have hk := List.mem_range.mp hk
        have a1 : atI (es.map prD) (k : Int) = some (prD es[k]) := by rw [atI_map', atI_nat, List.getElem?_eq_getElem hk]; rfl
        have a2 : atI (vs.map D.int) (k : Int) = some (D.int vs[k]) := by rw [atI_map', atI_nat, List.getElem?_eq_getElem (by omega)]; rfl
        simp only [Z1, Z2, z_bO0, z_bO1, z_for, z_lc, onV_v, onV_e, onS_v, onS_e, onB_v, onB_e, onBR_v, onBR_e, onA_v, onA_e, onVB_v, onVB_e, onVA_v, onVA_e, onAA_v, onAA_e, onAO_v, onAO_e, onBB_v, onBB_e, onO_n, onO_r, onO_b, onO_c, onO_e, onT_n, onT_c, onT_b, onT_r, onT_e, onR_n, onR_r, onR_e, okK_s, okK_n, wO_some, wR_some, wB_some, wA_some, z_lf, z_shr, w_c, w_var, z_op, z_un, z_tB1, z_truR, z_chain, z_andT, z_orT, z_notT, z_andV, z_orV, z_notV, z_if, w_nil, z_cons, z_lst, z_tup, w_dct0, z_call, z_bn, z_sm, z_sl, z_star, z_sh, z_set, z_asg, z_drop, z_ret, w_retV, w_retN, w_nx, z_seq, w_frz, z_ifS, z_app, z_put, z_items, z_it, g_add, g_sub, g_neg, g_mul, g_rep, g_fdiv, g_mod, g_pow, g_addS, g_addL, g_cmp0, g_eqI, g_eqS, g_eqB, g_lenL, g_lenT, g_lenR, g_lenS, g_int, g_intB, g_str, g_listL, g_listT, g_listM, g_tup, g_abs, g_max2, g_min2, gz_ixL, gz_ixT, gz_ixR, g_slL, gi_bool_non, gi_bool_bl, gi_bool_int, gi_bool_str, gi_bool_lst, gi_bool_tup, gi_bool_scr, gi_bool_dct, gi_int_non, gi_int_bl, gi_int_int, gi_int_str, gi_int_lst, gi_int_tup, gi_int_scr, gi_int_dct, gi_str_non, gi_str_bl, gi_str_int, gi_str_str, gi_str_lst, gi_str_tup, gi_str_scr, gi_str_dct, gi_list_non, gi_list_bl, gi_list_int, gi_list_str, gi_list_lst, gi_list_tup, gi_list_scr, gi_list_dct, gi_tuple_non, gi_tuple_bl, gi_tuple_int, gi_tuple_str, gi_tuple_lst, gi_tuple_tup, gi_tuple_scr, gi_tuple_dct, gi_dict_non, gi_dict_bl, gi_dict_int, gi_dict_str, gi_dict_lst, gi_dict_tup, gi_dict_scr, gi_dict_dct, tr_b, true_and, and_true, eq_self, exO_some, hTL_l, hTL_t, hName_e, hCons_c, hNil_n, bind_so, it_l, it_t, it_r, List.getElem?_cons_zero, List.getElem?_cons_succ, List.set_cons_zero, List.set_cons_succ, true_and, and_true, Nat.zero_le, snb, nnb, ex_some, dT, if_true, Bool.false_eq_true, if_false, wipeE, Int.reduceLT, List.length_nil, List.length_cons, Nat.reduceAdd, Nat.reduceLeDiff, Nat.reduceLT, g_inS, g_ixS, g_slS, g_join, frz_def, g_sort, g_rev, List.length_map, List.length_range, a1, a2, prD, atI_0, atI_1, atI_2, atI_3, atI_4, atI_5, atI_6, atI_7, atI_8, atI_9, atI_10, atI_11, atI_12, atI_13, atI_14, atI_15, atI_16, atI_17, atI_18, atI_19, atI_20, atI_21, atI_22, atI_23, atI_24, atI_25, atI_26, atI_27, atI_28, atI_29, atI_30]
        exact ⟨_, by rw [List.getElem?_eq_getElem hk, List.getElem?_eq_getElem (by omega)]; rfl, by simp⟩]
      simp only [Z1, Z2, z_bO0, z_bO1, z_for, z_lc, onV_v, onV_e, onS_v, onS_e, onB_v, onB_e, onBR_v, onBR_e, onA_v, onA_e, onVB_v, onVB_e, onVA_v, onVA_e, onAA_v, onAA_e, onAO_v, onAO_e, onBB_v, onBB_e, onO_n, onO_r, onO_b, onO_c, onO_e, onT_n, onT_c, onT_b, onT_r, onT_e, onR_n, onR_r, onR_e, okK_s, okK_n, wO_some, wR_some, wB_some, wA_some, z_lf, z_shr, w_c, w_var, z_op, z_un, z_tB1, z_truR, z_chain, z_andT, z_orT, z_notT, z_andV, z_orV, z_notV, z_if, w_nil, z_cons, z_lst, z_tup, w_dct0, z_call, z_bn, z_sm, z_sl, z_star, z_sh, z_set, z_asg, z_drop, z_ret, w_retV, w_retN, w_nx, z_seq, w_frz, z_ifS, z_app, z_put, z_items, z_it, g_add, g_sub, g_neg, g_mul, g_rep, g_fdiv, g_mod, g_pow, g_addS, g_addL, g_cmp0, g_eqI, g_eqS, g_eqB, g_lenL, g_lenT, g_lenR, g_lenS, g_int, g_intB, g_str, g_listL, g_listT, g_listM, g_tup, g_abs, g_max2, g_min2, gz_ixL, gz_ixT, gz_ixR, g_slL, gi_bool_non, gi_bool_bl, gi_bool_int, gi_bool_str, gi_bool_lst, gi_bool_tup, gi_bool_scr, gi_bool_dct, gi_int_non, gi_int_bl, gi_int_int, gi_int_str, gi_int_lst, gi_int_tup, gi_int_scr, gi_int_dct, gi_str_non, gi_str_bl, gi_str_int, gi_str_str, gi_str_lst, gi_str_tup, gi_str_scr, gi_str_dct, gi_list_non, gi_list_bl, gi_list_int, gi_list_str, gi_list_lst, gi_list_tup, gi_list_scr, gi_list_dct, gi_tuple_non, gi_tuple_bl, gi_tuple_int, gi_tuple_str, gi_tuple_lst, gi_tuple_tup, gi_tuple_scr, gi_tuple_dct, gi_dict_non, gi_dict_bl, gi_dict_int, gi_dict_str, gi_dict_lst, gi_dict_tup, gi_dict_scr, gi_dict_dct, tr_b, true_and, and_true, eq_self, exO_some, hTL_l, hTL_t, hName_e, hCons_c, hNil_n, bind_so, it_l, it_t, it_r, List.getElem?_cons_zero, List.getElem?_cons_succ, List.set_cons_zero, List.set_cons_succ, true_and, and_true, Nat.zero_le, snb, nnb, ex_some, dT, if_true, Bool.false_eq_true, if_false, wipeE, Int.reduceLT, List.length_nil, List.length_cons, Nat.reduceAdd, Nat.reduceLeDiff, Nat.reduceLT, g_inS, g_ixS, g_slS, g_join, frz_def, g_sort, g_rev, List.length_map, List.length_range]
      refine ⟨by omega, by omega, (List.range es.length).map fun k : Nat => ((es[k]?.getD (0, 0)).1, vs[k]?.getD 0), _, _, _, by rw [List.map_map]; rfl, ?_, ?_, ?_, ?_⟩
      · intro e
        have := congrArg List.length e
        rw [List.length_map, List.length_range] at this
        exact hr.1 (List.eq_nil_of_length_eq_zero this)
      · rw [List.length_map, List.length_range]; exact l2
      · have : ((List.range es.length).map fun k : Nat => ((es[k]?.getD (0, 0)).1, vs[k]?.getD 0)).map (·.1) = es.map (·.1) := by
          refine List.ext_getElem? fun j => ?_
          rw [List.map_map, List.getElem?_map, List.getElem?_map]
          by_cases hj : j < es.length
          · rw [List.getElem?_range hj, List.getElem?_eq_getElem hj]; simp [hj]
          · rw [List.getElem?_eq_none (by simpa using hj), List.getElem?_eq_none (by simpa using hj)]; rfl
        rw [this]
        exact hr.2.2.1
      · intro e he
        obtain ⟨k, hk, rfl⟩ := List.mem_map.mp he
        have hk := List.mem_range.mp hk
        have h3 := hr.2.2.2 es[k] (List.getElem_mem hk)
        have hv : vs[k]'(by omega) ∈ es.map (·.2) := hp.mem_iff.mp (List.getElem_mem _)
        obtain ⟨e2, he2, e3⟩ := List.mem_map.mp hv
        have h4 := hr.2.2.2 e2 he2
        rw [List.getElem?_eq_getElem hk, List.getElem?_eq_getElem (by omega)]
        refine ⟨h3.1, ?_⟩
        show 0 ≤ vs[k] ∧ vs[k] < h
        rw [← e3]
        exact h4.2
    · exact ⟨es, _, _, _, rfl, hr⟩
  rintro en5 ⟨es, o7, o8, o9, rfl, hr⟩
  simp only [Z1, Z2, z_bO0, z_bO1, z_for, z_lc, onV_v, onV_e, onS_v, onS_e, onB_v, onB_e, onBR_v, onBR_e, onA_v, onA_e, onVB_v, onVB_e, onVA_v, onVA_e, onAA_v, onAA_e, onAO_v, onAO_e, onBB_v, onBB_e, onO_n, onO_r, onO_b, onO_c, onO_e, onT_n, onT_c, onT_b, onT_r, onT_e, onR_n, onR_r, onR_e, okK_s, okK_n, wO_some, wR_some, wB_some, wA_some, z_lf, z_shr, w_c, w_var, z_op, z_un, z_tB1, z_truR, z_chain, z_andT, z_orT, z_notT, z_andV, z_orV, z_notV, z_if, w_nil, z_cons, z_lst, z_tup, w_dct0, z_call, z_bn, z_sm, z_sl, z_star, z_sh, z_set, z_asg, z_drop, z_ret, w_retV, w_retN, w_nx, z_seq, w_frz, z_ifS, z_app, z_put, z_items, z_it, g_add, g_sub, g_neg, g_mul, g_rep, g_fdiv, g_mod, g_pow, g_addS, g_addL, g_cmp0, g_eqI, g_eqS, g_eqB, g_lenL, g_lenT, g_lenR, g_lenS, g_int, g_intB, g_str, g_listL, g_listT, g_listM, g_tup, g_abs, g_max2, g_min2, gz_ixL, gz_ixT, gz_ixR, g_slL, gi_bool_non, gi_bool_bl, gi_bool_int, gi_bool_str, gi_bool_lst, gi_bool_tup, gi_bool_scr, gi_bool_dct, gi_int_non, gi_int_bl, gi_int_int, gi_int_str, gi_int_lst, gi_int_tup, gi_int_scr, gi_int_dct, gi_str_non, gi_str_bl, gi_str_int, gi_str_str, gi_str_lst, gi_str_tup, gi_str_scr, gi_str_dct, gi_list_non, gi_list_bl, gi_list_int, gi_list_str, gi_list_lst, gi_list_tup, gi_list_scr, gi_list_dct, gi_tuple_non, gi_tuple_bl, gi_tuple_int, gi_tuple_str, gi_tuple_lst, gi_tuple_tup, gi_tuple_scr, gi_tuple_dct, gi_dict_non, gi_dict_bl, gi_dict_int, gi_dict_str, gi_dict_lst, gi_dict_tup, gi_dict_scr, gi_dict_dct, tr_b, true_and, and_true, eq_self, exO_some, hTL_l, hTL_t, hName_e, hCons_c, hNil_n, bind_so, it_l, it_t, it_r, List.getElem?_cons_zero, List.getElem?_cons_succ, List.set_cons_zero, List.set_cons_succ, true_and, and_true, Nat.zero_le, snb, nnb, ex_some, dT, if_true, Bool.false_eq_true, if_false, wipeE, Int.reduceLT, List.length_nil, List.length_cons, Nat.reduceAdd, Nat.reduceLeDiff, Nat.reduceLT, g_inS, g_ixS, g_slS, g_join, frz_def, g_sort, g_rev, List.length_map, List.length_range]
  exact ⟨es, rfl, hr⟩
end C
namespace C
open PySem L2 PD
/-! ### dicts by text -/
def dcS {α : Type} (g : α → D) (ps : List (Str × α)) : D := .dct (ps.map fun p => (.inr p.1, g p.2))
def putS {α : Type} (ps : List (Str × α)) (k : Str) (v : α) : List (Str × α) := if (ps.any fun p => decide (p.1 = k)) = true then ps.map (fun p => if p.1 = k then (p.1, v) else p) else ps ++ [(k, v)]
def lookS {α : Type} (ps : List (Str × α)) (k : Str) : Option α := (ps.find? fun p => decide (p.1 = k)).map (·.2)
theorem put_dcS {α : Type} {g : α → D} {ps : List (Str × α)} {k : Str} {v : α} (h : ps.length < 16777216) : putO (g v) (dcS g ps) (.str k) = some (dcS g (putS ps k v)) := by
  have e : putO (g v) (dcS g ps) (.str k) = if (ps.map fun p => ((.inr p.1 : Key), g p.2)).length < 16777216 then some (.dct (putD (ps.map fun p => (.inr p.1, g p.2)) (.inr k) (g v))) else none := rfl
  rw [e, if_pos (by rw [List.length_map]; exact h)]
  congr 1
  unfold putD putS
  have e1 : ((ps.map fun p => ((.inr p.1 : Key), g p.2)).any fun kv => decide (kv.1 = .inr k)) = ps.any fun p => decide (p.1 = k) := by
    rw [List.any_map]
    congr 1
    funext p
    simp
  rw [e1]
  unfold dcS
  split
  · congr 1
    rw [List.map_map, List.map_map]
    refine List.map_congr_left fun p _ => ?_
    show (if (Sum.inr p.1 : Key) = .inr k then ((.inr p.1 : Key), g v) else (.inr p.1, g p.2)) = _
    simp only [Function.comp, Sum.inr.injEq]
    split <;> rfl
  · rw [List.map_append]; rfl
theorem look_dcS {α : Type} {g : α → D} {ps : List (Str × α)} {k : Str} : lookD (ps.map fun p => (.inr p.1, g p.2)) (.inr k) = (lookS ps k).map g := by
  unfold lookD lookS
  induction ps with
  | nil => rfl
  | cons p r ih =>
    rw [List.map_cons, List.find?_cons, List.find?_cons]
    by_cases h : p.1 = k
    · simp [h]
    · have h1 : decide (p.1 = k) = false := decide_eq_false h
      have h2 : decide ((Sum.inr p.1 : Key) = .inr k) = false := decide_eq_false fun e => h (by cases e; rfl)
      simp only [h1, h2]
      exact ih
theorem g_ixDc {α : Type} {g : α → D} {ps : List (Str × α)} {k : Str} {QG : Kd → D → Prop} : wG (ixD (dcS g ps) (.str k)) QG = exO (lookS ps k) (Z (fun x => QG .sh (g x)) ⟨⟩) := by
  show wG ((lookD (ps.map fun p => ((.inr p.1 : Key), g p.2)) (.inr k)).map fun d => (Kd.sh, d)) QG = _
  rw [look_dcS, Option.map_map]
  exact wG_map
theorem putS_mem {α : Type} {ps : List (Str × α)} {k : Str} {v : α} {p : Str × α} (h : p ∈ putS ps k v) : p ∈ ps ∨ p = (k, v) := by
  unfold putS at h
  split at h
  · obtain ⟨q, hq, rfl⟩ := List.mem_map.mp h
    by_cases e : q.1 = k
    · rw [if_pos e, e]; exact .inr rfl
    · rw [if_neg e]; exact .inl hq
  · rcases List.mem_append.mp h with h | h
    · exact .inl h
    · exact .inr (by simpa using h)
theorem putS_len {α : Type} {ps : List (Str × α)} {k : Str} {v : α} : (putS ps k v).length ≤ ps.length + 1 := by
  unfold putS
  split
  · rw [List.length_map]; omega
  · rw [List.length_append]; exact Nat.le_refl _
theorem putS_len_key {α : Type} {ps : List (Str × α)} {k : Str} {v : α} (h : k ∈ ps.map (·.1)) : (putS ps k v).length = ps.length := by
  obtain ⟨p, hp, rfl⟩ := List.mem_map.mp h
  unfold putS
  rw [if_pos (List.any_eq_true.mpr ⟨p, hp, decide_eq_true rfl⟩), List.length_map]
theorem putS_nodup {α : Type} {ps : List (Str × α)} {k : Str} {v : α} (h : (ps.map (·.1)).Nodup) : ((putS ps k v).map (·.1)).Nodup := by
  unfold putS
  split
  · rw [List.map_map]
    have : ps.map ((·.1) ∘ fun p => if p.1 = k then (p.1, v) else p) = ps.map (·.1) := List.map_congr_left fun p _ => by
      simp only [Function.comp]
      split <;> rfl
    rw [this]
    exact h
  · rename_i hn
    rw [List.map_append]
    refine List.nodup_append.mpr ⟨h, by simp, fun a ha b hb => ?_⟩
    obtain ⟨p, hp, rfl⟩ := List.mem_map.mp ha
    have hb : b = k := by simpa using hb
    subst hb
    intro e
    exact hn (List.any_eq_true.mpr ⟨p, hp, decide_eq_true e⟩)
theorem lookS_mem {α : Type} {ps : List (Str × α)} {k : Str} {v : α} (h : lookS ps k = some v) : (k, v) ∈ ps := by
  unfold lookS at h
  obtain ⟨p, hp, rfl⟩ := Option.map_eq_some_iff.mp h
  have h1 := List.find?_some hp
  have h2 := List.mem_of_find?_eq_some hp
  have h1 : p.1 = k := of_decide_eq_true h1
  rw [← h1]
  exact h2
theorem lookS_of {α : Type} {ps : List (Str × α)} {k : Str} (h : k ∈ ps.map (·.1)) : ∃ v, lookS ps k = some v := by
  obtain ⟨p, hp, rfl⟩ := List.mem_map.mp h
  unfold lookS
  cases e : ps.find? fun q => decide (q.1 = p.1) with
  | none => exact absurd (List.find?_eq_none.mp e p hp) (by simp)
  | some q => exact ⟨q.2, rfl⟩
theorem putS_key {α : Type} {ps : List (Str × α)} {k : Str} {v : α} : k ∈ (putS ps k v).map (·.1) := by
  unfold putS
  split
  · rename_i h
    obtain ⟨p, hp, e⟩ := List.any_eq_true.mp h
    have e := of_decide_eq_true e
    exact List.mem_map.mpr ⟨_, List.mem_map.mpr ⟨p, hp, rfl⟩, by rw [if_pos e]; exact e⟩
  · simp
theorem putS_keeps {α : Type} {ps : List (Str × α)} {k j : Str} {v : α} (h : j ∈ ps.map (·.1)) : j ∈ (putS ps k v).map (·.1) := by
  obtain ⟨p, hp, rfl⟩ := List.mem_map.mp h
  unfold putS
  split
  · refine List.mem_map.mpr ⟨_, List.mem_map.mpr ⟨p, hp, rfl⟩, ?_⟩
    split <;> rfl
  · rw [List.map_append]; exact List.mem_append_left _ h
theorem dc_nil {α : Type} {g : α → D} : D.dct [] = dcS g ([] : List (Str × α)) := rfl
theorem any_memI (x : Int) : ∀ ss : List Int, (ss.any fun y => y == x) = decide (x ∈ ss)
  | [] => rfl
  | a :: r => by
    rw [List.any_cons, any_memI x r]
    by_cases h : a = x
    · subst h; simp
    · have h' : x ≠ a := fun q => h q.symm
      simp [h, h']
theorem g_inI {n : Bool} {x : Int} {ss : List Int} {QG : Kd → D → Prop} : wG (inN n (.int x) (.lst (ss.map .int))) QG = QG .sh (.bl (if n then !decide (x ∈ ss) else decide (x ∈ ss))) := by
  have e : inN n (.int x) (.lst (ss.map .int)) = some (.sh, .bl (if n then !decide (x ∈ ss) else decide (x ∈ ss))) := by
    have f : (ss.map D.int).all flatD = true := by rw [List.all_map]; exact List.all_eq_true.mpr fun _ _ => rfl
    show (if flatD (.int x) = true ∧ (ss.map D.int).all flatD = true then eqb n ((ss.map D.int).any fun y => eqF y (.int x)) else none) = _
    rw [if_pos ⟨rfl, f⟩, List.any_map, ← any_memI]
    rfl
  rw [e, wG_some]
theorem cut_takeN {α : Type} {xs : List α} {n : Nat} (h : n ≤ xs.length) : cutD xs none (some (n : Int)) = xs.take n := by
  unfold cutD
  rw [HT.sIx_nat, HT.sIx_none, Nat.min_eq_left h, List.drop_zero, Nat.sub_zero]
theorem cut_dropN {α : Type} {xs : List α} {n : Nat} (h : n ≤ xs.length) : cutD xs (some (n : Int)) none = xs.drop n := by
  unfold cutD
  rw [HT.sIx_nat, HT.sIx_none, Nat.min_eq_left h]
  exact List.take_of_length_le (by rw [List.length_drop]; exact Nat.le_refl _)
theorem Row.mono {a : Int} {n : Nat} {h h' : Int} {es : List (Int × Int)} (r : Row a n h es) (hh : h ≤ h') : Row a n h' es := ⟨r.1, r.2.1, r.2.2.1, fun e he => ⟨(r.2.2.2 e he).1, (r.2.2.2 e he).2.1, Int.lt_of_lt_of_le (r.2.2.2 e he).2.2 hh⟩⟩
theorem getMapRange {n i : Nat} {d : D} (h : ((List.range n).map fun i : Nat => D.int (i : Int))[i]? = some d) : i < n ∧ d = .int i := by
  rw [← rngL_map, rngL_get] at h
  exact h
/-- a comprehension without tests, any target -/
theorem lc_mapG {α : Type} {tg : D → En → Option En} {fe : En → Option R} {en : En} {c g : α → D} : ∀ (ys : List α), (∀ y ∈ ys, ∃ en1, tg (c y) en = some en1 ∧ wR (fe en1) fun r => ∃ k, r = .val k (g y) ∧ k ≠ .bo) → tgIf tg fYes fe en (ys.map c) = some (ys.map g)
  | [], _ => rfl
  | y :: r, h => by
    obtain ⟨en1, e1, x, e, k, rfl, hk⟩ := h y List.mem_cons_self
    have ih := lc_mapG r fun z hz => h z (List.mem_cons_of_mem _ hz)
    rw [List.map_cons]
    unfold tgIf
    simp only [e1, fYes, e]
    cases k with
    | sh => simp only [shr, ih]; rfl
    | nw => simp only [shr, ih]; rfl
    | bo => exact absurd rfl hk
theorem put_lst {v : D} {ds : List D} {m : Int} (h0 : 0 ≤ m) (h1 : m < ds.length) : putO v (.lst ds) (.int m) = some (.lst (ds.set m.toNat v)) := by
  show (ixN ds.length m).map (fun j => D.lst (ds.set j v)) = _
  unfold ixN
  rw [if_pos h0, if_pos h1]
  rfl
theorem set_map {α : Type} {f : α → D} {xs : List α} {j : Nat} {x : α} : (xs.map f).set j (f x) = (xs.set j x).map f := List.map_set.symm
/-! ### parts -/
def firstOf (es : List (Int × Int)) : List (Int × Int) := ((List.range es.length).filter fun k : Nat => !decide ((es[k]?.getD (0, 0)).1 ∈ (es.map (·.1)).take k)).map fun k : Nat => es[k]?.getD (0, 0)
theorem firstOf_row {es : List (Int × Int)} {a : Int} {n : Nat} {h : Int} (h1 : es ≠ []) (h2 : es.length ≤ n) (h3 : ∀ e ∈ es, (a ≤ e.1 ∧ e.1 < a + n) ∧ 0 ≤ e.2 ∧ e.2 < h) : Row a n h (firstOf es) := by
  have hl : 0 < es.length := List.length_pos_iff.mpr h1
  refine ⟨?_, ?_, ?_, fun e he => ?_⟩
  · intro e
    unfold firstOf at e
    rw [List.map_eq_nil_iff, List.filter_eq_nil_iff] at e
    exact e 0 (List.mem_range.mpr hl) (by simp)
  · unfold firstOf
    rw [List.length_map]
    exact Nat.le_trans (List.length_filter_le _ _) (by rw [List.length_range]; exact h2)
  · unfold firstOf
    rw [List.map_map]
    refine List.Pairwise.map _ (fun _ _ h => h) (List.Pairwise.imp_of_mem (R := (· < ·)) (fun {x y} hx hy hxy => ?_) (List.Pairwise.filter _ List.pairwise_lt_range))
    obtain ⟨hy1, hy2⟩ := List.mem_filter.mp hy
    have hy1 := List.mem_range.mp hy1
    have hx1 : x < es.length := Nat.lt_trans hxy hy1
    intro e
    have hy3 : ¬ (es[y]?.getD (0, 0)).1 ∈ (es.map (·.1)).take y := by simpa using hy2
    refine hy3 (List.mem_of_getElem? (i := x) ?_)
    rw [List.getElem?_take, if_pos hxy, List.getElem?_map, List.getElem?_eq_getElem hx1]
    have e2 : (es[x]?.getD (0, 0)).1 = (es[y]?.getD (0, 0)).1 := e
    rw [← e2, List.getElem?_eq_getElem hx1]
    rfl
  · unfold firstOf at he
    obtain ⟨k, hk, rfl⟩ := List.mem_map.mp he
    have hk := List.mem_range.mp (List.mem_filter.mp hk).1
    rw [List.getElem?_eq_getElem hk]
    exact h3 _ (List.getElem_mem hk)
def rowD (es : List (Int × Int)) : D := .lst (es.map prD)
def Nm (s : Str) : Prop := 1 ≤ s.length ∧ s.length ≤ 6
structure Parts (ps qs : List (Str × Int)) (as : List (Str × List (Int × Int))) : Prop where
  pn : (ps.map (·.1)).Nodup
  qn : (qs.map (·.1)).Nodup
  an : (as.map (·.1)).Nodup
  pl : ps.length ≤ 3
  ql : qs.length ≤ 2
  al : as.length ≤ 3
  pv : ∀ p ∈ ps, Nm p.1 ∧ -4 ≤ p.2 ∧ p.2 ≤ 6
  qv : ∀ p ∈ qs, Nm p.1 ∧ -2 ≤ p.2 ∧ p.2 ≤ 6
  av : ∀ p ∈ as, Nm p.1 ∧ Row (-6) 15 10 p.2
def partsD (ps qs : List (Str × Int)) (as : List (Str × List (Int × Int))) : D := .tup [dcS .int ps, dcS .int qs, dcS rowD as]
def limP : List Int := [4, 3, 4, 2, 3, 11, 11, 11, 9, 9]
def enP (ns : List Int) (i : Nat) (ds : List Int) (ss : List Str) (o4 o5 o6 o7 o8 o9 o10 o11 o12 : Option Sl) : En := [some (Sl.sh (.scr ns)), some (Sl.sh (.int i)), some (Sl.sh (.lst (ds.map .int))), some (Sl.sh (.lst (ss.map .str))), o4, o5, o6, o7, o8, o9, o10, o11, o12]
theorem parts_spec (ns : List Int) (i : Nat) : wR (F_Lparts [.scr ns, .int i]) fun r => ∃ ps qs as, r = .val .sh (partsD ps qs as) ∧ Parts ps qs as := by
  rw [F_Lparts, w_run, b_Lparts]
  simp only [start_def, List.map_cons, List.map_nil, List.length_cons, List.length_nil, Nat.reduceAdd, Nat.reduceSub, List.replicate_succ, List.replicate_zero, List.cons_append, List.nil_append, Z1, Z2, z_bO0, z_bO1, z_for, z_lc, onV_v, onV_e, onS_v, onS_e, onB_v, onB_e, onBR_v, onBR_e, onA_v, onA_e, onVB_v, onVB_e, onVA_v, onVA_e, onAA_v, onAA_e, onAO_v, onAO_e, onBB_v, onBB_e, onO_n, onO_r, onO_b, onO_c, onO_e, onT_n, onT_c, onT_b, onT_r, onT_e, onR_n, onR_r, onR_e, okK_s, okK_n, wO_some, wR_some, wB_some, wA_some, z_lf, z_shr, w_c, w_var, z_op, z_un, z_tB1, z_truR, z_chain, z_andT, z_orT, z_notT, z_andV, z_orV, z_notV, z_if, w_nil, z_cons, z_lst, z_tup, w_dct0, z_call, z_bn, z_sm, z_sl, z_star, z_sh, z_set, z_asg, z_drop, z_ret, w_retV, w_retN, w_nx, z_seq, w_frz, z_ifS, z_app, z_put, z_items, z_it, g_add, g_sub, g_neg, g_mul, g_rep, g_fdiv, g_mod, g_pow, g_addS, g_addL, g_cmp0, g_eqI, g_eqS, g_eqB, g_lenL, g_lenT, g_lenR, g_lenS, g_int, g_intB, g_str, g_listL, g_listT, g_listM, g_tup, g_abs, g_max2, g_min2, gz_ixL, gz_ixT, gz_ixR, g_slL, gi_bool_non, gi_bool_bl, gi_bool_int, gi_bool_str, gi_bool_lst, gi_bool_tup, gi_bool_scr, gi_bool_dct, gi_int_non, gi_int_bl, gi_int_int, gi_int_str, gi_int_lst, gi_int_tup, gi_int_scr, gi_int_dct, gi_str_non, gi_str_bl, gi_str_int, gi_str_str, gi_str_lst, gi_str_tup, gi_str_scr, gi_str_dct, gi_list_non, gi_list_bl, gi_list_int, gi_list_str, gi_list_lst, gi_list_tup, gi_list_scr, gi_list_dct, gi_tuple_non, gi_tuple_bl, gi_tuple_int, gi_tuple_str, gi_tuple_lst, gi_tuple_tup, gi_tuple_scr, gi_tuple_dct, gi_dict_non, gi_dict_bl, gi_dict_int, gi_dict_str, gi_dict_lst, gi_dict_tup, gi_dict_scr, gi_dict_dct, tr_b, true_and, and_true, eq_self, exO_some, hTL_l, hTL_t, hName_e, hCons_c, hNil_n, bind_so, it_l, it_t, it_r, List.getElem?_cons_zero, List.getElem?_cons_succ, List.set_cons_zero, List.set_cons_succ, true_and, and_true, Nat.zero_le, snb, nnb, ex_some, dT, if_true, Bool.false_eq_true, if_false, wipeE, Int.reduceLT, List.length_nil, List.length_cons, Nat.reduceAdd, Nat.reduceLeDiff, Nat.reduceLT, g_inS, g_ixS, g_slS, g_join, frz_def, g_sort, g_rev, List.length_map, List.length_range]
  repeat (refine ⟨by first | decide | omega, ?_⟩)
  refine (draws_spec ns i limP (by decide) (by decide +kernel)).mono ?_
  rintro r ⟨ds, rfl, hl, hd⟩
  have hl : ds.length = 10 := hl
  have at0 : ∀ j : Nat, j < 10 → ∃ x, ds[j]? = some x ∧ atI (ds.map D.int) (j : Int) = some (.int x) := fun j hj =>
    ⟨_, List.getElem?_eq_getElem (by omega), by rw [atI_map', atI_nat, List.getElem?_eq_getElem (by omega)]; rfl⟩
  simp only [Z1, Z2, z_bO0, z_bO1, z_for, z_lc, onV_v, onV_e, onS_v, onS_e, onB_v, onB_e, onBR_v, onBR_e, onA_v, onA_e, onVB_v, onVB_e, onVA_v, onVA_e, onAA_v, onAA_e, onAO_v, onAO_e, onBB_v, onBB_e, onO_n, onO_r, onO_b, onO_c, onO_e, onT_n, onT_c, onT_b, onT_r, onT_e, onR_n, onR_r, onR_e, okK_s, okK_n, wO_some, wR_some, wB_some, wA_some, z_lf, z_shr, w_c, w_var, z_op, z_un, z_tB1, z_truR, z_chain, z_andT, z_orT, z_notT, z_andV, z_orV, z_notV, z_if, w_nil, z_cons, z_lst, z_tup, w_dct0, z_call, z_bn, z_sm, z_sl, z_star, z_sh, z_set, z_asg, z_drop, z_ret, w_retV, w_retN, w_nx, z_seq, w_frz, z_ifS, z_app, z_put, z_items, z_it, g_add, g_sub, g_neg, g_mul, g_rep, g_fdiv, g_mod, g_pow, g_addS, g_addL, g_cmp0, g_eqI, g_eqS, g_eqB, g_lenL, g_lenT, g_lenR, g_lenS, g_int, g_intB, g_str, g_listL, g_listT, g_listM, g_tup, g_abs, g_max2, g_min2, gz_ixL, gz_ixT, gz_ixR, g_slL, gi_bool_non, gi_bool_bl, gi_bool_int, gi_bool_str, gi_bool_lst, gi_bool_tup, gi_bool_scr, gi_bool_dct, gi_int_non, gi_int_bl, gi_int_int, gi_int_str, gi_int_lst, gi_int_tup, gi_int_scr, gi_int_dct, gi_str_non, gi_str_bl, gi_str_int, gi_str_str, gi_str_lst, gi_str_tup, gi_str_scr, gi_str_dct, gi_list_non, gi_list_bl, gi_list_int, gi_list_str, gi_list_lst, gi_list_tup, gi_list_scr, gi_list_dct, gi_tuple_non, gi_tuple_bl, gi_tuple_int, gi_tuple_str, gi_tuple_lst, gi_tuple_tup, gi_tuple_scr, gi_tuple_dct, gi_dict_non, gi_dict_bl, gi_dict_int, gi_dict_str, gi_dict_lst, gi_dict_tup, gi_dict_scr, gi_dict_dct, tr_b, true_and, and_true, eq_self, exO_some, hTL_l, hTL_t, hName_e, hCons_c, hNil_n, bind_so, it_l, it_t, it_r, List.getElem?_cons_zero, List.getElem?_cons_succ, List.set_cons_zero, List.set_cons_succ, true_and, and_true, Nat.zero_le, snb, nnb, ex_some, dT, if_true, Bool.false_eq_true, if_false, wipeE, Int.reduceLT, List.length_nil, List.length_cons, Nat.reduceAdd, Nat.reduceLeDiff, Nat.reduceLT, g_inS, g_ixS, g_slS, g_join, frz_def, g_sort, g_rev, List.length_map, List.length_range, show ((i : Int) + 1) = ((i + 1 : Nat) : Int) by omega]
  refine (names_spec ns (i + 1)).mono ?_
  rintro r ⟨ss, rfl, sl, sn⟩
  have gk : ∀ (j : Nat) (l : Int), limP[j]? = some l → ∃ x, ds[j]? = some x ∧ atI (ds.map D.int) (j : Int) = some (.int x) ∧ 0 ≤ x ∧ x < l := fun j l h => by
    have : j < 10 := (List.getElem?_eq_some_iff.mp h).1
    obtain ⟨x, e1, e2⟩ := at0 j this
    exact ⟨x, e1, e2, hd _ _ _ e1 h⟩
  have gs : ∀ j : Nat, j < 8 → ∃ x, ss[j]? = some x ∧ atI (ss.map D.str) (j : Int) = some (.str x) ∧ Nm x := fun j hj =>
    ⟨_, List.getElem?_eq_getElem (by omega), by rw [atI_map', atI_nat, List.getElem?_eq_getElem (by omega)]; rfl, sn _ (List.getElem_mem _)⟩
  obtain ⟨x0, hx0, ha0, b0⟩ := gk 0 4 rfl
  obtain ⟨x1, hx1, ha1, b1⟩ := gk 1 3 rfl
  obtain ⟨x2, hx2, ha2, b2⟩ := gk 2 4 rfl
  obtain ⟨x3, hx3, ha3, b3⟩ := gk 3 2 rfl
  obtain ⟨x4, hx4, ha4, b4⟩ := gk 4 3 rfl
  obtain ⟨x5, hx5, ha5, b5⟩ := gk 5 11 rfl
  rw [show ((0 : Nat) : Int) = 0 from rfl] at ha0
  rw [show ((1 : Nat) : Int) = 1 from rfl] at ha1
  rw [show ((2 : Nat) : Int) = 2 from rfl] at ha2
  rw [show ((3 : Nat) : Int) = 3 from rfl] at ha3
  rw [show ((4 : Nat) : Int) = 4 from rfl] at ha4
  rw [show ((5 : Nat) : Int) = 5 from rfl] at ha5
  obtain ⟨n0, rfl⟩ : ∃ n : Nat, x0 = n := ⟨x0.toNat, by omega⟩
  obtain ⟨n1, rfl⟩ : ∃ n : Nat, x1 = n := ⟨x1.toNat, by omega⟩
  obtain ⟨n2, rfl⟩ : ∃ n : Nat, x2 = n := ⟨x2.toNat, by omega⟩
  simp only [Z1, Z2, z_bO0, z_bO1, z_for, z_lc, onV_v, onV_e, onS_v, onS_e, onB_v, onB_e, onBR_v, onBR_e, onA_v, onA_e, onVB_v, onVB_e, onVA_v, onVA_e, onAA_v, onAA_e, onAO_v, onAO_e, onBB_v, onBB_e, onO_n, onO_r, onO_b, onO_c, onO_e, onT_n, onT_c, onT_b, onT_r, onT_e, onR_n, onR_r, onR_e, okK_s, okK_n, wO_some, wR_some, wB_some, wA_some, z_lf, z_shr, w_c, w_var, z_op, z_un, z_tB1, z_truR, z_chain, z_andT, z_orT, z_notT, z_andV, z_orV, z_notV, z_if, w_nil, z_cons, z_lst, z_tup, w_dct0, z_call, z_bn, z_sm, z_sl, z_star, z_sh, z_set, z_asg, z_drop, z_ret, w_retV, w_retN, w_nx, z_seq, w_frz, z_ifS, z_app, z_put, z_items, z_it, g_add, g_sub, g_neg, g_mul, g_rep, g_fdiv, g_mod, g_pow, g_addS, g_addL, g_cmp0, g_eqI, g_eqS, g_eqB, g_lenL, g_lenT, g_lenR, g_lenS, g_int, g_intB, g_str, g_listL, g_listT, g_listM, g_tup, g_abs, g_max2, g_min2, gz_ixL, gz_ixT, gz_ixR, g_slL, gi_bool_non, gi_bool_bl, gi_bool_int, gi_bool_str, gi_bool_lst, gi_bool_tup, gi_bool_scr, gi_bool_dct, gi_int_non, gi_int_bl, gi_int_int, gi_int_str, gi_int_lst, gi_int_tup, gi_int_scr, gi_int_dct, gi_str_non, gi_str_bl, gi_str_int, gi_str_str, gi_str_lst, gi_str_tup, gi_str_scr, gi_str_dct, gi_list_non, gi_list_bl, gi_list_int, gi_list_str, gi_list_lst, gi_list_tup, gi_list_scr, gi_list_dct, gi_tuple_non, gi_tuple_bl, gi_tuple_int, gi_tuple_str, gi_tuple_lst, gi_tuple_tup, gi_tuple_scr, gi_tuple_dct, gi_dict_non, gi_dict_bl, gi_dict_int, gi_dict_str, gi_dict_lst, gi_dict_tup, gi_dict_scr, gi_dict_dct, tr_b, true_and, and_true, eq_self, exO_some, hTL_l, hTL_t, hName_e, hCons_c, hNil_n, bind_so, it_l, it_t, it_r, List.getElem?_cons_zero, List.getElem?_cons_succ, List.set_cons_zero, List.set_cons_succ, true_and, and_true, Nat.zero_le, snb, nnb, ex_some, dT, if_true, Bool.false_eq_true, if_false, wipeE, Int.reduceLT, List.length_nil, List.length_cons, Nat.reduceAdd, Nat.reduceLeDiff, Nat.reduceLT, g_inS, g_ixS, g_slS, g_join, frz_def, g_sort, g_rev, List.length_map, List.length_range, dc_nil (g := D.int), ha0, rng1_nat (n := n0) (by omega)]
  refine forD_inv _ (fun k en => ∃ (ps : List (Str × Int)) (o5 : Option Sl), en = enP ns i ds ss (some (.ow (dcS .int ps))) o5 none none none none none none none ∧ (ps.map (·.1)).Nodup ∧ ps.length ≤ k ∧ ∀ p ∈ ps, Nm p.1 ∧ -4 ≤ p.2 ∧ p.2 ≤ 6) _ ⟨[], none, rfl, by simp, by simp, fun p hp => by cases hp⟩ ?_ ?_
  · rintro k d en hd1 ⟨ps, o5, rfl, h1, h2, h3⟩
    obtain ⟨hk, rfl⟩ := getMapRange hd1
    refine ⟨_, rfl, ?_⟩
    obtain ⟨y, e1, e2, b⟩ := gk (5 + k) 11 (by match k, (show k < 3 by omega) with | 0, _ | 1, _ | 2, _ => rfl)
    obtain ⟨z, e3, e4, bz⟩ := gs k (by omega)
    have e2 : atI (ds.map D.int) (5 + (k : Int)) = some (.int y) := by rw [← e2]; congr 1
    simp only [enP, Z1, Z2, z_bO0, z_bO1, z_for, z_lc, onV_v, onV_e, onS_v, onS_e, onB_v, onB_e, onBR_v, onBR_e, onA_v, onA_e, onVB_v, onVB_e, onVA_v, onVA_e, onAA_v, onAA_e, onAO_v, onAO_e, onBB_v, onBB_e, onO_n, onO_r, onO_b, onO_c, onO_e, onT_n, onT_c, onT_b, onT_r, onT_e, onR_n, onR_r, onR_e, okK_s, okK_n, wO_some, wR_some, wB_some, wA_some, z_lf, z_shr, w_c, w_var, z_op, z_un, z_tB1, z_truR, z_chain, z_andT, z_orT, z_notT, z_andV, z_orV, z_notV, z_if, w_nil, z_cons, z_lst, z_tup, w_dct0, z_call, z_bn, z_sm, z_sl, z_star, z_sh, z_set, z_asg, z_drop, z_ret, w_retV, w_retN, w_nx, z_seq, w_frz, z_ifS, z_app, z_put, z_items, z_it, g_add, g_sub, g_neg, g_mul, g_rep, g_fdiv, g_mod, g_pow, g_addS, g_addL, g_cmp0, g_eqI, g_eqS, g_eqB, g_lenL, g_lenT, g_lenR, g_lenS, g_int, g_intB, g_str, g_listL, g_listT, g_listM, g_tup, g_abs, g_max2, g_min2, gz_ixL, gz_ixT, gz_ixR, g_slL, gi_bool_non, gi_bool_bl, gi_bool_int, gi_bool_str, gi_bool_lst, gi_bool_tup, gi_bool_scr, gi_bool_dct, gi_int_non, gi_int_bl, gi_int_int, gi_int_str, gi_int_lst, gi_int_tup, gi_int_scr, gi_int_dct, gi_str_non, gi_str_bl, gi_str_int, gi_str_str, gi_str_lst, gi_str_tup, gi_str_scr, gi_str_dct, gi_list_non, gi_list_bl, gi_list_int, gi_list_str, gi_list_lst, gi_list_tup, gi_list_scr, gi_list_dct, gi_tuple_non, gi_tuple_bl, gi_tuple_int, gi_tuple_str, gi_tuple_lst, gi_tuple_tup, gi_tuple_scr, gi_tuple_dct, gi_dict_non, gi_dict_bl, gi_dict_int, gi_dict_str, gi_dict_lst, gi_dict_tup, gi_dict_scr, gi_dict_dct, tr_b, true_and, and_true, eq_self, exO_some, hTL_l, hTL_t, hName_e, hCons_c, hNil_n, bind_so, it_l, it_t, it_r, List.getElem?_cons_zero, List.getElem?_cons_succ, List.set_cons_zero, List.set_cons_succ, true_and, and_true, Nat.zero_le, snb, nnb, ex_some, dT, if_true, Bool.false_eq_true, if_false, wipeE, Int.reduceLT, List.length_nil, List.length_cons, Nat.reduceAdd, Nat.reduceLeDiff, Nat.reduceLT, g_inS, g_ixS, g_slS, g_join, frz_def, g_sort, g_rev, List.length_map, List.length_range, e2, e4, put_dcS (g := D.int) (show ps.length < 16777216 by omega)]
    refine ⟨_, _, rfl, putS_nodup h1, Nat.le_trans putS_len (by omega), fun p hp => ?_⟩
    rcases putS_mem hp with hp | rfl
    · exact h3 p hp
    · exact ⟨bz, by constructor <;> (show _ ; simp only []; omega)⟩
  rintro en1 ⟨ps, o5, rfl, pn, pl, pv⟩
  simp only [List.length_map, List.length_range] at pl
  simp only [Z1, Z2, z_bO0, z_bO1, z_for, z_lc, onV_v, onV_e, onS_v, onS_e, onB_v, onB_e, onBR_v, onBR_e, onA_v, onA_e, onVB_v, onVB_e, onVA_v, onVA_e, onAA_v, onAA_e, onAO_v, onAO_e, onBB_v, onBB_e, onO_n, onO_r, onO_b, onO_c, onO_e, onT_n, onT_c, onT_b, onT_r, onT_e, onR_n, onR_r, onR_e, okK_s, okK_n, wO_some, wR_some, wB_some, wA_some, z_lf, z_shr, w_c, w_var, z_op, z_un, z_tB1, z_truR, z_chain, z_andT, z_orT, z_notT, z_andV, z_orV, z_notV, z_if, w_nil, z_cons, z_lst, z_tup, w_dct0, z_call, z_bn, z_sm, z_sl, z_star, z_sh, z_set, z_asg, z_drop, z_ret, w_retV, w_retN, w_nx, z_seq, w_frz, z_ifS, z_app, z_put, z_items, z_it, g_add, g_sub, g_neg, g_mul, g_rep, g_fdiv, g_mod, g_pow, g_addS, g_addL, g_cmp0, g_eqI, g_eqS, g_eqB, g_lenL, g_lenT, g_lenR, g_lenS, g_int, g_intB, g_str, g_listL, g_listT, g_listM, g_tup, g_abs, g_max2, g_min2, gz_ixL, gz_ixT, gz_ixR, g_slL, gi_bool_non, gi_bool_bl, gi_bool_int, gi_bool_str, gi_bool_lst, gi_bool_tup, gi_bool_scr, gi_bool_dct, gi_int_non, gi_int_bl, gi_int_int, gi_int_str, gi_int_lst, gi_int_tup, gi_int_scr, gi_int_dct, gi_str_non, gi_str_bl, gi_str_int, gi_str_str, gi_str_lst, gi_str_tup, gi_str_scr, gi_str_dct, gi_list_non, gi_list_bl, gi_list_int, gi_list_str, gi_list_lst, gi_list_tup, gi_list_scr, gi_list_dct, gi_tuple_non, gi_tuple_bl, gi_tuple_int, gi_tuple_str, gi_tuple_lst, gi_tuple_tup, gi_tuple_scr, gi_tuple_dct, gi_dict_non, gi_dict_bl, gi_dict_int, gi_dict_str, gi_dict_lst, gi_dict_tup, gi_dict_scr, gi_dict_dct, tr_b, true_and, and_true, eq_self, exO_some, hTL_l, hTL_t, hName_e, hCons_c, hNil_n, bind_so, it_l, it_t, it_r, List.getElem?_cons_zero, List.getElem?_cons_succ, List.set_cons_zero, List.set_cons_succ, true_and, and_true, Nat.zero_le, snb, nnb, ex_some, dT, if_true, Bool.false_eq_true, if_false, wipeE, Int.reduceLT, List.length_nil, List.length_cons, Nat.reduceAdd, Nat.reduceLeDiff, Nat.reduceLT, g_inS, g_ixS, g_slS, g_join, frz_def, g_sort, g_rev, List.length_map, List.length_range, enP, dc_nil (g := D.int), ha1, rng1_nat (n := n1) (by omega)]
  refine forD_inv _ (fun k en => ∃ (qs : List (Str × Int)) (o5 : Option Sl), en = enP ns i ds ss (some (.ow (dcS .int ps))) o5 (some (.ow (dcS .int qs))) none none none none none none ∧ (qs.map (·.1)).Nodup ∧ qs.length ≤ k ∧ ∀ p ∈ qs, Nm p.1 ∧ -2 ≤ p.2 ∧ p.2 ≤ 6) _ ⟨[], _, rfl, by simp, by simp, fun p hp => by cases hp⟩ ?_ ?_
  · rintro k d en hd1 ⟨qs, o5, rfl, h1, h2, h3⟩
    obtain ⟨hk, rfl⟩ := getMapRange hd1
    refine ⟨_, rfl, ?_⟩
    obtain ⟨y, e1, e2, b⟩ := gk (8 + k) 9 (by match k, (show k < 2 by omega) with | 0, _ | 1, _ => rfl)
    obtain ⟨z, e3, e4, bz⟩ := gs (3 + k) (by omega)
    have e2 : atI (ds.map D.int) (8 + (k : Int)) = some (.int y) := by rw [← e2]; congr 1
    have e4 : atI (ss.map D.str) (3 + (k : Int)) = some (.str z) := by rw [← e4]; congr 1
    simp only [enP, Z1, Z2, z_bO0, z_bO1, z_for, z_lc, onV_v, onV_e, onS_v, onS_e, onB_v, onB_e, onBR_v, onBR_e, onA_v, onA_e, onVB_v, onVB_e, onVA_v, onVA_e, onAA_v, onAA_e, onAO_v, onAO_e, onBB_v, onBB_e, onO_n, onO_r, onO_b, onO_c, onO_e, onT_n, onT_c, onT_b, onT_r, onT_e, onR_n, onR_r, onR_e, okK_s, okK_n, wO_some, wR_some, wB_some, wA_some, z_lf, z_shr, w_c, w_var, z_op, z_un, z_tB1, z_truR, z_chain, z_andT, z_orT, z_notT, z_andV, z_orV, z_notV, z_if, w_nil, z_cons, z_lst, z_tup, w_dct0, z_call, z_bn, z_sm, z_sl, z_star, z_sh, z_set, z_asg, z_drop, z_ret, w_retV, w_retN, w_nx, z_seq, w_frz, z_ifS, z_app, z_put, z_items, z_it, g_add, g_sub, g_neg, g_mul, g_rep, g_fdiv, g_mod, g_pow, g_addS, g_addL, g_cmp0, g_eqI, g_eqS, g_eqB, g_lenL, g_lenT, g_lenR, g_lenS, g_int, g_intB, g_str, g_listL, g_listT, g_listM, g_tup, g_abs, g_max2, g_min2, gz_ixL, gz_ixT, gz_ixR, g_slL, gi_bool_non, gi_bool_bl, gi_bool_int, gi_bool_str, gi_bool_lst, gi_bool_tup, gi_bool_scr, gi_bool_dct, gi_int_non, gi_int_bl, gi_int_int, gi_int_str, gi_int_lst, gi_int_tup, gi_int_scr, gi_int_dct, gi_str_non, gi_str_bl, gi_str_int, gi_str_str, gi_str_lst, gi_str_tup, gi_str_scr, gi_str_dct, gi_list_non, gi_list_bl, gi_list_int, gi_list_str, gi_list_lst, gi_list_tup, gi_list_scr, gi_list_dct, gi_tuple_non, gi_tuple_bl, gi_tuple_int, gi_tuple_str, gi_tuple_lst, gi_tuple_tup, gi_tuple_scr, gi_tuple_dct, gi_dict_non, gi_dict_bl, gi_dict_int, gi_dict_str, gi_dict_lst, gi_dict_tup, gi_dict_scr, gi_dict_dct, tr_b, true_and, and_true, eq_self, exO_some, hTL_l, hTL_t, hName_e, hCons_c, hNil_n, bind_so, it_l, it_t, it_r, List.getElem?_cons_zero, List.getElem?_cons_succ, List.set_cons_zero, List.set_cons_succ, true_and, and_true, Nat.zero_le, snb, nnb, ex_some, dT, if_true, Bool.false_eq_true, if_false, wipeE, Int.reduceLT, List.length_nil, List.length_cons, Nat.reduceAdd, Nat.reduceLeDiff, Nat.reduceLT, g_inS, g_ixS, g_slS, g_join, frz_def, g_sort, g_rev, List.length_map, List.length_range, e2, e4, put_dcS (g := D.int) (show qs.length < 16777216 by omega)]
    refine ⟨_, _, rfl, putS_nodup h1, Nat.le_trans putS_len (by omega), fun p hp => ?_⟩
    rcases putS_mem hp with hp | rfl
    · exact h3 p hp
    · exact ⟨bz, by constructor <;> (show _ ; simp only []; omega)⟩
  rintro en2 ⟨qs, o5, rfl, qn, ql, qv⟩
  simp only [List.length_map, List.length_range] at ql
  simp only [Z1, Z2, z_bO0, z_bO1, z_for, z_lc, onV_v, onV_e, onS_v, onS_e, onB_v, onB_e, onBR_v, onBR_e, onA_v, onA_e, onVB_v, onVB_e, onVA_v, onVA_e, onAA_v, onAA_e, onAO_v, onAO_e, onBB_v, onBB_e, onO_n, onO_r, onO_b, onO_c, onO_e, onT_n, onT_c, onT_b, onT_r, onT_e, onR_n, onR_r, onR_e, okK_s, okK_n, wO_some, wR_some, wB_some, wA_some, z_lf, z_shr, w_c, w_var, z_op, z_un, z_tB1, z_truR, z_chain, z_andT, z_orT, z_notT, z_andV, z_orV, z_notV, z_if, w_nil, z_cons, z_lst, z_tup, w_dct0, z_call, z_bn, z_sm, z_sl, z_star, z_sh, z_set, z_asg, z_drop, z_ret, w_retV, w_retN, w_nx, z_seq, w_frz, z_ifS, z_app, z_put, z_items, z_it, g_add, g_sub, g_neg, g_mul, g_rep, g_fdiv, g_mod, g_pow, g_addS, g_addL, g_cmp0, g_eqI, g_eqS, g_eqB, g_lenL, g_lenT, g_lenR, g_lenS, g_int, g_intB, g_str, g_listL, g_listT, g_listM, g_tup, g_abs, g_max2, g_min2, gz_ixL, gz_ixT, gz_ixR, g_slL, gi_bool_non, gi_bool_bl, gi_bool_int, gi_bool_str, gi_bool_lst, gi_bool_tup, gi_bool_scr, gi_bool_dct, gi_int_non, gi_int_bl, gi_int_int, gi_int_str, gi_int_lst, gi_int_tup, gi_int_scr, gi_int_dct, gi_str_non, gi_str_bl, gi_str_int, gi_str_str, gi_str_lst, gi_str_tup, gi_str_scr, gi_str_dct, gi_list_non, gi_list_bl, gi_list_int, gi_list_str, gi_list_lst, gi_list_tup, gi_list_scr, gi_list_dct, gi_tuple_non, gi_tuple_bl, gi_tuple_int, gi_tuple_str, gi_tuple_lst, gi_tuple_tup, gi_tuple_scr, gi_tuple_dct, gi_dict_non, gi_dict_bl, gi_dict_int, gi_dict_str, gi_dict_lst, gi_dict_tup, gi_dict_scr, gi_dict_dct, tr_b, true_and, and_true, eq_self, exO_some, hTL_l, hTL_t, hName_e, hCons_c, hNil_n, bind_so, it_l, it_t, it_r, List.getElem?_cons_zero, List.getElem?_cons_succ, List.set_cons_zero, List.set_cons_succ, true_and, and_true, Nat.zero_le, snb, nnb, ex_some, dT, if_true, Bool.false_eq_true, if_false, wipeE, Int.reduceLT, List.length_nil, List.length_cons, Nat.reduceAdd, Nat.reduceLeDiff, Nat.reduceLT, g_inS, g_ixS, g_slS, g_join, frz_def, g_sort, g_rev, List.length_map, List.length_range, enP, dc_nil (g := rowD), ha2, rng1_nat (n := n2) (by omega)]
  refine forD_inv _ (fun k en => ∃ (as : List (Str × List (Int × Int))) (o5 : Option Sl), en = enP ns i ds ss (some (.ow (dcS .int ps))) o5 (some (.ow (dcS .int qs))) (some (.ow (dcS rowD as))) none none none none none ∧ (as.map (·.1)).Nodup ∧ as.length ≤ k ∧ (∀ p ∈ as, Nm p.1 ∧ Row (-6) 15 4 p.2) ∧ ∀ j z, j < k → ss[5 + j]? = some z → z ∈ as.map (·.1)) _ ⟨[], _, rfl, by simp, by simp, (fun p hp => by cases hp), fun j z hj => by omega⟩ ?_ ?_
  · rintro k d en hd1 ⟨as, o5, rfl, h1, h2, h3, h5⟩
    obtain ⟨hk, rfl⟩ := getMapRange hd1
    refine ⟨_, rfl, ?_⟩
    obtain ⟨z, e3, e4, bz⟩ := gs (5 + k) (by omega)
    have e4 : atI (ss.map D.str) (5 + (k : Int)) = some (.str z) := by rw [← e4]; congr 1
    simp only [enP, Z1, Z2, z_bO0, z_bO1, z_for, z_lc, onV_v, onV_e, onS_v, onS_e, onB_v, onB_e, onBR_v, onBR_e, onA_v, onA_e, onVB_v, onVB_e, onVA_v, onVA_e, onAA_v, onAA_e, onAO_v, onAO_e, onBB_v, onBB_e, onO_n, onO_r, onO_b, onO_c, onO_e, onT_n, onT_c, onT_b, onT_r, onT_e, onR_n, onR_r, onR_e, okK_s, okK_n, wO_some, wR_some, wB_some, wA_some, z_lf, z_shr, w_c, w_var, z_op, z_un, z_tB1, z_truR, z_chain, z_andT, z_orT, z_notT, z_andV, z_orV, z_notV, z_if, w_nil, z_cons, z_lst, z_tup, w_dct0, z_call, z_bn, z_sm, z_sl, z_star, z_sh, z_set, z_asg, z_drop, z_ret, w_retV, w_retN, w_nx, z_seq, w_frz, z_ifS, z_app, z_put, z_items, z_it, g_add, g_sub, g_neg, g_mul, g_rep, g_fdiv, g_mod, g_pow, g_addS, g_addL, g_cmp0, g_eqI, g_eqS, g_eqB, g_lenL, g_lenT, g_lenR, g_lenS, g_int, g_intB, g_str, g_listL, g_listT, g_listM, g_tup, g_abs, g_max2, g_min2, gz_ixL, gz_ixT, gz_ixR, g_slL, gi_bool_non, gi_bool_bl, gi_bool_int, gi_bool_str, gi_bool_lst, gi_bool_tup, gi_bool_scr, gi_bool_dct, gi_int_non, gi_int_bl, gi_int_int, gi_int_str, gi_int_lst, gi_int_tup, gi_int_scr, gi_int_dct, gi_str_non, gi_str_bl, gi_str_int, gi_str_str, gi_str_lst, gi_str_tup, gi_str_scr, gi_str_dct, gi_list_non, gi_list_bl, gi_list_int, gi_list_str, gi_list_lst, gi_list_tup, gi_list_scr, gi_list_dct, gi_tuple_non, gi_tuple_bl, gi_tuple_int, gi_tuple_str, gi_tuple_lst, gi_tuple_tup, gi_tuple_scr, gi_tuple_dct, gi_dict_non, gi_dict_bl, gi_dict_int, gi_dict_str, gi_dict_lst, gi_dict_tup, gi_dict_scr, gi_dict_dct, tr_b, true_and, and_true, eq_self, exO_some, hTL_l, hTL_t, hName_e, hCons_c, hNil_n, bind_so, it_l, it_t, it_r, List.getElem?_cons_zero, List.getElem?_cons_succ, List.set_cons_zero, List.set_cons_succ, true_and, and_true, Nat.zero_le, snb, nnb, ex_some, dT, if_true, Bool.false_eq_true, if_false, wipeE, Int.reduceLT, List.length_nil, List.length_cons, Nat.reduceAdd, Nat.reduceLeDiff, Nat.reduceLT, g_inS, g_ixS, g_slS, g_join, frz_def, g_sort, g_rev, List.length_map, List.length_range, ha3, show ((i : Int) + 2 + (k : Int)) = ((i + 2 + k : Nat) : Int) by omega]
    refine (row_spec ns (i + 2 + k) (4 - x3) (by omega) (by omega)).mono ?_
    rintro r ⟨es, rfl, he⟩
    simp only [Z1, Z2, z_bO0, z_bO1, z_for, z_lc, onV_v, onV_e, onS_v, onS_e, onB_v, onB_e, onBR_v, onBR_e, onA_v, onA_e, onVB_v, onVB_e, onVA_v, onVA_e, onAA_v, onAA_e, onAO_v, onAO_e, onBB_v, onBB_e, onO_n, onO_r, onO_b, onO_c, onO_e, onT_n, onT_c, onT_b, onT_r, onT_e, onR_n, onR_r, onR_e, okK_s, okK_n, wO_some, wR_some, wB_some, wA_some, z_lf, z_shr, w_c, w_var, z_op, z_un, z_tB1, z_truR, z_chain, z_andT, z_orT, z_notT, z_andV, z_orV, z_notV, z_if, w_nil, z_cons, z_lst, z_tup, w_dct0, z_call, z_bn, z_sm, z_sl, z_star, z_sh, z_set, z_asg, z_drop, z_ret, w_retV, w_retN, w_nx, z_seq, w_frz, z_ifS, z_app, z_put, z_items, z_it, g_add, g_sub, g_neg, g_mul, g_rep, g_fdiv, g_mod, g_pow, g_addS, g_addL, g_cmp0, g_eqI, g_eqS, g_eqB, g_lenL, g_lenT, g_lenR, g_lenS, g_int, g_intB, g_str, g_listL, g_listT, g_listM, g_tup, g_abs, g_max2, g_min2, gz_ixL, gz_ixT, gz_ixR, g_slL, gi_bool_non, gi_bool_bl, gi_bool_int, gi_bool_str, gi_bool_lst, gi_bool_tup, gi_bool_scr, gi_bool_dct, gi_int_non, gi_int_bl, gi_int_int, gi_int_str, gi_int_lst, gi_int_tup, gi_int_scr, gi_int_dct, gi_str_non, gi_str_bl, gi_str_int, gi_str_str, gi_str_lst, gi_str_tup, gi_str_scr, gi_str_dct, gi_list_non, gi_list_bl, gi_list_int, gi_list_str, gi_list_lst, gi_list_tup, gi_list_scr, gi_list_dct, gi_tuple_non, gi_tuple_bl, gi_tuple_int, gi_tuple_str, gi_tuple_lst, gi_tuple_tup, gi_tuple_scr, gi_tuple_dct, gi_dict_non, gi_dict_bl, gi_dict_int, gi_dict_str, gi_dict_lst, gi_dict_tup, gi_dict_scr, gi_dict_dct, tr_b, true_and, and_true, eq_self, exO_some, hTL_l, hTL_t, hName_e, hCons_c, hNil_n, bind_so, it_l, it_t, it_r, List.getElem?_cons_zero, List.getElem?_cons_succ, List.set_cons_zero, List.set_cons_succ, true_and, and_true, Nat.zero_le, snb, nnb, ex_some, dT, if_true, Bool.false_eq_true, if_false, wipeE, Int.reduceLT, List.length_nil, List.length_cons, Nat.reduceAdd, Nat.reduceLeDiff, Nat.reduceLT, g_inS, g_ixS, g_slS, g_join, frz_def, g_sort, g_rev, List.length_map, List.length_range, e4]
    refine ⟨_, put_dcS (g := rowD) (v := es) (show as.length < 16777216 by omega), _, _, rfl, putS_nodup h1, Nat.le_trans putS_len (by omega), (fun p hp => ?_), fun j y hj hy => ?_⟩
    · rcases putS_mem hp with hp | rfl
      · exact h3 p hp
      · exact ⟨bz, he.mono (by omega)⟩
    · by_cases hjk : j = k
      · subst hjk
        rw [e3] at hy
        cases hy
        exact putS_key
      · exact putS_keeps (h5 j y (by omega) hy)
  rintro en3 ⟨as, o5, rfl, an, al, av, ak⟩
  simp only [List.length_map, List.length_range] at al ak
  refine w_cut (fun en => ∃ (as : List (Str × List (Int × Int))) (o5 o8 o9 o10 o11 o12 : Option Sl), en = enP ns i ds ss (some (.ow (dcS .int ps))) o5 (some (.ow (dcS .int qs))) (some (.ow (dcS rowD as))) o8 o9 o10 o11 o12 ∧ (as.map (·.1)).Nodup ∧ as.length ≤ 3 ∧ (∀ p ∈ as, Nm p.1 ∧ Row (-6) 15 10 p.2)) ?_ ?_
  · simp only [enP, Z1, Z2, z_bO0, z_bO1, z_for, z_lc, onV_v, onV_e, onS_v, onS_e, onB_v, onB_e, onBR_v, onBR_e, onA_v, onA_e, onVB_v, onVB_e, onVA_v, onVA_e, onAA_v, onAA_e, onAO_v, onAO_e, onBB_v, onBB_e, onO_n, onO_r, onO_b, onO_c, onO_e, onT_n, onT_c, onT_b, onT_r, onT_e, onR_n, onR_r, onR_e, okK_s, okK_n, wO_some, wR_some, wB_some, wA_some, z_lf, z_shr, w_c, w_var, z_op, z_un, z_tB1, z_truR, z_chain, z_andT, z_orT, z_notT, z_andV, z_orV, z_notV, z_if, w_nil, z_cons, z_lst, z_tup, w_dct0, z_call, z_bn, z_sm, z_sl, z_star, z_sh, z_set, z_asg, z_drop, z_ret, w_retV, w_retN, w_nx, z_seq, w_frz, z_ifS, z_app, z_put, z_items, z_it, g_add, g_sub, g_neg, g_mul, g_rep, g_fdiv, g_mod, g_pow, g_addS, g_addL, g_cmp0, g_eqI, g_eqS, g_eqB, g_lenL, g_lenT, g_lenR, g_lenS, g_int, g_intB, g_str, g_listL, g_listT, g_listM, g_tup, g_abs, g_max2, g_min2, gz_ixL, gz_ixT, gz_ixR, g_slL, gi_bool_non, gi_bool_bl, gi_bool_int, gi_bool_str, gi_bool_lst, gi_bool_tup, gi_bool_scr, gi_bool_dct, gi_int_non, gi_int_bl, gi_int_int, gi_int_str, gi_int_lst, gi_int_tup, gi_int_scr, gi_int_dct, gi_str_non, gi_str_bl, gi_str_int, gi_str_str, gi_str_lst, gi_str_tup, gi_str_scr, gi_str_dct, gi_list_non, gi_list_bl, gi_list_int, gi_list_str, gi_list_lst, gi_list_tup, gi_list_scr, gi_list_dct, gi_tuple_non, gi_tuple_bl, gi_tuple_int, gi_tuple_str, gi_tuple_lst, gi_tuple_tup, gi_tuple_scr, gi_tuple_dct, gi_dict_non, gi_dict_bl, gi_dict_int, gi_dict_str, gi_dict_lst, gi_dict_tup, gi_dict_scr, gi_dict_dct, tr_b, true_and, and_true, eq_self, exO_some, hTL_l, hTL_t, hName_e, hCons_c, hNil_n, bind_so, it_l, it_t, it_r, List.getElem?_cons_zero, List.getElem?_cons_succ, List.set_cons_zero, List.set_cons_succ, true_and, and_true, Nat.zero_le, snb, nnb, ex_some, dT, if_true, Bool.false_eq_true, if_false, wipeE, Int.reduceLT, List.length_nil, List.length_cons, Nat.reduceAdd, Nat.reduceLeDiff, Nat.reduceLT, g_inS, g_ixS, g_slS, g_join, frz_def, g_sort, g_rev, List.length_map, List.length_range, ha2, ha3]
    split
    · split
      · obtain ⟨z5, e5, a5, _⟩ := gs 5 (by omega)
        obtain ⟨z6, e6, a6, bz6⟩ := gs 6 (by omega)
        rw [show ((5 : Nat) : Int) = 5 from rfl] at a5
        rw [show ((6 : Nat) : Int) = 6 from rfl] at a6
        obtain ⟨r5, l5⟩ := lookS_of (ak 0 z5 (by omega) e5)
        obtain ⟨r6, l6⟩ := lookS_of (ak 1 z6 (by omega) e6)
        have w5 := (av _ (lookS_mem l5)).2
        have w6 := (av _ (lookS_mem l6)).2
        obtain ⟨f0, fr, er6⟩ : ∃ f0 fr, r6 = f0 :: fr := by
          cases hr : r6 with
          | nil => exact absurd hr w6.1
          | cons a b => exact ⟨a, b, rfl⟩
        have q1 : r5.length ≤ 15 := w5.2.1
        have q0 : 0 < r5.length := List.length_pos_iff.mpr w5.1
        simp only [Z1, Z2, z_bO0, z_bO1, z_for, z_lc, onV_v, onV_e, onS_v, onS_e, onB_v, onB_e, onBR_v, onBR_e, onA_v, onA_e, onVB_v, onVB_e, onVA_v, onVA_e, onAA_v, onAA_e, onAO_v, onAO_e, onBB_v, onBB_e, onO_n, onO_r, onO_b, onO_c, onO_e, onT_n, onT_c, onT_b, onT_r, onT_e, onR_n, onR_r, onR_e, okK_s, okK_n, wO_some, wR_some, wB_some, wA_some, z_lf, z_shr, w_c, w_var, z_op, z_un, z_tB1, z_truR, z_chain, z_andT, z_orT, z_notT, z_andV, z_orV, z_notV, z_if, w_nil, z_cons, z_lst, z_tup, w_dct0, z_call, z_bn, z_sm, z_sl, z_star, z_sh, z_set, z_asg, z_drop, z_ret, w_retV, w_retN, w_nx, z_seq, w_frz, z_ifS, z_app, z_put, z_items, z_it, g_add, g_sub, g_neg, g_mul, g_rep, g_fdiv, g_mod, g_pow, g_addS, g_addL, g_cmp0, g_eqI, g_eqS, g_eqB, g_lenL, g_lenT, g_lenR, g_lenS, g_int, g_intB, g_str, g_listL, g_listT, g_listM, g_tup, g_abs, g_max2, g_min2, gz_ixL, gz_ixT, gz_ixR, g_slL, gi_bool_non, gi_bool_bl, gi_bool_int, gi_bool_str, gi_bool_lst, gi_bool_tup, gi_bool_scr, gi_bool_dct, gi_int_non, gi_int_bl, gi_int_int, gi_int_str, gi_int_lst, gi_int_tup, gi_int_scr, gi_int_dct, gi_str_non, gi_str_bl, gi_str_int, gi_str_str, gi_str_lst, gi_str_tup, gi_str_scr, gi_str_dct, gi_list_non, gi_list_bl, gi_list_int, gi_list_str, gi_list_lst, gi_list_tup, gi_list_scr, gi_list_dct, gi_tuple_non, gi_tuple_bl, gi_tuple_int, gi_tuple_str, gi_tuple_lst, gi_tuple_tup, gi_tuple_scr, gi_tuple_dct, gi_dict_non, gi_dict_bl, gi_dict_int, gi_dict_str, gi_dict_lst, gi_dict_tup, gi_dict_scr, gi_dict_dct, tr_b, true_and, and_true, eq_self, exO_some, hTL_l, hTL_t, hName_e, hCons_c, hNil_n, bind_so, it_l, it_t, it_r, List.getElem?_cons_zero, List.getElem?_cons_succ, List.set_cons_zero, List.set_cons_succ, true_and, and_true, Nat.zero_le, snb, nnb, ex_some, dT, if_true, Bool.false_eq_true, if_false, wipeE, Int.reduceLT, List.length_nil, List.length_cons, Nat.reduceAdd, Nat.reduceLeDiff, Nat.reduceLT, g_inS, g_ixS, g_slS, g_join, frz_def, g_sort, g_rev, List.length_map, List.length_range, a5, a6, g_ixDc, l5, l6, rowD]
        rw [lc_mapG (g := fun e : Int × Int => prD (e.1, e.2 + x4)) r5 fun e he => ⟨_, rfl, by
          simp only [Z1, Z2, z_bO0, z_bO1, z_for, z_lc, onV_v, onV_e, onS_v, onS_e, onB_v, onB_e, onBR_v, onBR_e, onA_v, onA_e, onVB_v, onVB_e, onVA_v, onVA_e, onAA_v, onAA_e, onAO_v, onAO_e, onBB_v, onBB_e, onO_n, onO_r, onO_b, onO_c, onO_e, onT_n, onT_c, onT_b, onT_r, onT_e, onR_n, onR_r, onR_e, okK_s, okK_n, wO_some, wR_some, wB_some, wA_some, z_lf, z_shr, w_c, w_var, z_op, z_un, z_tB1, z_truR, z_chain, z_andT, z_orT, z_notT, z_andV, z_orV, z_notV, z_if, w_nil, z_cons, z_lst, z_tup, w_dct0, z_call, z_bn, z_sm, z_sl, z_star, z_sh, z_set, z_asg, z_drop, z_ret, w_retV, w_retN, w_nx, z_seq, w_frz, z_ifS, z_app, z_put, z_items, z_it, g_add, g_sub, g_neg, g_mul, g_rep, g_fdiv, g_mod, g_pow, g_addS, g_addL, g_cmp0, g_eqI, g_eqS, g_eqB, g_lenL, g_lenT, g_lenR, g_lenS, g_int, g_intB, g_str, g_listL, g_listT, g_listM, g_tup, g_abs, g_max2, g_min2, gz_ixL, gz_ixT, gz_ixR, g_slL, gi_bool_non, gi_bool_bl, gi_bool_int, gi_bool_str, gi_bool_lst, gi_bool_tup, gi_bool_scr, gi_bool_dct, gi_int_non, gi_int_bl, gi_int_int, gi_int_str, gi_int_lst, gi_int_tup, gi_int_scr, gi_int_dct, gi_str_non, gi_str_bl, gi_str_int, gi_str_str, gi_str_lst, gi_str_tup, gi_str_scr, gi_str_dct, gi_list_non, gi_list_bl, gi_list_int, gi_list_str, gi_list_lst, gi_list_tup, gi_list_scr, gi_list_dct, gi_tuple_non, gi_tuple_bl, gi_tuple_int, gi_tuple_str, gi_tuple_lst, gi_tuple_tup, gi_tuple_scr, gi_tuple_dct, gi_dict_non, gi_dict_bl, gi_dict_int, gi_dict_str, gi_dict_lst, gi_dict_tup, gi_dict_scr, gi_dict_dct, tr_b, true_and, and_true, eq_self, exO_some, hTL_l, hTL_t, hName_e, hCons_c, hNil_n, bind_so, it_l, it_t, it_r, List.getElem?_cons_zero, List.getElem?_cons_succ, List.set_cons_zero, List.set_cons_succ, true_and, and_true, Nat.zero_le, snb, nnb, ex_some, dT, if_true, Bool.false_eq_true, if_false, wipeE, Int.reduceLT, List.length_nil, List.length_cons, Nat.reduceAdd, Nat.reduceLeDiff, Nat.reduceLT, g_inS, g_ixS, g_slS, g_join, frz_def, g_sort, g_rev, List.length_map, List.length_range, ha4]
          exact ⟨_, rfl, by simp⟩⟩]
        have em : r5.map (fun e : Int × Int => prD (e.1, e.2 + x4)) = (r5.map fun e : Int × Int => (e.1, e.2 + x4)).map prD := by rw [List.map_map]; rfl
        simp only [Z1, Z2, z_bO0, z_bO1, z_for, z_lc, onV_v, onV_e, onS_v, onS_e, onB_v, onB_e, onBR_v, onBR_e, onA_v, onA_e, onVB_v, onVB_e, onVA_v, onVA_e, onAA_v, onAA_e, onAO_v, onAO_e, onBB_v, onBB_e, onO_n, onO_r, onO_b, onO_c, onO_e, onT_n, onT_c, onT_b, onT_r, onT_e, onR_n, onR_r, onR_e, okK_s, okK_n, wO_some, wR_some, wB_some, wA_some, z_lf, z_shr, w_c, w_var, z_op, z_un, z_tB1, z_truR, z_chain, z_andT, z_orT, z_notT, z_andV, z_orV, z_notV, z_if, w_nil, z_cons, z_lst, z_tup, w_dct0, z_call, z_bn, z_sm, z_sl, z_star, z_sh, z_set, z_asg, z_drop, z_ret, w_retV, w_retN, w_nx, z_seq, w_frz, z_ifS, z_app, z_put, z_items, z_it, g_add, g_sub, g_neg, g_mul, g_rep, g_fdiv, g_mod, g_pow, g_addS, g_addL, g_cmp0, g_eqI, g_eqS, g_eqB, g_lenL, g_lenT, g_lenR, g_lenS, g_int, g_intB, g_str, g_listL, g_listT, g_listM, g_tup, g_abs, g_max2, g_min2, gz_ixL, gz_ixT, gz_ixR, g_slL, gi_bool_non, gi_bool_bl, gi_bool_int, gi_bool_str, gi_bool_lst, gi_bool_tup, gi_bool_scr, gi_bool_dct, gi_int_non, gi_int_bl, gi_int_int, gi_int_str, gi_int_lst, gi_int_tup, gi_int_scr, gi_int_dct, gi_str_non, gi_str_bl, gi_str_int, gi_str_str, gi_str_lst, gi_str_tup, gi_str_scr, gi_str_dct, gi_list_non, gi_list_bl, gi_list_int, gi_list_str, gi_list_lst, gi_list_tup, gi_list_scr, gi_list_dct, gi_tuple_non, gi_tuple_bl, gi_tuple_int, gi_tuple_str, gi_tuple_lst, gi_tuple_tup, gi_tuple_scr, gi_tuple_dct, gi_dict_non, gi_dict_bl, gi_dict_int, gi_dict_str, gi_dict_lst, gi_dict_tup, gi_dict_scr, gi_dict_dct, tr_b, true_and, and_true, eq_self, exO_some, hTL_l, hTL_t, hName_e, hCons_c, hNil_n, bind_so, it_l, it_t, it_r, List.getElem?_cons_zero, List.getElem?_cons_succ, List.set_cons_zero, List.set_cons_succ, true_and, and_true, Nat.zero_le, snb, nnb, ex_some, dT, if_true, Bool.false_eq_true, if_false, wipeE, Int.reduceLT, List.length_nil, List.length_cons, Nat.reduceAdd, Nat.reduceLeDiff, Nat.reduceLT, g_inS, g_ixS, g_slS, g_join, frz_def, g_sort, g_rev, List.length_map, List.length_range, ha5, em, a6, g_ixDc, l6, rowD, er6, List.map_cons, atI_0, List.getElem?_cons_zero]
        refine ⟨by omega, by omega, ?_⟩
        have m0 : 0 ≤ x5 % (r5.length : Int) := Int.emod_nonneg _ (by omega)
        have m1 : x5 % (r5.length : Int) < r5.length := Int.emod_lt_of_pos _ (by omega)
        rw [put_lst m0 (by simpa using m1), set_map]
        have e2b : ∀ e ∈ (r5.map fun e : Int × Int => (e.1, e.2 + x4)).set (x5 % (r5.length : Int)).toNat f0, ((-6 : Int) ≤ e.1 ∧ e.1 < -6 + 15) ∧ 0 ≤ e.2 ∧ e.2 < 10 := fun e he => by
          rcases List.mem_or_eq_of_mem_set he with he | rfl
          · obtain ⟨q, hq, rfl⟩ := List.mem_map.mp he
            obtain ⟨t1, t2, t3⟩ := w5.2.2.2 q hq
            exact ⟨t1, show 0 ≤ q.2 + x4 by omega, show q.2 + x4 < 10 by omega⟩
          · have := w6.2.2.2 e (by rw [er6]; exact List.mem_cons_self)
            exact ⟨this.1, this.2.1, by omega⟩
        have e2n : (r5.map fun e : Int × Int => (e.1, e.2 + x4)).set (x5 % (r5.length : Int)).toNat f0 ≠ [] := fun e => by
          have := congrArg List.length e
          rw [List.length_set, List.length_map, List.length_nil] at this
          omega
        have e2l : ((r5.map fun e : Int × Int => (e.1, e.2 + x4)).set (x5 % (r5.length : Int)).toNat f0).length ≤ 15 := by rw [List.length_set, List.length_map]; exact q1
        generalize (r5.map fun e : Int × Int => (e.1, e.2 + x4)).set (x5 % (r5.length : Int)).toNat f0 = es2 at *
        simp only [Z1, Z2, z_bO0, z_bO1, z_for, z_lc, onV_v, onV_e, onS_v, onS_e, onB_v, onB_e, onBR_v, onBR_e, onA_v, onA_e, onVB_v, onVB_e, onVA_v, onVA_e, onAA_v, onAA_e, onAO_v, onAO_e, onBB_v, onBB_e, onO_n, onO_r, onO_b, onO_c, onO_e, onT_n, onT_c, onT_b, onT_r, onT_e, onR_n, onR_r, onR_e, okK_s, okK_n, wO_some, wR_some, wB_some, wA_some, z_lf, z_shr, w_c, w_var, z_op, z_un, z_tB1, z_truR, z_chain, z_andT, z_orT, z_notT, z_andV, z_orV, z_notV, z_if, w_nil, z_cons, z_lst, z_tup, w_dct0, z_call, z_bn, z_sm, z_sl, z_star, z_sh, z_set, z_asg, z_drop, z_ret, w_retV, w_retN, w_nx, z_seq, w_frz, z_ifS, z_app, z_put, z_items, z_it, g_add, g_sub, g_neg, g_mul, g_rep, g_fdiv, g_mod, g_pow, g_addS, g_addL, g_cmp0, g_eqI, g_eqS, g_eqB, g_lenL, g_lenT, g_lenR, g_lenS, g_int, g_intB, g_str, g_listL, g_listT, g_listM, g_tup, g_abs, g_max2, g_min2, gz_ixL, gz_ixT, gz_ixR, g_slL, gi_bool_non, gi_bool_bl, gi_bool_int, gi_bool_str, gi_bool_lst, gi_bool_tup, gi_bool_scr, gi_bool_dct, gi_int_non, gi_int_bl, gi_int_int, gi_int_str, gi_int_lst, gi_int_tup, gi_int_scr, gi_int_dct, gi_str_non, gi_str_bl, gi_str_int, gi_str_str, gi_str_lst, gi_str_tup, gi_str_scr, gi_str_dct, gi_list_non, gi_list_bl, gi_list_int, gi_list_str, gi_list_lst, gi_list_tup, gi_list_scr, gi_list_dct, gi_tuple_non, gi_tuple_bl, gi_tuple_int, gi_tuple_str, gi_tuple_lst, gi_tuple_tup, gi_tuple_scr, gi_tuple_dct, gi_dict_non, gi_dict_bl, gi_dict_int, gi_dict_str, gi_dict_lst, gi_dict_tup, gi_dict_scr, gi_dict_dct, tr_b, true_and, and_true, eq_self, exO_some, hTL_l, hTL_t, hName_e, hCons_c, hNil_n, bind_so, it_l, it_t, it_r, List.getElem?_cons_zero, List.getElem?_cons_succ, List.set_cons_zero, List.set_cons_succ, true_and, and_true, Nat.zero_le, snb, nnb, ex_some, dT, if_true, Bool.false_eq_true, if_false, wipeE, Int.reduceLT, List.length_nil, List.length_cons, Nat.reduceAdd, Nat.reduceLeDiff, Nat.reduceLT, g_inS, g_ixS, g_slS, g_join, frz_def, g_sort, g_rev, List.length_map, List.length_range]
        rw [lc_map (c := prD) (g := fun e => D.int e.1) es2 fun e he => by
          simp only [Z1, Z2, z_bO0, z_bO1, z_for, z_lc, onV_v, onV_e, onS_v, onS_e, onB_v, onB_e, onBR_v, onBR_e, onA_v, onA_e, onVB_v, onVB_e, onVA_v, onVA_e, onAA_v, onAA_e, onAO_v, onAO_e, onBB_v, onBB_e, onO_n, onO_r, onO_b, onO_c, onO_e, onT_n, onT_c, onT_b, onT_r, onT_e, onR_n, onR_r, onR_e, okK_s, okK_n, wO_some, wR_some, wB_some, wA_some, z_lf, z_shr, w_c, w_var, z_op, z_un, z_tB1, z_truR, z_chain, z_andT, z_orT, z_notT, z_andV, z_orV, z_notV, z_if, w_nil, z_cons, z_lst, z_tup, w_dct0, z_call, z_bn, z_sm, z_sl, z_star, z_sh, z_set, z_asg, z_drop, z_ret, w_retV, w_retN, w_nx, z_seq, w_frz, z_ifS, z_app, z_put, z_items, z_it, g_add, g_sub, g_neg, g_mul, g_rep, g_fdiv, g_mod, g_pow, g_addS, g_addL, g_cmp0, g_eqI, g_eqS, g_eqB, g_lenL, g_lenT, g_lenR, g_lenS, g_int, g_intB, g_str, g_listL, g_listT, g_listM, g_tup, g_abs, g_max2, g_min2, gz_ixL, gz_ixT, gz_ixR, g_slL, gi_bool_non, gi_bool_bl, gi_bool_int, gi_bool_str, gi_bool_lst, gi_bool_tup, gi_bool_scr, gi_bool_dct, gi_int_non, gi_int_bl, gi_int_int, gi_int_str, gi_int_lst, gi_int_tup, gi_int_scr, gi_int_dct, gi_str_non, gi_str_bl, gi_str_int, gi_str_str, gi_str_lst, gi_str_tup, gi_str_scr, gi_str_dct, gi_list_non, gi_list_bl, gi_list_int, gi_list_str, gi_list_lst, gi_list_tup, gi_list_scr, gi_list_dct, gi_tuple_non, gi_tuple_bl, gi_tuple_int, gi_tuple_str, gi_tuple_lst, gi_tuple_tup, gi_tuple_scr, gi_tuple_dct, gi_dict_non, gi_dict_bl, gi_dict_int, gi_dict_str, gi_dict_lst, gi_dict_tup, gi_dict_scr, gi_dict_dct, tr_b, true_and, and_true, eq_self, exO_some, hTL_l, hTL_t, hName_e, hCons_c, hNil_n, bind_so, it_l, it_t, it_r, List.getElem?_cons_zero, List.getElem?_cons_succ, List.set_cons_zero, List.set_cons_succ, true_and, and_true, Nat.zero_le, snb, nnb, ex_some, dT, if_true, Bool.false_eq_true, if_false, wipeE, Int.reduceLT, List.length_nil, List.length_cons, Nat.reduceAdd, Nat.reduceLeDiff, Nat.reduceLT, g_inS, g_ixS, g_slS, g_join, frz_def, g_sort, g_rev, List.length_map, List.length_range, prD, atI_0, atI_1, atI_2, atI_3, atI_4, atI_5, atI_6, atI_7, atI_8, atI_9, atI_10, atI_11, atI_12, atI_13, atI_14, atI_15, atI_16, atI_17, atI_18, atI_19, atI_20, atI_21, atI_22, atI_23, atI_24, atI_25, atI_26, atI_27, atI_28, atI_29, atI_30]
          exact ⟨_, rfl, by simp⟩]
        have em2 : es2.map (fun e => D.int e.1) = (es2.map (·.1)).map D.int := by rw [List.map_map]; rfl
        simp only [Z1, Z2, z_bO0, z_bO1, z_for, z_lc, onV_v, onV_e, onS_v, onS_e, onB_v, onB_e, onBR_v, onBR_e, onA_v, onA_e, onVB_v, onVB_e, onVA_v, onVA_e, onAA_v, onAA_e, onAO_v, onAO_e, onBB_v, onBB_e, onO_n, onO_r, onO_b, onO_c, onO_e, onT_n, onT_c, onT_b, onT_r, onT_e, onR_n, onR_r, onR_e, okK_s, okK_n, wO_some, wR_some, wB_some, wA_some, z_lf, z_shr, w_c, w_var, z_op, z_un, z_tB1, z_truR, z_chain, z_andT, z_orT, z_notT, z_andV, z_orV, z_notV, z_if, w_nil, z_cons, z_lst, z_tup, w_dct0, z_call, z_bn, z_sm, z_sl, z_star, z_sh, z_set, z_asg, z_drop, z_ret, w_retV, w_retN, w_nx, z_seq, w_frz, z_ifS, z_app, z_put, z_items, z_it, g_add, g_sub, g_neg, g_mul, g_rep, g_fdiv, g_mod, g_pow, g_addS, g_addL, g_cmp0, g_eqI, g_eqS, g_eqB, g_lenL, g_lenT, g_lenR, g_lenS, g_int, g_intB, g_str, g_listL, g_listT, g_listM, g_tup, g_abs, g_max2, g_min2, gz_ixL, gz_ixT, gz_ixR, g_slL, gi_bool_non, gi_bool_bl, gi_bool_int, gi_bool_str, gi_bool_lst, gi_bool_tup, gi_bool_scr, gi_bool_dct, gi_int_non, gi_int_bl, gi_int_int, gi_int_str, gi_int_lst, gi_int_tup, gi_int_scr, gi_int_dct, gi_str_non, gi_str_bl, gi_str_int, gi_str_str, gi_str_lst, gi_str_tup, gi_str_scr, gi_str_dct, gi_list_non, gi_list_bl, gi_list_int, gi_list_str, gi_list_lst, gi_list_tup, gi_list_scr, gi_list_dct, gi_tuple_non, gi_tuple_bl, gi_tuple_int, gi_tuple_str, gi_tuple_lst, gi_tuple_tup, gi_tuple_scr, gi_tuple_dct, gi_dict_non, gi_dict_bl, gi_dict_int, gi_dict_str, gi_dict_lst, gi_dict_tup, gi_dict_scr, gi_dict_dct, tr_b, true_and, and_true, eq_self, exO_some, hTL_l, hTL_t, hName_e, hCons_c, hNil_n, bind_so, it_l, it_t, it_r, List.getElem?_cons_zero, List.getElem?_cons_succ, List.set_cons_zero, List.set_cons_succ, true_and, and_true, Nat.zero_le, snb, nnb, ex_some, dT, if_true, Bool.false_eq_true, if_false, wipeE, Int.reduceLT, List.length_nil, List.length_cons, Nat.reduceAdd, Nat.reduceLeDiff, Nat.reduceLT, g_inS, g_ixS, g_slS, g_join, frz_def, g_sort, g_rev, List.length_map, List.length_range, em2, rng1_nat (n := es2.length) (by omega)]
        rw [lc_filter (fun k : Nat => !decide ((es2[k]?.getD (0, 0)).1 ∈ (es2.map (·.1)).take k)) (g := fun k : Nat => prD (es2[k]?.getD (0, 0))) (List.range es2.length) fun k hk => by
          have hk := List.mem_range.mp hk
          have a1 : atI (es2.map prD) (k : Int) = some (prD es2[k]) := by rw [atI_map', atI_nat, List.getElem?_eq_getElem hk]; rfl
          constructor
          · have c1 : cutD ((es2.map (·.1)).map D.int) none (some (k : Int)) = ((es2.map (·.1)).take k).map D.int := by rw [cut_takeN (by simp; omega), List.map_take]
            simp only [Z1, Z2, z_bO0, z_bO1, z_for, z_lc, onV_v, onV_e, onS_v, onS_e, onB_v, onB_e, onBR_v, onBR_e, onA_v, onA_e, onVB_v, onVB_e, onVA_v, onVA_e, onAA_v, onAA_e, onAO_v, onAO_e, onBB_v, onBB_e, onO_n, onO_r, onO_b, onO_c, onO_e, onT_n, onT_c, onT_b, onT_r, onT_e, onR_n, onR_r, onR_e, okK_s, okK_n, wO_some, wR_some, wB_some, wA_some, z_lf, z_shr, w_c, w_var, z_op, z_un, z_tB1, z_truR, z_chain, z_andT, z_orT, z_notT, z_andV, z_orV, z_notV, z_if, w_nil, z_cons, z_lst, z_tup, w_dct0, z_call, z_bn, z_sm, z_sl, z_star, z_sh, z_set, z_asg, z_drop, z_ret, w_retV, w_retN, w_nx, z_seq, w_frz, z_ifS, z_app, z_put, z_items, z_it, g_add, g_sub, g_neg, g_mul, g_rep, g_fdiv, g_mod, g_pow, g_addS, g_addL, g_cmp0, g_eqI, g_eqS, g_eqB, g_lenL, g_lenT, g_lenR, g_lenS, g_int, g_intB, g_str, g_listL, g_listT, g_listM, g_tup, g_abs, g_max2, g_min2, gz_ixL, gz_ixT, gz_ixR, g_slL, gi_bool_non, gi_bool_bl, gi_bool_int, gi_bool_str, gi_bool_lst, gi_bool_tup, gi_bool_scr, gi_bool_dct, gi_int_non, gi_int_bl, gi_int_int, gi_int_str, gi_int_lst, gi_int_tup, gi_int_scr, gi_int_dct, gi_str_non, gi_str_bl, gi_str_int, gi_str_str, gi_str_lst, gi_str_tup, gi_str_scr, gi_str_dct, gi_list_non, gi_list_bl, gi_list_int, gi_list_str, gi_list_lst, gi_list_tup, gi_list_scr, gi_list_dct, gi_tuple_non, gi_tuple_bl, gi_tuple_int, gi_tuple_str, gi_tuple_lst, gi_tuple_tup, gi_tuple_scr, gi_tuple_dct, gi_dict_non, gi_dict_bl, gi_dict_int, gi_dict_str, gi_dict_lst, gi_dict_tup, gi_dict_scr, gi_dict_dct, tr_b, true_and, and_true, eq_self, exO_some, hTL_l, hTL_t, hName_e, hCons_c, hNil_n, bind_so, it_l, it_t, it_r, List.getElem?_cons_zero, List.getElem?_cons_succ, List.set_cons_zero, List.set_cons_succ, true_and, and_true, Nat.zero_le, snb, nnb, ex_some, dT, if_true, Bool.false_eq_true, if_false, wipeE, Int.reduceLT, List.length_nil, List.length_cons, Nat.reduceAdd, Nat.reduceLeDiff, Nat.reduceLT, g_inS, g_ixS, g_slS, g_join, frz_def, g_sort, g_rev, List.length_map, List.length_range, a1, prD, atI_0, atI_1, atI_2, atI_3, atI_4, atI_5, atI_6, atI_7, atI_8, atI_9, atI_10, atI_11, atI_12, atI_13, atI_14, atI_15, atI_16, atI_17, atI_18, atI_19, atI_20, atI_21, atI_22, atI_23, atI_24, atI_25, atI_26, atI_27, atI_28, atI_29, atI_30, c1, g_inI, List.getElem?_eq_getElem hk, Option.getD_some]
          · intro _
            simp only [Z1, Z2, z_bO0, z_bO1, z_for, z_lc, onV_v, onV_e, onS_v, onS_e, onB_v, onB_e, onBR_v, onBR_e, onA_v, onA_e, onVB_v, onVB_e, onVA_v, onVA_e, onAA_v, onAA_e, onAO_v, onAO_e, onBB_v, onBB_e, onO_n, onO_r, onO_b, onO_c, onO_e, onT_n, onT_c, onT_b, onT_r, onT_e, onR_n, onR_r, onR_e, okK_s, okK_n, wO_some, wR_some, wB_some, wA_some, z_lf, z_shr, w_c, w_var, z_op, z_un, z_tB1, z_truR, z_chain, z_andT, z_orT, z_notT, z_andV, z_orV, z_notV, z_if, w_nil, z_cons, z_lst, z_tup, w_dct0, z_call, z_bn, z_sm, z_sl, z_star, z_sh, z_set, z_asg, z_drop, z_ret, w_retV, w_retN, w_nx, z_seq, w_frz, z_ifS, z_app, z_put, z_items, z_it, g_add, g_sub, g_neg, g_mul, g_rep, g_fdiv, g_mod, g_pow, g_addS, g_addL, g_cmp0, g_eqI, g_eqS, g_eqB, g_lenL, g_lenT, g_lenR, g_lenS, g_int, g_intB, g_str, g_listL, g_listT, g_listM, g_tup, g_abs, g_max2, g_min2, gz_ixL, gz_ixT, gz_ixR, g_slL, gi_bool_non, gi_bool_bl, gi_bool_int, gi_bool_str, gi_bool_lst, gi_bool_tup, gi_bool_scr, gi_bool_dct, gi_int_non, gi_int_bl, gi_int_int, gi_int_str, gi_int_lst, gi_int_tup, gi_int_scr, gi_int_dct, gi_str_non, gi_str_bl, gi_str_int, gi_str_str, gi_str_lst, gi_str_tup, gi_str_scr, gi_str_dct, gi_list_non, gi_list_bl, gi_list_int, gi_list_str, gi_list_lst, gi_list_tup, gi_list_scr, gi_list_dct, gi_tuple_non, gi_tuple_bl, gi_tuple_int, gi_tuple_str, gi_tuple_lst, gi_tuple_tup, gi_tuple_scr, gi_tuple_dct, gi_dict_non, gi_dict_bl, gi_dict_int, gi_dict_str, gi_dict_lst, gi_dict_tup, gi_dict_scr, gi_dict_dct, tr_b, true_and, and_true, eq_self, exO_some, hTL_l, hTL_t, hName_e, hCons_c, hNil_n, bind_so, it_l, it_t, it_r, List.getElem?_cons_zero, List.getElem?_cons_succ, List.set_cons_zero, List.set_cons_succ, true_and, and_true, Nat.zero_le, snb, nnb, ex_some, dT, if_true, Bool.false_eq_true, if_false, wipeE, Int.reduceLT, List.length_nil, List.length_cons, Nat.reduceAdd, Nat.reduceLeDiff, Nat.reduceLT, g_inS, g_ixS, g_slS, g_join, frz_def, g_sort, g_rev, List.length_map, List.length_range, a1, List.getElem?_eq_getElem hk, Option.getD_some]
            exact ⟨_, rfl, by simp⟩]
        have em3 : ((List.range es2.length).filter fun k : Nat => !decide ((es2[k]?.getD (0, 0)).1 ∈ (es2.map (·.1)).take k)).map (fun k : Nat => prD (es2[k]?.getD (0, 0))) = (firstOf es2).map prD := by
          unfold firstOf
          rw [List.map_map]
          rfl
        simp only [Z1, Z2, z_bO0, z_bO1, z_for, z_lc, onV_v, onV_e, onS_v, onS_e, onB_v, onB_e, onBR_v, onBR_e, onA_v, onA_e, onVB_v, onVB_e, onVA_v, onVA_e, onAA_v, onAA_e, onAO_v, onAO_e, onBB_v, onBB_e, onO_n, onO_r, onO_b, onO_c, onO_e, onT_n, onT_c, onT_b, onT_r, onT_e, onR_n, onR_r, onR_e, okK_s, okK_n, wO_some, wR_some, wB_some, wA_some, z_lf, z_shr, w_c, w_var, z_op, z_un, z_tB1, z_truR, z_chain, z_andT, z_orT, z_notT, z_andV, z_orV, z_notV, z_if, w_nil, z_cons, z_lst, z_tup, w_dct0, z_call, z_bn, z_sm, z_sl, z_star, z_sh, z_set, z_asg, z_drop, z_ret, w_retV, w_retN, w_nx, z_seq, w_frz, z_ifS, z_app, z_put, z_items, z_it, g_add, g_sub, g_neg, g_mul, g_rep, g_fdiv, g_mod, g_pow, g_addS, g_addL, g_cmp0, g_eqI, g_eqS, g_eqB, g_lenL, g_lenT, g_lenR, g_lenS, g_int, g_intB, g_str, g_listL, g_listT, g_listM, g_tup, g_abs, g_max2, g_min2, gz_ixL, gz_ixT, gz_ixR, g_slL, gi_bool_non, gi_bool_bl, gi_bool_int, gi_bool_str, gi_bool_lst, gi_bool_tup, gi_bool_scr, gi_bool_dct, gi_int_non, gi_int_bl, gi_int_int, gi_int_str, gi_int_lst, gi_int_tup, gi_int_scr, gi_int_dct, gi_str_non, gi_str_bl, gi_str_int, gi_str_str, gi_str_lst, gi_str_tup, gi_str_scr, gi_str_dct, gi_list_non, gi_list_bl, gi_list_int, gi_list_str, gi_list_lst, gi_list_tup, gi_list_scr, gi_list_dct, gi_tuple_non, gi_tuple_bl, gi_tuple_int, gi_tuple_str, gi_tuple_lst, gi_tuple_tup, gi_tuple_scr, gi_tuple_dct, gi_dict_non, gi_dict_bl, gi_dict_int, gi_dict_str, gi_dict_lst, gi_dict_tup, gi_dict_scr, gi_dict_dct, tr_b, true_and, and_true, eq_self, exO_some, hTL_l, hTL_t, hName_e, hCons_c, hNil_n, bind_so, it_l, it_t, it_r, List.getElem?_cons_zero, List.getElem?_cons_succ, List.set_cons_zero, List.set_cons_succ, true_and, and_true, Nat.zero_le, snb, nnb, ex_some, dT, if_true, Bool.false_eq_true, if_false, wipeE, Int.reduceLT, List.length_nil, List.length_cons, Nat.reduceAdd, Nat.reduceLeDiff, Nat.reduceLT, g_inS, g_ixS, g_slS, g_join, frz_def, g_sort, g_rev, List.length_map, List.length_range, em3, a6]
        refine ⟨by omega, by omega, dcS rowD (putS as z6 (firstOf es2)), put_dcS (g := rowD) (v := firstOf es2) (by omega), _, _, _, _, _, _, _, rfl, putS_nodup an, ?_, fun p hp => ?_⟩
        · rw [putS_len_key (ak 1 z6 (by omega) e6)]; omega
        · rcases putS_mem hp with hp | rfl
          · exact ⟨(av p hp).1, (av p hp).2.mono (by omega)⟩
          · exact ⟨bz6, firstOf_row e2n e2l e2b⟩
      · exact ⟨as, _, _, _, _, _, _, rfl, an, by omega, fun p hp => ⟨(av p hp).1, (av p hp).2.mono (by omega)⟩⟩
    · exact ⟨as, _, _, _, _, _, _, rfl, an, by omega, fun p hp => ⟨(av p hp).1, (av p hp).2.mono (by omega)⟩⟩
  rintro en4 ⟨as, o5, o8, o9, o10, o11, o12, rfl, an, al, av⟩
  simp only [enP, frz_def, Z1, Z2, z_bO0, z_bO1, z_for, z_lc, onV_v, onV_e, onS_v, onS_e, onB_v, onB_e, onBR_v, onBR_e, onA_v, onA_e, onVB_v, onVB_e, onVA_v, onVA_e, onAA_v, onAA_e, onAO_v, onAO_e, onBB_v, onBB_e, onO_n, onO_r, onO_b, onO_c, onO_e, onT_n, onT_c, onT_b, onT_r, onT_e, onR_n, onR_r, onR_e, okK_s, okK_n, wO_some, wR_some, wB_some, wA_some, z_lf, z_shr, w_c, w_var, z_op, z_un, z_tB1, z_truR, z_chain, z_andT, z_orT, z_notT, z_andV, z_orV, z_notV, z_if, w_nil, z_cons, z_lst, z_tup, w_dct0, z_call, z_bn, z_sm, z_sl, z_star, z_sh, z_set, z_asg, z_drop, z_ret, w_retV, w_retN, w_nx, z_seq, w_frz, z_ifS, z_app, z_put, z_items, z_it, g_add, g_sub, g_neg, g_mul, g_rep, g_fdiv, g_mod, g_pow, g_addS, g_addL, g_cmp0, g_eqI, g_eqS, g_eqB, g_lenL, g_lenT, g_lenR, g_lenS, g_int, g_intB, g_str, g_listL, g_listT, g_listM, g_tup, g_abs, g_max2, g_min2, gz_ixL, gz_ixT, gz_ixR, g_slL, gi_bool_non, gi_bool_bl, gi_bool_int, gi_bool_str, gi_bool_lst, gi_bool_tup, gi_bool_scr, gi_bool_dct, gi_int_non, gi_int_bl, gi_int_int, gi_int_str, gi_int_lst, gi_int_tup, gi_int_scr, gi_int_dct, gi_str_non, gi_str_bl, gi_str_int, gi_str_str, gi_str_lst, gi_str_tup, gi_str_scr, gi_str_dct, gi_list_non, gi_list_bl, gi_list_int, gi_list_str, gi_list_lst, gi_list_tup, gi_list_scr, gi_list_dct, gi_tuple_non, gi_tuple_bl, gi_tuple_int, gi_tuple_str, gi_tuple_lst, gi_tuple_tup, gi_tuple_scr, gi_tuple_dct, gi_dict_non, gi_dict_bl, gi_dict_int, gi_dict_str, gi_dict_lst, gi_dict_tup, gi_dict_scr, gi_dict_dct, tr_b, true_and, and_true, eq_self, exO_some, hTL_l, hTL_t, hName_e, hCons_c, hNil_n, bind_so, it_l, it_t, it_r, List.getElem?_cons_zero, List.getElem?_cons_succ, List.set_cons_zero, List.set_cons_succ, true_and, and_true, Nat.zero_le, snb, nnb, ex_some, dT, if_true, Bool.false_eq_true, if_false, wipeE, Int.reduceLT, List.length_nil, List.length_cons, Nat.reduceAdd, Nat.reduceLeDiff, Nat.reduceLT, g_inS, g_ixS, g_slS, g_join, frz_def, g_sort, g_rev, List.length_map, List.length_range]
  exact ⟨ps, qs, as, rfl, pn, qn, an, by omega, by omega, al, pv, qv, av⟩
end C
namespace C
open PySem L2 PD
/-! ### terms and sayings -/
inductive Tm where
  | pt (p : Str × Int)
  | el (a : Str) (p : Str × Int) (k : Int)
def ptD (p : Str × Int) : D := .tup [.str p.1, .int p.2]
def Tm.D : Tm → D
  | .pt p => ptD p
  | .el a p k => .tup [.str a, ptD p, .int k]
def opD : Option (Str × Int) → D
  | none => .non
  | some p => ptD p
inductive Sy where
  | place (t u : Str × Int)
  | value (t u : Tm)
  | rising (a : Str) (e f : Option (Str × Int))
  | low (a : Str) (e f : Option (Str × Int)) (t : Tm)
  | high (a : Str) (e f : Option (Str × Int)) (t : Tm)
  | below (a : Str) (e f : Option (Str × Int)) (b : Str) (g h : Option (Str × Int)) (k : Int)
  | same (a b : Str) (e f : Option (Str × Int)) (k : Int)
def Sy.D : Sy → D
  | .place t u => .tup [.str "place", ptD t, ptD u]
  | .value t u => .tup [.str "value", t.D, u.D]
  | .rising a e f => .tup [.str "rising", .str a, opD e, opD f]
  | .low a e f t => .tup [.str "low", .str a, opD e, opD f, t.D]
  | .high a e f t => .tup [.str "high", .str a, opD e, opD f, t.D]
  | .below a e f b g h k => .tup [.str "below", .str a, opD e, opD f, .str b, opD g, opD h, .int k]
  | .same a b e f k => .tup [.str "same", .str a, .str b, opD e, opD f, .int k]
structure Voc where
  Sp : Str → Prop
  Sq : Str → Prop
  Sa : Str → Prop
def ptOk (S : Str → Prop) (B : Int) (p : Str × Int) : Prop := S p.1 ∧ -B ≤ p.2 ∧ p.2 ≤ B
def opOk (S : Str → Prop) (B : Int) : Option (Str × Int) → Prop
  | none => True
  | some p => ptOk S B p
def Tm.Ok (V : Voc) (B : Int) : Tm → Prop
  | .pt p => ptOk V.Sq B p
  | .el a p k => V.Sa a ∧ ptOk V.Sp B p ∧ -B ≤ k ∧ k ≤ B
def Sy.Ok (V : Voc) (B : Int) : Sy → Prop
  | .place t u => ptOk V.Sp B t ∧ ptOk V.Sp B u
  | .value t u => t.Ok V B ∧ u.Ok V B
  | .rising a e f => V.Sa a ∧ opOk V.Sp B e ∧ opOk V.Sp B f
  | .low a e f t => V.Sa a ∧ opOk V.Sp B e ∧ opOk V.Sp B f ∧ t.Ok V B
  | .high a e f t => V.Sa a ∧ opOk V.Sp B e ∧ opOk V.Sp B f ∧ t.Ok V B
  | .below a e f b g h k => V.Sa a ∧ opOk V.Sp B e ∧ opOk V.Sp B f ∧ V.Sa b ∧ opOk V.Sp B g ∧ opOk V.Sp B h ∧ -B ≤ k ∧ k ≤ B
  | .same a b e f k => V.Sa a ∧ V.Sa b ∧ opOk V.Sp B e ∧ opOk V.Sp B f ∧ -B ≤ k ∧ k ≤ B
theorem len10 {ds : List Int} (h : ds.length = 10) : ∃ a b c d e f g i j k, ds = [a, b, c, d, e, f, g, i, j, k] := by
  match ds, h with
  | [a, b, c, d, e, f, g, i, j, k], _ => exact ⟨a, b, c, d, e, f, g, i, j, k, rfl⟩
def limS : List Int := [2, 12, 9, 12, 9, 2, 12, 9, 12, 9]
theorem pick {xs : List Str} (h : xs ≠ []) (x : Int) : ∃ s, atI (xs.map D.str) (x % (xs.length : Int)) = some (.str s) ∧ s ∈ xs := by
  have hl : 0 < xs.length := List.length_pos_iff.mpr h
  obtain ⟨s, e1, e2⟩ := atI_some (xs := xs) (Int.emod_nonneg x (show (xs.length : Int) ≠ 0 by omega)) (Int.emod_lt_of_pos x (by omega))
  exact ⟨s, by rw [atI_map', e1]; rfl, List.mem_of_getElem? e2⟩
theorem sums_spec (V : Voc) (ds : List Int) (hd : Below ds limS) (pool nums arrs : List Str) (hp : pool ≠ []) (hn : nums.length ≤ 100) (V0 : V.Sq "") (vp : ∀ s ∈ pool, V.Sp s) (vn : ∀ s ∈ nums, V.Sq s) (va : ∀ s ∈ arrs, V.Sa s) :
    wR (F_Lsums [.lst (ds.map .int), .lst (pool.map .str), .lst (nums.map .str), .lst (arrs.map .str)]) fun r => ∃ t u : Tm, r = .val .nw (.lst [t.D, u.D]) ∧ t.Ok V 4 ∧ u.Ok V 4 := by
  have cut : ∀ k : Nat, k < 2 → ∃ a b c d e : Int, cutD (ds.map D.int) (some (5 * (k : Int))) (some (5 * (k : Int) + 5)) = [.int a, .int b, .int c, .int d, .int e] ∧ (0 ≤ c ∧ c < 9) ∧ 0 ≤ e ∧ e < 9 := by
    obtain ⟨hl, hd⟩ := hd
    obtain ⟨a, b, c, d, e, f, g, i, j, l, rfl⟩ := len10 hl
    intro k hk
    match k, hk with
    | 0, _ => exact ⟨a, b, c, d, e, rfl, hd 2 _ _ rfl rfl, hd 4 _ _ rfl rfl⟩
    | 1, _ => exact ⟨f, g, i, j, l, rfl, hd 7 _ _ rfl rfl, hd 9 _ _ rfl rfl⟩
  rw [F_Lsums, w_run, b_Lsums]
  simp only [start_def, List.map_cons, List.map_nil, List.length_cons, List.length_nil, Nat.reduceAdd, Nat.reduceSub, List.replicate_succ, List.replicate_zero, List.cons_append, List.nil_append, Z1, Z2, z_bO0, z_bO1, z_for, z_lc, onV_v, onV_e, onS_v, onS_e, onB_v, onB_e, onBR_v, onBR_e, onA_v, onA_e, onVB_v, onVB_e, onVA_v, onVA_e, onAA_v, onAA_e, onAO_v, onAO_e, onBB_v, onBB_e, onO_n, onO_r, onO_b, onO_c, onO_e, onT_n, onT_c, onT_b, onT_r, onT_e, onR_n, onR_r, onR_e, okK_s, okK_n, wO_some, wR_some, wB_some, wA_some, z_lf, z_shr, w_c, w_var, z_op, z_un, z_tB1, z_truR, z_chain, z_andT, z_orT, z_notT, z_andV, z_orV, z_notV, z_if, w_nil, z_cons, z_lst, z_tup, w_dct0, z_call, z_bn, z_sm, z_sl, z_star, z_sh, z_set, z_asg, z_drop, z_ret, w_retV, w_retN, w_nx, z_seq, w_frz, z_ifS, z_app, z_put, z_items, z_it, g_add, g_sub, g_neg, g_mul, g_rep, g_fdiv, g_mod, g_pow, g_addS, g_addL, g_cmp0, g_eqI, g_eqS, g_eqB, g_lenL, g_lenT, g_lenR, g_lenS, g_int, g_intB, g_str, g_listL, g_listT, g_listM, g_tup, g_abs, g_max2, g_min2, gz_ixL, gz_ixT, gz_ixR, g_slL, gi_bool_non, gi_bool_bl, gi_bool_int, gi_bool_str, gi_bool_lst, gi_bool_tup, gi_bool_scr, gi_bool_dct, gi_int_non, gi_int_bl, gi_int_int, gi_int_str, gi_int_lst, gi_int_tup, gi_int_scr, gi_int_dct, gi_str_non, gi_str_bl, gi_str_int, gi_str_str, gi_str_lst, gi_str_tup, gi_str_scr, gi_str_dct, gi_list_non, gi_list_bl, gi_list_int, gi_list_str, gi_list_lst, gi_list_tup, gi_list_scr, gi_list_dct, gi_tuple_non, gi_tuple_bl, gi_tuple_int, gi_tuple_str, gi_tuple_lst, gi_tuple_tup, gi_tuple_scr, gi_tuple_dct, gi_dict_non, gi_dict_bl, gi_dict_int, gi_dict_str, gi_dict_lst, gi_dict_tup, gi_dict_scr, gi_dict_dct, tr_b, true_and, and_true, eq_self, exO_some, hTL_l, hTL_t, hName_e, hCons_c, hNil_n, bind_so, it_l, it_t, it_r, List.getElem?_cons_zero, List.getElem?_cons_succ, List.set_cons_zero, List.set_cons_succ, true_and, and_true, Nat.zero_le, snb, nnb, ex_some, dT, if_true, Bool.false_eq_true, if_false, wipeE, Int.reduceLT, List.length_nil, List.length_cons, Nat.reduceAdd, Nat.reduceLeDiff, Nat.reduceLT, g_inS, g_ixS, g_slS, g_join, frz_def, g_sort, g_rev, List.length_map, List.length_range, rng1_lit (n := 2) (by decide)]
  refine forD_inv _ (fun k en => ∃ (ts : List Tm) (o5 o6 o7 o8 o9 o10 o11 o12 : Option Sl), en = [some (.sh (.lst (ds.map .int))), some (.sh (.lst (pool.map .str))), some (.sh (.lst (nums.map .str))), some (.sh (.lst (arrs.map .str))), some (.ow (.lst (ts.map Tm.D))), o5, o6, o7, o8, o9, o10, o11, o12] ∧ ts.length = k ∧ ∀ t ∈ ts, t.Ok V 4) _ ⟨[], _, _, _, _, _, _, _, _, rfl, rfl, fun t h => by cases h⟩ ?_ ?_
  · rintro k d en hd1 ⟨ts, o5, o6, o7, o8, o9, o10, o11, o12, rfl, tl, tok⟩
    obtain ⟨hk, rfl⟩ := getMapRange hd1
    refine ⟨_, rfl, ?_⟩
    obtain ⟨a, b, c, d, e, ec, bc, be⟩ := cut k hk
    have m5 : (mulOk 5 (k : Int) = true) = True := eq_true (mulOk_l (by decide) (by decide))
    obtain ⟨s1, e1, i1⟩ := pick (xs := Str.ofString "" :: nums) (by simp) b
    obtain ⟨s3, e3, i3⟩ := pick hp d
    have own : [D.str (Str.ofString "")] ++ List.map D.str nums = List.map D.str (Str.ofString "" :: nums) := rfl
    have q1 : V.Sq s1 := by
      rcases List.mem_cons.mp i1 with rfl | h
      · exact V0
      · exact vn _ h
    have pl : 0 < pool.length := List.length_pos_iff.mpr hp
    have pl2 : ((0 : Int) < (pool.length : Int)) = True := eq_true (by omega)
    have fin : ∀ (t : Tm) (o6 o8 o9 o10 o11 o12 : Option Sl), t.Ok V 4 → ∃ (ts1 : List Tm) (o5 o6' o7 o8' o9' o10' o11' o12' : Option Sl), [some (.sh (.lst (ds.map .int))), some (.sh (.lst (pool.map .str))), some (.sh (.lst (nums.map .str))), some (.sh (.lst (arrs.map .str))), some (.ow (.lst (ts.map Tm.D ++ [t.D]))), some (.sh (.int k)), o6, some (.sh t.D), o8, o9, o10, o11, o12] =
        [some (.sh (.lst (ds.map .int))), some (.sh (.lst (pool.map .str))), some (.sh (.lst (nums.map .str))), some (.sh (.lst (arrs.map .str))), some (.ow (.lst (ts1.map Tm.D))), o5, o6', o7, o8', o9', o10', o11', o12'] ∧ ts1.length = k + 1 ∧ ∀ t ∈ ts1, t.Ok V 4 := fun t o6 o8 o9 o10 o11 o12 ht =>
      ⟨ts ++ [t], _, _, _, _, _, _, _, _, by rw [List.map_append]; rfl, by rw [List.length_append, tl]; rfl, fun u hu => by
        rcases List.mem_append.mp hu with hu | hu
        · exact tok u hu
        · have : u = t := by simpa using hu
          subst this; exact ht⟩
    have tl2 : (ts.length < 16777216) = True := eq_true (by omega)
    have nl : ((1 + nums.length ≤ 16777216)) = True := eq_true (by omega)
    have nl2 : ((0 : Int) < ((nums.length + 1 : Nat) : Int)) = True := eq_true (by omega)
    rw [List.length_cons] at e1
    simp only [Z1, Z2, z_bO0, z_bO1, z_for, z_lc, onV_v, onV_e, onS_v, onS_e, onB_v, onB_e, onBR_v, onBR_e, onA_v, onA_e, onVB_v, onVB_e, onVA_v, onVA_e, onAA_v, onAA_e, onAO_v, onAO_e, onBB_v, onBB_e, onO_n, onO_r, onO_b, onO_c, onO_e, onT_n, onT_c, onT_b, onT_r, onT_e, onR_n, onR_r, onR_e, okK_s, okK_n, wO_some, wR_some, wB_some, wA_some, z_lf, z_shr, w_c, w_var, z_op, z_un, z_tB1, z_truR, z_chain, z_andT, z_orT, z_notT, z_andV, z_orV, z_notV, z_if, w_nil, z_cons, z_lst, z_tup, w_dct0, z_call, z_bn, z_sm, z_sl, z_star, z_sh, z_set, z_asg, z_drop, z_ret, w_retV, w_retN, w_nx, z_seq, w_frz, z_ifS, z_app, z_put, z_items, z_it, g_add, g_sub, g_neg, g_mul, g_rep, g_fdiv, g_mod, g_pow, g_addS, g_addL, g_cmp0, g_eqI, g_eqS, g_eqB, g_lenL, g_lenT, g_lenR, g_lenS, g_int, g_intB, g_str, g_listL, g_listT, g_listM, g_tup, g_abs, g_max2, g_min2, gz_ixL, gz_ixT, gz_ixR, g_slL, gi_bool_non, gi_bool_bl, gi_bool_int, gi_bool_str, gi_bool_lst, gi_bool_tup, gi_bool_scr, gi_bool_dct, gi_int_non, gi_int_bl, gi_int_int, gi_int_str, gi_int_lst, gi_int_tup, gi_int_scr, gi_int_dct, gi_str_non, gi_str_bl, gi_str_int, gi_str_str, gi_str_lst, gi_str_tup, gi_str_scr, gi_str_dct, gi_list_non, gi_list_bl, gi_list_int, gi_list_str, gi_list_lst, gi_list_tup, gi_list_scr, gi_list_dct, gi_tuple_non, gi_tuple_bl, gi_tuple_int, gi_tuple_str, gi_tuple_lst, gi_tuple_tup, gi_tuple_scr, gi_tuple_dct, gi_dict_non, gi_dict_bl, gi_dict_int, gi_dict_str, gi_dict_lst, gi_dict_tup, gi_dict_scr, gi_dict_dct, tr_b, true_and, and_true, eq_self, exO_some, hTL_l, hTL_t, hName_e, hCons_c, hNil_n, bind_so, it_l, it_t, it_r, List.getElem?_cons_zero, List.getElem?_cons_succ, List.set_cons_zero, List.set_cons_succ, true_and, and_true, Nat.zero_le, snb, nnb, ex_some, dT, if_true, Bool.false_eq_true, if_false, wipeE, Int.reduceLT, List.length_nil, List.length_cons, Nat.reduceAdd, Nat.reduceLeDiff, Nat.reduceLT, g_inS, g_ixS, g_slS, g_join, frz_def, g_sort, g_rev, List.length_map, List.length_range, m5, ec, own, e1, e3, pl2, tl2, nl, nl2]
    have o1 : Tm.Ok V 4 (.pt (s1, c - 4)) := ⟨q1, show -4 ≤ c - 4 by omega, show c - 4 ≤ 4 by omega⟩
    split
    · split
      · obtain ⟨s2, e2, i2⟩ := pick (xs := arrs) (fun e => by subst e; contradiction) b
        simp only [Z1, Z2, z_bO0, z_bO1, z_for, z_lc, onV_v, onV_e, onS_v, onS_e, onB_v, onB_e, onBR_v, onBR_e, onA_v, onA_e, onVB_v, onVB_e, onVA_v, onVA_e, onAA_v, onAA_e, onAO_v, onAO_e, onBB_v, onBB_e, onO_n, onO_r, onO_b, onO_c, onO_e, onT_n, onT_c, onT_b, onT_r, onT_e, onR_n, onR_r, onR_e, okK_s, okK_n, wO_some, wR_some, wB_some, wA_some, z_lf, z_shr, w_c, w_var, z_op, z_un, z_tB1, z_truR, z_chain, z_andT, z_orT, z_notT, z_andV, z_orV, z_notV, z_if, w_nil, z_cons, z_lst, z_tup, w_dct0, z_call, z_bn, z_sm, z_sl, z_star, z_sh, z_set, z_asg, z_drop, z_ret, w_retV, w_retN, w_nx, z_seq, w_frz, z_ifS, z_app, z_put, z_items, z_it, g_add, g_sub, g_neg, g_mul, g_rep, g_fdiv, g_mod, g_pow, g_addS, g_addL, g_cmp0, g_eqI, g_eqS, g_eqB, g_lenL, g_lenT, g_lenR, g_lenS, g_int, g_intB, g_str, g_listL, g_listT, g_listM, g_tup, g_abs, g_max2, g_min2, gz_ixL, gz_ixT, gz_ixR, g_slL, gi_bool_non, gi_bool_bl, gi_bool_int, gi_bool_str, gi_bool_lst, gi_bool_tup, gi_bool_scr, gi_bool_dct, gi_int_non, gi_int_bl, gi_int_int, gi_int_str, gi_int_lst, gi_int_tup, gi_int_scr, gi_int_dct, gi_str_non, gi_str_bl, gi_str_int, gi_str_str, gi_str_lst, gi_str_tup, gi_str_scr, gi_str_dct, gi_list_non, gi_list_bl, gi_list_int, gi_list_str, gi_list_lst, gi_list_tup, gi_list_scr, gi_list_dct, gi_tuple_non, gi_tuple_bl, gi_tuple_int, gi_tuple_str, gi_tuple_lst, gi_tuple_tup, gi_tuple_scr, gi_tuple_dct, gi_dict_non, gi_dict_bl, gi_dict_int, gi_dict_str, gi_dict_lst, gi_dict_tup, gi_dict_scr, gi_dict_dct, tr_b, true_and, and_true, eq_self, exO_some, hTL_l, hTL_t, hName_e, hCons_c, hNil_n, bind_so, it_l, it_t, it_r, List.getElem?_cons_zero, List.getElem?_cons_succ, List.set_cons_zero, List.set_cons_succ, true_and, and_true, Nat.zero_le, snb, nnb, ex_some, dT, if_true, Bool.false_eq_true, if_false, wipeE, Int.reduceLT, List.length_nil, List.length_cons, Nat.reduceAdd, Nat.reduceLeDiff, Nat.reduceLT, g_inS, g_ixS, g_slS, g_join, frz_def, g_sort, g_rev, List.length_map, List.length_range, e2, e3, pl2, tl2]
        refine ⟨by assumption, fin (.el s2 (s3, e - 4) (c - 4)) _ _ _ _ _ _ ⟨va _ i2, ⟨vp _ i3, show -4 ≤ e - 4 by omega, show e - 4 ≤ 4 by omega⟩, by omega, by omega⟩⟩
      · exact fin _ _ _ _ _ _ _ o1
    · exact fin _ _ _ _ _ _ _ o1
  · rintro en ⟨ts, o5, o6, o7, o8, o9, o10, o11, o12, rfl, tl, tok⟩
    simp only [Z1, Z2, z_bO0, z_bO1, z_for, z_lc, onV_v, onV_e, onS_v, onS_e, onB_v, onB_e, onBR_v, onBR_e, onA_v, onA_e, onVB_v, onVB_e, onVA_v, onVA_e, onAA_v, onAA_e, onAO_v, onAO_e, onBB_v, onBB_e, onO_n, onO_r, onO_b, onO_c, onO_e, onT_n, onT_c, onT_b, onT_r, onT_e, onR_n, onR_r, onR_e, okK_s, okK_n, wO_some, wR_some, wB_some, wA_some, z_lf, z_shr, w_c, w_var, z_op, z_un, z_tB1, z_truR, z_chain, z_andT, z_orT, z_notT, z_andV, z_orV, z_notV, z_if, w_nil, z_cons, z_lst, z_tup, w_dct0, z_call, z_bn, z_sm, z_sl, z_star, z_sh, z_set, z_asg, z_drop, z_ret, w_retV, w_retN, w_nx, z_seq, w_frz, z_ifS, z_app, z_put, z_items, z_it, g_add, g_sub, g_neg, g_mul, g_rep, g_fdiv, g_mod, g_pow, g_addS, g_addL, g_cmp0, g_eqI, g_eqS, g_eqB, g_lenL, g_lenT, g_lenR, g_lenS, g_int, g_intB, g_str, g_listL, g_listT, g_listM, g_tup, g_abs, g_max2, g_min2, gz_ixL, gz_ixT, gz_ixR, g_slL, gi_bool_non, gi_bool_bl, gi_bool_int, gi_bool_str, gi_bool_lst, gi_bool_tup, gi_bool_scr, gi_bool_dct, gi_int_non, gi_int_bl, gi_int_int, gi_int_str, gi_int_lst, gi_int_tup, gi_int_scr, gi_int_dct, gi_str_non, gi_str_bl, gi_str_int, gi_str_str, gi_str_lst, gi_str_tup, gi_str_scr, gi_str_dct, gi_list_non, gi_list_bl, gi_list_int, gi_list_str, gi_list_lst, gi_list_tup, gi_list_scr, gi_list_dct, gi_tuple_non, gi_tuple_bl, gi_tuple_int, gi_tuple_str, gi_tuple_lst, gi_tuple_tup, gi_tuple_scr, gi_tuple_dct, gi_dict_non, gi_dict_bl, gi_dict_int, gi_dict_str, gi_dict_lst, gi_dict_tup, gi_dict_scr, gi_dict_dct, tr_b, true_and, and_true, eq_self, exO_some, hTL_l, hTL_t, hName_e, hCons_c, hNil_n, bind_so, it_l, it_t, it_r, List.getElem?_cons_zero, List.getElem?_cons_succ, List.set_cons_zero, List.set_cons_succ, true_and, and_true, Nat.zero_le, snb, nnb, ex_some, dT, if_true, Bool.false_eq_true, if_false, wipeE, Int.reduceLT, List.length_nil, List.length_cons, Nat.reduceAdd, Nat.reduceLeDiff, Nat.reduceLT, g_inS, g_ixS, g_slS, g_join, frz_def, g_sort, g_rev, List.length_map, List.length_range]
    match ts, tl with
    | [t, u], _ => exact ⟨t, u, rfl, tok t (by simp), tok u (by simp)⟩
end C
namespace C
open PySem L2 PD
/-- a comprehension whose items are of a kind -/
theorem lc_ex {α β : Type} {i : Nat} {fe : En → Option R} {en : En} {c : α → D} {g : β → D} {P : β → Prop} : ∀ (ys : List α), (∀ y ∈ ys, wR (fe (en.set i (some (.sh (c y))))) fun r => ∃ k x, r = .val k (g x) ∧ k ≠ .bo ∧ P x) → ∃ xs : List β, tgIf (hName i) fYes fe en (ys.map c) = some (xs.map g) ∧ xs.length = ys.length ∧ ∀ x ∈ xs, P x
  | [], _ => ⟨[], rfl, rfl, fun x h => by cases h⟩
  | y :: r, h => by
    obtain ⟨z, e, k, x, rfl, hk, p⟩ := h y List.mem_cons_self
    obtain ⟨xs, ih, hl, hp⟩ := lc_ex r fun z hz => h z (List.mem_cons_of_mem _ hz)
    refine ⟨x :: xs, ?_, by rw [List.length_cons, List.length_cons, hl], fun w hw => ?_⟩
    · rw [List.map_cons]
      unfold tgIf
      simp only [hName, fYes, e]
      cases k with
      | sh => simp only [shr, ih]; rfl
      | nw => simp only [shr, ih]; rfl
      | bo => exact absurd rfl hk
    · rcases List.mem_cons.mp hw with rfl | hw
      · exact p
      · exact hp w hw
theorem g_listDc {α : Type} {g : α → D} {ps : List (Str × α)} {QG : Kd → D → Prop} : wG (listD (dcS g ps)) QG = QG .nw (.lst ((ps.map (·.1)).map .str)) := by
  have e : listD (dcS g ps) = some (.nw, .lst ((ps.map (·.1)).map .str)) := by
    show some (Kd.nw, D.lst ((ps.map fun p => ((.inr p.1 : Key), g p.2)).map fun kv => kD kv.1)) = _
    rw [List.map_map, List.map_map]
    rfl
  rw [e, wG_some]
def limY : List Int := [7, 12, 9, 5, 12, 9, 5, 12, 9, 5, 12, 9, 5, 2, 12, 9, 12, 9, 2, 12, 9, 12, 9, 6, 6, 9]
theorem saying_spec (V : Voc) (ns : List Int) (i : Nat) {ps qs : List (Str × Int)} {as : List (Str × List (Int × Int))} (P : Parts ps qs as) (V0 : V.Sp "") (V1 : V.Sq "") (vp : ∀ p ∈ ps, V.Sp p.1) (vq : ∀ p ∈ qs, V.Sq p.1) (va : ∀ p ∈ as, V.Sa p.1) :
    wR (F_Lsaying [.scr ns, .int i, partsD ps qs as]) fun r => ∃ y : Sy, r = .val .sh y.D ∧ y.Ok V 4 := by
  rw [F_Lsaying, w_run, b_Lsaying]
  simp only [start_def, List.map_cons, List.map_nil, List.length_cons, List.length_nil, Nat.reduceAdd, Nat.reduceSub, List.replicate_succ, List.replicate_zero, List.cons_append, List.nil_append, Z1, Z2, z_bO0, z_bO1, z_for, z_lc, onV_v, onV_e, onS_v, onS_e, onB_v, onB_e, onBR_v, onBR_e, onA_v, onA_e, onVB_v, onVB_e, onVA_v, onVA_e, onAA_v, onAA_e, onAO_v, onAO_e, onBB_v, onBB_e, onO_n, onO_r, onO_b, onO_c, onO_e, onT_n, onT_c, onT_b, onT_r, onT_e, onR_n, onR_r, onR_e, okK_s, okK_n, wO_some, wR_some, wB_some, wA_some, z_lf, z_shr, w_c, w_var, z_op, z_un, z_tB1, z_truR, z_chain, z_andT, z_orT, z_notT, z_andV, z_orV, z_notV, z_if, w_nil, z_cons, z_lst, z_tup, w_dct0, z_call, z_bn, z_sm, z_sl, z_star, z_sh, z_set, z_asg, z_drop, z_ret, w_retV, w_retN, w_nx, z_seq, w_frz, z_ifS, z_app, z_put, z_items, z_it, g_add, g_sub, g_neg, g_mul, g_rep, g_fdiv, g_mod, g_pow, g_addS, g_addL, g_cmp0, g_eqI, g_eqS, g_eqB, g_lenL, g_lenT, g_lenR, g_lenS, g_int, g_intB, g_str, g_listL, g_listT, g_listM, g_tup, g_abs, g_max2, g_min2, gz_ixL, gz_ixT, gz_ixR, g_slL, gi_bool_non, gi_bool_bl, gi_bool_int, gi_bool_str, gi_bool_lst, gi_bool_tup, gi_bool_scr, gi_bool_dct, gi_int_non, gi_int_bl, gi_int_int, gi_int_str, gi_int_lst, gi_int_tup, gi_int_scr, gi_int_dct, gi_str_non, gi_str_bl, gi_str_int, gi_str_str, gi_str_lst, gi_str_tup, gi_str_scr, gi_str_dct, gi_list_non, gi_list_bl, gi_list_int, gi_list_str, gi_list_lst, gi_list_tup, gi_list_scr, gi_list_dct, gi_tuple_non, gi_tuple_bl, gi_tuple_int, gi_tuple_str, gi_tuple_lst, gi_tuple_tup, gi_tuple_scr, gi_tuple_dct, gi_dict_non, gi_dict_bl, gi_dict_int, gi_dict_str, gi_dict_lst, gi_dict_tup, gi_dict_scr, gi_dict_dct, tr_b, true_and, and_true, eq_self, exO_some, hTL_l, hTL_t, hName_e, hCons_c, hNil_n, bind_so, it_l, it_t, it_r, List.getElem?_cons_zero, List.getElem?_cons_succ, List.set_cons_zero, List.set_cons_succ, true_and, and_true, Nat.zero_le, snb, nnb, ex_some, dT, if_true, Bool.false_eq_true, if_false, wipeE, Int.reduceLT, List.length_nil, List.length_cons, Nat.reduceAdd, Nat.reduceLeDiff, Nat.reduceLT, g_inS, g_ixS, g_slS, g_join, frz_def, g_sort, g_rev, List.length_map, List.length_range, partsD]
  have pl := P.pl
  have ql := P.ql
  have al := P.al
  have e1 : tgIf (hName 15) fYes (fUn listD (fVar 15)) [some (Sl.sh (D.scr ns)), some (Sl.sh (D.int ↑i)), some (Sl.sh (D.tup [dcS D.int ps, dcS D.int qs, dcS rowD as])), none, none, none, none, none, none, none, none, none, none, none, none, none, none] [dcS D.int ps, dcS D.int qs, dcS rowD as] =
      some [.lst ((ps.map (·.1)).map .str), .lst ((qs.map (·.1)).map .str), .lst ((as.map (·.1)).map .str)] := by
    obtain ⟨x, e, q⟩ := (show wR (fUn listD (fVar 15) [some (Sl.sh (D.scr ns)), some (Sl.sh (D.int ↑i)), some (Sl.sh (D.tup [dcS D.int ps, dcS D.int qs, dcS rowD as])), none, none, none, none, none, none, none, none, none, none, none, none, some (Sl.sh (dcS D.int ps)), none]) (fun r => r = .val .nw (.lst ((ps.map (·.1)).map .str))) by simp only [Z1, Z2, z_bO0, z_bO1, z_for, z_lc, onV_v, onV_e, onS_v, onS_e, onB_v, onB_e, onBR_v, onBR_e, onA_v, onA_e, onVB_v, onVB_e, onVA_v, onVA_e, onAA_v, onAA_e, onAO_v, onAO_e, onBB_v, onBB_e, onO_n, onO_r, onO_b, onO_c, onO_e, onT_n, onT_c, onT_b, onT_r, onT_e, onR_n, onR_r, onR_e, okK_s, okK_n, wO_some, wR_some, wB_some, wA_some, z_lf, z_shr, w_c, w_var, z_op, z_un, z_tB1, z_truR, z_chain, z_andT, z_orT, z_notT, z_andV, z_orV, z_notV, z_if, w_nil, z_cons, z_lst, z_tup, w_dct0, z_call, z_bn, z_sm, z_sl, z_star, z_sh, z_set, z_asg, z_drop, z_ret, w_retV, w_retN, w_nx, z_seq, w_frz, z_ifS, z_app, z_put, z_items, z_it, g_add, g_sub, g_neg, g_mul, g_rep, g_fdiv, g_mod, g_pow, g_addS, g_addL, g_cmp0, g_eqI, g_eqS, g_eqB, g_lenL, g_lenT, g_lenR, g_lenS, g_int, g_intB, g_str, g_listL, g_listT, g_listM, g_tup, g_abs, g_max2, g_min2, gz_ixL, gz_ixT, gz_ixR, g_slL, gi_bool_non, gi_bool_bl, gi_bool_int, gi_bool_str, gi_bool_lst, gi_bool_tup, gi_bool_scr, gi_bool_dct, gi_int_non, gi_int_bl, gi_int_int, gi_int_str, gi_int_lst, gi_int_tup, gi_int_scr, gi_int_dct, gi_str_non, gi_str_bl, gi_str_int, gi_str_str, gi_str_lst, gi_str_tup, gi_str_scr, gi_str_dct, gi_list_non, gi_list_bl, gi_list_int, gi_list_str, gi_list_lst, gi_list_tup, gi_list_scr, gi_list_dct, gi_tuple_non, gi_tuple_bl, gi_tuple_int, gi_tuple_str, gi_tuple_lst, gi_tuple_tup, gi_tuple_scr, gi_tuple_dct, gi_dict_non, gi_dict_bl, gi_dict_int, gi_dict_str, gi_dict_lst, gi_dict_tup, gi_dict_scr, gi_dict_dct, tr_b, true_and, and_true, eq_self, exO_some, hTL_l, hTL_t, hName_e, hCons_c, hNil_n, bind_so, it_l, it_t, it_r, List.getElem?_cons_zero, List.getElem?_cons_succ, List.set_cons_zero, List.set_cons_succ, true_and, and_true, Nat.zero_le, snb, nnb, ex_some, dT, if_true, Bool.false_eq_true, if_false, wipeE, Int.reduceLT, List.length_nil, List.length_cons, Nat.reduceAdd, Nat.reduceLeDiff, Nat.reduceLT, g_inS, g_ixS, g_slS, g_join, frz_def, g_sort, g_rev, List.length_map, List.length_range, g_listDc])
    subst q
    obtain ⟨x, e2, q⟩ := (show wR (fUn listD (fVar 15) [some (Sl.sh (D.scr ns)), some (Sl.sh (D.int ↑i)), some (Sl.sh (D.tup [dcS D.int ps, dcS D.int qs, dcS rowD as])), none, none, none, none, none, none, none, none, none, none, none, none, some (Sl.sh (dcS D.int qs)), none]) (fun r => r = .val .nw (.lst ((qs.map (·.1)).map .str))) by simp only [Z1, Z2, z_bO0, z_bO1, z_for, z_lc, onV_v, onV_e, onS_v, onS_e, onB_v, onB_e, onBR_v, onBR_e, onA_v, onA_e, onVB_v, onVB_e, onVA_v, onVA_e, onAA_v, onAA_e, onAO_v, onAO_e, onBB_v, onBB_e, onO_n, onO_r, onO_b, onO_c, onO_e, onT_n, onT_c, onT_b, onT_r, onT_e, onR_n, onR_r, onR_e, okK_s, okK_n, wO_some, wR_some, wB_some, wA_some, z_lf, z_shr, w_c, w_var, z_op, z_un, z_tB1, z_truR, z_chain, z_andT, z_orT, z_notT, z_andV, z_orV, z_notV, z_if, w_nil, z_cons, z_lst, z_tup, w_dct0, z_call, z_bn, z_sm, z_sl, z_star, z_sh, z_set, z_asg, z_drop, z_ret, w_retV, w_retN, w_nx, z_seq, w_frz, z_ifS, z_app, z_put, z_items, z_it, g_add, g_sub, g_neg, g_mul, g_rep, g_fdiv, g_mod, g_pow, g_addS, g_addL, g_cmp0, g_eqI, g_eqS, g_eqB, g_lenL, g_lenT, g_lenR, g_lenS, g_int, g_intB, g_str, g_listL, g_listT, g_listM, g_tup, g_abs, g_max2, g_min2, gz_ixL, gz_ixT, gz_ixR, g_slL, gi_bool_non, gi_bool_bl, gi_bool_int, gi_bool_str, gi_bool_lst, gi_bool_tup, gi_bool_scr, gi_bool_dct, gi_int_non, gi_int_bl, gi_int_int, gi_int_str, gi_int_lst, gi_int_tup, gi_int_scr, gi_int_dct, gi_str_non, gi_str_bl, gi_str_int, gi_str_str, gi_str_lst, gi_str_tup, gi_str_scr, gi_str_dct, gi_list_non, gi_list_bl, gi_list_int, gi_list_str, gi_list_lst, gi_list_tup, gi_list_scr, gi_list_dct, gi_tuple_non, gi_tuple_bl, gi_tuple_int, gi_tuple_str, gi_tuple_lst, gi_tuple_tup, gi_tuple_scr, gi_tuple_dct, gi_dict_non, gi_dict_bl, gi_dict_int, gi_dict_str, gi_dict_lst, gi_dict_tup, gi_dict_scr, gi_dict_dct, tr_b, true_and, and_true, eq_self, exO_some, hTL_l, hTL_t, hName_e, hCons_c, hNil_n, bind_so, it_l, it_t, it_r, List.getElem?_cons_zero, List.getElem?_cons_succ, List.set_cons_zero, List.set_cons_succ, true_and, and_true, Nat.zero_le, snb, nnb, ex_some, dT, if_true, Bool.false_eq_true, if_false, wipeE, Int.reduceLT, List.length_nil, List.length_cons, Nat.reduceAdd, Nat.reduceLeDiff, Nat.reduceLT, g_inS, g_ixS, g_slS, g_join, frz_def, g_sort, g_rev, List.length_map, List.length_range, g_listDc])
    subst q
    obtain ⟨x, e3, q⟩ := (show wR (fUn listD (fVar 15) [some (Sl.sh (D.scr ns)), some (Sl.sh (D.int ↑i)), some (Sl.sh (D.tup [dcS D.int ps, dcS D.int qs, dcS rowD as])), none, none, none, none, none, none, none, none, none, none, none, none, some (Sl.sh (dcS rowD as)), none]) (fun r => r = .val .nw (.lst ((as.map (·.1)).map .str))) by simp only [Z1, Z2, z_bO0, z_bO1, z_for, z_lc, onV_v, onV_e, onS_v, onS_e, onB_v, onB_e, onBR_v, onBR_e, onA_v, onA_e, onVB_v, onVB_e, onVA_v, onVA_e, onAA_v, onAA_e, onAO_v, onAO_e, onBB_v, onBB_e, onO_n, onO_r, onO_b, onO_c, onO_e, onT_n, onT_c, onT_b, onT_r, onT_e, onR_n, onR_r, onR_e, okK_s, okK_n, wO_some, wR_some, wB_some, wA_some, z_lf, z_shr, w_c, w_var, z_op, z_un, z_tB1, z_truR, z_chain, z_andT, z_orT, z_notT, z_andV, z_orV, z_notV, z_if, w_nil, z_cons, z_lst, z_tup, w_dct0, z_call, z_bn, z_sm, z_sl, z_star, z_sh, z_set, z_asg, z_drop, z_ret, w_retV, w_retN, w_nx, z_seq, w_frz, z_ifS, z_app, z_put, z_items, z_it, g_add, g_sub, g_neg, g_mul, g_rep, g_fdiv, g_mod, g_pow, g_addS, g_addL, g_cmp0, g_eqI, g_eqS, g_eqB, g_lenL, g_lenT, g_lenR, g_lenS, g_int, g_intB, g_str, g_listL, g_listT, g_listM, g_tup, g_abs, g_max2, g_min2, gz_ixL, gz_ixT, gz_ixR, g_slL, gi_bool_non, gi_bool_bl, gi_bool_int, gi_bool_str, gi_bool_lst, gi_bool_tup, gi_bool_scr, gi_bool_dct, gi_int_non, gi_int_bl, gi_int_int, gi_int_str, gi_int_lst, gi_int_tup, gi_int_scr, gi_int_dct, gi_str_non, gi_str_bl, gi_str_int, gi_str_str, gi_str_lst, gi_str_tup, gi_str_scr, gi_str_dct, gi_list_non, gi_list_bl, gi_list_int, gi_list_str, gi_list_lst, gi_list_tup, gi_list_scr, gi_list_dct, gi_tuple_non, gi_tuple_bl, gi_tuple_int, gi_tuple_str, gi_tuple_lst, gi_tuple_tup, gi_tuple_scr, gi_tuple_dct, gi_dict_non, gi_dict_bl, gi_dict_int, gi_dict_str, gi_dict_lst, gi_dict_tup, gi_dict_scr, gi_dict_dct, tr_b, true_and, and_true, eq_self, exO_some, hTL_l, hTL_t, hName_e, hCons_c, hNil_n, bind_so, it_l, it_t, it_r, List.getElem?_cons_zero, List.getElem?_cons_succ, List.set_cons_zero, List.set_cons_succ, true_and, and_true, Nat.zero_le, snb, nnb, ex_some, dT, if_true, Bool.false_eq_true, if_false, wipeE, Int.reduceLT, List.length_nil, List.length_cons, Nat.reduceAdd, Nat.reduceLeDiff, Nat.reduceLT, g_inS, g_ixS, g_slS, g_join, frz_def, g_sort, g_rev, List.length_map, List.length_range, g_listDc])
    subst q
    simp only [tgIf, hName_e, fYes, List.set_cons_succ, List.set_cons_zero, e, e2, e3, shr, Option.map_some]
  simp only [Z1, Z2, z_bO0, z_bO1, z_for, z_lc, onV_v, onV_e, onS_v, onS_e, onB_v, onB_e, onBR_v, onBR_e, onA_v, onA_e, onVB_v, onVB_e, onVA_v, onVA_e, onAA_v, onAA_e, onAO_v, onAO_e, onBB_v, onBB_e, onO_n, onO_r, onO_b, onO_c, onO_e, onT_n, onT_c, onT_b, onT_r, onT_e, onR_n, onR_r, onR_e, okK_s, okK_n, wO_some, wR_some, wB_some, wA_some, z_lf, z_shr, w_c, w_var, z_op, z_un, z_tB1, z_truR, z_chain, z_andT, z_orT, z_notT, z_andV, z_orV, z_notV, z_if, w_nil, z_cons, z_lst, z_tup, w_dct0, z_call, z_bn, z_sm, z_sl, z_star, z_sh, z_set, z_asg, z_drop, z_ret, w_retV, w_retN, w_nx, z_seq, w_frz, z_ifS, z_app, z_put, z_items, z_it, g_add, g_sub, g_neg, g_mul, g_rep, g_fdiv, g_mod, g_pow, g_addS, g_addL, g_cmp0, g_eqI, g_eqS, g_eqB, g_lenL, g_lenT, g_lenR, g_lenS, g_int, g_intB, g_str, g_listL, g_listT, g_listM, g_tup, g_abs, g_max2, g_min2, gz_ixL, gz_ixT, gz_ixR, g_slL, gi_bool_non, gi_bool_bl, gi_bool_int, gi_bool_str, gi_bool_lst, gi_bool_tup, gi_bool_scr, gi_bool_dct, gi_int_non, gi_int_bl, gi_int_int, gi_int_str, gi_int_lst, gi_int_tup, gi_int_scr, gi_int_dct, gi_str_non, gi_str_bl, gi_str_int, gi_str_str, gi_str_lst, gi_str_tup, gi_str_scr, gi_str_dct, gi_list_non, gi_list_bl, gi_list_int, gi_list_str, gi_list_lst, gi_list_tup, gi_list_scr, gi_list_dct, gi_tuple_non, gi_tuple_bl, gi_tuple_int, gi_tuple_str, gi_tuple_lst, gi_tuple_tup, gi_tuple_scr, gi_tuple_dct, gi_dict_non, gi_dict_bl, gi_dict_int, gi_dict_str, gi_dict_lst, gi_dict_tup, gi_dict_scr, gi_dict_dct, tr_b, true_and, and_true, eq_self, exO_some, hTL_l, hTL_t, hName_e, hCons_c, hNil_n, bind_so, it_l, it_t, it_r, List.getElem?_cons_zero, List.getElem?_cons_succ, List.set_cons_zero, List.set_cons_succ, true_and, and_true, Nat.zero_le, snb, nnb, ex_some, dT, if_true, Bool.false_eq_true, if_false, wipeE, Int.reduceLT, List.length_nil, List.length_cons, Nat.reduceAdd, Nat.reduceLeDiff, Nat.reduceLT, g_inS, g_ixS, g_slS, g_join, frz_def, g_sort, g_rev, List.length_map, List.length_range, e1]
  have lp : (ps.map (·.1)).length ≤ 3 := by rw [List.length_map]; exact pl
  have lq : (qs.map (·.1)).length ≤ 2 := by rw [List.length_map]; exact ql
  have la : (as.map (·.1)).length ≤ 3 := by rw [List.length_map]; exact al
  have vp : ∀ s ∈ ps.map (·.1), V.Sp s := fun s hs => by obtain ⟨p, hp, rfl⟩ := List.mem_map.mp hs; exact vp p hp
  have vq : ∀ s ∈ qs.map (·.1), V.Sq s := fun s hs => by obtain ⟨p, hp, rfl⟩ := List.mem_map.mp hs; exact vq p hp
  have va : ∀ s ∈ as.map (·.1), V.Sa s := fun s hs => by obtain ⟨p, hp, rfl⟩ := List.mem_map.mp hs; exact va p hp
  generalize ps.map (·.1) = pn at *
  generalize qs.map (·.1) = qn at *
  generalize as.map (·.1) = an at *
  repeat (refine ⟨by first | decide | omega, ?_⟩)
  refine (draws_spec ns i limY (by decide) (by decide +kernel)).mono ?_
  rintro r ⟨ds, rfl, hl, hd⟩
  have hl : ds.length = 26 := hl
  have gk : ∀ (j : Nat) (l : Int), limY[j]? = some l → ∃ x, ds[j]? = some x ∧ atI (ds.map D.int) (j : Int) = some (.int x) ∧ 0 ≤ x ∧ x < l := fun j l h => by
    have hj : j < 26 := (List.getElem?_eq_some_iff.mp h).1
    have e1 : ds[j]? = some ds[j] := List.getElem?_eq_getElem (by omega)
    exact ⟨ds[j], e1, by rw [atI_map', atI_nat, e1]; rfl, hd _ _ _ e1 h⟩
  have own : [D.str (Str.ofString "")] ++ List.map D.str pn = List.map D.str (Str.ofString "" :: pn) := rfl
  have vpool : ∀ s ∈ Str.ofString "" :: pn, V.Sp s := fun s hs => by
    rcases List.mem_cons.mp hs with rfl | h
    · exact V0
    · exact vp _ h
  have hpool : Str.ofString "" :: pn ≠ [] := by simp
  have lpool : (Str.ofString "" :: pn).length ≤ 4 := by rw [List.length_cons]; omega
  have lpool0 : 0 < (Str.ofString "" :: pn).length := by simp
  simp only [onS_v, onS_e, okK_s, okK_n, Z1, Z2, onO_n, List.set_cons_zero, List.set_cons_succ]
  refine w_cut (fun en => en = [some (Sl.sh (D.scr ns)), some (Sl.sh (D.int ↑i)), some (Sl.sh (D.tup [dcS D.int ps, dcS D.int qs, dcS rowD as])), some (.sh (.lst (ds.map .int))), some (.sh (.lst ((Str.ofString "" :: pn).map .str))), none, none, none, none, none, none, none, some (Sl.sh (D.lst (pn.map D.str))), some (Sl.sh (D.lst (qn.map D.str))), some (Sl.sh (D.lst (an.map D.str))), none, none]) ?_ ?_
  · simp only [Z1, Z2, z_bO0, z_bO1, z_for, z_lc, onV_v, onV_e, onS_v, onS_e, onB_v, onB_e, onBR_v, onBR_e, onA_v, onA_e, onVB_v, onVB_e, onVA_v, onVA_e, onAA_v, onAA_e, onAO_v, onAO_e, onBB_v, onBB_e, onO_n, onO_r, onO_b, onO_c, onO_e, onT_n, onT_c, onT_b, onT_r, onT_e, onR_n, onR_r, onR_e, okK_s, okK_n, wO_some, wR_some, wB_some, wA_some, z_lf, z_shr, w_c, w_var, z_op, z_un, z_tB1, z_truR, z_chain, z_andT, z_orT, z_notT, z_andV, z_orV, z_notV, z_if, w_nil, z_cons, z_lst, z_tup, w_dct0, z_call, z_bn, z_sm, z_sl, z_star, z_sh, z_set, z_asg, z_drop, z_ret, w_retV, w_retN, w_nx, z_seq, w_frz, z_ifS, z_app, z_put, z_items, z_it, g_add, g_sub, g_neg, g_mul, g_rep, g_fdiv, g_mod, g_pow, g_addS, g_addL, g_cmp0, g_eqI, g_eqS, g_eqB, g_lenL, g_lenT, g_lenR, g_lenS, g_int, g_intB, g_str, g_listL, g_listT, g_listM, g_tup, g_abs, g_max2, g_min2, gz_ixL, gz_ixT, gz_ixR, g_slL, gi_bool_non, gi_bool_bl, gi_bool_int, gi_bool_str, gi_bool_lst, gi_bool_tup, gi_bool_scr, gi_bool_dct, gi_int_non, gi_int_bl, gi_int_int, gi_int_str, gi_int_lst, gi_int_tup, gi_int_scr, gi_int_dct, gi_str_non, gi_str_bl, gi_str_int, gi_str_str, gi_str_lst, gi_str_tup, gi_str_scr, gi_str_dct, gi_list_non, gi_list_bl, gi_list_int, gi_list_str, gi_list_lst, gi_list_tup, gi_list_scr, gi_list_dct, gi_tuple_non, gi_tuple_bl, gi_tuple_int, gi_tuple_str, gi_tuple_lst, gi_tuple_tup, gi_tuple_scr, gi_tuple_dct, gi_dict_non, gi_dict_bl, gi_dict_int, gi_dict_str, gi_dict_lst, gi_dict_tup, gi_dict_scr, gi_dict_dct, tr_b, true_and, and_true, eq_self, exO_some, hTL_l, hTL_t, hName_e, hCons_c, hNil_n, bind_so, it_l, it_t, it_r, List.getElem?_cons_zero, List.getElem?_cons_succ, List.set_cons_zero, List.set_cons_succ, true_and, and_true, Nat.zero_le, snb, nnb, ex_some, dT, if_true, Bool.false_eq_true, if_false, wipeE, Int.reduceLT, List.length_nil, List.length_cons, Nat.reduceAdd, Nat.reduceLeDiff, Nat.reduceLT, g_inS, g_ixS, g_slS, g_join, frz_def, g_sort, g_rev, List.length_map, List.length_range, own]
    omega
  rintro en1 rfl
  generalize Str.ofString "" :: pn = pool at *
  have pp : ((0 : Int) < (pool.length : Int)) = True := eq_true (by omega)
  refine w_cut (fun en => ∃ ts : List (Str × Int), en = [some (Sl.sh (D.scr ns)), some (Sl.sh (D.int ↑i)), some (Sl.sh (D.tup [dcS D.int ps, dcS D.int qs, dcS rowD as])), some (.sh (.lst (ds.map .int))), some (.sh (.lst (pool.map .str))), some (.sh (.lst (ts.map ptD))), none, none, none, none, none, none, some (Sl.sh (D.lst (pn.map D.str))), some (Sl.sh (D.lst (qn.map D.str))), some (Sl.sh (D.lst (an.map D.str))), none, none] ∧ ts.length = 4 ∧ ∀ t ∈ ts, ptOk V.Sp 4 t) ?_ ?_
  · simp only [Z1, Z2, z_bO0, z_bO1, z_for, z_lc, onV_v, onV_e, onS_v, onS_e, onB_v, onB_e, onBR_v, onBR_e, onA_v, onA_e, onVB_v, onVB_e, onVA_v, onVA_e, onAA_v, onAA_e, onAO_v, onAO_e, onBB_v, onBB_e, onO_n, onO_r, onO_b, onO_c, onO_e, onT_n, onT_c, onT_b, onT_r, onT_e, onR_n, onR_r, onR_e, okK_s, okK_n, wO_some, wR_some, wB_some, wA_some, z_lf, z_shr, w_c, w_var, z_op, z_un, z_tB1, z_truR, z_chain, z_andT, z_orT, z_notT, z_andV, z_orV, z_notV, z_if, w_nil, z_cons, z_lst, z_tup, w_dct0, z_call, z_bn, z_sm, z_sl, z_star, z_sh, z_set, z_asg, z_drop, z_ret, w_retV, w_retN, w_nx, z_seq, w_frz, z_ifS, z_app, z_put, z_items, z_it, g_add, g_sub, g_neg, g_mul, g_rep, g_fdiv, g_mod, g_pow, g_addS, g_addL, g_cmp0, g_eqI, g_eqS, g_eqB, g_lenL, g_lenT, g_lenR, g_lenS, g_int, g_intB, g_str, g_listL, g_listT, g_listM, g_tup, g_abs, g_max2, g_min2, gz_ixL, gz_ixT, gz_ixR, g_slL, gi_bool_non, gi_bool_bl, gi_bool_int, gi_bool_str, gi_bool_lst, gi_bool_tup, gi_bool_scr, gi_bool_dct, gi_int_non, gi_int_bl, gi_int_int, gi_int_str, gi_int_lst, gi_int_tup, gi_int_scr, gi_int_dct, gi_str_non, gi_str_bl, gi_str_int, gi_str_str, gi_str_lst, gi_str_tup, gi_str_scr, gi_str_dct, gi_list_non, gi_list_bl, gi_list_int, gi_list_str, gi_list_lst, gi_list_tup, gi_list_scr, gi_list_dct, gi_tuple_non, gi_tuple_bl, gi_tuple_int, gi_tuple_str, gi_tuple_lst, gi_tuple_tup, gi_tuple_scr, gi_tuple_dct, gi_dict_non, gi_dict_bl, gi_dict_int, gi_dict_str, gi_dict_lst, gi_dict_tup, gi_dict_scr, gi_dict_dct, tr_b, true_and, and_true, eq_self, exO_some, hTL_l, hTL_t, hName_e, hCons_c, hNil_n, bind_so, it_l, it_t, it_r, List.getElem?_cons_zero, List.getElem?_cons_succ, List.set_cons_zero, List.set_cons_succ, true_and, and_true, Nat.zero_le, snb, nnb, ex_some, dT, if_true, Bool.false_eq_true, if_false, wipeE, Int.reduceLT, List.length_nil, List.length_cons, Nat.reduceAdd, Nat.reduceLeDiff, Nat.reduceLT, g_inS, g_ixS, g_slS, g_join, frz_def, g_sort, g_rev, List.length_map, List.length_range, rng1_lit (n := 4) (by decide)]
    obtain ⟨ts, e, hl, hp⟩ := lc_ex (i := 16) (en := [some (Sl.sh (D.scr ns)), some (Sl.sh (D.int ↑i)), some (Sl.sh (D.tup [dcS D.int ps, dcS D.int qs, dcS rowD as])), some (.sh (.lst (ds.map .int))), some (.sh (.lst (pool.map .str))), none, none, none, none, none, none, none, some (Sl.sh (D.lst (pn.map D.str))), some (Sl.sh (D.lst (qn.map D.str))), some (Sl.sh (D.lst (an.map D.str))), none, none])
      (fe := fTup (fCons (fOp ixD (fVar 4) (fOp modD (fUn intD (fOp ixD (fVar 3) (fOp addD (fC (.int 1)) (fOp mulD (fC (.int 3)) (fVar 16))))) (fUn lenD (fVar 4)))) (fCons (fOp subD (fOp ixD (fVar 3) (fOp addD (fC (.int 2)) (fOp mulD (fC (.int 3)) (fVar 16)))) (fC (.int 4))) (fNil))))
      (c := fun k : Nat => D.int (k : Int)) (g := ptD) (P := ptOk V.Sp 4) (List.range 4) fun k hk => by
        have hk := List.mem_range.mp hk
        obtain ⟨x, e1, e2, b1⟩ := gk (1 + 3 * k) 12 (by match k, hk with | 0, _ | 1, _ | 2, _ | 3, _ => rfl)
        obtain ⟨y, e3, e4, b2⟩ := gk (2 + 3 * k) 9 (by match k, hk with | 0, _ | 1, _ | 2, _ | 3, _ => rfl)
        have e2 : atI (ds.map D.int) (1 + 3 * (k : Int)) = some (.int x) := by rw [← e2]; congr 1
        have e4 : atI (ds.map D.int) (2 + 3 * (k : Int)) = some (.int y) := by rw [← e4]; congr 1
        have m3 : (mulOk 3 (k : Int) = true) = True := eq_true (mulOk_l (by decide) (by decide))
        obtain ⟨s1, e5, i1⟩ := pick hpool x
        simp only [Z1, Z2, z_bO0, z_bO1, z_for, z_lc, onV_v, onV_e, onS_v, onS_e, onB_v, onB_e, onBR_v, onBR_e, onA_v, onA_e, onVB_v, onVB_e, onVA_v, onVA_e, onAA_v, onAA_e, onAO_v, onAO_e, onBB_v, onBB_e, onO_n, onO_r, onO_b, onO_c, onO_e, onT_n, onT_c, onT_b, onT_r, onT_e, onR_n, onR_r, onR_e, okK_s, okK_n, wO_some, wR_some, wB_some, wA_some, z_lf, z_shr, w_c, w_var, z_op, z_un, z_tB1, z_truR, z_chain, z_andT, z_orT, z_notT, z_andV, z_orV, z_notV, z_if, w_nil, z_cons, z_lst, z_tup, w_dct0, z_call, z_bn, z_sm, z_sl, z_star, z_sh, z_set, z_asg, z_drop, z_ret, w_retV, w_retN, w_nx, z_seq, w_frz, z_ifS, z_app, z_put, z_items, z_it, g_add, g_sub, g_neg, g_mul, g_rep, g_fdiv, g_mod, g_pow, g_addS, g_addL, g_cmp0, g_eqI, g_eqS, g_eqB, g_lenL, g_lenT, g_lenR, g_lenS, g_int, g_intB, g_str, g_listL, g_listT, g_listM, g_tup, g_abs, g_max2, g_min2, gz_ixL, gz_ixT, gz_ixR, g_slL, gi_bool_non, gi_bool_bl, gi_bool_int, gi_bool_str, gi_bool_lst, gi_bool_tup, gi_bool_scr, gi_bool_dct, gi_int_non, gi_int_bl, gi_int_int, gi_int_str, gi_int_lst, gi_int_tup, gi_int_scr, gi_int_dct, gi_str_non, gi_str_bl, gi_str_int, gi_str_str, gi_str_lst, gi_str_tup, gi_str_scr, gi_str_dct, gi_list_non, gi_list_bl, gi_list_int, gi_list_str, gi_list_lst, gi_list_tup, gi_list_scr, gi_list_dct, gi_tuple_non, gi_tuple_bl, gi_tuple_int, gi_tuple_str, gi_tuple_lst, gi_tuple_tup, gi_tuple_scr, gi_tuple_dct, gi_dict_non, gi_dict_bl, gi_dict_int, gi_dict_str, gi_dict_lst, gi_dict_tup, gi_dict_scr, gi_dict_dct, tr_b, true_and, and_true, eq_self, exO_some, hTL_l, hTL_t, hName_e, hCons_c, hNil_n, bind_so, it_l, it_t, it_r, List.getElem?_cons_zero, List.getElem?_cons_succ, List.set_cons_zero, List.set_cons_succ, true_and, and_true, Nat.zero_le, snb, nnb, ex_some, dT, if_true, Bool.false_eq_true, if_false, wipeE, Int.reduceLT, List.length_nil, List.length_cons, Nat.reduceAdd, Nat.reduceLeDiff, Nat.reduceLT, g_inS, g_ixS, g_slS, g_join, frz_def, g_sort, g_rev, List.length_map, List.length_range, e2, e4, m3, e5, pp]
        exact ⟨_, (s1, y - 4), rfl, by simp, vpool _ i1, show -4 ≤ y - 4 by omega, show y - 4 ≤ 4 by omega⟩
    simp only [Z1, Z2, z_bO0, z_bO1, z_for, z_lc, onV_v, onV_e, onS_v, onS_e, onB_v, onB_e, onBR_v, onBR_e, onA_v, onA_e, onVB_v, onVB_e, onVA_v, onVA_e, onAA_v, onAA_e, onAO_v, onAO_e, onBB_v, onBB_e, onO_n, onO_r, onO_b, onO_c, onO_e, onT_n, onT_c, onT_b, onT_r, onT_e, onR_n, onR_r, onR_e, okK_s, okK_n, wO_some, wR_some, wB_some, wA_some, z_lf, z_shr, w_c, w_var, z_op, z_un, z_tB1, z_truR, z_chain, z_andT, z_orT, z_notT, z_andV, z_orV, z_notV, z_if, w_nil, z_cons, z_lst, z_tup, w_dct0, z_call, z_bn, z_sm, z_sl, z_star, z_sh, z_set, z_asg, z_drop, z_ret, w_retV, w_retN, w_nx, z_seq, w_frz, z_ifS, z_app, z_put, z_items, z_it, g_add, g_sub, g_neg, g_mul, g_rep, g_fdiv, g_mod, g_pow, g_addS, g_addL, g_cmp0, g_eqI, g_eqS, g_eqB, g_lenL, g_lenT, g_lenR, g_lenS, g_int, g_intB, g_str, g_listL, g_listT, g_listM, g_tup, g_abs, g_max2, g_min2, gz_ixL, gz_ixT, gz_ixR, g_slL, gi_bool_non, gi_bool_bl, gi_bool_int, gi_bool_str, gi_bool_lst, gi_bool_tup, gi_bool_scr, gi_bool_dct, gi_int_non, gi_int_bl, gi_int_int, gi_int_str, gi_int_lst, gi_int_tup, gi_int_scr, gi_int_dct, gi_str_non, gi_str_bl, gi_str_int, gi_str_str, gi_str_lst, gi_str_tup, gi_str_scr, gi_str_dct, gi_list_non, gi_list_bl, gi_list_int, gi_list_str, gi_list_lst, gi_list_tup, gi_list_scr, gi_list_dct, gi_tuple_non, gi_tuple_bl, gi_tuple_int, gi_tuple_str, gi_tuple_lst, gi_tuple_tup, gi_tuple_scr, gi_tuple_dct, gi_dict_non, gi_dict_bl, gi_dict_int, gi_dict_str, gi_dict_lst, gi_dict_tup, gi_dict_scr, gi_dict_dct, tr_b, true_and, and_true, eq_self, exO_some, hTL_l, hTL_t, hName_e, hCons_c, hNil_n, bind_so, it_l, it_t, it_r, List.getElem?_cons_zero, List.getElem?_cons_succ, List.set_cons_zero, List.set_cons_succ, true_and, and_true, Nat.zero_le, snb, nnb, ex_some, dT, if_true, Bool.false_eq_true, if_false, wipeE, Int.reduceLT, List.length_nil, List.length_cons, Nat.reduceAdd, Nat.reduceLeDiff, Nat.reduceLT, g_inS, g_ixS, g_slS, g_join, frz_def, g_sort, g_rev, List.length_map, List.length_range, e]
    exact ⟨ts, rfl, by rw [hl]; simp, hp⟩
  rintro en2 ⟨ts, rfl, tl, tok⟩
  match ts, tl with
  | [t0, t1, t2, t3], _ =>
  have tk0 := tok t0 (by simp)
  have tk1 := tok t1 (by simp)
  refine w_cut (fun en => ∃ es : List (Option (Str × Int)), en = [some (Sl.sh (D.scr ns)), some (Sl.sh (D.int ↑i)), some (Sl.sh (D.tup [dcS D.int ps, dcS D.int qs, dcS rowD as])), some (.sh (.lst (ds.map .int))), some (.sh (.lst (pool.map .str))), some (.sh (.lst [ptD t0, ptD t1, ptD t2, ptD t3])), some (.sh (.lst (es.map opD))), none, none, none, none, none, some (Sl.sh (D.lst (pn.map D.str))), some (Sl.sh (D.lst (qn.map D.str))), some (Sl.sh (D.lst (an.map D.str))), none, none] ∧ es.length = 4 ∧ ∀ t ∈ es, opOk V.Sp 4 t) ?_ ?_
  · simp only [Z1, Z2, z_bO0, z_bO1, z_for, z_lc, onV_v, onV_e, onS_v, onS_e, onB_v, onB_e, onBR_v, onBR_e, onA_v, onA_e, onVB_v, onVB_e, onVA_v, onVA_e, onAA_v, onAA_e, onAO_v, onAO_e, onBB_v, onBB_e, onO_n, onO_r, onO_b, onO_c, onO_e, onT_n, onT_c, onT_b, onT_r, onT_e, onR_n, onR_r, onR_e, okK_s, okK_n, wO_some, wR_some, wB_some, wA_some, z_lf, z_shr, w_c, w_var, z_op, z_un, z_tB1, z_truR, z_chain, z_andT, z_orT, z_notT, z_andV, z_orV, z_notV, z_if, w_nil, z_cons, z_lst, z_tup, w_dct0, z_call, z_bn, z_sm, z_sl, z_star, z_sh, z_set, z_asg, z_drop, z_ret, w_retV, w_retN, w_nx, z_seq, w_frz, z_ifS, z_app, z_put, z_items, z_it, g_add, g_sub, g_neg, g_mul, g_rep, g_fdiv, g_mod, g_pow, g_addS, g_addL, g_cmp0, g_eqI, g_eqS, g_eqB, g_lenL, g_lenT, g_lenR, g_lenS, g_int, g_intB, g_str, g_listL, g_listT, g_listM, g_tup, g_abs, g_max2, g_min2, gz_ixL, gz_ixT, gz_ixR, g_slL, gi_bool_non, gi_bool_bl, gi_bool_int, gi_bool_str, gi_bool_lst, gi_bool_tup, gi_bool_scr, gi_bool_dct, gi_int_non, gi_int_bl, gi_int_int, gi_int_str, gi_int_lst, gi_int_tup, gi_int_scr, gi_int_dct, gi_str_non, gi_str_bl, gi_str_int, gi_str_str, gi_str_lst, gi_str_tup, gi_str_scr, gi_str_dct, gi_list_non, gi_list_bl, gi_list_int, gi_list_str, gi_list_lst, gi_list_tup, gi_list_scr, gi_list_dct, gi_tuple_non, gi_tuple_bl, gi_tuple_int, gi_tuple_str, gi_tuple_lst, gi_tuple_tup, gi_tuple_scr, gi_tuple_dct, gi_dict_non, gi_dict_bl, gi_dict_int, gi_dict_str, gi_dict_lst, gi_dict_tup, gi_dict_scr, gi_dict_dct, tr_b, true_and, and_true, eq_self, exO_some, hTL_l, hTL_t, hName_e, hCons_c, hNil_n, bind_so, it_l, it_t, it_r, List.getElem?_cons_zero, List.getElem?_cons_succ, List.set_cons_zero, List.set_cons_succ, true_and, and_true, Nat.zero_le, snb, nnb, ex_some, dT, if_true, Bool.false_eq_true, if_false, wipeE, Int.reduceLT, List.length_nil, List.length_cons, Nat.reduceAdd, Nat.reduceLeDiff, Nat.reduceLT, g_inS, g_ixS, g_slS, g_join, frz_def, g_sort, g_rev, List.length_map, List.length_range, rng1_lit (n := 4) (by decide)]
    obtain ⟨es, e, hl, hp⟩ := lc_ex (i := 16) (en := [some (Sl.sh (D.scr ns)), some (Sl.sh (D.int ↑i)), some (Sl.sh (D.tup [dcS D.int ps, dcS D.int qs, dcS rowD as])), some (.sh (.lst (ds.map .int))), some (.sh (.lst (pool.map .str))), some (.sh (.lst [ptD t0, ptD t1, ptD t2, ptD t3])), none, none, none, none, none, none, some (Sl.sh (D.lst (pn.map D.str))), some (Sl.sh (D.lst (qn.map D.str))), some (Sl.sh (D.lst (an.map D.str))), none, none])
      (fe := fIf (fun en => tB1 ((fOp eqD (fOp ixD (fVar 3) (fOp addD (fC (.int 3)) (fOp mulD (fC (.int 3)) (fVar 16)))) (fC (.int 0))) en)) (fC .non) (fOp ixD (fVar 5) (fVar 16)))
      (c := fun k : Nat => D.int (k : Int)) (g := opD) (P := opOk V.Sp 4) (List.range 4) fun k hk => by
        have hk := List.mem_range.mp hk
        obtain ⟨x, e1, e2, b1⟩ := gk (3 + 3 * k) 5 (by match k, hk with | 0, _ | 1, _ | 2, _ | 3, _ => rfl)
        have e2 : atI (ds.map D.int) (3 + 3 * (k : Int)) = some (.int x) := by rw [← e2]; congr 1
        have m3 : (mulOk 3 (k : Int) = true) = True := eq_true (mulOk_l (by decide) (by decide))
        have e5 : ∃ t, atI [ptD t0, ptD t1, ptD t2, ptD t3] (k : Int) = some (ptD t) ∧ ptOk V.Sp 4 t := by
          rcases (show k = 0 ∨ k = 1 ∨ k = 2 ∨ k = 3 by omega) with rfl | rfl | rfl | rfl
          · exact ⟨t0, by rw [atI_nat]; rfl, tk0⟩
          · exact ⟨t1, by rw [atI_nat]; rfl, tk1⟩
          · exact ⟨t2, by rw [atI_nat]; rfl, tok t2 (by simp)⟩
          · exact ⟨t3, by rw [atI_nat]; rfl, tok t3 (by simp)⟩
        obtain ⟨t, e5, p5⟩ := e5
        simp only [Z1, Z2, z_bO0, z_bO1, z_for, z_lc, onV_v, onV_e, onS_v, onS_e, onB_v, onB_e, onBR_v, onBR_e, onA_v, onA_e, onVB_v, onVB_e, onVA_v, onVA_e, onAA_v, onAA_e, onAO_v, onAO_e, onBB_v, onBB_e, onO_n, onO_r, onO_b, onO_c, onO_e, onT_n, onT_c, onT_b, onT_r, onT_e, onR_n, onR_r, onR_e, okK_s, okK_n, wO_some, wR_some, wB_some, wA_some, z_lf, z_shr, w_c, w_var, z_op, z_un, z_tB1, z_truR, z_chain, z_andT, z_orT, z_notT, z_andV, z_orV, z_notV, z_if, w_nil, z_cons, z_lst, z_tup, w_dct0, z_call, z_bn, z_sm, z_sl, z_star, z_sh, z_set, z_asg, z_drop, z_ret, w_retV, w_retN, w_nx, z_seq, w_frz, z_ifS, z_app, z_put, z_items, z_it, g_add, g_sub, g_neg, g_mul, g_rep, g_fdiv, g_mod, g_pow, g_addS, g_addL, g_cmp0, g_eqI, g_eqS, g_eqB, g_lenL, g_lenT, g_lenR, g_lenS, g_int, g_intB, g_str, g_listL, g_listT, g_listM, g_tup, g_abs, g_max2, g_min2, gz_ixL, gz_ixT, gz_ixR, g_slL, gi_bool_non, gi_bool_bl, gi_bool_int, gi_bool_str, gi_bool_lst, gi_bool_tup, gi_bool_scr, gi_bool_dct, gi_int_non, gi_int_bl, gi_int_int, gi_int_str, gi_int_lst, gi_int_tup, gi_int_scr, gi_int_dct, gi_str_non, gi_str_bl, gi_str_int, gi_str_str, gi_str_lst, gi_str_tup, gi_str_scr, gi_str_dct, gi_list_non, gi_list_bl, gi_list_int, gi_list_str, gi_list_lst, gi_list_tup, gi_list_scr, gi_list_dct, gi_tuple_non, gi_tuple_bl, gi_tuple_int, gi_tuple_str, gi_tuple_lst, gi_tuple_tup, gi_tuple_scr, gi_tuple_dct, gi_dict_non, gi_dict_bl, gi_dict_int, gi_dict_str, gi_dict_lst, gi_dict_tup, gi_dict_scr, gi_dict_dct, tr_b, true_and, and_true, eq_self, exO_some, hTL_l, hTL_t, hName_e, hCons_c, hNil_n, bind_so, it_l, it_t, it_r, List.getElem?_cons_zero, List.getElem?_cons_succ, List.set_cons_zero, List.set_cons_succ, true_and, and_true, Nat.zero_le, snb, nnb, ex_some, dT, if_true, Bool.false_eq_true, if_false, wipeE, Int.reduceLT, List.length_nil, List.length_cons, Nat.reduceAdd, Nat.reduceLeDiff, Nat.reduceLT, g_inS, g_ixS, g_slS, g_join, frz_def, g_sort, g_rev, List.length_map, List.length_range, e2, m3, e5]
        split
        · exact ⟨_, none, rfl, by simp, trivial⟩
        · exact ⟨_, some t, rfl, by simp, p5⟩
    simp only [Z1, Z2, z_bO0, z_bO1, z_for, z_lc, onV_v, onV_e, onS_v, onS_e, onB_v, onB_e, onBR_v, onBR_e, onA_v, onA_e, onVB_v, onVB_e, onVA_v, onVA_e, onAA_v, onAA_e, onAO_v, onAO_e, onBB_v, onBB_e, onO_n, onO_r, onO_b, onO_c, onO_e, onT_n, onT_c, onT_b, onT_r, onT_e, onR_n, onR_r, onR_e, okK_s, okK_n, wO_some, wR_some, wB_some, wA_some, z_lf, z_shr, w_c, w_var, z_op, z_un, z_tB1, z_truR, z_chain, z_andT, z_orT, z_notT, z_andV, z_orV, z_notV, z_if, w_nil, z_cons, z_lst, z_tup, w_dct0, z_call, z_bn, z_sm, z_sl, z_star, z_sh, z_set, z_asg, z_drop, z_ret, w_retV, w_retN, w_nx, z_seq, w_frz, z_ifS, z_app, z_put, z_items, z_it, g_add, g_sub, g_neg, g_mul, g_rep, g_fdiv, g_mod, g_pow, g_addS, g_addL, g_cmp0, g_eqI, g_eqS, g_eqB, g_lenL, g_lenT, g_lenR, g_lenS, g_int, g_intB, g_str, g_listL, g_listT, g_listM, g_tup, g_abs, g_max2, g_min2, gz_ixL, gz_ixT, gz_ixR, g_slL, gi_bool_non, gi_bool_bl, gi_bool_int, gi_bool_str, gi_bool_lst, gi_bool_tup, gi_bool_scr, gi_bool_dct, gi_int_non, gi_int_bl, gi_int_int, gi_int_str, gi_int_lst, gi_int_tup, gi_int_scr, gi_int_dct, gi_str_non, gi_str_bl, gi_str_int, gi_str_str, gi_str_lst, gi_str_tup, gi_str_scr, gi_str_dct, gi_list_non, gi_list_bl, gi_list_int, gi_list_str, gi_list_lst, gi_list_tup, gi_list_scr, gi_list_dct, gi_tuple_non, gi_tuple_bl, gi_tuple_int, gi_tuple_str, gi_tuple_lst, gi_tuple_tup, gi_tuple_scr, gi_tuple_dct, gi_dict_non, gi_dict_bl, gi_dict_int, gi_dict_str, gi_dict_lst, gi_dict_tup, gi_dict_scr, gi_dict_dct, tr_b, true_and, and_true, eq_self, exO_some, hTL_l, hTL_t, hName_e, hCons_c, hNil_n, bind_so, it_l, it_t, it_r, List.getElem?_cons_zero, List.getElem?_cons_succ, List.set_cons_zero, List.set_cons_succ, true_and, and_true, Nat.zero_le, snb, nnb, ex_some, dT, if_true, Bool.false_eq_true, if_false, wipeE, Int.reduceLT, List.length_nil, List.length_cons, Nat.reduceAdd, Nat.reduceLeDiff, Nat.reduceLT, g_inS, g_ixS, g_slS, g_join, frz_def, g_sort, g_rev, List.length_map, List.length_range, e, List.map_cons, List.map_nil]
    exact ⟨es, rfl, by rw [hl]; simp, hp⟩
  rintro en3 ⟨es, rfl, el, eok⟩
  match es, el with
  | [u0, u1, u2, u3], _ =>
  have uk0 := eok u0 (by simp)
  have uk1 := eok u1 (by simp)
  have uk2 := eok u2 (by simp)
  have uk3 := eok u3 (by simp)
  obtain ⟨x0, h0, a0, b0⟩ := gk 0 7 rfl
  obtain ⟨x23, h23, a23, b23⟩ := gk 23 6 rfl
  obtain ⟨x24, h24, a24, b24⟩ := gk 24 6 rfl
  obtain ⟨x25, h25, a25, b25⟩ := gk 25 9 rfl
  have a0 : (ds.map D.int)[0]? = some (.int x0) := by rw [List.getElem?_map, h0]; rfl
  have a23 : (ds.map D.int)[23]? = some (.int x23) := by rw [List.getElem?_map, h23]; rfl
  have a24 : (ds.map D.int)[24]? = some (.int x24) := by rw [List.getElem?_map, h24]; rfl
  have a25 : (ds.map D.int)[25]? = some (.int x25) := by rw [List.getElem?_map, h25]; rfl
  have cs : cutD (ds.map D.int) (some 13) (some 23) = ((ds.drop 13).take 10).map D.int := by
    have := cutD_nat (ds.map D.int) 13 23 (by rw [List.length_map]; omega) (by rw [List.length_map]; omega)
    rw [show ((13 : Nat) : Int) = 13 from rfl, show ((23 : Nat) : Int) = 23 from rfl] at this
    rw [this, List.map_take, List.map_drop]
  have bs : Below ((ds.drop 13).take 10) limS := by
    refine ⟨by rw [List.length_take, List.length_drop, hl]; rfl, fun k d l hk hk2 => ?_⟩
    rw [List.getElem?_take] at hk
    split at hk
    · rw [List.getElem?_drop] at hk
      rename_i hlt
      refine hd _ _ _ hk ?_
      rw [← hk2]
      match k, hlt with
      | 0, _ | 1, _ | 2, _ | 3, _ | 4, _ | 5, _ | 6, _ | 7, _ | 8, _ | 9, _ => rfl
    · cases hk
  simp only [Z1, Z2, z_bO0, z_bO1, z_for, z_lc, onV_v, onV_e, onS_v, onS_e, onB_v, onB_e, onBR_v, onBR_e, onA_v, onA_e, onVB_v, onVB_e, onVA_v, onVA_e, onAA_v, onAA_e, onAO_v, onAO_e, onBB_v, onBB_e, onO_n, onO_r, onO_b, onO_c, onO_e, onT_n, onT_c, onT_b, onT_r, onT_e, onR_n, onR_r, onR_e, okK_s, okK_n, wO_some, wR_some, wB_some, wA_some, z_lf, z_shr, w_c, w_var, z_op, z_un, z_tB1, z_truR, z_chain, z_andT, z_orT, z_notT, z_andV, z_orV, z_notV, z_if, w_nil, z_cons, z_lst, z_tup, w_dct0, z_call, z_bn, z_sm, z_sl, z_star, z_sh, z_set, z_asg, z_drop, z_ret, w_retV, w_retN, w_nx, z_seq, w_frz, z_ifS, z_app, z_put, z_items, z_it, g_add, g_sub, g_neg, g_mul, g_rep, g_fdiv, g_mod, g_pow, g_addS, g_addL, g_cmp0, g_eqI, g_eqS, g_eqB, g_lenL, g_lenT, g_lenR, g_lenS, g_int, g_intB, g_str, g_listL, g_listT, g_listM, g_tup, g_abs, g_max2, g_min2, gz_ixL, gz_ixT, gz_ixR, g_slL, gi_bool_non, gi_bool_bl, gi_bool_int, gi_bool_str, gi_bool_lst, gi_bool_tup, gi_bool_scr, gi_bool_dct, gi_int_non, gi_int_bl, gi_int_int, gi_int_str, gi_int_lst, gi_int_tup, gi_int_scr, gi_int_dct, gi_str_non, gi_str_bl, gi_str_int, gi_str_str, gi_str_lst, gi_str_tup, gi_str_scr, gi_str_dct, gi_list_non, gi_list_bl, gi_list_int, gi_list_str, gi_list_lst, gi_list_tup, gi_list_scr, gi_list_dct, gi_tuple_non, gi_tuple_bl, gi_tuple_int, gi_tuple_str, gi_tuple_lst, gi_tuple_tup, gi_tuple_scr, gi_tuple_dct, gi_dict_non, gi_dict_bl, gi_dict_int, gi_dict_str, gi_dict_lst, gi_dict_tup, gi_dict_scr, gi_dict_dct, tr_b, true_and, and_true, eq_self, exO_some, hTL_l, hTL_t, hName_e, hCons_c, hNil_n, bind_so, it_l, it_t, it_r, List.getElem?_cons_zero, List.getElem?_cons_succ, List.set_cons_zero, List.set_cons_succ, true_and, and_true, Nat.zero_le, snb, nnb, ex_some, dT, if_true, Bool.false_eq_true, if_false, wipeE, Int.reduceLT, List.length_nil, List.length_cons, Nat.reduceAdd, Nat.reduceLeDiff, Nat.reduceLT, g_inS, g_ixS, g_slS, g_join, frz_def, g_sort, g_rev, List.length_map, List.length_range, cs]
  refine (sums_spec V _ bs pool qn an hpool (by omega) V1 vpool vq va).mono ?_
  rintro r ⟨w0, w1, rfl, wk0, wk1⟩
  have pick2 : ∀ {α : Type} {a b : α} (x : Int), ∃ c, atI [a, b] (x % 2) = some c ∧ (c = a ∨ c = b) := fun {α a b} x => by
    rcases (show x % 2 = 0 ∨ x % 2 = 1 by omega) with e | e
    · rw [e]; exact ⟨a, rfl, .inl rfl⟩
    · rw [e]; exact ⟨b, rfl, .inr rfl⟩
  by_cases hz : an = []
  · subst hz
    obtain ⟨c, ec, hc⟩ := pick2 (a := (D.tup [.str "place", ptD t0, ptD t1])) (b := D.tup [.str "value", w0.D, w1.D]) x0
    simp only [Z1, Z2, z_bO0, z_bO1, z_for, z_lc, onV_v, onV_e, onS_v, onS_e, onB_v, onB_e, onBR_v, onBR_e, onA_v, onA_e, onVB_v, onVB_e, onVA_v, onVA_e, onAA_v, onAA_e, onAO_v, onAO_e, onBB_v, onBB_e, onO_n, onO_r, onO_b, onO_c, onO_e, onT_n, onT_c, onT_b, onT_r, onT_e, onR_n, onR_r, onR_e, okK_s, okK_n, wO_some, wR_some, wB_some, wA_some, z_lf, z_shr, w_c, w_var, z_op, z_un, z_tB1, z_truR, z_chain, z_andT, z_orT, z_notT, z_andV, z_orV, z_notV, z_if, w_nil, z_cons, z_lst, z_tup, w_dct0, z_call, z_bn, z_sm, z_sl, z_star, z_sh, z_set, z_asg, z_drop, z_ret, w_retV, w_retN, w_nx, z_seq, w_frz, z_ifS, z_app, z_put, z_items, z_it, g_add, g_sub, g_neg, g_mul, g_rep, g_fdiv, g_mod, g_pow, g_addS, g_addL, g_cmp0, g_eqI, g_eqS, g_eqB, g_lenL, g_lenT, g_lenR, g_lenS, g_int, g_intB, g_str, g_listL, g_listT, g_listM, g_tup, g_abs, g_max2, g_min2, gz_ixL, gz_ixT, gz_ixR, g_slL, gi_bool_non, gi_bool_bl, gi_bool_int, gi_bool_str, gi_bool_lst, gi_bool_tup, gi_bool_scr, gi_bool_dct, gi_int_non, gi_int_bl, gi_int_int, gi_int_str, gi_int_lst, gi_int_tup, gi_int_scr, gi_int_dct, gi_str_non, gi_str_bl, gi_str_int, gi_str_str, gi_str_lst, gi_str_tup, gi_str_scr, gi_str_dct, gi_list_non, gi_list_bl, gi_list_int, gi_list_str, gi_list_lst, gi_list_tup, gi_list_scr, gi_list_dct, gi_tuple_non, gi_tuple_bl, gi_tuple_int, gi_tuple_str, gi_tuple_lst, gi_tuple_tup, gi_tuple_scr, gi_tuple_dct, gi_dict_non, gi_dict_bl, gi_dict_int, gi_dict_str, gi_dict_lst, gi_dict_tup, gi_dict_scr, gi_dict_dct, tr_b, true_and, and_true, eq_self, exO_some, hTL_l, hTL_t, hName_e, hCons_c, hNil_n, bind_so, it_l, it_t, it_r, List.getElem?_cons_zero, List.getElem?_cons_succ, List.set_cons_zero, List.set_cons_succ, true_and, and_true, Nat.zero_le, snb, nnb, ex_some, dT, if_true, Bool.false_eq_true, if_false, wipeE, Int.reduceLT, List.length_nil, List.length_cons, Nat.reduceAdd, Nat.reduceLeDiff, Nat.reduceLT, g_inS, g_ixS, g_slS, g_join, frz_def, g_sort, g_rev, List.length_map, List.length_range, atI_0, atI_1, atI_2, atI_3, atI_4, atI_5, atI_6, atI_7, atI_8, atI_9, atI_10, atI_11, atI_12, atI_13, atI_14, atI_15, atI_16, atI_17, atI_18, atI_19, atI_20, atI_21, atI_22, atI_23, atI_24, atI_25, atI_26, atI_27, atI_28, atI_29, atI_30, a0, List.map_nil, ec]
    rcases hc with rfl | rfl
    · exact ⟨.place t0 t1, rfl, tk0, tk1⟩
    · exact ⟨.value w0 w1, rfl, wk0, wk1⟩
  · have hz2 : ((an.length : Int) = 0) = False := eq_false fun e => hz (List.eq_nil_of_length_eq_zero (by omega))
    have hz3 : ((0 : Int) < (an.length : Int)) = True := eq_true (by have := List.length_pos_iff.mpr hz; omega)
    obtain ⟨s1, e1, i1⟩ := pick hz x23
    obtain ⟨s2, e2, i2⟩ := pick hz x24
    simp only [Z1, Z2, z_bO0, z_bO1, z_for, z_lc, onV_v, onV_e, onS_v, onS_e, onB_v, onB_e, onBR_v, onBR_e, onA_v, onA_e, onVB_v, onVB_e, onVA_v, onVA_e, onAA_v, onAA_e, onAO_v, onAO_e, onBB_v, onBB_e, onO_n, onO_r, onO_b, onO_c, onO_e, onT_n, onT_c, onT_b, onT_r, onT_e, onR_n, onR_r, onR_e, okK_s, okK_n, wO_some, wR_some, wB_some, wA_some, z_lf, z_shr, w_c, w_var, z_op, z_un, z_tB1, z_truR, z_chain, z_andT, z_orT, z_notT, z_andV, z_orV, z_notV, z_if, w_nil, z_cons, z_lst, z_tup, w_dct0, z_call, z_bn, z_sm, z_sl, z_star, z_sh, z_set, z_asg, z_drop, z_ret, w_retV, w_retN, w_nx, z_seq, w_frz, z_ifS, z_app, z_put, z_items, z_it, g_add, g_sub, g_neg, g_mul, g_rep, g_fdiv, g_mod, g_pow, g_addS, g_addL, g_cmp0, g_eqI, g_eqS, g_eqB, g_lenL, g_lenT, g_lenR, g_lenS, g_int, g_intB, g_str, g_listL, g_listT, g_listM, g_tup, g_abs, g_max2, g_min2, gz_ixL, gz_ixT, gz_ixR, g_slL, gi_bool_non, gi_bool_bl, gi_bool_int, gi_bool_str, gi_bool_lst, gi_bool_tup, gi_bool_scr, gi_bool_dct, gi_int_non, gi_int_bl, gi_int_int, gi_int_str, gi_int_lst, gi_int_tup, gi_int_scr, gi_int_dct, gi_str_non, gi_str_bl, gi_str_int, gi_str_str, gi_str_lst, gi_str_tup, gi_str_scr, gi_str_dct, gi_list_non, gi_list_bl, gi_list_int, gi_list_str, gi_list_lst, gi_list_tup, gi_list_scr, gi_list_dct, gi_tuple_non, gi_tuple_bl, gi_tuple_int, gi_tuple_str, gi_tuple_lst, gi_tuple_tup, gi_tuple_scr, gi_tuple_dct, gi_dict_non, gi_dict_bl, gi_dict_int, gi_dict_str, gi_dict_lst, gi_dict_tup, gi_dict_scr, gi_dict_dct, tr_b, true_and, and_true, eq_self, exO_some, hTL_l, hTL_t, hName_e, hCons_c, hNil_n, bind_so, it_l, it_t, it_r, List.getElem?_cons_zero, List.getElem?_cons_succ, List.set_cons_zero, List.set_cons_succ, true_and, and_true, Nat.zero_le, snb, nnb, ex_some, dT, if_true, Bool.false_eq_true, if_false, wipeE, Int.reduceLT, List.length_nil, List.length_cons, Nat.reduceAdd, Nat.reduceLeDiff, Nat.reduceLT, g_inS, g_ixS, g_slS, g_join, frz_def, g_sort, g_rev, List.length_map, List.length_range, atI_0, atI_1, atI_2, atI_3, atI_4, atI_5, atI_6, atI_7, atI_8, atI_9, atI_10, atI_11, atI_12, atI_13, atI_14, atI_15, atI_16, atI_17, atI_18, atI_19, atI_20, atI_21, atI_22, atI_23, atI_24, atI_25, atI_26, atI_27, atI_28, atI_29, atI_30, a0, a23, a24, a25, hz2, hz3, e1, e2, List.map_cons, List.map_nil, List.cons_append, List.nil_append]
    have bB : -4 ≤ x25 - 4 ∧ x25 - 4 ≤ 4 := by omega
    rcases (show x0 = 0 ∨ x0 = 1 ∨ x0 = 2 ∨ x0 = 3 ∨ x0 = 4 ∨ x0 = 5 ∨ x0 = 6 by omega) with rfl | rfl | rfl | rfl | rfl | rfl | rfl <;> simp only [Z1, Z2, z_bO0, z_bO1, z_for, z_lc, onV_v, onV_e, onS_v, onS_e, onB_v, onB_e, onBR_v, onBR_e, onA_v, onA_e, onVB_v, onVB_e, onVA_v, onVA_e, onAA_v, onAA_e, onAO_v, onAO_e, onBB_v, onBB_e, onO_n, onO_r, onO_b, onO_c, onO_e, onT_n, onT_c, onT_b, onT_r, onT_e, onR_n, onR_r, onR_e, okK_s, okK_n, wO_some, wR_some, wB_some, wA_some, z_lf, z_shr, w_c, w_var, z_op, z_un, z_tB1, z_truR, z_chain, z_andT, z_orT, z_notT, z_andV, z_orV, z_notV, z_if, w_nil, z_cons, z_lst, z_tup, w_dct0, z_call, z_bn, z_sm, z_sl, z_star, z_sh, z_set, z_asg, z_drop, z_ret, w_retV, w_retN, w_nx, z_seq, w_frz, z_ifS, z_app, z_put, z_items, z_it, g_add, g_sub, g_neg, g_mul, g_rep, g_fdiv, g_mod, g_pow, g_addS, g_addL, g_cmp0, g_eqI, g_eqS, g_eqB, g_lenL, g_lenT, g_lenR, g_lenS, g_int, g_intB, g_str, g_listL, g_listT, g_listM, g_tup, g_abs, g_max2, g_min2, gz_ixL, gz_ixT, gz_ixR, g_slL, gi_bool_non, gi_bool_bl, gi_bool_int, gi_bool_str, gi_bool_lst, gi_bool_tup, gi_bool_scr, gi_bool_dct, gi_int_non, gi_int_bl, gi_int_int, gi_int_str, gi_int_lst, gi_int_tup, gi_int_scr, gi_int_dct, gi_str_non, gi_str_bl, gi_str_int, gi_str_str, gi_str_lst, gi_str_tup, gi_str_scr, gi_str_dct, gi_list_non, gi_list_bl, gi_list_int, gi_list_str, gi_list_lst, gi_list_tup, gi_list_scr, gi_list_dct, gi_tuple_non, gi_tuple_bl, gi_tuple_int, gi_tuple_str, gi_tuple_lst, gi_tuple_tup, gi_tuple_scr, gi_tuple_dct, gi_dict_non, gi_dict_bl, gi_dict_int, gi_dict_str, gi_dict_lst, gi_dict_tup, gi_dict_scr, gi_dict_dct, tr_b, true_and, and_true, eq_self, exO_some, hTL_l, hTL_t, hName_e, hCons_c, hNil_n, bind_so, it_l, it_t, it_r, List.getElem?_cons_zero, List.getElem?_cons_succ, List.set_cons_zero, List.set_cons_succ, true_and, and_true, Nat.zero_le, snb, nnb, ex_some, dT, if_true, Bool.false_eq_true, if_false, wipeE, Int.reduceLT, List.length_nil, List.length_cons, Nat.reduceAdd, Nat.reduceLeDiff, Nat.reduceLT, g_inS, g_ixS, g_slS, g_join, frz_def, g_sort, g_rev, List.length_map, List.length_range, atI_0, atI_1, atI_2, atI_3, atI_4, atI_5, atI_6, atI_7, atI_8, atI_9, atI_10, atI_11, atI_12, atI_13, atI_14, atI_15, atI_16, atI_17, atI_18, atI_19, atI_20, atI_21, atI_22, atI_23, atI_24, atI_25, atI_26, atI_27, atI_28, atI_29, atI_30]
    · exact ⟨.place t0 t1, rfl, tk0, tk1⟩
    · exact ⟨.value w0 w1, rfl, wk0, wk1⟩
    · exact ⟨.rising s1 u0 u1, rfl, va _ i1, uk0, uk1⟩
    · exact ⟨.low s1 u0 u1 w0, rfl, va _ i1, uk0, uk1, wk0⟩
    · exact ⟨.high s1 u0 u1 w0, rfl, va _ i1, uk0, uk1, wk0⟩
    · exact ⟨.below s1 u0 u1 s2 u2 u3 (x25 - 4), rfl, va _ i1, uk0, uk1, va _ i2, uk2, uk3, bB⟩
    · exact ⟨.same s1 s2 u0 u1 (x25 - 4), rfl, va _ i1, va _ i2, uk0, uk1, bB⟩
end C
namespace C
open PySem L2 PD
theorem flat_get {α : Type} {l : List α} : ∀ (m k j : Nat), k < m → j < l.length → (List.replicate m l).flatten[l.length * k + j]? = l[j]?
  | 0, k, j, h, _ => by omega
  | m + 1, 0, j, h, hj => by
    rw [List.replicate_succ, List.flatten_cons, List.getElem?_append_left (by omega)]
    congr 1
    omega
  | m + 1, k + 1, j, h, hj => by
    rw [List.replicate_succ, List.flatten_cons, List.getElem?_append_right (by rw [Nat.mul_succ]; omega)]
    rw [← flat_get m k j (by omega) hj]
    congr 1
    rw [Nat.mul_succ]
    omega
theorem flat_len {α : Type} {l : List α} {m : Nat} : (List.replicate m l).flatten.length = m * l.length := by simp
def limG : List Int := [31, 2, 10 ^ Int.toNat 8, 10 ^ Int.toNat 8, 10 ^ Int.toNat 8, 10 ^ Int.toNat 8]
theorem flat_map (m : Nat) : (List.replicate m [D.int 31, D.int 2, D.int (10 ^ Int.toNat 8), D.int (10 ^ Int.toNat 8), D.int (10 ^ Int.toNat 8), D.int (10 ^ Int.toNat 8)]).flatten = (List.replicate m limG).flatten.map D.int := by
  rw [List.map_flatten, List.map_replicate]
  rfl
def Big (x : Int) : Prop := -(10 ^ 30) < x ∧ x < 10 ^ 30
theorem long_spec (ns : List Int) (i m : Nat) (hm : m ≤ 100) : wR (F_Llong [.scr ns, .int i, .int m]) fun r => ∃ xs : List Int, r = .val .nw (.lst (xs.map .int)) ∧ xs.length = m ∧ ∀ x ∈ xs, Big x := by
  have p8 : (0 ≤ (8 : Int) ∧ (8 : Int) ≤ 1000000 ∧ Int.natAbs 10 < 2 ^ 64) = True := eq_true (by decide)
  rw [F_Llong, w_run, b_Llong]
  simp only [start_def, List.map_cons, List.map_nil, List.length_cons, List.length_nil, Nat.reduceAdd, Nat.reduceSub, List.replicate_succ, List.replicate_zero, List.cons_append, List.nil_append, Z1, Z2, z_bO0, z_bO1, z_for, z_lc, onV_v, onV_e, onS_v, onS_e, onB_v, onB_e, onBR_v, onBR_e, onA_v, onA_e, onVB_v, onVB_e, onVA_v, onVA_e, onAA_v, onAA_e, onAO_v, onAO_e, onBB_v, onBB_e, onO_n, onO_r, onO_b, onO_c, onO_e, onT_n, onT_c, onT_b, onT_r, onT_e, onR_n, onR_r, onR_e, okK_s, okK_n, wO_some, wR_some, wB_some, wA_some, z_lf, z_shr, w_c, w_var, z_op, z_un, z_tB1, z_truR, z_chain, z_andT, z_orT, z_notT, z_andV, z_orV, z_notV, z_if, w_nil, z_cons, z_lst, z_tup, w_dct0, z_call, z_bn, z_sm, z_sl, z_star, z_sh, z_set, z_asg, z_drop, z_ret, w_retV, w_retN, w_nx, z_seq, w_frz, z_ifS, z_app, z_put, z_items, z_it, g_add, g_sub, g_neg, g_mul, g_rep, g_fdiv, g_mod, g_pow, g_addS, g_addL, g_cmp0, g_eqI, g_eqS, g_eqB, g_lenL, g_lenT, g_lenR, g_lenS, g_int, g_intB, g_str, g_listL, g_listT, g_listM, g_tup, g_abs, g_max2, g_min2, gz_ixL, gz_ixT, gz_ixR, g_slL, gi_bool_non, gi_bool_bl, gi_bool_int, gi_bool_str, gi_bool_lst, gi_bool_tup, gi_bool_scr, gi_bool_dct, gi_int_non, gi_int_bl, gi_int_int, gi_int_str, gi_int_lst, gi_int_tup, gi_int_scr, gi_int_dct, gi_str_non, gi_str_bl, gi_str_int, gi_str_str, gi_str_lst, gi_str_tup, gi_str_scr, gi_str_dct, gi_list_non, gi_list_bl, gi_list_int, gi_list_str, gi_list_lst, gi_list_tup, gi_list_scr, gi_list_dct, gi_tuple_non, gi_tuple_bl, gi_tuple_int, gi_tuple_str, gi_tuple_lst, gi_tuple_tup, gi_tuple_scr, gi_tuple_dct, gi_dict_non, gi_dict_bl, gi_dict_int, gi_dict_str, gi_dict_lst, gi_dict_tup, gi_dict_scr, gi_dict_dct, tr_b, true_and, and_true, eq_self, exO_some, hTL_l, hTL_t, hName_e, hCons_c, hNil_n, bind_so, it_l, it_t, it_r, List.getElem?_cons_zero, List.getElem?_cons_succ, List.set_cons_zero, List.set_cons_succ, true_and, and_true, Nat.zero_le, snb, nnb, ex_some, dT, if_true, Bool.false_eq_true, if_false, wipeE, Int.reduceLT, List.length_nil, List.length_cons, Nat.reduceAdd, Nat.reduceLeDiff, Nat.reduceLT, g_inS, g_ixS, g_slS, g_join, frz_def, g_sort, g_rev, List.length_map, List.length_range, p8, flat_map, Int.toNat_natCast]
  repeat (refine ⟨by first | decide | omega, ?_⟩)
  refine (draws_spec ns i (List.replicate m limG).flatten (by rw [flat_len]; show m * 6 < 10000; omega) (fun l hl => ?_)).mono ?_
  · obtain ⟨s, hs, hl⟩ := List.mem_flatten.mp hl
    rw [(List.mem_replicate.mp hs).2] at hl
    have : ∀ l ∈ limG, 0 < l ∧ l ≤ 10 ^ 100 := by decide +kernel
    exact this l hl
  rintro r ⟨ds, rfl, hl, hd⟩
  have hl : ds.length = m * 6 := hl.trans flat_len
  have gk : ∀ (k j : Nat) (l : Int), k < m → j < 6 → limG[j]? = some l → ∃ x, ds[6 * k + j]? = some x ∧ atI (ds.map D.int) ((6 * k + j : Nat) : Int) = some (.int x) ∧ 0 ≤ x ∧ x < l := fun k j l hk hj h => by
    have e1 : ds[6 * k + j]? = some ds[6 * k + j] := List.getElem?_eq_getElem (by omega)
    exact ⟨_, e1, by rw [atI_map', atI_nat, e1]; rfl, hd _ _ _ e1 ((flat_get (l := limG) m k j hk hj).trans h)⟩
  simp only [Z1, Z2, z_bO0, z_bO1, z_for, z_lc, onV_v, onV_e, onS_v, onS_e, onB_v, onB_e, onBR_v, onBR_e, onA_v, onA_e, onVB_v, onVB_e, onVA_v, onVA_e, onAA_v, onAA_e, onAO_v, onAO_e, onBB_v, onBB_e, onO_n, onO_r, onO_b, onO_c, onO_e, onT_n, onT_c, onT_b, onT_r, onT_e, onR_n, onR_r, onR_e, okK_s, okK_n, wO_some, wR_some, wB_some, wA_some, z_lf, z_shr, w_c, w_var, z_op, z_un, z_tB1, z_truR, z_chain, z_andT, z_orT, z_notT, z_andV, z_orV, z_notV, z_if, w_nil, z_cons, z_lst, z_tup, w_dct0, z_call, z_bn, z_sm, z_sl, z_star, z_sh, z_set, z_asg, z_drop, z_ret, w_retV, w_retN, w_nx, z_seq, w_frz, z_ifS, z_app, z_put, z_items, z_it, g_add, g_sub, g_neg, g_mul, g_rep, g_fdiv, g_mod, g_pow, g_addS, g_addL, g_cmp0, g_eqI, g_eqS, g_eqB, g_lenL, g_lenT, g_lenR, g_lenS, g_int, g_intB, g_str, g_listL, g_listT, g_listM, g_tup, g_abs, g_max2, g_min2, gz_ixL, gz_ixT, gz_ixR, g_slL, gi_bool_non, gi_bool_bl, gi_bool_int, gi_bool_str, gi_bool_lst, gi_bool_tup, gi_bool_scr, gi_bool_dct, gi_int_non, gi_int_bl, gi_int_int, gi_int_str, gi_int_lst, gi_int_tup, gi_int_scr, gi_int_dct, gi_str_non, gi_str_bl, gi_str_int, gi_str_str, gi_str_lst, gi_str_tup, gi_str_scr, gi_str_dct, gi_list_non, gi_list_bl, gi_list_int, gi_list_str, gi_list_lst, gi_list_tup, gi_list_scr, gi_list_dct, gi_tuple_non, gi_tuple_bl, gi_tuple_int, gi_tuple_str, gi_tuple_lst, gi_tuple_tup, gi_tuple_scr, gi_tuple_dct, gi_dict_non, gi_dict_bl, gi_dict_int, gi_dict_str, gi_dict_lst, gi_dict_tup, gi_dict_scr, gi_dict_dct, tr_b, true_and, and_true, eq_self, exO_some, hTL_l, hTL_t, hName_e, hCons_c, hNil_n, bind_so, it_l, it_t, it_r, List.getElem?_cons_zero, List.getElem?_cons_succ, List.set_cons_zero, List.set_cons_succ, true_and, and_true, Nat.zero_le, snb, nnb, ex_some, dT, if_true, Bool.false_eq_true, if_false, wipeE, Int.reduceLT, List.length_nil, List.length_cons, Nat.reduceAdd, Nat.reduceLeDiff, Nat.reduceLT, g_inS, g_ixS, g_slS, g_join, frz_def, g_sort, g_rev, List.length_map, List.length_range, rng1_nat (n := m) (by omega)]
  refine forD_inv _ (fun k en => ∃ (xs : List Int) (o5 o6 o7 o8 o9 : Option Sl), en = [some (.sh (.scr ns)), some (.sh (.int i)), some (.sh (.int m)), some (.sh (.lst (ds.map .int))), some (.ow (.lst (xs.map .int))), o5, o6, o7, o8, o9] ∧ xs.length = k ∧ ∀ x ∈ xs, Big x) _ ⟨[], _, _, _, _, _, rfl, rfl, fun x h => by cases h⟩ ?_ ?_
  · rintro k d en hd1 ⟨xs, o5, o6, o7, o8, o9, rfl, hk, hb⟩
    obtain ⟨hk2, rfl⟩ := getMapRange hd1
    refine ⟨_, rfl, ?_⟩
    obtain ⟨x0, e0, a0, b0⟩ := gk k 0 31 hk2 (by omega) rfl
    obtain ⟨x1, e1, a1, b1⟩ := gk k 1 2 hk2 (by omega) rfl
    have a0 : atI (ds.map D.int) (6 * (k : Int)) = some (.int x0) := by rw [← a0]; congr 1
    have a1 : atI (ds.map D.int) (6 * (k : Int) + 1) = some (.int x1) := by rw [← a1]; congr 1
    have m6 : (mulOk 6 (k : Int) = true) = True := eq_true (mulOk_l (by decide) (by decide))
    obtain ⟨n0, rfl⟩ : ∃ n : Nat, x0 = n := ⟨x0.toNat, by omega⟩
    have cc : cutD (ds.map D.int) (some (6 * (k : Int) + 2)) (some (6 * (k : Int) + 6)) = ((ds.drop (6 * k + 2)).take 4).map D.int := by
      have := cutD_nat (ds.map D.int) (6 * k + 2) (6 * k + 6) (by rw [List.length_map]; omega) (by rw [List.length_map]; omega)
      rw [show (((6 * k + 2 : Nat) : Int)) = 6 * (k : Int) + 2 by omega, show (((6 * k + 6 : Nat) : Int)) = 6 * (k : Int) + 6 by omega] at this
      rw [this, show 6 * k + 6 - (6 * k + 2) = 4 by omega, List.map_take, List.map_drop]
    generalize (ds.drop (6 * k + 2)).take 4 = zs at *
    refine w_cut (fun en => en = [some (.sh (.scr ns)), some (.sh (.int i)), some (.sh (.int m)), some (.sh (.lst (ds.map .int))), some (.ow (.lst (xs.map .int))), some (.sh (.int k)), some (.sh (.int 1)), o7, o8, o9]) ?_ ?_
    · simp only [Z1, Z2, z_bO0, z_bO1, z_for, z_lc, onV_v, onV_e, onS_v, onS_e, onB_v, onB_e, onBR_v, onBR_e, onA_v, onA_e, onVB_v, onVB_e, onVA_v, onVA_e, onAA_v, onAA_e, onAO_v, onAO_e, onBB_v, onBB_e, onO_n, onO_r, onO_b, onO_c, onO_e, onT_n, onT_c, onT_b, onT_r, onT_e, onR_n, onR_r, onR_e, okK_s, okK_n, wO_some, wR_some, wB_some, wA_some, z_lf, z_shr, w_c, w_var, z_op, z_un, z_tB1, z_truR, z_chain, z_andT, z_orT, z_notT, z_andV, z_orV, z_notV, z_if, w_nil, z_cons, z_lst, z_tup, w_dct0, z_call, z_bn, z_sm, z_sl, z_star, z_sh, z_set, z_asg, z_drop, z_ret, w_retV, w_retN, w_nx, z_seq, w_frz, z_ifS, z_app, z_put, z_items, z_it, g_add, g_sub, g_neg, g_mul, g_rep, g_fdiv, g_mod, g_pow, g_addS, g_addL, g_cmp0, g_eqI, g_eqS, g_eqB, g_lenL, g_lenT, g_lenR, g_lenS, g_int, g_intB, g_str, g_listL, g_listT, g_listM, g_tup, g_abs, g_max2, g_min2, gz_ixL, gz_ixT, gz_ixR, g_slL, gi_bool_non, gi_bool_bl, gi_bool_int, gi_bool_str, gi_bool_lst, gi_bool_tup, gi_bool_scr, gi_bool_dct, gi_int_non, gi_int_bl, gi_int_int, gi_int_str, gi_int_lst, gi_int_tup, gi_int_scr, gi_int_dct, gi_str_non, gi_str_bl, gi_str_int, gi_str_str, gi_str_lst, gi_str_tup, gi_str_scr, gi_str_dct, gi_list_non, gi_list_bl, gi_list_int, gi_list_str, gi_list_lst, gi_list_tup, gi_list_scr, gi_list_dct, gi_tuple_non, gi_tuple_bl, gi_tuple_int, gi_tuple_str, gi_tuple_lst, gi_tuple_tup, gi_tuple_scr, gi_tuple_dct, gi_dict_non, gi_dict_bl, gi_dict_int, gi_dict_str, gi_dict_lst, gi_dict_tup, gi_dict_scr, gi_dict_dct, tr_b, true_and, and_true, eq_self, exO_some, hTL_l, hTL_t, hName_e, hCons_c, hNil_n, bind_so, it_l, it_t, it_r, List.getElem?_cons_zero, List.getElem?_cons_succ, List.set_cons_zero, List.set_cons_succ, true_and, and_true, Nat.zero_le, snb, nnb, ex_some, dT, if_true, Bool.false_eq_true, if_false, wipeE, Int.reduceLT, List.length_nil, List.length_cons, Nat.reduceAdd, Nat.reduceLeDiff, Nat.reduceLT, g_inS, g_ixS, g_slS, g_join, frz_def, g_sort, g_rev, List.length_map, List.length_range]
    rintro en1 rfl
    refine w_cut (fun en => ∃ (t : Int) (o7 : Option Sl), en = [some (.sh (.scr ns)), some (.sh (.int i)), some (.sh (.int m)), some (.sh (.lst (ds.map .int))), some (.ow (.lst (xs.map .int))), some (.sh (.int k)), some (.sh (.int t)), o7, o8, o9] ∧ 0 < t ∧ t ≤ 10 ^ 30) ?_ ?_
    · simp only [Z1, Z2, z_bO0, z_bO1, z_for, z_lc, onV_v, onV_e, onS_v, onS_e, onB_v, onB_e, onBR_v, onBR_e, onA_v, onA_e, onVB_v, onVB_e, onVA_v, onVA_e, onAA_v, onAA_e, onAO_v, onAO_e, onBB_v, onBB_e, onO_n, onO_r, onO_b, onO_c, onO_e, onT_n, onT_c, onT_b, onT_r, onT_e, onR_n, onR_r, onR_e, okK_s, okK_n, wO_some, wR_some, wB_some, wA_some, z_lf, z_shr, w_c, w_var, z_op, z_un, z_tB1, z_truR, z_chain, z_andT, z_orT, z_notT, z_andV, z_orV, z_notV, z_if, w_nil, z_cons, z_lst, z_tup, w_dct0, z_call, z_bn, z_sm, z_sl, z_star, z_sh, z_set, z_asg, z_drop, z_ret, w_retV, w_retN, w_nx, z_seq, w_frz, z_ifS, z_app, z_put, z_items, z_it, g_add, g_sub, g_neg, g_mul, g_rep, g_fdiv, g_mod, g_pow, g_addS, g_addL, g_cmp0, g_eqI, g_eqS, g_eqB, g_lenL, g_lenT, g_lenR, g_lenS, g_int, g_intB, g_str, g_listL, g_listT, g_listM, g_tup, g_abs, g_max2, g_min2, gz_ixL, gz_ixT, gz_ixR, g_slL, gi_bool_non, gi_bool_bl, gi_bool_int, gi_bool_str, gi_bool_lst, gi_bool_tup, gi_bool_scr, gi_bool_dct, gi_int_non, gi_int_bl, gi_int_int, gi_int_str, gi_int_lst, gi_int_tup, gi_int_scr, gi_int_dct, gi_str_non, gi_str_bl, gi_str_int, gi_str_str, gi_str_lst, gi_str_tup, gi_str_scr, gi_str_dct, gi_list_non, gi_list_bl, gi_list_int, gi_list_str, gi_list_lst, gi_list_tup, gi_list_scr, gi_list_dct, gi_tuple_non, gi_tuple_bl, gi_tuple_int, gi_tuple_str, gi_tuple_lst, gi_tuple_tup, gi_tuple_scr, gi_tuple_dct, gi_dict_non, gi_dict_bl, gi_dict_int, gi_dict_str, gi_dict_lst, gi_dict_tup, gi_dict_scr, gi_dict_dct, tr_b, true_and, and_true, eq_self, exO_some, hTL_l, hTL_t, hName_e, hCons_c, hNil_n, bind_so, it_l, it_t, it_r, List.getElem?_cons_zero, List.getElem?_cons_succ, List.set_cons_zero, List.set_cons_succ, true_and, and_true, Nat.zero_le, snb, nnb, ex_some, dT, if_true, Bool.false_eq_true, if_false, wipeE, Int.reduceLT, List.length_nil, List.length_cons, Nat.reduceAdd, Nat.reduceLeDiff, Nat.reduceLT, g_inS, g_ixS, g_slS, g_join, frz_def, g_sort, g_rev, List.length_map, List.length_range, m6, a0, rng1_nat (n := n0) (by omega)]
      refine forD_inv _ (fun j en => ∃ (o7 : Option Sl), en = [some (.sh (.scr ns)), some (.sh (.int i)), some (.sh (.int m)), some (.sh (.lst (ds.map .int))), some (.ow (.lst (xs.map .int))), some (.sh (.int k)), some (.sh (.int (10 ^ j))), o7, o8, o9]) _ ⟨_, rfl⟩ ?_ ?_
      · rintro j d en hd2 ⟨o7, rfl⟩
        refine ⟨_, rfl, ?_⟩
        simp only [Z1, Z2, z_bO0, z_bO1, z_for, z_lc, onV_v, onV_e, onS_v, onS_e, onB_v, onB_e, onBR_v, onBR_e, onA_v, onA_e, onVB_v, onVB_e, onVA_v, onVA_e, onAA_v, onAA_e, onAO_v, onAO_e, onBB_v, onBB_e, onO_n, onO_r, onO_b, onO_c, onO_e, onT_n, onT_c, onT_b, onT_r, onT_e, onR_n, onR_r, onR_e, okK_s, okK_n, wO_some, wR_some, wB_some, wA_some, z_lf, z_shr, w_c, w_var, z_op, z_un, z_tB1, z_truR, z_chain, z_andT, z_orT, z_notT, z_andV, z_orV, z_notV, z_if, w_nil, z_cons, z_lst, z_tup, w_dct0, z_call, z_bn, z_sm, z_sl, z_star, z_sh, z_set, z_asg, z_drop, z_ret, w_retV, w_retN, w_nx, z_seq, w_frz, z_ifS, z_app, z_put, z_items, z_it, g_add, g_sub, g_neg, g_mul, g_rep, g_fdiv, g_mod, g_pow, g_addS, g_addL, g_cmp0, g_eqI, g_eqS, g_eqB, g_lenL, g_lenT, g_lenR, g_lenS, g_int, g_intB, g_str, g_listL, g_listT, g_listM, g_tup, g_abs, g_max2, g_min2, gz_ixL, gz_ixT, gz_ixR, g_slL, gi_bool_non, gi_bool_bl, gi_bool_int, gi_bool_str, gi_bool_lst, gi_bool_tup, gi_bool_scr, gi_bool_dct, gi_int_non, gi_int_bl, gi_int_int, gi_int_str, gi_int_lst, gi_int_tup, gi_int_scr, gi_int_dct, gi_str_non, gi_str_bl, gi_str_int, gi_str_str, gi_str_lst, gi_str_tup, gi_str_scr, gi_str_dct, gi_list_non, gi_list_bl, gi_list_int, gi_list_str, gi_list_lst, gi_list_tup, gi_list_scr, gi_list_dct, gi_tuple_non, gi_tuple_bl, gi_tuple_int, gi_tuple_str, gi_tuple_lst, gi_tuple_tup, gi_tuple_scr, gi_tuple_dct, gi_dict_non, gi_dict_bl, gi_dict_int, gi_dict_str, gi_dict_lst, gi_dict_tup, gi_dict_scr, gi_dict_dct, tr_b, true_and, and_true, eq_self, exO_some, hTL_l, hTL_t, hName_e, hCons_c, hNil_n, bind_so, it_l, it_t, it_r, List.getElem?_cons_zero, List.getElem?_cons_succ, List.set_cons_zero, List.set_cons_succ, true_and, and_true, Nat.zero_le, snb, nnb, ex_some, dT, if_true, Bool.false_eq_true, if_false, wipeE, Int.reduceLT, List.length_nil, List.length_cons, Nat.reduceAdd, Nat.reduceLeDiff, Nat.reduceLT, g_inS, g_ixS, g_slS, g_join, frz_def, g_sort, g_rev, List.length_map, List.length_range]
        exact ⟨mulOk_r (by decide) (by decide), some (.sh d), by rw [Int.pow_succ]⟩
      · rintro en ⟨o7, rfl⟩
        simp only [Z1, Z2, z_bO0, z_bO1, z_for, z_lc, onV_v, onV_e, onS_v, onS_e, onB_v, onB_e, onBR_v, onBR_e, onA_v, onA_e, onVB_v, onVB_e, onVA_v, onVA_e, onAA_v, onAA_e, onAO_v, onAO_e, onBB_v, onBB_e, onO_n, onO_r, onO_b, onO_c, onO_e, onT_n, onT_c, onT_b, onT_r, onT_e, onR_n, onR_r, onR_e, okK_s, okK_n, wO_some, wR_some, wB_some, wA_some, z_lf, z_shr, w_c, w_var, z_op, z_un, z_tB1, z_truR, z_chain, z_andT, z_orT, z_notT, z_andV, z_orV, z_notV, z_if, w_nil, z_cons, z_lst, z_tup, w_dct0, z_call, z_bn, z_sm, z_sl, z_star, z_sh, z_set, z_asg, z_drop, z_ret, w_retV, w_retN, w_nx, z_seq, w_frz, z_ifS, z_app, z_put, z_items, z_it, g_add, g_sub, g_neg, g_mul, g_rep, g_fdiv, g_mod, g_pow, g_addS, g_addL, g_cmp0, g_eqI, g_eqS, g_eqB, g_lenL, g_lenT, g_lenR, g_lenS, g_int, g_intB, g_str, g_listL, g_listT, g_listM, g_tup, g_abs, g_max2, g_min2, gz_ixL, gz_ixT, gz_ixR, g_slL, gi_bool_non, gi_bool_bl, gi_bool_int, gi_bool_str, gi_bool_lst, gi_bool_tup, gi_bool_scr, gi_bool_dct, gi_int_non, gi_int_bl, gi_int_int, gi_int_str, gi_int_lst, gi_int_tup, gi_int_scr, gi_int_dct, gi_str_non, gi_str_bl, gi_str_int, gi_str_str, gi_str_lst, gi_str_tup, gi_str_scr, gi_str_dct, gi_list_non, gi_list_bl, gi_list_int, gi_list_str, gi_list_lst, gi_list_tup, gi_list_scr, gi_list_dct, gi_tuple_non, gi_tuple_bl, gi_tuple_int, gi_tuple_str, gi_tuple_lst, gi_tuple_tup, gi_tuple_scr, gi_tuple_dct, gi_dict_non, gi_dict_bl, gi_dict_int, gi_dict_str, gi_dict_lst, gi_dict_tup, gi_dict_scr, gi_dict_dct, tr_b, true_and, and_true, eq_self, exO_some, hTL_l, hTL_t, hName_e, hCons_c, hNil_n, bind_so, it_l, it_t, it_r, List.getElem?_cons_zero, List.getElem?_cons_succ, List.set_cons_zero, List.set_cons_succ, true_and, and_true, Nat.zero_le, snb, nnb, ex_some, dT, if_true, Bool.false_eq_true, if_false, wipeE, Int.reduceLT, List.length_nil, List.length_cons, Nat.reduceAdd, Nat.reduceLeDiff, Nat.reduceLT, g_inS, g_ixS, g_slS, g_join, frz_def, g_sort, g_rev, List.length_map, List.length_range]
        refine ⟨_, _, rfl, Int.pow_pos (by decide), ?_⟩
        have p30 : ∀ n : Nat, n < 31 → (10 : Int) ^ n ≤ 10 ^ 30 := by decide +kernel
        exact p30 n0 (by omega)
    rintro en2 ⟨t, o7, rfl, t0, t1⟩
    refine w_cut (fun en => en = [some (.sh (.scr ns)), some (.sh (.int i)), some (.sh (.int m)), some (.sh (.lst (ds.map .int))), some (.ow (.lst (xs.map .int))), some (.sh (.int k)), some (.sh (.int t)), o7, some (.sh (.int 0)), o9]) ?_ ?_
    · simp only [Z1, Z2, z_bO0, z_bO1, z_for, z_lc, onV_v, onV_e, onS_v, onS_e, onB_v, onB_e, onBR_v, onBR_e, onA_v, onA_e, onVB_v, onVB_e, onVA_v, onVA_e, onAA_v, onAA_e, onAO_v, onAO_e, onBB_v, onBB_e, onO_n, onO_r, onO_b, onO_c, onO_e, onT_n, onT_c, onT_b, onT_r, onT_e, onR_n, onR_r, onR_e, okK_s, okK_n, wO_some, wR_some, wB_some, wA_some, z_lf, z_shr, w_c, w_var, z_op, z_un, z_tB1, z_truR, z_chain, z_andT, z_orT, z_notT, z_andV, z_orV, z_notV, z_if, w_nil, z_cons, z_lst, z_tup, w_dct0, z_call, z_bn, z_sm, z_sl, z_star, z_sh, z_set, z_asg, z_drop, z_ret, w_retV, w_retN, w_nx, z_seq, w_frz, z_ifS, z_app, z_put, z_items, z_it, g_add, g_sub, g_neg, g_mul, g_rep, g_fdiv, g_mod, g_pow, g_addS, g_addL, g_cmp0, g_eqI, g_eqS, g_eqB, g_lenL, g_lenT, g_lenR, g_lenS, g_int, g_intB, g_str, g_listL, g_listT, g_listM, g_tup, g_abs, g_max2, g_min2, gz_ixL, gz_ixT, gz_ixR, g_slL, gi_bool_non, gi_bool_bl, gi_bool_int, gi_bool_str, gi_bool_lst, gi_bool_tup, gi_bool_scr, gi_bool_dct, gi_int_non, gi_int_bl, gi_int_int, gi_int_str, gi_int_lst, gi_int_tup, gi_int_scr, gi_int_dct, gi_str_non, gi_str_bl, gi_str_int, gi_str_str, gi_str_lst, gi_str_tup, gi_str_scr, gi_str_dct, gi_list_non, gi_list_bl, gi_list_int, gi_list_str, gi_list_lst, gi_list_tup, gi_list_scr, gi_list_dct, gi_tuple_non, gi_tuple_bl, gi_tuple_int, gi_tuple_str, gi_tuple_lst, gi_tuple_tup, gi_tuple_scr, gi_tuple_dct, gi_dict_non, gi_dict_bl, gi_dict_int, gi_dict_str, gi_dict_lst, gi_dict_tup, gi_dict_scr, gi_dict_dct, tr_b, true_and, and_true, eq_self, exO_some, hTL_l, hTL_t, hName_e, hCons_c, hNil_n, bind_so, it_l, it_t, it_r, List.getElem?_cons_zero, List.getElem?_cons_succ, List.set_cons_zero, List.set_cons_succ, true_and, and_true, Nat.zero_le, snb, nnb, ex_some, dT, if_true, Bool.false_eq_true, if_false, wipeE, Int.reduceLT, List.length_nil, List.length_cons, Nat.reduceAdd, Nat.reduceLeDiff, Nat.reduceLT, g_inS, g_ixS, g_slS, g_join, frz_def, g_sort, g_rev, List.length_map, List.length_range]
    rintro en3 rfl
    refine w_cut (fun en => ∃ (n : Int) (o9 : Option Sl), en = [some (.sh (.scr ns)), some (.sh (.int i)), some (.sh (.int m)), some (.sh (.lst (ds.map .int))), some (.ow (.lst (xs.map .int))), some (.sh (.int k)), some (.sh (.int t)), o7, some (.sh (.int n)), o9]) ?_ ?_
    · simp only [Z1, Z2, z_bO0, z_bO1, z_for, z_lc, onV_v, onV_e, onS_v, onS_e, onB_v, onB_e, onBR_v, onBR_e, onA_v, onA_e, onVB_v, onVB_e, onVA_v, onVA_e, onAA_v, onAA_e, onAO_v, onAO_e, onBB_v, onBB_e, onO_n, onO_r, onO_b, onO_c, onO_e, onT_n, onT_c, onT_b, onT_r, onT_e, onR_n, onR_r, onR_e, okK_s, okK_n, wO_some, wR_some, wB_some, wA_some, z_lf, z_shr, w_c, w_var, z_op, z_un, z_tB1, z_truR, z_chain, z_andT, z_orT, z_notT, z_andV, z_orV, z_notV, z_if, w_nil, z_cons, z_lst, z_tup, w_dct0, z_call, z_bn, z_sm, z_sl, z_star, z_sh, z_set, z_asg, z_drop, z_ret, w_retV, w_retN, w_nx, z_seq, w_frz, z_ifS, z_app, z_put, z_items, z_it, g_add, g_sub, g_neg, g_mul, g_rep, g_fdiv, g_mod, g_pow, g_addS, g_addL, g_cmp0, g_eqI, g_eqS, g_eqB, g_lenL, g_lenT, g_lenR, g_lenS, g_int, g_intB, g_str, g_listL, g_listT, g_listM, g_tup, g_abs, g_max2, g_min2, gz_ixL, gz_ixT, gz_ixR, g_slL, gi_bool_non, gi_bool_bl, gi_bool_int, gi_bool_str, gi_bool_lst, gi_bool_tup, gi_bool_scr, gi_bool_dct, gi_int_non, gi_int_bl, gi_int_int, gi_int_str, gi_int_lst, gi_int_tup, gi_int_scr, gi_int_dct, gi_str_non, gi_str_bl, gi_str_int, gi_str_str, gi_str_lst, gi_str_tup, gi_str_scr, gi_str_dct, gi_list_non, gi_list_bl, gi_list_int, gi_list_str, gi_list_lst, gi_list_tup, gi_list_scr, gi_list_dct, gi_tuple_non, gi_tuple_bl, gi_tuple_int, gi_tuple_str, gi_tuple_lst, gi_tuple_tup, gi_tuple_scr, gi_tuple_dct, gi_dict_non, gi_dict_bl, gi_dict_int, gi_dict_str, gi_dict_lst, gi_dict_tup, gi_dict_scr, gi_dict_dct, tr_b, true_and, and_true, eq_self, exO_some, hTL_l, hTL_t, hName_e, hCons_c, hNil_n, bind_so, it_l, it_t, it_r, List.getElem?_cons_zero, List.getElem?_cons_succ, List.set_cons_zero, List.set_cons_succ, true_and, and_true, Nat.zero_le, snb, nnb, ex_some, dT, if_true, Bool.false_eq_true, if_false, wipeE, Int.reduceLT, List.length_nil, List.length_cons, Nat.reduceAdd, Nat.reduceLeDiff, Nat.reduceLT, g_inS, g_ixS, g_slS, g_join, frz_def, g_sort, g_rev, List.length_map, List.length_range, m6, cc]
      refine forD_inv _ (fun j en => ∃ (n : Int) (o9 : Option Sl), en = [some (.sh (.scr ns)), some (.sh (.int i)), some (.sh (.int m)), some (.sh (.lst (ds.map .int))), some (.ow (.lst (xs.map .int))), some (.sh (.int k)), some (.sh (.int t)), o7, some (.sh (.int n)), o9]) _ ⟨_, _, rfl⟩ ?_ ?_
      · rintro j d en hd2 ⟨n, o9, rfl⟩
        rw [List.getElem?_map] at hd2
        obtain ⟨z, hz, rfl⟩ := Option.map_eq_some_iff.mp hd2
        refine ⟨_, rfl, ?_⟩
        simp only [Z1, Z2, z_bO0, z_bO1, z_for, z_lc, onV_v, onV_e, onS_v, onS_e, onB_v, onB_e, onBR_v, onBR_e, onA_v, onA_e, onVB_v, onVB_e, onVA_v, onVA_e, onAA_v, onAA_e, onAO_v, onAO_e, onBB_v, onBB_e, onO_n, onO_r, onO_b, onO_c, onO_e, onT_n, onT_c, onT_b, onT_r, onT_e, onR_n, onR_r, onR_e, okK_s, okK_n, wO_some, wR_some, wB_some, wA_some, z_lf, z_shr, w_c, w_var, z_op, z_un, z_tB1, z_truR, z_chain, z_andT, z_orT, z_notT, z_andV, z_orV, z_notV, z_if, w_nil, z_cons, z_lst, z_tup, w_dct0, z_call, z_bn, z_sm, z_sl, z_star, z_sh, z_set, z_asg, z_drop, z_ret, w_retV, w_retN, w_nx, z_seq, w_frz, z_ifS, z_app, z_put, z_items, z_it, g_add, g_sub, g_neg, g_mul, g_rep, g_fdiv, g_mod, g_pow, g_addS, g_addL, g_cmp0, g_eqI, g_eqS, g_eqB, g_lenL, g_lenT, g_lenR, g_lenS, g_int, g_intB, g_str, g_listL, g_listT, g_listM, g_tup, g_abs, g_max2, g_min2, gz_ixL, gz_ixT, gz_ixR, g_slL, gi_bool_non, gi_bool_bl, gi_bool_int, gi_bool_str, gi_bool_lst, gi_bool_tup, gi_bool_scr, gi_bool_dct, gi_int_non, gi_int_bl, gi_int_int, gi_int_str, gi_int_lst, gi_int_tup, gi_int_scr, gi_int_dct, gi_str_non, gi_str_bl, gi_str_int, gi_str_str, gi_str_lst, gi_str_tup, gi_str_scr, gi_str_dct, gi_list_non, gi_list_bl, gi_list_int, gi_list_str, gi_list_lst, gi_list_tup, gi_list_scr, gi_list_dct, gi_tuple_non, gi_tuple_bl, gi_tuple_int, gi_tuple_str, gi_tuple_lst, gi_tuple_tup, gi_tuple_scr, gi_tuple_dct, gi_dict_non, gi_dict_bl, gi_dict_int, gi_dict_str, gi_dict_lst, gi_dict_tup, gi_dict_scr, gi_dict_dct, tr_b, true_and, and_true, eq_self, exO_some, hTL_l, hTL_t, hName_e, hCons_c, hNil_n, bind_so, it_l, it_t, it_r, List.getElem?_cons_zero, List.getElem?_cons_succ, List.set_cons_zero, List.set_cons_succ, true_and, and_true, Nat.zero_le, snb, nnb, ex_some, dT, if_true, Bool.false_eq_true, if_false, wipeE, Int.reduceLT, List.length_nil, List.length_cons, Nat.reduceAdd, Nat.reduceLeDiff, Nat.reduceLT, g_inS, g_ixS, g_slS, g_join, frz_def, g_sort, g_rev, List.length_map, List.length_range, p8]
        exact ⟨mulOk_r (by decide) (by decide), _, _, rfl⟩
      · rintro en ⟨n, o9, rfl⟩
        simp only [Z1, Z2, z_bO0, z_bO1, z_for, z_lc, onV_v, onV_e, onS_v, onS_e, onB_v, onB_e, onBR_v, onBR_e, onA_v, onA_e, onVB_v, onVB_e, onVA_v, onVA_e, onAA_v, onAA_e, onAO_v, onAO_e, onBB_v, onBB_e, onO_n, onO_r, onO_b, onO_c, onO_e, onT_n, onT_c, onT_b, onT_r, onT_e, onR_n, onR_r, onR_e, okK_s, okK_n, wO_some, wR_some, wB_some, wA_some, z_lf, z_shr, w_c, w_var, z_op, z_un, z_tB1, z_truR, z_chain, z_andT, z_orT, z_notT, z_andV, z_orV, z_notV, z_if, w_nil, z_cons, z_lst, z_tup, w_dct0, z_call, z_bn, z_sm, z_sl, z_star, z_sh, z_set, z_asg, z_drop, z_ret, w_retV, w_retN, w_nx, z_seq, w_frz, z_ifS, z_app, z_put, z_items, z_it, g_add, g_sub, g_neg, g_mul, g_rep, g_fdiv, g_mod, g_pow, g_addS, g_addL, g_cmp0, g_eqI, g_eqS, g_eqB, g_lenL, g_lenT, g_lenR, g_lenS, g_int, g_intB, g_str, g_listL, g_listT, g_listM, g_tup, g_abs, g_max2, g_min2, gz_ixL, gz_ixT, gz_ixR, g_slL, gi_bool_non, gi_bool_bl, gi_bool_int, gi_bool_str, gi_bool_lst, gi_bool_tup, gi_bool_scr, gi_bool_dct, gi_int_non, gi_int_bl, gi_int_int, gi_int_str, gi_int_lst, gi_int_tup, gi_int_scr, gi_int_dct, gi_str_non, gi_str_bl, gi_str_int, gi_str_str, gi_str_lst, gi_str_tup, gi_str_scr, gi_str_dct, gi_list_non, gi_list_bl, gi_list_int, gi_list_str, gi_list_lst, gi_list_tup, gi_list_scr, gi_list_dct, gi_tuple_non, gi_tuple_bl, gi_tuple_int, gi_tuple_str, gi_tuple_lst, gi_tuple_tup, gi_tuple_scr, gi_tuple_dct, gi_dict_non, gi_dict_bl, gi_dict_int, gi_dict_str, gi_dict_lst, gi_dict_tup, gi_dict_scr, gi_dict_dct, tr_b, true_and, and_true, eq_self, exO_some, hTL_l, hTL_t, hName_e, hCons_c, hNil_n, bind_so, it_l, it_t, it_r, List.getElem?_cons_zero, List.getElem?_cons_succ, List.set_cons_zero, List.set_cons_succ, true_and, and_true, Nat.zero_le, snb, nnb, ex_some, dT, if_true, Bool.false_eq_true, if_false, wipeE, Int.reduceLT, List.length_nil, List.length_cons, Nat.reduceAdd, Nat.reduceLeDiff, Nat.reduceLT, g_inS, g_ixS, g_slS, g_join, frz_def, g_sort, g_rev, List.length_map, List.length_range]
        exact ⟨_, _, rfl⟩
    rintro en4 ⟨n, o9, rfl⟩
    have tt : ((0 : Int) < t) = True := eq_true t0
    have nn := Int.emod_nonneg n (show t ≠ 0 by omega)
    have nl := Int.emod_lt_of_pos n t0
    have lx : ((xs.map D.int).length < 16777216) = True := eq_true (by rw [List.length_map]; omega)
    have fin : ∀ (y : Int) (o5 o6 o7 o8 o9 : Option Sl), Big y → ∃ (xs1 : List Int) (p5 p6 p7 p8 p9 : Option Sl), [some (.sh (.scr ns)), some (.sh (.int i)), some (.sh (.int m)), some (.sh (.lst (ds.map .int))), some (.ow (.lst (xs.map .int ++ [.int y]))), o5, o6, o7, o8, o9] =
        [some (.sh (.scr ns)), some (.sh (.int i)), some (.sh (.int m)), some (.sh (.lst (ds.map .int))), some (.ow (.lst (xs1.map .int))), p5, p6, p7, p8, p9] ∧ xs1.length = k + 1 ∧ ∀ x ∈ xs1, Big x := fun y o5 o6 o7 o8 o9 hy =>
      ⟨xs ++ [y], _, _, _, _, _, by rw [List.map_append]; rfl, by rw [List.length_append, hk]; rfl, fun x hx => by
        rcases List.mem_append.mp hx with hx | hx
        · exact hb x hx
        · have : x = y := by simpa using hx
          subst this; exact hy⟩
    simp only [Z1, Z2, z_bO0, z_bO1, z_for, z_lc, onV_v, onV_e, onS_v, onS_e, onB_v, onB_e, onBR_v, onBR_e, onA_v, onA_e, onVB_v, onVB_e, onVA_v, onVA_e, onAA_v, onAA_e, onAO_v, onAO_e, onBB_v, onBB_e, onO_n, onO_r, onO_b, onO_c, onO_e, onT_n, onT_c, onT_b, onT_r, onT_e, onR_n, onR_r, onR_e, okK_s, okK_n, wO_some, wR_some, wB_some, wA_some, z_lf, z_shr, w_c, w_var, z_op, z_un, z_tB1, z_truR, z_chain, z_andT, z_orT, z_notT, z_andV, z_orV, z_notV, z_if, w_nil, z_cons, z_lst, z_tup, w_dct0, z_call, z_bn, z_sm, z_sl, z_star, z_sh, z_set, z_asg, z_drop, z_ret, w_retV, w_retN, w_nx, z_seq, w_frz, z_ifS, z_app, z_put, z_items, z_it, g_add, g_sub, g_neg, g_mul, g_rep, g_fdiv, g_mod, g_pow, g_addS, g_addL, g_cmp0, g_eqI, g_eqS, g_eqB, g_lenL, g_lenT, g_lenR, g_lenS, g_int, g_intB, g_str, g_listL, g_listT, g_listM, g_tup, g_abs, g_max2, g_min2, gz_ixL, gz_ixT, gz_ixR, g_slL, gi_bool_non, gi_bool_bl, gi_bool_int, gi_bool_str, gi_bool_lst, gi_bool_tup, gi_bool_scr, gi_bool_dct, gi_int_non, gi_int_bl, gi_int_int, gi_int_str, gi_int_lst, gi_int_tup, gi_int_scr, gi_int_dct, gi_str_non, gi_str_bl, gi_str_int, gi_str_str, gi_str_lst, gi_str_tup, gi_str_scr, gi_str_dct, gi_list_non, gi_list_bl, gi_list_int, gi_list_str, gi_list_lst, gi_list_tup, gi_list_scr, gi_list_dct, gi_tuple_non, gi_tuple_bl, gi_tuple_int, gi_tuple_str, gi_tuple_lst, gi_tuple_tup, gi_tuple_scr, gi_tuple_dct, gi_dict_non, gi_dict_bl, gi_dict_int, gi_dict_str, gi_dict_lst, gi_dict_tup, gi_dict_scr, gi_dict_dct, tr_b, true_and, and_true, eq_self, exO_some, hTL_l, hTL_t, hName_e, hCons_c, hNil_n, bind_so, it_l, it_t, it_r, List.getElem?_cons_zero, List.getElem?_cons_succ, List.set_cons_zero, List.set_cons_succ, true_and, and_true, Nat.zero_le, snb, nnb, ex_some, dT, if_true, Bool.false_eq_true, if_false, wipeE, Int.reduceLT, List.length_nil, List.length_cons, Nat.reduceAdd, Nat.reduceLeDiff, Nat.reduceLT, g_inS, g_ixS, g_slS, g_join, frz_def, g_sort, g_rev, List.length_map, List.length_range, m6, a1, tt]
    split
    · exact ⟨by omega, fin _ _ _ _ _ _ ⟨by omega, by omega⟩⟩
    · exact ⟨by omega, fin _ _ _ _ _ _ ⟨by omega, by omega⟩⟩
  · rintro en ⟨xs, o5, o6, o7, o8, o9, rfl, hk, hb⟩
    simp only [Z1, Z2, z_bO0, z_bO1, z_for, z_lc, onV_v, onV_e, onS_v, onS_e, onB_v, onB_e, onBR_v, onBR_e, onA_v, onA_e, onVB_v, onVB_e, onVA_v, onVA_e, onAA_v, onAA_e, onAO_v, onAO_e, onBB_v, onBB_e, onO_n, onO_r, onO_b, onO_c, onO_e, onT_n, onT_c, onT_b, onT_r, onT_e, onR_n, onR_r, onR_e, okK_s, okK_n, wO_some, wR_some, wB_some, wA_some, z_lf, z_shr, w_c, w_var, z_op, z_un, z_tB1, z_truR, z_chain, z_andT, z_orT, z_notT, z_andV, z_orV, z_notV, z_if, w_nil, z_cons, z_lst, z_tup, w_dct0, z_call, z_bn, z_sm, z_sl, z_star, z_sh, z_set, z_asg, z_drop, z_ret, w_retV, w_retN, w_nx, z_seq, w_frz, z_ifS, z_app, z_put, z_items, z_it, g_add, g_sub, g_neg, g_mul, g_rep, g_fdiv, g_mod, g_pow, g_addS, g_addL, g_cmp0, g_eqI, g_eqS, g_eqB, g_lenL, g_lenT, g_lenR, g_lenS, g_int, g_intB, g_str, g_listL, g_listT, g_listM, g_tup, g_abs, g_max2, g_min2, gz_ixL, gz_ixT, gz_ixR, g_slL, gi_bool_non, gi_bool_bl, gi_bool_int, gi_bool_str, gi_bool_lst, gi_bool_tup, gi_bool_scr, gi_bool_dct, gi_int_non, gi_int_bl, gi_int_int, gi_int_str, gi_int_lst, gi_int_tup, gi_int_scr, gi_int_dct, gi_str_non, gi_str_bl, gi_str_int, gi_str_str, gi_str_lst, gi_str_tup, gi_str_scr, gi_str_dct, gi_list_non, gi_list_bl, gi_list_int, gi_list_str, gi_list_lst, gi_list_tup, gi_list_scr, gi_list_dct, gi_tuple_non, gi_tuple_bl, gi_tuple_int, gi_tuple_str, gi_tuple_lst, gi_tuple_tup, gi_tuple_scr, gi_tuple_dct, gi_dict_non, gi_dict_bl, gi_dict_int, gi_dict_str, gi_dict_lst, gi_dict_tup, gi_dict_scr, gi_dict_dct, tr_b, true_and, and_true, eq_self, exO_some, hTL_l, hTL_t, hName_e, hCons_c, hNil_n, bind_so, it_l, it_t, it_r, List.getElem?_cons_zero, List.getElem?_cons_succ, List.set_cons_zero, List.set_cons_succ, true_and, and_true, Nat.zero_le, snb, nnb, ex_some, dT, if_true, Bool.false_eq_true, if_false, wipeE, Int.reduceLT, List.length_nil, List.length_cons, Nat.reduceAdd, Nat.reduceLeDiff, Nat.reduceLT, g_inS, g_ixS, g_slS, g_join, frz_def, g_sort, g_rev, List.length_map, List.length_range]
    exact ⟨xs, rfl, by rw [hk, List.length_map, List.length_range], hb⟩
end C
namespace C
open PySem L2 PD
variable {QG : Kd → D → Prop}
theorem g_isT {ds : List D} : wG (isND (.tup ds) .non) QG = QG .sh (.bl false) := wG_some
theorem g_isN : wG (isND .non .non) QG = QG .sh (.bl true) := wG_some
theorem g_isS {s : Str} : wG (isND (.str s) .non) QG = QG .sh (.bl false) := wG_some
theorem g_isI {s : Int} : wG (isND (.int s) .non) QG = QG .sh (.bl false) := wG_some
theorem c2_3 : (((2 : Nat) : Int) = 3) = False := eq_false (by decide)
theorem c3_3 : (((3 : Nat) : Int) = 3) = True := eq_true (by decide)
structure Sc where
  a : Int
  b : Int
  c : Int
  d : Int
def Sc.D (s : Sc) : D := .tup [.int s.a, .int s.b, .int s.c, .int s.d]
structure Sc.Ok (s : Sc) : Prop where
  a0 : 1 ≤ s.a
  a1 : s.a ≤ 10 ^ 15
  b0 : -(10 ^ 30) ≤ s.b
  b1 : s.b ≤ 10 ^ 30
  c0 : 1 ≤ s.c
  c1 : s.c ≤ 10 ^ 15
  d0 : -(10 ^ 30) ≤ s.d
  d1 : s.d ≤ 10 ^ 30
def scPt (a b : Int) (p : Str × Int) : Str × Int := (p.1, if p.1 = Str.ofString "" then p.2 * a + b else p.2 * a)
def scTm (s : Sc) : Tm → Tm
  | .pt p => .pt (scPt s.c s.d p)
  | .el x p k => .el x (scPt s.a s.b p) (k * s.c)
def small (k : Int) : Prop := -(2 ^ 64) < k ∧ k < 2 ^ 64
def Tm.sm : Tm → Prop
  | .pt p => small p.2
  | .el _ p k => small p.2 ∧ small k
theorem small_mul {k a : Int} (h : small k) : (mulOk k a = true) = True := eq_true (mulOk_l h.1 h.2)
theorem sterm_pt0 (n : Nat) (p : Str × Int) (s : Sc) (h : small p.2) : wR (G_Lscaled_term (n + 1) [ptD p, s.D, .int 0]) fun r => r = .val .sh (ptD (scPt s.a s.b p)) := by
  rw [G_Lscaled_term, w_run, b_Lscaled_term]
  have m2 : (mulOk 2 0 = true) = True := eq_true (by decide)
  simp only [start_def, List.map_cons, List.map_nil, List.length_cons, List.length_nil, Nat.reduceAdd, Nat.reduceSub, List.replicate_succ, List.replicate_zero, List.cons_append, List.nil_append, Z1, Z2, z_bO0, z_bO1, z_for, z_lc, onV_v, onV_e, onS_v, onS_e, onB_v, onB_e, onBR_v, onBR_e, onA_v, onA_e, onVB_v, onVB_e, onVA_v, onVA_e, onAA_v, onAA_e, onAO_v, onAO_e, onBB_v, onBB_e, onO_n, onO_r, onO_b, onO_c, onO_e, onT_n, onT_c, onT_b, onT_r, onT_e, onR_n, onR_r, onR_e, okK_s, okK_n, wO_some, wR_some, wB_some, wA_some, z_lf, z_shr, w_c, w_var, z_op, z_un, z_tB1, z_truR, z_chain, z_andT, z_orT, z_notT, z_andV, z_orV, z_notV, z_if, w_nil, z_cons, z_lst, z_tup, w_dct0, z_call, z_bn, z_sm, z_sl, z_star, z_sh, z_set, z_asg, z_drop, z_ret, w_retV, w_retN, w_nx, z_seq, w_frz, z_ifS, z_app, z_put, z_items, z_it, g_add, g_sub, g_neg, g_mul, g_rep, g_fdiv, g_mod, g_pow, g_addS, g_addL, g_cmp0, g_eqI, g_eqS, g_eqB, g_lenL, g_lenT, g_lenR, g_lenS, g_int, g_intB, g_str, g_listL, g_listT, g_listM, g_tup, g_abs, g_max2, g_min2, gz_ixL, gz_ixT, gz_ixR, g_slL, gi_bool_non, gi_bool_bl, gi_bool_int, gi_bool_str, gi_bool_lst, gi_bool_tup, gi_bool_scr, gi_bool_dct, gi_int_non, gi_int_bl, gi_int_int, gi_int_str, gi_int_lst, gi_int_tup, gi_int_scr, gi_int_dct, gi_str_non, gi_str_bl, gi_str_int, gi_str_str, gi_str_lst, gi_str_tup, gi_str_scr, gi_str_dct, gi_list_non, gi_list_bl, gi_list_int, gi_list_str, gi_list_lst, gi_list_tup, gi_list_scr, gi_list_dct, gi_tuple_non, gi_tuple_bl, gi_tuple_int, gi_tuple_str, gi_tuple_lst, gi_tuple_tup, gi_tuple_scr, gi_tuple_dct, gi_dict_non, gi_dict_bl, gi_dict_int, gi_dict_str, gi_dict_lst, gi_dict_tup, gi_dict_scr, gi_dict_dct, tr_b, true_and, and_true, eq_self, exO_some, hTL_l, hTL_t, hName_e, hCons_c, hNil_n, bind_so, it_l, it_t, it_r, List.getElem?_cons_zero, List.getElem?_cons_succ, List.set_cons_zero, List.set_cons_succ, true_and, and_true, Nat.zero_le, snb, nnb, ex_some, dT, if_true, Bool.false_eq_true, if_false, wipeE, Int.reduceLT, List.length_nil, List.length_cons, Nat.reduceAdd, Nat.reduceLeDiff, Nat.reduceLT, g_inS, g_ixS, g_slS, g_join, frz_def, g_sort, g_rev, List.length_map, List.length_range, ptD, Sc.D, g_isT, atI_0, atI_1, atI_2, atI_3, atI_4, atI_5, atI_6, atI_7, atI_8, atI_9, atI_10, atI_11, atI_12, atI_13, atI_14, atI_15, atI_16, atI_17, atI_18, atI_19, atI_20, atI_21, atI_22, atI_23, atI_24, atI_25, atI_26, atI_27, atI_28, atI_29, atI_30, c2_3, c3_3, if_false, Int.reduceEq, Int.reduceMul, Int.reduceAdd, m2, small_mul h]
  unfold scPt
  split <;> simp only [Z1, Z2, z_bO0, z_bO1, z_for, z_lc, onV_v, onV_e, onS_v, onS_e, onB_v, onB_e, onBR_v, onBR_e, onA_v, onA_e, onVB_v, onVB_e, onVA_v, onVA_e, onAA_v, onAA_e, onAO_v, onAO_e, onBB_v, onBB_e, onO_n, onO_r, onO_b, onO_c, onO_e, onT_n, onT_c, onT_b, onT_r, onT_e, onR_n, onR_r, onR_e, okK_s, okK_n, wO_some, wR_some, wB_some, wA_some, z_lf, z_shr, w_c, w_var, z_op, z_un, z_tB1, z_truR, z_chain, z_andT, z_orT, z_notT, z_andV, z_orV, z_notV, z_if, w_nil, z_cons, z_lst, z_tup, w_dct0, z_call, z_bn, z_sm, z_sl, z_star, z_sh, z_set, z_asg, z_drop, z_ret, w_retV, w_retN, w_nx, z_seq, w_frz, z_ifS, z_app, z_put, z_items, z_it, g_add, g_sub, g_neg, g_mul, g_rep, g_fdiv, g_mod, g_pow, g_addS, g_addL, g_cmp0, g_eqI, g_eqS, g_eqB, g_lenL, g_lenT, g_lenR, g_lenS, g_int, g_intB, g_str, g_listL, g_listT, g_listM, g_tup, g_abs, g_max2, g_min2, gz_ixL, gz_ixT, gz_ixR, g_slL, gi_bool_non, gi_bool_bl, gi_bool_int, gi_bool_str, gi_bool_lst, gi_bool_tup, gi_bool_scr, gi_bool_dct, gi_int_non, gi_int_bl, gi_int_int, gi_int_str, gi_int_lst, gi_int_tup, gi_int_scr, gi_int_dct, gi_str_non, gi_str_bl, gi_str_int, gi_str_str, gi_str_lst, gi_str_tup, gi_str_scr, gi_str_dct, gi_list_non, gi_list_bl, gi_list_int, gi_list_str, gi_list_lst, gi_list_tup, gi_list_scr, gi_list_dct, gi_tuple_non, gi_tuple_bl, gi_tuple_int, gi_tuple_str, gi_tuple_lst, gi_tuple_tup, gi_tuple_scr, gi_tuple_dct, gi_dict_non, gi_dict_bl, gi_dict_int, gi_dict_str, gi_dict_lst, gi_dict_tup, gi_dict_scr, gi_dict_dct, tr_b, true_and, and_true, eq_self, exO_some, hTL_l, hTL_t, hName_e, hCons_c, hNil_n, bind_so, it_l, it_t, it_r, List.getElem?_cons_zero, List.getElem?_cons_succ, List.set_cons_zero, List.set_cons_succ, true_and, and_true, Nat.zero_le, snb, nnb, ex_some, dT, if_true, Bool.false_eq_true, if_false, wipeE, Int.reduceLT, List.length_nil, List.length_cons, Nat.reduceAdd, Nat.reduceLeDiff, Nat.reduceLT, g_inS, g_ixS, g_slS, g_join, frz_def, g_sort, g_rev, List.length_map, List.length_range, *] <;> rfl
theorem sterm_pt1 (n : Nat) (p : Str × Int) (s : Sc) (h : small p.2) : wR (G_Lscaled_term (n + 1) [ptD p, s.D, .int 1]) fun r => r = .val .sh (ptD (scPt s.c s.d p)) := by
  rw [G_Lscaled_term, w_run, b_Lscaled_term]
  have m2 : (mulOk 2 1 = true) = True := eq_true (by decide)
  simp only [start_def, List.map_cons, List.map_nil, List.length_cons, List.length_nil, Nat.reduceAdd, Nat.reduceSub, List.replicate_succ, List.replicate_zero, List.cons_append, List.nil_append, Z1, Z2, z_bO0, z_bO1, z_for, z_lc, onV_v, onV_e, onS_v, onS_e, onB_v, onB_e, onBR_v, onBR_e, onA_v, onA_e, onVB_v, onVB_e, onVA_v, onVA_e, onAA_v, onAA_e, onAO_v, onAO_e, onBB_v, onBB_e, onO_n, onO_r, onO_b, onO_c, onO_e, onT_n, onT_c, onT_b, onT_r, onT_e, onR_n, onR_r, onR_e, okK_s, okK_n, wO_some, wR_some, wB_some, wA_some, z_lf, z_shr, w_c, w_var, z_op, z_un, z_tB1, z_truR, z_chain, z_andT, z_orT, z_notT, z_andV, z_orV, z_notV, z_if, w_nil, z_cons, z_lst, z_tup, w_dct0, z_call, z_bn, z_sm, z_sl, z_star, z_sh, z_set, z_asg, z_drop, z_ret, w_retV, w_retN, w_nx, z_seq, w_frz, z_ifS, z_app, z_put, z_items, z_it, g_add, g_sub, g_neg, g_mul, g_rep, g_fdiv, g_mod, g_pow, g_addS, g_addL, g_cmp0, g_eqI, g_eqS, g_eqB, g_lenL, g_lenT, g_lenR, g_lenS, g_int, g_intB, g_str, g_listL, g_listT, g_listM, g_tup, g_abs, g_max2, g_min2, gz_ixL, gz_ixT, gz_ixR, g_slL, gi_bool_non, gi_bool_bl, gi_bool_int, gi_bool_str, gi_bool_lst, gi_bool_tup, gi_bool_scr, gi_bool_dct, gi_int_non, gi_int_bl, gi_int_int, gi_int_str, gi_int_lst, gi_int_tup, gi_int_scr, gi_int_dct, gi_str_non, gi_str_bl, gi_str_int, gi_str_str, gi_str_lst, gi_str_tup, gi_str_scr, gi_str_dct, gi_list_non, gi_list_bl, gi_list_int, gi_list_str, gi_list_lst, gi_list_tup, gi_list_scr, gi_list_dct, gi_tuple_non, gi_tuple_bl, gi_tuple_int, gi_tuple_str, gi_tuple_lst, gi_tuple_tup, gi_tuple_scr, gi_tuple_dct, gi_dict_non, gi_dict_bl, gi_dict_int, gi_dict_str, gi_dict_lst, gi_dict_tup, gi_dict_scr, gi_dict_dct, tr_b, true_and, and_true, eq_self, exO_some, hTL_l, hTL_t, hName_e, hCons_c, hNil_n, bind_so, it_l, it_t, it_r, List.getElem?_cons_zero, List.getElem?_cons_succ, List.set_cons_zero, List.set_cons_succ, true_and, and_true, Nat.zero_le, snb, nnb, ex_some, dT, if_true, Bool.false_eq_true, if_false, wipeE, Int.reduceLT, List.length_nil, List.length_cons, Nat.reduceAdd, Nat.reduceLeDiff, Nat.reduceLT, g_inS, g_ixS, g_slS, g_join, frz_def, g_sort, g_rev, List.length_map, List.length_range, ptD, Sc.D, g_isT, atI_0, atI_1, atI_2, atI_3, atI_4, atI_5, atI_6, atI_7, atI_8, atI_9, atI_10, atI_11, atI_12, atI_13, atI_14, atI_15, atI_16, atI_17, atI_18, atI_19, atI_20, atI_21, atI_22, atI_23, atI_24, atI_25, atI_26, atI_27, atI_28, atI_29, atI_30, c2_3, c3_3, if_false, Int.reduceEq, Int.reduceMul, Int.reduceAdd, m2, small_mul h]
  unfold scPt
  split <;> simp only [Z1, Z2, z_bO0, z_bO1, z_for, z_lc, onV_v, onV_e, onS_v, onS_e, onB_v, onB_e, onBR_v, onBR_e, onA_v, onA_e, onVB_v, onVB_e, onVA_v, onVA_e, onAA_v, onAA_e, onAO_v, onAO_e, onBB_v, onBB_e, onO_n, onO_r, onO_b, onO_c, onO_e, onT_n, onT_c, onT_b, onT_r, onT_e, onR_n, onR_r, onR_e, okK_s, okK_n, wO_some, wR_some, wB_some, wA_some, z_lf, z_shr, w_c, w_var, z_op, z_un, z_tB1, z_truR, z_chain, z_andT, z_orT, z_notT, z_andV, z_orV, z_notV, z_if, w_nil, z_cons, z_lst, z_tup, w_dct0, z_call, z_bn, z_sm, z_sl, z_star, z_sh, z_set, z_asg, z_drop, z_ret, w_retV, w_retN, w_nx, z_seq, w_frz, z_ifS, z_app, z_put, z_items, z_it, g_add, g_sub, g_neg, g_mul, g_rep, g_fdiv, g_mod, g_pow, g_addS, g_addL, g_cmp0, g_eqI, g_eqS, g_eqB, g_lenL, g_lenT, g_lenR, g_lenS, g_int, g_intB, g_str, g_listL, g_listT, g_listM, g_tup, g_abs, g_max2, g_min2, gz_ixL, gz_ixT, gz_ixR, g_slL, gi_bool_non, gi_bool_bl, gi_bool_int, gi_bool_str, gi_bool_lst, gi_bool_tup, gi_bool_scr, gi_bool_dct, gi_int_non, gi_int_bl, gi_int_int, gi_int_str, gi_int_lst, gi_int_tup, gi_int_scr, gi_int_dct, gi_str_non, gi_str_bl, gi_str_int, gi_str_str, gi_str_lst, gi_str_tup, gi_str_scr, gi_str_dct, gi_list_non, gi_list_bl, gi_list_int, gi_list_str, gi_list_lst, gi_list_tup, gi_list_scr, gi_list_dct, gi_tuple_non, gi_tuple_bl, gi_tuple_int, gi_tuple_str, gi_tuple_lst, gi_tuple_tup, gi_tuple_scr, gi_tuple_dct, gi_dict_non, gi_dict_bl, gi_dict_int, gi_dict_str, gi_dict_lst, gi_dict_tup, gi_dict_scr, gi_dict_dct, tr_b, true_and, and_true, eq_self, exO_some, hTL_l, hTL_t, hName_e, hCons_c, hNil_n, bind_so, it_l, it_t, it_r, List.getElem?_cons_zero, List.getElem?_cons_succ, List.set_cons_zero, List.set_cons_succ, true_and, and_true, Nat.zero_le, snb, nnb, ex_some, dT, if_true, Bool.false_eq_true, if_false, wipeE, Int.reduceLT, List.length_nil, List.length_cons, Nat.reduceAdd, Nat.reduceLeDiff, Nat.reduceLT, g_inS, g_ixS, g_slS, g_join, frz_def, g_sort, g_rev, List.length_map, List.length_range, *] <;> rfl
theorem sterm_el (n : Nat) (x : Str) (p : Str × Int) (k role : Int) (s : Sc) (h : small p.2) (hk : small k) : wR (G_Lscaled_term (n + 2) [(Tm.el x p k).D, s.D, .int role]) fun r => r = .val .sh (scTm s (.el x p k)).D := by
  rw [G_Lscaled_term, w_run, b_Lscaled_term]
  simp only [start_def, List.map_cons, List.map_nil, List.length_cons, List.length_nil, Nat.reduceAdd, Nat.reduceSub, List.replicate_succ, List.replicate_zero, List.cons_append, List.nil_append, Z1, Z2, z_bO0, z_bO1, z_for, z_lc, onV_v, onV_e, onS_v, onS_e, onB_v, onB_e, onBR_v, onBR_e, onA_v, onA_e, onVB_v, onVB_e, onVA_v, onVA_e, onAA_v, onAA_e, onAO_v, onAO_e, onBB_v, onBB_e, onO_n, onO_r, onO_b, onO_c, onO_e, onT_n, onT_c, onT_b, onT_r, onT_e, onR_n, onR_r, onR_e, okK_s, okK_n, wO_some, wR_some, wB_some, wA_some, z_lf, z_shr, w_c, w_var, z_op, z_un, z_tB1, z_truR, z_chain, z_andT, z_orT, z_notT, z_andV, z_orV, z_notV, z_if, w_nil, z_cons, z_lst, z_tup, w_dct0, z_call, z_bn, z_sm, z_sl, z_star, z_sh, z_set, z_asg, z_drop, z_ret, w_retV, w_retN, w_nx, z_seq, w_frz, z_ifS, z_app, z_put, z_items, z_it, g_add, g_sub, g_neg, g_mul, g_rep, g_fdiv, g_mod, g_pow, g_addS, g_addL, g_cmp0, g_eqI, g_eqS, g_eqB, g_lenL, g_lenT, g_lenR, g_lenS, g_int, g_intB, g_str, g_listL, g_listT, g_listM, g_tup, g_abs, g_max2, g_min2, gz_ixL, gz_ixT, gz_ixR, g_slL, gi_bool_non, gi_bool_bl, gi_bool_int, gi_bool_str, gi_bool_lst, gi_bool_tup, gi_bool_scr, gi_bool_dct, gi_int_non, gi_int_bl, gi_int_int, gi_int_str, gi_int_lst, gi_int_tup, gi_int_scr, gi_int_dct, gi_str_non, gi_str_bl, gi_str_int, gi_str_str, gi_str_lst, gi_str_tup, gi_str_scr, gi_str_dct, gi_list_non, gi_list_bl, gi_list_int, gi_list_str, gi_list_lst, gi_list_tup, gi_list_scr, gi_list_dct, gi_tuple_non, gi_tuple_bl, gi_tuple_int, gi_tuple_str, gi_tuple_lst, gi_tuple_tup, gi_tuple_scr, gi_tuple_dct, gi_dict_non, gi_dict_bl, gi_dict_int, gi_dict_str, gi_dict_lst, gi_dict_tup, gi_dict_scr, gi_dict_dct, tr_b, true_and, and_true, eq_self, exO_some, hTL_l, hTL_t, hName_e, hCons_c, hNil_n, bind_so, it_l, it_t, it_r, List.getElem?_cons_zero, List.getElem?_cons_succ, List.set_cons_zero, List.set_cons_succ, true_and, and_true, Nat.zero_le, snb, nnb, ex_some, dT, if_true, Bool.false_eq_true, if_false, wipeE, Int.reduceLT, List.length_nil, List.length_cons, Nat.reduceAdd, Nat.reduceLeDiff, Nat.reduceLT, g_inS, g_ixS, g_slS, g_join, frz_def, g_sort, g_rev, List.length_map, List.length_range, Tm.D, Sc.D, g_isT, atI_0, atI_1, atI_2, atI_3, atI_4, atI_5, atI_6, atI_7, atI_8, atI_9, atI_10, atI_11, atI_12, atI_13, atI_14, atI_15, atI_16, atI_17, atI_18, atI_19, atI_20, atI_21, atI_22, atI_23, atI_24, atI_25, atI_26, atI_27, atI_28, atI_29, atI_30, c2_3, c3_3]
  refine (sterm_pt0 n p s h).mono ?_
  rintro r rfl
  simp only [Z1, Z2, z_bO0, z_bO1, z_for, z_lc, onV_v, onV_e, onS_v, onS_e, onB_v, onB_e, onBR_v, onBR_e, onA_v, onA_e, onVB_v, onVB_e, onVA_v, onVA_e, onAA_v, onAA_e, onAO_v, onAO_e, onBB_v, onBB_e, onO_n, onO_r, onO_b, onO_c, onO_e, onT_n, onT_c, onT_b, onT_r, onT_e, onR_n, onR_r, onR_e, okK_s, okK_n, wO_some, wR_some, wB_some, wA_some, z_lf, z_shr, w_c, w_var, z_op, z_un, z_tB1, z_truR, z_chain, z_andT, z_orT, z_notT, z_andV, z_orV, z_notV, z_if, w_nil, z_cons, z_lst, z_tup, w_dct0, z_call, z_bn, z_sm, z_sl, z_star, z_sh, z_set, z_asg, z_drop, z_ret, w_retV, w_retN, w_nx, z_seq, w_frz, z_ifS, z_app, z_put, z_items, z_it, g_add, g_sub, g_neg, g_mul, g_rep, g_fdiv, g_mod, g_pow, g_addS, g_addL, g_cmp0, g_eqI, g_eqS, g_eqB, g_lenL, g_lenT, g_lenR, g_lenS, g_int, g_intB, g_str, g_listL, g_listT, g_listM, g_tup, g_abs, g_max2, g_min2, gz_ixL, gz_ixT, gz_ixR, g_slL, gi_bool_non, gi_bool_bl, gi_bool_int, gi_bool_str, gi_bool_lst, gi_bool_tup, gi_bool_scr, gi_bool_dct, gi_int_non, gi_int_bl, gi_int_int, gi_int_str, gi_int_lst, gi_int_tup, gi_int_scr, gi_int_dct, gi_str_non, gi_str_bl, gi_str_int, gi_str_str, gi_str_lst, gi_str_tup, gi_str_scr, gi_str_dct, gi_list_non, gi_list_bl, gi_list_int, gi_list_str, gi_list_lst, gi_list_tup, gi_list_scr, gi_list_dct, gi_tuple_non, gi_tuple_bl, gi_tuple_int, gi_tuple_str, gi_tuple_lst, gi_tuple_tup, gi_tuple_scr, gi_tuple_dct, gi_dict_non, gi_dict_bl, gi_dict_int, gi_dict_str, gi_dict_lst, gi_dict_tup, gi_dict_scr, gi_dict_dct, tr_b, true_and, and_true, eq_self, exO_some, hTL_l, hTL_t, hName_e, hCons_c, hNil_n, bind_so, it_l, it_t, it_r, List.getElem?_cons_zero, List.getElem?_cons_succ, List.set_cons_zero, List.set_cons_succ, true_and, and_true, Nat.zero_le, snb, nnb, ex_some, dT, if_true, Bool.false_eq_true, if_false, wipeE, Int.reduceLT, List.length_nil, List.length_cons, Nat.reduceAdd, Nat.reduceLeDiff, Nat.reduceLT, g_inS, g_ixS, g_slS, g_join, frz_def, g_sort, g_rev, List.length_map, List.length_range, atI_0, atI_1, atI_2, atI_3, atI_4, atI_5, atI_6, atI_7, atI_8, atI_9, atI_10, atI_11, atI_12, atI_13, atI_14, atI_15, atI_16, atI_17, atI_18, atI_19, atI_20, atI_21, atI_22, atI_23, atI_24, atI_25, atI_26, atI_27, atI_28, atI_29, atI_30, small_mul hk, scTm, Tm.D]
theorem sterm_1 (t : Tm) (s : Sc) (h : t.sm) : wR (F_Lscaled_term [t.D, s.D, .int 1]) fun r => r = .val .sh (scTm s t).D := by
  cases t with
  | pt p => exact sterm_pt1 7 p s h
  | el x p k => exact sterm_el 6 x p k 1 s h.1 h.2
theorem sterm_0 (t : Tm) (s : Sc) (h : t.sm) : wR (F_Lscaled_term [t.D, s.D, .int 0]) fun r => ∃ d, r = .val .sh d := by
  cases t with
  | pt p => exact (sterm_pt0 7 p s h).mono fun r e => ⟨_, e⟩
  | el x p k => exact (sterm_el 6 x p k 0 s h.1 h.2).mono fun r e => ⟨_, e⟩
theorem sterm_op (e : Option (Str × Int)) (s : Sc) (h : ∀ p, e = some p → small p.2) : wR (F_Lscaled_term [opD e, s.D, .int 0]) fun r => r = .val .sh (opD (e.map (scPt s.a s.b))) := by
  cases e with
  | none =>
    rw [F_Lscaled_term, G_Lscaled_term, w_run, b_Lscaled_term]
    simp only [start_def, List.map_cons, List.map_nil, List.length_cons, List.length_nil, Nat.reduceAdd, Nat.reduceSub, List.replicate_succ, List.replicate_zero, List.cons_append, List.nil_append, Z1, Z2, z_bO0, z_bO1, z_for, z_lc, onV_v, onV_e, onS_v, onS_e, onB_v, onB_e, onBR_v, onBR_e, onA_v, onA_e, onVB_v, onVB_e, onVA_v, onVA_e, onAA_v, onAA_e, onAO_v, onAO_e, onBB_v, onBB_e, onO_n, onO_r, onO_b, onO_c, onO_e, onT_n, onT_c, onT_b, onT_r, onT_e, onR_n, onR_r, onR_e, okK_s, okK_n, wO_some, wR_some, wB_some, wA_some, z_lf, z_shr, w_c, w_var, z_op, z_un, z_tB1, z_truR, z_chain, z_andT, z_orT, z_notT, z_andV, z_orV, z_notV, z_if, w_nil, z_cons, z_lst, z_tup, w_dct0, z_call, z_bn, z_sm, z_sl, z_star, z_sh, z_set, z_asg, z_drop, z_ret, w_retV, w_retN, w_nx, z_seq, w_frz, z_ifS, z_app, z_put, z_items, z_it, g_add, g_sub, g_neg, g_mul, g_rep, g_fdiv, g_mod, g_pow, g_addS, g_addL, g_cmp0, g_eqI, g_eqS, g_eqB, g_lenL, g_lenT, g_lenR, g_lenS, g_int, g_intB, g_str, g_listL, g_listT, g_listM, g_tup, g_abs, g_max2, g_min2, gz_ixL, gz_ixT, gz_ixR, g_slL, gi_bool_non, gi_bool_bl, gi_bool_int, gi_bool_str, gi_bool_lst, gi_bool_tup, gi_bool_scr, gi_bool_dct, gi_int_non, gi_int_bl, gi_int_int, gi_int_str, gi_int_lst, gi_int_tup, gi_int_scr, gi_int_dct, gi_str_non, gi_str_bl, gi_str_int, gi_str_str, gi_str_lst, gi_str_tup, gi_str_scr, gi_str_dct, gi_list_non, gi_list_bl, gi_list_int, gi_list_str, gi_list_lst, gi_list_tup, gi_list_scr, gi_list_dct, gi_tuple_non, gi_tuple_bl, gi_tuple_int, gi_tuple_str, gi_tuple_lst, gi_tuple_tup, gi_tuple_scr, gi_tuple_dct, gi_dict_non, gi_dict_bl, gi_dict_int, gi_dict_str, gi_dict_lst, gi_dict_tup, gi_dict_scr, gi_dict_dct, tr_b, true_and, and_true, eq_self, exO_some, hTL_l, hTL_t, hName_e, hCons_c, hNil_n, bind_so, it_l, it_t, it_r, List.getElem?_cons_zero, List.getElem?_cons_succ, List.set_cons_zero, List.set_cons_succ, true_and, and_true, Nat.zero_le, snb, nnb, ex_some, dT, if_true, Bool.false_eq_true, if_false, wipeE, Int.reduceLT, List.length_nil, List.length_cons, Nat.reduceAdd, Nat.reduceLeDiff, Nat.reduceLT, g_inS, g_ixS, g_slS, g_join, frz_def, g_sort, g_rev, List.length_map, List.length_range, opD, Sc.D, g_isN, Option.map_none]
  | some p => exact sterm_pt0 7 p s (h p rfl)
/-! ### unrolled walks -/
theorem z_forD {tg : D → En → Option En} {F : En → Option Out} {d : D} {r : List D} {en : En} {QO : Out → Prop} : wO (forD tg F (d :: r) en) QO = exO (tg d en) (Z (fun en1 => wO (F en1) (onT QO (Z (fun en2 => wO (forD tg F r en2) QO) ⟨⟩))) ⟨⟩) := by
  apply propext
  constructor
  · rintro ⟨x, e, q⟩
    unfold forD at e
    cases h : tg d en with
    | none => rw [h] at e; cases e
    | some en1 =>
      refine ⟨en1, rfl, ?_⟩
      simp only [h] at e
      cases h2 : F en1 with
      | none => rw [h2] at e; cases e
      | some o =>
        rw [h2] at e
        refine ⟨o, h2, ?_⟩
        cases o with
        | nx en2 => exact ⟨x, e, q⟩
        | ct en2 => exact ⟨x, e, q⟩
        | bk en2 => cases e; exact q
        | rt k d => cases e; exact q
        | er en2 c d => cases e; exact q
  · rintro ⟨en1, h, o, h2, q⟩
    unfold forD
    unfold wO
    simp only [h, h2]
    cases o with
    | nx en2 => exact q
    | ct en2 => exact q
    | bk en2 => exact ⟨_, rfl, q⟩
    | rt k d => exact ⟨_, rfl, q⟩
    | er en2 c d => exact ⟨_, rfl, q⟩
theorem z_forN {tg : D → En → Option En} {F : En → Option Out} {en : En} {QO : Out → Prop} : wO (forD tg F [] en) QO = QO (.nx en) := wO_some
theorem ne_place_value : (Str.ofString "place" = Str.ofString "value") = False := eq_false (by decide +kernel)
theorem ne_place_rising : (Str.ofString "place" = Str.ofString "rising") = False := eq_false (by decide +kernel)
theorem ne_place_low : (Str.ofString "place" = Str.ofString "low") = False := eq_false (by decide +kernel)
theorem ne_place_high : (Str.ofString "place" = Str.ofString "high") = False := eq_false (by decide +kernel)
theorem ne_place_below : (Str.ofString "place" = Str.ofString "below") = False := eq_false (by decide +kernel)
theorem ne_place_same : (Str.ofString "place" = Str.ofString "same") = False := eq_false (by decide +kernel)
theorem ne_value_place : (Str.ofString "value" = Str.ofString "place") = False := eq_false (by decide +kernel)
theorem ne_value_rising : (Str.ofString "value" = Str.ofString "rising") = False := eq_false (by decide +kernel)
theorem ne_value_low : (Str.ofString "value" = Str.ofString "low") = False := eq_false (by decide +kernel)
theorem ne_value_high : (Str.ofString "value" = Str.ofString "high") = False := eq_false (by decide +kernel)
theorem ne_value_below : (Str.ofString "value" = Str.ofString "below") = False := eq_false (by decide +kernel)
theorem ne_value_same : (Str.ofString "value" = Str.ofString "same") = False := eq_false (by decide +kernel)
theorem ne_rising_place : (Str.ofString "rising" = Str.ofString "place") = False := eq_false (by decide +kernel)
theorem ne_rising_value : (Str.ofString "rising" = Str.ofString "value") = False := eq_false (by decide +kernel)
theorem ne_rising_low : (Str.ofString "rising" = Str.ofString "low") = False := eq_false (by decide +kernel)
theorem ne_rising_high : (Str.ofString "rising" = Str.ofString "high") = False := eq_false (by decide +kernel)
theorem ne_rising_below : (Str.ofString "rising" = Str.ofString "below") = False := eq_false (by decide +kernel)
theorem ne_rising_same : (Str.ofString "rising" = Str.ofString "same") = False := eq_false (by decide +kernel)
theorem ne_low_place : (Str.ofString "low" = Str.ofString "place") = False := eq_false (by decide +kernel)
theorem ne_low_value : (Str.ofString "low" = Str.ofString "value") = False := eq_false (by decide +kernel)
theorem ne_low_rising : (Str.ofString "low" = Str.ofString "rising") = False := eq_false (by decide +kernel)
theorem ne_low_high : (Str.ofString "low" = Str.ofString "high") = False := eq_false (by decide +kernel)
theorem ne_low_below : (Str.ofString "low" = Str.ofString "below") = False := eq_false (by decide +kernel)
theorem ne_low_same : (Str.ofString "low" = Str.ofString "same") = False := eq_false (by decide +kernel)
theorem ne_high_place : (Str.ofString "high" = Str.ofString "place") = False := eq_false (by decide +kernel)
theorem ne_high_value : (Str.ofString "high" = Str.ofString "value") = False := eq_false (by decide +kernel)
theorem ne_high_rising : (Str.ofString "high" = Str.ofString "rising") = False := eq_false (by decide +kernel)
theorem ne_high_low : (Str.ofString "high" = Str.ofString "low") = False := eq_false (by decide +kernel)
theorem ne_high_below : (Str.ofString "high" = Str.ofString "below") = False := eq_false (by decide +kernel)
theorem ne_high_same : (Str.ofString "high" = Str.ofString "same") = False := eq_false (by decide +kernel)
theorem ne_below_place : (Str.ofString "below" = Str.ofString "place") = False := eq_false (by decide +kernel)
theorem ne_below_value : (Str.ofString "below" = Str.ofString "value") = False := eq_false (by decide +kernel)
theorem ne_below_rising : (Str.ofString "below" = Str.ofString "rising") = False := eq_false (by decide +kernel)
theorem ne_below_low : (Str.ofString "below" = Str.ofString "low") = False := eq_false (by decide +kernel)
theorem ne_below_high : (Str.ofString "below" = Str.ofString "high") = False := eq_false (by decide +kernel)
theorem ne_below_same : (Str.ofString "below" = Str.ofString "same") = False := eq_false (by decide +kernel)
theorem ne_same_place : (Str.ofString "same" = Str.ofString "place") = False := eq_false (by decide +kernel)
theorem ne_same_value : (Str.ofString "same" = Str.ofString "value") = False := eq_false (by decide +kernel)
theorem ne_same_rising : (Str.ofString "same" = Str.ofString "rising") = False := eq_false (by decide +kernel)
theorem ne_same_low : (Str.ofString "same" = Str.ofString "low") = False := eq_false (by decide +kernel)
theorem ne_same_high : (Str.ofString "same" = Str.ofString "high") = False := eq_false (by decide +kernel)
theorem ne_same_below : (Str.ofString "same" = Str.ofString "below") = False := eq_false (by decide +kernel)
theorem g_inT2 {a b c : Str} : wG (inD (.str a) (.tup [.str b, .str c])) QG = QG .sh (.bl (decide (b = a) || decide (c = a))) := by
  have e : inD (.str a) (.tup [.str b, .str c]) = some (.sh, .bl (decide (b = a) || decide (c = a))) := by
    show some (Kd.sh, D.bl (b == a || (c == a || false))) = _
    rw [Bool.or_false]
    rfl
  rw [e]
  exact wG_some
theorem or_d {p q : Prop} [Decidable p] [Decidable q] : ((decide p || decide q) = true) = (p ∨ q) := by simp
theorem gi_int_op {e : Option (Str × Int)} : wG (isiD "int" (opD e)) QG = QG .sh (.bl false) := by cases e <;> first | exact gi_int_non | exact gi_int_tup
theorem gi_str_op {e : Option (Str × Int)} : wG (isiD "str" (opD e)) QG = QG .sh (.bl false) := by cases e <;> first | exact gi_str_non | exact gi_str_tup
theorem gi_int_tm {e : Tm} : wG (isiD "int" e.D) QG = QG .sh (.bl false) := by cases e <;> exact gi_int_tup
theorem gi_str_tm {e : Tm} : wG (isiD "str" e.D) QG = QG .sh (.bl false) := by cases e <;> exact gi_str_tup
theorem put_4 {v a b c d e : D} : putO v (.lst [a, b, c, d, e]) (.int 4) = some (.lst [a, b, c, d, v]) := rfl
def scSy (s : Sc) : Sy → Sy
  | .place t u => .place (scPt s.a s.b t) (scPt s.a s.b u)
  | .value t u => .value (scTm s t) (scTm s u)
  | .rising a e f => .rising a (e.map (scPt s.a s.b)) (f.map (scPt s.a s.b))
  | .low a e f t => .low a (e.map (scPt s.a s.b)) (f.map (scPt s.a s.b)) (scTm s t)
  | .high a e f t => .high a (e.map (scPt s.a s.b)) (f.map (scPt s.a s.b)) (scTm s t)
  | .below a e f b g h k => .below a (e.map (scPt s.a s.b)) (f.map (scPt s.a s.b)) b (g.map (scPt s.a s.b)) (h.map (scPt s.a s.b)) (k * s.c)
  | .same a b e f k => .same a b (e.map (scPt s.a s.b)) (f.map (scPt s.a s.b)) (k * s.c)
theorem pt_small {S : Str → Prop} {p : Str × Int} (h : ptOk S 4 p) : small p.2 := ⟨by have := h.2.1; omega, by have := h.2.2; omega⟩
theorem op_small {S : Str → Prop} {e : Option (Str × Int)} (h : opOk S 4 e) : ∀ p, e = some p → small p.2 := fun p he => by subst he; exact pt_small h
theorem tm_small {V : Voc} {t : Tm} (h : t.Ok V 4) : t.sm := by
  cases t with
  | pt p => exact pt_small h
  | el a p k => exact ⟨pt_small h.2.1, by have := h.2.2; unfold small; omega⟩
theorem ssaying_spec (V : Voc) (y : Sy) (s : Sc) (h : y.Ok V 4) : wR (F_Lscaled_saying [y.D, s.D]) fun r => r = .val .sh (scSy s y).D := by
  rw [F_Lscaled_saying, w_run, b_Lscaled_saying]
  cases y with
  | place t u =>
    simp only [start_def, List.map_cons, List.map_nil, List.length_cons, List.length_nil, Nat.reduceAdd, Nat.reduceSub, List.replicate_succ, List.replicate_zero, List.cons_append, List.nil_append, Z1, Z2, z_bO0, z_bO1, z_for, z_lc, onV_v, onV_e, onS_v, onS_e, onB_v, onB_e, onBR_v, onBR_e, onA_v, onA_e, onVB_v, onVB_e, onVA_v, onVA_e, onAA_v, onAA_e, onAO_v, onAO_e, onBB_v, onBB_e, onO_n, onO_r, onO_b, onO_c, onO_e, onT_n, onT_c, onT_b, onT_r, onT_e, onR_n, onR_r, onR_e, okK_s, okK_n, wO_some, wR_some, wB_some, wA_some, z_lf, z_shr, w_c, w_var, z_op, z_un, z_tB1, z_truR, z_chain, z_andT, z_orT, z_notT, z_andV, z_orV, z_notV, z_if, w_nil, z_cons, z_lst, z_tup, w_dct0, z_call, z_bn, z_sm, z_sl, z_star, z_sh, z_set, z_asg, z_drop, z_ret, w_retV, w_retN, w_nx, z_seq, w_frz, z_ifS, z_app, z_put, z_items, z_it, g_add, g_sub, g_neg, g_mul, g_rep, g_fdiv, g_mod, g_pow, g_addS, g_addL, g_cmp0, g_eqI, g_eqS, g_eqB, g_lenL, g_lenT, g_lenR, g_lenS, g_int, g_intB, g_str, g_listL, g_listT, g_listM, g_tup, g_abs, g_max2, g_min2, gz_ixL, gz_ixT, gz_ixR, g_slL, gi_bool_non, gi_bool_bl, gi_bool_int, gi_bool_str, gi_bool_lst, gi_bool_tup, gi_bool_scr, gi_bool_dct, gi_int_non, gi_int_bl, gi_int_int, gi_int_str, gi_int_lst, gi_int_tup, gi_int_scr, gi_int_dct, gi_str_non, gi_str_bl, gi_str_int, gi_str_str, gi_str_lst, gi_str_tup, gi_str_scr, gi_str_dct, gi_list_non, gi_list_bl, gi_list_int, gi_list_str, gi_list_lst, gi_list_tup, gi_list_scr, gi_list_dct, gi_tuple_non, gi_tuple_bl, gi_tuple_int, gi_tuple_str, gi_tuple_lst, gi_tuple_tup, gi_tuple_scr, gi_tuple_dct, gi_dict_non, gi_dict_bl, gi_dict_int, gi_dict_str, gi_dict_lst, gi_dict_tup, gi_dict_scr, gi_dict_dct, tr_b, true_and, and_true, eq_self, exO_some, hTL_l, hTL_t, hName_e, hCons_c, hNil_n, bind_so, it_l, it_t, it_r, List.getElem?_cons_zero, List.getElem?_cons_succ, List.set_cons_zero, List.set_cons_succ, true_and, and_true, Nat.zero_le, snb, nnb, ex_some, dT, if_true, Bool.false_eq_true, if_false, wipeE, Int.reduceLT, List.length_nil, List.length_cons, Nat.reduceAdd, Nat.reduceLeDiff, Nat.reduceLT, g_inS, g_ixS, g_slS, g_join, frz_def, g_sort, g_rev, List.length_map, List.length_range, Sy.D, scSy, atI_0, atI_1, atI_2, atI_3, atI_4, atI_5, atI_6, atI_7, atI_8, atI_9, atI_10, atI_11, atI_12, atI_13, atI_14, atI_15, atI_16, atI_17, atI_18, atI_19, atI_20, atI_21, atI_22, atI_23, atI_24, atI_25, atI_26, atI_27, atI_28, atI_29, atI_30, ne_place_value, ne_place_rising, ne_place_low, ne_place_high, ne_place_below, ne_place_same, ne_value_place, ne_value_rising, ne_value_low, ne_value_high, ne_value_below, ne_value_same, ne_rising_place, ne_rising_value, ne_rising_low, ne_rising_high, ne_rising_below, ne_rising_same, ne_low_place, ne_low_value, ne_low_rising, ne_low_high, ne_low_below, ne_low_same, ne_high_place, ne_high_value, ne_high_rising, ne_high_low, ne_high_below, ne_high_same, ne_below_place, ne_below_value, ne_below_rising, ne_below_low, ne_below_high, ne_below_same, ne_same_place, ne_same_value, ne_same_rising, ne_same_low, ne_same_high, ne_same_below, g_inT2, or_d, or_false, false_or, or_self, true_or, or_true, decide_true, decide_false, Bool.or_false, Bool.false_or, Bool.or_true, Bool.true_or, gi_int_op, gi_str_op, gi_int_tm, gi_str_tm, put_4, List.cons_append, List.nil_append]
    refine (sterm_op (some t) s (op_small (e := some t) h.1)).mono ?_
    rintro r rfl
    simp only [Z1, Z2, z_bO0, z_bO1, z_for, z_lc, onV_v, onV_e, onS_v, onS_e, onB_v, onB_e, onBR_v, onBR_e, onA_v, onA_e, onVB_v, onVB_e, onVA_v, onVA_e, onAA_v, onAA_e, onAO_v, onAO_e, onBB_v, onBB_e, onO_n, onO_r, onO_b, onO_c, onO_e, onT_n, onT_c, onT_b, onT_r, onT_e, onR_n, onR_r, onR_e, okK_s, okK_n, wO_some, wR_some, wB_some, wA_some, z_lf, z_shr, w_c, w_var, z_op, z_un, z_tB1, z_truR, z_chain, z_andT, z_orT, z_notT, z_andV, z_orV, z_notV, z_if, w_nil, z_cons, z_lst, z_tup, w_dct0, z_call, z_bn, z_sm, z_sl, z_star, z_sh, z_set, z_asg, z_drop, z_ret, w_retV, w_retN, w_nx, z_seq, w_frz, z_ifS, z_app, z_put, z_items, z_it, g_add, g_sub, g_neg, g_mul, g_rep, g_fdiv, g_mod, g_pow, g_addS, g_addL, g_cmp0, g_eqI, g_eqS, g_eqB, g_lenL, g_lenT, g_lenR, g_lenS, g_int, g_intB, g_str, g_listL, g_listT, g_listM, g_tup, g_abs, g_max2, g_min2, gz_ixL, gz_ixT, gz_ixR, g_slL, gi_bool_non, gi_bool_bl, gi_bool_int, gi_bool_str, gi_bool_lst, gi_bool_tup, gi_bool_scr, gi_bool_dct, gi_int_non, gi_int_bl, gi_int_int, gi_int_str, gi_int_lst, gi_int_tup, gi_int_scr, gi_int_dct, gi_str_non, gi_str_bl, gi_str_int, gi_str_str, gi_str_lst, gi_str_tup, gi_str_scr, gi_str_dct, gi_list_non, gi_list_bl, gi_list_int, gi_list_str, gi_list_lst, gi_list_tup, gi_list_scr, gi_list_dct, gi_tuple_non, gi_tuple_bl, gi_tuple_int, gi_tuple_str, gi_tuple_lst, gi_tuple_tup, gi_tuple_scr, gi_tuple_dct, gi_dict_non, gi_dict_bl, gi_dict_int, gi_dict_str, gi_dict_lst, gi_dict_tup, gi_dict_scr, gi_dict_dct, tr_b, true_and, and_true, eq_self, exO_some, hTL_l, hTL_t, hName_e, hCons_c, hNil_n, bind_so, it_l, it_t, it_r, List.getElem?_cons_zero, List.getElem?_cons_succ, List.set_cons_zero, List.set_cons_succ, true_and, and_true, Nat.zero_le, snb, nnb, ex_some, dT, if_true, Bool.false_eq_true, if_false, wipeE, Int.reduceLT, List.length_nil, List.length_cons, Nat.reduceAdd, Nat.reduceLeDiff, Nat.reduceLT, g_inS, g_ixS, g_slS, g_join, frz_def, g_sort, g_rev, List.length_map, List.length_range, atI_0, atI_1, atI_2, atI_3, atI_4, atI_5, atI_6, atI_7, atI_8, atI_9, atI_10, atI_11, atI_12, atI_13, atI_14, atI_15, atI_16, atI_17, atI_18, atI_19, atI_20, atI_21, atI_22, atI_23, atI_24, atI_25, atI_26, atI_27, atI_28, atI_29, atI_30, ne_place_value, ne_place_rising, ne_place_low, ne_place_high, ne_place_below, ne_place_same, ne_value_place, ne_value_rising, ne_value_low, ne_value_high, ne_value_below, ne_value_same, ne_rising_place, ne_rising_value, ne_rising_low, ne_rising_high, ne_rising_below, ne_rising_same, ne_low_place, ne_low_value, ne_low_rising, ne_low_high, ne_low_below, ne_low_same, ne_high_place, ne_high_value, ne_high_rising, ne_high_low, ne_high_below, ne_high_same, ne_below_place, ne_below_value, ne_below_rising, ne_below_low, ne_below_high, ne_below_same, ne_same_place, ne_same_value, ne_same_rising, ne_same_low, ne_same_high, ne_same_below, g_inT2, or_d, or_false, false_or, or_self, true_or, or_true, decide_true, decide_false, Bool.or_false, Bool.false_or, Bool.or_true, Bool.true_or, gi_int_op, gi_str_op, gi_int_tm, gi_str_tm, put_4, List.cons_append, List.nil_append]
    refine (sterm_op (some u) s (op_small (e := some u) h.2)).mono ?_
    rintro r rfl
    simp only [Z1, Z2, z_bO0, z_bO1, z_for, z_lc, onV_v, onV_e, onS_v, onS_e, onB_v, onB_e, onBR_v, onBR_e, onA_v, onA_e, onVB_v, onVB_e, onVA_v, onVA_e, onAA_v, onAA_e, onAO_v, onAO_e, onBB_v, onBB_e, onO_n, onO_r, onO_b, onO_c, onO_e, onT_n, onT_c, onT_b, onT_r, onT_e, onR_n, onR_r, onR_e, okK_s, okK_n, wO_some, wR_some, wB_some, wA_some, z_lf, z_shr, w_c, w_var, z_op, z_un, z_tB1, z_truR, z_chain, z_andT, z_orT, z_notT, z_andV, z_orV, z_notV, z_if, w_nil, z_cons, z_lst, z_tup, w_dct0, z_call, z_bn, z_sm, z_sl, z_star, z_sh, z_set, z_asg, z_drop, z_ret, w_retV, w_retN, w_nx, z_seq, w_frz, z_ifS, z_app, z_put, z_items, z_it, g_add, g_sub, g_neg, g_mul, g_rep, g_fdiv, g_mod, g_pow, g_addS, g_addL, g_cmp0, g_eqI, g_eqS, g_eqB, g_lenL, g_lenT, g_lenR, g_lenS, g_int, g_intB, g_str, g_listL, g_listT, g_listM, g_tup, g_abs, g_max2, g_min2, gz_ixL, gz_ixT, gz_ixR, g_slL, gi_bool_non, gi_bool_bl, gi_bool_int, gi_bool_str, gi_bool_lst, gi_bool_tup, gi_bool_scr, gi_bool_dct, gi_int_non, gi_int_bl, gi_int_int, gi_int_str, gi_int_lst, gi_int_tup, gi_int_scr, gi_int_dct, gi_str_non, gi_str_bl, gi_str_int, gi_str_str, gi_str_lst, gi_str_tup, gi_str_scr, gi_str_dct, gi_list_non, gi_list_bl, gi_list_int, gi_list_str, gi_list_lst, gi_list_tup, gi_list_scr, gi_list_dct, gi_tuple_non, gi_tuple_bl, gi_tuple_int, gi_tuple_str, gi_tuple_lst, gi_tuple_tup, gi_tuple_scr, gi_tuple_dct, gi_dict_non, gi_dict_bl, gi_dict_int, gi_dict_str, gi_dict_lst, gi_dict_tup, gi_dict_scr, gi_dict_dct, tr_b, true_and, and_true, eq_self, exO_some, hTL_l, hTL_t, hName_e, hCons_c, hNil_n, bind_so, it_l, it_t, it_r, List.getElem?_cons_zero, List.getElem?_cons_succ, List.set_cons_zero, List.set_cons_succ, true_and, and_true, Nat.zero_le, snb, nnb, ex_some, dT, if_true, Bool.false_eq_true, if_false, wipeE, Int.reduceLT, List.length_nil, List.length_cons, Nat.reduceAdd, Nat.reduceLeDiff, Nat.reduceLT, g_inS, g_ixS, g_slS, g_join, frz_def, g_sort, g_rev, List.length_map, List.length_range, scSy, Sy.D, opD, Option.map_some]
  | value t u =>
    simp only [start_def, List.map_cons, List.map_nil, List.length_cons, List.length_nil, Nat.reduceAdd, Nat.reduceSub, List.replicate_succ, List.replicate_zero, List.cons_append, List.nil_append, Z1, Z2, z_bO0, z_bO1, z_for, z_lc, onV_v, onV_e, onS_v, onS_e, onB_v, onB_e, onBR_v, onBR_e, onA_v, onA_e, onVB_v, onVB_e, onVA_v, onVA_e, onAA_v, onAA_e, onAO_v, onAO_e, onBB_v, onBB_e, onO_n, onO_r, onO_b, onO_c, onO_e, onT_n, onT_c, onT_b, onT_r, onT_e, onR_n, onR_r, onR_e, okK_s, okK_n, wO_some, wR_some, wB_some, wA_some, z_lf, z_shr, w_c, w_var, z_op, z_un, z_tB1, z_truR, z_chain, z_andT, z_orT, z_notT, z_andV, z_orV, z_notV, z_if, w_nil, z_cons, z_lst, z_tup, w_dct0, z_call, z_bn, z_sm, z_sl, z_star, z_sh, z_set, z_asg, z_drop, z_ret, w_retV, w_retN, w_nx, z_seq, w_frz, z_ifS, z_app, z_put, z_items, z_it, g_add, g_sub, g_neg, g_mul, g_rep, g_fdiv, g_mod, g_pow, g_addS, g_addL, g_cmp0, g_eqI, g_eqS, g_eqB, g_lenL, g_lenT, g_lenR, g_lenS, g_int, g_intB, g_str, g_listL, g_listT, g_listM, g_tup, g_abs, g_max2, g_min2, gz_ixL, gz_ixT, gz_ixR, g_slL, gi_bool_non, gi_bool_bl, gi_bool_int, gi_bool_str, gi_bool_lst, gi_bool_tup, gi_bool_scr, gi_bool_dct, gi_int_non, gi_int_bl, gi_int_int, gi_int_str, gi_int_lst, gi_int_tup, gi_int_scr, gi_int_dct, gi_str_non, gi_str_bl, gi_str_int, gi_str_str, gi_str_lst, gi_str_tup, gi_str_scr, gi_str_dct, gi_list_non, gi_list_bl, gi_list_int, gi_list_str, gi_list_lst, gi_list_tup, gi_list_scr, gi_list_dct, gi_tuple_non, gi_tuple_bl, gi_tuple_int, gi_tuple_str, gi_tuple_lst, gi_tuple_tup, gi_tuple_scr, gi_tuple_dct, gi_dict_non, gi_dict_bl, gi_dict_int, gi_dict_str, gi_dict_lst, gi_dict_tup, gi_dict_scr, gi_dict_dct, tr_b, true_and, and_true, eq_self, exO_some, hTL_l, hTL_t, hName_e, hCons_c, hNil_n, bind_so, it_l, it_t, it_r, List.getElem?_cons_zero, List.getElem?_cons_succ, List.set_cons_zero, List.set_cons_succ, true_and, and_true, Nat.zero_le, snb, nnb, ex_some, dT, if_true, Bool.false_eq_true, if_false, wipeE, Int.reduceLT, List.length_nil, List.length_cons, Nat.reduceAdd, Nat.reduceLeDiff, Nat.reduceLT, g_inS, g_ixS, g_slS, g_join, frz_def, g_sort, g_rev, List.length_map, List.length_range, Sy.D, scSy, atI_0, atI_1, atI_2, atI_3, atI_4, atI_5, atI_6, atI_7, atI_8, atI_9, atI_10, atI_11, atI_12, atI_13, atI_14, atI_15, atI_16, atI_17, atI_18, atI_19, atI_20, atI_21, atI_22, atI_23, atI_24, atI_25, atI_26, atI_27, atI_28, atI_29, atI_30, ne_place_value, ne_place_rising, ne_place_low, ne_place_high, ne_place_below, ne_place_same, ne_value_place, ne_value_rising, ne_value_low, ne_value_high, ne_value_below, ne_value_same, ne_rising_place, ne_rising_value, ne_rising_low, ne_rising_high, ne_rising_below, ne_rising_same, ne_low_place, ne_low_value, ne_low_rising, ne_low_high, ne_low_below, ne_low_same, ne_high_place, ne_high_value, ne_high_rising, ne_high_low, ne_high_below, ne_high_same, ne_below_place, ne_below_value, ne_below_rising, ne_below_low, ne_below_high, ne_below_same, ne_same_place, ne_same_value, ne_same_rising, ne_same_low, ne_same_high, ne_same_below, g_inT2, or_d, or_false, false_or, or_self, true_or, or_true, decide_true, decide_false, Bool.or_false, Bool.false_or, Bool.or_true, Bool.true_or, gi_int_op, gi_str_op, gi_int_tm, gi_str_tm, put_4, List.cons_append, List.nil_append]
    refine (sterm_1 t s (tm_small h.1)).mono ?_
    rintro r rfl
    simp only [Z1, Z2, z_bO0, z_bO1, z_for, z_lc, onV_v, onV_e, onS_v, onS_e, onB_v, onB_e, onBR_v, onBR_e, onA_v, onA_e, onVB_v, onVB_e, onVA_v, onVA_e, onAA_v, onAA_e, onAO_v, onAO_e, onBB_v, onBB_e, onO_n, onO_r, onO_b, onO_c, onO_e, onT_n, onT_c, onT_b, onT_r, onT_e, onR_n, onR_r, onR_e, okK_s, okK_n, wO_some, wR_some, wB_some, wA_some, z_lf, z_shr, w_c, w_var, z_op, z_un, z_tB1, z_truR, z_chain, z_andT, z_orT, z_notT, z_andV, z_orV, z_notV, z_if, w_nil, z_cons, z_lst, z_tup, w_dct0, z_call, z_bn, z_sm, z_sl, z_star, z_sh, z_set, z_asg, z_drop, z_ret, w_retV, w_retN, w_nx, z_seq, w_frz, z_ifS, z_app, z_put, z_items, z_it, g_add, g_sub, g_neg, g_mul, g_rep, g_fdiv, g_mod, g_pow, g_addS, g_addL, g_cmp0, g_eqI, g_eqS, g_eqB, g_lenL, g_lenT, g_lenR, g_lenS, g_int, g_intB, g_str, g_listL, g_listT, g_listM, g_tup, g_abs, g_max2, g_min2, gz_ixL, gz_ixT, gz_ixR, g_slL, gi_bool_non, gi_bool_bl, gi_bool_int, gi_bool_str, gi_bool_lst, gi_bool_tup, gi_bool_scr, gi_bool_dct, gi_int_non, gi_int_bl, gi_int_int, gi_int_str, gi_int_lst, gi_int_tup, gi_int_scr, gi_int_dct, gi_str_non, gi_str_bl, gi_str_int, gi_str_str, gi_str_lst, gi_str_tup, gi_str_scr, gi_str_dct, gi_list_non, gi_list_bl, gi_list_int, gi_list_str, gi_list_lst, gi_list_tup, gi_list_scr, gi_list_dct, gi_tuple_non, gi_tuple_bl, gi_tuple_int, gi_tuple_str, gi_tuple_lst, gi_tuple_tup, gi_tuple_scr, gi_tuple_dct, gi_dict_non, gi_dict_bl, gi_dict_int, gi_dict_str, gi_dict_lst, gi_dict_tup, gi_dict_scr, gi_dict_dct, tr_b, true_and, and_true, eq_self, exO_some, hTL_l, hTL_t, hName_e, hCons_c, hNil_n, bind_so, it_l, it_t, it_r, List.getElem?_cons_zero, List.getElem?_cons_succ, List.set_cons_zero, List.set_cons_succ, true_and, and_true, Nat.zero_le, snb, nnb, ex_some, dT, if_true, Bool.false_eq_true, if_false, wipeE, Int.reduceLT, List.length_nil, List.length_cons, Nat.reduceAdd, Nat.reduceLeDiff, Nat.reduceLT, g_inS, g_ixS, g_slS, g_join, frz_def, g_sort, g_rev, List.length_map, List.length_range, atI_0, atI_1, atI_2, atI_3, atI_4, atI_5, atI_6, atI_7, atI_8, atI_9, atI_10, atI_11, atI_12, atI_13, atI_14, atI_15, atI_16, atI_17, atI_18, atI_19, atI_20, atI_21, atI_22, atI_23, atI_24, atI_25, atI_26, atI_27, atI_28, atI_29, atI_30, ne_place_value, ne_place_rising, ne_place_low, ne_place_high, ne_place_below, ne_place_same, ne_value_place, ne_value_rising, ne_value_low, ne_value_high, ne_value_below, ne_value_same, ne_rising_place, ne_rising_value, ne_rising_low, ne_rising_high, ne_rising_below, ne_rising_same, ne_low_place, ne_low_value, ne_low_rising, ne_low_high, ne_low_below, ne_low_same, ne_high_place, ne_high_value, ne_high_rising, ne_high_low, ne_high_below, ne_high_same, ne_below_place, ne_below_value, ne_below_rising, ne_below_low, ne_below_high, ne_below_same, ne_same_place, ne_same_value, ne_same_rising, ne_same_low, ne_same_high, ne_same_below, g_inT2, or_d, or_false, false_or, or_self, true_or, or_true, decide_true, decide_false, Bool.or_false, Bool.false_or, Bool.or_true, Bool.true_or, gi_int_op, gi_str_op, gi_int_tm, gi_str_tm, put_4, List.cons_append, List.nil_append]
    refine (sterm_1 u s (tm_small h.2)).mono ?_
    rintro r rfl
    simp only [Z1, Z2, z_bO0, z_bO1, z_for, z_lc, onV_v, onV_e, onS_v, onS_e, onB_v, onB_e, onBR_v, onBR_e, onA_v, onA_e, onVB_v, onVB_e, onVA_v, onVA_e, onAA_v, onAA_e, onAO_v, onAO_e, onBB_v, onBB_e, onO_n, onO_r, onO_b, onO_c, onO_e, onT_n, onT_c, onT_b, onT_r, onT_e, onR_n, onR_r, onR_e, okK_s, okK_n, wO_some, wR_some, wB_some, wA_some, z_lf, z_shr, w_c, w_var, z_op, z_un, z_tB1, z_truR, z_chain, z_andT, z_orT, z_notT, z_andV, z_orV, z_notV, z_if, w_nil, z_cons, z_lst, z_tup, w_dct0, z_call, z_bn, z_sm, z_sl, z_star, z_sh, z_set, z_asg, z_drop, z_ret, w_retV, w_retN, w_nx, z_seq, w_frz, z_ifS, z_app, z_put, z_items, z_it, g_add, g_sub, g_neg, g_mul, g_rep, g_fdiv, g_mod, g_pow, g_addS, g_addL, g_cmp0, g_eqI, g_eqS, g_eqB, g_lenL, g_lenT, g_lenR, g_lenS, g_int, g_intB, g_str, g_listL, g_listT, g_listM, g_tup, g_abs, g_max2, g_min2, gz_ixL, gz_ixT, gz_ixR, g_slL, gi_bool_non, gi_bool_bl, gi_bool_int, gi_bool_str, gi_bool_lst, gi_bool_tup, gi_bool_scr, gi_bool_dct, gi_int_non, gi_int_bl, gi_int_int, gi_int_str, gi_int_lst, gi_int_tup, gi_int_scr, gi_int_dct, gi_str_non, gi_str_bl, gi_str_int, gi_str_str, gi_str_lst, gi_str_tup, gi_str_scr, gi_str_dct, gi_list_non, gi_list_bl, gi_list_int, gi_list_str, gi_list_lst, gi_list_tup, gi_list_scr, gi_list_dct, gi_tuple_non, gi_tuple_bl, gi_tuple_int, gi_tuple_str, gi_tuple_lst, gi_tuple_tup, gi_tuple_scr, gi_tuple_dct, gi_dict_non, gi_dict_bl, gi_dict_int, gi_dict_str, gi_dict_lst, gi_dict_tup, gi_dict_scr, gi_dict_dct, tr_b, true_and, and_true, eq_self, exO_some, hTL_l, hTL_t, hName_e, hCons_c, hNil_n, bind_so, it_l, it_t, it_r, List.getElem?_cons_zero, List.getElem?_cons_succ, List.set_cons_zero, List.set_cons_succ, true_and, and_true, Nat.zero_le, snb, nnb, ex_some, dT, if_true, Bool.false_eq_true, if_false, wipeE, Int.reduceLT, List.length_nil, List.length_cons, Nat.reduceAdd, Nat.reduceLeDiff, Nat.reduceLT, g_inS, g_ixS, g_slS, g_join, frz_def, g_sort, g_rev, List.length_map, List.length_range, scSy, Sy.D]
  | rising a e f =>
    simp only [start_def, List.map_cons, List.map_nil, List.length_cons, List.length_nil, Nat.reduceAdd, Nat.reduceSub, List.replicate_succ, List.replicate_zero, List.cons_append, List.nil_append, Z1, Z2, z_bO0, z_bO1, z_for, z_lc, onV_v, onV_e, onS_v, onS_e, onB_v, onB_e, onBR_v, onBR_e, onA_v, onA_e, onVB_v, onVB_e, onVA_v, onVA_e, onAA_v, onAA_e, onAO_v, onAO_e, onBB_v, onBB_e, onO_n, onO_r, onO_b, onO_c, onO_e, onT_n, onT_c, onT_b, onT_r, onT_e, onR_n, onR_r, onR_e, okK_s, okK_n, wO_some, wR_some, wB_some, wA_some, z_lf, z_shr, w_c, w_var, z_op, z_un, z_tB1, z_truR, z_chain, z_andT, z_orT, z_notT, z_andV, z_orV, z_notV, z_if, w_nil, z_cons, z_lst, z_tup, w_dct0, z_call, z_bn, z_sm, z_sl, z_star, z_sh, z_set, z_asg, z_drop, z_ret, w_retV, w_retN, w_nx, z_seq, w_frz, z_ifS, z_app, z_put, z_items, z_it, g_add, g_sub, g_neg, g_mul, g_rep, g_fdiv, g_mod, g_pow, g_addS, g_addL, g_cmp0, g_eqI, g_eqS, g_eqB, g_lenL, g_lenT, g_lenR, g_lenS, g_int, g_intB, g_str, g_listL, g_listT, g_listM, g_tup, g_abs, g_max2, g_min2, gz_ixL, gz_ixT, gz_ixR, g_slL, gi_bool_non, gi_bool_bl, gi_bool_int, gi_bool_str, gi_bool_lst, gi_bool_tup, gi_bool_scr, gi_bool_dct, gi_int_non, gi_int_bl, gi_int_int, gi_int_str, gi_int_lst, gi_int_tup, gi_int_scr, gi_int_dct, gi_str_non, gi_str_bl, gi_str_int, gi_str_str, gi_str_lst, gi_str_tup, gi_str_scr, gi_str_dct, gi_list_non, gi_list_bl, gi_list_int, gi_list_str, gi_list_lst, gi_list_tup, gi_list_scr, gi_list_dct, gi_tuple_non, gi_tuple_bl, gi_tuple_int, gi_tuple_str, gi_tuple_lst, gi_tuple_tup, gi_tuple_scr, gi_tuple_dct, gi_dict_non, gi_dict_bl, gi_dict_int, gi_dict_str, gi_dict_lst, gi_dict_tup, gi_dict_scr, gi_dict_dct, tr_b, true_and, and_true, eq_self, exO_some, hTL_l, hTL_t, hName_e, hCons_c, hNil_n, bind_so, it_l, it_t, it_r, List.getElem?_cons_zero, List.getElem?_cons_succ, List.set_cons_zero, List.set_cons_succ, true_and, and_true, Nat.zero_le, snb, nnb, ex_some, dT, if_true, Bool.false_eq_true, if_false, wipeE, Int.reduceLT, List.length_nil, List.length_cons, Nat.reduceAdd, Nat.reduceLeDiff, Nat.reduceLT, g_inS, g_ixS, g_slS, g_join, frz_def, g_sort, g_rev, List.length_map, List.length_range, Sy.D, scSy, atI_0, atI_1, atI_2, atI_3, atI_4, atI_5, atI_6, atI_7, atI_8, atI_9, atI_10, atI_11, atI_12, atI_13, atI_14, atI_15, atI_16, atI_17, atI_18, atI_19, atI_20, atI_21, atI_22, atI_23, atI_24, atI_25, atI_26, atI_27, atI_28, atI_29, atI_30, ne_place_value, ne_place_rising, ne_place_low, ne_place_high, ne_place_below, ne_place_same, ne_value_place, ne_value_rising, ne_value_low, ne_value_high, ne_value_below, ne_value_same, ne_rising_place, ne_rising_value, ne_rising_low, ne_rising_high, ne_rising_below, ne_rising_same, ne_low_place, ne_low_value, ne_low_rising, ne_low_high, ne_low_below, ne_low_same, ne_high_place, ne_high_value, ne_high_rising, ne_high_low, ne_high_below, ne_high_same, ne_below_place, ne_below_value, ne_below_rising, ne_below_low, ne_below_high, ne_below_same, ne_same_place, ne_same_value, ne_same_rising, ne_same_low, ne_same_high, ne_same_below, g_inT2, or_d, or_false, false_or, or_self, true_or, or_true, decide_true, decide_false, Bool.or_false, Bool.false_or, Bool.or_true, Bool.true_or, gi_int_op, gi_str_op, gi_int_tm, gi_str_tm, put_4, List.cons_append, List.nil_append, z_forD, z_forN]
    refine (sterm_op e s (op_small h.2.1)).mono ?_
    rintro r rfl
    simp only [Z1, Z2, z_bO0, z_bO1, z_for, z_lc, onV_v, onV_e, onS_v, onS_e, onB_v, onB_e, onBR_v, onBR_e, onA_v, onA_e, onVB_v, onVB_e, onVA_v, onVA_e, onAA_v, onAA_e, onAO_v, onAO_e, onBB_v, onBB_e, onO_n, onO_r, onO_b, onO_c, onO_e, onT_n, onT_c, onT_b, onT_r, onT_e, onR_n, onR_r, onR_e, okK_s, okK_n, wO_some, wR_some, wB_some, wA_some, z_lf, z_shr, w_c, w_var, z_op, z_un, z_tB1, z_truR, z_chain, z_andT, z_orT, z_notT, z_andV, z_orV, z_notV, z_if, w_nil, z_cons, z_lst, z_tup, w_dct0, z_call, z_bn, z_sm, z_sl, z_star, z_sh, z_set, z_asg, z_drop, z_ret, w_retV, w_retN, w_nx, z_seq, w_frz, z_ifS, z_app, z_put, z_items, z_it, g_add, g_sub, g_neg, g_mul, g_rep, g_fdiv, g_mod, g_pow, g_addS, g_addL, g_cmp0, g_eqI, g_eqS, g_eqB, g_lenL, g_lenT, g_lenR, g_lenS, g_int, g_intB, g_str, g_listL, g_listT, g_listM, g_tup, g_abs, g_max2, g_min2, gz_ixL, gz_ixT, gz_ixR, g_slL, gi_bool_non, gi_bool_bl, gi_bool_int, gi_bool_str, gi_bool_lst, gi_bool_tup, gi_bool_scr, gi_bool_dct, gi_int_non, gi_int_bl, gi_int_int, gi_int_str, gi_int_lst, gi_int_tup, gi_int_scr, gi_int_dct, gi_str_non, gi_str_bl, gi_str_int, gi_str_str, gi_str_lst, gi_str_tup, gi_str_scr, gi_str_dct, gi_list_non, gi_list_bl, gi_list_int, gi_list_str, gi_list_lst, gi_list_tup, gi_list_scr, gi_list_dct, gi_tuple_non, gi_tuple_bl, gi_tuple_int, gi_tuple_str, gi_tuple_lst, gi_tuple_tup, gi_tuple_scr, gi_tuple_dct, gi_dict_non, gi_dict_bl, gi_dict_int, gi_dict_str, gi_dict_lst, gi_dict_tup, gi_dict_scr, gi_dict_dct, tr_b, true_and, and_true, eq_self, exO_some, hTL_l, hTL_t, hName_e, hCons_c, hNil_n, bind_so, it_l, it_t, it_r, List.getElem?_cons_zero, List.getElem?_cons_succ, List.set_cons_zero, List.set_cons_succ, true_and, and_true, Nat.zero_le, snb, nnb, ex_some, dT, if_true, Bool.false_eq_true, if_false, wipeE, Int.reduceLT, List.length_nil, List.length_cons, Nat.reduceAdd, Nat.reduceLeDiff, Nat.reduceLT, g_inS, g_ixS, g_slS, g_join, frz_def, g_sort, g_rev, List.length_map, List.length_range, atI_0, atI_1, atI_2, atI_3, atI_4, atI_5, atI_6, atI_7, atI_8, atI_9, atI_10, atI_11, atI_12, atI_13, atI_14, atI_15, atI_16, atI_17, atI_18, atI_19, atI_20, atI_21, atI_22, atI_23, atI_24, atI_25, atI_26, atI_27, atI_28, atI_29, atI_30, ne_place_value, ne_place_rising, ne_place_low, ne_place_high, ne_place_below, ne_place_same, ne_value_place, ne_value_rising, ne_value_low, ne_value_high, ne_value_below, ne_value_same, ne_rising_place, ne_rising_value, ne_rising_low, ne_rising_high, ne_rising_below, ne_rising_same, ne_low_place, ne_low_value, ne_low_rising, ne_low_high, ne_low_below, ne_low_same, ne_high_place, ne_high_value, ne_high_rising, ne_high_low, ne_high_below, ne_high_same, ne_below_place, ne_below_value, ne_below_rising, ne_below_low, ne_below_high, ne_below_same, ne_same_place, ne_same_value, ne_same_rising, ne_same_low, ne_same_high, ne_same_below, g_inT2, or_d, or_false, false_or, or_self, true_or, or_true, decide_true, decide_false, Bool.or_false, Bool.false_or, Bool.or_true, Bool.true_or, gi_int_op, gi_str_op, gi_int_tm, gi_str_tm, put_4, List.cons_append, List.nil_append, z_forD, z_forN]
    refine (sterm_op f s (op_small h.2.2)).mono ?_
    rintro r rfl
    simp only [Z1, Z2, z_bO0, z_bO1, z_for, z_lc, onV_v, onV_e, onS_v, onS_e, onB_v, onB_e, onBR_v, onBR_e, onA_v, onA_e, onVB_v, onVB_e, onVA_v, onVA_e, onAA_v, onAA_e, onAO_v, onAO_e, onBB_v, onBB_e, onO_n, onO_r, onO_b, onO_c, onO_e, onT_n, onT_c, onT_b, onT_r, onT_e, onR_n, onR_r, onR_e, okK_s, okK_n, wO_some, wR_some, wB_some, wA_some, z_lf, z_shr, w_c, w_var, z_op, z_un, z_tB1, z_truR, z_chain, z_andT, z_orT, z_notT, z_andV, z_orV, z_notV, z_if, w_nil, z_cons, z_lst, z_tup, w_dct0, z_call, z_bn, z_sm, z_sl, z_star, z_sh, z_set, z_asg, z_drop, z_ret, w_retV, w_retN, w_nx, z_seq, w_frz, z_ifS, z_app, z_put, z_items, z_it, g_add, g_sub, g_neg, g_mul, g_rep, g_fdiv, g_mod, g_pow, g_addS, g_addL, g_cmp0, g_eqI, g_eqS, g_eqB, g_lenL, g_lenT, g_lenR, g_lenS, g_int, g_intB, g_str, g_listL, g_listT, g_listM, g_tup, g_abs, g_max2, g_min2, gz_ixL, gz_ixT, gz_ixR, g_slL, gi_bool_non, gi_bool_bl, gi_bool_int, gi_bool_str, gi_bool_lst, gi_bool_tup, gi_bool_scr, gi_bool_dct, gi_int_non, gi_int_bl, gi_int_int, gi_int_str, gi_int_lst, gi_int_tup, gi_int_scr, gi_int_dct, gi_str_non, gi_str_bl, gi_str_int, gi_str_str, gi_str_lst, gi_str_tup, gi_str_scr, gi_str_dct, gi_list_non, gi_list_bl, gi_list_int, gi_list_str, gi_list_lst, gi_list_tup, gi_list_scr, gi_list_dct, gi_tuple_non, gi_tuple_bl, gi_tuple_int, gi_tuple_str, gi_tuple_lst, gi_tuple_tup, gi_tuple_scr, gi_tuple_dct, gi_dict_non, gi_dict_bl, gi_dict_int, gi_dict_str, gi_dict_lst, gi_dict_tup, gi_dict_scr, gi_dict_dct, tr_b, true_and, and_true, eq_self, exO_some, hTL_l, hTL_t, hName_e, hCons_c, hNil_n, bind_so, it_l, it_t, it_r, List.getElem?_cons_zero, List.getElem?_cons_succ, List.set_cons_zero, List.set_cons_succ, true_and, and_true, Nat.zero_le, snb, nnb, ex_some, dT, if_true, Bool.false_eq_true, if_false, wipeE, Int.reduceLT, List.length_nil, List.length_cons, Nat.reduceAdd, Nat.reduceLeDiff, Nat.reduceLT, g_inS, g_ixS, g_slS, g_join, frz_def, g_sort, g_rev, List.length_map, List.length_range, atI_0, atI_1, atI_2, atI_3, atI_4, atI_5, atI_6, atI_7, atI_8, atI_9, atI_10, atI_11, atI_12, atI_13, atI_14, atI_15, atI_16, atI_17, atI_18, atI_19, atI_20, atI_21, atI_22, atI_23, atI_24, atI_25, atI_26, atI_27, atI_28, atI_29, atI_30, ne_place_value, ne_place_rising, ne_place_low, ne_place_high, ne_place_below, ne_place_same, ne_value_place, ne_value_rising, ne_value_low, ne_value_high, ne_value_below, ne_value_same, ne_rising_place, ne_rising_value, ne_rising_low, ne_rising_high, ne_rising_below, ne_rising_same, ne_low_place, ne_low_value, ne_low_rising, ne_low_high, ne_low_below, ne_low_same, ne_high_place, ne_high_value, ne_high_rising, ne_high_low, ne_high_below, ne_high_same, ne_below_place, ne_below_value, ne_below_rising, ne_below_low, ne_below_high, ne_below_same, ne_same_place, ne_same_value, ne_same_rising, ne_same_low, ne_same_high, ne_same_below, g_inT2, or_d, or_false, false_or, or_self, true_or, or_true, decide_true, decide_false, Bool.or_false, Bool.false_or, Bool.or_true, Bool.true_or, gi_int_op, gi_str_op, gi_int_tm, gi_str_tm, put_4, List.cons_append, List.nil_append, z_forD, z_forN, scSy, Sy.D]
  | low a e f t =>
    simp only [start_def, List.map_cons, List.map_nil, List.length_cons, List.length_nil, Nat.reduceAdd, Nat.reduceSub, List.replicate_succ, List.replicate_zero, List.cons_append, List.nil_append, Z1, Z2, z_bO0, z_bO1, z_for, z_lc, onV_v, onV_e, onS_v, onS_e, onB_v, onB_e, onBR_v, onBR_e, onA_v, onA_e, onVB_v, onVB_e, onVA_v, onVA_e, onAA_v, onAA_e, onAO_v, onAO_e, onBB_v, onBB_e, onO_n, onO_r, onO_b, onO_c, onO_e, onT_n, onT_c, onT_b, onT_r, onT_e, onR_n, onR_r, onR_e, okK_s, okK_n, wO_some, wR_some, wB_some, wA_some, z_lf, z_shr, w_c, w_var, z_op, z_un, z_tB1, z_truR, z_chain, z_andT, z_orT, z_notT, z_andV, z_orV, z_notV, z_if, w_nil, z_cons, z_lst, z_tup, w_dct0, z_call, z_bn, z_sm, z_sl, z_star, z_sh, z_set, z_asg, z_drop, z_ret, w_retV, w_retN, w_nx, z_seq, w_frz, z_ifS, z_app, z_put, z_items, z_it, g_add, g_sub, g_neg, g_mul, g_rep, g_fdiv, g_mod, g_pow, g_addS, g_addL, g_cmp0, g_eqI, g_eqS, g_eqB, g_lenL, g_lenT, g_lenR, g_lenS, g_int, g_intB, g_str, g_listL, g_listT, g_listM, g_tup, g_abs, g_max2, g_min2, gz_ixL, gz_ixT, gz_ixR, g_slL, gi_bool_non, gi_bool_bl, gi_bool_int, gi_bool_str, gi_bool_lst, gi_bool_tup, gi_bool_scr, gi_bool_dct, gi_int_non, gi_int_bl, gi_int_int, gi_int_str, gi_int_lst, gi_int_tup, gi_int_scr, gi_int_dct, gi_str_non, gi_str_bl, gi_str_int, gi_str_str, gi_str_lst, gi_str_tup, gi_str_scr, gi_str_dct, gi_list_non, gi_list_bl, gi_list_int, gi_list_str, gi_list_lst, gi_list_tup, gi_list_scr, gi_list_dct, gi_tuple_non, gi_tuple_bl, gi_tuple_int, gi_tuple_str, gi_tuple_lst, gi_tuple_tup, gi_tuple_scr, gi_tuple_dct, gi_dict_non, gi_dict_bl, gi_dict_int, gi_dict_str, gi_dict_lst, gi_dict_tup, gi_dict_scr, gi_dict_dct, tr_b, true_and, and_true, eq_self, exO_some, hTL_l, hTL_t, hName_e, hCons_c, hNil_n, bind_so, it_l, it_t, it_r, List.getElem?_cons_zero, List.getElem?_cons_succ, List.set_cons_zero, List.set_cons_succ, true_and, and_true, Nat.zero_le, snb, nnb, ex_some, dT, if_true, Bool.false_eq_true, if_false, wipeE, Int.reduceLT, List.length_nil, List.length_cons, Nat.reduceAdd, Nat.reduceLeDiff, Nat.reduceLT, g_inS, g_ixS, g_slS, g_join, frz_def, g_sort, g_rev, List.length_map, List.length_range, Sy.D, scSy, atI_0, atI_1, atI_2, atI_3, atI_4, atI_5, atI_6, atI_7, atI_8, atI_9, atI_10, atI_11, atI_12, atI_13, atI_14, atI_15, atI_16, atI_17, atI_18, atI_19, atI_20, atI_21, atI_22, atI_23, atI_24, atI_25, atI_26, atI_27, atI_28, atI_29, atI_30, ne_place_value, ne_place_rising, ne_place_low, ne_place_high, ne_place_below, ne_place_same, ne_value_place, ne_value_rising, ne_value_low, ne_value_high, ne_value_below, ne_value_same, ne_rising_place, ne_rising_value, ne_rising_low, ne_rising_high, ne_rising_below, ne_rising_same, ne_low_place, ne_low_value, ne_low_rising, ne_low_high, ne_low_below, ne_low_same, ne_high_place, ne_high_value, ne_high_rising, ne_high_low, ne_high_below, ne_high_same, ne_below_place, ne_below_value, ne_below_rising, ne_below_low, ne_below_high, ne_below_same, ne_same_place, ne_same_value, ne_same_rising, ne_same_low, ne_same_high, ne_same_below, g_inT2, or_d, or_false, false_or, or_self, true_or, or_true, decide_true, decide_false, Bool.or_false, Bool.false_or, Bool.or_true, Bool.true_or, gi_int_op, gi_str_op, gi_int_tm, gi_str_tm, put_4, List.cons_append, List.nil_append, z_forD, z_forN]
    refine (sterm_op e s (op_small h.2.1)).mono ?_
    rintro r rfl
    simp only [Z1, Z2, z_bO0, z_bO1, z_for, z_lc, onV_v, onV_e, onS_v, onS_e, onB_v, onB_e, onBR_v, onBR_e, onA_v, onA_e, onVB_v, onVB_e, onVA_v, onVA_e, onAA_v, onAA_e, onAO_v, onAO_e, onBB_v, onBB_e, onO_n, onO_r, onO_b, onO_c, onO_e, onT_n, onT_c, onT_b, onT_r, onT_e, onR_n, onR_r, onR_e, okK_s, okK_n, wO_some, wR_some, wB_some, wA_some, z_lf, z_shr, w_c, w_var, z_op, z_un, z_tB1, z_truR, z_chain, z_andT, z_orT, z_notT, z_andV, z_orV, z_notV, z_if, w_nil, z_cons, z_lst, z_tup, w_dct0, z_call, z_bn, z_sm, z_sl, z_star, z_sh, z_set, z_asg, z_drop, z_ret, w_retV, w_retN, w_nx, z_seq, w_frz, z_ifS, z_app, z_put, z_items, z_it, g_add, g_sub, g_neg, g_mul, g_rep, g_fdiv, g_mod, g_pow, g_addS, g_addL, g_cmp0, g_eqI, g_eqS, g_eqB, g_lenL, g_lenT, g_lenR, g_lenS, g_int, g_intB, g_str, g_listL, g_listT, g_listM, g_tup, g_abs, g_max2, g_min2, gz_ixL, gz_ixT, gz_ixR, g_slL, gi_bool_non, gi_bool_bl, gi_bool_int, gi_bool_str, gi_bool_lst, gi_bool_tup, gi_bool_scr, gi_bool_dct, gi_int_non, gi_int_bl, gi_int_int, gi_int_str, gi_int_lst, gi_int_tup, gi_int_scr, gi_int_dct, gi_str_non, gi_str_bl, gi_str_int, gi_str_str, gi_str_lst, gi_str_tup, gi_str_scr, gi_str_dct, gi_list_non, gi_list_bl, gi_list_int, gi_list_str, gi_list_lst, gi_list_tup, gi_list_scr, gi_list_dct, gi_tuple_non, gi_tuple_bl, gi_tuple_int, gi_tuple_str, gi_tuple_lst, gi_tuple_tup, gi_tuple_scr, gi_tuple_dct, gi_dict_non, gi_dict_bl, gi_dict_int, gi_dict_str, gi_dict_lst, gi_dict_tup, gi_dict_scr, gi_dict_dct, tr_b, true_and, and_true, eq_self, exO_some, hTL_l, hTL_t, hName_e, hCons_c, hNil_n, bind_so, it_l, it_t, it_r, List.getElem?_cons_zero, List.getElem?_cons_succ, List.set_cons_zero, List.set_cons_succ, true_and, and_true, Nat.zero_le, snb, nnb, ex_some, dT, if_true, Bool.false_eq_true, if_false, wipeE, Int.reduceLT, List.length_nil, List.length_cons, Nat.reduceAdd, Nat.reduceLeDiff, Nat.reduceLT, g_inS, g_ixS, g_slS, g_join, frz_def, g_sort, g_rev, List.length_map, List.length_range, atI_0, atI_1, atI_2, atI_3, atI_4, atI_5, atI_6, atI_7, atI_8, atI_9, atI_10, atI_11, atI_12, atI_13, atI_14, atI_15, atI_16, atI_17, atI_18, atI_19, atI_20, atI_21, atI_22, atI_23, atI_24, atI_25, atI_26, atI_27, atI_28, atI_29, atI_30, ne_place_value, ne_place_rising, ne_place_low, ne_place_high, ne_place_below, ne_place_same, ne_value_place, ne_value_rising, ne_value_low, ne_value_high, ne_value_below, ne_value_same, ne_rising_place, ne_rising_value, ne_rising_low, ne_rising_high, ne_rising_below, ne_rising_same, ne_low_place, ne_low_value, ne_low_rising, ne_low_high, ne_low_below, ne_low_same, ne_high_place, ne_high_value, ne_high_rising, ne_high_low, ne_high_below, ne_high_same, ne_below_place, ne_below_value, ne_below_rising, ne_below_low, ne_below_high, ne_below_same, ne_same_place, ne_same_value, ne_same_rising, ne_same_low, ne_same_high, ne_same_below, g_inT2, or_d, or_false, false_or, or_self, true_or, or_true, decide_true, decide_false, Bool.or_false, Bool.false_or, Bool.or_true, Bool.true_or, gi_int_op, gi_str_op, gi_int_tm, gi_str_tm, put_4, List.cons_append, List.nil_append, z_forD, z_forN]
    refine (sterm_op f s (op_small h.2.2.1)).mono ?_
    rintro r rfl
    simp only [Z1, Z2, z_bO0, z_bO1, z_for, z_lc, onV_v, onV_e, onS_v, onS_e, onB_v, onB_e, onBR_v, onBR_e, onA_v, onA_e, onVB_v, onVB_e, onVA_v, onVA_e, onAA_v, onAA_e, onAO_v, onAO_e, onBB_v, onBB_e, onO_n, onO_r, onO_b, onO_c, onO_e, onT_n, onT_c, onT_b, onT_r, onT_e, onR_n, onR_r, onR_e, okK_s, okK_n, wO_some, wR_some, wB_some, wA_some, z_lf, z_shr, w_c, w_var, z_op, z_un, z_tB1, z_truR, z_chain, z_andT, z_orT, z_notT, z_andV, z_orV, z_notV, z_if, w_nil, z_cons, z_lst, z_tup, w_dct0, z_call, z_bn, z_sm, z_sl, z_star, z_sh, z_set, z_asg, z_drop, z_ret, w_retV, w_retN, w_nx, z_seq, w_frz, z_ifS, z_app, z_put, z_items, z_it, g_add, g_sub, g_neg, g_mul, g_rep, g_fdiv, g_mod, g_pow, g_addS, g_addL, g_cmp0, g_eqI, g_eqS, g_eqB, g_lenL, g_lenT, g_lenR, g_lenS, g_int, g_intB, g_str, g_listL, g_listT, g_listM, g_tup, g_abs, g_max2, g_min2, gz_ixL, gz_ixT, gz_ixR, g_slL, gi_bool_non, gi_bool_bl, gi_bool_int, gi_bool_str, gi_bool_lst, gi_bool_tup, gi_bool_scr, gi_bool_dct, gi_int_non, gi_int_bl, gi_int_int, gi_int_str, gi_int_lst, gi_int_tup, gi_int_scr, gi_int_dct, gi_str_non, gi_str_bl, gi_str_int, gi_str_str, gi_str_lst, gi_str_tup, gi_str_scr, gi_str_dct, gi_list_non, gi_list_bl, gi_list_int, gi_list_str, gi_list_lst, gi_list_tup, gi_list_scr, gi_list_dct, gi_tuple_non, gi_tuple_bl, gi_tuple_int, gi_tuple_str, gi_tuple_lst, gi_tuple_tup, gi_tuple_scr, gi_tuple_dct, gi_dict_non, gi_dict_bl, gi_dict_int, gi_dict_str, gi_dict_lst, gi_dict_tup, gi_dict_scr, gi_dict_dct, tr_b, true_and, and_true, eq_self, exO_some, hTL_l, hTL_t, hName_e, hCons_c, hNil_n, bind_so, it_l, it_t, it_r, List.getElem?_cons_zero, List.getElem?_cons_succ, List.set_cons_zero, List.set_cons_succ, true_and, and_true, Nat.zero_le, snb, nnb, ex_some, dT, if_true, Bool.false_eq_true, if_false, wipeE, Int.reduceLT, List.length_nil, List.length_cons, Nat.reduceAdd, Nat.reduceLeDiff, Nat.reduceLT, g_inS, g_ixS, g_slS, g_join, frz_def, g_sort, g_rev, List.length_map, List.length_range, atI_0, atI_1, atI_2, atI_3, atI_4, atI_5, atI_6, atI_7, atI_8, atI_9, atI_10, atI_11, atI_12, atI_13, atI_14, atI_15, atI_16, atI_17, atI_18, atI_19, atI_20, atI_21, atI_22, atI_23, atI_24, atI_25, atI_26, atI_27, atI_28, atI_29, atI_30, ne_place_value, ne_place_rising, ne_place_low, ne_place_high, ne_place_below, ne_place_same, ne_value_place, ne_value_rising, ne_value_low, ne_value_high, ne_value_below, ne_value_same, ne_rising_place, ne_rising_value, ne_rising_low, ne_rising_high, ne_rising_below, ne_rising_same, ne_low_place, ne_low_value, ne_low_rising, ne_low_high, ne_low_below, ne_low_same, ne_high_place, ne_high_value, ne_high_rising, ne_high_low, ne_high_below, ne_high_same, ne_below_place, ne_below_value, ne_below_rising, ne_below_low, ne_below_high, ne_below_same, ne_same_place, ne_same_value, ne_same_rising, ne_same_low, ne_same_high, ne_same_below, g_inT2, or_d, or_false, false_or, or_self, true_or, or_true, decide_true, decide_false, Bool.or_false, Bool.false_or, Bool.or_true, Bool.true_or, gi_int_op, gi_str_op, gi_int_tm, gi_str_tm, put_4, List.cons_append, List.nil_append, z_forD, z_forN]
    refine (sterm_0 t s (tm_small h.2.2.2)).mono ?_
    rintro r ⟨d0, rfl⟩
    simp only [Z1, Z2, z_bO0, z_bO1, z_for, z_lc, onV_v, onV_e, onS_v, onS_e, onB_v, onB_e, onBR_v, onBR_e, onA_v, onA_e, onVB_v, onVB_e, onVA_v, onVA_e, onAA_v, onAA_e, onAO_v, onAO_e, onBB_v, onBB_e, onO_n, onO_r, onO_b, onO_c, onO_e, onT_n, onT_c, onT_b, onT_r, onT_e, onR_n, onR_r, onR_e, okK_s, okK_n, wO_some, wR_some, wB_some, wA_some, z_lf, z_shr, w_c, w_var, z_op, z_un, z_tB1, z_truR, z_chain, z_andT, z_orT, z_notT, z_andV, z_orV, z_notV, z_if, w_nil, z_cons, z_lst, z_tup, w_dct0, z_call, z_bn, z_sm, z_sl, z_star, z_sh, z_set, z_asg, z_drop, z_ret, w_retV, w_retN, w_nx, z_seq, w_frz, z_ifS, z_app, z_put, z_items, z_it, g_add, g_sub, g_neg, g_mul, g_rep, g_fdiv, g_mod, g_pow, g_addS, g_addL, g_cmp0, g_eqI, g_eqS, g_eqB, g_lenL, g_lenT, g_lenR, g_lenS, g_int, g_intB, g_str, g_listL, g_listT, g_listM, g_tup, g_abs, g_max2, g_min2, gz_ixL, gz_ixT, gz_ixR, g_slL, gi_bool_non, gi_bool_bl, gi_bool_int, gi_bool_str, gi_bool_lst, gi_bool_tup, gi_bool_scr, gi_bool_dct, gi_int_non, gi_int_bl, gi_int_int, gi_int_str, gi_int_lst, gi_int_tup, gi_int_scr, gi_int_dct, gi_str_non, gi_str_bl, gi_str_int, gi_str_str, gi_str_lst, gi_str_tup, gi_str_scr, gi_str_dct, gi_list_non, gi_list_bl, gi_list_int, gi_list_str, gi_list_lst, gi_list_tup, gi_list_scr, gi_list_dct, gi_tuple_non, gi_tuple_bl, gi_tuple_int, gi_tuple_str, gi_tuple_lst, gi_tuple_tup, gi_tuple_scr, gi_tuple_dct, gi_dict_non, gi_dict_bl, gi_dict_int, gi_dict_str, gi_dict_lst, gi_dict_tup, gi_dict_scr, gi_dict_dct, tr_b, true_and, and_true, eq_self, exO_some, hTL_l, hTL_t, hName_e, hCons_c, hNil_n, bind_so, it_l, it_t, it_r, List.getElem?_cons_zero, List.getElem?_cons_succ, List.set_cons_zero, List.set_cons_succ, true_and, and_true, Nat.zero_le, snb, nnb, ex_some, dT, if_true, Bool.false_eq_true, if_false, wipeE, Int.reduceLT, List.length_nil, List.length_cons, Nat.reduceAdd, Nat.reduceLeDiff, Nat.reduceLT, g_inS, g_ixS, g_slS, g_join, frz_def, g_sort, g_rev, List.length_map, List.length_range, atI_0, atI_1, atI_2, atI_3, atI_4, atI_5, atI_6, atI_7, atI_8, atI_9, atI_10, atI_11, atI_12, atI_13, atI_14, atI_15, atI_16, atI_17, atI_18, atI_19, atI_20, atI_21, atI_22, atI_23, atI_24, atI_25, atI_26, atI_27, atI_28, atI_29, atI_30, ne_place_value, ne_place_rising, ne_place_low, ne_place_high, ne_place_below, ne_place_same, ne_value_place, ne_value_rising, ne_value_low, ne_value_high, ne_value_below, ne_value_same, ne_rising_place, ne_rising_value, ne_rising_low, ne_rising_high, ne_rising_below, ne_rising_same, ne_low_place, ne_low_value, ne_low_rising, ne_low_high, ne_low_below, ne_low_same, ne_high_place, ne_high_value, ne_high_rising, ne_high_low, ne_high_below, ne_high_same, ne_below_place, ne_below_value, ne_below_rising, ne_below_low, ne_below_high, ne_below_same, ne_same_place, ne_same_value, ne_same_rising, ne_same_low, ne_same_high, ne_same_below, g_inT2, or_d, or_false, false_or, or_self, true_or, or_true, decide_true, decide_false, Bool.or_false, Bool.false_or, Bool.or_true, Bool.true_or, gi_int_op, gi_str_op, gi_int_tm, gi_str_tm, put_4, List.cons_append, List.nil_append, z_forD, z_forN]
    refine (sterm_1 t s (tm_small h.2.2.2)).mono ?_
    rintro r rfl
    simp only [Z1, Z2, z_bO0, z_bO1, z_for, z_lc, onV_v, onV_e, onS_v, onS_e, onB_v, onB_e, onBR_v, onBR_e, onA_v, onA_e, onVB_v, onVB_e, onVA_v, onVA_e, onAA_v, onAA_e, onAO_v, onAO_e, onBB_v, onBB_e, onO_n, onO_r, onO_b, onO_c, onO_e, onT_n, onT_c, onT_b, onT_r, onT_e, onR_n, onR_r, onR_e, okK_s, okK_n, wO_some, wR_some, wB_some, wA_some, z_lf, z_shr, w_c, w_var, z_op, z_un, z_tB1, z_truR, z_chain, z_andT, z_orT, z_notT, z_andV, z_orV, z_notV, z_if, w_nil, z_cons, z_lst, z_tup, w_dct0, z_call, z_bn, z_sm, z_sl, z_star, z_sh, z_set, z_asg, z_drop, z_ret, w_retV, w_retN, w_nx, z_seq, w_frz, z_ifS, z_app, z_put, z_items, z_it, g_add, g_sub, g_neg, g_mul, g_rep, g_fdiv, g_mod, g_pow, g_addS, g_addL, g_cmp0, g_eqI, g_eqS, g_eqB, g_lenL, g_lenT, g_lenR, g_lenS, g_int, g_intB, g_str, g_listL, g_listT, g_listM, g_tup, g_abs, g_max2, g_min2, gz_ixL, gz_ixT, gz_ixR, g_slL, gi_bool_non, gi_bool_bl, gi_bool_int, gi_bool_str, gi_bool_lst, gi_bool_tup, gi_bool_scr, gi_bool_dct, gi_int_non, gi_int_bl, gi_int_int, gi_int_str, gi_int_lst, gi_int_tup, gi_int_scr, gi_int_dct, gi_str_non, gi_str_bl, gi_str_int, gi_str_str, gi_str_lst, gi_str_tup, gi_str_scr, gi_str_dct, gi_list_non, gi_list_bl, gi_list_int, gi_list_str, gi_list_lst, gi_list_tup, gi_list_scr, gi_list_dct, gi_tuple_non, gi_tuple_bl, gi_tuple_int, gi_tuple_str, gi_tuple_lst, gi_tuple_tup, gi_tuple_scr, gi_tuple_dct, gi_dict_non, gi_dict_bl, gi_dict_int, gi_dict_str, gi_dict_lst, gi_dict_tup, gi_dict_scr, gi_dict_dct, tr_b, true_and, and_true, eq_self, exO_some, hTL_l, hTL_t, hName_e, hCons_c, hNil_n, bind_so, it_l, it_t, it_r, List.getElem?_cons_zero, List.getElem?_cons_succ, List.set_cons_zero, List.set_cons_succ, true_and, and_true, Nat.zero_le, snb, nnb, ex_some, dT, if_true, Bool.false_eq_true, if_false, wipeE, Int.reduceLT, List.length_nil, List.length_cons, Nat.reduceAdd, Nat.reduceLeDiff, Nat.reduceLT, g_inS, g_ixS, g_slS, g_join, frz_def, g_sort, g_rev, List.length_map, List.length_range, atI_0, atI_1, atI_2, atI_3, atI_4, atI_5, atI_6, atI_7, atI_8, atI_9, atI_10, atI_11, atI_12, atI_13, atI_14, atI_15, atI_16, atI_17, atI_18, atI_19, atI_20, atI_21, atI_22, atI_23, atI_24, atI_25, atI_26, atI_27, atI_28, atI_29, atI_30, ne_place_value, ne_place_rising, ne_place_low, ne_place_high, ne_place_below, ne_place_same, ne_value_place, ne_value_rising, ne_value_low, ne_value_high, ne_value_below, ne_value_same, ne_rising_place, ne_rising_value, ne_rising_low, ne_rising_high, ne_rising_below, ne_rising_same, ne_low_place, ne_low_value, ne_low_rising, ne_low_high, ne_low_below, ne_low_same, ne_high_place, ne_high_value, ne_high_rising, ne_high_low, ne_high_below, ne_high_same, ne_below_place, ne_below_value, ne_below_rising, ne_below_low, ne_below_high, ne_below_same, ne_same_place, ne_same_value, ne_same_rising, ne_same_low, ne_same_high, ne_same_below, g_inT2, or_d, or_false, false_or, or_self, true_or, or_true, decide_true, decide_false, Bool.or_false, Bool.false_or, Bool.or_true, Bool.true_or, gi_int_op, gi_str_op, gi_int_tm, gi_str_tm, put_4, List.cons_append, List.nil_append, z_forD, z_forN]
  | high a e f t =>
    simp only [start_def, List.map_cons, List.map_nil, List.length_cons, List.length_nil, Nat.reduceAdd, Nat.reduceSub, List.replicate_succ, List.replicate_zero, List.cons_append, List.nil_append, Z1, Z2, z_bO0, z_bO1, z_for, z_lc, onV_v, onV_e, onS_v, onS_e, onB_v, onB_e, onBR_v, onBR_e, onA_v, onA_e, onVB_v, onVB_e, onVA_v, onVA_e, onAA_v, onAA_e, onAO_v, onAO_e, onBB_v, onBB_e, onO_n, onO_r, onO_b, onO_c, onO_e, onT_n, onT_c, onT_b, onT_r, onT_e, onR_n, onR_r, onR_e, okK_s, okK_n, wO_some, wR_some, wB_some, wA_some, z_lf, z_shr, w_c, w_var, z_op, z_un, z_tB1, z_truR, z_chain, z_andT, z_orT, z_notT, z_andV, z_orV, z_notV, z_if, w_nil, z_cons, z_lst, z_tup, w_dct0, z_call, z_bn, z_sm, z_sl, z_star, z_sh, z_set, z_asg, z_drop, z_ret, w_retV, w_retN, w_nx, z_seq, w_frz, z_ifS, z_app, z_put, z_items, z_it, g_add, g_sub, g_neg, g_mul, g_rep, g_fdiv, g_mod, g_pow, g_addS, g_addL, g_cmp0, g_eqI, g_eqS, g_eqB, g_lenL, g_lenT, g_lenR, g_lenS, g_int, g_intB, g_str, g_listL, g_listT, g_listM, g_tup, g_abs, g_max2, g_min2, gz_ixL, gz_ixT, gz_ixR, g_slL, gi_bool_non, gi_bool_bl, gi_bool_int, gi_bool_str, gi_bool_lst, gi_bool_tup, gi_bool_scr, gi_bool_dct, gi_int_non, gi_int_bl, gi_int_int, gi_int_str, gi_int_lst, gi_int_tup, gi_int_scr, gi_int_dct, gi_str_non, gi_str_bl, gi_str_int, gi_str_str, gi_str_lst, gi_str_tup, gi_str_scr, gi_str_dct, gi_list_non, gi_list_bl, gi_list_int, gi_list_str, gi_list_lst, gi_list_tup, gi_list_scr, gi_list_dct, gi_tuple_non, gi_tuple_bl, gi_tuple_int, gi_tuple_str, gi_tuple_lst, gi_tuple_tup, gi_tuple_scr, gi_tuple_dct, gi_dict_non, gi_dict_bl, gi_dict_int, gi_dict_str, gi_dict_lst, gi_dict_tup, gi_dict_scr, gi_dict_dct, tr_b, true_and, and_true, eq_self, exO_some, hTL_l, hTL_t, hName_e, hCons_c, hNil_n, bind_so, it_l, it_t, it_r, List.getElem?_cons_zero, List.getElem?_cons_succ, List.set_cons_zero, List.set_cons_succ, true_and, and_true, Nat.zero_le, snb, nnb, ex_some, dT, if_true, Bool.false_eq_true, if_false, wipeE, Int.reduceLT, List.length_nil, List.length_cons, Nat.reduceAdd, Nat.reduceLeDiff, Nat.reduceLT, g_inS, g_ixS, g_slS, g_join, frz_def, g_sort, g_rev, List.length_map, List.length_range, Sy.D, scSy, atI_0, atI_1, atI_2, atI_3, atI_4, atI_5, atI_6, atI_7, atI_8, atI_9, atI_10, atI_11, atI_12, atI_13, atI_14, atI_15, atI_16, atI_17, atI_18, atI_19, atI_20, atI_21, atI_22, atI_23, atI_24, atI_25, atI_26, atI_27, atI_28, atI_29, atI_30, ne_place_value, ne_place_rising, ne_place_low, ne_place_high, ne_place_below, ne_place_same, ne_value_place, ne_value_rising, ne_value_low, ne_value_high, ne_value_below, ne_value_same, ne_rising_place, ne_rising_value, ne_rising_low, ne_rising_high, ne_rising_below, ne_rising_same, ne_low_place, ne_low_value, ne_low_rising, ne_low_high, ne_low_below, ne_low_same, ne_high_place, ne_high_value, ne_high_rising, ne_high_low, ne_high_below, ne_high_same, ne_below_place, ne_below_value, ne_below_rising, ne_below_low, ne_below_high, ne_below_same, ne_same_place, ne_same_value, ne_same_rising, ne_same_low, ne_same_high, ne_same_below, g_inT2, or_d, or_false, false_or, or_self, true_or, or_true, decide_true, decide_false, Bool.or_false, Bool.false_or, Bool.or_true, Bool.true_or, gi_int_op, gi_str_op, gi_int_tm, gi_str_tm, put_4, List.cons_append, List.nil_append, z_forD, z_forN]
    refine (sterm_op e s (op_small h.2.1)).mono ?_
    rintro r rfl
    simp only [Z1, Z2, z_bO0, z_bO1, z_for, z_lc, onV_v, onV_e, onS_v, onS_e, onB_v, onB_e, onBR_v, onBR_e, onA_v, onA_e, onVB_v, onVB_e, onVA_v, onVA_e, onAA_v, onAA_e, onAO_v, onAO_e, onBB_v, onBB_e, onO_n, onO_r, onO_b, onO_c, onO_e, onT_n, onT_c, onT_b, onT_r, onT_e, onR_n, onR_r, onR_e, okK_s, okK_n, wO_some, wR_some, wB_some, wA_some, z_lf, z_shr, w_c, w_var, z_op, z_un, z_tB1, z_truR, z_chain, z_andT, z_orT, z_notT, z_andV, z_orV, z_notV, z_if, w_nil, z_cons, z_lst, z_tup, w_dct0, z_call, z_bn, z_sm, z_sl, z_star, z_sh, z_set, z_asg, z_drop, z_ret, w_retV, w_retN, w_nx, z_seq, w_frz, z_ifS, z_app, z_put, z_items, z_it, g_add, g_sub, g_neg, g_mul, g_rep, g_fdiv, g_mod, g_pow, g_addS, g_addL, g_cmp0, g_eqI, g_eqS, g_eqB, g_lenL, g_lenT, g_lenR, g_lenS, g_int, g_intB, g_str, g_listL, g_listT, g_listM, g_tup, g_abs, g_max2, g_min2, gz_ixL, gz_ixT, gz_ixR, g_slL, gi_bool_non, gi_bool_bl, gi_bool_int, gi_bool_str, gi_bool_lst, gi_bool_tup, gi_bool_scr, gi_bool_dct, gi_int_non, gi_int_bl, gi_int_int, gi_int_str, gi_int_lst, gi_int_tup, gi_int_scr, gi_int_dct, gi_str_non, gi_str_bl, gi_str_int, gi_str_str, gi_str_lst, gi_str_tup, gi_str_scr, gi_str_dct, gi_list_non, gi_list_bl, gi_list_int, gi_list_str, gi_list_lst, gi_list_tup, gi_list_scr, gi_list_dct, gi_tuple_non, gi_tuple_bl, gi_tuple_int, gi_tuple_str, gi_tuple_lst, gi_tuple_tup, gi_tuple_scr, gi_tuple_dct, gi_dict_non, gi_dict_bl, gi_dict_int, gi_dict_str, gi_dict_lst, gi_dict_tup, gi_dict_scr, gi_dict_dct, tr_b, true_and, and_true, eq_self, exO_some, hTL_l, hTL_t, hName_e, hCons_c, hNil_n, bind_so, it_l, it_t, it_r, List.getElem?_cons_zero, List.getElem?_cons_succ, List.set_cons_zero, List.set_cons_succ, true_and, and_true, Nat.zero_le, snb, nnb, ex_some, dT, if_true, Bool.false_eq_true, if_false, wipeE, Int.reduceLT, List.length_nil, List.length_cons, Nat.reduceAdd, Nat.reduceLeDiff, Nat.reduceLT, g_inS, g_ixS, g_slS, g_join, frz_def, g_sort, g_rev, List.length_map, List.length_range, atI_0, atI_1, atI_2, atI_3, atI_4, atI_5, atI_6, atI_7, atI_8, atI_9, atI_10, atI_11, atI_12, atI_13, atI_14, atI_15, atI_16, atI_17, atI_18, atI_19, atI_20, atI_21, atI_22, atI_23, atI_24, atI_25, atI_26, atI_27, atI_28, atI_29, atI_30, ne_place_value, ne_place_rising, ne_place_low, ne_place_high, ne_place_below, ne_place_same, ne_value_place, ne_value_rising, ne_value_low, ne_value_high, ne_value_below, ne_value_same, ne_rising_place, ne_rising_value, ne_rising_low, ne_rising_high, ne_rising_below, ne_rising_same, ne_low_place, ne_low_value, ne_low_rising, ne_low_high, ne_low_below, ne_low_same, ne_high_place, ne_high_value, ne_high_rising, ne_high_low, ne_high_below, ne_high_same, ne_below_place, ne_below_value, ne_below_rising, ne_below_low, ne_below_high, ne_below_same, ne_same_place, ne_same_value, ne_same_rising, ne_same_low, ne_same_high, ne_same_below, g_inT2, or_d, or_false, false_or, or_self, true_or, or_true, decide_true, decide_false, Bool.or_false, Bool.false_or, Bool.or_true, Bool.true_or, gi_int_op, gi_str_op, gi_int_tm, gi_str_tm, put_4, List.cons_append, List.nil_append, z_forD, z_forN]
    refine (sterm_op f s (op_small h.2.2.1)).mono ?_
    rintro r rfl
    simp only [Z1, Z2, z_bO0, z_bO1, z_for, z_lc, onV_v, onV_e, onS_v, onS_e, onB_v, onB_e, onBR_v, onBR_e, onA_v, onA_e, onVB_v, onVB_e, onVA_v, onVA_e, onAA_v, onAA_e, onAO_v, onAO_e, onBB_v, onBB_e, onO_n, onO_r, onO_b, onO_c, onO_e, onT_n, onT_c, onT_b, onT_r, onT_e, onR_n, onR_r, onR_e, okK_s, okK_n, wO_some, wR_some, wB_some, wA_some, z_lf, z_shr, w_c, w_var, z_op, z_un, z_tB1, z_truR, z_chain, z_andT, z_orT, z_notT, z_andV, z_orV, z_notV, z_if, w_nil, z_cons, z_lst, z_tup, w_dct0, z_call, z_bn, z_sm, z_sl, z_star, z_sh, z_set, z_asg, z_drop, z_ret, w_retV, w_retN, w_nx, z_seq, w_frz, z_ifS, z_app, z_put, z_items, z_it, g_add, g_sub, g_neg, g_mul, g_rep, g_fdiv, g_mod, g_pow, g_addS, g_addL, g_cmp0, g_eqI, g_eqS, g_eqB, g_lenL, g_lenT, g_lenR, g_lenS, g_int, g_intB, g_str, g_listL, g_listT, g_listM, g_tup, g_abs, g_max2, g_min2, gz_ixL, gz_ixT, gz_ixR, g_slL, gi_bool_non, gi_bool_bl, gi_bool_int, gi_bool_str, gi_bool_lst, gi_bool_tup, gi_bool_scr, gi_bool_dct, gi_int_non, gi_int_bl, gi_int_int, gi_int_str, gi_int_lst, gi_int_tup, gi_int_scr, gi_int_dct, gi_str_non, gi_str_bl, gi_str_int, gi_str_str, gi_str_lst, gi_str_tup, gi_str_scr, gi_str_dct, gi_list_non, gi_list_bl, gi_list_int, gi_list_str, gi_list_lst, gi_list_tup, gi_list_scr, gi_list_dct, gi_tuple_non, gi_tuple_bl, gi_tuple_int, gi_tuple_str, gi_tuple_lst, gi_tuple_tup, gi_tuple_scr, gi_tuple_dct, gi_dict_non, gi_dict_bl, gi_dict_int, gi_dict_str, gi_dict_lst, gi_dict_tup, gi_dict_scr, gi_dict_dct, tr_b, true_and, and_true, eq_self, exO_some, hTL_l, hTL_t, hName_e, hCons_c, hNil_n, bind_so, it_l, it_t, it_r, List.getElem?_cons_zero, List.getElem?_cons_succ, List.set_cons_zero, List.set_cons_succ, true_and, and_true, Nat.zero_le, snb, nnb, ex_some, dT, if_true, Bool.false_eq_true, if_false, wipeE, Int.reduceLT, List.length_nil, List.length_cons, Nat.reduceAdd, Nat.reduceLeDiff, Nat.reduceLT, g_inS, g_ixS, g_slS, g_join, frz_def, g_sort, g_rev, List.length_map, List.length_range, atI_0, atI_1, atI_2, atI_3, atI_4, atI_5, atI_6, atI_7, atI_8, atI_9, atI_10, atI_11, atI_12, atI_13, atI_14, atI_15, atI_16, atI_17, atI_18, atI_19, atI_20, atI_21, atI_22, atI_23, atI_24, atI_25, atI_26, atI_27, atI_28, atI_29, atI_30, ne_place_value, ne_place_rising, ne_place_low, ne_place_high, ne_place_below, ne_place_same, ne_value_place, ne_value_rising, ne_value_low, ne_value_high, ne_value_below, ne_value_same, ne_rising_place, ne_rising_value, ne_rising_low, ne_rising_high, ne_rising_below, ne_rising_same, ne_low_place, ne_low_value, ne_low_rising, ne_low_high, ne_low_below, ne_low_same, ne_high_place, ne_high_value, ne_high_rising, ne_high_low, ne_high_below, ne_high_same, ne_below_place, ne_below_value, ne_below_rising, ne_below_low, ne_below_high, ne_below_same, ne_same_place, ne_same_value, ne_same_rising, ne_same_low, ne_same_high, ne_same_below, g_inT2, or_d, or_false, false_or, or_self, true_or, or_true, decide_true, decide_false, Bool.or_false, Bool.false_or, Bool.or_true, Bool.true_or, gi_int_op, gi_str_op, gi_int_tm, gi_str_tm, put_4, List.cons_append, List.nil_append, z_forD, z_forN]
    refine (sterm_0 t s (tm_small h.2.2.2)).mono ?_
    rintro r ⟨d0, rfl⟩
    simp only [Z1, Z2, z_bO0, z_bO1, z_for, z_lc, onV_v, onV_e, onS_v, onS_e, onB_v, onB_e, onBR_v, onBR_e, onA_v, onA_e, onVB_v, onVB_e, onVA_v, onVA_e, onAA_v, onAA_e, onAO_v, onAO_e, onBB_v, onBB_e, onO_n, onO_r, onO_b, onO_c, onO_e, onT_n, onT_c, onT_b, onT_r, onT_e, onR_n, onR_r, onR_e, okK_s, okK_n, wO_some, wR_some, wB_some, wA_some, z_lf, z_shr, w_c, w_var, z_op, z_un, z_tB1, z_truR, z_chain, z_andT, z_orT, z_notT, z_andV, z_orV, z_notV, z_if, w_nil, z_cons, z_lst, z_tup, w_dct0, z_call, z_bn, z_sm, z_sl, z_star, z_sh, z_set, z_asg, z_drop, z_ret, w_retV, w_retN, w_nx, z_seq, w_frz, z_ifS, z_app, z_put, z_items, z_it, g_add, g_sub, g_neg, g_mul, g_rep, g_fdiv, g_mod, g_pow, g_addS, g_addL, g_cmp0, g_eqI, g_eqS, g_eqB, g_lenL, g_lenT, g_lenR, g_lenS, g_int, g_intB, g_str, g_listL, g_listT, g_listM, g_tup, g_abs, g_max2, g_min2, gz_ixL, gz_ixT, gz_ixR, g_slL, gi_bool_non, gi_bool_bl, gi_bool_int, gi_bool_str, gi_bool_lst, gi_bool_tup, gi_bool_scr, gi_bool_dct, gi_int_non, gi_int_bl, gi_int_int, gi_int_str, gi_int_lst, gi_int_tup, gi_int_scr, gi_int_dct, gi_str_non, gi_str_bl, gi_str_int, gi_str_str, gi_str_lst, gi_str_tup, gi_str_scr, gi_str_dct, gi_list_non, gi_list_bl, gi_list_int, gi_list_str, gi_list_lst, gi_list_tup, gi_list_scr, gi_list_dct, gi_tuple_non, gi_tuple_bl, gi_tuple_int, gi_tuple_str, gi_tuple_lst, gi_tuple_tup, gi_tuple_scr, gi_tuple_dct, gi_dict_non, gi_dict_bl, gi_dict_int, gi_dict_str, gi_dict_lst, gi_dict_tup, gi_dict_scr, gi_dict_dct, tr_b, true_and, and_true, eq_self, exO_some, hTL_l, hTL_t, hName_e, hCons_c, hNil_n, bind_so, it_l, it_t, it_r, List.getElem?_cons_zero, List.getElem?_cons_succ, List.set_cons_zero, List.set_cons_succ, true_and, and_true, Nat.zero_le, snb, nnb, ex_some, dT, if_true, Bool.false_eq_true, if_false, wipeE, Int.reduceLT, List.length_nil, List.length_cons, Nat.reduceAdd, Nat.reduceLeDiff, Nat.reduceLT, g_inS, g_ixS, g_slS, g_join, frz_def, g_sort, g_rev, List.length_map, List.length_range, atI_0, atI_1, atI_2, atI_3, atI_4, atI_5, atI_6, atI_7, atI_8, atI_9, atI_10, atI_11, atI_12, atI_13, atI_14, atI_15, atI_16, atI_17, atI_18, atI_19, atI_20, atI_21, atI_22, atI_23, atI_24, atI_25, atI_26, atI_27, atI_28, atI_29, atI_30, ne_place_value, ne_place_rising, ne_place_low, ne_place_high, ne_place_below, ne_place_same, ne_value_place, ne_value_rising, ne_value_low, ne_value_high, ne_value_below, ne_value_same, ne_rising_place, ne_rising_value, ne_rising_low, ne_rising_high, ne_rising_below, ne_rising_same, ne_low_place, ne_low_value, ne_low_rising, ne_low_high, ne_low_below, ne_low_same, ne_high_place, ne_high_value, ne_high_rising, ne_high_low, ne_high_below, ne_high_same, ne_below_place, ne_below_value, ne_below_rising, ne_below_low, ne_below_high, ne_below_same, ne_same_place, ne_same_value, ne_same_rising, ne_same_low, ne_same_high, ne_same_below, g_inT2, or_d, or_false, false_or, or_self, true_or, or_true, decide_true, decide_false, Bool.or_false, Bool.false_or, Bool.or_true, Bool.true_or, gi_int_op, gi_str_op, gi_int_tm, gi_str_tm, put_4, List.cons_append, List.nil_append, z_forD, z_forN]
    refine (sterm_1 t s (tm_small h.2.2.2)).mono ?_
    rintro r rfl
    simp only [Z1, Z2, z_bO0, z_bO1, z_for, z_lc, onV_v, onV_e, onS_v, onS_e, onB_v, onB_e, onBR_v, onBR_e, onA_v, onA_e, onVB_v, onVB_e, onVA_v, onVA_e, onAA_v, onAA_e, onAO_v, onAO_e, onBB_v, onBB_e, onO_n, onO_r, onO_b, onO_c, onO_e, onT_n, onT_c, onT_b, onT_r, onT_e, onR_n, onR_r, onR_e, okK_s, okK_n, wO_some, wR_some, wB_some, wA_some, z_lf, z_shr, w_c, w_var, z_op, z_un, z_tB1, z_truR, z_chain, z_andT, z_orT, z_notT, z_andV, z_orV, z_notV, z_if, w_nil, z_cons, z_lst, z_tup, w_dct0, z_call, z_bn, z_sm, z_sl, z_star, z_sh, z_set, z_asg, z_drop, z_ret, w_retV, w_retN, w_nx, z_seq, w_frz, z_ifS, z_app, z_put, z_items, z_it, g_add, g_sub, g_neg, g_mul, g_rep, g_fdiv, g_mod, g_pow, g_addS, g_addL, g_cmp0, g_eqI, g_eqS, g_eqB, g_lenL, g_lenT, g_lenR, g_lenS, g_int, g_intB, g_str, g_listL, g_listT, g_listM, g_tup, g_abs, g_max2, g_min2, gz_ixL, gz_ixT, gz_ixR, g_slL, gi_bool_non, gi_bool_bl, gi_bool_int, gi_bool_str, gi_bool_lst, gi_bool_tup, gi_bool_scr, gi_bool_dct, gi_int_non, gi_int_bl, gi_int_int, gi_int_str, gi_int_lst, gi_int_tup, gi_int_scr, gi_int_dct, gi_str_non, gi_str_bl, gi_str_int, gi_str_str, gi_str_lst, gi_str_tup, gi_str_scr, gi_str_dct, gi_list_non, gi_list_bl, gi_list_int, gi_list_str, gi_list_lst, gi_list_tup, gi_list_scr, gi_list_dct, gi_tuple_non, gi_tuple_bl, gi_tuple_int, gi_tuple_str, gi_tuple_lst, gi_tuple_tup, gi_tuple_scr, gi_tuple_dct, gi_dict_non, gi_dict_bl, gi_dict_int, gi_dict_str, gi_dict_lst, gi_dict_tup, gi_dict_scr, gi_dict_dct, tr_b, true_and, and_true, eq_self, exO_some, hTL_l, hTL_t, hName_e, hCons_c, hNil_n, bind_so, it_l, it_t, it_r, List.getElem?_cons_zero, List.getElem?_cons_succ, List.set_cons_zero, List.set_cons_succ, true_and, and_true, Nat.zero_le, snb, nnb, ex_some, dT, if_true, Bool.false_eq_true, if_false, wipeE, Int.reduceLT, List.length_nil, List.length_cons, Nat.reduceAdd, Nat.reduceLeDiff, Nat.reduceLT, g_inS, g_ixS, g_slS, g_join, frz_def, g_sort, g_rev, List.length_map, List.length_range, atI_0, atI_1, atI_2, atI_3, atI_4, atI_5, atI_6, atI_7, atI_8, atI_9, atI_10, atI_11, atI_12, atI_13, atI_14, atI_15, atI_16, atI_17, atI_18, atI_19, atI_20, atI_21, atI_22, atI_23, atI_24, atI_25, atI_26, atI_27, atI_28, atI_29, atI_30, ne_place_value, ne_place_rising, ne_place_low, ne_place_high, ne_place_below, ne_place_same, ne_value_place, ne_value_rising, ne_value_low, ne_value_high, ne_value_below, ne_value_same, ne_rising_place, ne_rising_value, ne_rising_low, ne_rising_high, ne_rising_below, ne_rising_same, ne_low_place, ne_low_value, ne_low_rising, ne_low_high, ne_low_below, ne_low_same, ne_high_place, ne_high_value, ne_high_rising, ne_high_low, ne_high_below, ne_high_same, ne_below_place, ne_below_value, ne_below_rising, ne_below_low, ne_below_high, ne_below_same, ne_same_place, ne_same_value, ne_same_rising, ne_same_low, ne_same_high, ne_same_below, g_inT2, or_d, or_false, false_or, or_self, true_or, or_true, decide_true, decide_false, Bool.or_false, Bool.false_or, Bool.or_true, Bool.true_or, gi_int_op, gi_str_op, gi_int_tm, gi_str_tm, put_4, List.cons_append, List.nil_append, z_forD, z_forN]
  | below a e f b g h0 k =>
    have kk : small k := ⟨by have := h.2.2.2.2.2.2.1; omega, by have := h.2.2.2.2.2.2.2; omega⟩
    obtain ⟨_, he, hf, _, hg, hh, _⟩ := h
    simp only [start_def, List.map_cons, List.map_nil, List.length_cons, List.length_nil, Nat.reduceAdd, Nat.reduceSub, List.replicate_succ, List.replicate_zero, List.cons_append, List.nil_append, Z1, Z2, z_bO0, z_bO1, z_for, z_lc, onV_v, onV_e, onS_v, onS_e, onB_v, onB_e, onBR_v, onBR_e, onA_v, onA_e, onVB_v, onVB_e, onVA_v, onVA_e, onAA_v, onAA_e, onAO_v, onAO_e, onBB_v, onBB_e, onO_n, onO_r, onO_b, onO_c, onO_e, onT_n, onT_c, onT_b, onT_r, onT_e, onR_n, onR_r, onR_e, okK_s, okK_n, wO_some, wR_some, wB_some, wA_some, z_lf, z_shr, w_c, w_var, z_op, z_un, z_tB1, z_truR, z_chain, z_andT, z_orT, z_notT, z_andV, z_orV, z_notV, z_if, w_nil, z_cons, z_lst, z_tup, w_dct0, z_call, z_bn, z_sm, z_sl, z_star, z_sh, z_set, z_asg, z_drop, z_ret, w_retV, w_retN, w_nx, z_seq, w_frz, z_ifS, z_app, z_put, z_items, z_it, g_add, g_sub, g_neg, g_mul, g_rep, g_fdiv, g_mod, g_pow, g_addS, g_addL, g_cmp0, g_eqI, g_eqS, g_eqB, g_lenL, g_lenT, g_lenR, g_lenS, g_int, g_intB, g_str, g_listL, g_listT, g_listM, g_tup, g_abs, g_max2, g_min2, gz_ixL, gz_ixT, gz_ixR, g_slL, gi_bool_non, gi_bool_bl, gi_bool_int, gi_bool_str, gi_bool_lst, gi_bool_tup, gi_bool_scr, gi_bool_dct, gi_int_non, gi_int_bl, gi_int_int, gi_int_str, gi_int_lst, gi_int_tup, gi_int_scr, gi_int_dct, gi_str_non, gi_str_bl, gi_str_int, gi_str_str, gi_str_lst, gi_str_tup, gi_str_scr, gi_str_dct, gi_list_non, gi_list_bl, gi_list_int, gi_list_str, gi_list_lst, gi_list_tup, gi_list_scr, gi_list_dct, gi_tuple_non, gi_tuple_bl, gi_tuple_int, gi_tuple_str, gi_tuple_lst, gi_tuple_tup, gi_tuple_scr, gi_tuple_dct, gi_dict_non, gi_dict_bl, gi_dict_int, gi_dict_str, gi_dict_lst, gi_dict_tup, gi_dict_scr, gi_dict_dct, tr_b, true_and, and_true, eq_self, exO_some, hTL_l, hTL_t, hName_e, hCons_c, hNil_n, bind_so, it_l, it_t, it_r, List.getElem?_cons_zero, List.getElem?_cons_succ, List.set_cons_zero, List.set_cons_succ, true_and, and_true, Nat.zero_le, snb, nnb, ex_some, dT, if_true, Bool.false_eq_true, if_false, wipeE, Int.reduceLT, List.length_nil, List.length_cons, Nat.reduceAdd, Nat.reduceLeDiff, Nat.reduceLT, g_inS, g_ixS, g_slS, g_join, frz_def, g_sort, g_rev, List.length_map, List.length_range, Sy.D, scSy, atI_0, atI_1, atI_2, atI_3, atI_4, atI_5, atI_6, atI_7, atI_8, atI_9, atI_10, atI_11, atI_12, atI_13, atI_14, atI_15, atI_16, atI_17, atI_18, atI_19, atI_20, atI_21, atI_22, atI_23, atI_24, atI_25, atI_26, atI_27, atI_28, atI_29, atI_30, ne_place_value, ne_place_rising, ne_place_low, ne_place_high, ne_place_below, ne_place_same, ne_value_place, ne_value_rising, ne_value_low, ne_value_high, ne_value_below, ne_value_same, ne_rising_place, ne_rising_value, ne_rising_low, ne_rising_high, ne_rising_below, ne_rising_same, ne_low_place, ne_low_value, ne_low_rising, ne_low_high, ne_low_below, ne_low_same, ne_high_place, ne_high_value, ne_high_rising, ne_high_low, ne_high_below, ne_high_same, ne_below_place, ne_below_value, ne_below_rising, ne_below_low, ne_below_high, ne_below_same, ne_same_place, ne_same_value, ne_same_rising, ne_same_low, ne_same_high, ne_same_below, g_inT2, or_d, or_false, false_or, or_self, true_or, or_true, decide_true, decide_false, Bool.or_false, Bool.false_or, Bool.or_true, Bool.true_or, gi_int_op, gi_str_op, gi_int_tm, gi_str_tm, put_4, List.cons_append, List.nil_append, z_forD, z_forN]
    refine (sterm_op e s (op_small he)).mono ?_
    rintro r rfl
    simp only [Z1, Z2, z_bO0, z_bO1, z_for, z_lc, onV_v, onV_e, onS_v, onS_e, onB_v, onB_e, onBR_v, onBR_e, onA_v, onA_e, onVB_v, onVB_e, onVA_v, onVA_e, onAA_v, onAA_e, onAO_v, onAO_e, onBB_v, onBB_e, onO_n, onO_r, onO_b, onO_c, onO_e, onT_n, onT_c, onT_b, onT_r, onT_e, onR_n, onR_r, onR_e, okK_s, okK_n, wO_some, wR_some, wB_some, wA_some, z_lf, z_shr, w_c, w_var, z_op, z_un, z_tB1, z_truR, z_chain, z_andT, z_orT, z_notT, z_andV, z_orV, z_notV, z_if, w_nil, z_cons, z_lst, z_tup, w_dct0, z_call, z_bn, z_sm, z_sl, z_star, z_sh, z_set, z_asg, z_drop, z_ret, w_retV, w_retN, w_nx, z_seq, w_frz, z_ifS, z_app, z_put, z_items, z_it, g_add, g_sub, g_neg, g_mul, g_rep, g_fdiv, g_mod, g_pow, g_addS, g_addL, g_cmp0, g_eqI, g_eqS, g_eqB, g_lenL, g_lenT, g_lenR, g_lenS, g_int, g_intB, g_str, g_listL, g_listT, g_listM, g_tup, g_abs, g_max2, g_min2, gz_ixL, gz_ixT, gz_ixR, g_slL, gi_bool_non, gi_bool_bl, gi_bool_int, gi_bool_str, gi_bool_lst, gi_bool_tup, gi_bool_scr, gi_bool_dct, gi_int_non, gi_int_bl, gi_int_int, gi_int_str, gi_int_lst, gi_int_tup, gi_int_scr, gi_int_dct, gi_str_non, gi_str_bl, gi_str_int, gi_str_str, gi_str_lst, gi_str_tup, gi_str_scr, gi_str_dct, gi_list_non, gi_list_bl, gi_list_int, gi_list_str, gi_list_lst, gi_list_tup, gi_list_scr, gi_list_dct, gi_tuple_non, gi_tuple_bl, gi_tuple_int, gi_tuple_str, gi_tuple_lst, gi_tuple_tup, gi_tuple_scr, gi_tuple_dct, gi_dict_non, gi_dict_bl, gi_dict_int, gi_dict_str, gi_dict_lst, gi_dict_tup, gi_dict_scr, gi_dict_dct, tr_b, true_and, and_true, eq_self, exO_some, hTL_l, hTL_t, hName_e, hCons_c, hNil_n, bind_so, it_l, it_t, it_r, List.getElem?_cons_zero, List.getElem?_cons_succ, List.set_cons_zero, List.set_cons_succ, true_and, and_true, Nat.zero_le, snb, nnb, ex_some, dT, if_true, Bool.false_eq_true, if_false, wipeE, Int.reduceLT, List.length_nil, List.length_cons, Nat.reduceAdd, Nat.reduceLeDiff, Nat.reduceLT, g_inS, g_ixS, g_slS, g_join, frz_def, g_sort, g_rev, List.length_map, List.length_range, atI_0, atI_1, atI_2, atI_3, atI_4, atI_5, atI_6, atI_7, atI_8, atI_9, atI_10, atI_11, atI_12, atI_13, atI_14, atI_15, atI_16, atI_17, atI_18, atI_19, atI_20, atI_21, atI_22, atI_23, atI_24, atI_25, atI_26, atI_27, atI_28, atI_29, atI_30, ne_place_value, ne_place_rising, ne_place_low, ne_place_high, ne_place_below, ne_place_same, ne_value_place, ne_value_rising, ne_value_low, ne_value_high, ne_value_below, ne_value_same, ne_rising_place, ne_rising_value, ne_rising_low, ne_rising_high, ne_rising_below, ne_rising_same, ne_low_place, ne_low_value, ne_low_rising, ne_low_high, ne_low_below, ne_low_same, ne_high_place, ne_high_value, ne_high_rising, ne_high_low, ne_high_below, ne_high_same, ne_below_place, ne_below_value, ne_below_rising, ne_below_low, ne_below_high, ne_below_same, ne_same_place, ne_same_value, ne_same_rising, ne_same_low, ne_same_high, ne_same_below, g_inT2, or_d, or_false, false_or, or_self, true_or, or_true, decide_true, decide_false, Bool.or_false, Bool.false_or, Bool.or_true, Bool.true_or, gi_int_op, gi_str_op, gi_int_tm, gi_str_tm, put_4, List.cons_append, List.nil_append, z_forD, z_forN]
    refine (sterm_op f s (op_small hf)).mono ?_
    rintro r rfl
    simp only [Z1, Z2, z_bO0, z_bO1, z_for, z_lc, onV_v, onV_e, onS_v, onS_e, onB_v, onB_e, onBR_v, onBR_e, onA_v, onA_e, onVB_v, onVB_e, onVA_v, onVA_e, onAA_v, onAA_e, onAO_v, onAO_e, onBB_v, onBB_e, onO_n, onO_r, onO_b, onO_c, onO_e, onT_n, onT_c, onT_b, onT_r, onT_e, onR_n, onR_r, onR_e, okK_s, okK_n, wO_some, wR_some, wB_some, wA_some, z_lf, z_shr, w_c, w_var, z_op, z_un, z_tB1, z_truR, z_chain, z_andT, z_orT, z_notT, z_andV, z_orV, z_notV, z_if, w_nil, z_cons, z_lst, z_tup, w_dct0, z_call, z_bn, z_sm, z_sl, z_star, z_sh, z_set, z_asg, z_drop, z_ret, w_retV, w_retN, w_nx, z_seq, w_frz, z_ifS, z_app, z_put, z_items, z_it, g_add, g_sub, g_neg, g_mul, g_rep, g_fdiv, g_mod, g_pow, g_addS, g_addL, g_cmp0, g_eqI, g_eqS, g_eqB, g_lenL, g_lenT, g_lenR, g_lenS, g_int, g_intB, g_str, g_listL, g_listT, g_listM, g_tup, g_abs, g_max2, g_min2, gz_ixL, gz_ixT, gz_ixR, g_slL, gi_bool_non, gi_bool_bl, gi_bool_int, gi_bool_str, gi_bool_lst, gi_bool_tup, gi_bool_scr, gi_bool_dct, gi_int_non, gi_int_bl, gi_int_int, gi_int_str, gi_int_lst, gi_int_tup, gi_int_scr, gi_int_dct, gi_str_non, gi_str_bl, gi_str_int, gi_str_str, gi_str_lst, gi_str_tup, gi_str_scr, gi_str_dct, gi_list_non, gi_list_bl, gi_list_int, gi_list_str, gi_list_lst, gi_list_tup, gi_list_scr, gi_list_dct, gi_tuple_non, gi_tuple_bl, gi_tuple_int, gi_tuple_str, gi_tuple_lst, gi_tuple_tup, gi_tuple_scr, gi_tuple_dct, gi_dict_non, gi_dict_bl, gi_dict_int, gi_dict_str, gi_dict_lst, gi_dict_tup, gi_dict_scr, gi_dict_dct, tr_b, true_and, and_true, eq_self, exO_some, hTL_l, hTL_t, hName_e, hCons_c, hNil_n, bind_so, it_l, it_t, it_r, List.getElem?_cons_zero, List.getElem?_cons_succ, List.set_cons_zero, List.set_cons_succ, true_and, and_true, Nat.zero_le, snb, nnb, ex_some, dT, if_true, Bool.false_eq_true, if_false, wipeE, Int.reduceLT, List.length_nil, List.length_cons, Nat.reduceAdd, Nat.reduceLeDiff, Nat.reduceLT, g_inS, g_ixS, g_slS, g_join, frz_def, g_sort, g_rev, List.length_map, List.length_range, atI_0, atI_1, atI_2, atI_3, atI_4, atI_5, atI_6, atI_7, atI_8, atI_9, atI_10, atI_11, atI_12, atI_13, atI_14, atI_15, atI_16, atI_17, atI_18, atI_19, atI_20, atI_21, atI_22, atI_23, atI_24, atI_25, atI_26, atI_27, atI_28, atI_29, atI_30, ne_place_value, ne_place_rising, ne_place_low, ne_place_high, ne_place_below, ne_place_same, ne_value_place, ne_value_rising, ne_value_low, ne_value_high, ne_value_below, ne_value_same, ne_rising_place, ne_rising_value, ne_rising_low, ne_rising_high, ne_rising_below, ne_rising_same, ne_low_place, ne_low_value, ne_low_rising, ne_low_high, ne_low_below, ne_low_same, ne_high_place, ne_high_value, ne_high_rising, ne_high_low, ne_high_below, ne_high_same, ne_below_place, ne_below_value, ne_below_rising, ne_below_low, ne_below_high, ne_below_same, ne_same_place, ne_same_value, ne_same_rising, ne_same_low, ne_same_high, ne_same_below, g_inT2, or_d, or_false, false_or, or_self, true_or, or_true, decide_true, decide_false, Bool.or_false, Bool.false_or, Bool.or_true, Bool.true_or, gi_int_op, gi_str_op, gi_int_tm, gi_str_tm, put_4, List.cons_append, List.nil_append, z_forD, z_forN]
    refine (sterm_op g s (op_small hg)).mono ?_
    rintro r rfl
    simp only [Z1, Z2, z_bO0, z_bO1, z_for, z_lc, onV_v, onV_e, onS_v, onS_e, onB_v, onB_e, onBR_v, onBR_e, onA_v, onA_e, onVB_v, onVB_e, onVA_v, onVA_e, onAA_v, onAA_e, onAO_v, onAO_e, onBB_v, onBB_e, onO_n, onO_r, onO_b, onO_c, onO_e, onT_n, onT_c, onT_b, onT_r, onT_e, onR_n, onR_r, onR_e, okK_s, okK_n, wO_some, wR_some, wB_some, wA_some, z_lf, z_shr, w_c, w_var, z_op, z_un, z_tB1, z_truR, z_chain, z_andT, z_orT, z_notT, z_andV, z_orV, z_notV, z_if, w_nil, z_cons, z_lst, z_tup, w_dct0, z_call, z_bn, z_sm, z_sl, z_star, z_sh, z_set, z_asg, z_drop, z_ret, w_retV, w_retN, w_nx, z_seq, w_frz, z_ifS, z_app, z_put, z_items, z_it, g_add, g_sub, g_neg, g_mul, g_rep, g_fdiv, g_mod, g_pow, g_addS, g_addL, g_cmp0, g_eqI, g_eqS, g_eqB, g_lenL, g_lenT, g_lenR, g_lenS, g_int, g_intB, g_str, g_listL, g_listT, g_listM, g_tup, g_abs, g_max2, g_min2, gz_ixL, gz_ixT, gz_ixR, g_slL, gi_bool_non, gi_bool_bl, gi_bool_int, gi_bool_str, gi_bool_lst, gi_bool_tup, gi_bool_scr, gi_bool_dct, gi_int_non, gi_int_bl, gi_int_int, gi_int_str, gi_int_lst, gi_int_tup, gi_int_scr, gi_int_dct, gi_str_non, gi_str_bl, gi_str_int, gi_str_str, gi_str_lst, gi_str_tup, gi_str_scr, gi_str_dct, gi_list_non, gi_list_bl, gi_list_int, gi_list_str, gi_list_lst, gi_list_tup, gi_list_scr, gi_list_dct, gi_tuple_non, gi_tuple_bl, gi_tuple_int, gi_tuple_str, gi_tuple_lst, gi_tuple_tup, gi_tuple_scr, gi_tuple_dct, gi_dict_non, gi_dict_bl, gi_dict_int, gi_dict_str, gi_dict_lst, gi_dict_tup, gi_dict_scr, gi_dict_dct, tr_b, true_and, and_true, eq_self, exO_some, hTL_l, hTL_t, hName_e, hCons_c, hNil_n, bind_so, it_l, it_t, it_r, List.getElem?_cons_zero, List.getElem?_cons_succ, List.set_cons_zero, List.set_cons_succ, true_and, and_true, Nat.zero_le, snb, nnb, ex_some, dT, if_true, Bool.false_eq_true, if_false, wipeE, Int.reduceLT, List.length_nil, List.length_cons, Nat.reduceAdd, Nat.reduceLeDiff, Nat.reduceLT, g_inS, g_ixS, g_slS, g_join, frz_def, g_sort, g_rev, List.length_map, List.length_range, atI_0, atI_1, atI_2, atI_3, atI_4, atI_5, atI_6, atI_7, atI_8, atI_9, atI_10, atI_11, atI_12, atI_13, atI_14, atI_15, atI_16, atI_17, atI_18, atI_19, atI_20, atI_21, atI_22, atI_23, atI_24, atI_25, atI_26, atI_27, atI_28, atI_29, atI_30, ne_place_value, ne_place_rising, ne_place_low, ne_place_high, ne_place_below, ne_place_same, ne_value_place, ne_value_rising, ne_value_low, ne_value_high, ne_value_below, ne_value_same, ne_rising_place, ne_rising_value, ne_rising_low, ne_rising_high, ne_rising_below, ne_rising_same, ne_low_place, ne_low_value, ne_low_rising, ne_low_high, ne_low_below, ne_low_same, ne_high_place, ne_high_value, ne_high_rising, ne_high_low, ne_high_below, ne_high_same, ne_below_place, ne_below_value, ne_below_rising, ne_below_low, ne_below_high, ne_below_same, ne_same_place, ne_same_value, ne_same_rising, ne_same_low, ne_same_high, ne_same_below, g_inT2, or_d, or_false, false_or, or_self, true_or, or_true, decide_true, decide_false, Bool.or_false, Bool.false_or, Bool.or_true, Bool.true_or, gi_int_op, gi_str_op, gi_int_tm, gi_str_tm, put_4, List.cons_append, List.nil_append, z_forD, z_forN]
    refine (sterm_op h0 s (op_small hh)).mono ?_
    rintro r rfl
    simp only [Z1, Z2, z_bO0, z_bO1, z_for, z_lc, onV_v, onV_e, onS_v, onS_e, onB_v, onB_e, onBR_v, onBR_e, onA_v, onA_e, onVB_v, onVB_e, onVA_v, onVA_e, onAA_v, onAA_e, onAO_v, onAO_e, onBB_v, onBB_e, onO_n, onO_r, onO_b, onO_c, onO_e, onT_n, onT_c, onT_b, onT_r, onT_e, onR_n, onR_r, onR_e, okK_s, okK_n, wO_some, wR_some, wB_some, wA_some, z_lf, z_shr, w_c, w_var, z_op, z_un, z_tB1, z_truR, z_chain, z_andT, z_orT, z_notT, z_andV, z_orV, z_notV, z_if, w_nil, z_cons, z_lst, z_tup, w_dct0, z_call, z_bn, z_sm, z_sl, z_star, z_sh, z_set, z_asg, z_drop, z_ret, w_retV, w_retN, w_nx, z_seq, w_frz, z_ifS, z_app, z_put, z_items, z_it, g_add, g_sub, g_neg, g_mul, g_rep, g_fdiv, g_mod, g_pow, g_addS, g_addL, g_cmp0, g_eqI, g_eqS, g_eqB, g_lenL, g_lenT, g_lenR, g_lenS, g_int, g_intB, g_str, g_listL, g_listT, g_listM, g_tup, g_abs, g_max2, g_min2, gz_ixL, gz_ixT, gz_ixR, g_slL, gi_bool_non, gi_bool_bl, gi_bool_int, gi_bool_str, gi_bool_lst, gi_bool_tup, gi_bool_scr, gi_bool_dct, gi_int_non, gi_int_bl, gi_int_int, gi_int_str, gi_int_lst, gi_int_tup, gi_int_scr, gi_int_dct, gi_str_non, gi_str_bl, gi_str_int, gi_str_str, gi_str_lst, gi_str_tup, gi_str_scr, gi_str_dct, gi_list_non, gi_list_bl, gi_list_int, gi_list_str, gi_list_lst, gi_list_tup, gi_list_scr, gi_list_dct, gi_tuple_non, gi_tuple_bl, gi_tuple_int, gi_tuple_str, gi_tuple_lst, gi_tuple_tup, gi_tuple_scr, gi_tuple_dct, gi_dict_non, gi_dict_bl, gi_dict_int, gi_dict_str, gi_dict_lst, gi_dict_tup, gi_dict_scr, gi_dict_dct, tr_b, true_and, and_true, eq_self, exO_some, hTL_l, hTL_t, hName_e, hCons_c, hNil_n, bind_so, it_l, it_t, it_r, List.getElem?_cons_zero, List.getElem?_cons_succ, List.set_cons_zero, List.set_cons_succ, true_and, and_true, Nat.zero_le, snb, nnb, ex_some, dT, if_true, Bool.false_eq_true, if_false, wipeE, Int.reduceLT, List.length_nil, List.length_cons, Nat.reduceAdd, Nat.reduceLeDiff, Nat.reduceLT, g_inS, g_ixS, g_slS, g_join, frz_def, g_sort, g_rev, List.length_map, List.length_range, atI_0, atI_1, atI_2, atI_3, atI_4, atI_5, atI_6, atI_7, atI_8, atI_9, atI_10, atI_11, atI_12, atI_13, atI_14, atI_15, atI_16, atI_17, atI_18, atI_19, atI_20, atI_21, atI_22, atI_23, atI_24, atI_25, atI_26, atI_27, atI_28, atI_29, atI_30, ne_place_value, ne_place_rising, ne_place_low, ne_place_high, ne_place_below, ne_place_same, ne_value_place, ne_value_rising, ne_value_low, ne_value_high, ne_value_below, ne_value_same, ne_rising_place, ne_rising_value, ne_rising_low, ne_rising_high, ne_rising_below, ne_rising_same, ne_low_place, ne_low_value, ne_low_rising, ne_low_high, ne_low_below, ne_low_same, ne_high_place, ne_high_value, ne_high_rising, ne_high_low, ne_high_below, ne_high_same, ne_below_place, ne_below_value, ne_below_rising, ne_below_low, ne_below_high, ne_below_same, ne_same_place, ne_same_value, ne_same_rising, ne_same_low, ne_same_high, ne_same_below, g_inT2, or_d, or_false, false_or, or_self, true_or, or_true, decide_true, decide_false, Bool.or_false, Bool.false_or, Bool.or_true, Bool.true_or, gi_int_op, gi_str_op, gi_int_tm, gi_str_tm, put_4, List.cons_append, List.nil_append, z_forD, z_forN]
    simp only [Z1, Z2, z_bO0, z_bO1, z_for, z_lc, onV_v, onV_e, onS_v, onS_e, onB_v, onB_e, onBR_v, onBR_e, onA_v, onA_e, onVB_v, onVB_e, onVA_v, onVA_e, onAA_v, onAA_e, onAO_v, onAO_e, onBB_v, onBB_e, onO_n, onO_r, onO_b, onO_c, onO_e, onT_n, onT_c, onT_b, onT_r, onT_e, onR_n, onR_r, onR_e, okK_s, okK_n, wO_some, wR_some, wB_some, wA_some, z_lf, z_shr, w_c, w_var, z_op, z_un, z_tB1, z_truR, z_chain, z_andT, z_orT, z_notT, z_andV, z_orV, z_notV, z_if, w_nil, z_cons, z_lst, z_tup, w_dct0, z_call, z_bn, z_sm, z_sl, z_star, z_sh, z_set, z_asg, z_drop, z_ret, w_retV, w_retN, w_nx, z_seq, w_frz, z_ifS, z_app, z_put, z_items, z_it, g_add, g_sub, g_neg, g_mul, g_rep, g_fdiv, g_mod, g_pow, g_addS, g_addL, g_cmp0, g_eqI, g_eqS, g_eqB, g_lenL, g_lenT, g_lenR, g_lenS, g_int, g_intB, g_str, g_listL, g_listT, g_listM, g_tup, g_abs, g_max2, g_min2, gz_ixL, gz_ixT, gz_ixR, g_slL, gi_bool_non, gi_bool_bl, gi_bool_int, gi_bool_str, gi_bool_lst, gi_bool_tup, gi_bool_scr, gi_bool_dct, gi_int_non, gi_int_bl, gi_int_int, gi_int_str, gi_int_lst, gi_int_tup, gi_int_scr, gi_int_dct, gi_str_non, gi_str_bl, gi_str_int, gi_str_str, gi_str_lst, gi_str_tup, gi_str_scr, gi_str_dct, gi_list_non, gi_list_bl, gi_list_int, gi_list_str, gi_list_lst, gi_list_tup, gi_list_scr, gi_list_dct, gi_tuple_non, gi_tuple_bl, gi_tuple_int, gi_tuple_str, gi_tuple_lst, gi_tuple_tup, gi_tuple_scr, gi_tuple_dct, gi_dict_non, gi_dict_bl, gi_dict_int, gi_dict_str, gi_dict_lst, gi_dict_tup, gi_dict_scr, gi_dict_dct, tr_b, true_and, and_true, eq_self, exO_some, hTL_l, hTL_t, hName_e, hCons_c, hNil_n, bind_so, it_l, it_t, it_r, List.getElem?_cons_zero, List.getElem?_cons_succ, List.set_cons_zero, List.set_cons_succ, true_and, and_true, Nat.zero_le, snb, nnb, ex_some, dT, if_true, Bool.false_eq_true, if_false, wipeE, Int.reduceLT, List.length_nil, List.length_cons, Nat.reduceAdd, Nat.reduceLeDiff, Nat.reduceLT, g_inS, g_ixS, g_slS, g_join, frz_def, g_sort, g_rev, List.length_map, List.length_range, Sc.D, small_mul kk, atI_0, atI_1, atI_2, atI_3, atI_4, atI_5, atI_6, atI_7, atI_8, atI_9, atI_10, atI_11, atI_12, atI_13, atI_14, atI_15, atI_16, atI_17, atI_18, atI_19, atI_20, atI_21, atI_22, atI_23, atI_24, atI_25, atI_26, atI_27, atI_28, atI_29, atI_30, ne_place_value, ne_place_rising, ne_place_low, ne_place_high, ne_place_below, ne_place_same, ne_value_place, ne_value_rising, ne_value_low, ne_value_high, ne_value_below, ne_value_same, ne_rising_place, ne_rising_value, ne_rising_low, ne_rising_high, ne_rising_below, ne_rising_same, ne_low_place, ne_low_value, ne_low_rising, ne_low_high, ne_low_below, ne_low_same, ne_high_place, ne_high_value, ne_high_rising, ne_high_low, ne_high_below, ne_high_same, ne_below_place, ne_below_value, ne_below_rising, ne_below_low, ne_below_high, ne_below_same, ne_same_place, ne_same_value, ne_same_rising, ne_same_low, ne_same_high, ne_same_below, g_inT2, or_d, or_false, false_or, or_self, true_or, or_true, decide_true, decide_false, Bool.or_false, Bool.false_or, Bool.or_true, Bool.true_or, gi_int_op, gi_str_op, gi_int_tm, gi_str_tm, put_4, List.cons_append, List.nil_append, z_forD, z_forN]
  | same a b e f k =>
    have kk : small k := ⟨by have := h.2.2.2.2.1; omega, by have := h.2.2.2.2.2; omega⟩
    obtain ⟨_, _, he, hf, _⟩ := h
    simp only [start_def, List.map_cons, List.map_nil, List.length_cons, List.length_nil, Nat.reduceAdd, Nat.reduceSub, List.replicate_succ, List.replicate_zero, List.cons_append, List.nil_append, Z1, Z2, z_bO0, z_bO1, z_for, z_lc, onV_v, onV_e, onS_v, onS_e, onB_v, onB_e, onBR_v, onBR_e, onA_v, onA_e, onVB_v, onVB_e, onVA_v, onVA_e, onAA_v, onAA_e, onAO_v, onAO_e, onBB_v, onBB_e, onO_n, onO_r, onO_b, onO_c, onO_e, onT_n, onT_c, onT_b, onT_r, onT_e, onR_n, onR_r, onR_e, okK_s, okK_n, wO_some, wR_some, wB_some, wA_some, z_lf, z_shr, w_c, w_var, z_op, z_un, z_tB1, z_truR, z_chain, z_andT, z_orT, z_notT, z_andV, z_orV, z_notV, z_if, w_nil, z_cons, z_lst, z_tup, w_dct0, z_call, z_bn, z_sm, z_sl, z_star, z_sh, z_set, z_asg, z_drop, z_ret, w_retV, w_retN, w_nx, z_seq, w_frz, z_ifS, z_app, z_put, z_items, z_it, g_add, g_sub, g_neg, g_mul, g_rep, g_fdiv, g_mod, g_pow, g_addS, g_addL, g_cmp0, g_eqI, g_eqS, g_eqB, g_lenL, g_lenT, g_lenR, g_lenS, g_int, g_intB, g_str, g_listL, g_listT, g_listM, g_tup, g_abs, g_max2, g_min2, gz_ixL, gz_ixT, gz_ixR, g_slL, gi_bool_non, gi_bool_bl, gi_bool_int, gi_bool_str, gi_bool_lst, gi_bool_tup, gi_bool_scr, gi_bool_dct, gi_int_non, gi_int_bl, gi_int_int, gi_int_str, gi_int_lst, gi_int_tup, gi_int_scr, gi_int_dct, gi_str_non, gi_str_bl, gi_str_int, gi_str_str, gi_str_lst, gi_str_tup, gi_str_scr, gi_str_dct, gi_list_non, gi_list_bl, gi_list_int, gi_list_str, gi_list_lst, gi_list_tup, gi_list_scr, gi_list_dct, gi_tuple_non, gi_tuple_bl, gi_tuple_int, gi_tuple_str, gi_tuple_lst, gi_tuple_tup, gi_tuple_scr, gi_tuple_dct, gi_dict_non, gi_dict_bl, gi_dict_int, gi_dict_str, gi_dict_lst, gi_dict_tup, gi_dict_scr, gi_dict_dct, tr_b, true_and, and_true, eq_self, exO_some, hTL_l, hTL_t, hName_e, hCons_c, hNil_n, bind_so, it_l, it_t, it_r, List.getElem?_cons_zero, List.getElem?_cons_succ, List.set_cons_zero, List.set_cons_succ, true_and, and_true, Nat.zero_le, snb, nnb, ex_some, dT, if_true, Bool.false_eq_true, if_false, wipeE, Int.reduceLT, List.length_nil, List.length_cons, Nat.reduceAdd, Nat.reduceLeDiff, Nat.reduceLT, g_inS, g_ixS, g_slS, g_join, frz_def, g_sort, g_rev, List.length_map, List.length_range, Sy.D, scSy, atI_0, atI_1, atI_2, atI_3, atI_4, atI_5, atI_6, atI_7, atI_8, atI_9, atI_10, atI_11, atI_12, atI_13, atI_14, atI_15, atI_16, atI_17, atI_18, atI_19, atI_20, atI_21, atI_22, atI_23, atI_24, atI_25, atI_26, atI_27, atI_28, atI_29, atI_30, ne_place_value, ne_place_rising, ne_place_low, ne_place_high, ne_place_below, ne_place_same, ne_value_place, ne_value_rising, ne_value_low, ne_value_high, ne_value_below, ne_value_same, ne_rising_place, ne_rising_value, ne_rising_low, ne_rising_high, ne_rising_below, ne_rising_same, ne_low_place, ne_low_value, ne_low_rising, ne_low_high, ne_low_below, ne_low_same, ne_high_place, ne_high_value, ne_high_rising, ne_high_low, ne_high_below, ne_high_same, ne_below_place, ne_below_value, ne_below_rising, ne_below_low, ne_below_high, ne_below_same, ne_same_place, ne_same_value, ne_same_rising, ne_same_low, ne_same_high, ne_same_below, g_inT2, or_d, or_false, false_or, or_self, true_or, or_true, decide_true, decide_false, Bool.or_false, Bool.false_or, Bool.or_true, Bool.true_or, gi_int_op, gi_str_op, gi_int_tm, gi_str_tm, put_4, List.cons_append, List.nil_append, z_forD, z_forN]
    refine (sterm_op e s (op_small he)).mono ?_
    rintro r rfl
    simp only [Z1, Z2, z_bO0, z_bO1, z_for, z_lc, onV_v, onV_e, onS_v, onS_e, onB_v, onB_e, onBR_v, onBR_e, onA_v, onA_e, onVB_v, onVB_e, onVA_v, onVA_e, onAA_v, onAA_e, onAO_v, onAO_e, onBB_v, onBB_e, onO_n, onO_r, onO_b, onO_c, onO_e, onT_n, onT_c, onT_b, onT_r, onT_e, onR_n, onR_r, onR_e, okK_s, okK_n, wO_some, wR_some, wB_some, wA_some, z_lf, z_shr, w_c, w_var, z_op, z_un, z_tB1, z_truR, z_chain, z_andT, z_orT, z_notT, z_andV, z_orV, z_notV, z_if, w_nil, z_cons, z_lst, z_tup, w_dct0, z_call, z_bn, z_sm, z_sl, z_star, z_sh, z_set, z_asg, z_drop, z_ret, w_retV, w_retN, w_nx, z_seq, w_frz, z_ifS, z_app, z_put, z_items, z_it, g_add, g_sub, g_neg, g_mul, g_rep, g_fdiv, g_mod, g_pow, g_addS, g_addL, g_cmp0, g_eqI, g_eqS, g_eqB, g_lenL, g_lenT, g_lenR, g_lenS, g_int, g_intB, g_str, g_listL, g_listT, g_listM, g_tup, g_abs, g_max2, g_min2, gz_ixL, gz_ixT, gz_ixR, g_slL, gi_bool_non, gi_bool_bl, gi_bool_int, gi_bool_str, gi_bool_lst, gi_bool_tup, gi_bool_scr, gi_bool_dct, gi_int_non, gi_int_bl, gi_int_int, gi_int_str, gi_int_lst, gi_int_tup, gi_int_scr, gi_int_dct, gi_str_non, gi_str_bl, gi_str_int, gi_str_str, gi_str_lst, gi_str_tup, gi_str_scr, gi_str_dct, gi_list_non, gi_list_bl, gi_list_int, gi_list_str, gi_list_lst, gi_list_tup, gi_list_scr, gi_list_dct, gi_tuple_non, gi_tuple_bl, gi_tuple_int, gi_tuple_str, gi_tuple_lst, gi_tuple_tup, gi_tuple_scr, gi_tuple_dct, gi_dict_non, gi_dict_bl, gi_dict_int, gi_dict_str, gi_dict_lst, gi_dict_tup, gi_dict_scr, gi_dict_dct, tr_b, true_and, and_true, eq_self, exO_some, hTL_l, hTL_t, hName_e, hCons_c, hNil_n, bind_so, it_l, it_t, it_r, List.getElem?_cons_zero, List.getElem?_cons_succ, List.set_cons_zero, List.set_cons_succ, true_and, and_true, Nat.zero_le, snb, nnb, ex_some, dT, if_true, Bool.false_eq_true, if_false, wipeE, Int.reduceLT, List.length_nil, List.length_cons, Nat.reduceAdd, Nat.reduceLeDiff, Nat.reduceLT, g_inS, g_ixS, g_slS, g_join, frz_def, g_sort, g_rev, List.length_map, List.length_range, atI_0, atI_1, atI_2, atI_3, atI_4, atI_5, atI_6, atI_7, atI_8, atI_9, atI_10, atI_11, atI_12, atI_13, atI_14, atI_15, atI_16, atI_17, atI_18, atI_19, atI_20, atI_21, atI_22, atI_23, atI_24, atI_25, atI_26, atI_27, atI_28, atI_29, atI_30, ne_place_value, ne_place_rising, ne_place_low, ne_place_high, ne_place_below, ne_place_same, ne_value_place, ne_value_rising, ne_value_low, ne_value_high, ne_value_below, ne_value_same, ne_rising_place, ne_rising_value, ne_rising_low, ne_rising_high, ne_rising_below, ne_rising_same, ne_low_place, ne_low_value, ne_low_rising, ne_low_high, ne_low_below, ne_low_same, ne_high_place, ne_high_value, ne_high_rising, ne_high_low, ne_high_below, ne_high_same, ne_below_place, ne_below_value, ne_below_rising, ne_below_low, ne_below_high, ne_below_same, ne_same_place, ne_same_value, ne_same_rising, ne_same_low, ne_same_high, ne_same_below, g_inT2, or_d, or_false, false_or, or_self, true_or, or_true, decide_true, decide_false, Bool.or_false, Bool.false_or, Bool.or_true, Bool.true_or, gi_int_op, gi_str_op, gi_int_tm, gi_str_tm, put_4, List.cons_append, List.nil_append, z_forD, z_forN]
    refine (sterm_op f s (op_small hf)).mono ?_
    rintro r rfl
    simp only [Z1, Z2, z_bO0, z_bO1, z_for, z_lc, onV_v, onV_e, onS_v, onS_e, onB_v, onB_e, onBR_v, onBR_e, onA_v, onA_e, onVB_v, onVB_e, onVA_v, onVA_e, onAA_v, onAA_e, onAO_v, onAO_e, onBB_v, onBB_e, onO_n, onO_r, onO_b, onO_c, onO_e, onT_n, onT_c, onT_b, onT_r, onT_e, onR_n, onR_r, onR_e, okK_s, okK_n, wO_some, wR_some, wB_some, wA_some, z_lf, z_shr, w_c, w_var, z_op, z_un, z_tB1, z_truR, z_chain, z_andT, z_orT, z_notT, z_andV, z_orV, z_notV, z_if, w_nil, z_cons, z_lst, z_tup, w_dct0, z_call, z_bn, z_sm, z_sl, z_star, z_sh, z_set, z_asg, z_drop, z_ret, w_retV, w_retN, w_nx, z_seq, w_frz, z_ifS, z_app, z_put, z_items, z_it, g_add, g_sub, g_neg, g_mul, g_rep, g_fdiv, g_mod, g_pow, g_addS, g_addL, g_cmp0, g_eqI, g_eqS, g_eqB, g_lenL, g_lenT, g_lenR, g_lenS, g_int, g_intB, g_str, g_listL, g_listT, g_listM, g_tup, g_abs, g_max2, g_min2, gz_ixL, gz_ixT, gz_ixR, g_slL, gi_bool_non, gi_bool_bl, gi_bool_int, gi_bool_str, gi_bool_lst, gi_bool_tup, gi_bool_scr, gi_bool_dct, gi_int_non, gi_int_bl, gi_int_int, gi_int_str, gi_int_lst, gi_int_tup, gi_int_scr, gi_int_dct, gi_str_non, gi_str_bl, gi_str_int, gi_str_str, gi_str_lst, gi_str_tup, gi_str_scr, gi_str_dct, gi_list_non, gi_list_bl, gi_list_int, gi_list_str, gi_list_lst, gi_list_tup, gi_list_scr, gi_list_dct, gi_tuple_non, gi_tuple_bl, gi_tuple_int, gi_tuple_str, gi_tuple_lst, gi_tuple_tup, gi_tuple_scr, gi_tuple_dct, gi_dict_non, gi_dict_bl, gi_dict_int, gi_dict_str, gi_dict_lst, gi_dict_tup, gi_dict_scr, gi_dict_dct, tr_b, true_and, and_true, eq_self, exO_some, hTL_l, hTL_t, hName_e, hCons_c, hNil_n, bind_so, it_l, it_t, it_r, List.getElem?_cons_zero, List.getElem?_cons_succ, List.set_cons_zero, List.set_cons_succ, true_and, and_true, Nat.zero_le, snb, nnb, ex_some, dT, if_true, Bool.false_eq_true, if_false, wipeE, Int.reduceLT, List.length_nil, List.length_cons, Nat.reduceAdd, Nat.reduceLeDiff, Nat.reduceLT, g_inS, g_ixS, g_slS, g_join, frz_def, g_sort, g_rev, List.length_map, List.length_range, atI_0, atI_1, atI_2, atI_3, atI_4, atI_5, atI_6, atI_7, atI_8, atI_9, atI_10, atI_11, atI_12, atI_13, atI_14, atI_15, atI_16, atI_17, atI_18, atI_19, atI_20, atI_21, atI_22, atI_23, atI_24, atI_25, atI_26, atI_27, atI_28, atI_29, atI_30, ne_place_value, ne_place_rising, ne_place_low, ne_place_high, ne_place_below, ne_place_same, ne_value_place, ne_value_rising, ne_value_low, ne_value_high, ne_value_below, ne_value_same, ne_rising_place, ne_rising_value, ne_rising_low, ne_rising_high, ne_rising_below, ne_rising_same, ne_low_place, ne_low_value, ne_low_rising, ne_low_high, ne_low_below, ne_low_same, ne_high_place, ne_high_value, ne_high_rising, ne_high_low, ne_high_below, ne_high_same, ne_below_place, ne_below_value, ne_below_rising, ne_below_low, ne_below_high, ne_below_same, ne_same_place, ne_same_value, ne_same_rising, ne_same_low, ne_same_high, ne_same_below, g_inT2, or_d, or_false, false_or, or_self, true_or, or_true, decide_true, decide_false, Bool.or_false, Bool.false_or, Bool.or_true, Bool.true_or, gi_int_op, gi_str_op, gi_int_tm, gi_str_tm, put_4, List.cons_append, List.nil_append, z_forD, z_forN]
    simp only [Z1, Z2, z_bO0, z_bO1, z_for, z_lc, onV_v, onV_e, onS_v, onS_e, onB_v, onB_e, onBR_v, onBR_e, onA_v, onA_e, onVB_v, onVB_e, onVA_v, onVA_e, onAA_v, onAA_e, onAO_v, onAO_e, onBB_v, onBB_e, onO_n, onO_r, onO_b, onO_c, onO_e, onT_n, onT_c, onT_b, onT_r, onT_e, onR_n, onR_r, onR_e, okK_s, okK_n, wO_some, wR_some, wB_some, wA_some, z_lf, z_shr, w_c, w_var, z_op, z_un, z_tB1, z_truR, z_chain, z_andT, z_orT, z_notT, z_andV, z_orV, z_notV, z_if, w_nil, z_cons, z_lst, z_tup, w_dct0, z_call, z_bn, z_sm, z_sl, z_star, z_sh, z_set, z_asg, z_drop, z_ret, w_retV, w_retN, w_nx, z_seq, w_frz, z_ifS, z_app, z_put, z_items, z_it, g_add, g_sub, g_neg, g_mul, g_rep, g_fdiv, g_mod, g_pow, g_addS, g_addL, g_cmp0, g_eqI, g_eqS, g_eqB, g_lenL, g_lenT, g_lenR, g_lenS, g_int, g_intB, g_str, g_listL, g_listT, g_listM, g_tup, g_abs, g_max2, g_min2, gz_ixL, gz_ixT, gz_ixR, g_slL, gi_bool_non, gi_bool_bl, gi_bool_int, gi_bool_str, gi_bool_lst, gi_bool_tup, gi_bool_scr, gi_bool_dct, gi_int_non, gi_int_bl, gi_int_int, gi_int_str, gi_int_lst, gi_int_tup, gi_int_scr, gi_int_dct, gi_str_non, gi_str_bl, gi_str_int, gi_str_str, gi_str_lst, gi_str_tup, gi_str_scr, gi_str_dct, gi_list_non, gi_list_bl, gi_list_int, gi_list_str, gi_list_lst, gi_list_tup, gi_list_scr, gi_list_dct, gi_tuple_non, gi_tuple_bl, gi_tuple_int, gi_tuple_str, gi_tuple_lst, gi_tuple_tup, gi_tuple_scr, gi_tuple_dct, gi_dict_non, gi_dict_bl, gi_dict_int, gi_dict_str, gi_dict_lst, gi_dict_tup, gi_dict_scr, gi_dict_dct, tr_b, true_and, and_true, eq_self, exO_some, hTL_l, hTL_t, hName_e, hCons_c, hNil_n, bind_so, it_l, it_t, it_r, List.getElem?_cons_zero, List.getElem?_cons_succ, List.set_cons_zero, List.set_cons_succ, true_and, and_true, Nat.zero_le, snb, nnb, ex_some, dT, if_true, Bool.false_eq_true, if_false, wipeE, Int.reduceLT, List.length_nil, List.length_cons, Nat.reduceAdd, Nat.reduceLeDiff, Nat.reduceLT, g_inS, g_ixS, g_slS, g_join, frz_def, g_sort, g_rev, List.length_map, List.length_range, Sc.D, small_mul kk, atI_0, atI_1, atI_2, atI_3, atI_4, atI_5, atI_6, atI_7, atI_8, atI_9, atI_10, atI_11, atI_12, atI_13, atI_14, atI_15, atI_16, atI_17, atI_18, atI_19, atI_20, atI_21, atI_22, atI_23, atI_24, atI_25, atI_26, atI_27, atI_28, atI_29, atI_30, ne_place_value, ne_place_rising, ne_place_low, ne_place_high, ne_place_below, ne_place_same, ne_value_place, ne_value_rising, ne_value_low, ne_value_high, ne_value_below, ne_value_same, ne_rising_place, ne_rising_value, ne_rising_low, ne_rising_high, ne_rising_below, ne_rising_same, ne_low_place, ne_low_value, ne_low_rising, ne_low_high, ne_low_below, ne_low_same, ne_high_place, ne_high_value, ne_high_rising, ne_high_low, ne_high_below, ne_high_same, ne_below_place, ne_below_value, ne_below_rising, ne_below_low, ne_below_high, ne_below_same, ne_same_place, ne_same_value, ne_same_rising, ne_same_low, ne_same_high, ne_same_below, g_inT2, or_d, or_false, false_or, or_self, true_or, or_true, decide_true, decide_false, Bool.or_false, Bool.false_or, Bool.or_true, Bool.true_or, gi_int_op, gi_str_op, gi_int_tm, gi_str_tm, put_4, List.cons_append, List.nil_append, z_forD, z_forN]
end C
namespace C
open PySem L2 PD
variable {QG : Kd → D → Prop}
/-! ### the scale -/
def limC : List Int := [4, 10 ^ Int.toNat 8, 10 ^ Int.toNat 6, 10 ^ Int.toNat 8, 10 ^ Int.toNat 6]
theorem scale_spec (ns : List Int) (i : Nat) : wR (F_Lscale [.scr ns, .int i]) fun r => ∃ s : Sc, r = .val .sh s.D ∧ s.Ok := by
  have p8 : (0 ≤ (8 : Int) ∧ (8 : Int) ≤ 1000000 ∧ Int.natAbs 10 < 2 ^ 64) = True := eq_true (by decide)
  have p6 : (0 ≤ (6 : Int) ∧ (6 : Int) ≤ 1000000 ∧ Int.natAbs 10 < 2 ^ 64) = True := eq_true (by decide)
  rw [F_Lscale, w_run, b_Lscale]
  simp only [start_def, List.map_cons, List.map_nil, List.length_cons, List.length_nil, Nat.reduceAdd, Nat.reduceSub, List.replicate_succ, List.replicate_zero, List.cons_append, List.nil_append, Z1, Z2, z_bO0, z_bO1, z_for, z_lc, onV_v, onV_e, onS_v, onS_e, onB_v, onB_e, onBR_v, onBR_e, onA_v, onA_e, onVB_v, onVB_e, onVA_v, onVA_e, onAA_v, onAA_e, onAO_v, onAO_e, onBB_v, onBB_e, onO_n, onO_r, onO_b, onO_c, onO_e, onT_n, onT_c, onT_b, onT_r, onT_e, onR_n, onR_r, onR_e, okK_s, okK_n, wO_some, wR_some, wB_some, wA_some, z_lf, z_shr, w_c, w_var, z_op, z_un, z_tB1, z_truR, z_chain, z_andT, z_orT, z_notT, z_andV, z_orV, z_notV, z_if, w_nil, z_cons, z_lst, z_tup, w_dct0, z_call, z_bn, z_sm, z_sl, z_star, z_sh, z_set, z_asg, z_drop, z_ret, w_retV, w_retN, w_nx, z_seq, w_frz, z_ifS, z_app, z_put, z_items, z_it, g_add, g_sub, g_neg, g_mul, g_rep, g_fdiv, g_mod, g_pow, g_addS, g_addL, g_cmp0, g_eqI, g_eqS, g_eqB, g_lenL, g_lenT, g_lenR, g_lenS, g_int, g_intB, g_str, g_listL, g_listT, g_listM, g_tup, g_abs, g_max2, g_min2, gz_ixL, gz_ixT, gz_ixR, g_slL, gi_bool_non, gi_bool_bl, gi_bool_int, gi_bool_str, gi_bool_lst, gi_bool_tup, gi_bool_scr, gi_bool_dct, gi_int_non, gi_int_bl, gi_int_int, gi_int_str, gi_int_lst, gi_int_tup, gi_int_scr, gi_int_dct, gi_str_non, gi_str_bl, gi_str_int, gi_str_str, gi_str_lst, gi_str_tup, gi_str_scr, gi_str_dct, gi_list_non, gi_list_bl, gi_list_int, gi_list_str, gi_list_lst, gi_list_tup, gi_list_scr, gi_list_dct, gi_tuple_non, gi_tuple_bl, gi_tuple_int, gi_tuple_str, gi_tuple_lst, gi_tuple_tup, gi_tuple_scr, gi_tuple_dct, gi_dict_non, gi_dict_bl, gi_dict_int, gi_dict_str, gi_dict_lst, gi_dict_tup, gi_dict_scr, gi_dict_dct, tr_b, true_and, and_true, eq_self, exO_some, hTL_l, hTL_t, hName_e, hCons_c, hNil_n, bind_so, it_l, it_t, it_r, List.getElem?_cons_zero, List.getElem?_cons_succ, List.set_cons_zero, List.set_cons_succ, true_and, and_true, Nat.zero_le, snb, nnb, ex_some, dT, if_true, Bool.false_eq_true, if_false, wipeE, Int.reduceLT, List.length_nil, List.length_cons, Nat.reduceAdd, Nat.reduceLeDiff, Nat.reduceLT, g_inS, g_ixS, g_slS, g_join, frz_def, g_sort, g_rev, List.length_map, List.length_range, p8, p6]
  refine (draws_spec ns i limC (by decide) (by decide +kernel)).mono ?_
  rintro r ⟨ds, rfl, hl, hd⟩
  obtain ⟨x0, x1, x2, x3, x4, rfl⟩ : ∃ a b c d e, ds = [a, b, c, d, e] := by
    match ds, hl with
    | [a, b, c, d, e], _ => exact ⟨a, b, c, d, e, rfl⟩
  have b1 := hd 1 _ _ rfl rfl
  have b2 := hd 2 _ _ rfl rfl
  have b3 := hd 3 _ _ rfl rfl
  have b4 := hd 4 _ _ rfl rfl
  have e8 : (10 ^ Int.toNat 8 : Int) = 100000000 := by decide +kernel
  have e6 : (10 ^ Int.toNat 6 : Int) = 1000000 := by decide +kernel
  rw [e8] at b1 b3
  rw [e6] at b2 b4
  simp only [Z1, Z2, z_bO0, z_bO1, z_for, z_lc, onV_v, onV_e, onS_v, onS_e, onB_v, onB_e, onBR_v, onBR_e, onA_v, onA_e, onVB_v, onVB_e, onVA_v, onVA_e, onAA_v, onAA_e, onAO_v, onAO_e, onBB_v, onBB_e, onO_n, onO_r, onO_b, onO_c, onO_e, onT_n, onT_c, onT_b, onT_r, onT_e, onR_n, onR_r, onR_e, okK_s, okK_n, wO_some, wR_some, wB_some, wA_some, z_lf, z_shr, w_c, w_var, z_op, z_un, z_tB1, z_truR, z_chain, z_andT, z_orT, z_notT, z_andV, z_orV, z_notV, z_if, w_nil, z_cons, z_lst, z_tup, w_dct0, z_call, z_bn, z_sm, z_sl, z_star, z_sh, z_set, z_asg, z_drop, z_ret, w_retV, w_retN, w_nx, z_seq, w_frz, z_ifS, z_app, z_put, z_items, z_it, g_add, g_sub, g_neg, g_mul, g_rep, g_fdiv, g_mod, g_pow, g_addS, g_addL, g_cmp0, g_eqI, g_eqS, g_eqB, g_lenL, g_lenT, g_lenR, g_lenS, g_int, g_intB, g_str, g_listL, g_listT, g_listM, g_tup, g_abs, g_max2, g_min2, gz_ixL, gz_ixT, gz_ixR, g_slL, gi_bool_non, gi_bool_bl, gi_bool_int, gi_bool_str, gi_bool_lst, gi_bool_tup, gi_bool_scr, gi_bool_dct, gi_int_non, gi_int_bl, gi_int_int, gi_int_str, gi_int_lst, gi_int_tup, gi_int_scr, gi_int_dct, gi_str_non, gi_str_bl, gi_str_int, gi_str_str, gi_str_lst, gi_str_tup, gi_str_scr, gi_str_dct, gi_list_non, gi_list_bl, gi_list_int, gi_list_str, gi_list_lst, gi_list_tup, gi_list_scr, gi_list_dct, gi_tuple_non, gi_tuple_bl, gi_tuple_int, gi_tuple_str, gi_tuple_lst, gi_tuple_tup, gi_tuple_scr, gi_tuple_dct, gi_dict_non, gi_dict_bl, gi_dict_int, gi_dict_str, gi_dict_lst, gi_dict_tup, gi_dict_scr, gi_dict_dct, tr_b, true_and, and_true, eq_self, exO_some, hTL_l, hTL_t, hName_e, hCons_c, hNil_n, bind_so, it_l, it_t, it_r, List.getElem?_cons_zero, List.getElem?_cons_succ, List.set_cons_zero, List.set_cons_succ, true_and, and_true, Nat.zero_le, snb, nnb, ex_some, dT, if_true, Bool.false_eq_true, if_false, wipeE, Int.reduceLT, List.length_nil, List.length_cons, Nat.reduceAdd, Nat.reduceLeDiff, Nat.reduceLT, g_inS, g_ixS, g_slS, g_join, frz_def, g_sort, g_rev, List.length_map, List.length_range, show ((i : Int) + 1) = ((i + 1 : Nat) : Int) by omega]
  refine (long_spec ns (i + 1) 2 (by decide)).mono ?_
  rintro r ⟨xs, rfl, hl, hb⟩
  match xs, hl with
  | [y0, y1], _ =>
  have c0 := hb y0 (by simp)
  have c1 := hb y1 (by simp)
  have d10 : ((Int.natAbs 10).log2 < 9000) = True := eq_true (by decide)
  have m1 : (mulOk x1 x2 = true) = True := eq_true (mulOk_l (by omega) (by omega))
  have m2 : (mulOk x3 x4 = true) = True := eq_true (mulOk_l (by omega) (by omega))
  have q1 : x1 * x2 ≤ 100000000 * 1000000 := Int.mul_le_mul (by omega) (by omega) (by omega) (by omega)
  have q2 : x3 * x4 ≤ 100000000 * 1000000 := Int.mul_le_mul (by omega) (by omega) (by omega) (by omega)
  have q3 : 0 ≤ x1 * x2 := Int.mul_nonneg (by omega) (by omega)
  have q4 : 0 ≤ x3 * x4 := Int.mul_nonneg (by omega) (by omega)
  have k0 : -(10 ^ 30) ≤ y0 / 10 ∧ y0 / 10 ≤ 10 ^ 30 := by unfold Big at c0; omega
  have k1 : -(10 ^ 30) ≤ y1 / 10 ∧ y1 / 10 ≤ 10 ^ 30 := by unfold Big at c1; omega
  simp only [Z1, Z2, z_bO0, z_bO1, z_for, z_lc, onV_v, onV_e, onS_v, onS_e, onB_v, onB_e, onBR_v, onBR_e, onA_v, onA_e, onVB_v, onVB_e, onVA_v, onVA_e, onAA_v, onAA_e, onAO_v, onAO_e, onBB_v, onBB_e, onO_n, onO_r, onO_b, onO_c, onO_e, onT_n, onT_c, onT_b, onT_r, onT_e, onR_n, onR_r, onR_e, okK_s, okK_n, wO_some, wR_some, wB_some, wA_some, z_lf, z_shr, w_c, w_var, z_op, z_un, z_tB1, z_truR, z_chain, z_andT, z_orT, z_notT, z_andV, z_orV, z_notV, z_if, w_nil, z_cons, z_lst, z_tup, w_dct0, z_call, z_bn, z_sm, z_sl, z_star, z_sh, z_set, z_asg, z_drop, z_ret, w_retV, w_retN, w_nx, z_seq, w_frz, z_ifS, z_app, z_put, z_items, z_it, g_add, g_sub, g_neg, g_mul, g_rep, g_fdiv, g_mod, g_pow, g_addS, g_addL, g_cmp0, g_eqI, g_eqS, g_eqB, g_lenL, g_lenT, g_lenR, g_lenS, g_int, g_intB, g_str, g_listL, g_listT, g_listM, g_tup, g_abs, g_max2, g_min2, gz_ixL, gz_ixT, gz_ixR, g_slL, gi_bool_non, gi_bool_bl, gi_bool_int, gi_bool_str, gi_bool_lst, gi_bool_tup, gi_bool_scr, gi_bool_dct, gi_int_non, gi_int_bl, gi_int_int, gi_int_str, gi_int_lst, gi_int_tup, gi_int_scr, gi_int_dct, gi_str_non, gi_str_bl, gi_str_int, gi_str_str, gi_str_lst, gi_str_tup, gi_str_scr, gi_str_dct, gi_list_non, gi_list_bl, gi_list_int, gi_list_str, gi_list_lst, gi_list_tup, gi_list_scr, gi_list_dct, gi_tuple_non, gi_tuple_bl, gi_tuple_int, gi_tuple_str, gi_tuple_lst, gi_tuple_tup, gi_tuple_scr, gi_tuple_dct, gi_dict_non, gi_dict_bl, gi_dict_int, gi_dict_str, gi_dict_lst, gi_dict_tup, gi_dict_scr, gi_dict_dct, tr_b, true_and, and_true, eq_self, exO_some, hTL_l, hTL_t, hName_e, hCons_c, hNil_n, bind_so, it_l, it_t, it_r, List.getElem?_cons_zero, List.getElem?_cons_succ, List.set_cons_zero, List.set_cons_succ, true_and, and_true, Nat.zero_le, snb, nnb, ex_some, dT, if_true, Bool.false_eq_true, if_false, wipeE, Int.reduceLT, List.length_nil, List.length_cons, Nat.reduceAdd, Nat.reduceLeDiff, Nat.reduceLT, g_inS, g_ixS, g_slS, g_join, frz_def, g_sort, g_rev, List.length_map, List.length_range, List.map_cons, List.map_nil, atI_0, atI_1, atI_2, atI_3, atI_4, atI_5, atI_6, atI_7, atI_8, atI_9, atI_10, atI_11, atI_12, atI_13, atI_14, atI_15, atI_16, atI_17, atI_18, atI_19, atI_20, atI_21, atI_22, atI_23, atI_24, atI_25, atI_26, atI_27, atI_28, atI_29, atI_30, d10, m1, m2]
  split
  · exact ⟨⟨1, 0, 1, 0⟩, rfl, by decide, by decide +kernel, by decide +kernel, by decide +kernel, by decide, by decide +kernel, by decide +kernel, by decide +kernel⟩
  · split
    · exact ⟨⟨1, y0 / 10, 1, y1 / 10⟩, rfl, show (1 : Int) ≤ 1 by decide, show (1 : Int) ≤ 10 ^ 15 by decide, k0.1, k0.2, show (1 : Int) ≤ 1 by decide, show (1 : Int) ≤ 10 ^ 15 by decide, k1.1, k1.2⟩
    · exact ⟨⟨1 + x1 * x2, y0 / 10, 1 + x3 * x4, y1 / 10⟩, rfl, show 1 ≤ 1 + x1 * x2 by omega, show 1 + x1 * x2 ≤ 10 ^ 15 by omega, k0.1, k0.2, show 1 ≤ 1 + x3 * x4 by omega, show 1 + x3 * x4 ≤ 10 ^ 15 by omega, k1.1, k1.2⟩
/-! ### the same -/
inductive Pl : Nat → D → Prop
  | non {n} : Pl n .non
  | bl {n} (b) : Pl n (.bl b)
  | int {n} (i) : Pl n (.int i)
  | str {n} (x) : Pl n (.str x)
  | lst {n ds} : ds.length ≤ 1000000 → (∀ d ∈ ds, Pl n d) → Pl (n + 1) (.lst ds)
  | tup {n ds} : ds.length ≤ 1000000 → (∀ d ∈ ds, Pl n d) → Pl (n + 1) (.tup ds)
theorem g_isB {b : Bool} : wG (isND (.bl b) .non) QG = QG .sh (.bl false) := wG_some
theorem g_isL {b : List D} : wG (isND (.lst b) .non) QG = QG .sh (.bl false) := wG_some
theorem bools_rep (c : Nat → D) (h : ∀ k, c k = .bl true) : ∀ n : List Nat, blsOf (n.map c) = some (n.map fun _ => true)
  | [] => rfl
  | a :: r => by simp [blsOf, h, bools_rep c h r]
theorem g_allT {n : Nat} : wG (allD (.lst ((List.range n).map fun _ : Nat => D.bl true))) QG = QG .sh (.bl true) := by
  have e : allD (.lst ((List.range n).map fun _ : Nat => D.bl true)) = some (.sh, .bl true) := by
    show (blsOf ((List.range n).map fun _ : Nat => D.bl true)).map _ = _
    rw [bools_rep _ fun _ => rfl]
    simp
  rw [e]
  exact wG_some
theorem same_refl : ∀ (n : Nat) (x : D), Pl n x → wR (G_Lsame (n + 1) [x, x]) fun r => r = .val .sh (.bl true)
  | n, _, .non => by
    rw [G_Lsame, w_run, b_Lsame]
    simp only [start_def, List.map_cons, List.map_nil, List.length_cons, List.length_nil, Nat.reduceAdd, Nat.reduceSub, List.replicate_succ, List.replicate_zero, List.cons_append, List.nil_append, Z1, Z2, z_bO0, z_bO1, z_for, z_lc, onV_v, onV_e, onS_v, onS_e, onB_v, onB_e, onBR_v, onBR_e, onA_v, onA_e, onVB_v, onVB_e, onVA_v, onVA_e, onAA_v, onAA_e, onAO_v, onAO_e, onBB_v, onBB_e, onO_n, onO_r, onO_b, onO_c, onO_e, onT_n, onT_c, onT_b, onT_r, onT_e, onR_n, onR_r, onR_e, okK_s, okK_n, wO_some, wR_some, wB_some, wA_some, z_lf, z_shr, w_c, w_var, z_op, z_un, z_tB1, z_truR, z_chain, z_andT, z_orT, z_notT, z_andV, z_orV, z_notV, z_if, w_nil, z_cons, z_lst, z_tup, w_dct0, z_call, z_bn, z_sm, z_sl, z_star, z_sh, z_set, z_asg, z_drop, z_ret, w_retV, w_retN, w_nx, z_seq, w_frz, z_ifS, z_app, z_put, z_items, z_it, g_add, g_sub, g_neg, g_mul, g_rep, g_fdiv, g_mod, g_pow, g_addS, g_addL, g_cmp0, g_eqI, g_eqS, g_eqB, g_lenL, g_lenT, g_lenR, g_lenS, g_int, g_intB, g_str, g_listL, g_listT, g_listM, g_tup, g_abs, g_max2, g_min2, gz_ixL, gz_ixT, gz_ixR, g_slL, gi_bool_non, gi_bool_bl, gi_bool_int, gi_bool_str, gi_bool_lst, gi_bool_tup, gi_bool_scr, gi_bool_dct, gi_int_non, gi_int_bl, gi_int_int, gi_int_str, gi_int_lst, gi_int_tup, gi_int_scr, gi_int_dct, gi_str_non, gi_str_bl, gi_str_int, gi_str_str, gi_str_lst, gi_str_tup, gi_str_scr, gi_str_dct, gi_list_non, gi_list_bl, gi_list_int, gi_list_str, gi_list_lst, gi_list_tup, gi_list_scr, gi_list_dct, gi_tuple_non, gi_tuple_bl, gi_tuple_int, gi_tuple_str, gi_tuple_lst, gi_tuple_tup, gi_tuple_scr, gi_tuple_dct, gi_dict_non, gi_dict_bl, gi_dict_int, gi_dict_str, gi_dict_lst, gi_dict_tup, gi_dict_scr, gi_dict_dct, tr_b, true_and, and_true, eq_self, exO_some, hTL_l, hTL_t, hName_e, hCons_c, hNil_n, bind_so, it_l, it_t, it_r, List.getElem?_cons_zero, List.getElem?_cons_succ, List.set_cons_zero, List.set_cons_succ, true_and, and_true, Nat.zero_le, snb, nnb, ex_some, dT, if_true, Bool.false_eq_true, if_false, wipeE, Int.reduceLT, List.length_nil, List.length_cons, Nat.reduceAdd, Nat.reduceLeDiff, Nat.reduceLT, g_inS, g_ixS, g_slS, g_join, frz_def, g_sort, g_rev, List.length_map, List.length_range, g_isN]
  | n, _, .bl b => by
    rw [G_Lsame, w_run, b_Lsame]
    simp only [start_def, List.map_cons, List.map_nil, List.length_cons, List.length_nil, Nat.reduceAdd, Nat.reduceSub, List.replicate_succ, List.replicate_zero, List.cons_append, List.nil_append, Z1, Z2, z_bO0, z_bO1, z_for, z_lc, onV_v, onV_e, onS_v, onS_e, onB_v, onB_e, onBR_v, onBR_e, onA_v, onA_e, onVB_v, onVB_e, onVA_v, onVA_e, onAA_v, onAA_e, onAO_v, onAO_e, onBB_v, onBB_e, onO_n, onO_r, onO_b, onO_c, onO_e, onT_n, onT_c, onT_b, onT_r, onT_e, onR_n, onR_r, onR_e, okK_s, okK_n, wO_some, wR_some, wB_some, wA_some, z_lf, z_shr, w_c, w_var, z_op, z_un, z_tB1, z_truR, z_chain, z_andT, z_orT, z_notT, z_andV, z_orV, z_notV, z_if, w_nil, z_cons, z_lst, z_tup, w_dct0, z_call, z_bn, z_sm, z_sl, z_star, z_sh, z_set, z_asg, z_drop, z_ret, w_retV, w_retN, w_nx, z_seq, w_frz, z_ifS, z_app, z_put, z_items, z_it, g_add, g_sub, g_neg, g_mul, g_rep, g_fdiv, g_mod, g_pow, g_addS, g_addL, g_cmp0, g_eqI, g_eqS, g_eqB, g_lenL, g_lenT, g_lenR, g_lenS, g_int, g_intB, g_str, g_listL, g_listT, g_listM, g_tup, g_abs, g_max2, g_min2, gz_ixL, gz_ixT, gz_ixR, g_slL, gi_bool_non, gi_bool_bl, gi_bool_int, gi_bool_str, gi_bool_lst, gi_bool_tup, gi_bool_scr, gi_bool_dct, gi_int_non, gi_int_bl, gi_int_int, gi_int_str, gi_int_lst, gi_int_tup, gi_int_scr, gi_int_dct, gi_str_non, gi_str_bl, gi_str_int, gi_str_str, gi_str_lst, gi_str_tup, gi_str_scr, gi_str_dct, gi_list_non, gi_list_bl, gi_list_int, gi_list_str, gi_list_lst, gi_list_tup, gi_list_scr, gi_list_dct, gi_tuple_non, gi_tuple_bl, gi_tuple_int, gi_tuple_str, gi_tuple_lst, gi_tuple_tup, gi_tuple_scr, gi_tuple_dct, gi_dict_non, gi_dict_bl, gi_dict_int, gi_dict_str, gi_dict_lst, gi_dict_tup, gi_dict_scr, gi_dict_dct, tr_b, true_and, and_true, eq_self, exO_some, hTL_l, hTL_t, hName_e, hCons_c, hNil_n, bind_so, it_l, it_t, it_r, List.getElem?_cons_zero, List.getElem?_cons_succ, List.set_cons_zero, List.set_cons_succ, true_and, and_true, Nat.zero_le, snb, nnb, ex_some, dT, if_true, Bool.false_eq_true, if_false, wipeE, Int.reduceLT, List.length_nil, List.length_cons, Nat.reduceAdd, Nat.reduceLeDiff, Nat.reduceLT, g_inS, g_ixS, g_slS, g_join, frz_def, g_sort, g_rev, List.length_map, List.length_range, g_isB, decide_true]
  | n, _, .int i => by
    rw [G_Lsame, w_run, b_Lsame]
    simp only [start_def, List.map_cons, List.map_nil, List.length_cons, List.length_nil, Nat.reduceAdd, Nat.reduceSub, List.replicate_succ, List.replicate_zero, List.cons_append, List.nil_append, Z1, Z2, z_bO0, z_bO1, z_for, z_lc, onV_v, onV_e, onS_v, onS_e, onB_v, onB_e, onBR_v, onBR_e, onA_v, onA_e, onVB_v, onVB_e, onVA_v, onVA_e, onAA_v, onAA_e, onAO_v, onAO_e, onBB_v, onBB_e, onO_n, onO_r, onO_b, onO_c, onO_e, onT_n, onT_c, onT_b, onT_r, onT_e, onR_n, onR_r, onR_e, okK_s, okK_n, wO_some, wR_some, wB_some, wA_some, z_lf, z_shr, w_c, w_var, z_op, z_un, z_tB1, z_truR, z_chain, z_andT, z_orT, z_notT, z_andV, z_orV, z_notV, z_if, w_nil, z_cons, z_lst, z_tup, w_dct0, z_call, z_bn, z_sm, z_sl, z_star, z_sh, z_set, z_asg, z_drop, z_ret, w_retV, w_retN, w_nx, z_seq, w_frz, z_ifS, z_app, z_put, z_items, z_it, g_add, g_sub, g_neg, g_mul, g_rep, g_fdiv, g_mod, g_pow, g_addS, g_addL, g_cmp0, g_eqI, g_eqS, g_eqB, g_lenL, g_lenT, g_lenR, g_lenS, g_int, g_intB, g_str, g_listL, g_listT, g_listM, g_tup, g_abs, g_max2, g_min2, gz_ixL, gz_ixT, gz_ixR, g_slL, gi_bool_non, gi_bool_bl, gi_bool_int, gi_bool_str, gi_bool_lst, gi_bool_tup, gi_bool_scr, gi_bool_dct, gi_int_non, gi_int_bl, gi_int_int, gi_int_str, gi_int_lst, gi_int_tup, gi_int_scr, gi_int_dct, gi_str_non, gi_str_bl, gi_str_int, gi_str_str, gi_str_lst, gi_str_tup, gi_str_scr, gi_str_dct, gi_list_non, gi_list_bl, gi_list_int, gi_list_str, gi_list_lst, gi_list_tup, gi_list_scr, gi_list_dct, gi_tuple_non, gi_tuple_bl, gi_tuple_int, gi_tuple_str, gi_tuple_lst, gi_tuple_tup, gi_tuple_scr, gi_tuple_dct, gi_dict_non, gi_dict_bl, gi_dict_int, gi_dict_str, gi_dict_lst, gi_dict_tup, gi_dict_scr, gi_dict_dct, tr_b, true_and, and_true, eq_self, exO_some, hTL_l, hTL_t, hName_e, hCons_c, hNil_n, bind_so, it_l, it_t, it_r, List.getElem?_cons_zero, List.getElem?_cons_succ, List.set_cons_zero, List.set_cons_succ, true_and, and_true, Nat.zero_le, snb, nnb, ex_some, dT, if_true, Bool.false_eq_true, if_false, wipeE, Int.reduceLT, List.length_nil, List.length_cons, Nat.reduceAdd, Nat.reduceLeDiff, Nat.reduceLT, g_inS, g_ixS, g_slS, g_join, frz_def, g_sort, g_rev, List.length_map, List.length_range, g_isI, decide_true]
  | n, _, .str x => by
    rw [G_Lsame, w_run, b_Lsame]
    simp only [start_def, List.map_cons, List.map_nil, List.length_cons, List.length_nil, Nat.reduceAdd, Nat.reduceSub, List.replicate_succ, List.replicate_zero, List.cons_append, List.nil_append, Z1, Z2, z_bO0, z_bO1, z_for, z_lc, onV_v, onV_e, onS_v, onS_e, onB_v, onB_e, onBR_v, onBR_e, onA_v, onA_e, onVB_v, onVB_e, onVA_v, onVA_e, onAA_v, onAA_e, onAO_v, onAO_e, onBB_v, onBB_e, onO_n, onO_r, onO_b, onO_c, onO_e, onT_n, onT_c, onT_b, onT_r, onT_e, onR_n, onR_r, onR_e, okK_s, okK_n, wO_some, wR_some, wB_some, wA_some, z_lf, z_shr, w_c, w_var, z_op, z_un, z_tB1, z_truR, z_chain, z_andT, z_orT, z_notT, z_andV, z_orV, z_notV, z_if, w_nil, z_cons, z_lst, z_tup, w_dct0, z_call, z_bn, z_sm, z_sl, z_star, z_sh, z_set, z_asg, z_drop, z_ret, w_retV, w_retN, w_nx, z_seq, w_frz, z_ifS, z_app, z_put, z_items, z_it, g_add, g_sub, g_neg, g_mul, g_rep, g_fdiv, g_mod, g_pow, g_addS, g_addL, g_cmp0, g_eqI, g_eqS, g_eqB, g_lenL, g_lenT, g_lenR, g_lenS, g_int, g_intB, g_str, g_listL, g_listT, g_listM, g_tup, g_abs, g_max2, g_min2, gz_ixL, gz_ixT, gz_ixR, g_slL, gi_bool_non, gi_bool_bl, gi_bool_int, gi_bool_str, gi_bool_lst, gi_bool_tup, gi_bool_scr, gi_bool_dct, gi_int_non, gi_int_bl, gi_int_int, gi_int_str, gi_int_lst, gi_int_tup, gi_int_scr, gi_int_dct, gi_str_non, gi_str_bl, gi_str_int, gi_str_str, gi_str_lst, gi_str_tup, gi_str_scr, gi_str_dct, gi_list_non, gi_list_bl, gi_list_int, gi_list_str, gi_list_lst, gi_list_tup, gi_list_scr, gi_list_dct, gi_tuple_non, gi_tuple_bl, gi_tuple_int, gi_tuple_str, gi_tuple_lst, gi_tuple_tup, gi_tuple_scr, gi_tuple_dct, gi_dict_non, gi_dict_bl, gi_dict_int, gi_dict_str, gi_dict_lst, gi_dict_tup, gi_dict_scr, gi_dict_dct, tr_b, true_and, and_true, eq_self, exO_some, hTL_l, hTL_t, hName_e, hCons_c, hNil_n, bind_so, it_l, it_t, it_r, List.getElem?_cons_zero, List.getElem?_cons_succ, List.set_cons_zero, List.set_cons_succ, true_and, and_true, Nat.zero_le, snb, nnb, ex_some, dT, if_true, Bool.false_eq_true, if_false, wipeE, Int.reduceLT, List.length_nil, List.length_cons, Nat.reduceAdd, Nat.reduceLeDiff, Nat.reduceLT, g_inS, g_ixS, g_slS, g_join, frz_def, g_sort, g_rev, List.length_map, List.length_range, g_isS, decide_true]
  | n + 1, _, .lst (ds := ds) hl h => by
    rw [G_Lsame, w_run, b_Lsame]
    simp only [start_def, List.map_cons, List.map_nil, List.length_cons, List.length_nil, Nat.reduceAdd, Nat.reduceSub, List.replicate_succ, List.replicate_zero, List.cons_append, List.nil_append, Z1, Z2, z_bO0, z_bO1, z_for, z_lc, onV_v, onV_e, onS_v, onS_e, onB_v, onB_e, onBR_v, onBR_e, onA_v, onA_e, onVB_v, onVB_e, onVA_v, onVA_e, onAA_v, onAA_e, onAO_v, onAO_e, onBB_v, onBB_e, onO_n, onO_r, onO_b, onO_c, onO_e, onT_n, onT_c, onT_b, onT_r, onT_e, onR_n, onR_r, onR_e, okK_s, okK_n, wO_some, wR_some, wB_some, wA_some, z_lf, z_shr, w_c, w_var, z_op, z_un, z_tB1, z_truR, z_chain, z_andT, z_orT, z_notT, z_andV, z_orV, z_notV, z_if, w_nil, z_cons, z_lst, z_tup, w_dct0, z_call, z_bn, z_sm, z_sl, z_star, z_sh, z_set, z_asg, z_drop, z_ret, w_retV, w_retN, w_nx, z_seq, w_frz, z_ifS, z_app, z_put, z_items, z_it, g_add, g_sub, g_neg, g_mul, g_rep, g_fdiv, g_mod, g_pow, g_addS, g_addL, g_cmp0, g_eqI, g_eqS, g_eqB, g_lenL, g_lenT, g_lenR, g_lenS, g_int, g_intB, g_str, g_listL, g_listT, g_listM, g_tup, g_abs, g_max2, g_min2, gz_ixL, gz_ixT, gz_ixR, g_slL, gi_bool_non, gi_bool_bl, gi_bool_int, gi_bool_str, gi_bool_lst, gi_bool_tup, gi_bool_scr, gi_bool_dct, gi_int_non, gi_int_bl, gi_int_int, gi_int_str, gi_int_lst, gi_int_tup, gi_int_scr, gi_int_dct, gi_str_non, gi_str_bl, gi_str_int, gi_str_str, gi_str_lst, gi_str_tup, gi_str_scr, gi_str_dct, gi_list_non, gi_list_bl, gi_list_int, gi_list_str, gi_list_lst, gi_list_tup, gi_list_scr, gi_list_dct, gi_tuple_non, gi_tuple_bl, gi_tuple_int, gi_tuple_str, gi_tuple_lst, gi_tuple_tup, gi_tuple_scr, gi_tuple_dct, gi_dict_non, gi_dict_bl, gi_dict_int, gi_dict_str, gi_dict_lst, gi_dict_tup, gi_dict_scr, gi_dict_dct, tr_b, true_and, and_true, eq_self, exO_some, hTL_l, hTL_t, hName_e, hCons_c, hNil_n, bind_so, it_l, it_t, it_r, List.getElem?_cons_zero, List.getElem?_cons_succ, List.set_cons_zero, List.set_cons_succ, true_and, and_true, Nat.zero_le, snb, nnb, ex_some, dT, if_true, Bool.false_eq_true, if_false, wipeE, Int.reduceLT, List.length_nil, List.length_cons, Nat.reduceAdd, Nat.reduceLeDiff, Nat.reduceLT, g_inS, g_ixS, g_slS, g_join, frz_def, g_sort, g_rev, List.length_map, List.length_range, g_isL, decide_true, Bool.not_true, Bool.not_false, rng1_nat (n := ds.length) (by omega)]
    rw [lc_map (g := fun _ : Nat => D.bl true) (List.range ds.length) fun k hk => by
      have hk := List.mem_range.mp hk
      have e : atI ds (k : Int) = some ds[k] := by rw [atI_nat]; exact List.getElem?_eq_getElem hk
      simp only [Z1, Z2, z_bO0, z_bO1, z_for, z_lc, onV_v, onV_e, onS_v, onS_e, onB_v, onB_e, onBR_v, onBR_e, onA_v, onA_e, onVB_v, onVB_e, onVA_v, onVA_e, onAA_v, onAA_e, onAO_v, onAO_e, onBB_v, onBB_e, onO_n, onO_r, onO_b, onO_c, onO_e, onT_n, onT_c, onT_b, onT_r, onT_e, onR_n, onR_r, onR_e, okK_s, okK_n, wO_some, wR_some, wB_some, wA_some, z_lf, z_shr, w_c, w_var, z_op, z_un, z_tB1, z_truR, z_chain, z_andT, z_orT, z_notT, z_andV, z_orV, z_notV, z_if, w_nil, z_cons, z_lst, z_tup, w_dct0, z_call, z_bn, z_sm, z_sl, z_star, z_sh, z_set, z_asg, z_drop, z_ret, w_retV, w_retN, w_nx, z_seq, w_frz, z_ifS, z_app, z_put, z_items, z_it, g_add, g_sub, g_neg, g_mul, g_rep, g_fdiv, g_mod, g_pow, g_addS, g_addL, g_cmp0, g_eqI, g_eqS, g_eqB, g_lenL, g_lenT, g_lenR, g_lenS, g_int, g_intB, g_str, g_listL, g_listT, g_listM, g_tup, g_abs, g_max2, g_min2, gz_ixL, gz_ixT, gz_ixR, g_slL, gi_bool_non, gi_bool_bl, gi_bool_int, gi_bool_str, gi_bool_lst, gi_bool_tup, gi_bool_scr, gi_bool_dct, gi_int_non, gi_int_bl, gi_int_int, gi_int_str, gi_int_lst, gi_int_tup, gi_int_scr, gi_int_dct, gi_str_non, gi_str_bl, gi_str_int, gi_str_str, gi_str_lst, gi_str_tup, gi_str_scr, gi_str_dct, gi_list_non, gi_list_bl, gi_list_int, gi_list_str, gi_list_lst, gi_list_tup, gi_list_scr, gi_list_dct, gi_tuple_non, gi_tuple_bl, gi_tuple_int, gi_tuple_str, gi_tuple_lst, gi_tuple_tup, gi_tuple_scr, gi_tuple_dct, gi_dict_non, gi_dict_bl, gi_dict_int, gi_dict_str, gi_dict_lst, gi_dict_tup, gi_dict_scr, gi_dict_dct, tr_b, true_and, and_true, eq_self, exO_some, hTL_l, hTL_t, hName_e, hCons_c, hNil_n, bind_so, it_l, it_t, it_r, List.getElem?_cons_zero, List.getElem?_cons_succ, List.set_cons_zero, List.set_cons_succ, true_and, and_true, Nat.zero_le, snb, nnb, ex_some, dT, if_true, Bool.false_eq_true, if_false, wipeE, Int.reduceLT, List.length_nil, List.length_cons, Nat.reduceAdd, Nat.reduceLeDiff, Nat.reduceLT, g_inS, g_ixS, g_slS, g_join, frz_def, g_sort, g_rev, List.length_map, List.length_range, e]
      exact (same_refl n _ (h _ (List.getElem_mem hk))).mono fun r e => by subst e; exact ⟨_, rfl, by simp⟩]
    simp only [Z1, Z2, z_bO0, z_bO1, z_for, z_lc, onV_v, onV_e, onS_v, onS_e, onB_v, onB_e, onBR_v, onBR_e, onA_v, onA_e, onVB_v, onVB_e, onVA_v, onVA_e, onAA_v, onAA_e, onAO_v, onAO_e, onBB_v, onBB_e, onO_n, onO_r, onO_b, onO_c, onO_e, onT_n, onT_c, onT_b, onT_r, onT_e, onR_n, onR_r, onR_e, okK_s, okK_n, wO_some, wR_some, wB_some, wA_some, z_lf, z_shr, w_c, w_var, z_op, z_un, z_tB1, z_truR, z_chain, z_andT, z_orT, z_notT, z_andV, z_orV, z_notV, z_if, w_nil, z_cons, z_lst, z_tup, w_dct0, z_call, z_bn, z_sm, z_sl, z_star, z_sh, z_set, z_asg, z_drop, z_ret, w_retV, w_retN, w_nx, z_seq, w_frz, z_ifS, z_app, z_put, z_items, z_it, g_add, g_sub, g_neg, g_mul, g_rep, g_fdiv, g_mod, g_pow, g_addS, g_addL, g_cmp0, g_eqI, g_eqS, g_eqB, g_lenL, g_lenT, g_lenR, g_lenS, g_int, g_intB, g_str, g_listL, g_listT, g_listM, g_tup, g_abs, g_max2, g_min2, gz_ixL, gz_ixT, gz_ixR, g_slL, gi_bool_non, gi_bool_bl, gi_bool_int, gi_bool_str, gi_bool_lst, gi_bool_tup, gi_bool_scr, gi_bool_dct, gi_int_non, gi_int_bl, gi_int_int, gi_int_str, gi_int_lst, gi_int_tup, gi_int_scr, gi_int_dct, gi_str_non, gi_str_bl, gi_str_int, gi_str_str, gi_str_lst, gi_str_tup, gi_str_scr, gi_str_dct, gi_list_non, gi_list_bl, gi_list_int, gi_list_str, gi_list_lst, gi_list_tup, gi_list_scr, gi_list_dct, gi_tuple_non, gi_tuple_bl, gi_tuple_int, gi_tuple_str, gi_tuple_lst, gi_tuple_tup, gi_tuple_scr, gi_tuple_dct, gi_dict_non, gi_dict_bl, gi_dict_int, gi_dict_str, gi_dict_lst, gi_dict_tup, gi_dict_scr, gi_dict_dct, tr_b, true_and, and_true, eq_self, exO_some, hTL_l, hTL_t, hName_e, hCons_c, hNil_n, bind_so, it_l, it_t, it_r, List.getElem?_cons_zero, List.getElem?_cons_succ, List.set_cons_zero, List.set_cons_succ, true_and, and_true, Nat.zero_le, snb, nnb, ex_some, dT, if_true, Bool.false_eq_true, if_false, wipeE, Int.reduceLT, List.length_nil, List.length_cons, Nat.reduceAdd, Nat.reduceLeDiff, Nat.reduceLT, g_inS, g_ixS, g_slS, g_join, frz_def, g_sort, g_rev, List.length_map, List.length_range, g_allT]
    omega
  | n + 1, _, .tup (ds := ds) hl h => by
    rw [G_Lsame, w_run, b_Lsame]
    simp only [start_def, List.map_cons, List.map_nil, List.length_cons, List.length_nil, Nat.reduceAdd, Nat.reduceSub, List.replicate_succ, List.replicate_zero, List.cons_append, List.nil_append, Z1, Z2, z_bO0, z_bO1, z_for, z_lc, onV_v, onV_e, onS_v, onS_e, onB_v, onB_e, onBR_v, onBR_e, onA_v, onA_e, onVB_v, onVB_e, onVA_v, onVA_e, onAA_v, onAA_e, onAO_v, onAO_e, onBB_v, onBB_e, onO_n, onO_r, onO_b, onO_c, onO_e, onT_n, onT_c, onT_b, onT_r, onT_e, onR_n, onR_r, onR_e, okK_s, okK_n, wO_some, wR_some, wB_some, wA_some, z_lf, z_shr, w_c, w_var, z_op, z_un, z_tB1, z_truR, z_chain, z_andT, z_orT, z_notT, z_andV, z_orV, z_notV, z_if, w_nil, z_cons, z_lst, z_tup, w_dct0, z_call, z_bn, z_sm, z_sl, z_star, z_sh, z_set, z_asg, z_drop, z_ret, w_retV, w_retN, w_nx, z_seq, w_frz, z_ifS, z_app, z_put, z_items, z_it, g_add, g_sub, g_neg, g_mul, g_rep, g_fdiv, g_mod, g_pow, g_addS, g_addL, g_cmp0, g_eqI, g_eqS, g_eqB, g_lenL, g_lenT, g_lenR, g_lenS, g_int, g_intB, g_str, g_listL, g_listT, g_listM, g_tup, g_abs, g_max2, g_min2, gz_ixL, gz_ixT, gz_ixR, g_slL, gi_bool_non, gi_bool_bl, gi_bool_int, gi_bool_str, gi_bool_lst, gi_bool_tup, gi_bool_scr, gi_bool_dct, gi_int_non, gi_int_bl, gi_int_int, gi_int_str, gi_int_lst, gi_int_tup, gi_int_scr, gi_int_dct, gi_str_non, gi_str_bl, gi_str_int, gi_str_str, gi_str_lst, gi_str_tup, gi_str_scr, gi_str_dct, gi_list_non, gi_list_bl, gi_list_int, gi_list_str, gi_list_lst, gi_list_tup, gi_list_scr, gi_list_dct, gi_tuple_non, gi_tuple_bl, gi_tuple_int, gi_tuple_str, gi_tuple_lst, gi_tuple_tup, gi_tuple_scr, gi_tuple_dct, gi_dict_non, gi_dict_bl, gi_dict_int, gi_dict_str, gi_dict_lst, gi_dict_tup, gi_dict_scr, gi_dict_dct, tr_b, true_and, and_true, eq_self, exO_some, hTL_l, hTL_t, hName_e, hCons_c, hNil_n, bind_so, it_l, it_t, it_r, List.getElem?_cons_zero, List.getElem?_cons_succ, List.set_cons_zero, List.set_cons_succ, true_and, and_true, Nat.zero_le, snb, nnb, ex_some, dT, if_true, Bool.false_eq_true, if_false, wipeE, Int.reduceLT, List.length_nil, List.length_cons, Nat.reduceAdd, Nat.reduceLeDiff, Nat.reduceLT, g_inS, g_ixS, g_slS, g_join, frz_def, g_sort, g_rev, List.length_map, List.length_range, g_isT, decide_true, Bool.not_true, Bool.not_false, rng1_nat (n := ds.length) (by omega)]
    rw [lc_map (g := fun _ : Nat => D.bl true) (List.range ds.length) fun k hk => by
      have hk := List.mem_range.mp hk
      have e : atI ds (k : Int) = some ds[k] := by rw [atI_nat]; exact List.getElem?_eq_getElem hk
      simp only [Z1, Z2, z_bO0, z_bO1, z_for, z_lc, onV_v, onV_e, onS_v, onS_e, onB_v, onB_e, onBR_v, onBR_e, onA_v, onA_e, onVB_v, onVB_e, onVA_v, onVA_e, onAA_v, onAA_e, onAO_v, onAO_e, onBB_v, onBB_e, onO_n, onO_r, onO_b, onO_c, onO_e, onT_n, onT_c, onT_b, onT_r, onT_e, onR_n, onR_r, onR_e, okK_s, okK_n, wO_some, wR_some, wB_some, wA_some, z_lf, z_shr, w_c, w_var, z_op, z_un, z_tB1, z_truR, z_chain, z_andT, z_orT, z_notT, z_andV, z_orV, z_notV, z_if, w_nil, z_cons, z_lst, z_tup, w_dct0, z_call, z_bn, z_sm, z_sl, z_star, z_sh, z_set, z_asg, z_drop, z_ret, w_retV, w_retN, w_nx, z_seq, w_frz, z_ifS, z_app, z_put, z_items, z_it, g_add, g_sub, g_neg, g_mul, g_rep, g_fdiv, g_mod, g_pow, g_addS, g_addL, g_cmp0, g_eqI, g_eqS, g_eqB, g_lenL, g_lenT, g_lenR, g_lenS, g_int, g_intB, g_str, g_listL, g_listT, g_listM, g_tup, g_abs, g_max2, g_min2, gz_ixL, gz_ixT, gz_ixR, g_slL, gi_bool_non, gi_bool_bl, gi_bool_int, gi_bool_str, gi_bool_lst, gi_bool_tup, gi_bool_scr, gi_bool_dct, gi_int_non, gi_int_bl, gi_int_int, gi_int_str, gi_int_lst, gi_int_tup, gi_int_scr, gi_int_dct, gi_str_non, gi_str_bl, gi_str_int, gi_str_str, gi_str_lst, gi_str_tup, gi_str_scr, gi_str_dct, gi_list_non, gi_list_bl, gi_list_int, gi_list_str, gi_list_lst, gi_list_tup, gi_list_scr, gi_list_dct, gi_tuple_non, gi_tuple_bl, gi_tuple_int, gi_tuple_str, gi_tuple_lst, gi_tuple_tup, gi_tuple_scr, gi_tuple_dct, gi_dict_non, gi_dict_bl, gi_dict_int, gi_dict_str, gi_dict_lst, gi_dict_tup, gi_dict_scr, gi_dict_dct, tr_b, true_and, and_true, eq_self, exO_some, hTL_l, hTL_t, hName_e, hCons_c, hNil_n, bind_so, it_l, it_t, it_r, List.getElem?_cons_zero, List.getElem?_cons_succ, List.set_cons_zero, List.set_cons_succ, true_and, and_true, Nat.zero_le, snb, nnb, ex_some, dT, if_true, Bool.false_eq_true, if_false, wipeE, Int.reduceLT, List.length_nil, List.length_cons, Nat.reduceAdd, Nat.reduceLeDiff, Nat.reduceLT, g_inS, g_ixS, g_slS, g_join, frz_def, g_sort, g_rev, List.length_map, List.length_range, e]
      exact (same_refl n _ (h _ (List.getElem_mem hk))).mono fun r e => by subst e; exact ⟨_, rfl, by simp⟩]
    simp only [Z1, Z2, z_bO0, z_bO1, z_for, z_lc, onV_v, onV_e, onS_v, onS_e, onB_v, onB_e, onBR_v, onBR_e, onA_v, onA_e, onVB_v, onVB_e, onVA_v, onVA_e, onAA_v, onAA_e, onAO_v, onAO_e, onBB_v, onBB_e, onO_n, onO_r, onO_b, onO_c, onO_e, onT_n, onT_c, onT_b, onT_r, onT_e, onR_n, onR_r, onR_e, okK_s, okK_n, wO_some, wR_some, wB_some, wA_some, z_lf, z_shr, w_c, w_var, z_op, z_un, z_tB1, z_truR, z_chain, z_andT, z_orT, z_notT, z_andV, z_orV, z_notV, z_if, w_nil, z_cons, z_lst, z_tup, w_dct0, z_call, z_bn, z_sm, z_sl, z_star, z_sh, z_set, z_asg, z_drop, z_ret, w_retV, w_retN, w_nx, z_seq, w_frz, z_ifS, z_app, z_put, z_items, z_it, g_add, g_sub, g_neg, g_mul, g_rep, g_fdiv, g_mod, g_pow, g_addS, g_addL, g_cmp0, g_eqI, g_eqS, g_eqB, g_lenL, g_lenT, g_lenR, g_lenS, g_int, g_intB, g_str, g_listL, g_listT, g_listM, g_tup, g_abs, g_max2, g_min2, gz_ixL, gz_ixT, gz_ixR, g_slL, gi_bool_non, gi_bool_bl, gi_bool_int, gi_bool_str, gi_bool_lst, gi_bool_tup, gi_bool_scr, gi_bool_dct, gi_int_non, gi_int_bl, gi_int_int, gi_int_str, gi_int_lst, gi_int_tup, gi_int_scr, gi_int_dct, gi_str_non, gi_str_bl, gi_str_int, gi_str_str, gi_str_lst, gi_str_tup, gi_str_scr, gi_str_dct, gi_list_non, gi_list_bl, gi_list_int, gi_list_str, gi_list_lst, gi_list_tup, gi_list_scr, gi_list_dct, gi_tuple_non, gi_tuple_bl, gi_tuple_int, gi_tuple_str, gi_tuple_lst, gi_tuple_tup, gi_tuple_scr, gi_tuple_dct, gi_dict_non, gi_dict_bl, gi_dict_int, gi_dict_str, gi_dict_lst, gi_dict_tup, gi_dict_scr, gi_dict_dct, tr_b, true_and, and_true, eq_self, exO_some, hTL_l, hTL_t, hName_e, hCons_c, hNil_n, bind_so, it_l, it_t, it_r, List.getElem?_cons_zero, List.getElem?_cons_succ, List.set_cons_zero, List.set_cons_succ, true_and, and_true, Nat.zero_le, snb, nnb, ex_some, dT, if_true, Bool.false_eq_true, if_false, wipeE, Int.reduceLT, List.length_nil, List.length_cons, Nat.reduceAdd, Nat.reduceLeDiff, Nat.reduceLT, g_inS, g_ixS, g_slS, g_join, frz_def, g_sort, g_rev, List.length_map, List.length_range, g_allT]
    omega
end C
namespace K75
open PySem PySem.Spec PyProof.Rows L2 PD C
def top (i : Nat) : Stmt := PySem.Challenge.pw_allcells_k75_texts_of_terms_and_statemen.main.body.getD i (.Pass ⟨0, 0, 0, 0⟩)
abbrev s_Lsame : Stmt := top 10
abbrev N_Lsame : List Str := ["_law_found", "_law_due", "_law_key", "_law_k"]
theorem sc_Lsame : FnScope N_Lsame ["_law_found", "_law_due"] (defScope s_Lsame) := ⟨rfl, rfl, rfl, by decide +kernel, rfl, by decide +kernel, by decide +kernel⟩
abbrev s_Ltail_text : Stmt := top 19
abbrev N_Ltail_text : List Str := ["_law_k"]
theorem sc_Ltail_text : FnScope N_Ltail_text ["_law_k"] (defScope s_Ltail_text) := ⟨rfl, rfl, rfl, by decide +kernel, rfl, by decide +kernel, by decide +kernel⟩
abbrev s_Lterm_text : Stmt := top 20
abbrev N_Lterm_text : List Str := ["_law_term"]
theorem sc_Lterm_text : FnScope N_Lterm_text ["_law_term"] (defScope s_Lterm_text) := ⟨rfl, rfl, rfl, by decide +kernel, rfl, by decide +kernel, by decide +kernel⟩
abbrev s_show_tail : Stmt := top 2
abbrev N_show_tail : List Str := ["k"]
theorem sc_show_tail : FnScope N_show_tail ["k"] (defScope s_show_tail) := ⟨rfl, rfl, rfl, by decide +kernel, rfl, by decide +kernel, by decide +kernel⟩
abbrev s_show_term : Stmt := top 3
abbrev N_show_term : List Str := ["term", "name", "k", "array", "place"]
theorem sc_show_term : FnScope N_show_term ["term"] (defScope s_show_term) := ⟨rfl, rfl, rfl, by decide +kernel, rfl, by decide +kernel, by decide +kernel⟩
abbrev s_show_part : Stmt := top 4
abbrev N_show_part : List Str := ["kind", "part"]
theorem sc_show_part : FnScope N_show_part ["kind", "part"] (defScope s_show_part) := ⟨rfl, rfl, rfl, by decide +kernel, rfl, by decide +kernel, by decide +kernel⟩
abbrev s_show_saying : Stmt := top 5
abbrev N_show_saying : List Str := ["saying", "shown", "kind", "part"]
theorem sc_show_saying : FnScope N_show_saying ["saying"] (defScope s_show_saying) := ⟨rfl, rfl, rfl, by decide +kernel, rfl, by decide +kernel, by decide +kernel⟩
abbrev s_Lsaying_text : Stmt := top 21
abbrev N_Lsaying_text : List Str := ["_law_saying_here", "_law_text", "_law_part"]
theorem sc_Lsaying_text : FnScope N_Lsaying_text ["_law_saying_here"] (defScope s_Lsaying_text) := ⟨rfl, rfl, rfl, by decide +kernel, rfl, by decide +kernel, by decide +kernel⟩
abbrev s_Lscaled_term : Stmt := top 17
abbrev N_Lscaled_term : List Str := ["_law_term", "_law_scale_here", "_law_role", "_law_by"]
theorem sc_Lscaled_term : FnScope N_Lscaled_term ["_law_term", "_law_scale_here", "_law_role"] (defScope s_Lscaled_term) := ⟨rfl, rfl, rfl, by decide +kernel, rfl, by decide +kernel, by decide +kernel⟩
abbrev s_Lscaled_saying : Stmt := top 18
abbrev N_Lscaled_saying : List Str := ["_law_saying_here", "_law_scale_here", "_law_scaled", "_law_part"]
theorem sc_Lscaled_saying : FnScope N_Lscaled_saying ["_law_saying_here", "_law_scale_here"] (defScope s_Lscaled_saying) := ⟨rfl, rfl, rfl, by decide +kernel, rfl, by decide +kernel, by decide +kernel⟩
abbrev s_Lsums : Stmt := top 14
abbrev N_Lsums : List Str := ["_law_drawn", "_law_pool", "_law_numbers", "_law_arrays", "_law_sums_here", "_law_k", "_law_own", "_law_term", "_law_which", "_law_first", "_law_by", "_law_second", "_law_far"]
theorem sc_Lsums : FnScope N_Lsums ["_law_drawn", "_law_pool", "_law_numbers", "_law_arrays"] (defScope s_Lsums) := ⟨rfl, rfl, rfl, by decide +kernel, rfl, by decide +kernel, by decide +kernel⟩
abbrev s_Lfigure : Stmt := top 7
abbrev N_Lfigure : List Str := ["_law_script", "_law_at", "_law_figure_here"]
theorem sc_Lfigure : FnScope N_Lfigure ["_law_script", "_law_at"] (defScope s_Lfigure) := ⟨rfl, rfl, rfl, by decide +kernel, rfl, by decide +kernel, by decide +kernel⟩
abbrev s_Ldraws : Stmt := top 8
abbrev N_Ldraws : List Str := ["_law_script", "_law_at", "_law_limits", "_law_figure_here", "_law_rest", "_law_drawn", "_law_k", "_law_stir"]
theorem sc_Ldraws : FnScope N_Ldraws ["_law_script", "_law_at", "_law_limits"] (defScope s_Ldraws) := ⟨rfl, rfl, rfl, by decide +kernel, rfl, by decide +kernel, by decide +kernel⟩
abbrev s_Lsaying : Stmt := top 15
abbrev N_Lsaying : List Str := ["_law_script", "_law_at", "_law_parts_here", "_law_drawn", "_law_pool", "_law_terms", "_law_ends", "_law_sums_here", "_law_plain", "_law_one", "_law_other", "_law_forms", "_law_places", "_law_numbers", "_law_arrays", "_law_names_here", "_law_k"]
theorem sc_Lsaying : FnScope N_Lsaying ["_law_script", "_law_at", "_law_parts_here"] (defScope s_Lsaying) := ⟨rfl, rfl, rfl, by decide +kernel, rfl, by decide +kernel, by decide +kernel⟩
abbrev s_Llong : Stmt := top 9
abbrev N_Llong : List Str := ["_law_script", "_law_at", "_law_many", "_law_drawn", "_law_numbers", "_law_k", "_law_top", "_law_turn", "_law_number", "_law_part"]
theorem sc_Llong : FnScope N_Llong ["_law_script", "_law_at", "_law_many"] (defScope s_Llong) := ⟨rfl, rfl, rfl, by decide +kernel, rfl, by decide +kernel, by decide +kernel⟩
abbrev s_Lscale : Stmt := top 16
abbrev N_Lscale : List Str := ["_law_script", "_law_at", "_law_drawn", "_law_far"]
theorem sc_Lscale : FnScope N_Lscale ["_law_script", "_law_at"] (defScope s_Lscale) := ⟨rfl, rfl, rfl, by decide +kernel, rfl, by decide +kernel, by decide +kernel⟩
abbrev s_Lrow : Stmt := top 12
abbrev N_Lrow : List Str := ["_law_script", "_law_at", "_law_first", "_law_size", "_law_high", "_law_drawn", "_law_row_here", "_law_values", "_law_k", "_law_entry"]
theorem sc_Lrow : FnScope N_Lrow ["_law_script", "_law_at", "_law_first", "_law_size", "_law_high"] (defScope s_Lrow) := ⟨rfl, rfl, rfl, by decide +kernel, rfl, by decide +kernel, by decide +kernel⟩
abbrev s_Lnames : Stmt := top 11
abbrev N_Lnames : List Str := ["_law_script", "_law_at", "_law_many", "_law_letters", "_law_drawn", "_law_names_here", "_law_k", "_law_signs", "_law_name", "_law_turn", "_law_sign"]
theorem sc_Lnames : FnScope N_Lnames ["_law_script", "_law_at", "_law_many"] (defScope s_Lnames) := ⟨rfl, rfl, rfl, by decide +kernel, rfl, by decide +kernel, by decide +kernel⟩
abbrev s_Lparts : Stmt := top 13
abbrev N_Lparts : List Str := ["_law_script", "_law_at", "_law_drawn", "_law_names_here", "_law_places", "_law_k", "_law_numbers", "_law_arrays", "_law_row_here", "_law_spots", "_law_place", "_law_value", "_law_entry"]
theorem sc_Lparts : FnScope N_Lparts ["_law_script", "_law_at"] (defScope s_Lparts) := ⟨rfl, rfl, rfl, by decide +kernel, rfl, by decide +kernel, by decide +kernel⟩
abbrev s_law : Stmt := top 22
abbrev N_law : List Str := ["_law_script", "_law_parts_here", "_law_scale_here", "_law_at", "_law_saying_here", "_law_due", "_law_part", "_law_flat", "_law_told", "_law_text"]
theorem sc_law : FnScope N_law ["_law_script"] (defScope s_law) := ⟨rfl, rfl, rfl, by decide +kernel, rfl, by decide +kernel, by decide +kernel⟩
abbrev t_FORMS : List (Str × Str) := [("place", "pp"), ("value", "vv"), ("rising", "aee"), ("low", "aeev"), ("high", "aeev"), ("below", "aeeaeek"), ("same", "aaeek")]
structure Tx (w : World) (K : PySem.W.Frag) (mg : Str → Option Value) (fa : Nat → Addr) (fd : Nat → FuncData) (ct : Nat → Tok) (ca : Nat → Addr) : Prop where
  F_Lsame : Fun K "_law_same" "_law_same" s_Lsame (fa 0) (fd 0)
  g_Lsame : mg "_law_same" = some (.ref (fa 0))
  b_Lsame : Binds K (fd 0) ["_law_found", "_law_due"] []
  F_Ltail_text : Fun K "_law_tail_text" "_law_tail_text" s_Ltail_text (fa 1) (fd 1)
  g_Ltail_text : mg "_law_tail_text" = some (.ref (fa 1))
  b_Ltail_text : Binds K (fd 1) ["_law_k"] []
  F_Lterm_text : Fun K "_law_term_text" "_law_term_text" s_Lterm_text (fa 2) (fd 2)
  g_Lterm_text : mg "_law_term_text" = some (.ref (fa 2))
  b_Lterm_text : Binds K (fd 2) ["_law_term"] []
  F_show_tail : Fun K "show_tail" "show_tail" s_show_tail (fa 3) (fd 3)
  g_show_tail : mg "show_tail" = some (.ref (fa 3))
  b_show_tail : Binds K (fd 3) ["k"] []
  F_show_term : Fun K "show_term" "show_term" s_show_term (fa 4) (fd 4)
  g_show_term : mg "show_term" = some (.ref (fa 4))
  b_show_term : Binds K (fd 4) ["term"] []
  k_show_term : KB K (fd 4) ["term"] 0 ["term"]
  F_show_part : Fun K "show_part" "show_part" s_show_part (fa 5) (fd 5)
  g_show_part : mg "show_part" = some (.ref (fa 5))
  b_show_part : Binds K (fd 5) ["kind", "part"] []
  F_show_saying : Fun K "show_saying" "show_saying" s_show_saying (fa 6) (fd 6)
  g_show_saying : mg "show_saying" = some (.ref (fa 6))
  b_show_saying : Binds K (fd 6) ["saying"] []
  k_show_saying : KB K (fd 6) ["saying"] 0 ["saying"]
  F_Lsaying_text : Fun K "_law_saying_text" "_law_saying_text" s_Lsaying_text (fa 7) (fd 7)
  g_Lsaying_text : mg "_law_saying_text" = some (.ref (fa 7))
  b_Lsaying_text : Binds K (fd 7) ["_law_saying_here"] []
  F_Lscaled_term : Fun K "_law_scaled_term" "_law_scaled_term" s_Lscaled_term (fa 8) (fd 8)
  g_Lscaled_term : mg "_law_scaled_term" = some (.ref (fa 8))
  b_Lscaled_term : Binds K (fd 8) ["_law_term", "_law_scale_here", "_law_role"] []
  F_Lscaled_saying : Fun K "_law_scaled_saying" "_law_scaled_saying" s_Lscaled_saying (fa 9) (fd 9)
  g_Lscaled_saying : mg "_law_scaled_saying" = some (.ref (fa 9))
  b_Lscaled_saying : Binds K (fd 9) ["_law_saying_here", "_law_scale_here"] []
  F_Lsums : Fun K "_law_sums" "_law_sums" s_Lsums (fa 10) (fd 10)
  g_Lsums : mg "_law_sums" = some (.ref (fa 10))
  b_Lsums : Binds K (fd 10) ["_law_drawn", "_law_pool", "_law_numbers", "_law_arrays"] []
  F_Lfigure : Fun K "_law_figure" "_law_figure" s_Lfigure (fa 11) (fd 11)
  g_Lfigure : mg "_law_figure" = some (.ref (fa 11))
  b_Lfigure : Binds K (fd 11) ["_law_script", "_law_at"] []
  F_Ldraws : Fun K "_law_draws" "_law_draws" s_Ldraws (fa 12) (fd 12)
  g_Ldraws : mg "_law_draws" = some (.ref (fa 12))
  b_Ldraws : Binds K (fd 12) ["_law_script", "_law_at", "_law_limits"] []
  F_Lsaying : Fun K "_law_saying" "_law_saying" s_Lsaying (fa 13) (fd 13)
  g_Lsaying : mg "_law_saying" = some (.ref (fa 13))
  b_Lsaying : Binds K (fd 13) ["_law_script", "_law_at", "_law_parts_here"] []
  F_Llong : Fun K "_law_long" "_law_long" s_Llong (fa 14) (fd 14)
  g_Llong : mg "_law_long" = some (.ref (fa 14))
  b_Llong : Binds K (fd 14) ["_law_script", "_law_at", "_law_many"] []
  F_Lscale : Fun K "_law_scale" "_law_scale" s_Lscale (fa 15) (fd 15)
  g_Lscale : mg "_law_scale" = some (.ref (fa 15))
  b_Lscale : Binds K (fd 15) ["_law_script", "_law_at"] []
  F_Lrow : Fun K "_law_row" "_law_row" s_Lrow (fa 16) (fd 16)
  g_Lrow : mg "_law_row" = some (.ref (fa 16))
  b_Lrow : Binds K (fd 16) ["_law_script", "_law_at", "_law_first", "_law_size", "_law_high"] []
  F_Lnames : Fun K "_law_names" "_law_names" s_Lnames (fa 17) (fd 17)
  g_Lnames : mg "_law_names" = some (.ref (fa 17))
  b_Lnames : Binds K (fd 17) ["_law_script", "_law_at", "_law_many"] []
  F_Lparts : Fun K "_law_parts" "_law_parts" s_Lparts (fa 18) (fd 18)
  g_Lparts : mg "_law_parts" = some (.ref (fa 18))
  b_Lparts : Binds K (fd 18) ["_law_script", "_law_at"] []
  F_law : Fun K "law" "law" s_law (fa 19) (fd 19)
  g_law : mg "law" = some (.ref (fa 19))
  b_law : Binds K (fd 19) ["_law_script"] []
  n_all : mg "all" = none
  n_bool : mg "bool" = none
  n_dict : mg "dict" = none
  n_int : mg "int" = none
  n_isinstance : mg "isinstance" = none
  n_len : mg "len" = none
  n_list : mg "list" = none
  n_max : mg "max" = none
  n_min : mg "min" = none
  n_range : mg "range" = none
  n_sorted : mg "sorted" = none
  n_str : mg "str" = none
  n_tuple : mg "tuple" = none
  n_zip : mg "zip" = none
  d_FORMS : mg "FORMS" = some (.ref (fa 20))
  e_FORMS : ∀ p ∈ t_FORMS, KDct K w (fa 20) p.1 (.str p.2)
def b_Ltail_text : En → Option Out := fSeq (fIfS (fun en => tB1 ((fOp gtD (fVar 0) (fC (.int 0))) en)) (fRet (fOp addD (fC (.str "+")) (fUn strD (fVar 0)))) (fNx)) (fRet (fIf (fun en => tB1 ((fOp ltD (fVar 0) (fC (.int 0))) en)) (fUn strD (fVar 0)) (fC (.str ""))))
def F_Ltail_text : List D → Option R := runF b_Ltail_text 1
def b_Lterm_text (F_Lterm_text : List D → Option R) : En → Option Out := fSeq (fIfS (fun en => tB1 ((fOp eqD (fUn lenD (fVar 0)) (fC (.int 3))) en)) (fRet (fOp addD (fOp addD (fOp addD (fOp addD (fOp ixD (fVar 0) (fC (.int 0))) (fC (.str "["))) (fCall F_Lterm_text 1 (fCons (fOp ixD (fVar 0) (fC (.int 1))) (fNil)))) (fC (.str "]"))) (fCall F_Ltail_text 1 (fCons (fOp ixD (fVar 0) (fC (.int 2))) (fNil))))) (fNx)) (fSeq (fIfS (fun en => tB1 ((fOp eqD (fOp ixD (fVar 0) (fC (.int 0))) (fC (.str ""))) en)) (fRet (fUn strD (fOp ixD (fVar 0) (fC (.int 1))))) (fNx)) (fRet (fOp addD (fOp ixD (fVar 0) (fC (.int 0))) (fCall F_Ltail_text 1 (fCons (fOp ixD (fVar 0) (fC (.int 1))) (fNil))))))
def G_Lterm_text : Nat → List D → Option R
  | 0 => fun _ => none
  | n + 1 => runF (b_Lterm_text (G_Lterm_text n)) 1
def F_Lterm_text : List D → Option R := G_Lterm_text 8
def b_show_tail : En → Option Out := fSeq (fIfS (fun en => tB1 ((fOp eqD (fVar 0) (fC (.int 0))) en)) (fRet (fC (.str ""))) (fNx)) (fSeq (fIfS (fun en => tB1 ((fOp ltD (fVar 0) (fC (.int 0))) en)) (fRet (fUn strD (fVar 0))) (fNx)) (fRet (fOp addD (fC (.str "+")) (fUn strD (fVar 0)))))
def F_show_tail : List D → Option R := runF b_show_tail 1
def b_show_term (F_show_term : List D → Option R) : En → Option Out := fSeq (fIfS (fun en => tB1 ((fOp eqD (fUn lenD (fVar 0)) (fC (.int 3))) en)) (fSeq (fAsg (hTL 3 (hCons (hName 3) (hCons (hName 4) (hCons (hName 2) (hNil))))) (fVar 0)) (fRet (fOp addD (fOp addD (fOp addD (fOp addD (fVar 3) (fC (.str "["))) (fCall F_show_term 1 (fCons (fVar 4) (fNil)))) (fC (.str "]"))) (fCall F_show_tail 1 (fCons (fVar 2) (fNil)))))) (fNx)) (fSeq (fAsg (hTL 2 (hCons (hName 1) (hCons (hName 2) (hNil)))) (fVar 0)) (fSeq (fIfS (fun en => tB1 ((fOp eqD (fVar 1) (fC (.str ""))) en)) (fRet (fUn strD (fVar 2))) (fNx)) (fRet (fOp addD (fVar 1) (fCall F_show_tail 1 (fCons (fVar 2) (fNil)))))))
def G_show_term : Nat → List D → Option R
  | 0 => fun _ => none
  | n + 1 => runF (b_show_term (G_show_term n)) 5
def F_show_term : List D → Option R := G_show_term 8
def b_show_part : En → Option Out := fSeq (fIfS (fun en => tB1 ((fOp isND (fVar 1) (fC .non)) en)) (fRet (fC (.str ".."))) (fNx)) (fSeq (fIfS (fun en => tB1 ((fOp eqD (fVar 0) (fC (.str "a"))) en)) (fRetV 1) (fNx)) (fSeq (fIfS (fun en => tB1 ((fOp eqD (fVar 0) (fC (.str "k"))) en)) (fRet (fUn strD (fVar 1))) (fNx)) (fRet (fCall F_show_term 1 (fCons (fVar 1) (fNil))))))
def F_show_part : List D → Option R := runF b_show_part 2
def b_show_saying : En → Option Out := fSeq (fSh 1 (fLc (fIt zipD (fCons (fUn (tabD t_FORMS) (fOp ixD (fVar 0) (fC (.int 0)))) (fCons (fSl (fVar 0) (some (fC (.int 1))) none) (fNil)))) (hTL 2 (hCons (hName 2) (hCons (hName 3) (hNil)))) (fYes) (fCall F_show_part 2 (fCons (fVar 2) (fCons (fVar 3) (fNil)))) [2, 3])) (fRet (fSm joinD (fC (.str " ")) (fLst (fCons (fOp ixD (fVar 0) (fC (.int 0))) (fStar (fVar 1) (fNil))))))
def F_show_saying : List D → Option R := runF b_show_saying 4
def b_Lsaying_text : En → Option Out := fSeq (fSh 1 (fOp ixD (fVar 0) (fC (.int 0)))) (fSeq (fFor (fItems (fSl (fVar 0) (some (fC (.int 1))) none)) (hName 2) (fSeq (fSh 1 (fOp addD (fVar 1) (fC (.str " ")))) (fIfS (fun en => tB1 ((fOp isND (fVar 2) (fC .non)) en)) (fSh 1 (fOp addD (fVar 1) (fC (.str "..")))) (fIfS (fun en => truR ((fUn (isiD "str") (fVar 2)) en)) (fSh 1 (fOp addD (fVar 1) (fVar 2))) (fIfS (fun en => truR ((fUn (isiD "int") (fVar 2)) en)) (fSh 1 (fOp addD (fVar 1) (fUn strD (fVar 2)))) (fSh 1 (fOp addD (fVar 1) (fCall F_Lterm_text 1 (fCons (fVar 2) (fNil)))))))))) (fRetV 1))
def F_Lsaying_text : List D → Option R := runF b_Lsaying_text 3
def b_law : En → Option Out := fSeq (fSh 1 (fCall F_Lparts 2 (fCons (fVar 0) (fCons (fC (.int 0)) (fNil))))) (fSeq (fSh 2 (fCall F_Lscale 2 (fCons (fVar 0) (fCons (fC (.int 5)) (fNil))))) (fSeq (fFor (fIt rng2D (fCons (fC (.int 7)) (fCons (fBn max2D (fCons (fC (.int 11)) (fCons (fBn min2D (fCons (fUn lenD (fVar 0)) (fCons (fC (.int 63)) (fNil)))) (fNil)))) (fNil)))) (hName 3) (fSeq (fSh 4 (fCall F_Lsaying 3 (fCons (fVar 0) (fCons (fVar 3) (fCons (fVar 1) (fNil)))))) (fSeq (fIfS (fun en => tB1 ((fOp eqD (fOp modD (fUn intD (fVar 3)) (fC (.int 2))) (fC (.int 1))) en)) (fSh 4 (fCall F_Lscaled_saying 2 (fCons (fVar 4) (fCons (fVar 2) (fNil))))) (fNx)) (fSeq (fSh 5 (fCall F_Lsaying_text 1 (fCons (fVar 4) (fNil)))) (fSeq (fIfS (fNotT (fun en => truR ((fCall F_Lsame 2 (fCons (fLst (fCons (fCall F_show_saying 1 (fCons (fVar 4) (fNil))) (fCons (fCall F_show_saying 1 (fCons (fVar 4) (fNil))) (fNil)))) (fCons (fLst (fCons (fVar 5) (fCons (fVar 5) (fNil)))) (fNil)))) en))) (fRet (fC (.bl false))) (fNx)) (fFor (fItems (fSl (fVar 4) (some (fC (.int 1))) none)) (hName 6) (fIfS (fun en => truR ((fUn (isiD "tuple") (fVar 6)) en)) (fSeq (fSh 7 (fOp addD (fSl (fVar 6) none (some (fUn negD (fC (.int 1))))) (fTup (fCons (fC (.int 0)) (fNil))))) (fSeq (fSh 8 (fLst (fCons (fCall F_show_term 1 (fCons (fVar 6) (fNil))) (fCons (fCall F_show_term 1 (fCons (fVar 7) (fNil))) (fCons (fCall F_show_term 1 (fCons (fVar 6) (fNil))) (fNil)))))) (fSeq (fSh 9 (fCall F_Lterm_text 1 (fCons (fVar 6) (fNil)))) (fIfS (fNotT (fun en => truR ((fCall F_Lsame 2 (fCons (fVar 8) (fCons (fLst (fCons (fVar 9) (fCons (fCall F_Lterm_text 1 (fCons (fVar 7) (fNil))) (fCons (fVar 9) (fNil))))) (fNil)))) en))) (fRet (fC (.bl false))) (fNx))))) (fNx)))))))) (fRet (fC (.bl true)))))
def F_law : List D → Option R := runF b_law 10
section
variable {P : Program} {w : World} {K : PySem.W.Frag} {mg : Str → Option Value} {base : Heap} {cn : Nat → Addr} {fa : Nat → Addr} {fd : Nat → FuncData} {ct : Nat → Tok} {ca : Nat → Addr}
theorem g_Lsame (T : Tx w K mg fa fd ct ca) : ∀ n : Nat, FnOk P w K mg base (L2.CX P w) (0 + n) (fa 0) (fd 0) ["_law_found", "_law_due"] (spD K cn 2 (G_Lsame n))
  | 0 => ⟨fun vs H Q E h => by rw [spD_len vs H Q E h]; rfl, fun A outer s H args us vs Q E _ _ _ _ h => by obtain ⟨_, _, _, _, _, _, e, _⟩ := h; cases e⟩
  | n + 1 => by
    have ih := g_Lsame T n
    refine fn_D (FB := b_Lsame (G_Lsame n)) T.F_Lsame sc_Lsame rfl (fun cdv A outer s H E G0 hr tk => ?_) (fun _ _ _ h => h)
    have hq : ∀ j : Nat, j ≤ 0 → j ≤ 0 + n := fun j h => Nat.le_trans h (Nat.le_add_right _ _)
    exact dss_cons (ds_if (dt_cmp is_ok (de_var (pv 1)) (de_non) (nomark _)) (dss_one (ds_ret (de_cmp is_ok (de_var (pv 0)) (de_non) (nomark _)))) (dss_nil)) (dss_cons (ds_if (dt_w (dw_or (dt_tru (de_isi (T := "bool") (by decide) (by rfl) T.n_isinstance (de_var (pv 1)) (pe_bltn (by rfl) T.n_bool (by decide +kernel) rfl))) (dw_or1 (dt_tru (de_isi (T := "bool") (by decide) (by rfl) T.n_isinstance (de_var (pv 0)) (pe_bltn (by rfl) T.n_bool (by decide +kernel) rfl)))))) (dss_one (ds_ret (de_and (de_isi (T := "bool") (by decide) (by rfl) T.n_isinstance (de_var (pv 1)) (pe_bltn (by rfl) T.n_bool (by decide +kernel) rfl)) (de_and (de_isi (T := "bool") (by decide) (by rfl) T.n_isinstance (de_var (pv 0)) (pe_bltn (by rfl) T.n_bool (by decide +kernel) rfl)) (de_one (de_cmp (eq_ok hr.units) (de_var (pv 0)) (de_var (pv 1)) (nomark _))))))) (dss_nil)) (dss_cons (ds_if (dt_tru (de_isi (T := "int") (by decide) (by rfl) T.n_isinstance (de_var (pv 1)) (pe_bltn (by rfl) T.n_int (by decide +kernel) rfl))) (dss_one (ds_ret (de_and (de_isi (T := "int") (by decide) (by rfl) T.n_isinstance (de_var (pv 0)) (pe_bltn (by rfl) T.n_int (by decide +kernel) rfl)) (de_one (de_cmp (eq_ok hr.units) (de_var (pv 0)) (de_var (pv 1)) (nomark _)))))) (dss_nil)) (dss_cons (ds_if (dt_tru (de_isi (T := "str") (by decide) (by rfl) T.n_isinstance (de_var (pv 1)) (pe_bltn (by rfl) T.n_str (by decide +kernel) rfl))) (dss_one (ds_ret (de_and (de_isi (T := "str") (by decide) (by rfl) T.n_isinstance (de_var (pv 0)) (pe_bltn (by rfl) T.n_str (by decide +kernel) rfl)) (de_one (de_cmp (eq_ok hr.units) (de_var (pv 0)) (de_var (pv 1)) (nomark _)))))) (dss_nil)) (dss_cons (ds_if (dt_tru (de_isi (T := "dict") (by decide) (by rfl) T.n_isinstance (de_var (pv 1)) (pe_bltn (by rfl) T.n_dict (by decide +kernel) rfl))) (dss_cons (ds_if (dt_w (dw_or (dt_not (dt_tru (de_isi (T := "dict") (by decide) (by rfl) T.n_isinstance (de_var (pv 0)) (pe_bltn (by rfl) T.n_dict (by decide +kernel) rfl)))) (dw_or1 (dt_cmp (ne_ok hr.units) (de_b1 len_ok (by rfl) T.n_len (by decide +kernel) (de_var (pv 0))) (de_b1 len_ok (by rfl) T.n_len (by decide +kernel) (de_var (pv 1))) (nomark _))))) (dss_one (ds_ret (de_bl))) (dss_nil)) (dss_one (ds_ret (de_b1 (all_ok rfl) (by rfl) T.n_all (by decide +kernel) (de_lc (own := [("_law_key", 2)]) rfl sc_Lsame.nd (di_items (de_var (pv 1))) (blkOk_by (own := [("_law_key", 2)]) (N := N_Lsame) (sc := defScope s_Lsame) (by decide +kernel)) (dg_name 2) (by decide) (fun _ _ _ _ _ => pg_name (i := 2) sc_Lsame.nd rfl (by first | exact Or.inl rfl | exact Or.inr rfl)) (fun _ _ _ _ _ => dts_nil) (fun _ _ _ _ _ => de_and (de_cmp (in_ok (hu_of hr)) (de_var (pv 2)) (de_var (pv 0)) (by rfl)) (de_one (de_call ih hr (by rfl) T.g_Lsame T.F_Lsame.kp T.b_Lsame takes0 (da_cons (de_ix (hu_of hr) (de_var (pv 0)) (de_var (pv 2))) (da_cons (de_ix (hu_of hr) (de_var (pv 1)) (de_var (pv 2))) (da_nil))))))))))) (dss_nil)) (dss_cons (ds_if (dt_w (dw_or (dt_cmp (ne_ok hr.units) (de_isi (T := "list") (by decide) (by rfl) T.n_isinstance (de_var (pv 1)) (pe_bltn (by rfl) T.n_list (by decide +kernel) rfl)) (de_isi (T := "list") (by decide) (by rfl) T.n_isinstance (de_var (pv 0)) (pe_bltn (by rfl) T.n_list (by decide +kernel) rfl)) (nomark _)) (dw_or1 (dt_cmp (ne_ok hr.units) (de_isi (T := "tuple") (by decide) (by rfl) T.n_isinstance (de_var (pv 1)) (pe_bltn (by rfl) T.n_tuple (by decide +kernel) rfl)) (de_isi (T := "tuple") (by decide) (by rfl) T.n_isinstance (de_var (pv 0)) (pe_bltn (by rfl) T.n_tuple (by decide +kernel) rfl)) (nomark _))))) (dss_one (ds_ret (de_bl))) (dss_nil)) (dss_cons (ds_if (dt_cmp (ne_ok hr.units) (de_b1 len_ok (by rfl) T.n_len (by decide +kernel) (de_var (pv 0))) (de_b1 len_ok (by rfl) T.n_len (by decide +kernel) (de_var (pv 1))) (nomark _)) (dss_one (ds_ret (de_bl))) (dss_nil)) (dss_one (ds_ret (de_b1 (all_ok rfl) (by rfl) T.n_all (by decide +kernel) (de_lc (own := [("_law_k", 3)]) rfl sc_Lsame.nd (di_rng1 (by rfl) T.n_range (da_cons (de_b1 len_ok (by rfl) T.n_len (by decide +kernel) (de_var (pv 1))) (da_nil))) (blkOk_by (own := [("_law_k", 3)]) (N := N_Lsame) (sc := defScope s_Lsame) (by decide +kernel)) (dg_name 3) (by decide) (fun _ _ _ _ _ => pg_name (i := 3) sc_Lsame.nd rfl (by first | exact Or.inl rfl | exact Or.inr rfl)) (fun _ _ _ _ _ => dts_nil) (fun _ _ _ _ _ => de_call ih hr (by rfl) T.g_Lsame T.F_Lsame.kp T.b_Lsame takes0 (da_cons (de_ix (hu_of hr) (de_var (pv 0)) (de_var (pv 3))) (da_cons (de_ix (hu_of hr) (de_var (pv 1)) (de_var (pv 3))) (da_nil))))))))))))))
theorem w_Lsame (T : Tx w K mg fa fd ct ca) : FnOk P w K mg base (L2.CX P w) 8 (fa 0) (fd 0) ["_law_found", "_law_due"] (spD K cn 2 F_Lsame) := g_Lsame T 8
theorem w_Ltail_text (T : Tx w K mg fa fd ct ca) : FnOk P w K mg base (L2.CX P w) 1 (fa 1) (fd 1) ["_law_k"] (spD K cn 1 F_Ltail_text) :=
  fn_D (FB := b_Ltail_text) T.F_Ltail_text sc_Ltail_text rfl (fun cdv A outer s H E G0 hr tk =>
    dss_cons (ds_if (dt_cmp gt_ok (de_var (pv 0)) (de_int) (nomark _)) (dss_one (ds_ret (de_op add_ok (de_str) (de_t1 str_ok (by rfl) T.n_str (by decide +kernel) (de_var (pv 0)))))) (dss_nil)) (dss_one (ds_ret (de_if (dt_cmp lt_ok (de_var (pv 0)) (de_int) (nomark _)) (de_t1 str_ok (by rfl) T.n_str (by decide +kernel) (de_var (pv 0))) (de_str))))) (fun _ _ _ h => h)
theorem g_Lterm_text (T : Tx w K mg fa fd ct ca) : ∀ n : Nat, FnOk P w K mg base (L2.CX P w) (1 + n) (fa 2) (fd 2) ["_law_term"] (spD K cn 1 (G_Lterm_text n))
  | 0 => ⟨fun vs H Q E h => by rw [spD_len vs H Q E h]; rfl, fun A outer s H args us vs Q E _ _ _ _ h => by obtain ⟨_, _, _, _, _, _, e, _⟩ := h; cases e⟩
  | n + 1 => by
    have ih := g_Lterm_text T n
    refine fn_D (FB := b_Lterm_text (G_Lterm_text n)) T.F_Lterm_text sc_Lterm_text rfl (fun cdv A outer s H E G0 hr tk => ?_) (fun _ _ _ h => h)
    have hq : ∀ j : Nat, j ≤ 1 → j ≤ 1 + n := fun j h => Nat.le_trans h (Nat.le_add_right _ _)
    exact dss_cons (ds_if (dt_cmp (eq_ok hr.units) (de_b1 len_ok (by rfl) T.n_len (by decide +kernel) (de_var (pv 0))) (de_int) (nomark _)) (dss_one (ds_ret (de_op add_ok (de_op add_ok (de_op add_ok (de_op add_ok (de_ix (hu_of hr) (de_var (pv 0)) (de_int)) (de_str)) (de_call ih hr (by rfl) T.g_Lterm_text T.F_Lterm_text.kp T.b_Lterm_text tk (da_cons (de_ix (hu_of hr) (de_var (pv 0)) (de_int)) (da_nil)))) (de_str)) (de_call (w_Ltail_text T) (hr.mono (hq _ (by decide))) (by rfl) T.g_Ltail_text T.F_Ltail_text.kp T.b_Ltail_text tk (da_cons (de_ix (hu_of hr) (de_var (pv 0)) (de_int)) (da_nil)))))) (dss_nil)) (dss_cons (ds_if (dt_cmp (eq_ok hr.units) (de_ix (hu_of hr) (de_var (pv 0)) (de_int)) (de_str) (nomark _)) (dss_one (ds_ret (de_t1 str_ok (by rfl) T.n_str (by decide +kernel) (de_ix (hu_of hr) (de_var (pv 0)) (de_int))))) (dss_nil)) (dss_one (ds_ret (de_op add_ok (de_ix (hu_of hr) (de_var (pv 0)) (de_int)) (de_call (w_Ltail_text T) (hr.mono (hq _ (by decide))) (by rfl) T.g_Ltail_text T.F_Ltail_text.kp T.b_Ltail_text tk (da_cons (de_ix (hu_of hr) (de_var (pv 0)) (de_int)) (da_nil)))))))
theorem w_Lterm_text (T : Tx w K mg fa fd ct ca) : FnOk P w K mg base (L2.CX P w) 9 (fa 2) (fd 2) ["_law_term"] (spD K cn 1 F_Lterm_text) := g_Lterm_text T 8
theorem w_show_tail (T : Tx w K mg fa fd ct ca) : FnOk P w K mg base (L2.CX P w) 1 (fa 3) (fd 3) ["k"] (spD K cn 1 F_show_tail) :=
  fn_D (FB := b_show_tail) T.F_show_tail sc_show_tail rfl (fun cdv A outer s H E G0 hr tk =>
    dss_cons (ds_if (dt_cmp (eq_ok hr.units) (de_var (pv 0)) (de_int) (nomark _)) (dss_one (ds_ret (de_str))) (dss_nil)) (dss_cons (ds_if (dt_cmp lt_ok (de_var (pv 0)) (de_int) (nomark _)) (dss_one (ds_ret (de_t1 str_ok (by rfl) T.n_str (by decide +kernel) (de_var (pv 0))))) (dss_nil)) (dss_one (ds_ret (de_op add_ok (de_str) (de_t1 str_ok (by rfl) T.n_str (by decide +kernel) (de_var (pv 0)))))))) (fun _ _ _ h => h)
theorem g_show_term (T : Tx w K mg fa fd ct ca) : ∀ n : Nat, FnOk P w K mg base (L2.CX P w) (1 + n) (fa 4) (fd 4) ["term"] (spD K cn 1 (G_show_term n))
  | 0 => ⟨fun vs H Q E h => by rw [spD_len vs H Q E h]; rfl, fun A outer s H args us vs Q E _ _ _ _ h => by obtain ⟨_, _, _, _, _, _, e, _⟩ := h; cases e⟩
  | n + 1 => by
    have ih := g_show_term T n
    refine fn_D (FB := b_show_term (G_show_term n)) T.F_show_term sc_show_term rfl (fun cdv A outer s H E G0 hr tk => ?_) (fun _ _ _ h => h)
    have hq : ∀ j : Nat, j ≤ 1 → j ≤ 1 + n := fun j h => Nat.le_trans h (Nat.le_add_right _ _)
    exact dss_cons (ds_if (dt_cmp (eq_ok hr.units) (de_b1 len_ok (by rfl) T.n_len (by decide +kernel) (de_var (pv 0))) (de_int) (nomark _)) (dss_cons (ds_asg (dg_tl (n := 3) (dgs_cons (dg_name 3) (dgs_cons (dg_name 4) (dgs_cons (dg_name 2) (dgs_nil))))) (ps_asg (de_var (pv 0)) (PG.or (pg_tup rfl (pgs_cons (pg_name (i := 3) sc_show_term.nd rfl (by first | exact Or.inl rfl | exact Or.inr rfl)) (pgs_cons (pg_name (i := 4) sc_show_term.nd rfl (by first | exact Or.inl rfl | exact Or.inr rfl)) (pgs_cons (pg_name (i := 2) sc_show_term.nd rfl (by first | exact Or.inl rfl | exact Or.inr rfl)) (pgs_nil))))) (pg_unl rfl (pgs_cons (pg_name (i := 3) sc_show_term.nd rfl (by first | exact Or.inl rfl | exact Or.inr rfl)) (pgs_cons (pg_name (i := 4) sc_show_term.nd rfl (by first | exact Or.inl rfl | exact Or.inr rfl)) (pgs_cons (pg_name (i := 2) sc_show_term.nd rfl (by first | exact Or.inl rfl | exact Or.inr rfl)) (pgs_nil)))))))) (dss_one (ds_ret (de_op add_ok (de_op add_ok (de_op add_ok (de_op add_ok (de_var (pv 3)) (de_str)) (de_call ih hr (by rfl) T.g_show_term T.F_show_term.kp T.b_show_term tk (da_cons (de_var (pv 4)) (da_nil)))) (de_str)) (de_call (w_show_tail T) (hr.mono (hq _ (by decide))) (by rfl) T.g_show_tail T.F_show_tail.kp T.b_show_tail tk (da_cons (de_var (pv 2)) (da_nil))))))) (dss_nil)) (dss_cons (ds_asg (dg_tl (n := 2) (dgs_cons (dg_name 1) (dgs_cons (dg_name 2) (dgs_nil)))) (ps_asg (de_var (pv 0)) (PG.or (pg_tup rfl (pgs_cons (pg_name (i := 1) sc_show_term.nd rfl (by first | exact Or.inl rfl | exact Or.inr rfl)) (pgs_cons (pg_name (i := 2) sc_show_term.nd rfl (by first | exact Or.inl rfl | exact Or.inr rfl)) (pgs_nil)))) (pg_unl rfl (pgs_cons (pg_name (i := 1) sc_show_term.nd rfl (by first | exact Or.inl rfl | exact Or.inr rfl)) (pgs_cons (pg_name (i := 2) sc_show_term.nd rfl (by first | exact Or.inl rfl | exact Or.inr rfl)) (pgs_nil))))))) (dss_cons (ds_if (dt_cmp (eq_ok hr.units) (de_var (pv 1)) (de_str) (nomark _)) (dss_one (ds_ret (de_t1 str_ok (by rfl) T.n_str (by decide +kernel) (de_var (pv 2))))) (dss_nil)) (dss_one (ds_ret (de_op add_ok (de_var (pv 1)) (de_call (w_show_tail T) (hr.mono (hq _ (by decide))) (by rfl) T.g_show_tail T.F_show_tail.kp T.b_show_tail tk (da_cons (de_var (pv 2)) (da_nil))))))))
theorem w_show_term (T : Tx w K mg fa fd ct ca) : FnOk P w K mg base (L2.CX P w) 9 (fa 4) (fd 4) ["term"] (spD K cn 1 F_show_term) := g_show_term T 8
theorem w_show_part (T : Tx w K mg fa fd ct ca) : FnOk P w K mg base (L2.CX P w) 10 (fa 5) (fd 5) ["kind", "part"] (spD K cn 2 F_show_part) :=
  fn_D (FB := b_show_part) T.F_show_part sc_show_part rfl (fun cdv A outer s H E G0 hr tk =>
    dss_cons (ds_if (dt_cmp is_ok (de_var (pv 1)) (de_non) (nomark _)) (dss_one (ds_ret (de_str))) (dss_nil)) (dss_cons (ds_if (dt_cmp (eq_ok hr.units) (de_var (pv 0)) (de_str) (nomark _)) (dss_one (ds_retV (pv 1))) (dss_nil)) (dss_cons (ds_if (dt_cmp (eq_ok hr.units) (de_var (pv 0)) (de_str) (nomark _)) (dss_one (ds_ret (de_t1 str_ok (by rfl) T.n_str (by decide +kernel) (de_var (pv 1))))) (dss_nil)) (dss_one (ds_ret (de_call (w_show_term T) (hr.mono (by decide)) (by rfl) T.g_show_term T.F_show_term.kp T.b_show_term tk (da_cons (de_var (pv 1)) (da_nil)))))))) (fun _ _ _ h => h)
theorem w_show_saying (T : Tx w K mg fa fd ct ca) : FnOk P w K mg base (L2.CX P w) 11 (fa 6) (fd 6) ["saying"] (spD K cn 1 F_show_saying) :=
  fn_D (FB := b_show_saying) T.F_show_saying sc_show_saying rfl (fun cdv A outer s H E G0 hr tk =>
    dss_cons ((by first | exact ds_shLc (dg_tl (n := 2) (dgs_cons (dg_name 2) (dgs_cons (dg_name 3) (dgs_nil)))) (by decide) (ps_setLc (i := 1) (own := [("kind", 2), ("part", 3)]) rfl sc_show_saying.nd rfl rfl (sw_true rfl rfl rfl (by decide +kernel)) (di_zip (by rfl) T.n_zip (da_cons (de_tab (pe_glob (by rfl) T.d_FORMS rfl) (look_all T.e_FORMS) (de_ix (hu_of hr) (de_var (pv 0)) (de_int))) (da_cons (de_sl (de_var (pv 0)) (do_some (de_int)) do_none) (da_nil)))) (blkOk_by (own := [("kind", 2), ("part", 3)]) (N := N_show_saying) (sc := defScope s_show_saying) (by decide +kernel)) (fun _ _ _ _ _ => PG.or (pg_tup rfl (pgs_cons (pg_name (i := 2) sc_show_saying.nd rfl (by first | exact Or.inl rfl | exact Or.inr rfl)) (pgs_cons (pg_name (i := 3) sc_show_saying.nd rfl (by first | exact Or.inl rfl | exact Or.inr rfl)) (pgs_nil)))) (pg_unl rfl (pgs_cons (pg_name (i := 2) sc_show_saying.nd rfl (by first | exact Or.inl rfl | exact Or.inr rfl)) (pgs_cons (pg_name (i := 3) sc_show_saying.nd rfl (by first | exact Or.inl rfl | exact Or.inr rfl)) (pgs_nil))))) (fun _ _ _ _ _ => dts_nil) (fun _ _ _ _ _ => de_call (w_show_part T) (hr.mono (by decide)) (by rfl) T.g_show_part T.F_show_part.kp T.b_show_part takes0 (da_cons (de_var (pv 2)) (da_cons (de_var (pv 3)) (da_nil))))) | exact ds_sh (ps_set (i := 1) sc_show_saying.nd rfl (by first | exact Or.inl rfl | exact Or.inr rfl) (de_lc (own := [("kind", 2), ("part", 3)]) rfl sc_show_saying.nd (di_zip (by rfl) T.n_zip (da_cons (de_tab (pe_glob (by rfl) T.d_FORMS rfl) (look_all T.e_FORMS) (de_ix (hu_of hr) (de_var (pv 0)) (de_int))) (da_cons (de_sl (de_var (pv 0)) (do_some (de_int)) do_none) (da_nil)))) (blkOk_by (own := [("kind", 2), ("part", 3)]) (N := N_show_saying) (sc := defScope s_show_saying) (by decide +kernel)) (dg_tl (n := 2) (dgs_cons (dg_name 2) (dgs_cons (dg_name 3) (dgs_nil)))) (by decide) (fun _ _ _ _ _ => PG.or (pg_tup rfl (pgs_cons (pg_name (i := 2) sc_show_saying.nd rfl (by first | exact Or.inl rfl | exact Or.inr rfl)) (pgs_cons (pg_name (i := 3) sc_show_saying.nd rfl (by first | exact Or.inl rfl | exact Or.inr rfl)) (pgs_nil)))) (pg_unl rfl (pgs_cons (pg_name (i := 2) sc_show_saying.nd rfl (by first | exact Or.inl rfl | exact Or.inr rfl)) (pgs_cons (pg_name (i := 3) sc_show_saying.nd rfl (by first | exact Or.inl rfl | exact Or.inr rfl)) (pgs_nil))))) (fun _ _ _ _ _ => dts_nil) (fun _ _ _ _ _ => de_call (w_show_part T) (hr.mono (by decide)) (by rfl) T.g_show_part T.F_show_part.kp T.b_show_part takes0 (da_cons (de_var (pv 2)) (da_cons (de_var (pv 3)) (da_nil)))))))) (dss_one (ds_ret (de_join (pe_join (de_str) (de_lst (da_cons (de_ix (hu_of hr) (de_var (pv 0)) (de_int)) (da_star (de_var (pv 1)) (da_nil))))))))) (fun _ _ _ h => h)
theorem w_Lsaying_text (T : Tx w K mg fa fd ct ca) : FnOk P w K mg base (L2.CX P w) 10 (fa 7) (fd 7) ["_law_saying_here"] (spD K cn 1 F_Lsaying_text) :=
  fn_D (FB := b_Lsaying_text) T.F_Lsaying_text sc_Lsaying_text rfl (fun cdv A outer s H E G0 hr tk =>
    dss_cons (ds_sh (ps_set (i := 1) sc_Lsaying_text.nd rfl (by first | exact Or.inl rfl | exact Or.inr rfl) (de_ix (hu_of hr) (de_var (pv 0)) (de_int)))) (dss_cons (ds_for (passes_of rfl) rfl (di_items (de_sl (de_var (pv 0)) (do_some (de_int)) do_none)) (pg_name (i := 2) sc_Lsaying_text.nd rfl (by first | exact Or.inl rfl | exact Or.inr rfl)) (dg_name 2) (dss_cons (ds_sh (ps_set (i := 1) sc_Lsaying_text.nd rfl (by first | exact Or.inl rfl | exact Or.inr rfl) (de_op add_ok (de_var (pv 1)) (de_str)))) (dss_one (ds_if (dt_cmp is_ok (de_var (pv 2)) (de_non) (nomark _)) (dss_one (ds_sh (ps_set (i := 1) sc_Lsaying_text.nd rfl (by first | exact Or.inl rfl | exact Or.inr rfl) (de_op add_ok (de_var (pv 1)) (de_str))))) (dss_one (ds_if (dt_tru (de_isi (T := "str") (by decide) (by rfl) T.n_isinstance (de_var (pv 2)) (pe_bltn (by rfl) T.n_str (by decide +kernel) rfl))) (dss_one (ds_sh (ps_set (i := 1) sc_Lsaying_text.nd rfl (by first | exact Or.inl rfl | exact Or.inr rfl) (de_op add_ok (de_var (pv 1)) (de_var (pv 2)))))) (dss_one (ds_if (dt_tru (de_isi (T := "int") (by decide) (by rfl) T.n_isinstance (de_var (pv 2)) (pe_bltn (by rfl) T.n_int (by decide +kernel) rfl))) (dss_one (ds_sh (ps_set (i := 1) sc_Lsaying_text.nd rfl (by first | exact Or.inl rfl | exact Or.inr rfl) (de_op add_ok (de_var (pv 1)) (de_t1 str_ok (by rfl) T.n_str (by decide +kernel) (de_var (pv 2))))))) (dss_one (ds_sh (ps_set (i := 1) sc_Lsaying_text.nd rfl (by first | exact Or.inl rfl | exact Or.inr rfl) (de_op add_ok (de_var (pv 1)) (de_call (w_Lterm_text T) (hr.mono (by decide)) (by rfl) T.g_Lterm_text T.F_Lterm_text.kp T.b_Lterm_text tk (da_cons (de_var (pv 2)) (da_nil))))))))))))))) (dss_one (ds_retV (pv 1))))) (fun _ _ _ h => h)
theorem g_Lscaled_term (T : Tx w K mg fa fd ct ca) : ∀ n : Nat, FnOk P w K mg base (L2.CX P w) (0 + n) (fa 8) (fd 8) ["_law_term", "_law_scale_here", "_law_role"] (spD K cn 3 (G_Lscaled_term n))
  | 0 => ⟨fun vs H Q E h => by rw [spD_len vs H Q E h]; rfl, fun A outer s H args us vs Q E _ _ _ _ h => by obtain ⟨_, _, _, _, _, _, e, _⟩ := h; cases e⟩
  | n + 1 => by
    have ih := g_Lscaled_term T n
    refine fn_D (FB := b_Lscaled_term (G_Lscaled_term n)) T.F_Lscaled_term sc_Lscaled_term rfl (fun cdv A outer s H E G0 hr tk => ?_) (fun _ _ _ h => h)
    have hq : ∀ j : Nat, j ≤ 0 → j ≤ 0 + n := fun j h => Nat.le_trans h (Nat.le_add_right _ _)
    exact dss_cons (ds_if (dt_cmp is_ok (de_var (pv 0)) (de_non) (nomark _)) (dss_one (ds_ret (de_non))) (dss_nil)) (dss_cons (ds_if (dt_cmp (eq_ok hr.units) (de_b1 len_ok (by rfl) T.n_len (by decide +kernel) (de_var (pv 0))) (de_int) (nomark _)) (dss_one (ds_ret (de_tup (da_cons (de_ix (hu_of hr) (de_var (pv 0)) (de_int)) (da_cons (de_call ih hr (by rfl) T.g_Lscaled_term T.F_Lscaled_term.kp T.b_Lscaled_term tk (da_cons (de_ix (hu_of hr) (de_var (pv 0)) (de_int)) (da_cons (de_var (pv 1)) (da_cons (de_int) (da_nil))))) (da_cons (de_op mul_ok (de_ix (hu_of hr) (de_var (pv 0)) (de_int)) (de_ix (hu_of hr) (de_var (pv 1)) (de_int))) (da_nil))))))) (dss_nil)) (dss_cons (ds_sh (ps_set (i := 3) sc_Lscaled_term.nd rfl (by first | exact Or.inl rfl | exact Or.inr rfl) (de_op mul_ok (de_ix (hu_of hr) (de_var (pv 0)) (de_int)) (de_ix (hu_of hr) (de_var (pv 1)) (de_op mul_ok (de_int) (de_var (pv 2))))))) (dss_cons (ds_if (dt_cmp (eq_ok hr.units) (de_ix (hu_of hr) (de_var (pv 0)) (de_int)) (de_str) (nomark _)) (dss_one (ds_sh (ps_set (i := 3) sc_Lscaled_term.nd rfl (by first | exact Or.inl rfl | exact Or.inr rfl) (de_op add_ok (de_var (pv 3)) (de_ix (hu_of hr) (de_var (pv 1)) (de_op add_ok (de_op mul_ok (de_int) (de_var (pv 2))) (de_int))))))) (dss_nil)) (dss_one (ds_ret (de_tup (da_cons (de_ix (hu_of hr) (de_var (pv 0)) (de_int)) (da_cons (de_var (pv 3)) (da_nil)))))))))
theorem w_Lscaled_term (T : Tx w K mg fa fd ct ca) : FnOk P w K mg base (L2.CX P w) 8 (fa 8) (fd 8) ["_law_term", "_law_scale_here", "_law_role"] (spD K cn 3 F_Lscaled_term) := g_Lscaled_term T 8
theorem w_Lscaled_saying (T : Tx w K mg fa fd ct ca) : FnOk P w K mg base (L2.CX P w) 9 (fa 9) (fd 9) ["_law_saying_here", "_law_scale_here"] (spD K cn 2 F_Lscaled_saying) :=
  fn_D (FB := b_Lscaled_saying) T.F_Lscaled_saying sc_Lscaled_saying rfl (fun cdv A outer s H E G0 hr tk =>
    dss_cons (ds_if (dt_cmp (eq_ok hr.units) (de_ix (hu_of hr) (de_var (pv 0)) (de_int)) (de_str) (nomark _)) (dss_one (ds_ret (de_tup (da_cons (de_str) (da_cons (de_call (w_Lscaled_term T) (hr.mono (by decide)) (by rfl) T.g_Lscaled_term T.F_Lscaled_term.kp T.b_Lscaled_term tk (da_cons (de_ix (hu_of hr) (de_var (pv 0)) (de_int)) (da_cons (de_var (pv 1)) (da_cons (de_int) (da_nil))))) (da_cons (de_call (w_Lscaled_term T) (hr.mono (by decide)) (by rfl) T.g_Lscaled_term T.F_Lscaled_term.kp T.b_Lscaled_term tk (da_cons (de_ix (hu_of hr) (de_var (pv 0)) (de_int)) (da_cons (de_var (pv 1)) (da_cons (de_int) (da_nil))))) (da_nil))))))) (dss_nil)) (dss_cons (ds_if (dt_cmp (eq_ok hr.units) (de_ix (hu_of hr) (de_var (pv 0)) (de_int)) (de_str) (nomark _)) (dss_one (ds_ret (de_tup (da_cons (de_str) (da_cons (de_call (w_Lscaled_term T) (hr.mono (by decide)) (by rfl) T.g_Lscaled_term T.F_Lscaled_term.kp T.b_Lscaled_term tk (da_cons (de_ix (hu_of hr) (de_var (pv 0)) (de_int)) (da_cons (de_var (pv 1)) (da_cons (de_int) (da_nil))))) (da_cons (de_call (w_Lscaled_term T) (hr.mono (by decide)) (by rfl) T.g_Lscaled_term T.F_Lscaled_term.kp T.b_Lscaled_term tk (da_cons (de_ix (hu_of hr) (de_var (pv 0)) (de_int)) (da_cons (de_var (pv 1)) (da_cons (de_int) (da_nil))))) (da_nil))))))) (dss_nil)) (dss_cons (ds_set (ps_set (i := 2) sc_Lscaled_saying.nd rfl (by first | exact Or.inl rfl | exact Or.inr rfl) (de_lst (da_nil)))) (dss_cons (ds_for (passes_of rfl) rfl (di_items (de_var (pv 0))) (pg_name (i := 3) sc_Lscaled_saying.nd rfl (by first | exact Or.inl rfl | exact Or.inr rfl)) (dg_name 3) (dss_one (ds_if (dt_tru (de_isi (T := "int") (by decide) (by rfl) T.n_isinstance (de_var (pv 3)) (pe_bltn (by rfl) T.n_int (by decide +kernel) rfl))) (dss_one (ds_app (ps_expr (pe_bm PySem.F.plainAttrs_list PySem.F.slot_list_append PySem.F.type_list_append mt_append (pv 2) (pa_cons (de_op mul_ok (de_var (pv 3)) (de_ix (hu_of hr) (de_var (pv 1)) (de_int))) pa_nil))))) (dss_one (ds_if (dt_tru (de_isi (T := "str") (by decide) (by rfl) T.n_isinstance (de_var (pv 3)) (pe_bltn (by rfl) T.n_str (by decide +kernel) rfl))) (dss_one (ds_app (ps_expr (pe_bm PySem.F.plainAttrs_list PySem.F.slot_list_append PySem.F.type_list_append mt_append (pv 2) (pa_cons (de_var (pv 3)) pa_nil))))) (dss_one (ds_app (ps_expr (pe_bm PySem.F.plainAttrs_list PySem.F.slot_list_append PySem.F.type_list_append mt_append (pv 2) (pa_cons (de_call (w_Lscaled_term T) (hr.mono (by decide)) (by rfl) T.g_Lscaled_term T.F_Lscaled_term.kp T.b_Lscaled_term tk (da_cons (de_var (pv 3)) (da_cons (de_var (pv 1)) (da_cons (de_int) (da_nil))))) pa_nil)))))))))) (dss_cons (ds_if (dt_cmp (in_ok (hu_of hr)) (de_ix (hu_of hr) (de_var (pv 0)) (de_int)) (de_tup (da_cons (de_str) (da_cons (de_str) (da_nil)))) (by rfl)) (dss_one (ds_put (ps_asg (de_call (w_Lscaled_term T) (hr.mono (by decide)) (by rfl) T.g_Lscaled_term T.F_Lscaled_term.kp T.b_Lscaled_term tk (da_cons (de_ix (hu_of hr) (de_var (pv 0)) (de_int)) (da_cons (de_var (pv 1)) (da_cons (de_int) (da_nil))))) (pg_sub (pv 2) (de_int) (set_any (hu_of hr)))))) (dss_nil)) (dss_one (ds_ret (de_t1 tup_ok (by rfl) T.n_tuple (by decide +kernel) (de_var (pv 2)))))))))) (fun _ _ _ h => h)
theorem w_Lsums (T : Tx w K mg fa fd ct ca) : FnOk P w K mg base (L2.CX P w) 1 (fa 10) (fd 10) ["_law_drawn", "_law_pool", "_law_numbers", "_law_arrays"] (spD K cn 4 F_Lsums) :=
  fn_D (FB := b_Lsums) T.F_Lsums sc_Lsums rfl (fun cdv A outer s H E G0 hr tk =>
    dss_cons (ds_set (ps_set (i := 4) sc_Lsums.nd rfl (by first | exact Or.inl rfl | exact Or.inr rfl) (de_lst (da_nil)))) (dss_cons (ds_for (passes_of rfl) rfl (di_rng1 (by rfl) T.n_range (da_cons (de_int) (da_nil))) (pg_name (i := 5) sc_Lsums.nd rfl (by first | exact Or.inl rfl | exact Or.inr rfl)) (dg_name 5) (dss_cons (ds_sh (ps_set (i := 6) sc_Lsums.nd rfl (by first | exact Or.inl rfl | exact Or.inr rfl) (de_op add_ok (de_lst (da_cons (de_str) (da_nil))) (de_var (pv 2))))) (dss_cons (ds_asg (dg_tl (n := 5) (dgs_cons (dg_name 8) (dgs_cons (dg_name 9) (dgs_cons (dg_name 10) (dgs_cons (dg_name 11) (dgs_cons (dg_name 12) (dgs_nil))))))) (ps_asg (de_sl (de_var (pv 0)) (do_some (de_op mul_ok (de_int) (de_var (pv 5)))) (do_some (de_op add_ok (de_op mul_ok (de_int) (de_var (pv 5))) (de_int)))) (PG.or (pg_tup rfl (pgs_cons (pg_name (i := 8) sc_Lsums.nd rfl (by first | exact Or.inl rfl | exact Or.inr rfl)) (pgs_cons (pg_name (i := 9) sc_Lsums.nd rfl (by first | exact Or.inl rfl | exact Or.inr rfl)) (pgs_cons (pg_name (i := 10) sc_Lsums.nd rfl (by first | exact Or.inl rfl | exact Or.inr rfl)) (pgs_cons (pg_name (i := 11) sc_Lsums.nd rfl (by first | exact Or.inl rfl | exact Or.inr rfl)) (pgs_cons (pg_name (i := 12) sc_Lsums.nd rfl (by first | exact Or.inl rfl | exact Or.inr rfl)) (pgs_nil))))))) (pg_unl rfl (pgs_cons (pg_name (i := 8) sc_Lsums.nd rfl (by first | exact Or.inl rfl | exact Or.inr rfl)) (pgs_cons (pg_name (i := 9) sc_Lsums.nd rfl (by first | exact Or.inl rfl | exact Or.inr rfl)) (pgs_cons (pg_name (i := 10) sc_Lsums.nd rfl (by first | exact Or.inl rfl | exact Or.inr rfl)) (pgs_cons (pg_name (i := 11) sc_Lsums.nd rfl (by first | exact Or.inl rfl | exact Or.inr rfl)) (pgs_cons (pg_name (i := 12) sc_Lsums.nd rfl (by first | exact Or.inl rfl | exact Or.inr rfl)) (pgs_nil)))))))))) (dss_cons (ds_sh (ps_set (i := 7) sc_Lsums.nd rfl (by first | exact Or.inl rfl | exact Or.inr rfl) (de_tup (da_cons (de_ix (hu_of hr) (de_var (pv 6)) (de_op mod_ok (de_t1 int_ok (by rfl) T.n_int (by decide +kernel) (de_var (pv 9))) (de_b1 len_ok (by rfl) T.n_len (by decide +kernel) (de_var (pv 6))))) (da_cons (de_op sub_ok (de_var (pv 10)) (de_int)) (da_nil)))))) (dss_cons (ds_if (dt_w (dw_and (dt_cmp (eq_ok hr.units) (de_var (pv 8)) (de_int) (nomark _)) (dw_and1 (dt_cmp gt_ok (de_b1 len_ok (by rfl) T.n_len (by decide +kernel) (de_var (pv 3))) (de_int) (nomark _))))) (dss_one (ds_sh (ps_set (i := 7) sc_Lsums.nd rfl (by first | exact Or.inl rfl | exact Or.inr rfl) (de_tup (da_cons (de_ix (hu_of hr) (de_var (pv 3)) (de_op mod_ok (de_t1 int_ok (by rfl) T.n_int (by decide +kernel) (de_var (pv 9))) (de_b1 len_ok (by rfl) T.n_len (by decide +kernel) (de_var (pv 3))))) (da_cons (de_tup (da_cons (de_ix (hu_of hr) (de_var (pv 1)) (de_op mod_ok (de_t1 int_ok (by rfl) T.n_int (by decide +kernel) (de_var (pv 11))) (de_b1 len_ok (by rfl) T.n_len (by decide +kernel) (de_var (pv 1))))) (da_cons (de_op sub_ok (de_var (pv 12)) (de_int)) (da_nil)))) (da_cons (de_op sub_ok (de_var (pv 10)) (de_int)) (da_nil)))))))) (dss_nil)) (dss_one (ds_app (ps_expr (pe_bm PySem.F.plainAttrs_list PySem.F.slot_list_append PySem.F.type_list_append mt_append (pv 4) (pa_cons (de_var (pv 7)) pa_nil)))))))))) (dss_one (ds_retV (pv 4))))) (fun _ _ _ h => h)
theorem w_Lfigure (T : Tx w K mg fa fd ct ca) : FnOk P w K mg base (L2.CX P w) 1 (fa 11) (fd 11) ["_law_script", "_law_at"] (spD K cn 2 F_Lfigure) :=
  fn_D (FB := b_Lfigure) T.F_Lfigure sc_Lfigure rfl (fun cdv A outer s H E G0 hr tk =>
    dss_cons (ds_sh (ps_set (i := 2) sc_Lfigure.nd rfl (by first | exact Or.inl rfl | exact Or.inr rfl) (de_int))) (dss_cons (ds_if (dt_cmp lt_ok (de_var (pv 1)) (de_b1 len_ok (by rfl) T.n_len (by decide +kernel) (de_var (pv 0))) (nomark _)) (dss_one (ds_sh (ps_set (i := 2) sc_Lfigure.nd rfl (by first | exact Or.inl rfl | exact Or.inr rfl) (de_ix (hu_of hr) (de_var (pv 0)) (de_var (pv 1)))))) (dss_nil)) (dss_cons (ds_if (dt_cmp lt_ok (de_var (pv 2)) (de_int) (nomark _)) (dss_one (ds_sh (ps_set (i := 2) sc_Lfigure.nd rfl (by first | exact Or.inl rfl | exact Or.inr rfl) (de_op sub_ok (de_un un_ok (de_int)) (de_op mul_ok (de_int) (de_var (pv 2))))))) (dss_nil)) (dss_one (ds_ret (de_op mod_ok (de_t1 int_ok (by rfl) T.n_int (by decide +kernel) (de_var (pv 2))) (de_op mul_ok (de_op mul_ok (de_op pow_ok (de_int) (de_int)) (de_op pow_ok (de_int) (de_int))) (de_op pow_ok (de_int) (de_int))))))))) (fun _ _ _ h => h)
theorem w_Ldraws (T : Tx w K mg fa fd ct ca) : FnOk P w K mg base (L2.CX P w) 2 (fa 12) (fd 12) ["_law_script", "_law_at", "_law_limits"] (spD K cn 3 F_Ldraws) :=
  fn_D (FB := b_Ldraws) T.F_Ldraws sc_Ldraws rfl (fun cdv A outer s H E G0 hr tk =>
    dss_cons (ds_sh (ps_set (i := 3) sc_Ldraws.nd rfl (by first | exact Or.inl rfl | exact Or.inr rfl) (de_call (w_Lfigure T) (hr.mono (by decide)) (by rfl) T.g_Lfigure T.F_Lfigure.kp T.b_Lfigure tk (da_cons (de_var (pv 0)) (da_cons (de_var (pv 1)) (da_nil)))))) (dss_cons (ds_sh (ps_set (i := 4) sc_Ldraws.nd rfl (by first | exact Or.inl rfl | exact Or.inr rfl) (de_op sub_ok (de_var (pv 3)) (de_op pow_ok (de_int) (de_int))))) (dss_cons (ds_set (ps_set (i := 5) sc_Ldraws.nd rfl (by first | exact Or.inl rfl | exact Or.inr rfl) (de_lst (da_nil)))) (dss_cons (ds_for (passes_of rfl) rfl (di_rng1 (by rfl) T.n_range (da_cons (de_b1 len_ok (by rfl) T.n_len (by decide +kernel) (de_var (pv 2))) (da_nil))) (pg_name (i := 6) sc_Ldraws.nd rfl (by first | exact Or.inl rfl | exact Or.inr rfl)) (dg_name 6) (dss_cons (ds_sh (ps_set (i := 7) sc_Ldraws.nd rfl (by first | exact Or.inl rfl | exact Or.inr rfl) (de_op mod_ok (de_t1 int_ok (by rfl) T.n_int (by decide +kernel) (de_op add_ok (de_op add_ok (de_op mul_ok (de_var (pv 3)) (de_op add_ok (de_int) (de_op mul_ok (de_op mul_ok (de_int) (de_var (pv 6))) (de_var (pv 6))))) (de_op mul_ok (de_op add_ok (de_var (pv 6)) (de_int)) (de_int))) (de_op mul_ok (de_var (pv 1)) (de_int)))) (de_int)))) (dss_cons (ds_sh (ps_set (i := 7) sc_Ldraws.nd rfl (by first | exact Or.inl rfl | exact Or.inr rfl) (de_op fdiv_ok (de_op mod_ok (de_t1 int_ok (by rfl) T.n_int (by decide +kernel) (de_op add_ok (de_op add_ok (de_op mul_ok (de_var (pv 7)) (de_var (pv 7))) (de_op mul_ok (de_int) (de_var (pv 6)))) (de_var (pv 3)))) (de_int)) (de_int)))) (dss_cons (ds_if (dt_cmp ge_ok (de_var (pv 3)) (de_op pow_ok (de_int) (de_int)) (nomark _)) (dss_cons (ds_sh (ps_set (i := 7) sc_Ldraws.nd rfl (by first | exact Or.inl rfl | exact Or.inr rfl) (de_var (pv 4)))) (dss_one (ds_sh (ps_set (i := 4) sc_Ldraws.nd rfl (by first | exact Or.inl rfl | exact Or.inr rfl) (de_op fdiv_ok (de_var (pv 4)) (de_ix (hu_of hr) (de_var (pv 2)) (de_var (pv 6)))))))) (dss_nil)) (dss_one (ds_app (ps_expr (pe_bm PySem.F.plainAttrs_list PySem.F.slot_list_append PySem.F.type_list_append mt_append (pv 5) (pa_cons (de_op mod_ok (de_t1 int_ok (by rfl) T.n_int (by decide +kernel) (de_var (pv 7))) (de_ix (hu_of hr) (de_var (pv 2)) (de_var (pv 6)))) pa_nil))))))))) (dss_one (ds_retV (pv 5))))))) (fun _ _ _ h => h)
theorem w_Lsaying (T : Tx w K mg fa fd ct ca) : FnOk P w K mg base (L2.CX P w) 3 (fa 13) (fd 13) ["_law_script", "_law_at", "_law_parts_here"] (spD K cn 3 F_Lsaying) :=
  fn_D (FB := b_Lsaying) T.F_Lsaying sc_Lsaying rfl (fun cdv A outer s H E G0 hr tk =>
    dss_cons (ds_asg (dg_tl (n := 3) (dgs_cons (dg_name 12) (dgs_cons (dg_name 13) (dgs_cons (dg_name 14) (dgs_nil))))) (ps_asg (de_lc (own := [("_law_names_here", 15)]) rfl sc_Lsaying.nd (di_items (de_var (pv 2))) (blkOk_by (own := [("_law_names_here", 15)]) (N := N_Lsaying) (sc := defScope s_Lsaying) (by decide +kernel)) (dg_name 15) (by decide) (fun _ _ _ _ _ => pg_name (i := 15) sc_Lsaying.nd rfl (by first | exact Or.inl rfl | exact Or.inr rfl)) (fun _ _ _ _ _ => dts_nil) (fun _ _ _ _ _ => de_t1 (list_ok rfl) (by rfl) T.n_list (by decide +kernel) (de_var (pv 15)))) (PG.or (pg_tup rfl (pgs_cons (pg_name (i := 12) sc_Lsaying.nd rfl (by first | exact Or.inl rfl | exact Or.inr rfl)) (pgs_cons (pg_name (i := 13) sc_Lsaying.nd rfl (by first | exact Or.inl rfl | exact Or.inr rfl)) (pgs_cons (pg_name (i := 14) sc_Lsaying.nd rfl (by first | exact Or.inl rfl | exact Or.inr rfl)) (pgs_nil))))) (pg_unl rfl (pgs_cons (pg_name (i := 12) sc_Lsaying.nd rfl (by first | exact Or.inl rfl | exact Or.inr rfl)) (pgs_cons (pg_name (i := 13) sc_Lsaying.nd rfl (by first | exact Or.inl rfl | exact Or.inr rfl)) (pgs_cons (pg_name (i := 14) sc_Lsaying.nd rfl (by first | exact Or.inl rfl | exact Or.inr rfl)) (pgs_nil)))))))) (dss_cons (ds_sh (ps_set (i := 3) sc_Lsaying.nd rfl (by first | exact Or.inl rfl | exact Or.inr rfl) (de_call (w_Ldraws T) (hr.mono (by decide)) (by rfl) T.g_Ldraws T.F_Ldraws.kp T.b_Ldraws tk (da_cons (de_var (pv 0)) (da_cons (de_var (pv 1)) (da_cons (de_op add_ok (de_op add_ok (de_op add_ok (de_lst (da_cons (de_int) (da_nil))) (de_op mul_ok (de_lst (da_cons (de_int) (da_cons (de_int) (da_cons (de_int) (da_nil))))) (de_int))) (de_op mul_ok (de_lst (da_cons (de_int) (da_cons (de_int) (da_cons (de_int) (da_cons (de_int) (da_cons (de_int) (da_nil))))))) (de_int))) (de_lst (da_cons (de_int) (da_cons (de_int) (da_cons (de_int) (da_nil)))))) (da_nil))))))) (dss_cons (ds_sh (ps_set (i := 4) sc_Lsaying.nd rfl (by first | exact Or.inl rfl | exact Or.inr rfl) (de_op add_ok (de_lst (da_cons (de_str) (da_nil))) (de_var (pv 12))))) (dss_cons ((by first | exact ds_shLc (dg_name 16) (by decide) (ps_setLc (i := 5) (own := [("_law_k", 16)]) rfl sc_Lsaying.nd rfl rfl (sw_true rfl rfl rfl (by decide +kernel)) (di_rng1 (by rfl) T.n_range (da_cons (de_int) (da_nil))) (blkOk_by (own := [("_law_k", 16)]) (N := N_Lsaying) (sc := defScope s_Lsaying) (by decide +kernel)) (fun _ _ _ _ _ => pg_name (i := 16) sc_Lsaying.nd rfl (by first | exact Or.inl rfl | exact Or.inr rfl)) (fun _ _ _ _ _ => dts_nil) (fun _ _ _ _ _ => de_tup (da_cons (de_ix (hu_of hr) (de_var (pv 4)) (de_op mod_ok (de_t1 int_ok (by rfl) T.n_int (by decide +kernel) (de_ix (hu_of hr) (de_var (pv 3)) (de_op add_ok (de_int) (de_op mul_ok (de_int) (de_var (pv 16)))))) (de_b1 len_ok (by rfl) T.n_len (by decide +kernel) (de_var (pv 4))))) (da_cons (de_op sub_ok (de_ix (hu_of hr) (de_var (pv 3)) (de_op add_ok (de_int) (de_op mul_ok (de_int) (de_var (pv 16))))) (de_int)) (da_nil))))) | exact ds_sh (ps_set (i := 5) sc_Lsaying.nd rfl (by first | exact Or.inl rfl | exact Or.inr rfl) (de_lc (own := [("_law_k", 16)]) rfl sc_Lsaying.nd (di_rng1 (by rfl) T.n_range (da_cons (de_int) (da_nil))) (blkOk_by (own := [("_law_k", 16)]) (N := N_Lsaying) (sc := defScope s_Lsaying) (by decide +kernel)) (dg_name 16) (by decide) (fun _ _ _ _ _ => pg_name (i := 16) sc_Lsaying.nd rfl (by first | exact Or.inl rfl | exact Or.inr rfl)) (fun _ _ _ _ _ => dts_nil) (fun _ _ _ _ _ => de_tup (da_cons (de_ix (hu_of hr) (de_var (pv 4)) (de_op mod_ok (de_t1 int_ok (by rfl) T.n_int (by decide +kernel) (de_ix (hu_of hr) (de_var (pv 3)) (de_op add_ok (de_int) (de_op mul_ok (de_int) (de_var (pv 16)))))) (de_b1 len_ok (by rfl) T.n_len (by decide +kernel) (de_var (pv 4))))) (da_cons (de_op sub_ok (de_ix (hu_of hr) (de_var (pv 3)) (de_op add_ok (de_int) (de_op mul_ok (de_int) (de_var (pv 16))))) (de_int)) (da_nil)))))))) (dss_cons ((by first | exact ds_shLc (dg_name 16) (by decide) (ps_setLc (i := 6) (own := [("_law_k", 16)]) rfl sc_Lsaying.nd rfl rfl (sw_true rfl rfl rfl (by decide +kernel)) (di_rng1 (by rfl) T.n_range (da_cons (de_int) (da_nil))) (blkOk_by (own := [("_law_k", 16)]) (N := N_Lsaying) (sc := defScope s_Lsaying) (by decide +kernel)) (fun _ _ _ _ _ => pg_name (i := 16) sc_Lsaying.nd rfl (by first | exact Or.inl rfl | exact Or.inr rfl)) (fun _ _ _ _ _ => dts_nil) (fun _ _ _ _ _ => de_if (dt_cmp (eq_ok hr.units) (de_ix (hu_of hr) (de_var (pv 3)) (de_op add_ok (de_int) (de_op mul_ok (de_int) (de_var (pv 16))))) (de_int) (nomark _)) (de_non) (de_ix (hu_of hr) (de_var (pv 5)) (de_var (pv 16))))) | exact ds_sh (ps_set (i := 6) sc_Lsaying.nd rfl (by first | exact Or.inl rfl | exact Or.inr rfl) (de_lc (own := [("_law_k", 16)]) rfl sc_Lsaying.nd (di_rng1 (by rfl) T.n_range (da_cons (de_int) (da_nil))) (blkOk_by (own := [("_law_k", 16)]) (N := N_Lsaying) (sc := defScope s_Lsaying) (by decide +kernel)) (dg_name 16) (by decide) (fun _ _ _ _ _ => pg_name (i := 16) sc_Lsaying.nd rfl (by first | exact Or.inl rfl | exact Or.inr rfl)) (fun _ _ _ _ _ => dts_nil) (fun _ _ _ _ _ => de_if (dt_cmp (eq_ok hr.units) (de_ix (hu_of hr) (de_var (pv 3)) (de_op add_ok (de_int) (de_op mul_ok (de_int) (de_var (pv 16))))) (de_int) (nomark _)) (de_non) (de_ix (hu_of hr) (de_var (pv 5)) (de_var (pv 16)))))))) (dss_cons (ds_sh (ps_set (i := 7) sc_Lsaying.nd rfl (by first | exact Or.inl rfl | exact Or.inr rfl) (de_call (w_Lsums T) (hr.mono (by decide)) (by rfl) T.g_Lsums T.F_Lsums.kp T.b_Lsums tk (da_cons (de_sl (de_var (pv 3)) (do_some (de_int)) (do_some (de_int))) (da_cons (de_var (pv 4)) (da_cons (de_var (pv 13)) (da_cons (de_var (pv 14)) (da_nil)))))))) (dss_cons (ds_sh (ps_set (i := 8) sc_Lsaying.nd rfl (by first | exact Or.inl rfl | exact Or.inr rfl) (de_lst (da_cons (de_tup (da_cons (de_str) (da_cons (de_ix (hu_of hr) (de_var (pv 5)) (de_int)) (da_cons (de_ix (hu_of hr) (de_var (pv 5)) (de_int)) (da_nil))))) (da_cons (de_tup (da_cons (de_str) (da_cons (de_ix (hu_of hr) (de_var (pv 7)) (de_int)) (da_cons (de_ix (hu_of hr) (de_var (pv 7)) (de_int)) (da_nil))))) (da_nil)))))) (dss_cons (ds_if (dt_cmp (eq_ok hr.units) (de_b1 len_ok (by rfl) T.n_len (by decide +kernel) (de_var (pv 14))) (de_int) (nomark _)) (dss_one (ds_ret (de_ix (hu_of hr) (de_var (pv 8)) (de_op mod_ok (de_t1 int_ok (by rfl) T.n_int (by decide +kernel) (de_ix (hu_of hr) (de_var (pv 3)) (de_int))) (de_int))))) (dss_nil)) (dss_cons (ds_sh (ps_set (i := 9) sc_Lsaying.nd rfl (by first | exact Or.inl rfl | exact Or.inr rfl) (de_ix (hu_of hr) (de_var (pv 14)) (de_op mod_ok (de_t1 int_ok (by rfl) T.n_int (by decide +kernel) (de_ix (hu_of hr) (de_var (pv 3)) (de_int))) (de_b1 len_ok (by rfl) T.n_len (by decide +kernel) (de_var (pv 14))))))) (dss_cons (ds_sh (ps_set (i := 10) sc_Lsaying.nd rfl (by first | exact Or.inl rfl | exact Or.inr rfl) (de_ix (hu_of hr) (de_var (pv 14)) (de_op mod_ok (de_t1 int_ok (by rfl) T.n_int (by decide +kernel) (de_ix (hu_of hr) (de_var (pv 3)) (de_int))) (de_b1 len_ok (by rfl) T.n_len (by decide +kernel) (de_var (pv 14))))))) (dss_cons (ds_sh (ps_set (i := 11) sc_Lsaying.nd rfl (by first | exact Or.inl rfl | exact Or.inr rfl) (de_op add_ok (de_var (pv 8)) (de_lst (da_cons (de_tup (da_cons (de_str) (da_cons (de_var (pv 9)) (da_cons (de_ix (hu_of hr) (de_var (pv 6)) (de_int)) (da_cons (de_ix (hu_of hr) (de_var (pv 6)) (de_int)) (da_nil)))))) (da_nil)))))) (dss_cons (ds_sh (ps_set (i := 11) sc_Lsaying.nd rfl (by first | exact Or.inl rfl | exact Or.inr rfl) (de_op add_ok (de_var (pv 11)) (de_lst (da_cons (de_tup (da_cons (de_str) (da_cons (de_var (pv 9)) (da_cons (de_ix (hu_of hr) (de_var (pv 6)) (de_int)) (da_cons (de_ix (hu_of hr) (de_var (pv 6)) (de_int)) (da_cons (de_ix (hu_of hr) (de_var (pv 7)) (de_int)) (da_nil))))))) (da_cons (de_tup (da_cons (de_str) (da_cons (de_var (pv 9)) (da_cons (de_ix (hu_of hr) (de_var (pv 6)) (de_int)) (da_cons (de_ix (hu_of hr) (de_var (pv 6)) (de_int)) (da_cons (de_ix (hu_of hr) (de_var (pv 7)) (de_int)) (da_nil))))))) (da_nil))))))) (dss_cons (ds_sh (ps_set (i := 11) sc_Lsaying.nd rfl (by first | exact Or.inl rfl | exact Or.inr rfl) (de_op add_ok (de_var (pv 11)) (de_lst (da_cons (de_tup (da_cons (de_str) (da_cons (de_var (pv 9)) (da_cons (de_ix (hu_of hr) (de_var (pv 6)) (de_int)) (da_cons (de_ix (hu_of hr) (de_var (pv 6)) (de_int)) (da_cons (de_var (pv 10)) (da_cons (de_ix (hu_of hr) (de_var (pv 6)) (de_int)) (da_cons (de_ix (hu_of hr) (de_var (pv 6)) (de_int)) (da_cons (de_op sub_ok (de_ix (hu_of hr) (de_var (pv 3)) (de_int)) (de_int)) (da_nil)))))))))) (da_nil)))))) (dss_cons (ds_sh (ps_set (i := 11) sc_Lsaying.nd rfl (by first | exact Or.inl rfl | exact Or.inr rfl) (de_op add_ok (de_var (pv 11)) (de_lst (da_cons (de_tup (da_cons (de_str) (da_cons (de_var (pv 9)) (da_cons (de_var (pv 10)) (da_cons (de_ix (hu_of hr) (de_var (pv 6)) (de_int)) (da_cons (de_ix (hu_of hr) (de_var (pv 6)) (de_int)) (da_cons (de_op sub_ok (de_ix (hu_of hr) (de_var (pv 3)) (de_int)) (de_int)) (da_nil)))))))) (da_nil)))))) (dss_one (ds_ret (de_ix (hu_of hr) (de_var (pv 11)) (de_ix (hu_of hr) (de_var (pv 3)) (de_int))))))))))))))))))) (fun _ _ _ h => h)
theorem w_Llong (T : Tx w K mg fa fd ct ca) : FnOk P w K mg base (L2.CX P w) 3 (fa 14) (fd 14) ["_law_script", "_law_at", "_law_many"] (spD K cn 3 F_Llong) :=
  fn_D (FB := b_Llong) T.F_Llong sc_Llong rfl (fun cdv A outer s H E G0 hr tk =>
    dss_cons (ds_sh (ps_set (i := 3) sc_Llong.nd rfl (by first | exact Or.inl rfl | exact Or.inr rfl) (de_call (w_Ldraws T) (hr.mono (by decide)) (by rfl) T.g_Ldraws T.F_Ldraws.kp T.b_Ldraws tk (da_cons (de_var (pv 0)) (da_cons (de_var (pv 1)) (da_cons (de_op mul_ok (de_lst (da_cons (de_int) (da_cons (de_int) (da_cons (de_op pow_ok (de_int) (de_int)) (da_cons (de_op pow_ok (de_int) (de_int)) (da_cons (de_op pow_ok (de_int) (de_int)) (da_cons (de_op pow_ok (de_int) (de_int)) (da_nil)))))))) (de_var (pv 2))) (da_nil))))))) (dss_cons (ds_set (ps_set (i := 4) sc_Llong.nd rfl (by first | exact Or.inl rfl | exact Or.inr rfl) (de_lst (da_nil)))) (dss_cons (ds_for (passes_of rfl) rfl (di_rng1 (by rfl) T.n_range (da_cons (de_var (pv 2)) (da_nil))) (pg_name (i := 5) sc_Llong.nd rfl (by first | exact Or.inl rfl | exact Or.inr rfl)) (dg_name 5) (dss_cons (ds_sh (ps_set (i := 6) sc_Llong.nd rfl (by first | exact Or.inl rfl | exact Or.inr rfl) (de_int))) (dss_cons (ds_for (passes_of rfl) rfl (di_rng1 (by rfl) T.n_range (da_cons (de_ix (hu_of hr) (de_var (pv 3)) (de_op mul_ok (de_int) (de_var (pv 5)))) (da_nil))) (pg_name (i := 7) sc_Llong.nd rfl (by first | exact Or.inl rfl | exact Or.inr rfl)) (dg_name 7) (dss_one (ds_sh (ps_set (i := 6) sc_Llong.nd rfl (by first | exact Or.inl rfl | exact Or.inr rfl) (de_op mul_ok (de_var (pv 6)) (de_int)))))) (dss_cons (ds_sh (ps_set (i := 8) sc_Llong.nd rfl (by first | exact Or.inl rfl | exact Or.inr rfl) (de_int))) (dss_cons (ds_for (passes_of rfl) rfl (di_items (de_sl (de_var (pv 3)) (do_some (de_op add_ok (de_op mul_ok (de_int) (de_var (pv 5))) (de_int))) (do_some (de_op add_ok (de_op mul_ok (de_int) (de_var (pv 5))) (de_int))))) (pg_name (i := 9) sc_Llong.nd rfl (by first | exact Or.inl rfl | exact Or.inr rfl)) (dg_name 9) (dss_one (ds_sh (ps_set (i := 8) sc_Llong.nd rfl (by first | exact Or.inl rfl | exact Or.inr rfl) (de_op add_ok (de_op mul_ok (de_var (pv 8)) (de_op pow_ok (de_int) (de_int))) (de_var (pv 9))))))) (dss_cons (ds_sh (ps_set (i := 8) sc_Llong.nd rfl (by first | exact Or.inl rfl | exact Or.inr rfl) (de_op mod_ok (de_t1 int_ok (by rfl) T.n_int (by decide +kernel) (de_var (pv 8))) (de_var (pv 6))))) (dss_one (ds_app (ps_expr (pe_bm PySem.F.plainAttrs_list PySem.F.slot_list_append PySem.F.type_list_append mt_append (pv 4) (pa_cons (de_if (dt_cmp (eq_ok hr.units) (de_ix (hu_of hr) (de_var (pv 3)) (de_op add_ok (de_op mul_ok (de_int) (de_var (pv 5))) (de_int))) (de_int) (nomark _)) (de_un un_ok (de_var (pv 8))) (de_var (pv 8))) pa_nil))))))))))) (dss_one (ds_retV (pv 4)))))) (fun _ _ _ h => h)
theorem w_Lscale (T : Tx w K mg fa fd ct ca) : FnOk P w K mg base (L2.CX P w) 4 (fa 15) (fd 15) ["_law_script", "_law_at"] (spD K cn 2 F_Lscale) :=
  fn_D (FB := b_Lscale) T.F_Lscale sc_Lscale rfl (fun cdv A outer s H E G0 hr tk =>
    dss_cons (ds_sh (ps_set (i := 2) sc_Lscale.nd rfl (by first | exact Or.inl rfl | exact Or.inr rfl) (de_call (w_Ldraws T) (hr.mono (by decide)) (by rfl) T.g_Ldraws T.F_Ldraws.kp T.b_Ldraws tk (da_cons (de_var (pv 0)) (da_cons (de_var (pv 1)) (da_cons (de_lst (da_cons (de_int) (da_cons (de_op pow_ok (de_int) (de_int)) (da_cons (de_op pow_ok (de_int) (de_int)) (da_cons (de_op pow_ok (de_int) (de_int)) (da_cons (de_op pow_ok (de_int) (de_int)) (da_nil))))))) (da_nil))))))) (dss_cons (ds_sh (ps_set (i := 3) sc_Lscale.nd rfl (by first | exact Or.inl rfl | exact Or.inr rfl) (de_call (w_Llong T) (hr.mono (by decide)) (by rfl) T.g_Llong T.F_Llong.kp T.b_Llong tk (da_cons (de_var (pv 0)) (da_cons (de_op add_ok (de_var (pv 1)) (de_int)) (da_cons (de_int) (da_nil))))))) (dss_cons (ds_if (dt_cmp (eq_ok hr.units) (de_ix (hu_of hr) (de_var (pv 2)) (de_int)) (de_int) (nomark _)) (dss_one (ds_ret (de_tup (da_cons (de_int) (da_cons (de_int) (da_cons (de_int) (da_cons (de_int) (da_nil)))))))) (dss_nil)) (dss_cons (ds_if (dt_cmp (eq_ok hr.units) (de_ix (hu_of hr) (de_var (pv 2)) (de_int)) (de_int) (nomark _)) (dss_one (ds_ret (de_tup (da_cons (de_int) (da_cons (de_op fdiv_ok (de_ix (hu_of hr) (de_var (pv 3)) (de_int)) (de_int)) (da_cons (de_int) (da_cons (de_op fdiv_ok (de_ix (hu_of hr) (de_var (pv 3)) (de_int)) (de_int)) (da_nil)))))))) (dss_nil)) (dss_one (ds_ret (de_tup (da_cons (de_op add_ok (de_int) (de_op mul_ok (de_ix (hu_of hr) (de_var (pv 2)) (de_int)) (de_ix (hu_of hr) (de_var (pv 2)) (de_int)))) (da_cons (de_op fdiv_ok (de_ix (hu_of hr) (de_var (pv 3)) (de_int)) (de_int)) (da_cons (de_op add_ok (de_int) (de_op mul_ok (de_ix (hu_of hr) (de_var (pv 2)) (de_int)) (de_ix (hu_of hr) (de_var (pv 2)) (de_int)))) (da_cons (de_op fdiv_ok (de_ix (hu_of hr) (de_var (pv 3)) (de_int)) (de_int)) (da_nil)))))))))))) (fun _ _ _ h => h)
theorem w_Lrow (T : Tx w K mg fa fd ct ca) : FnOk P w K mg base (L2.CX P w) 3 (fa 16) (fd 16) ["_law_script", "_law_at", "_law_first", "_law_size", "_law_high"] (spD K cn 5 F_Lrow) :=
  fn_D (FB := b_Lrow) T.F_Lrow sc_Lrow rfl (fun cdv A outer s H E G0 hr tk =>
    dss_cons (ds_sh (ps_set (i := 5) sc_Lrow.nd rfl (by first | exact Or.inl rfl | exact Or.inr rfl) (de_call (w_Ldraws T) (hr.mono (by decide)) (by rfl) T.g_Ldraws T.F_Ldraws.kp T.b_Ldraws tk (da_cons (de_var (pv 0)) (da_cons (de_var (pv 1)) (da_cons (de_op add_ok (de_lst (da_cons (de_int) (da_cons (de_var (pv 3)) (da_cons (de_var (pv 4)) (da_nil))))) (de_op mul_ok (de_lst (da_cons (de_int) (da_cons (de_var (pv 4)) (da_nil)))) (de_var (pv 3)))) (da_nil))))))) (dss_cons ((by first | exact ds_shLc (dg_name 8) (by decide) (ps_setLc (i := 6) (own := [("_law_k", 8)]) rfl sc_Lrow.nd rfl rfl (sw_true rfl rfl rfl (by decide +kernel)) (di_rng1 (by rfl) T.n_range (da_cons (de_var (pv 3)) (da_nil))) (blkOk_by (own := [("_law_k", 8)]) (N := N_Lrow) (sc := defScope s_Lrow) (by decide +kernel)) (fun _ _ _ _ _ => pg_name (i := 8) sc_Lrow.nd rfl (by first | exact Or.inl rfl | exact Or.inr rfl)) (fun _ _ _ _ _ => dts_one (dt_cmp (eq_ok hr.units) (de_ix (hu_of hr) (de_var (pv 5)) (de_op add_ok (de_int) (de_op mul_ok (de_int) (de_var (pv 8))))) (de_int) (nomark _))) (fun _ _ _ _ _ => de_tup (da_cons (de_op add_ok (de_var (pv 2)) (de_var (pv 8))) (da_cons (de_ix (hu_of hr) (de_var (pv 5)) (de_op add_ok (de_int) (de_op mul_ok (de_int) (de_var (pv 8))))) (da_nil))))) | exact ds_sh (ps_set (i := 6) sc_Lrow.nd rfl (by first | exact Or.inl rfl | exact Or.inr rfl) (de_lc (own := [("_law_k", 8)]) rfl sc_Lrow.nd (di_rng1 (by rfl) T.n_range (da_cons (de_var (pv 3)) (da_nil))) (blkOk_by (own := [("_law_k", 8)]) (N := N_Lrow) (sc := defScope s_Lrow) (by decide +kernel)) (dg_name 8) (by decide) (fun _ _ _ _ _ => pg_name (i := 8) sc_Lrow.nd rfl (by first | exact Or.inl rfl | exact Or.inr rfl)) (fun _ _ _ _ _ => dts_one (dt_cmp (eq_ok hr.units) (de_ix (hu_of hr) (de_var (pv 5)) (de_op add_ok (de_int) (de_op mul_ok (de_int) (de_var (pv 8))))) (de_int) (nomark _))) (fun _ _ _ _ _ => de_tup (da_cons (de_op add_ok (de_var (pv 2)) (de_var (pv 8))) (da_cons (de_ix (hu_of hr) (de_var (pv 5)) (de_op add_ok (de_int) (de_op mul_ok (de_int) (de_var (pv 8))))) (da_nil)))))))) (dss_cons (ds_if (dt_cmp (eq_ok hr.units) (de_var (pv 6)) (de_lst (da_nil)) (nomark _)) (dss_one (ds_sh (ps_set (i := 6) sc_Lrow.nd rfl (by first | exact Or.inl rfl | exact Or.inr rfl) (de_lst (da_cons (de_tup (da_cons (de_op add_ok (de_var (pv 2)) (de_ix (hu_of hr) (de_var (pv 5)) (de_int))) (da_cons (de_ix (hu_of hr) (de_var (pv 5)) (de_int)) (da_nil)))) (da_nil)))))) (dss_nil)) (dss_cons (ds_if (dt_cmp (eq_ok hr.units) (de_ix (hu_of hr) (de_var (pv 5)) (de_int)) (de_int) (nomark _)) (dss_one (ds_sh (ps_set (i := 6) sc_Lrow.nd rfl (by first | exact Or.inl rfl | exact Or.inr rfl) (de_rev (de_var (pv 6)))))) (dss_nil)) (dss_cons (ds_if (dt_cmp (eq_ok hr.units) (de_ix (hu_of hr) (de_var (pv 5)) (de_int)) (de_int) (nomark _)) (dss_one (ds_sh (ps_set (i := 6) sc_Lrow.nd rfl (by first | exact Or.inl rfl | exact Or.inr rfl) (de_op add_ok (de_sl (de_var (pv 6)) (do_some (de_int)) do_none) (de_sl (de_var (pv 6)) do_none (do_some (de_int))))))) (dss_nil)) (dss_cons (ds_if (dt_cmp (eq_ok hr.units) (de_ix (hu_of hr) (de_var (pv 5)) (de_int)) (de_int) (nomark _)) (dss_cons (ds_sh (ps_set (i := 7) sc_Lrow.nd rfl (by first | exact Or.inl rfl | exact Or.inr rfl) (de_b1 sort_ok (by rfl) T.n_sorted (by decide +kernel) (de_lc (own := [("_law_entry", 9)]) rfl sc_Lrow.nd (di_items (de_var (pv 6))) (blkOk_by (own := [("_law_entry", 9)]) (N := N_Lrow) (sc := defScope s_Lrow) (by decide +kernel)) (dg_name 9) (by decide) (fun _ _ _ _ _ => pg_name (i := 9) sc_Lrow.nd rfl (by first | exact Or.inl rfl | exact Or.inr rfl)) (fun _ _ _ _ _ => dts_nil) (fun _ _ _ _ _ => de_ix (hu_of hr) (de_var (pv 9)) (de_int)))))) (dss_one ((by first | exact ds_shLc (dg_name 8) (by decide) (ps_setLc (i := 6) (own := [("_law_k", 8)]) rfl sc_Lrow.nd rfl rfl (sw_true rfl rfl rfl (by decide +kernel)) (di_rng1 (by rfl) T.n_range (da_cons (de_b1 len_ok (by rfl) T.n_len (by decide +kernel) (de_var (pv 6))) (da_nil))) (blkOk_by (own := [("_law_k", 8)]) (N := N_Lrow) (sc := defScope s_Lrow) (by decide +kernel)) (fun _ _ _ _ _ => pg_name (i := 8) sc_Lrow.nd rfl (by first | exact Or.inl rfl | exact Or.inr rfl)) (fun _ _ _ _ _ => dts_nil) (fun _ _ _ _ _ => de_tup (da_cons (de_ix (hu_of hr) (de_ix (hu_of hr) (de_var (pv 6)) (de_var (pv 8))) (de_int)) (da_cons (de_ix (hu_of hr) (de_var (pv 7)) (de_var (pv 8))) (da_nil))))) | exact ds_sh (ps_set (i := 6) sc_Lrow.nd rfl (by first | exact Or.inl rfl | exact Or.inr rfl) (de_lc (own := [("_law_k", 8)]) rfl sc_Lrow.nd (di_rng1 (by rfl) T.n_range (da_cons (de_b1 len_ok (by rfl) T.n_len (by decide +kernel) (de_var (pv 6))) (da_nil))) (blkOk_by (own := [("_law_k", 8)]) (N := N_Lrow) (sc := defScope s_Lrow) (by decide +kernel)) (dg_name 8) (by decide) (fun _ _ _ _ _ => pg_name (i := 8) sc_Lrow.nd rfl (by first | exact Or.inl rfl | exact Or.inr rfl)) (fun _ _ _ _ _ => dts_nil) (fun _ _ _ _ _ => de_tup (da_cons (de_ix (hu_of hr) (de_ix (hu_of hr) (de_var (pv 6)) (de_var (pv 8))) (de_int)) (da_cons (de_ix (hu_of hr) (de_var (pv 7)) (de_var (pv 8))) (da_nil)))))))))) (dss_nil)) (dss_one (ds_retV (pv 6))))))))) (fun _ _ _ h => h)
theorem w_Lnames (T : Tx w K mg fa fd ct ca) : FnOk P w K mg base (L2.CX P w) 3 (fa 17) (fd 17) ["_law_script", "_law_at", "_law_many"] (spD K cn 3 F_Lnames) :=
  fn_D (FB := b_Lnames) T.F_Lnames sc_Lnames rfl (fun cdv A outer s H E G0 hr tk =>
    dss_cons (ds_sh (ps_set (i := 3) sc_Lnames.nd rfl (by first | exact Or.inl rfl | exact Or.inr rfl) (de_str))) (dss_cons (ds_sh (ps_set (i := 4) sc_Lnames.nd rfl (by first | exact Or.inl rfl | exact Or.inr rfl) (de_call (w_Ldraws T) (hr.mono (by decide)) (by rfl) T.g_Ldraws T.F_Ldraws.kp T.b_Ldraws tk (da_cons (de_var (pv 0)) (da_cons (de_var (pv 1)) (da_cons (de_op add_ok (de_lst (da_cons (de_int) (da_nil))) (de_op mul_ok (de_lst (da_cons (de_int) (da_cons (de_int) (da_cons (de_int) (da_cons (de_int) (da_cons (de_int) (da_cons (de_int) (da_cons (de_int) (da_nil))))))))) (de_var (pv 2)))) (da_nil))))))) (dss_cons (ds_set (ps_set (i := 5) sc_Lnames.nd rfl (by first | exact Or.inl rfl | exact Or.inr rfl) (de_lst (da_nil)))) (dss_cons (ds_for (passes_of rfl) rfl (di_rng1 (by rfl) T.n_range (da_cons (de_var (pv 2)) (da_nil))) (pg_name (i := 6) sc_Lnames.nd rfl (by first | exact Or.inl rfl | exact Or.inr rfl)) (dg_name 6) (dss_cons (ds_sh (ps_set (i := 7) sc_Lnames.nd rfl (by first | exact Or.inl rfl | exact Or.inr rfl) (de_sl (de_var (pv 4)) (do_some (de_op add_ok (de_int) (de_op mul_ok (de_int) (de_var (pv 6))))) (do_some (de_op add_ok (de_op add_ok (de_int) (de_op mul_ok (de_int) (de_var (pv 6)))) (de_ix (hu_of hr) (de_var (pv 4)) (de_op add_ok (de_int) (de_op mul_ok (de_int) (de_var (pv 6)))))))))) (dss_cons (ds_if (dt_cmp (eq_ok hr.units) (de_ix (hu_of hr) (de_var (pv 4)) (de_int)) (de_int) (nomark _)) (dss_one ((by first | exact ds_shLc (dg_name 10) (by decide) (ps_setLc (i := 7) (own := [("_law_sign", 10)]) rfl sc_Lnames.nd rfl rfl (sw_true rfl rfl rfl (by decide +kernel)) (di_items (de_var (pv 7))) (blkOk_by (own := [("_law_sign", 10)]) (N := N_Lnames) (sc := defScope s_Lnames) (by decide +kernel)) (fun _ _ _ _ _ => pg_name (i := 10) sc_Lnames.nd rfl (by first | exact Or.inl rfl | exact Or.inr rfl)) (fun _ _ _ _ _ => dts_nil) (fun _ _ _ _ _ => de_op mod_ok (de_t1 int_ok (by rfl) T.n_int (by decide +kernel) (de_var (pv 10))) (de_int))) | exact ds_sh (ps_set (i := 7) sc_Lnames.nd rfl (by first | exact Or.inl rfl | exact Or.inr rfl) (de_lc (own := [("_law_sign", 10)]) rfl sc_Lnames.nd (di_items (de_var (pv 7))) (blkOk_by (own := [("_law_sign", 10)]) (N := N_Lnames) (sc := defScope s_Lnames) (by decide +kernel)) (dg_name 10) (by decide) (fun _ _ _ _ _ => pg_name (i := 10) sc_Lnames.nd rfl (by first | exact Or.inl rfl | exact Or.inr rfl)) (fun _ _ _ _ _ => dts_nil) (fun _ _ _ _ _ => de_op mod_ok (de_t1 int_ok (by rfl) T.n_int (by decide +kernel) (de_var (pv 10))) (de_int))))))) (dss_nil)) (dss_cons (ds_sh (ps_set (i := 8) sc_Lnames.nd rfl (by first | exact Or.inl rfl | exact Or.inr rfl) (de_join (pe_join (de_str) (de_lc (own := [("_law_sign", 10)]) rfl sc_Lnames.nd (di_items (de_var (pv 7))) (blkOk_by (own := [("_law_sign", 10)]) (N := N_Lnames) (sc := defScope s_Lnames) (by decide +kernel)) (dg_name 10) (by decide) (fun _ _ _ _ _ => pg_name (i := 10) sc_Lnames.nd rfl (by first | exact Or.inl rfl | exact Or.inr rfl)) (fun _ _ _ _ _ => dts_nil) (fun _ _ _ _ _ => de_ix (hu_of hr) (de_var (pv 3)) (de_var (pv 10)))))))) (dss_cons (ds_for (passes_of rfl) rfl (di_rng1 (by rfl) T.n_range (da_cons (de_int) (da_nil))) (pg_name (i := 9) sc_Lnames.nd rfl (by first | exact Or.inl rfl | exact Or.inr rfl)) (dg_name 9) (dss_one (ds_if (dt_cmp (in_ok (hu_of hr)) (de_var (pv 8)) (de_var (pv 5)) (by rfl)) (dss_one (ds_sh (ps_set (i := 8) sc_Lnames.nd rfl (by first | exact Or.inl rfl | exact Or.inr rfl) (de_op add_ok (de_ix (hu_of hr) (de_var (pv 3)) (de_op mod_ok (de_t1 int_ok (by rfl) T.n_int (by decide +kernel) (de_op add_ok (de_op add_ok (de_ix (hu_of hr) (de_var (pv 7)) (de_int)) (de_var (pv 9))) (de_int))) (de_int))) (de_sl (de_var (pv 8)) (do_some (de_int)) do_none))))) (dss_nil)))) (dss_one (ds_app (ps_expr (pe_bm PySem.F.plainAttrs_list PySem.F.slot_list_append PySem.F.type_list_append mt_append (pv 5) (pa_cons (de_var (pv 8)) pa_nil)))))))))) (dss_one (ds_retV (pv 5))))))) (fun _ _ _ h => h)
theorem w_Lparts (T : Tx w K mg fa fd ct ca) : FnOk P w K mg base (L2.CX P w) 4 (fa 18) (fd 18) ["_law_script", "_law_at"] (spD K cn 2 F_Lparts) :=
  fn_D (FB := b_Lparts) T.F_Lparts sc_Lparts rfl (fun cdv A outer s H E G0 hr tk =>
    dss_cons (ds_sh (ps_set (i := 2) sc_Lparts.nd rfl (by first | exact Or.inl rfl | exact Or.inr rfl) (de_call (w_Ldraws T) (hr.mono (by decide)) (by rfl) T.g_Ldraws T.F_Ldraws.kp T.b_Ldraws tk (da_cons (de_var (pv 0)) (da_cons (de_var (pv 1)) (da_cons (de_op add_ok (de_op add_ok (de_lst (da_cons (de_int) (da_cons (de_int) (da_cons (de_int) (da_cons (de_int) (da_cons (de_int) (da_nil))))))) (de_op mul_ok (de_lst (da_cons (de_int) (da_nil))) (de_int))) (de_op mul_ok (de_lst (da_cons (de_int) (da_nil))) (de_int))) (da_nil))))))) (dss_cons (ds_sh (ps_set (i := 3) sc_Lparts.nd rfl (by first | exact Or.inl rfl | exact Or.inr rfl) (de_call (w_Lnames T) (hr.mono (by decide)) (by rfl) T.g_Lnames T.F_Lnames.kp T.b_Lnames tk (da_cons (de_var (pv 0)) (da_cons (de_op add_ok (de_var (pv 1)) (de_int)) (da_cons (de_int) (da_nil))))))) (dss_cons (ds_set (ps_set (i := 4) sc_Lparts.nd rfl (by first | exact Or.inl rfl | exact Or.inr rfl) (de_dct0))) (dss_cons (ds_for (passes_of rfl) rfl (di_rng1 (by rfl) T.n_range (da_cons (de_ix (hu_of hr) (de_var (pv 2)) (de_int)) (da_nil))) (pg_name (i := 5) sc_Lparts.nd rfl (by first | exact Or.inl rfl | exact Or.inr rfl)) (dg_name 5) (dss_one (ds_put (ps_asg (de_op sub_ok (de_ix (hu_of hr) (de_var (pv 2)) (de_op add_ok (de_int) (de_var (pv 5)))) (de_int)) (pg_sub (pv 4) (de_ix (hu_of hr) (de_var (pv 3)) (de_var (pv 5))) (set_any (hu_of hr))))))) (dss_cons (ds_set (ps_set (i := 6) sc_Lparts.nd rfl (by first | exact Or.inl rfl | exact Or.inr rfl) (de_dct0))) (dss_cons (ds_for (passes_of rfl) rfl (di_rng1 (by rfl) T.n_range (da_cons (de_ix (hu_of hr) (de_var (pv 2)) (de_int)) (da_nil))) (pg_name (i := 5) sc_Lparts.nd rfl (by first | exact Or.inl rfl | exact Or.inr rfl)) (dg_name 5) (dss_one (ds_put (ps_asg (de_op sub_ok (de_ix (hu_of hr) (de_var (pv 2)) (de_op add_ok (de_int) (de_var (pv 5)))) (de_int)) (pg_sub (pv 6) (de_ix (hu_of hr) (de_var (pv 3)) (de_op add_ok (de_int) (de_var (pv 5)))) (set_any (hu_of hr))))))) (dss_cons (ds_set (ps_set (i := 7) sc_Lparts.nd rfl (by first | exact Or.inl rfl | exact Or.inr rfl) (de_dct0))) (dss_cons (ds_for (passes_of rfl) rfl (di_rng1 (by rfl) T.n_range (da_cons (de_ix (hu_of hr) (de_var (pv 2)) (de_int)) (da_nil))) (pg_name (i := 5) sc_Lparts.nd rfl (by first | exact Or.inl rfl | exact Or.inr rfl)) (dg_name 5) (dss_one (ds_put (ps_asg (de_call (w_Lrow T) (hr.mono (by decide)) (by rfl) T.g_Lrow T.F_Lrow.kp T.b_Lrow tk (da_cons (de_var (pv 0)) (da_cons (de_op add_ok (de_op add_ok (de_var (pv 1)) (de_int)) (de_var (pv 5))) (da_cons (de_un un_ok (de_int)) (da_cons (de_int) (da_cons (de_op sub_ok (de_int) (de_ix (hu_of hr) (de_var (pv 2)) (de_int))) (da_nil))))))) (pg_sub (pv 7) (de_ix (hu_of hr) (de_var (pv 3)) (de_op add_ok (de_int) (de_var (pv 5)))) (set_any (hu_of hr))))))) (dss_cons (ds_if (dt_w (dw_and (dt_cmp gt_ok (de_ix (hu_of hr) (de_var (pv 2)) (de_int)) (de_int) (nomark _)) (dw_and1 (dt_cmp (eq_ok hr.units) (de_ix (hu_of hr) (de_var (pv 2)) (de_int)) (de_int) (nomark _))))) (dss_cons ((by first | exact ds_lc (dg_tl (n := 2) (dgs_cons (dg_name 10) (dgs_cons (dg_name 11) (dgs_nil)))) (by decide) (ps_setLc (i := 8) (own := [("_law_place", 10), ("_law_value", 11)]) rfl sc_Lparts.nd rfl rfl (sw_true rfl rfl rfl (by decide +kernel)) (di_items (de_ix (hu_of hr) (de_var (pv 7)) (de_ix (hu_of hr) (de_var (pv 3)) (de_int)))) (blkOk_by (own := [("_law_place", 10), ("_law_value", 11)]) (N := N_Lparts) (sc := defScope s_Lparts) (by decide +kernel)) (fun _ _ _ _ _ => PG.or (pg_tup rfl (pgs_cons (pg_name (i := 10) sc_Lparts.nd rfl (by first | exact Or.inl rfl | exact Or.inr rfl)) (pgs_cons (pg_name (i := 11) sc_Lparts.nd rfl (by first | exact Or.inl rfl | exact Or.inr rfl)) (pgs_nil)))) (pg_unl rfl (pgs_cons (pg_name (i := 10) sc_Lparts.nd rfl (by first | exact Or.inl rfl | exact Or.inr rfl)) (pgs_cons (pg_name (i := 11) sc_Lparts.nd rfl (by first | exact Or.inl rfl | exact Or.inr rfl)) (pgs_nil))))) (fun _ _ _ _ _ => dts_nil) (fun _ _ _ _ _ => de_tup (da_cons (de_var (pv 10)) (da_cons (de_op add_ok (de_var (pv 11)) (de_ix (hu_of hr) (de_var (pv 2)) (de_int))) (da_nil))))) | exact ds_set (ps_set (i := 8) sc_Lparts.nd rfl (by first | exact Or.inl rfl | exact Or.inr rfl) (de_lc (own := [("_law_place", 10), ("_law_value", 11)]) rfl sc_Lparts.nd (di_items (de_ix (hu_of hr) (de_var (pv 7)) (de_ix (hu_of hr) (de_var (pv 3)) (de_int)))) (blkOk_by (own := [("_law_place", 10), ("_law_value", 11)]) (N := N_Lparts) (sc := defScope s_Lparts) (by decide +kernel)) (dg_tl (n := 2) (dgs_cons (dg_name 10) (dgs_cons (dg_name 11) (dgs_nil)))) (by decide) (fun _ _ _ _ _ => PG.or (pg_tup rfl (pgs_cons (pg_name (i := 10) sc_Lparts.nd rfl (by first | exact Or.inl rfl | exact Or.inr rfl)) (pgs_cons (pg_name (i := 11) sc_Lparts.nd rfl (by first | exact Or.inl rfl | exact Or.inr rfl)) (pgs_nil)))) (pg_unl rfl (pgs_cons (pg_name (i := 10) sc_Lparts.nd rfl (by first | exact Or.inl rfl | exact Or.inr rfl)) (pgs_cons (pg_name (i := 11) sc_Lparts.nd rfl (by first | exact Or.inl rfl | exact Or.inr rfl)) (pgs_nil))))) (fun _ _ _ _ _ => dts_nil) (fun _ _ _ _ _ => de_tup (da_cons (de_var (pv 10)) (da_cons (de_op add_ok (de_var (pv 11)) (de_ix (hu_of hr) (de_var (pv 2)) (de_int))) (da_nil)))))))) (dss_cons (ds_put (ps_asg (de_ix (hu_of hr) (de_ix (hu_of hr) (de_var (pv 7)) (de_ix (hu_of hr) (de_var (pv 3)) (de_int))) (de_int)) (pg_sub (pv 8) (de_op mod_ok (de_t1 int_ok (by rfl) T.n_int (by decide +kernel) (de_ix (hu_of hr) (de_var (pv 2)) (de_int))) (de_b1 len_ok (by rfl) T.n_len (by decide +kernel) (de_var (pv 8)))) (set_any (hu_of hr))))) (dss_fr (i := 8) (dss_cons ((by first | exact ds_shLc (dg_name 12) (by decide) (ps_setLc (i := 9) (own := [("_law_entry", 12)]) rfl sc_Lparts.nd rfl rfl (sw_true rfl rfl rfl (by decide +kernel)) (di_items (de_var (pv 8))) (blkOk_by (own := [("_law_entry", 12)]) (N := N_Lparts) (sc := defScope s_Lparts) (by decide +kernel)) (fun _ _ _ _ _ => pg_name (i := 12) sc_Lparts.nd rfl (by first | exact Or.inl rfl | exact Or.inr rfl)) (fun _ _ _ _ _ => dts_nil) (fun _ _ _ _ _ => de_ix (hu_of hr) (de_var (pv 12)) (de_int))) | exact ds_sh (ps_set (i := 9) sc_Lparts.nd rfl (by first | exact Or.inl rfl | exact Or.inr rfl) (de_lc (own := [("_law_entry", 12)]) rfl sc_Lparts.nd (di_items (de_var (pv 8))) (blkOk_by (own := [("_law_entry", 12)]) (N := N_Lparts) (sc := defScope s_Lparts) (by decide +kernel)) (dg_name 12) (by decide) (fun _ _ _ _ _ => pg_name (i := 12) sc_Lparts.nd rfl (by first | exact Or.inl rfl | exact Or.inr rfl)) (fun _ _ _ _ _ => dts_nil) (fun _ _ _ _ _ => de_ix (hu_of hr) (de_var (pv 12)) (de_int)))))) (dss_one (ds_put (ps_asg (de_lc (own := [("_law_k", 5)]) rfl sc_Lparts.nd (di_rng1 (by rfl) T.n_range (da_cons (de_b1 len_ok (by rfl) T.n_len (by decide +kernel) (de_var (pv 8))) (da_nil))) (blkOk_by (own := [("_law_k", 5)]) (N := N_Lparts) (sc := defScope s_Lparts) (by decide +kernel)) (dg_name 5) (by decide) (fun _ _ _ _ _ => pg_name (i := 5) sc_Lparts.nd rfl (by first | exact Or.inl rfl | exact Or.inr rfl)) (fun _ _ _ _ _ => dts_one (dt_cmp (notin_ok (hu_of hr)) (de_ix (hu_of hr) (de_ix (hu_of hr) (de_var (pv 8)) (de_var (pv 5))) (de_int)) (de_sl (de_var (pv 9)) do_none (do_some (de_var (pv 5)))) (by rfl))) (fun _ _ _ _ _ => de_ix (hu_of hr) (de_var (pv 8)) (de_var (pv 5)))) (pg_sub (pv 7) (de_ix (hu_of hr) (de_var (pv 3)) (de_int)) (set_any (hu_of hr)))))))))) (dss_nil)) (dss_fr (i := 4) (dss_fr (i := 6) (dss_fr (i := 7) (dss_one (ds_ret (de_tup (da_cons (de_var (pv 4)) (da_cons (de_var (pv 6)) (da_cons (de_var (pv 7)) (da_nil))))))))))))))))))) (fun _ _ _ h => h)
theorem w_law (T : Tx w K mg fa fd ct ca) : FnOk P w K mg base (L2.CX P w) 12 (fa 19) (fd 19) ["_law_script"] (spD K cn 1 F_law) :=
  fn_D (FB := b_law) T.F_law sc_law rfl (fun cdv A outer s H E G0 hr tk =>
    dss_cons (ds_sh (ps_set (i := 1) sc_law.nd rfl (by first | exact Or.inl rfl | exact Or.inr rfl) (de_call (w_Lparts T) (hr.mono (by decide)) (by rfl) T.g_Lparts T.F_Lparts.kp T.b_Lparts tk (da_cons (de_var (pv 0)) (da_cons (de_int) (da_nil)))))) (dss_cons (ds_sh (ps_set (i := 2) sc_law.nd rfl (by first | exact Or.inl rfl | exact Or.inr rfl) (de_call (w_Lscale T) (hr.mono (by decide)) (by rfl) T.g_Lscale T.F_Lscale.kp T.b_Lscale tk (da_cons (de_var (pv 0)) (da_cons (de_int) (da_nil)))))) (dss_cons (ds_for (passes_of rfl) rfl (di_rng2 (by rfl) T.n_range (da_cons (de_int) (da_cons (de_bn (max2_ok rfl) (by rfl) T.n_max (by decide +kernel) (da_cons (de_int) (da_cons (de_bn (min2_ok rfl) (by rfl) T.n_min (by decide +kernel) (da_cons (de_b1 len_ok (by rfl) T.n_len (by decide +kernel) (de_var (pv 0))) (da_cons (de_int) (da_nil)))) (da_nil)))) (da_nil)))) (pg_name (i := 3) sc_law.nd rfl (by first | exact Or.inl rfl | exact Or.inr rfl)) (dg_name 3) (dss_cons (ds_sh (ps_set (i := 4) sc_law.nd rfl (by first | exact Or.inl rfl | exact Or.inr rfl) (de_call (w_Lsaying T) (hr.mono (by decide)) (by rfl) T.g_Lsaying T.F_Lsaying.kp T.b_Lsaying tk (da_cons (de_var (pv 0)) (da_cons (de_var (pv 3)) (da_cons (de_var (pv 1)) (da_nil))))))) (dss_cons (ds_if (dt_cmp (eq_ok hr.units) (de_op mod_ok (de_t1 int_ok (by rfl) T.n_int (by decide +kernel) (de_var (pv 3))) (de_int)) (de_int) (nomark _)) (dss_one (ds_sh (ps_set (i := 4) sc_law.nd rfl (by first | exact Or.inl rfl | exact Or.inr rfl) (de_call (w_Lscaled_saying T) (hr.mono (by decide)) (by rfl) T.g_Lscaled_saying T.F_Lscaled_saying.kp T.b_Lscaled_saying tk (da_cons (de_var (pv 4)) (da_cons (de_var (pv 2)) (da_nil))))))) (dss_nil)) (dss_cons (ds_sh (ps_set (i := 5) sc_law.nd rfl (by first | exact Or.inl rfl | exact Or.inr rfl) (de_call (w_Lsaying_text T) (hr.mono (by decide)) (by rfl) T.g_Lsaying_text T.F_Lsaying_text.kp T.b_Lsaying_text tk (da_cons (de_var (pv 4)) (da_nil))))) (dss_cons (ds_if (dt_not (dt_tru (de_call (w_Lsame T) (hr.mono (by decide)) (by rfl) T.g_Lsame T.F_Lsame.kp T.b_Lsame tk (da_cons (de_lst (da_cons (de_call (w_show_saying T) (hr.mono (by decide)) (by rfl) T.g_show_saying T.F_show_saying.kp T.b_show_saying tk (da_cons (de_var (pv 4)) (da_nil))) (da_cons (de_callK0 (w_show_saying T) (hr.mono (by decide)) (by rfl) T.g_show_saying T.F_show_saying.kp T.k_show_saying rfl tk (dk_cons (de_var (pv 4)) (dk_nil))) (da_nil)))) (da_cons (de_lst (da_cons (de_var (pv 5)) (da_cons (de_var (pv 5)) (da_nil)))) (da_nil)))))) (dss_one (ds_ret (de_bl))) (dss_nil)) (dss_one (ds_for (passes_of rfl) rfl (di_items (de_sl (de_var (pv 4)) (do_some (de_int)) do_none)) (pg_name (i := 6) sc_law.nd rfl (by first | exact Or.inl rfl | exact Or.inr rfl)) (dg_name 6) (dss_one (ds_if (dt_tru (de_isi (T := "tuple") (by decide) (by rfl) T.n_isinstance (de_var (pv 6)) (pe_bltn (by rfl) T.n_tuple (by decide +kernel) rfl))) (dss_cons (ds_sh (ps_set (i := 7) sc_law.nd rfl (by first | exact Or.inl rfl | exact Or.inr rfl) (de_op add_ok (de_sl (de_var (pv 6)) do_none (do_some (de_un un_ok (de_int)))) (de_tup (da_cons (de_int) (da_nil)))))) (dss_cons (ds_sh (ps_set (i := 8) sc_law.nd rfl (by first | exact Or.inl rfl | exact Or.inr rfl) (de_lst (da_cons (de_call (w_show_term T) (hr.mono (by decide)) (by rfl) T.g_show_term T.F_show_term.kp T.b_show_term tk (da_cons (de_var (pv 6)) (da_nil))) (da_cons (de_call (w_show_term T) (hr.mono (by decide)) (by rfl) T.g_show_term T.F_show_term.kp T.b_show_term tk (da_cons (de_var (pv 7)) (da_nil))) (da_cons (de_callK0 (w_show_term T) (hr.mono (by decide)) (by rfl) T.g_show_term T.F_show_term.kp T.k_show_term rfl tk (dk_cons (de_var (pv 6)) (dk_nil))) (da_nil))))))) (dss_cons (ds_sh (ps_set (i := 9) sc_law.nd rfl (by first | exact Or.inl rfl | exact Or.inr rfl) (de_call (w_Lterm_text T) (hr.mono (by decide)) (by rfl) T.g_Lterm_text T.F_Lterm_text.kp T.b_Lterm_text tk (da_cons (de_var (pv 6)) (da_nil))))) (dss_one (ds_if (dt_not (dt_tru (de_call (w_Lsame T) (hr.mono (by decide)) (by rfl) T.g_Lsame T.F_Lsame.kp T.b_Lsame tk (da_cons (de_var (pv 8)) (da_cons (de_lst (da_cons (de_var (pv 9)) (da_cons (de_call (w_Lterm_text T) (hr.mono (by decide)) (by rfl) T.g_Lterm_text T.F_Lterm_text.kp T.b_Lterm_text tk (da_cons (de_var (pv 7)) (da_nil))) (da_cons (de_var (pv 9)) (da_nil))))) (da_nil)))))) (dss_one (ds_ret (de_bl))) (dss_nil)))))) (dss_nil)))))))))) (dss_one (ds_ret (de_bl)))))) (fun _ _ _ h => h)
end
end K75
namespace K75
open PySem L2 PD C
variable {QG : Kd → D → Prop}
/-! ### texts of terms -/
def tailT (k : Int) : Str := if k = 0 then Str.ofString "" else if k < 0 then Str.ofString (toString k) else Str.ofString "+" ++ Str.ofString (toString k)
def ptT (p : Str × Int) : Str := if p.1 = Str.ofString "" then Str.ofString (toString p.2) else p.1 ++ tailT p.2
def tmT : Tm → Str
  | .pt p => ptT p
  | .el a p k => a ++ Str.ofString "[" ++ ptT p ++ Str.ofString "]" ++ tailT k
def V6 : Voc := ⟨fun s => s.length ≤ 6, fun s => s.length ≤ 6, fun s => s.length ≤ 6⟩
def BB : Int := 10 ^ 40
def In (k : Int) : Prop := -BB ≤ k ∧ k ≤ BB
theorem In.log {k : Int} (h : In k) : k.natAbs.log2 < 1920 := by
  have h1 : k.natAbs ≤ 10 ^ 40 := by unfold In BB at h; omega
  exact log_abs (Nat.lt_of_le_of_lt h1 (by decide +kernel)) (by decide)
theorem In.len {k : Int} (h : In k) : (Str.ofString (toString k)).length ≤ 42 := num_len k (k := 41) (by decide) (by
  have : k.natAbs ≤ 10 ^ 40 := by unfold In BB at h; omega
  exact Nat.lt_of_le_of_lt this (by decide +kernel))
theorem l_plus : (Str.ofString "+").length = 1 := by decide +kernel
theorem l_no : (Str.ofString "").length = 0 := by decide +kernel
theorem l_op : (Str.ofString "[").length = 1 := by decide +kernel
theorem l_cl : (Str.ofString "]").length = 1 := by decide +kernel
theorem l_sp : (Str.ofString " ").length = 1 := by decide +kernel
theorem l_dd : (Str.ofString "..").length = 2 := by decide +kernel
theorem tailT_len {k : Int} (h : In k) : (tailT k).length ≤ 43 := by
  have := h.len
  unfold tailT
  split
  · rw [l_no]; omega
  · split
    · omega
    · rw [sl_app, l_plus]; omega
theorem ptT_len {p : Str × Int} (h : ptOk (fun s => s.length ≤ 6) BB p) : (ptT p).length ≤ 50 := by
  have h1 : p.1.length ≤ 6 := h.1
  have h2 := In.len (k := p.2) ⟨h.2.1, h.2.2⟩
  have h3 := tailT_len (k := p.2) ⟨h.2.1, h.2.2⟩
  unfold ptT
  split
  · omega
  · rw [sl_app]; omega
theorem tmT_len {t : Tm} (h : t.Ok V6 BB) : (tmT t).length ≤ 101 := by
  cases t with
  | pt p => have := ptT_len h; show (ptT p).length ≤ 101; omega
  | el a p k =>
    have h1 : a.length ≤ 6 := h.1
    have h2 := ptT_len h.2.1
    have h3 := tailT_len (k := k) ⟨h.2.2.1, h.2.2.2⟩
    show (a ++ Str.ofString "[" ++ ptT p ++ Str.ofString "]" ++ tailT k).length ≤ 101
    rw [sl_app, sl_app, sl_app, sl_app, l_op, l_cl]
    omega
theorem show_tail_spec (k : Int) (h : In k) : wR (F_show_tail [.int k]) fun r => r = .val .sh (.str (tailT k)) := by
  have l1 := h.len
  have l2 : (k.natAbs.log2 < 1920) = True := eq_true h.log
  have l3 : (1 + (Str.ofString (toString k)).length ≤ 16777216) = True := eq_true (by omega)
  rw [F_show_tail, w_run, b_show_tail]
  simp only [start_def, List.map_cons, List.map_nil, List.length_cons, List.length_nil, Nat.reduceAdd, Nat.reduceSub, List.replicate_succ, List.replicate_zero, List.cons_append, List.nil_append, Z1, Z2, z_bO0, z_bO1, z_for, z_lc, onV_v, onV_e, onS_v, onS_e, onB_v, onB_e, onBR_v, onBR_e, onA_v, onA_e, onVB_v, onVB_e, onVA_v, onVA_e, onAA_v, onAA_e, onAO_v, onAO_e, onBB_v, onBB_e, onO_n, onO_r, onO_b, onO_c, onO_e, onT_n, onT_c, onT_b, onT_r, onT_e, onR_n, onR_r, onR_e, okK_s, okK_n, wO_some, wR_some, wB_some, wA_some, z_lf, z_shr, w_c, w_var, z_op, z_un, z_tB1, z_truR, z_chain, z_andT, z_orT, z_notT, z_andV, z_orV, z_notV, z_if, w_nil, z_cons, z_lst, z_tup, w_dct0, z_call, z_bn, z_sm, z_sl, z_star, z_sh, z_set, z_asg, z_drop, z_ret, w_retV, w_retN, w_nx, z_seq, w_frz, z_ifS, z_app, z_put, z_items, z_it, g_add, g_sub, g_neg, g_mul, g_rep, g_fdiv, g_mod, g_pow, g_addS, g_addL, g_cmp0, g_eqI, g_eqS, g_eqB, g_lenL, g_lenT, g_lenR, g_lenS, g_int, g_intB, g_str, g_listL, g_listT, g_listM, g_tup, g_abs, g_max2, g_min2, gz_ixL, gz_ixT, gz_ixR, g_slL, gi_bool_non, gi_bool_bl, gi_bool_int, gi_bool_str, gi_bool_lst, gi_bool_tup, gi_bool_scr, gi_bool_dct, gi_int_non, gi_int_bl, gi_int_int, gi_int_str, gi_int_lst, gi_int_tup, gi_int_scr, gi_int_dct, gi_str_non, gi_str_bl, gi_str_int, gi_str_str, gi_str_lst, gi_str_tup, gi_str_scr, gi_str_dct, gi_list_non, gi_list_bl, gi_list_int, gi_list_str, gi_list_lst, gi_list_tup, gi_list_scr, gi_list_dct, gi_tuple_non, gi_tuple_bl, gi_tuple_int, gi_tuple_str, gi_tuple_lst, gi_tuple_tup, gi_tuple_scr, gi_tuple_dct, gi_dict_non, gi_dict_bl, gi_dict_int, gi_dict_str, gi_dict_lst, gi_dict_tup, gi_dict_scr, gi_dict_dct, tr_b, true_and, and_true, eq_self, exO_some, hTL_l, hTL_t, hName_e, hCons_c, hNil_n, bind_so, it_l, it_t, it_r, List.getElem?_cons_zero, List.getElem?_cons_succ, List.set_cons_zero, List.set_cons_succ, true_and, and_true, Nat.zero_le, snb, nnb, ex_some, dT, if_true, Bool.false_eq_true, if_false, wipeE, Int.reduceLT, List.length_nil, List.length_cons, Nat.reduceAdd, Nat.reduceLeDiff, Nat.reduceLT, g_inS, g_ixS, g_slS, g_join, frz_def, g_sort, g_rev, List.length_map, List.length_range, l2, l_plus, l3]
  unfold tailT
  split
  · rfl
  · split <;> rfl
theorem tail_text_spec (k : Int) (h : In k) : wR (F_Ltail_text [.int k]) fun r => r = .val .sh (.str (tailT k)) := by
  have l1 := h.len
  have l2 : (k.natAbs.log2 < 1920) = True := eq_true h.log
  have l3 : (1 + (Str.ofString (toString k)).length ≤ 16777216) = True := eq_true (by omega)
  rw [F_Ltail_text, w_run, b_Ltail_text]
  simp only [start_def, List.map_cons, List.map_nil, List.length_cons, List.length_nil, Nat.reduceAdd, Nat.reduceSub, List.replicate_succ, List.replicate_zero, List.cons_append, List.nil_append, Z1, Z2, z_bO0, z_bO1, z_for, z_lc, onV_v, onV_e, onS_v, onS_e, onB_v, onB_e, onBR_v, onBR_e, onA_v, onA_e, onVB_v, onVB_e, onVA_v, onVA_e, onAA_v, onAA_e, onAO_v, onAO_e, onBB_v, onBB_e, onO_n, onO_r, onO_b, onO_c, onO_e, onT_n, onT_c, onT_b, onT_r, onT_e, onR_n, onR_r, onR_e, okK_s, okK_n, wO_some, wR_some, wB_some, wA_some, z_lf, z_shr, w_c, w_var, z_op, z_un, z_tB1, z_truR, z_chain, z_andT, z_orT, z_notT, z_andV, z_orV, z_notV, z_if, w_nil, z_cons, z_lst, z_tup, w_dct0, z_call, z_bn, z_sm, z_sl, z_star, z_sh, z_set, z_asg, z_drop, z_ret, w_retV, w_retN, w_nx, z_seq, w_frz, z_ifS, z_app, z_put, z_items, z_it, g_add, g_sub, g_neg, g_mul, g_rep, g_fdiv, g_mod, g_pow, g_addS, g_addL, g_cmp0, g_eqI, g_eqS, g_eqB, g_lenL, g_lenT, g_lenR, g_lenS, g_int, g_intB, g_str, g_listL, g_listT, g_listM, g_tup, g_abs, g_max2, g_min2, gz_ixL, gz_ixT, gz_ixR, g_slL, gi_bool_non, gi_bool_bl, gi_bool_int, gi_bool_str, gi_bool_lst, gi_bool_tup, gi_bool_scr, gi_bool_dct, gi_int_non, gi_int_bl, gi_int_int, gi_int_str, gi_int_lst, gi_int_tup, gi_int_scr, gi_int_dct, gi_str_non, gi_str_bl, gi_str_int, gi_str_str, gi_str_lst, gi_str_tup, gi_str_scr, gi_str_dct, gi_list_non, gi_list_bl, gi_list_int, gi_list_str, gi_list_lst, gi_list_tup, gi_list_scr, gi_list_dct, gi_tuple_non, gi_tuple_bl, gi_tuple_int, gi_tuple_str, gi_tuple_lst, gi_tuple_tup, gi_tuple_scr, gi_tuple_dct, gi_dict_non, gi_dict_bl, gi_dict_int, gi_dict_str, gi_dict_lst, gi_dict_tup, gi_dict_scr, gi_dict_dct, tr_b, true_and, and_true, eq_self, exO_some, hTL_l, hTL_t, hName_e, hCons_c, hNil_n, bind_so, it_l, it_t, it_r, List.getElem?_cons_zero, List.getElem?_cons_succ, List.set_cons_zero, List.set_cons_succ, true_and, and_true, Nat.zero_le, snb, nnb, ex_some, dT, if_true, Bool.false_eq_true, if_false, wipeE, Int.reduceLT, List.length_nil, List.length_cons, Nat.reduceAdd, Nat.reduceLeDiff, Nat.reduceLT, g_inS, g_ixS, g_slS, g_join, frz_def, g_sort, g_rev, List.length_map, List.length_range, l2, l_plus, l3]
  unfold tailT
  split
  · rw [if_neg (by omega), if_neg (by omega)]
  · split
    · rw [if_neg (by omega)]
    · rw [if_pos (by omega)]
theorem show_pt (n : Nat) (p : Str × Int) (h : ptOk (fun s => s.length ≤ 6) BB p) : wR (G_show_term (n + 1) [ptD p]) fun r => r = .val .sh (.str (ptT p)) := by
  have h1 : p.1.length ≤ 6 := h.1
  have i2 : In p.2 := ⟨h.2.1, h.2.2⟩
  have l2 : (p.2.natAbs.log2 < 1920) = True := eq_true i2.log
  have l4 := tailT_len i2
  rw [G_show_term, w_run, b_show_term]
  simp only [start_def, List.map_cons, List.map_nil, List.length_cons, List.length_nil, Nat.reduceAdd, Nat.reduceSub, List.replicate_succ, List.replicate_zero, List.cons_append, List.nil_append, Z1, Z2, z_bO0, z_bO1, z_for, z_lc, onV_v, onV_e, onS_v, onS_e, onB_v, onB_e, onBR_v, onBR_e, onA_v, onA_e, onVB_v, onVB_e, onVA_v, onVA_e, onAA_v, onAA_e, onAO_v, onAO_e, onBB_v, onBB_e, onO_n, onO_r, onO_b, onO_c, onO_e, onT_n, onT_c, onT_b, onT_r, onT_e, onR_n, onR_r, onR_e, okK_s, okK_n, wO_some, wR_some, wB_some, wA_some, z_lf, z_shr, w_c, w_var, z_op, z_un, z_tB1, z_truR, z_chain, z_andT, z_orT, z_notT, z_andV, z_orV, z_notV, z_if, w_nil, z_cons, z_lst, z_tup, w_dct0, z_call, z_bn, z_sm, z_sl, z_star, z_sh, z_set, z_asg, z_drop, z_ret, w_retV, w_retN, w_nx, z_seq, w_frz, z_ifS, z_app, z_put, z_items, z_it, g_add, g_sub, g_neg, g_mul, g_rep, g_fdiv, g_mod, g_pow, g_addS, g_addL, g_cmp0, g_eqI, g_eqS, g_eqB, g_lenL, g_lenT, g_lenR, g_lenS, g_int, g_intB, g_str, g_listL, g_listT, g_listM, g_tup, g_abs, g_max2, g_min2, gz_ixL, gz_ixT, gz_ixR, g_slL, gi_bool_non, gi_bool_bl, gi_bool_int, gi_bool_str, gi_bool_lst, gi_bool_tup, gi_bool_scr, gi_bool_dct, gi_int_non, gi_int_bl, gi_int_int, gi_int_str, gi_int_lst, gi_int_tup, gi_int_scr, gi_int_dct, gi_str_non, gi_str_bl, gi_str_int, gi_str_str, gi_str_lst, gi_str_tup, gi_str_scr, gi_str_dct, gi_list_non, gi_list_bl, gi_list_int, gi_list_str, gi_list_lst, gi_list_tup, gi_list_scr, gi_list_dct, gi_tuple_non, gi_tuple_bl, gi_tuple_int, gi_tuple_str, gi_tuple_lst, gi_tuple_tup, gi_tuple_scr, gi_tuple_dct, gi_dict_non, gi_dict_bl, gi_dict_int, gi_dict_str, gi_dict_lst, gi_dict_tup, gi_dict_scr, gi_dict_dct, tr_b, true_and, and_true, eq_self, exO_some, hTL_l, hTL_t, hName_e, hCons_c, hNil_n, bind_so, it_l, it_t, it_r, List.getElem?_cons_zero, List.getElem?_cons_succ, List.set_cons_zero, List.set_cons_succ, true_and, and_true, Nat.zero_le, snb, nnb, ex_some, dT, if_true, Bool.false_eq_true, if_false, wipeE, Int.reduceLT, List.length_nil, List.length_cons, Nat.reduceAdd, Nat.reduceLeDiff, Nat.reduceLT, g_inS, g_ixS, g_slS, g_join, frz_def, g_sort, g_rev, List.length_map, List.length_range, ptD, c2_3, l2]
  unfold ptT
  split
  · rfl
  · rename_i hne
    refine (show_tail_spec p.2 i2).mono ?_
    rintro r rfl
    simp only [Z1, Z2, z_bO0, z_bO1, z_for, z_lc, onV_v, onV_e, onS_v, onS_e, onB_v, onB_e, onBR_v, onBR_e, onA_v, onA_e, onVB_v, onVB_e, onVA_v, onVA_e, onAA_v, onAA_e, onAO_v, onAO_e, onBB_v, onBB_e, onO_n, onO_r, onO_b, onO_c, onO_e, onT_n, onT_c, onT_b, onT_r, onT_e, onR_n, onR_r, onR_e, okK_s, okK_n, wO_some, wR_some, wB_some, wA_some, z_lf, z_shr, w_c, w_var, z_op, z_un, z_tB1, z_truR, z_chain, z_andT, z_orT, z_notT, z_andV, z_orV, z_notV, z_if, w_nil, z_cons, z_lst, z_tup, w_dct0, z_call, z_bn, z_sm, z_sl, z_star, z_sh, z_set, z_asg, z_drop, z_ret, w_retV, w_retN, w_nx, z_seq, w_frz, z_ifS, z_app, z_put, z_items, z_it, g_add, g_sub, g_neg, g_mul, g_rep, g_fdiv, g_mod, g_pow, g_addS, g_addL, g_cmp0, g_eqI, g_eqS, g_eqB, g_lenL, g_lenT, g_lenR, g_lenS, g_int, g_intB, g_str, g_listL, g_listT, g_listM, g_tup, g_abs, g_max2, g_min2, gz_ixL, gz_ixT, gz_ixR, g_slL, gi_bool_non, gi_bool_bl, gi_bool_int, gi_bool_str, gi_bool_lst, gi_bool_tup, gi_bool_scr, gi_bool_dct, gi_int_non, gi_int_bl, gi_int_int, gi_int_str, gi_int_lst, gi_int_tup, gi_int_scr, gi_int_dct, gi_str_non, gi_str_bl, gi_str_int, gi_str_str, gi_str_lst, gi_str_tup, gi_str_scr, gi_str_dct, gi_list_non, gi_list_bl, gi_list_int, gi_list_str, gi_list_lst, gi_list_tup, gi_list_scr, gi_list_dct, gi_tuple_non, gi_tuple_bl, gi_tuple_int, gi_tuple_str, gi_tuple_lst, gi_tuple_tup, gi_tuple_scr, gi_tuple_dct, gi_dict_non, gi_dict_bl, gi_dict_int, gi_dict_str, gi_dict_lst, gi_dict_tup, gi_dict_scr, gi_dict_dct, tr_b, true_and, and_true, eq_self, exO_some, hTL_l, hTL_t, hName_e, hCons_c, hNil_n, bind_so, it_l, it_t, it_r, List.getElem?_cons_zero, List.getElem?_cons_succ, List.set_cons_zero, List.set_cons_succ, true_and, and_true, Nat.zero_le, snb, nnb, ex_some, dT, if_true, Bool.false_eq_true, if_false, wipeE, Int.reduceLT, List.length_nil, List.length_cons, Nat.reduceAdd, Nat.reduceLeDiff, Nat.reduceLT, g_inS, g_ixS, g_slS, g_join, frz_def, g_sort, g_rev, List.length_map, List.length_range]
    exact ⟨by omega, by rw [if_neg hne]⟩
theorem text_pt (n : Nat) (p : Str × Int) (h : ptOk (fun s => s.length ≤ 6) BB p) : wR (G_Lterm_text (n + 1) [ptD p]) fun r => r = .val .sh (.str (ptT p)) := by
  have h1 : p.1.length ≤ 6 := h.1
  have i2 : In p.2 := ⟨h.2.1, h.2.2⟩
  have l2 : (p.2.natAbs.log2 < 1920) = True := eq_true i2.log
  have l4 := tailT_len i2
  rw [G_Lterm_text, w_run, b_Lterm_text]
  simp only [start_def, List.map_cons, List.map_nil, List.length_cons, List.length_nil, Nat.reduceAdd, Nat.reduceSub, List.replicate_succ, List.replicate_zero, List.cons_append, List.nil_append, Z1, Z2, z_bO0, z_bO1, z_for, z_lc, onV_v, onV_e, onS_v, onS_e, onB_v, onB_e, onBR_v, onBR_e, onA_v, onA_e, onVB_v, onVB_e, onVA_v, onVA_e, onAA_v, onAA_e, onAO_v, onAO_e, onBB_v, onBB_e, onO_n, onO_r, onO_b, onO_c, onO_e, onT_n, onT_c, onT_b, onT_r, onT_e, onR_n, onR_r, onR_e, okK_s, okK_n, wO_some, wR_some, wB_some, wA_some, z_lf, z_shr, w_c, w_var, z_op, z_un, z_tB1, z_truR, z_chain, z_andT, z_orT, z_notT, z_andV, z_orV, z_notV, z_if, w_nil, z_cons, z_lst, z_tup, w_dct0, z_call, z_bn, z_sm, z_sl, z_star, z_sh, z_set, z_asg, z_drop, z_ret, w_retV, w_retN, w_nx, z_seq, w_frz, z_ifS, z_app, z_put, z_items, z_it, g_add, g_sub, g_neg, g_mul, g_rep, g_fdiv, g_mod, g_pow, g_addS, g_addL, g_cmp0, g_eqI, g_eqS, g_eqB, g_lenL, g_lenT, g_lenR, g_lenS, g_int, g_intB, g_str, g_listL, g_listT, g_listM, g_tup, g_abs, g_max2, g_min2, gz_ixL, gz_ixT, gz_ixR, g_slL, gi_bool_non, gi_bool_bl, gi_bool_int, gi_bool_str, gi_bool_lst, gi_bool_tup, gi_bool_scr, gi_bool_dct, gi_int_non, gi_int_bl, gi_int_int, gi_int_str, gi_int_lst, gi_int_tup, gi_int_scr, gi_int_dct, gi_str_non, gi_str_bl, gi_str_int, gi_str_str, gi_str_lst, gi_str_tup, gi_str_scr, gi_str_dct, gi_list_non, gi_list_bl, gi_list_int, gi_list_str, gi_list_lst, gi_list_tup, gi_list_scr, gi_list_dct, gi_tuple_non, gi_tuple_bl, gi_tuple_int, gi_tuple_str, gi_tuple_lst, gi_tuple_tup, gi_tuple_scr, gi_tuple_dct, gi_dict_non, gi_dict_bl, gi_dict_int, gi_dict_str, gi_dict_lst, gi_dict_tup, gi_dict_scr, gi_dict_dct, tr_b, true_and, and_true, eq_self, exO_some, hTL_l, hTL_t, hName_e, hCons_c, hNil_n, bind_so, it_l, it_t, it_r, List.getElem?_cons_zero, List.getElem?_cons_succ, List.set_cons_zero, List.set_cons_succ, true_and, and_true, Nat.zero_le, snb, nnb, ex_some, dT, if_true, Bool.false_eq_true, if_false, wipeE, Int.reduceLT, List.length_nil, List.length_cons, Nat.reduceAdd, Nat.reduceLeDiff, Nat.reduceLT, g_inS, g_ixS, g_slS, g_join, frz_def, g_sort, g_rev, List.length_map, List.length_range, ptD, atI_0, atI_1, atI_2, atI_3, atI_4, atI_5, atI_6, atI_7, atI_8, atI_9, atI_10, atI_11, atI_12, atI_13, atI_14, atI_15, atI_16, atI_17, atI_18, atI_19, atI_20, atI_21, atI_22, atI_23, atI_24, atI_25, atI_26, atI_27, atI_28, atI_29, atI_30, c2_3, l2]
  unfold ptT
  split
  · rfl
  · rename_i hne
    refine (tail_text_spec p.2 i2).mono ?_
    rintro r rfl
    simp only [Z1, Z2, z_bO0, z_bO1, z_for, z_lc, onV_v, onV_e, onS_v, onS_e, onB_v, onB_e, onBR_v, onBR_e, onA_v, onA_e, onVB_v, onVB_e, onVA_v, onVA_e, onAA_v, onAA_e, onAO_v, onAO_e, onBB_v, onBB_e, onO_n, onO_r, onO_b, onO_c, onO_e, onT_n, onT_c, onT_b, onT_r, onT_e, onR_n, onR_r, onR_e, okK_s, okK_n, wO_some, wR_some, wB_some, wA_some, z_lf, z_shr, w_c, w_var, z_op, z_un, z_tB1, z_truR, z_chain, z_andT, z_orT, z_notT, z_andV, z_orV, z_notV, z_if, w_nil, z_cons, z_lst, z_tup, w_dct0, z_call, z_bn, z_sm, z_sl, z_star, z_sh, z_set, z_asg, z_drop, z_ret, w_retV, w_retN, w_nx, z_seq, w_frz, z_ifS, z_app, z_put, z_items, z_it, g_add, g_sub, g_neg, g_mul, g_rep, g_fdiv, g_mod, g_pow, g_addS, g_addL, g_cmp0, g_eqI, g_eqS, g_eqB, g_lenL, g_lenT, g_lenR, g_lenS, g_int, g_intB, g_str, g_listL, g_listT, g_listM, g_tup, g_abs, g_max2, g_min2, gz_ixL, gz_ixT, gz_ixR, g_slL, gi_bool_non, gi_bool_bl, gi_bool_int, gi_bool_str, gi_bool_lst, gi_bool_tup, gi_bool_scr, gi_bool_dct, gi_int_non, gi_int_bl, gi_int_int, gi_int_str, gi_int_lst, gi_int_tup, gi_int_scr, gi_int_dct, gi_str_non, gi_str_bl, gi_str_int, gi_str_str, gi_str_lst, gi_str_tup, gi_str_scr, gi_str_dct, gi_list_non, gi_list_bl, gi_list_int, gi_list_str, gi_list_lst, gi_list_tup, gi_list_scr, gi_list_dct, gi_tuple_non, gi_tuple_bl, gi_tuple_int, gi_tuple_str, gi_tuple_lst, gi_tuple_tup, gi_tuple_scr, gi_tuple_dct, gi_dict_non, gi_dict_bl, gi_dict_int, gi_dict_str, gi_dict_lst, gi_dict_tup, gi_dict_scr, gi_dict_dct, tr_b, true_and, and_true, eq_self, exO_some, hTL_l, hTL_t, hName_e, hCons_c, hNil_n, bind_so, it_l, it_t, it_r, List.getElem?_cons_zero, List.getElem?_cons_succ, List.set_cons_zero, List.set_cons_succ, true_and, and_true, Nat.zero_le, snb, nnb, ex_some, dT, if_true, Bool.false_eq_true, if_false, wipeE, Int.reduceLT, List.length_nil, List.length_cons, Nat.reduceAdd, Nat.reduceLeDiff, Nat.reduceLT, g_inS, g_ixS, g_slS, g_join, frz_def, g_sort, g_rev, List.length_map, List.length_range]
    exact ⟨by omega, by rw [if_neg hne]⟩
theorem show_tm (t : Tm) (h : t.Ok V6 BB) : wR (F_show_term [t.D]) fun r => r = .val .sh (.str (tmT t)) := by
  cases t with
  | pt p => exact show_pt 7 p h
  | el a p k =>
    have h1 : a.length ≤ 6 := h.1
    have h2 := ptT_len h.2.1
    have i3 : In k := ⟨h.2.2.1, h.2.2.2⟩
    have h3 := tailT_len i3
    rw [F_show_term, G_show_term, w_run, b_show_term]
    have la : (a.length + 1 ≤ 16777216) = True := eq_true (by omega)
    simp only [start_def, List.map_cons, List.map_nil, List.length_cons, List.length_nil, Nat.reduceAdd, Nat.reduceSub, List.replicate_succ, List.replicate_zero, List.cons_append, List.nil_append, Z1, Z2, z_bO0, z_bO1, z_for, z_lc, onV_v, onV_e, onS_v, onS_e, onB_v, onB_e, onBR_v, onBR_e, onA_v, onA_e, onVB_v, onVB_e, onVA_v, onVA_e, onAA_v, onAA_e, onAO_v, onAO_e, onBB_v, onBB_e, onO_n, onO_r, onO_b, onO_c, onO_e, onT_n, onT_c, onT_b, onT_r, onT_e, onR_n, onR_r, onR_e, okK_s, okK_n, wO_some, wR_some, wB_some, wA_some, z_lf, z_shr, w_c, w_var, z_op, z_un, z_tB1, z_truR, z_chain, z_andT, z_orT, z_notT, z_andV, z_orV, z_notV, z_if, w_nil, z_cons, z_lst, z_tup, w_dct0, z_call, z_bn, z_sm, z_sl, z_star, z_sh, z_set, z_asg, z_drop, z_ret, w_retV, w_retN, w_nx, z_seq, w_frz, z_ifS, z_app, z_put, z_items, z_it, g_add, g_sub, g_neg, g_mul, g_rep, g_fdiv, g_mod, g_pow, g_addS, g_addL, g_cmp0, g_eqI, g_eqS, g_eqB, g_lenL, g_lenT, g_lenR, g_lenS, g_int, g_intB, g_str, g_listL, g_listT, g_listM, g_tup, g_abs, g_max2, g_min2, gz_ixL, gz_ixT, gz_ixR, g_slL, gi_bool_non, gi_bool_bl, gi_bool_int, gi_bool_str, gi_bool_lst, gi_bool_tup, gi_bool_scr, gi_bool_dct, gi_int_non, gi_int_bl, gi_int_int, gi_int_str, gi_int_lst, gi_int_tup, gi_int_scr, gi_int_dct, gi_str_non, gi_str_bl, gi_str_int, gi_str_str, gi_str_lst, gi_str_tup, gi_str_scr, gi_str_dct, gi_list_non, gi_list_bl, gi_list_int, gi_list_str, gi_list_lst, gi_list_tup, gi_list_scr, gi_list_dct, gi_tuple_non, gi_tuple_bl, gi_tuple_int, gi_tuple_str, gi_tuple_lst, gi_tuple_tup, gi_tuple_scr, gi_tuple_dct, gi_dict_non, gi_dict_bl, gi_dict_int, gi_dict_str, gi_dict_lst, gi_dict_tup, gi_dict_scr, gi_dict_dct, tr_b, true_and, and_true, eq_self, exO_some, hTL_l, hTL_t, hName_e, hCons_c, hNil_n, bind_so, it_l, it_t, it_r, List.getElem?_cons_zero, List.getElem?_cons_succ, List.set_cons_zero, List.set_cons_succ, true_and, and_true, Nat.zero_le, snb, nnb, ex_some, dT, if_true, Bool.false_eq_true, if_false, wipeE, Int.reduceLT, List.length_nil, List.length_cons, Nat.reduceAdd, Nat.reduceLeDiff, Nat.reduceLT, g_inS, g_ixS, g_slS, g_join, frz_def, g_sort, g_rev, List.length_map, List.length_range, Tm.D, c3_3, l_op, la]
    refine (show_pt 6 p h.2.1).mono ?_
    rintro r rfl
    have lb : (a.length + 1 + (ptT p).length ≤ 16777216) = True := eq_true (by omega)
    have lc : (a.length + 1 + (ptT p).length + 1 ≤ 16777216) = True := eq_true (by omega)
    simp only [Z1, Z2, z_bO0, z_bO1, z_for, z_lc, onV_v, onV_e, onS_v, onS_e, onB_v, onB_e, onBR_v, onBR_e, onA_v, onA_e, onVB_v, onVB_e, onVA_v, onVA_e, onAA_v, onAA_e, onAO_v, onAO_e, onBB_v, onBB_e, onO_n, onO_r, onO_b, onO_c, onO_e, onT_n, onT_c, onT_b, onT_r, onT_e, onR_n, onR_r, onR_e, okK_s, okK_n, wO_some, wR_some, wB_some, wA_some, z_lf, z_shr, w_c, w_var, z_op, z_un, z_tB1, z_truR, z_chain, z_andT, z_orT, z_notT, z_andV, z_orV, z_notV, z_if, w_nil, z_cons, z_lst, z_tup, w_dct0, z_call, z_bn, z_sm, z_sl, z_star, z_sh, z_set, z_asg, z_drop, z_ret, w_retV, w_retN, w_nx, z_seq, w_frz, z_ifS, z_app, z_put, z_items, z_it, g_add, g_sub, g_neg, g_mul, g_rep, g_fdiv, g_mod, g_pow, g_addS, g_addL, g_cmp0, g_eqI, g_eqS, g_eqB, g_lenL, g_lenT, g_lenR, g_lenS, g_int, g_intB, g_str, g_listL, g_listT, g_listM, g_tup, g_abs, g_max2, g_min2, gz_ixL, gz_ixT, gz_ixR, g_slL, gi_bool_non, gi_bool_bl, gi_bool_int, gi_bool_str, gi_bool_lst, gi_bool_tup, gi_bool_scr, gi_bool_dct, gi_int_non, gi_int_bl, gi_int_int, gi_int_str, gi_int_lst, gi_int_tup, gi_int_scr, gi_int_dct, gi_str_non, gi_str_bl, gi_str_int, gi_str_str, gi_str_lst, gi_str_tup, gi_str_scr, gi_str_dct, gi_list_non, gi_list_bl, gi_list_int, gi_list_str, gi_list_lst, gi_list_tup, gi_list_scr, gi_list_dct, gi_tuple_non, gi_tuple_bl, gi_tuple_int, gi_tuple_str, gi_tuple_lst, gi_tuple_tup, gi_tuple_scr, gi_tuple_dct, gi_dict_non, gi_dict_bl, gi_dict_int, gi_dict_str, gi_dict_lst, gi_dict_tup, gi_dict_scr, gi_dict_dct, tr_b, true_and, and_true, eq_self, exO_some, hTL_l, hTL_t, hName_e, hCons_c, hNil_n, bind_so, it_l, it_t, it_r, List.getElem?_cons_zero, List.getElem?_cons_succ, List.set_cons_zero, List.set_cons_succ, true_and, and_true, Nat.zero_le, snb, nnb, ex_some, dT, if_true, Bool.false_eq_true, if_false, wipeE, Int.reduceLT, List.length_nil, List.length_cons, Nat.reduceAdd, Nat.reduceLeDiff, Nat.reduceLT, g_inS, g_ixS, g_slS, g_join, frz_def, g_sort, g_rev, List.length_map, List.length_range, sl_app, l_op, l_cl, lb, lc]
    refine (show_tail_spec k i3).mono ?_
    rintro r rfl
    simp only [Z1, Z2, z_bO0, z_bO1, z_for, z_lc, onV_v, onV_e, onS_v, onS_e, onB_v, onB_e, onBR_v, onBR_e, onA_v, onA_e, onVB_v, onVB_e, onVA_v, onVA_e, onAA_v, onAA_e, onAO_v, onAO_e, onBB_v, onBB_e, onO_n, onO_r, onO_b, onO_c, onO_e, onT_n, onT_c, onT_b, onT_r, onT_e, onR_n, onR_r, onR_e, okK_s, okK_n, wO_some, wR_some, wB_some, wA_some, z_lf, z_shr, w_c, w_var, z_op, z_un, z_tB1, z_truR, z_chain, z_andT, z_orT, z_notT, z_andV, z_orV, z_notV, z_if, w_nil, z_cons, z_lst, z_tup, w_dct0, z_call, z_bn, z_sm, z_sl, z_star, z_sh, z_set, z_asg, z_drop, z_ret, w_retV, w_retN, w_nx, z_seq, w_frz, z_ifS, z_app, z_put, z_items, z_it, g_add, g_sub, g_neg, g_mul, g_rep, g_fdiv, g_mod, g_pow, g_addS, g_addL, g_cmp0, g_eqI, g_eqS, g_eqB, g_lenL, g_lenT, g_lenR, g_lenS, g_int, g_intB, g_str, g_listL, g_listT, g_listM, g_tup, g_abs, g_max2, g_min2, gz_ixL, gz_ixT, gz_ixR, g_slL, gi_bool_non, gi_bool_bl, gi_bool_int, gi_bool_str, gi_bool_lst, gi_bool_tup, gi_bool_scr, gi_bool_dct, gi_int_non, gi_int_bl, gi_int_int, gi_int_str, gi_int_lst, gi_int_tup, gi_int_scr, gi_int_dct, gi_str_non, gi_str_bl, gi_str_int, gi_str_str, gi_str_lst, gi_str_tup, gi_str_scr, gi_str_dct, gi_list_non, gi_list_bl, gi_list_int, gi_list_str, gi_list_lst, gi_list_tup, gi_list_scr, gi_list_dct, gi_tuple_non, gi_tuple_bl, gi_tuple_int, gi_tuple_str, gi_tuple_lst, gi_tuple_tup, gi_tuple_scr, gi_tuple_dct, gi_dict_non, gi_dict_bl, gi_dict_int, gi_dict_str, gi_dict_lst, gi_dict_tup, gi_dict_scr, gi_dict_dct, tr_b, true_and, and_true, eq_self, exO_some, hTL_l, hTL_t, hName_e, hCons_c, hNil_n, bind_so, it_l, it_t, it_r, List.getElem?_cons_zero, List.getElem?_cons_succ, List.set_cons_zero, List.set_cons_succ, true_and, and_true, Nat.zero_le, snb, nnb, ex_some, dT, if_true, Bool.false_eq_true, if_false, wipeE, Int.reduceLT, List.length_nil, List.length_cons, Nat.reduceAdd, Nat.reduceLeDiff, Nat.reduceLT, g_inS, g_ixS, g_slS, g_join, frz_def, g_sort, g_rev, List.length_map, List.length_range, sl_app, l_op, l_cl]
    exact ⟨by omega, rfl⟩
theorem text_tm (t : Tm) (h : t.Ok V6 BB) : wR (F_Lterm_text [t.D]) fun r => r = .val .sh (.str (tmT t)) := by
  cases t with
  | pt p => exact text_pt 7 p h
  | el a p k =>
    have h1 : a.length ≤ 6 := h.1
    have h2 := ptT_len h.2.1
    have i3 : In k := ⟨h.2.2.1, h.2.2.2⟩
    have h3 := tailT_len i3
    rw [F_Lterm_text, G_Lterm_text, w_run, b_Lterm_text]
    have la : (a.length + 1 ≤ 16777216) = True := eq_true (by omega)
    simp only [start_def, List.map_cons, List.map_nil, List.length_cons, List.length_nil, Nat.reduceAdd, Nat.reduceSub, List.replicate_succ, List.replicate_zero, List.cons_append, List.nil_append, Z1, Z2, z_bO0, z_bO1, z_for, z_lc, onV_v, onV_e, onS_v, onS_e, onB_v, onB_e, onBR_v, onBR_e, onA_v, onA_e, onVB_v, onVB_e, onVA_v, onVA_e, onAA_v, onAA_e, onAO_v, onAO_e, onBB_v, onBB_e, onO_n, onO_r, onO_b, onO_c, onO_e, onT_n, onT_c, onT_b, onT_r, onT_e, onR_n, onR_r, onR_e, okK_s, okK_n, wO_some, wR_some, wB_some, wA_some, z_lf, z_shr, w_c, w_var, z_op, z_un, z_tB1, z_truR, z_chain, z_andT, z_orT, z_notT, z_andV, z_orV, z_notV, z_if, w_nil, z_cons, z_lst, z_tup, w_dct0, z_call, z_bn, z_sm, z_sl, z_star, z_sh, z_set, z_asg, z_drop, z_ret, w_retV, w_retN, w_nx, z_seq, w_frz, z_ifS, z_app, z_put, z_items, z_it, g_add, g_sub, g_neg, g_mul, g_rep, g_fdiv, g_mod, g_pow, g_addS, g_addL, g_cmp0, g_eqI, g_eqS, g_eqB, g_lenL, g_lenT, g_lenR, g_lenS, g_int, g_intB, g_str, g_listL, g_listT, g_listM, g_tup, g_abs, g_max2, g_min2, gz_ixL, gz_ixT, gz_ixR, g_slL, gi_bool_non, gi_bool_bl, gi_bool_int, gi_bool_str, gi_bool_lst, gi_bool_tup, gi_bool_scr, gi_bool_dct, gi_int_non, gi_int_bl, gi_int_int, gi_int_str, gi_int_lst, gi_int_tup, gi_int_scr, gi_int_dct, gi_str_non, gi_str_bl, gi_str_int, gi_str_str, gi_str_lst, gi_str_tup, gi_str_scr, gi_str_dct, gi_list_non, gi_list_bl, gi_list_int, gi_list_str, gi_list_lst, gi_list_tup, gi_list_scr, gi_list_dct, gi_tuple_non, gi_tuple_bl, gi_tuple_int, gi_tuple_str, gi_tuple_lst, gi_tuple_tup, gi_tuple_scr, gi_tuple_dct, gi_dict_non, gi_dict_bl, gi_dict_int, gi_dict_str, gi_dict_lst, gi_dict_tup, gi_dict_scr, gi_dict_dct, tr_b, true_and, and_true, eq_self, exO_some, hTL_l, hTL_t, hName_e, hCons_c, hNil_n, bind_so, it_l, it_t, it_r, List.getElem?_cons_zero, List.getElem?_cons_succ, List.set_cons_zero, List.set_cons_succ, true_and, and_true, Nat.zero_le, snb, nnb, ex_some, dT, if_true, Bool.false_eq_true, if_false, wipeE, Int.reduceLT, List.length_nil, List.length_cons, Nat.reduceAdd, Nat.reduceLeDiff, Nat.reduceLT, g_inS, g_ixS, g_slS, g_join, frz_def, g_sort, g_rev, List.length_map, List.length_range, Tm.D, c3_3, l_op, la, atI_0, atI_1, atI_2, atI_3, atI_4, atI_5, atI_6, atI_7, atI_8, atI_9, atI_10, atI_11, atI_12, atI_13, atI_14, atI_15, atI_16, atI_17, atI_18, atI_19, atI_20, atI_21, atI_22, atI_23, atI_24, atI_25, atI_26, atI_27, atI_28, atI_29, atI_30]
    refine (text_pt 6 p h.2.1).mono ?_
    rintro r rfl
    have lb : (a.length + 1 + (ptT p).length ≤ 16777216) = True := eq_true (by omega)
    have lc : (a.length + 1 + (ptT p).length + 1 ≤ 16777216) = True := eq_true (by omega)
    simp only [Z1, Z2, z_bO0, z_bO1, z_for, z_lc, onV_v, onV_e, onS_v, onS_e, onB_v, onB_e, onBR_v, onBR_e, onA_v, onA_e, onVB_v, onVB_e, onVA_v, onVA_e, onAA_v, onAA_e, onAO_v, onAO_e, onBB_v, onBB_e, onO_n, onO_r, onO_b, onO_c, onO_e, onT_n, onT_c, onT_b, onT_r, onT_e, onR_n, onR_r, onR_e, okK_s, okK_n, wO_some, wR_some, wB_some, wA_some, z_lf, z_shr, w_c, w_var, z_op, z_un, z_tB1, z_truR, z_chain, z_andT, z_orT, z_notT, z_andV, z_orV, z_notV, z_if, w_nil, z_cons, z_lst, z_tup, w_dct0, z_call, z_bn, z_sm, z_sl, z_star, z_sh, z_set, z_asg, z_drop, z_ret, w_retV, w_retN, w_nx, z_seq, w_frz, z_ifS, z_app, z_put, z_items, z_it, g_add, g_sub, g_neg, g_mul, g_rep, g_fdiv, g_mod, g_pow, g_addS, g_addL, g_cmp0, g_eqI, g_eqS, g_eqB, g_lenL, g_lenT, g_lenR, g_lenS, g_int, g_intB, g_str, g_listL, g_listT, g_listM, g_tup, g_abs, g_max2, g_min2, gz_ixL, gz_ixT, gz_ixR, g_slL, gi_bool_non, gi_bool_bl, gi_bool_int, gi_bool_str, gi_bool_lst, gi_bool_tup, gi_bool_scr, gi_bool_dct, gi_int_non, gi_int_bl, gi_int_int, gi_int_str, gi_int_lst, gi_int_tup, gi_int_scr, gi_int_dct, gi_str_non, gi_str_bl, gi_str_int, gi_str_str, gi_str_lst, gi_str_tup, gi_str_scr, gi_str_dct, gi_list_non, gi_list_bl, gi_list_int, gi_list_str, gi_list_lst, gi_list_tup, gi_list_scr, gi_list_dct, gi_tuple_non, gi_tuple_bl, gi_tuple_int, gi_tuple_str, gi_tuple_lst, gi_tuple_tup, gi_tuple_scr, gi_tuple_dct, gi_dict_non, gi_dict_bl, gi_dict_int, gi_dict_str, gi_dict_lst, gi_dict_tup, gi_dict_scr, gi_dict_dct, tr_b, true_and, and_true, eq_self, exO_some, hTL_l, hTL_t, hName_e, hCons_c, hNil_n, bind_so, it_l, it_t, it_r, List.getElem?_cons_zero, List.getElem?_cons_succ, List.set_cons_zero, List.set_cons_succ, true_and, and_true, Nat.zero_le, snb, nnb, ex_some, dT, if_true, Bool.false_eq_true, if_false, wipeE, Int.reduceLT, List.length_nil, List.length_cons, Nat.reduceAdd, Nat.reduceLeDiff, Nat.reduceLT, g_inS, g_ixS, g_slS, g_join, frz_def, g_sort, g_rev, List.length_map, List.length_range, sl_app, l_op, l_cl, lb, lc, atI_0, atI_1, atI_2, atI_3, atI_4, atI_5, atI_6, atI_7, atI_8, atI_9, atI_10, atI_11, atI_12, atI_13, atI_14, atI_15, atI_16, atI_17, atI_18, atI_19, atI_20, atI_21, atI_22, atI_23, atI_24, atI_25, atI_26, atI_27, atI_28, atI_29, atI_30]
    refine (tail_text_spec k i3).mono ?_
    rintro r rfl
    simp only [Z1, Z2, z_bO0, z_bO1, z_for, z_lc, onV_v, onV_e, onS_v, onS_e, onB_v, onB_e, onBR_v, onBR_e, onA_v, onA_e, onVB_v, onVB_e, onVA_v, onVA_e, onAA_v, onAA_e, onAO_v, onAO_e, onBB_v, onBB_e, onO_n, onO_r, onO_b, onO_c, onO_e, onT_n, onT_c, onT_b, onT_r, onT_e, onR_n, onR_r, onR_e, okK_s, okK_n, wO_some, wR_some, wB_some, wA_some, z_lf, z_shr, w_c, w_var, z_op, z_un, z_tB1, z_truR, z_chain, z_andT, z_orT, z_notT, z_andV, z_orV, z_notV, z_if, w_nil, z_cons, z_lst, z_tup, w_dct0, z_call, z_bn, z_sm, z_sl, z_star, z_sh, z_set, z_asg, z_drop, z_ret, w_retV, w_retN, w_nx, z_seq, w_frz, z_ifS, z_app, z_put, z_items, z_it, g_add, g_sub, g_neg, g_mul, g_rep, g_fdiv, g_mod, g_pow, g_addS, g_addL, g_cmp0, g_eqI, g_eqS, g_eqB, g_lenL, g_lenT, g_lenR, g_lenS, g_int, g_intB, g_str, g_listL, g_listT, g_listM, g_tup, g_abs, g_max2, g_min2, gz_ixL, gz_ixT, gz_ixR, g_slL, gi_bool_non, gi_bool_bl, gi_bool_int, gi_bool_str, gi_bool_lst, gi_bool_tup, gi_bool_scr, gi_bool_dct, gi_int_non, gi_int_bl, gi_int_int, gi_int_str, gi_int_lst, gi_int_tup, gi_int_scr, gi_int_dct, gi_str_non, gi_str_bl, gi_str_int, gi_str_str, gi_str_lst, gi_str_tup, gi_str_scr, gi_str_dct, gi_list_non, gi_list_bl, gi_list_int, gi_list_str, gi_list_lst, gi_list_tup, gi_list_scr, gi_list_dct, gi_tuple_non, gi_tuple_bl, gi_tuple_int, gi_tuple_str, gi_tuple_lst, gi_tuple_tup, gi_tuple_scr, gi_tuple_dct, gi_dict_non, gi_dict_bl, gi_dict_int, gi_dict_str, gi_dict_lst, gi_dict_tup, gi_dict_scr, gi_dict_dct, tr_b, true_and, and_true, eq_self, exO_some, hTL_l, hTL_t, hName_e, hCons_c, hNil_n, bind_so, it_l, it_t, it_r, List.getElem?_cons_zero, List.getElem?_cons_succ, List.set_cons_zero, List.set_cons_succ, true_and, and_true, Nat.zero_le, snb, nnb, ex_some, dT, if_true, Bool.false_eq_true, if_false, wipeE, Int.reduceLT, List.length_nil, List.length_cons, Nat.reduceAdd, Nat.reduceLeDiff, Nat.reduceLT, g_inS, g_ixS, g_slS, g_join, frz_def, g_sort, g_rev, List.length_map, List.length_range, sl_app, l_op, l_cl]
    exact ⟨by omega, rfl⟩
/-! ### texts of sayings -/
def opT : Option (Str × Int) → Str
  | none => Str.ofString ".."
  | some p => ptT p
/-- what a saying holds: its kind, its datum, its text -/
def trip : Sy → List (Nat × D × Str)
  | .place t u => [(112, ptD t, ptT t), (112, ptD u, ptT u)]
  | .value t u => [(118, t.D, tmT t), (118, u.D, tmT u)]
  | .rising a e f => [(97, .str a, a), (101, opD e, opT e), (101, opD f, opT f)]
  | .low a e f t => [(97, .str a, a), (101, opD e, opT e), (101, opD f, opT f), (118, t.D, tmT t)]
  | .high a e f t => [(97, .str a, a), (101, opD e, opT e), (101, opD f, opT f), (118, t.D, tmT t)]
  | .below a e f b g h k => [(97, .str a, a), (101, opD e, opT e), (101, opD f, opT f), (97, .str b, b), (101, opD g, opT g), (101, opD h, opT h), (107, .int k, Str.ofString (toString k))]
  | .same a b e f k => [(97, .str a, a), (97, .str b, b), (101, opD e, opT e), (101, opD f, opT f), (107, .int k, Str.ofString (toString k))]
def nmT : Sy → Str
  | .place _ _ => Str.ofString "place"
  | .value _ _ => Str.ofString "value"
  | .rising _ _ _ => Str.ofString "rising"
  | .low _ _ _ _ => Str.ofString "low"
  | .high _ _ _ _ => Str.ofString "high"
  | .below _ _ _ _ _ _ _ => Str.ofString "below"
  | .same _ _ _ _ _ => Str.ofString "same"
def fmT : Sy → Str
  | .place _ _ => Str.ofString "pp"
  | .value _ _ => Str.ofString "vv"
  | .rising _ _ _ => Str.ofString "aee"
  | .low _ _ _ _ => Str.ofString "aeev"
  | .high _ _ _ _ => Str.ofString "aeev"
  | .below _ _ _ _ _ _ _ => Str.ofString "aeeaeek"
  | .same _ _ _ _ _ => Str.ofString "aaeek"
/-- one part -/
def PartOk (t : Nat × D × Str) : Prop := t.2.2.length ≤ 101 ∧
  ((t.1 = 97 ∧ t.2.1 = .str t.2.2) ∨ (t.1 ≠ 97 ∧ t.2.1 = .non ∧ t.2.2 = Str.ofString "..") ∨ (t.1 = 107 ∧ ∃ k, In k ∧ t.2.1 = .int k ∧ t.2.2 = Str.ofString (toString k)) ∨
    ((t.1 ≠ 97 ∧ t.1 ≠ 107) ∧ ∃ m : Tm, m.Ok V6 BB ∧ t.2.1 = m.D ∧ t.2.2 = tmT m))
theorem D_eq (y : Sy) : y.D = .tup (.str (nmT y) :: (trip y).map (·.2.1)) := by cases y <;> rfl
theorem part_a {s : Str} (h : s.length ≤ 6) : PartOk (97, .str s, s) := ⟨by show s.length ≤ 101; omega, .inl ⟨rfl, rfl⟩⟩
theorem part_e {e : Option (Str × Int)} (h : opOk V6.Sp BB e) : PartOk (101, opD e, opT e) := by
  cases e with
  | none => exact ⟨by show (Str.ofString "..").length ≤ 101; rw [l_dd]; decide, .inr (.inl ⟨by decide, rfl, rfl⟩)⟩
  | some p => exact ⟨Nat.le_trans (ptT_len h) (by decide), .inr (.inr (.inr ⟨⟨show (101 : Nat) ≠ 97 by decide, show (101 : Nat) ≠ 107 by decide⟩, .pt p, h, rfl, rfl⟩))⟩
theorem part_t {k : Nat} {t : Tm} (hk : k ≠ 97 ∧ k ≠ 107) (h : t.Ok V6 BB) : PartOk (k, t.D, tmT t) := ⟨tmT_len h, .inr (.inr (.inr ⟨hk, t, h, rfl, rfl⟩))⟩
theorem part_p {p : Str × Int} (h : ptOk V6.Sp BB p) : PartOk (112, ptD p, ptT p) := part_t (t := .pt p) ⟨by decide, by decide⟩ h
theorem part_k {k : Int} (h : In k) : PartOk (107, .int k, Str.ofString (toString k)) := ⟨Nat.le_trans h.len (by decide), .inr (.inr (.inl ⟨rfl, k, h, rfl, rfl⟩))⟩
theorem parts_ok (y : Sy) (h : y.Ok V6 BB) : ∀ t ∈ trip y, PartOk t := by
  cases y with
  | place t u => exact List.forall_mem_cons.mpr ⟨part_p h.1, List.forall_mem_cons.mpr ⟨part_p h.2, fun _ h => by cases h⟩⟩
  | value t u => exact List.forall_mem_cons.mpr ⟨part_t ⟨by decide, by decide⟩ h.1, List.forall_mem_cons.mpr ⟨part_t ⟨by decide, by decide⟩ h.2, fun _ h => by cases h⟩⟩
  | rising a e f => exact List.forall_mem_cons.mpr ⟨part_a h.1, List.forall_mem_cons.mpr ⟨part_e h.2.1, List.forall_mem_cons.mpr ⟨part_e h.2.2, fun _ h => by cases h⟩⟩⟩
  | low a e f t => exact List.forall_mem_cons.mpr ⟨part_a h.1, List.forall_mem_cons.mpr ⟨part_e h.2.1, List.forall_mem_cons.mpr ⟨part_e h.2.2.1, List.forall_mem_cons.mpr ⟨part_t ⟨by decide, by decide⟩ h.2.2.2, fun _ h => by cases h⟩⟩⟩⟩
  | high a e f t => exact List.forall_mem_cons.mpr ⟨part_a h.1, List.forall_mem_cons.mpr ⟨part_e h.2.1, List.forall_mem_cons.mpr ⟨part_e h.2.2.1, List.forall_mem_cons.mpr ⟨part_t ⟨by decide, by decide⟩ h.2.2.2, fun _ h => by cases h⟩⟩⟩⟩
  | below a e f b g h0 k =>
    obtain ⟨ha, he, hf, hb, hg, hh, hk⟩ := h
    exact List.forall_mem_cons.mpr ⟨part_a ha, List.forall_mem_cons.mpr ⟨part_e he, List.forall_mem_cons.mpr ⟨part_e hf, List.forall_mem_cons.mpr ⟨part_a hb, List.forall_mem_cons.mpr ⟨part_e hg, List.forall_mem_cons.mpr ⟨part_e hh, List.forall_mem_cons.mpr ⟨part_k hk, fun _ h => by cases h⟩⟩⟩⟩⟩⟩⟩
  | same a b e f k =>
    obtain ⟨ha, hb, he, hf, hk⟩ := h
    exact List.forall_mem_cons.mpr ⟨part_a ha, List.forall_mem_cons.mpr ⟨part_a hb, List.forall_mem_cons.mpr ⟨part_e he, List.forall_mem_cons.mpr ⟨part_e hf, List.forall_mem_cons.mpr ⟨part_k hk, fun _ h => by cases h⟩⟩⟩⟩⟩
theorem one_a (n : Nat) : ((⟨#[n]⟩ : Str) = Str.ofString "a") = (n = 97) := by
  rw [show Str.ofString "a" = ⟨#[97]⟩ by decide +kernel]
  simp
theorem one_k (n : Nat) : ((⟨#[n]⟩ : Str) = Str.ofString "k") = (n = 107) := by
  rw [show Str.ofString "k" = ⟨#[107]⟩ by decide +kernel]
  simp
theorem g_isTm {m : Tm} : wG (isND m.D .non) QG = QG .sh (.bl false) := by cases m <;> exact g_isT
theorem show_part_spec (t : Nat × D × Str) (h : PartOk t) : wR (F_show_part [.str ⟨#[t.1]⟩, t.2.1]) fun r => r = .val .sh (.str t.2.2) := by
  obtain ⟨n, d, s⟩ := t
  rw [F_show_part, w_run, b_show_part]
  rcases h with ⟨_, ⟨h1, h2⟩ | ⟨h1, h2, h3⟩ | ⟨h1, k, h2, h3, h4⟩ | ⟨⟨h1, h5⟩, m, h2, h3, h4⟩⟩
  · have q1 : n = 97 := h1
    have q2 : d = .str s := h2
    subst q2 q1
    simp only [start_def, List.map_cons, List.map_nil, List.length_cons, List.length_nil, Nat.reduceAdd, Nat.reduceSub, List.replicate_succ, List.replicate_zero, List.cons_append, List.nil_append, Z1, Z2, z_bO0, z_bO1, z_for, z_lc, onV_v, onV_e, onS_v, onS_e, onB_v, onB_e, onBR_v, onBR_e, onA_v, onA_e, onVB_v, onVB_e, onVA_v, onVA_e, onAA_v, onAA_e, onAO_v, onAO_e, onBB_v, onBB_e, onO_n, onO_r, onO_b, onO_c, onO_e, onT_n, onT_c, onT_b, onT_r, onT_e, onR_n, onR_r, onR_e, okK_s, okK_n, wO_some, wR_some, wB_some, wA_some, z_lf, z_shr, w_c, w_var, z_op, z_un, z_tB1, z_truR, z_chain, z_andT, z_orT, z_notT, z_andV, z_orV, z_notV, z_if, w_nil, z_cons, z_lst, z_tup, w_dct0, z_call, z_bn, z_sm, z_sl, z_star, z_sh, z_set, z_asg, z_drop, z_ret, w_retV, w_retN, w_nx, z_seq, w_frz, z_ifS, z_app, z_put, z_items, z_it, g_add, g_sub, g_neg, g_mul, g_rep, g_fdiv, g_mod, g_pow, g_addS, g_addL, g_cmp0, g_eqI, g_eqS, g_eqB, g_lenL, g_lenT, g_lenR, g_lenS, g_int, g_intB, g_str, g_listL, g_listT, g_listM, g_tup, g_abs, g_max2, g_min2, gz_ixL, gz_ixT, gz_ixR, g_slL, gi_bool_non, gi_bool_bl, gi_bool_int, gi_bool_str, gi_bool_lst, gi_bool_tup, gi_bool_scr, gi_bool_dct, gi_int_non, gi_int_bl, gi_int_int, gi_int_str, gi_int_lst, gi_int_tup, gi_int_scr, gi_int_dct, gi_str_non, gi_str_bl, gi_str_int, gi_str_str, gi_str_lst, gi_str_tup, gi_str_scr, gi_str_dct, gi_list_non, gi_list_bl, gi_list_int, gi_list_str, gi_list_lst, gi_list_tup, gi_list_scr, gi_list_dct, gi_tuple_non, gi_tuple_bl, gi_tuple_int, gi_tuple_str, gi_tuple_lst, gi_tuple_tup, gi_tuple_scr, gi_tuple_dct, gi_dict_non, gi_dict_bl, gi_dict_int, gi_dict_str, gi_dict_lst, gi_dict_tup, gi_dict_scr, gi_dict_dct, tr_b, true_and, and_true, eq_self, exO_some, hTL_l, hTL_t, hName_e, hCons_c, hNil_n, bind_so, it_l, it_t, it_r, List.getElem?_cons_zero, List.getElem?_cons_succ, List.set_cons_zero, List.set_cons_succ, true_and, and_true, Nat.zero_le, snb, nnb, ex_some, dT, if_true, Bool.false_eq_true, if_false, wipeE, Int.reduceLT, List.length_nil, List.length_cons, Nat.reduceAdd, Nat.reduceLeDiff, Nat.reduceLT, g_inS, g_ixS, g_slS, g_join, frz_def, g_sort, g_rev, List.length_map, List.length_range, g_isS, one_a]
  · have q2 : d = .non := h2
    have q3 : s = Str.ofString ".." := h3
    subst q2 q3
    simp only [start_def, List.map_cons, List.map_nil, List.length_cons, List.length_nil, Nat.reduceAdd, Nat.reduceSub, List.replicate_succ, List.replicate_zero, List.cons_append, List.nil_append, Z1, Z2, z_bO0, z_bO1, z_for, z_lc, onV_v, onV_e, onS_v, onS_e, onB_v, onB_e, onBR_v, onBR_e, onA_v, onA_e, onVB_v, onVB_e, onVA_v, onVA_e, onAA_v, onAA_e, onAO_v, onAO_e, onBB_v, onBB_e, onO_n, onO_r, onO_b, onO_c, onO_e, onT_n, onT_c, onT_b, onT_r, onT_e, onR_n, onR_r, onR_e, okK_s, okK_n, wO_some, wR_some, wB_some, wA_some, z_lf, z_shr, w_c, w_var, z_op, z_un, z_tB1, z_truR, z_chain, z_andT, z_orT, z_notT, z_andV, z_orV, z_notV, z_if, w_nil, z_cons, z_lst, z_tup, w_dct0, z_call, z_bn, z_sm, z_sl, z_star, z_sh, z_set, z_asg, z_drop, z_ret, w_retV, w_retN, w_nx, z_seq, w_frz, z_ifS, z_app, z_put, z_items, z_it, g_add, g_sub, g_neg, g_mul, g_rep, g_fdiv, g_mod, g_pow, g_addS, g_addL, g_cmp0, g_eqI, g_eqS, g_eqB, g_lenL, g_lenT, g_lenR, g_lenS, g_int, g_intB, g_str, g_listL, g_listT, g_listM, g_tup, g_abs, g_max2, g_min2, gz_ixL, gz_ixT, gz_ixR, g_slL, gi_bool_non, gi_bool_bl, gi_bool_int, gi_bool_str, gi_bool_lst, gi_bool_tup, gi_bool_scr, gi_bool_dct, gi_int_non, gi_int_bl, gi_int_int, gi_int_str, gi_int_lst, gi_int_tup, gi_int_scr, gi_int_dct, gi_str_non, gi_str_bl, gi_str_int, gi_str_str, gi_str_lst, gi_str_tup, gi_str_scr, gi_str_dct, gi_list_non, gi_list_bl, gi_list_int, gi_list_str, gi_list_lst, gi_list_tup, gi_list_scr, gi_list_dct, gi_tuple_non, gi_tuple_bl, gi_tuple_int, gi_tuple_str, gi_tuple_lst, gi_tuple_tup, gi_tuple_scr, gi_tuple_dct, gi_dict_non, gi_dict_bl, gi_dict_int, gi_dict_str, gi_dict_lst, gi_dict_tup, gi_dict_scr, gi_dict_dct, tr_b, true_and, and_true, eq_self, exO_some, hTL_l, hTL_t, hName_e, hCons_c, hNil_n, bind_so, it_l, it_t, it_r, List.getElem?_cons_zero, List.getElem?_cons_succ, List.set_cons_zero, List.set_cons_succ, true_and, and_true, Nat.zero_le, snb, nnb, ex_some, dT, if_true, Bool.false_eq_true, if_false, wipeE, Int.reduceLT, List.length_nil, List.length_cons, Nat.reduceAdd, Nat.reduceLeDiff, Nat.reduceLT, g_inS, g_ixS, g_slS, g_join, frz_def, g_sort, g_rev, List.length_map, List.length_range, g_isN]
  · have q1 : n = 107 := h1
    have q3 : d = .int k := h3
    have q4 : s = Str.ofString (toString k) := h4
    subst q3 q4 q1
    simp only [start_def, List.map_cons, List.map_nil, List.length_cons, List.length_nil, Nat.reduceAdd, Nat.reduceSub, List.replicate_succ, List.replicate_zero, List.cons_append, List.nil_append, Z1, Z2, z_bO0, z_bO1, z_for, z_lc, onV_v, onV_e, onS_v, onS_e, onB_v, onB_e, onBR_v, onBR_e, onA_v, onA_e, onVB_v, onVB_e, onVA_v, onVA_e, onAA_v, onAA_e, onAO_v, onAO_e, onBB_v, onBB_e, onO_n, onO_r, onO_b, onO_c, onO_e, onT_n, onT_c, onT_b, onT_r, onT_e, onR_n, onR_r, onR_e, okK_s, okK_n, wO_some, wR_some, wB_some, wA_some, z_lf, z_shr, w_c, w_var, z_op, z_un, z_tB1, z_truR, z_chain, z_andT, z_orT, z_notT, z_andV, z_orV, z_notV, z_if, w_nil, z_cons, z_lst, z_tup, w_dct0, z_call, z_bn, z_sm, z_sl, z_star, z_sh, z_set, z_asg, z_drop, z_ret, w_retV, w_retN, w_nx, z_seq, w_frz, z_ifS, z_app, z_put, z_items, z_it, g_add, g_sub, g_neg, g_mul, g_rep, g_fdiv, g_mod, g_pow, g_addS, g_addL, g_cmp0, g_eqI, g_eqS, g_eqB, g_lenL, g_lenT, g_lenR, g_lenS, g_int, g_intB, g_str, g_listL, g_listT, g_listM, g_tup, g_abs, g_max2, g_min2, gz_ixL, gz_ixT, gz_ixR, g_slL, gi_bool_non, gi_bool_bl, gi_bool_int, gi_bool_str, gi_bool_lst, gi_bool_tup, gi_bool_scr, gi_bool_dct, gi_int_non, gi_int_bl, gi_int_int, gi_int_str, gi_int_lst, gi_int_tup, gi_int_scr, gi_int_dct, gi_str_non, gi_str_bl, gi_str_int, gi_str_str, gi_str_lst, gi_str_tup, gi_str_scr, gi_str_dct, gi_list_non, gi_list_bl, gi_list_int, gi_list_str, gi_list_lst, gi_list_tup, gi_list_scr, gi_list_dct, gi_tuple_non, gi_tuple_bl, gi_tuple_int, gi_tuple_str, gi_tuple_lst, gi_tuple_tup, gi_tuple_scr, gi_tuple_dct, gi_dict_non, gi_dict_bl, gi_dict_int, gi_dict_str, gi_dict_lst, gi_dict_tup, gi_dict_scr, gi_dict_dct, tr_b, true_and, and_true, eq_self, exO_some, hTL_l, hTL_t, hName_e, hCons_c, hNil_n, bind_so, it_l, it_t, it_r, List.getElem?_cons_zero, List.getElem?_cons_succ, List.set_cons_zero, List.set_cons_succ, true_and, and_true, Nat.zero_le, snb, nnb, ex_some, dT, if_true, Bool.false_eq_true, if_false, wipeE, Int.reduceLT, List.length_nil, List.length_cons, Nat.reduceAdd, Nat.reduceLeDiff, Nat.reduceLT, g_inS, g_ixS, g_slS, g_join, frz_def, g_sort, g_rev, List.length_map, List.length_range, g_isI, one_a, one_k, show ((107 : Nat) = 97) = False from eq_false (by decide), show (k.natAbs.log2 < 1920) = True from eq_true h2.log]
  · have q1 : (n = 97) = False := eq_false h1
    have q5 : (n = 107) = False := eq_false h5
    have q3 : d = m.D := h3
    have q4 : s = tmT m := h4
    subst q3 q4
    simp only [start_def, List.map_cons, List.map_nil, List.length_cons, List.length_nil, Nat.reduceAdd, Nat.reduceSub, List.replicate_succ, List.replicate_zero, List.cons_append, List.nil_append, Z1, Z2, z_bO0, z_bO1, z_for, z_lc, onV_v, onV_e, onS_v, onS_e, onB_v, onB_e, onBR_v, onBR_e, onA_v, onA_e, onVB_v, onVB_e, onVA_v, onVA_e, onAA_v, onAA_e, onAO_v, onAO_e, onBB_v, onBB_e, onO_n, onO_r, onO_b, onO_c, onO_e, onT_n, onT_c, onT_b, onT_r, onT_e, onR_n, onR_r, onR_e, okK_s, okK_n, wO_some, wR_some, wB_some, wA_some, z_lf, z_shr, w_c, w_var, z_op, z_un, z_tB1, z_truR, z_chain, z_andT, z_orT, z_notT, z_andV, z_orV, z_notV, z_if, w_nil, z_cons, z_lst, z_tup, w_dct0, z_call, z_bn, z_sm, z_sl, z_star, z_sh, z_set, z_asg, z_drop, z_ret, w_retV, w_retN, w_nx, z_seq, w_frz, z_ifS, z_app, z_put, z_items, z_it, g_add, g_sub, g_neg, g_mul, g_rep, g_fdiv, g_mod, g_pow, g_addS, g_addL, g_cmp0, g_eqI, g_eqS, g_eqB, g_lenL, g_lenT, g_lenR, g_lenS, g_int, g_intB, g_str, g_listL, g_listT, g_listM, g_tup, g_abs, g_max2, g_min2, gz_ixL, gz_ixT, gz_ixR, g_slL, gi_bool_non, gi_bool_bl, gi_bool_int, gi_bool_str, gi_bool_lst, gi_bool_tup, gi_bool_scr, gi_bool_dct, gi_int_non, gi_int_bl, gi_int_int, gi_int_str, gi_int_lst, gi_int_tup, gi_int_scr, gi_int_dct, gi_str_non, gi_str_bl, gi_str_int, gi_str_str, gi_str_lst, gi_str_tup, gi_str_scr, gi_str_dct, gi_list_non, gi_list_bl, gi_list_int, gi_list_str, gi_list_lst, gi_list_tup, gi_list_scr, gi_list_dct, gi_tuple_non, gi_tuple_bl, gi_tuple_int, gi_tuple_str, gi_tuple_lst, gi_tuple_tup, gi_tuple_scr, gi_tuple_dct, gi_dict_non, gi_dict_bl, gi_dict_int, gi_dict_str, gi_dict_lst, gi_dict_tup, gi_dict_scr, gi_dict_dct, tr_b, true_and, and_true, eq_self, exO_some, hTL_l, hTL_t, hName_e, hCons_c, hNil_n, bind_so, it_l, it_t, it_r, List.getElem?_cons_zero, List.getElem?_cons_succ, List.set_cons_zero, List.set_cons_succ, true_and, and_true, Nat.zero_le, snb, nnb, ex_some, dT, if_true, Bool.false_eq_true, if_false, wipeE, Int.reduceLT, List.length_nil, List.length_cons, Nat.reduceAdd, Nat.reduceLeDiff, Nat.reduceLT, g_inS, g_ixS, g_slS, g_join, frz_def, g_sort, g_rev, List.length_map, List.length_range, g_isTm, one_a, one_k, q1, q5]
    refine (show_tm m h2).mono ?_
    rintro r rfl
    simp only [Z1, Z2, z_bO0, z_bO1, z_for, z_lc, onV_v, onV_e, onS_v, onS_e, onB_v, onB_e, onBR_v, onBR_e, onA_v, onA_e, onVB_v, onVB_e, onVA_v, onVA_e, onAA_v, onAA_e, onAO_v, onAO_e, onBB_v, onBB_e, onO_n, onO_r, onO_b, onO_c, onO_e, onT_n, onT_c, onT_b, onT_r, onT_e, onR_n, onR_r, onR_e, okK_s, okK_n, wO_some, wR_some, wB_some, wA_some, z_lf, z_shr, w_c, w_var, z_op, z_un, z_tB1, z_truR, z_chain, z_andT, z_orT, z_notT, z_andV, z_orV, z_notV, z_if, w_nil, z_cons, z_lst, z_tup, w_dct0, z_call, z_bn, z_sm, z_sl, z_star, z_sh, z_set, z_asg, z_drop, z_ret, w_retV, w_retN, w_nx, z_seq, w_frz, z_ifS, z_app, z_put, z_items, z_it, g_add, g_sub, g_neg, g_mul, g_rep, g_fdiv, g_mod, g_pow, g_addS, g_addL, g_cmp0, g_eqI, g_eqS, g_eqB, g_lenL, g_lenT, g_lenR, g_lenS, g_int, g_intB, g_str, g_listL, g_listT, g_listM, g_tup, g_abs, g_max2, g_min2, gz_ixL, gz_ixT, gz_ixR, g_slL, gi_bool_non, gi_bool_bl, gi_bool_int, gi_bool_str, gi_bool_lst, gi_bool_tup, gi_bool_scr, gi_bool_dct, gi_int_non, gi_int_bl, gi_int_int, gi_int_str, gi_int_lst, gi_int_tup, gi_int_scr, gi_int_dct, gi_str_non, gi_str_bl, gi_str_int, gi_str_str, gi_str_lst, gi_str_tup, gi_str_scr, gi_str_dct, gi_list_non, gi_list_bl, gi_list_int, gi_list_str, gi_list_lst, gi_list_tup, gi_list_scr, gi_list_dct, gi_tuple_non, gi_tuple_bl, gi_tuple_int, gi_tuple_str, gi_tuple_lst, gi_tuple_tup, gi_tuple_scr, gi_tuple_dct, gi_dict_non, gi_dict_bl, gi_dict_int, gi_dict_str, gi_dict_lst, gi_dict_tup, gi_dict_scr, gi_dict_dct, tr_b, true_and, and_true, eq_self, exO_some, hTL_l, hTL_t, hName_e, hCons_c, hNil_n, bind_so, it_l, it_t, it_r, List.getElem?_cons_zero, List.getElem?_cons_succ, List.set_cons_zero, List.set_cons_succ, true_and, and_true, Nat.zero_le, snb, nnb, ex_some, dT, if_true, Bool.false_eq_true, if_false, wipeE, Int.reduceLT, List.length_nil, List.length_cons, Nat.reduceAdd, Nat.reduceLeDiff, Nat.reduceLT, g_inS, g_ixS, g_slS, g_join, frz_def, g_sort, g_rev, List.length_map, List.length_range]
/-- the joined text -/
def syT (y : Sy) : Str := Str.join (Str.ofString " ") (nmT y :: (trip y).map (·.2.2))
theorem look_fm (y : Sy) : t_FORMS.lookup (nmT y) = some (fmT y) := by
  cases y
  · show t_FORMS.lookup (Str.ofString "place") = some (Str.ofString "pp"); decide +kernel
  · show t_FORMS.lookup (Str.ofString "value") = some (Str.ofString "vv"); decide +kernel
  · show t_FORMS.lookup (Str.ofString "rising") = some (Str.ofString "aee"); decide +kernel
  · show t_FORMS.lookup (Str.ofString "low") = some (Str.ofString "aeev"); decide +kernel
  · show t_FORMS.lookup (Str.ofString "high") = some (Str.ofString "aeev"); decide +kernel
  · show t_FORMS.lookup (Str.ofString "below") = some (Str.ofString "aeeaeek"); decide +kernel
  · show t_FORMS.lookup (Str.ofString "same") = some (Str.ofString "aaeek"); decide +kernel
theorem zip_fm (y : Sy) : zipD [.str (fmT y), .tup ((trip y).map (·.2.1))] = some ((trip y).map fun t => .tup [.str ⟨#[t.1]⟩, t.2.1]) := by
  have c (z : Str) (xs ds : List D) (h : z.cps.toList.map (fun c => D.str ⟨#[c]⟩) = xs) : zipD [.str z, .tup ds] = some (zipW xs ds) := by subst h; rfl
  cases y
  · exact (c _ [.str ⟨#[112]⟩, .str ⟨#[112]⟩] _ (congrArg (List.map fun c => D.str ⟨#[c]⟩) (by decide +kernel : (Str.ofString "pp").cps.toList = [112, 112]))).trans rfl
  · exact (c _ [.str ⟨#[118]⟩, .str ⟨#[118]⟩] _ (congrArg (List.map fun c => D.str ⟨#[c]⟩) (by decide +kernel : (Str.ofString "vv").cps.toList = [118, 118]))).trans rfl
  · exact (c _ [.str ⟨#[97]⟩, .str ⟨#[101]⟩, .str ⟨#[101]⟩] _ (congrArg (List.map fun c => D.str ⟨#[c]⟩) (by decide +kernel : (Str.ofString "aee").cps.toList = [97, 101, 101]))).trans rfl
  · exact (c _ [.str ⟨#[97]⟩, .str ⟨#[101]⟩, .str ⟨#[101]⟩, .str ⟨#[118]⟩] _ (congrArg (List.map fun c => D.str ⟨#[c]⟩) (by decide +kernel : (Str.ofString "aeev").cps.toList = [97, 101, 101, 118]))).trans rfl
  · exact (c _ [.str ⟨#[97]⟩, .str ⟨#[101]⟩, .str ⟨#[101]⟩, .str ⟨#[118]⟩] _ (congrArg (List.map fun c => D.str ⟨#[c]⟩) (by decide +kernel : (Str.ofString "aeev").cps.toList = [97, 101, 101, 118]))).trans rfl
  · exact (c _ [.str ⟨#[97]⟩, .str ⟨#[101]⟩, .str ⟨#[101]⟩, .str ⟨#[97]⟩, .str ⟨#[101]⟩, .str ⟨#[101]⟩, .str ⟨#[107]⟩] _ (congrArg (List.map fun c => D.str ⟨#[c]⟩) (by decide +kernel : (Str.ofString "aeeaeek").cps.toList = [97, 101, 101, 97, 101, 101, 107]))).trans rfl
  · exact (c _ [.str ⟨#[97]⟩, .str ⟨#[97]⟩, .str ⟨#[101]⟩, .str ⟨#[101]⟩, .str ⟨#[107]⟩] _ (congrArg (List.map fun c => D.str ⟨#[c]⟩) (by decide +kernel : (Str.ofString "aaeek").cps.toList = [97, 97, 101, 101, 107]))).trans rfl
theorem nm_len (y : Sy) : (nmT y).length ≤ 6 := by
  cases y
  · show (Str.ofString "place").length ≤ 6; decide +kernel
  · show (Str.ofString "value").length ≤ 6; decide +kernel
  · show (Str.ofString "rising").length ≤ 6; decide +kernel
  · show (Str.ofString "low").length ≤ 6; decide +kernel
  · show (Str.ofString "high").length ≤ 6; decide +kernel
  · show (Str.ofString "below").length ≤ 6; decide +kernel
  · show (Str.ofString "same").length ≤ 6; decide +kernel
theorem trip_len (y : Sy) : 1 ≤ (trip y).length ∧ (trip y).length ≤ 7 := by cases y <;> simp [trip]
theorem g_slT1 {x : D} {ds : List D} : wG (slD (.tup (x :: ds)) (some 1) none) QG = QG .sh (.tup ds) := by
  have c : ¬ (HT.sIx (x :: ds).length 0 (some 1) = 0 ∧ HT.sIx (x :: ds).length (x :: ds).length none = (x :: ds).length) := fun h => by
    have e : HT.sIx (x :: ds).length 0 (some 1) = min 1 (x :: ds).length := HT.sIx_nat _ _ 1
    rw [e, List.length_cons] at h
    omega
  have e : slD (.tup (x :: ds)) (some 1) none = some (.sh, .tup ds) := by
    show (if HT.sIx (x :: ds).length 0 (some 1) = 0 ∧ HT.sIx (x :: ds).length (x :: ds).length none = (x :: ds).length then none else some (Kd.sh, D.tup (cutD (x :: ds) (some 1) none))) = _
    rw [if_neg c, cut_drop (n := 1) (by simp)]
    rfl
  rw [e, wG_some]
theorem g_tab {z v : Str} (h : t_FORMS.lookup z = some v) : wG (tabD t_FORMS (.str z)) QG = QG .sh (.str v) := by
  have e : tabD t_FORMS (.str z) = some (.sh, .str v) := by
    show (t_FORMS.lookup z).map (fun v => (Kd.sh, D.str v)) = _
    rw [h]
    rfl
  rw [e, wG_some]
theorem sum_le : ∀ (xs : List Str), (∀ x ∈ xs, x.length ≤ 101) → (xs.map (·.length)).sum ≤ 101 * xs.length
  | [], _ => Nat.le_refl _
  | x :: r, h => by
    have := sum_le r fun y hy => h y (List.mem_cons_of_mem _ hy)
    have := h x List.mem_cons_self
    simp only [List.map_cons, List.sum_cons, List.length_cons]
    omega
theorem show_saying_spec (y : Sy) (h : y.Ok V6 BB) : wR (F_show_saying [y.D]) fun r => r = .val .sh (.str (syT y)) := by
  have hp := parts_ok y h
  have hl := trip_len y
  have hn := nm_len y
  rw [F_show_saying, w_run, b_show_saying, D_eq]
  simp only [start_def, List.map_cons, List.map_nil, List.length_cons, List.length_nil, Nat.reduceAdd, Nat.reduceSub, List.replicate_succ, List.replicate_zero, List.cons_append, List.nil_append, Z1, Z2, z_bO0, z_bO1, z_for, z_lc, onV_v, onV_e, onS_v, onS_e, onB_v, onB_e, onBR_v, onBR_e, onA_v, onA_e, onVB_v, onVB_e, onVA_v, onVA_e, onAA_v, onAA_e, onAO_v, onAO_e, onBB_v, onBB_e, onO_n, onO_r, onO_b, onO_c, onO_e, onT_n, onT_c, onT_b, onT_r, onT_e, onR_n, onR_r, onR_e, okK_s, okK_n, wO_some, wR_some, wB_some, wA_some, z_lf, z_shr, w_c, w_var, z_op, z_un, z_tB1, z_truR, z_chain, z_andT, z_orT, z_notT, z_andV, z_orV, z_notV, z_if, w_nil, z_cons, z_lst, z_tup, w_dct0, z_call, z_bn, z_sm, z_sl, z_star, z_sh, z_set, z_asg, z_drop, z_ret, w_retV, w_retN, w_nx, z_seq, w_frz, z_ifS, z_app, z_put, z_items, z_it, g_add, g_sub, g_neg, g_mul, g_rep, g_fdiv, g_mod, g_pow, g_addS, g_addL, g_cmp0, g_eqI, g_eqS, g_eqB, g_lenL, g_lenT, g_lenR, g_lenS, g_int, g_intB, g_str, g_listL, g_listT, g_listM, g_tup, g_abs, g_max2, g_min2, gz_ixL, gz_ixT, gz_ixR, g_slL, gi_bool_non, gi_bool_bl, gi_bool_int, gi_bool_str, gi_bool_lst, gi_bool_tup, gi_bool_scr, gi_bool_dct, gi_int_non, gi_int_bl, gi_int_int, gi_int_str, gi_int_lst, gi_int_tup, gi_int_scr, gi_int_dct, gi_str_non, gi_str_bl, gi_str_int, gi_str_str, gi_str_lst, gi_str_tup, gi_str_scr, gi_str_dct, gi_list_non, gi_list_bl, gi_list_int, gi_list_str, gi_list_lst, gi_list_tup, gi_list_scr, gi_list_dct, gi_tuple_non, gi_tuple_bl, gi_tuple_int, gi_tuple_str, gi_tuple_lst, gi_tuple_tup, gi_tuple_scr, gi_tuple_dct, gi_dict_non, gi_dict_bl, gi_dict_int, gi_dict_str, gi_dict_lst, gi_dict_tup, gi_dict_scr, gi_dict_dct, tr_b, true_and, and_true, eq_self, exO_some, hTL_l, hTL_t, hName_e, hCons_c, hNil_n, bind_so, it_l, it_t, it_r, List.getElem?_cons_zero, List.getElem?_cons_succ, List.set_cons_zero, List.set_cons_succ, true_and, and_true, Nat.zero_le, snb, nnb, ex_some, dT, if_true, Bool.false_eq_true, if_false, wipeE, Int.reduceLT, List.length_nil, List.length_cons, Nat.reduceAdd, Nat.reduceLeDiff, Nat.reduceLT, g_inS, g_ixS, g_slS, g_join, frz_def, g_sort, g_rev, List.length_map, List.length_range, atI_0, atI_1, atI_2, atI_3, atI_4, atI_5, atI_6, atI_7, atI_8, atI_9, atI_10, atI_11, atI_12, atI_13, atI_14, atI_15, atI_16, atI_17, atI_18, atI_19, atI_20, atI_21, atI_22, atI_23, atI_24, atI_25, atI_26, atI_27, atI_28, atI_29, atI_30, g_tab (look_fm y), g_slT1, zip_fm y, List.length_map, show ((trip y).length ≤ 16777216) = True from eq_true (by omega)]
  rw [lc_mapG (c := fun t : Nat × D × Str => D.tup [.str ⟨#[t.1]⟩, t.2.1]) (g := fun t => D.str t.2.2) (trip y) fun t ht => ⟨_, rfl, by
    simp only [Z1, Z2, z_bO0, z_bO1, z_for, z_lc, onV_v, onV_e, onS_v, onS_e, onB_v, onB_e, onBR_v, onBR_e, onA_v, onA_e, onVB_v, onVB_e, onVA_v, onVA_e, onAA_v, onAA_e, onAO_v, onAO_e, onBB_v, onBB_e, onO_n, onO_r, onO_b, onO_c, onO_e, onT_n, onT_c, onT_b, onT_r, onT_e, onR_n, onR_r, onR_e, okK_s, okK_n, wO_some, wR_some, wB_some, wA_some, z_lf, z_shr, w_c, w_var, z_op, z_un, z_tB1, z_truR, z_chain, z_andT, z_orT, z_notT, z_andV, z_orV, z_notV, z_if, w_nil, z_cons, z_lst, z_tup, w_dct0, z_call, z_bn, z_sm, z_sl, z_star, z_sh, z_set, z_asg, z_drop, z_ret, w_retV, w_retN, w_nx, z_seq, w_frz, z_ifS, z_app, z_put, z_items, z_it, g_add, g_sub, g_neg, g_mul, g_rep, g_fdiv, g_mod, g_pow, g_addS, g_addL, g_cmp0, g_eqI, g_eqS, g_eqB, g_lenL, g_lenT, g_lenR, g_lenS, g_int, g_intB, g_str, g_listL, g_listT, g_listM, g_tup, g_abs, g_max2, g_min2, gz_ixL, gz_ixT, gz_ixR, g_slL, gi_bool_non, gi_bool_bl, gi_bool_int, gi_bool_str, gi_bool_lst, gi_bool_tup, gi_bool_scr, gi_bool_dct, gi_int_non, gi_int_bl, gi_int_int, gi_int_str, gi_int_lst, gi_int_tup, gi_int_scr, gi_int_dct, gi_str_non, gi_str_bl, gi_str_int, gi_str_str, gi_str_lst, gi_str_tup, gi_str_scr, gi_str_dct, gi_list_non, gi_list_bl, gi_list_int, gi_list_str, gi_list_lst, gi_list_tup, gi_list_scr, gi_list_dct, gi_tuple_non, gi_tuple_bl, gi_tuple_int, gi_tuple_str, gi_tuple_lst, gi_tuple_tup, gi_tuple_scr, gi_tuple_dct, gi_dict_non, gi_dict_bl, gi_dict_int, gi_dict_str, gi_dict_lst, gi_dict_tup, gi_dict_scr, gi_dict_dct, tr_b, true_and, and_true, eq_self, exO_some, hTL_l, hTL_t, hName_e, hCons_c, hNil_n, bind_so, it_l, it_t, it_r, List.getElem?_cons_zero, List.getElem?_cons_succ, List.set_cons_zero, List.set_cons_succ, true_and, and_true, Nat.zero_le, snb, nnb, ex_some, dT, if_true, Bool.false_eq_true, if_false, wipeE, Int.reduceLT, List.length_nil, List.length_cons, Nat.reduceAdd, Nat.reduceLeDiff, Nat.reduceLT, g_inS, g_ixS, g_slS, g_join, frz_def, g_sort, g_rev, List.length_map, List.length_range]
    exact (show_part_spec t (hp t ht)).mono fun r e => by subst e; exact ⟨_, rfl, by simp⟩⟩]
  have e1 : D.str (nmT y) :: ((trip y).map (fun t => D.str t.2.2) ++ []) = (nmT y :: (trip y).map (·.2.2)).map D.str := by rw [List.append_nil, List.map_cons, List.map_map]; rfl
  simp only [Z1, Z2, z_bO0, z_bO1, z_for, z_lc, onV_v, onV_e, onS_v, onS_e, onB_v, onB_e, onBR_v, onBR_e, onA_v, onA_e, onVB_v, onVB_e, onVA_v, onVA_e, onAA_v, onAA_e, onAO_v, onAO_e, onBB_v, onBB_e, onO_n, onO_r, onO_b, onO_c, onO_e, onT_n, onT_c, onT_b, onT_r, onT_e, onR_n, onR_r, onR_e, okK_s, okK_n, wO_some, wR_some, wB_some, wA_some, z_lf, z_shr, w_c, w_var, z_op, z_un, z_tB1, z_truR, z_chain, z_andT, z_orT, z_notT, z_andV, z_orV, z_notV, z_if, w_nil, z_cons, z_lst, z_tup, w_dct0, z_call, z_bn, z_sm, z_sl, z_star, z_sh, z_set, z_asg, z_drop, z_ret, w_retV, w_retN, w_nx, z_seq, w_frz, z_ifS, z_app, z_put, z_items, z_it, g_add, g_sub, g_neg, g_mul, g_rep, g_fdiv, g_mod, g_pow, g_addS, g_addL, g_cmp0, g_eqI, g_eqS, g_eqB, g_lenL, g_lenT, g_lenR, g_lenS, g_int, g_intB, g_str, g_listL, g_listT, g_listM, g_tup, g_abs, g_max2, g_min2, gz_ixL, gz_ixT, gz_ixR, g_slL, gi_bool_non, gi_bool_bl, gi_bool_int, gi_bool_str, gi_bool_lst, gi_bool_tup, gi_bool_scr, gi_bool_dct, gi_int_non, gi_int_bl, gi_int_int, gi_int_str, gi_int_lst, gi_int_tup, gi_int_scr, gi_int_dct, gi_str_non, gi_str_bl, gi_str_int, gi_str_str, gi_str_lst, gi_str_tup, gi_str_scr, gi_str_dct, gi_list_non, gi_list_bl, gi_list_int, gi_list_str, gi_list_lst, gi_list_tup, gi_list_scr, gi_list_dct, gi_tuple_non, gi_tuple_bl, gi_tuple_int, gi_tuple_str, gi_tuple_lst, gi_tuple_tup, gi_tuple_scr, gi_tuple_dct, gi_dict_non, gi_dict_bl, gi_dict_int, gi_dict_str, gi_dict_lst, gi_dict_tup, gi_dict_scr, gi_dict_dct, tr_b, true_and, and_true, eq_self, exO_some, hTL_l, hTL_t, hName_e, hCons_c, hNil_n, bind_so, it_l, it_t, it_r, List.getElem?_cons_zero, List.getElem?_cons_succ, List.set_cons_zero, List.set_cons_succ, true_and, and_true, Nat.zero_le, snb, nnb, ex_some, dT, if_true, Bool.false_eq_true, if_false, wipeE, Int.reduceLT, List.length_nil, List.length_cons, Nat.reduceAdd, Nat.reduceLeDiff, Nat.reduceLT, g_inS, g_ixS, g_slS, g_join, frz_def, g_sort, g_rev, List.length_map, List.length_range, atI_0, atI_1, atI_2, atI_3, atI_4, atI_5, atI_6, atI_7, atI_8, atI_9, atI_10, atI_11, atI_12, atI_13, atI_14, atI_15, atI_16, atI_17, atI_18, atI_19, atI_20, atI_21, atI_22, atI_23, atI_24, atI_25, atI_26, atI_27, atI_28, atI_29, atI_30, e1, g_join, l_sp, List.length_map, List.map_map]
  have e2 : ((trip y).map (·.2.2)).length = (trip y).length := List.length_map _
  have e3 := sum_le ((trip y).map (·.2.2)) fun x hx => by
    obtain ⟨t, ht, rfl⟩ := List.mem_map.mp hx
    exact (hp t ht).1
  rw [e2] at e3
  refine ⟨by rw [List.append_nil, List.length_map]; omega, ?_, rfl⟩
  rw [List.map_cons, List.sum_cons]
  omega
/-- .. and glued bit by bit -/
def bodyT : En → Option Out := (fSeq (fSh 1 (fOp addD (fVar 1) (fC (.str " ")))) (fIfS (fun en => tB1 ((fOp isND (fVar 2) (fC .non)) en)) (fSh 1 (fOp addD (fVar 1) (fC (.str "..")))) (fIfS (fun en => truR ((fUn (isiD "str") (fVar 2)) en)) (fSh 1 (fOp addD (fVar 1) (fVar 2))) (fIfS (fun en => truR ((fUn (isiD "int") (fVar 2)) en)) (fSh 1 (fOp addD (fVar 1) (fUn strD (fVar 2)))) (fSh 1 (fOp addD (fVar 1) (fCall F_Lterm_text 1 (fCons (fVar 2) (fNil)))))))))
def glue (a : Str) (t : Nat × D × Str) : Str := a ++ Str.ofString " " ++ t.2.2
theorem text_loop (d0 : Option Sl) (QO : Out → Prop) : ∀ (ts : List (Nat × D × Str)) (a : Str) (o2 : Option Sl), (∀ t ∈ ts, PartOk t) → a.length + 102 * ts.length ≤ 1000000 → (∀ o2, QO (.nx [d0, some (.sh (.str (ts.foldl glue a))), o2])) →
    wO (forD (hName 2) bodyT (ts.map (·.2.1)) [d0, some (.sh (.str a)), o2]) QO
  | [], a, o2, _, _, q => by
    rw [List.map_nil, z_forN]
    exact q o2
  | (n, d, s) :: r, a, o2, h, hl, q => by
    have ht := h (n, d, s) List.mem_cons_self
    have hs : s.length ≤ 101 := ht.1
    rw [List.length_cons] at hl
    have ih := fun o2 => text_loop d0 QO r (a ++ Str.ofString " " ++ s) o2 (fun t ht => h t (List.mem_cons_of_mem _ ht)) (by rw [sl_app, sl_app, l_sp]; omega) q
    have l1 : (a.length + 1 ≤ 16777216) = True := eq_true (by omega)
    have l2 : (a.length + 1 + s.length ≤ 16777216) = True := eq_true (by omega)
    rw [List.map_cons, z_forD]
    simp only [Z1, Z2, z_bO0, z_bO1, z_for, z_lc, onV_v, onV_e, onS_v, onS_e, onB_v, onB_e, onBR_v, onBR_e, onA_v, onA_e, onVB_v, onVB_e, onVA_v, onVA_e, onAA_v, onAA_e, onAO_v, onAO_e, onBB_v, onBB_e, onO_n, onO_r, onO_b, onO_c, onO_e, onT_n, onT_c, onT_b, onT_r, onT_e, onR_n, onR_r, onR_e, okK_s, okK_n, wO_some, wR_some, wB_some, wA_some, z_lf, z_shr, w_c, w_var, z_op, z_un, z_tB1, z_truR, z_chain, z_andT, z_orT, z_notT, z_andV, z_orV, z_notV, z_if, w_nil, z_cons, z_lst, z_tup, w_dct0, z_call, z_bn, z_sm, z_sl, z_star, z_sh, z_set, z_asg, z_drop, z_ret, w_retV, w_retN, w_nx, z_seq, w_frz, z_ifS, z_app, z_put, z_items, z_it, g_add, g_sub, g_neg, g_mul, g_rep, g_fdiv, g_mod, g_pow, g_addS, g_addL, g_cmp0, g_eqI, g_eqS, g_eqB, g_lenL, g_lenT, g_lenR, g_lenS, g_int, g_intB, g_str, g_listL, g_listT, g_listM, g_tup, g_abs, g_max2, g_min2, gz_ixL, gz_ixT, gz_ixR, g_slL, gi_bool_non, gi_bool_bl, gi_bool_int, gi_bool_str, gi_bool_lst, gi_bool_tup, gi_bool_scr, gi_bool_dct, gi_int_non, gi_int_bl, gi_int_int, gi_int_str, gi_int_lst, gi_int_tup, gi_int_scr, gi_int_dct, gi_str_non, gi_str_bl, gi_str_int, gi_str_str, gi_str_lst, gi_str_tup, gi_str_scr, gi_str_dct, gi_list_non, gi_list_bl, gi_list_int, gi_list_str, gi_list_lst, gi_list_tup, gi_list_scr, gi_list_dct, gi_tuple_non, gi_tuple_bl, gi_tuple_int, gi_tuple_str, gi_tuple_lst, gi_tuple_tup, gi_tuple_scr, gi_tuple_dct, gi_dict_non, gi_dict_bl, gi_dict_int, gi_dict_str, gi_dict_lst, gi_dict_tup, gi_dict_scr, gi_dict_dct, tr_b, true_and, and_true, eq_self, exO_some, hTL_l, hTL_t, hName_e, hCons_c, hNil_n, bind_so, it_l, it_t, it_r, List.getElem?_cons_zero, List.getElem?_cons_succ, List.set_cons_zero, List.set_cons_succ, true_and, and_true, Nat.zero_le, snb, nnb, ex_some, dT, if_true, Bool.false_eq_true, if_false, wipeE, Int.reduceLT, List.length_nil, List.length_cons, Nat.reduceAdd, Nat.reduceLeDiff, Nat.reduceLT, g_inS, g_ixS, g_slS, g_join, frz_def, g_sort, g_rev, List.length_map, List.length_range]
    rw [bodyT]
    rcases ht with ⟨_, ⟨h1, h2⟩ | ⟨h1, h2, h3⟩ | ⟨h1, k, h2, h3, h4⟩ | ⟨⟨h1, h5⟩, m, h2, h3, h4⟩⟩
    · have q2 : d = .str s := h2
      subst q2
      simp only [Z1, Z2, z_bO0, z_bO1, z_for, z_lc, onV_v, onV_e, onS_v, onS_e, onB_v, onB_e, onBR_v, onBR_e, onA_v, onA_e, onVB_v, onVB_e, onVA_v, onVA_e, onAA_v, onAA_e, onAO_v, onAO_e, onBB_v, onBB_e, onO_n, onO_r, onO_b, onO_c, onO_e, onT_n, onT_c, onT_b, onT_r, onT_e, onR_n, onR_r, onR_e, okK_s, okK_n, wO_some, wR_some, wB_some, wA_some, z_lf, z_shr, w_c, w_var, z_op, z_un, z_tB1, z_truR, z_chain, z_andT, z_orT, z_notT, z_andV, z_orV, z_notV, z_if, w_nil, z_cons, z_lst, z_tup, w_dct0, z_call, z_bn, z_sm, z_sl, z_star, z_sh, z_set, z_asg, z_drop, z_ret, w_retV, w_retN, w_nx, z_seq, w_frz, z_ifS, z_app, z_put, z_items, z_it, g_add, g_sub, g_neg, g_mul, g_rep, g_fdiv, g_mod, g_pow, g_addS, g_addL, g_cmp0, g_eqI, g_eqS, g_eqB, g_lenL, g_lenT, g_lenR, g_lenS, g_int, g_intB, g_str, g_listL, g_listT, g_listM, g_tup, g_abs, g_max2, g_min2, gz_ixL, gz_ixT, gz_ixR, g_slL, gi_bool_non, gi_bool_bl, gi_bool_int, gi_bool_str, gi_bool_lst, gi_bool_tup, gi_bool_scr, gi_bool_dct, gi_int_non, gi_int_bl, gi_int_int, gi_int_str, gi_int_lst, gi_int_tup, gi_int_scr, gi_int_dct, gi_str_non, gi_str_bl, gi_str_int, gi_str_str, gi_str_lst, gi_str_tup, gi_str_scr, gi_str_dct, gi_list_non, gi_list_bl, gi_list_int, gi_list_str, gi_list_lst, gi_list_tup, gi_list_scr, gi_list_dct, gi_tuple_non, gi_tuple_bl, gi_tuple_int, gi_tuple_str, gi_tuple_lst, gi_tuple_tup, gi_tuple_scr, gi_tuple_dct, gi_dict_non, gi_dict_bl, gi_dict_int, gi_dict_str, gi_dict_lst, gi_dict_tup, gi_dict_scr, gi_dict_dct, tr_b, true_and, and_true, eq_self, exO_some, hTL_l, hTL_t, hName_e, hCons_c, hNil_n, bind_so, it_l, it_t, it_r, List.getElem?_cons_zero, List.getElem?_cons_succ, List.set_cons_zero, List.set_cons_succ, true_and, and_true, Nat.zero_le, snb, nnb, ex_some, dT, if_true, Bool.false_eq_true, if_false, wipeE, Int.reduceLT, List.length_nil, List.length_cons, Nat.reduceAdd, Nat.reduceLeDiff, Nat.reduceLT, g_inS, g_ixS, g_slS, g_join, frz_def, g_sort, g_rev, List.length_map, List.length_range, l1, l2, l_sp, sl_app, g_isS]
      exact ih _
    · have q2 : d = .non := h2
      have q3 : s = Str.ofString ".." := h3
      subst q2 q3
      simp only [Z1, Z2, z_bO0, z_bO1, z_for, z_lc, onV_v, onV_e, onS_v, onS_e, onB_v, onB_e, onBR_v, onBR_e, onA_v, onA_e, onVB_v, onVB_e, onVA_v, onVA_e, onAA_v, onAA_e, onAO_v, onAO_e, onBB_v, onBB_e, onO_n, onO_r, onO_b, onO_c, onO_e, onT_n, onT_c, onT_b, onT_r, onT_e, onR_n, onR_r, onR_e, okK_s, okK_n, wO_some, wR_some, wB_some, wA_some, z_lf, z_shr, w_c, w_var, z_op, z_un, z_tB1, z_truR, z_chain, z_andT, z_orT, z_notT, z_andV, z_orV, z_notV, z_if, w_nil, z_cons, z_lst, z_tup, w_dct0, z_call, z_bn, z_sm, z_sl, z_star, z_sh, z_set, z_asg, z_drop, z_ret, w_retV, w_retN, w_nx, z_seq, w_frz, z_ifS, z_app, z_put, z_items, z_it, g_add, g_sub, g_neg, g_mul, g_rep, g_fdiv, g_mod, g_pow, g_addS, g_addL, g_cmp0, g_eqI, g_eqS, g_eqB, g_lenL, g_lenT, g_lenR, g_lenS, g_int, g_intB, g_str, g_listL, g_listT, g_listM, g_tup, g_abs, g_max2, g_min2, gz_ixL, gz_ixT, gz_ixR, g_slL, gi_bool_non, gi_bool_bl, gi_bool_int, gi_bool_str, gi_bool_lst, gi_bool_tup, gi_bool_scr, gi_bool_dct, gi_int_non, gi_int_bl, gi_int_int, gi_int_str, gi_int_lst, gi_int_tup, gi_int_scr, gi_int_dct, gi_str_non, gi_str_bl, gi_str_int, gi_str_str, gi_str_lst, gi_str_tup, gi_str_scr, gi_str_dct, gi_list_non, gi_list_bl, gi_list_int, gi_list_str, gi_list_lst, gi_list_tup, gi_list_scr, gi_list_dct, gi_tuple_non, gi_tuple_bl, gi_tuple_int, gi_tuple_str, gi_tuple_lst, gi_tuple_tup, gi_tuple_scr, gi_tuple_dct, gi_dict_non, gi_dict_bl, gi_dict_int, gi_dict_str, gi_dict_lst, gi_dict_tup, gi_dict_scr, gi_dict_dct, tr_b, true_and, and_true, eq_self, exO_some, hTL_l, hTL_t, hName_e, hCons_c, hNil_n, bind_so, it_l, it_t, it_r, List.getElem?_cons_zero, List.getElem?_cons_succ, List.set_cons_zero, List.set_cons_succ, true_and, and_true, Nat.zero_le, snb, nnb, ex_some, dT, if_true, Bool.false_eq_true, if_false, wipeE, Int.reduceLT, List.length_nil, List.length_cons, Nat.reduceAdd, Nat.reduceLeDiff, Nat.reduceLT, g_inS, g_ixS, g_slS, g_join, frz_def, g_sort, g_rev, List.length_map, List.length_range, l1, l2, l_sp, sl_app, g_isN]
      exact ih _
    · have q3 : d = .int k := h3
      have q4 : s = Str.ofString (toString k) := h4
      subst q3 q4
      simp only [Z1, Z2, z_bO0, z_bO1, z_for, z_lc, onV_v, onV_e, onS_v, onS_e, onB_v, onB_e, onBR_v, onBR_e, onA_v, onA_e, onVB_v, onVB_e, onVA_v, onVA_e, onAA_v, onAA_e, onAO_v, onAO_e, onBB_v, onBB_e, onO_n, onO_r, onO_b, onO_c, onO_e, onT_n, onT_c, onT_b, onT_r, onT_e, onR_n, onR_r, onR_e, okK_s, okK_n, wO_some, wR_some, wB_some, wA_some, z_lf, z_shr, w_c, w_var, z_op, z_un, z_tB1, z_truR, z_chain, z_andT, z_orT, z_notT, z_andV, z_orV, z_notV, z_if, w_nil, z_cons, z_lst, z_tup, w_dct0, z_call, z_bn, z_sm, z_sl, z_star, z_sh, z_set, z_asg, z_drop, z_ret, w_retV, w_retN, w_nx, z_seq, w_frz, z_ifS, z_app, z_put, z_items, z_it, g_add, g_sub, g_neg, g_mul, g_rep, g_fdiv, g_mod, g_pow, g_addS, g_addL, g_cmp0, g_eqI, g_eqS, g_eqB, g_lenL, g_lenT, g_lenR, g_lenS, g_int, g_intB, g_str, g_listL, g_listT, g_listM, g_tup, g_abs, g_max2, g_min2, gz_ixL, gz_ixT, gz_ixR, g_slL, gi_bool_non, gi_bool_bl, gi_bool_int, gi_bool_str, gi_bool_lst, gi_bool_tup, gi_bool_scr, gi_bool_dct, gi_int_non, gi_int_bl, gi_int_int, gi_int_str, gi_int_lst, gi_int_tup, gi_int_scr, gi_int_dct, gi_str_non, gi_str_bl, gi_str_int, gi_str_str, gi_str_lst, gi_str_tup, gi_str_scr, gi_str_dct, gi_list_non, gi_list_bl, gi_list_int, gi_list_str, gi_list_lst, gi_list_tup, gi_list_scr, gi_list_dct, gi_tuple_non, gi_tuple_bl, gi_tuple_int, gi_tuple_str, gi_tuple_lst, gi_tuple_tup, gi_tuple_scr, gi_tuple_dct, gi_dict_non, gi_dict_bl, gi_dict_int, gi_dict_str, gi_dict_lst, gi_dict_tup, gi_dict_scr, gi_dict_dct, tr_b, true_and, and_true, eq_self, exO_some, hTL_l, hTL_t, hName_e, hCons_c, hNil_n, bind_so, it_l, it_t, it_r, List.getElem?_cons_zero, List.getElem?_cons_succ, List.set_cons_zero, List.set_cons_succ, true_and, and_true, Nat.zero_le, snb, nnb, ex_some, dT, if_true, Bool.false_eq_true, if_false, wipeE, Int.reduceLT, List.length_nil, List.length_cons, Nat.reduceAdd, Nat.reduceLeDiff, Nat.reduceLT, g_inS, g_ixS, g_slS, g_join, frz_def, g_sort, g_rev, List.length_map, List.length_range, l1, l2, l_sp, sl_app, g_isI, show (k.natAbs.log2 < 1920) = True from eq_true h2.log]
      exact ih _
    · have q3 : d = m.D := h3
      have q4 : s = tmT m := h4
      subst q3 q4
      simp only [Z1, Z2, z_bO0, z_bO1, z_for, z_lc, onV_v, onV_e, onS_v, onS_e, onB_v, onB_e, onBR_v, onBR_e, onA_v, onA_e, onVB_v, onVB_e, onVA_v, onVA_e, onAA_v, onAA_e, onAO_v, onAO_e, onBB_v, onBB_e, onO_n, onO_r, onO_b, onO_c, onO_e, onT_n, onT_c, onT_b, onT_r, onT_e, onR_n, onR_r, onR_e, okK_s, okK_n, wO_some, wR_some, wB_some, wA_some, z_lf, z_shr, w_c, w_var, z_op, z_un, z_tB1, z_truR, z_chain, z_andT, z_orT, z_notT, z_andV, z_orV, z_notV, z_if, w_nil, z_cons, z_lst, z_tup, w_dct0, z_call, z_bn, z_sm, z_sl, z_star, z_sh, z_set, z_asg, z_drop, z_ret, w_retV, w_retN, w_nx, z_seq, w_frz, z_ifS, z_app, z_put, z_items, z_it, g_add, g_sub, g_neg, g_mul, g_rep, g_fdiv, g_mod, g_pow, g_addS, g_addL, g_cmp0, g_eqI, g_eqS, g_eqB, g_lenL, g_lenT, g_lenR, g_lenS, g_int, g_intB, g_str, g_listL, g_listT, g_listM, g_tup, g_abs, g_max2, g_min2, gz_ixL, gz_ixT, gz_ixR, g_slL, gi_bool_non, gi_bool_bl, gi_bool_int, gi_bool_str, gi_bool_lst, gi_bool_tup, gi_bool_scr, gi_bool_dct, gi_int_non, gi_int_bl, gi_int_int, gi_int_str, gi_int_lst, gi_int_tup, gi_int_scr, gi_int_dct, gi_str_non, gi_str_bl, gi_str_int, gi_str_str, gi_str_lst, gi_str_tup, gi_str_scr, gi_str_dct, gi_list_non, gi_list_bl, gi_list_int, gi_list_str, gi_list_lst, gi_list_tup, gi_list_scr, gi_list_dct, gi_tuple_non, gi_tuple_bl, gi_tuple_int, gi_tuple_str, gi_tuple_lst, gi_tuple_tup, gi_tuple_scr, gi_tuple_dct, gi_dict_non, gi_dict_bl, gi_dict_int, gi_dict_str, gi_dict_lst, gi_dict_tup, gi_dict_scr, gi_dict_dct, tr_b, true_and, and_true, eq_self, exO_some, hTL_l, hTL_t, hName_e, hCons_c, hNil_n, bind_so, it_l, it_t, it_r, List.getElem?_cons_zero, List.getElem?_cons_succ, List.set_cons_zero, List.set_cons_succ, true_and, and_true, Nat.zero_le, snb, nnb, ex_some, dT, if_true, Bool.false_eq_true, if_false, wipeE, Int.reduceLT, List.length_nil, List.length_cons, Nat.reduceAdd, Nat.reduceLeDiff, Nat.reduceLT, g_inS, g_ixS, g_slS, g_join, frz_def, g_sort, g_rev, List.length_map, List.length_range, l1, l_sp, sl_app, g_isTm, gi_int_tm, gi_str_tm]
      refine (text_tm m h2).mono ?_
      rintro r rfl
      simp only [Z1, Z2, z_bO0, z_bO1, z_for, z_lc, onV_v, onV_e, onS_v, onS_e, onB_v, onB_e, onBR_v, onBR_e, onA_v, onA_e, onVB_v, onVB_e, onVA_v, onVA_e, onAA_v, onAA_e, onAO_v, onAO_e, onBB_v, onBB_e, onO_n, onO_r, onO_b, onO_c, onO_e, onT_n, onT_c, onT_b, onT_r, onT_e, onR_n, onR_r, onR_e, okK_s, okK_n, wO_some, wR_some, wB_some, wA_some, z_lf, z_shr, w_c, w_var, z_op, z_un, z_tB1, z_truR, z_chain, z_andT, z_orT, z_notT, z_andV, z_orV, z_notV, z_if, w_nil, z_cons, z_lst, z_tup, w_dct0, z_call, z_bn, z_sm, z_sl, z_star, z_sh, z_set, z_asg, z_drop, z_ret, w_retV, w_retN, w_nx, z_seq, w_frz, z_ifS, z_app, z_put, z_items, z_it, g_add, g_sub, g_neg, g_mul, g_rep, g_fdiv, g_mod, g_pow, g_addS, g_addL, g_cmp0, g_eqI, g_eqS, g_eqB, g_lenL, g_lenT, g_lenR, g_lenS, g_int, g_intB, g_str, g_listL, g_listT, g_listM, g_tup, g_abs, g_max2, g_min2, gz_ixL, gz_ixT, gz_ixR, g_slL, gi_bool_non, gi_bool_bl, gi_bool_int, gi_bool_str, gi_bool_lst, gi_bool_tup, gi_bool_scr, gi_bool_dct, gi_int_non, gi_int_bl, gi_int_int, gi_int_str, gi_int_lst, gi_int_tup, gi_int_scr, gi_int_dct, gi_str_non, gi_str_bl, gi_str_int, gi_str_str, gi_str_lst, gi_str_tup, gi_str_scr, gi_str_dct, gi_list_non, gi_list_bl, gi_list_int, gi_list_str, gi_list_lst, gi_list_tup, gi_list_scr, gi_list_dct, gi_tuple_non, gi_tuple_bl, gi_tuple_int, gi_tuple_str, gi_tuple_lst, gi_tuple_tup, gi_tuple_scr, gi_tuple_dct, gi_dict_non, gi_dict_bl, gi_dict_int, gi_dict_str, gi_dict_lst, gi_dict_tup, gi_dict_scr, gi_dict_dct, tr_b, true_and, and_true, eq_self, exO_some, hTL_l, hTL_t, hName_e, hCons_c, hNil_n, bind_so, it_l, it_t, it_r, List.getElem?_cons_zero, List.getElem?_cons_succ, List.set_cons_zero, List.set_cons_succ, true_and, and_true, Nat.zero_le, snb, nnb, ex_some, dT, if_true, Bool.false_eq_true, if_false, wipeE, Int.reduceLT, List.length_nil, List.length_cons, Nat.reduceAdd, Nat.reduceLeDiff, Nat.reduceLT, g_inS, g_ixS, g_slS, g_join, frz_def, g_sort, g_rev, List.length_map, List.length_range, l2, l_sp, sl_app]
      exact ih _
theorem str_assoc (a b c : Str) : a ++ b ++ c = a ++ (b ++ c) := by
  show (⟨(a.cps ++ b.cps) ++ c.cps⟩ : Str) = ⟨a.cps ++ (b.cps ++ c.cps)⟩
  rw [Array.append_assoc]
theorem join_glue : ∀ (ts : List (Nat × D × Str)) (x : Str), Str.join (Str.ofString " ") (x :: ts.map (·.2.2)) = ts.foldl glue x
  | [], x => rfl
  | t :: r, x => by
    rw [List.foldl_cons, ← join_glue r]
    have e : ∀ (ys : List Str) (x z : Str), Str.join (Str.ofString " ") ((x ++ Str.ofString " " ++ z) :: ys) = x ++ Str.ofString " " ++ Str.join (Str.ofString " ") (z :: ys) := fun ys x z => by
      cases ys with
      | nil => rfl
      | cons y r =>
        show x ++ Str.ofString " " ++ z ++ Str.ofString " " ++ Str.join (Str.ofString " ") (y :: r) = x ++ Str.ofString " " ++ (z ++ Str.ofString " " ++ Str.join (Str.ofString " ") (y :: r))
        simp only [str_assoc]
    show x ++ Str.ofString " " ++ Str.join (Str.ofString " ") (t.2.2 :: r.map (·.2.2)) = _
    rw [glue, e]
theorem text_saying_spec (y : Sy) (h : y.Ok V6 BB) : wR (F_Lsaying_text [y.D]) fun r => r = .val .sh (.str (syT y)) := by
  have hp := parts_ok y h
  have hl := trip_len y
  have hn := nm_len y
  rw [F_Lsaying_text, w_run, b_Lsaying_text, D_eq]
  simp only [start_def, List.map_cons, List.map_nil, List.length_cons, List.length_nil, Nat.reduceAdd, Nat.reduceSub, List.replicate_succ, List.replicate_zero, List.cons_append, List.nil_append, Z1, Z2, z_bO0, z_bO1, z_for, z_lc, onV_v, onV_e, onS_v, onS_e, onB_v, onB_e, onBR_v, onBR_e, onA_v, onA_e, onVB_v, onVB_e, onVA_v, onVA_e, onAA_v, onAA_e, onAO_v, onAO_e, onBB_v, onBB_e, onO_n, onO_r, onO_b, onO_c, onO_e, onT_n, onT_c, onT_b, onT_r, onT_e, onR_n, onR_r, onR_e, okK_s, okK_n, wO_some, wR_some, wB_some, wA_some, z_lf, z_shr, w_c, w_var, z_op, z_un, z_tB1, z_truR, z_chain, z_andT, z_orT, z_notT, z_andV, z_orV, z_notV, z_if, w_nil, z_cons, z_lst, z_tup, w_dct0, z_call, z_bn, z_sm, z_sl, z_star, z_sh, z_set, z_asg, z_drop, z_ret, w_retV, w_retN, w_nx, z_seq, w_frz, z_ifS, z_app, z_put, z_items, z_it, g_add, g_sub, g_neg, g_mul, g_rep, g_fdiv, g_mod, g_pow, g_addS, g_addL, g_cmp0, g_eqI, g_eqS, g_eqB, g_lenL, g_lenT, g_lenR, g_lenS, g_int, g_intB, g_str, g_listL, g_listT, g_listM, g_tup, g_abs, g_max2, g_min2, gz_ixL, gz_ixT, gz_ixR, g_slL, gi_bool_non, gi_bool_bl, gi_bool_int, gi_bool_str, gi_bool_lst, gi_bool_tup, gi_bool_scr, gi_bool_dct, gi_int_non, gi_int_bl, gi_int_int, gi_int_str, gi_int_lst, gi_int_tup, gi_int_scr, gi_int_dct, gi_str_non, gi_str_bl, gi_str_int, gi_str_str, gi_str_lst, gi_str_tup, gi_str_scr, gi_str_dct, gi_list_non, gi_list_bl, gi_list_int, gi_list_str, gi_list_lst, gi_list_tup, gi_list_scr, gi_list_dct, gi_tuple_non, gi_tuple_bl, gi_tuple_int, gi_tuple_str, gi_tuple_lst, gi_tuple_tup, gi_tuple_scr, gi_tuple_dct, gi_dict_non, gi_dict_bl, gi_dict_int, gi_dict_str, gi_dict_lst, gi_dict_tup, gi_dict_scr, gi_dict_dct, tr_b, true_and, and_true, eq_self, exO_some, hTL_l, hTL_t, hName_e, hCons_c, hNil_n, bind_so, it_l, it_t, it_r, List.getElem?_cons_zero, List.getElem?_cons_succ, List.set_cons_zero, List.set_cons_succ, true_and, and_true, Nat.zero_le, snb, nnb, ex_some, dT, if_true, Bool.false_eq_true, if_false, wipeE, Int.reduceLT, List.length_nil, List.length_cons, Nat.reduceAdd, Nat.reduceLeDiff, Nat.reduceLT, g_inS, g_ixS, g_slS, g_join, frz_def, g_sort, g_rev, List.length_map, List.length_range, atI_0, atI_1, atI_2, atI_3, atI_4, atI_5, atI_6, atI_7, atI_8, atI_9, atI_10, atI_11, atI_12, atI_13, atI_14, atI_15, atI_16, atI_17, atI_18, atI_19, atI_20, atI_21, atI_22, atI_23, atI_24, atI_25, atI_26, atI_27, atI_28, atI_29, atI_30, g_slT1]
  refine text_loop _ _ (trip y) (nmT y) none hp (by omega) fun o2 => ?_
  simp only [Z1, Z2, z_bO0, z_bO1, z_for, z_lc, onV_v, onV_e, onS_v, onS_e, onB_v, onB_e, onBR_v, onBR_e, onA_v, onA_e, onVB_v, onVB_e, onVA_v, onVA_e, onAA_v, onAA_e, onAO_v, onAO_e, onBB_v, onBB_e, onO_n, onO_r, onO_b, onO_c, onO_e, onT_n, onT_c, onT_b, onT_r, onT_e, onR_n, onR_r, onR_e, okK_s, okK_n, wO_some, wR_some, wB_some, wA_some, z_lf, z_shr, w_c, w_var, z_op, z_un, z_tB1, z_truR, z_chain, z_andT, z_orT, z_notT, z_andV, z_orV, z_notV, z_if, w_nil, z_cons, z_lst, z_tup, w_dct0, z_call, z_bn, z_sm, z_sl, z_star, z_sh, z_set, z_asg, z_drop, z_ret, w_retV, w_retN, w_nx, z_seq, w_frz, z_ifS, z_app, z_put, z_items, z_it, g_add, g_sub, g_neg, g_mul, g_rep, g_fdiv, g_mod, g_pow, g_addS, g_addL, g_cmp0, g_eqI, g_eqS, g_eqB, g_lenL, g_lenT, g_lenR, g_lenS, g_int, g_intB, g_str, g_listL, g_listT, g_listM, g_tup, g_abs, g_max2, g_min2, gz_ixL, gz_ixT, gz_ixR, g_slL, gi_bool_non, gi_bool_bl, gi_bool_int, gi_bool_str, gi_bool_lst, gi_bool_tup, gi_bool_scr, gi_bool_dct, gi_int_non, gi_int_bl, gi_int_int, gi_int_str, gi_int_lst, gi_int_tup, gi_int_scr, gi_int_dct, gi_str_non, gi_str_bl, gi_str_int, gi_str_str, gi_str_lst, gi_str_tup, gi_str_scr, gi_str_dct, gi_list_non, gi_list_bl, gi_list_int, gi_list_str, gi_list_lst, gi_list_tup, gi_list_scr, gi_list_dct, gi_tuple_non, gi_tuple_bl, gi_tuple_int, gi_tuple_str, gi_tuple_lst, gi_tuple_tup, gi_tuple_scr, gi_tuple_dct, gi_dict_non, gi_dict_bl, gi_dict_int, gi_dict_str, gi_dict_lst, gi_dict_tup, gi_dict_scr, gi_dict_dct, tr_b, true_and, and_true, eq_self, exO_some, hTL_l, hTL_t, hName_e, hCons_c, hNil_n, bind_so, it_l, it_t, it_r, List.getElem?_cons_zero, List.getElem?_cons_succ, List.set_cons_zero, List.set_cons_succ, true_and, and_true, Nat.zero_le, snb, nnb, ex_some, dT, if_true, Bool.false_eq_true, if_false, wipeE, Int.reduceLT, List.length_nil, List.length_cons, Nat.reduceAdd, Nat.reduceLeDiff, Nat.reduceLT, g_inS, g_ixS, g_slS, g_join, frz_def, g_sort, g_rev, List.length_map, List.length_range]
  rw [syT, join_glue]
theorem In4 {k : Int} (h : -4 ≤ k ∧ k ≤ 4) : In k := by unfold In BB; omega
theorem mul_in {k c : Int} (h : -4 ≤ k ∧ k ≤ 4) (h0 : 1 ≤ c) (h1 : c ≤ 10 ^ 15) : -(4 * 10 ^ 15) ≤ k * c ∧ k * c ≤ 4 * 10 ^ 15 := by
  have q1 : k * c ≤ 4 * c := Int.mul_le_mul_of_nonneg_right h.2 (by omega)
  have q2 : -4 * c ≤ k * c := Int.mul_le_mul_of_nonneg_right h.1 (by omega)
  constructor <;> omega
theorem pt_up {V : Str → Prop} {p : Str × Int} (hv : ∀ s, V s → s.length ≤ 6) (h : ptOk V 4 p) : ptOk (fun s => s.length ≤ 6) BB p := ⟨hv _ h.1, (In4 h.2).1, (In4 h.2).2⟩
theorem pt_sc {p : Str × Int} {a b : Int} (h : ptOk (fun s => s.length ≤ 6) 4 p) (h0 : 1 ≤ a) (h1 : a ≤ 10 ^ 15) (h2 : -(10 ^ 30) ≤ b) (h3 : b ≤ 10 ^ 30) : ptOk (fun s => s.length ≤ 6) BB (scPt a b p) := by
  have q := mul_in h.2 h0 h1
  refine ⟨h.1, ?_⟩
  show -BB ≤ (if p.1 = Str.ofString "" then p.2 * a + b else p.2 * a) ∧ (if p.1 = Str.ofString "" then p.2 * a + b else p.2 * a) ≤ BB
  unfold BB
  split <;> constructor <;> omega
theorem op_up {e : Option (Str × Int)} (h : opOk V6.Sp 4 e) : opOk V6.Sp BB e := by
  cases e with
  | none => trivial
  | some p => exact pt_up (fun s h => h) h
theorem op_sc {e : Option (Str × Int)} {s : Sc} (hs : s.Ok) (h : opOk V6.Sp 4 e) : opOk V6.Sp BB (e.map (scPt s.a s.b)) := by
  cases e with
  | none => trivial
  | some p => exact pt_sc h hs.a0 hs.a1 hs.b0 hs.b1
theorem tm_up {t : Tm} (h : t.Ok V6 4) : t.Ok V6 BB := by
  cases t with
  | pt p => exact pt_up (fun s h => h) h
  | el a p k => exact ⟨h.1, pt_up (fun s h => h) h.2.1, (In4 h.2.2).1, (In4 h.2.2).2⟩
theorem k_sc {k : Int} {s : Sc} (hs : s.Ok) (h : -4 ≤ k ∧ k ≤ 4) : -BB ≤ k * s.c ∧ k * s.c ≤ BB := by
  have q := mul_in h hs.c0 hs.c1
  unfold BB
  constructor <;> omega
theorem tm_sc {t : Tm} {s : Sc} (hs : s.Ok) (h : t.Ok V6 4) : (scTm s t).Ok V6 BB := by
  cases t with
  | pt p => exact pt_sc h hs.c0 hs.c1 hs.d0 hs.d1
  | el a p k => exact ⟨h.1, pt_sc h.2.1 hs.a0 hs.a1 hs.b0 hs.b1, k_sc hs h.2.2⟩
theorem sy_up {y : Sy} (h : y.Ok V6 4) : y.Ok V6 BB := by
  cases y with
  | place t u => exact ⟨pt_up (fun s h => h) h.1, pt_up (fun s h => h) h.2⟩
  | value t u => exact ⟨tm_up h.1, tm_up h.2⟩
  | rising a e f => exact ⟨h.1, op_up h.2.1, op_up h.2.2⟩
  | low a e f t => exact ⟨h.1, op_up h.2.1, op_up h.2.2.1, tm_up h.2.2.2⟩
  | high a e f t => exact ⟨h.1, op_up h.2.1, op_up h.2.2.1, tm_up h.2.2.2⟩
  | below a e f b g i k => exact ⟨h.1, op_up h.2.1, op_up h.2.2.1, h.2.2.2.1, op_up h.2.2.2.2.1, op_up h.2.2.2.2.2.1, In4 h.2.2.2.2.2.2⟩
  | same a b e f k => exact ⟨h.1, h.2.1, op_up h.2.2.1, op_up h.2.2.2.1, In4 h.2.2.2.2⟩
theorem sy_sc {y : Sy} {s : Sc} (hs : s.Ok) (h : y.Ok V6 4) : (scSy s y).Ok V6 BB := by
  cases y with
  | place t u => exact ⟨pt_sc h.1 hs.a0 hs.a1 hs.b0 hs.b1, pt_sc h.2 hs.a0 hs.a1 hs.b0 hs.b1⟩
  | value t u => exact ⟨tm_sc hs h.1, tm_sc hs h.2⟩
  | rising a e f => exact ⟨h.1, op_sc hs h.2.1, op_sc hs h.2.2⟩
  | low a e f t => exact ⟨h.1, op_sc hs h.2.1, op_sc hs h.2.2.1, tm_sc hs h.2.2.2⟩
  | high a e f t => exact ⟨h.1, op_sc hs h.2.1, op_sc hs h.2.2.1, tm_sc hs h.2.2.2⟩
  | below a e f b g i k => exact ⟨h.1, op_sc hs h.2.1, op_sc hs h.2.2.1, h.2.2.2.1, op_sc hs h.2.2.2.2.1, op_sc hs h.2.2.2.2.2.1, k_sc hs h.2.2.2.2.2.2⟩
  | same a b e f k => exact ⟨h.1, h.2.1, op_sc hs h.2.2.1, op_sc hs h.2.2.2.1, k_sc hs h.2.2.2.2⟩
/-! ### the law -/
def flat : Tm → Tm
  | .pt p => .pt (p.1, 0)
  | .el a p _ => .el a p 0
theorem flat_ok {t : Tm} (h : t.Ok V6 BB) : (flat t).Ok V6 BB := by
  have z : -BB ≤ 0 ∧ (0 : Int) ≤ BB := by unfold BB; decide +kernel
  cases t with
  | pt p => exact ⟨h.1, z.1, z.2⟩
  | el a p k => exact ⟨h.1, h.2.1, z.1, z.2⟩
def cutTm : Tm → D
  | .pt p => .tup [.str p.1]
  | .el a p _ => .tup [.str a, ptD p]
theorem g_cutTm {m : Tm} : wG (slD m.D none (some (-1))) QG = QG .sh (cutTm m) := by
  have e : slD m.D none (some (-1)) = some (.sh, cutTm m) := by cases m <;> rfl
  rw [e, wG_some]
theorem g_addTm {m : Tm} : wG (addD (cutTm m) (.tup [.int 0])) QG = QG .sh (flat m).D := by
  have e : addD (cutTm m) (.tup [.int 0]) = some (.sh, (flat m).D) := by cases m <;> rfl
  rw [e, wG_some]
theorem rng2_ok {a : Nat} {x : Int} (h0 : a ≤ 1000) (h : x ≤ 1000) (h1 : 0 ≤ x) : rng2D [.int a, .int x] = some (rngL a (x - a).toNat) := by
  unfold rng2D
  dsimp only
  rw [if_pos (by omega)]
theorem rngL_get2 {a n i : Nat} {d : D} (h : (rngL a n)[i]? = some d) : d = .int ((a + i : Nat) : Int) := by
  unfold rngL at h
  rw [List.getElem?_map] at h
  obtain ⟨j, hj, rfl⟩ := Option.map_eq_some_iff.mp h
  obtain ⟨h1, h2⟩ := List.getElem?_eq_some_iff.mp hj
  rw [List.getElem_range] at h2
  subst h2
  congr 1
theorem pl_strs (n : Nat) (xs : List Str) (h : xs.length ≤ 10) : Pl (n + 1) (.lst (xs.map .str)) := .lst (by rw [List.length_map]; omega) fun d hd => by
  obtain ⟨x, _, rfl⟩ := List.mem_map.mp hd
  exact .str x
theorem same_strs (xs : List Str) (h : xs.length ≤ 10) : wR (F_Lsame [.lst (xs.map .str), .lst (xs.map .str)]) fun r => r = .val .sh (.bl true) := same_refl 7 _ (pl_strs 6 xs h)
theorem part_tup {t : Nat × D × Str} (h : PartOk t) : (∀ QG, wG (isiD "tuple" t.2.1) QG = QG .sh (.bl false)) ∨ ∃ m : Tm, m.Ok V6 BB ∧ t.2.1 = m.D := by
  rcases h with ⟨_, ⟨h1, h2⟩ | ⟨h1, h2, h3⟩ | ⟨h1, k, h2, h3, h4⟩ | ⟨⟨h1, h5⟩, m, h2, h3, h4⟩⟩
  · rw [h2]; exact .inl fun _ => gi_tuple_str
  · rw [h2]; exact .inl fun _ => gi_tuple_non
  · rw [h3]; exact .inl fun _ => gi_tuple_int
  · exact .inr ⟨m, h2, h3⟩
theorem gi_tuple_tm {m : Tm} : wG (isiD "tuple" m.D) QG = QG .sh (.bl true) := by cases m <;> exact gi_tuple_tup
theorem law_true (ns : List Int) (h : ns.length ≤ 63) : F_law [.scr ns] = some (.val .sh (.bl true)) := by
  refine (fun ⟨x, e, q⟩ => by rw [e, q] : wR (F_law [.scr ns]) (fun r => r = .val .sh (.bl true)) → _) ?_
  rw [F_law, w_run, b_law]
  simp only [start_def, List.map_cons, List.map_nil, List.length_cons, List.length_nil, Nat.reduceAdd, Nat.reduceSub, List.replicate_succ, List.replicate_zero, List.cons_append, List.nil_append, Z1, Z2, z_bO0, z_bO1, z_for, z_lc, onV_v, onV_e, onS_v, onS_e, onB_v, onB_e, onBR_v, onBR_e, onA_v, onA_e, onVB_v, onVB_e, onVA_v, onVA_e, onAA_v, onAA_e, onAO_v, onAO_e, onBB_v, onBB_e, onO_n, onO_r, onO_b, onO_c, onO_e, onT_n, onT_c, onT_b, onT_r, onT_e, onR_n, onR_r, onR_e, okK_s, okK_n, wO_some, wR_some, wB_some, wA_some, z_lf, z_shr, w_c, w_var, z_op, z_un, z_tB1, z_truR, z_chain, z_andT, z_orT, z_notT, z_andV, z_orV, z_notV, z_if, w_nil, z_cons, z_lst, z_tup, w_dct0, z_call, z_bn, z_sm, z_sl, z_star, z_sh, z_set, z_asg, z_drop, z_ret, w_retV, w_retN, w_nx, z_seq, w_frz, z_ifS, z_app, z_put, z_items, z_it, g_add, g_sub, g_neg, g_mul, g_rep, g_fdiv, g_mod, g_pow, g_addS, g_addL, g_cmp0, g_eqI, g_eqS, g_eqB, g_lenL, g_lenT, g_lenR, g_lenS, g_int, g_intB, g_str, g_listL, g_listT, g_listM, g_tup, g_abs, g_max2, g_min2, gz_ixL, gz_ixT, gz_ixR, g_slL, gi_bool_non, gi_bool_bl, gi_bool_int, gi_bool_str, gi_bool_lst, gi_bool_tup, gi_bool_scr, gi_bool_dct, gi_int_non, gi_int_bl, gi_int_int, gi_int_str, gi_int_lst, gi_int_tup, gi_int_scr, gi_int_dct, gi_str_non, gi_str_bl, gi_str_int, gi_str_str, gi_str_lst, gi_str_tup, gi_str_scr, gi_str_dct, gi_list_non, gi_list_bl, gi_list_int, gi_list_str, gi_list_lst, gi_list_tup, gi_list_scr, gi_list_dct, gi_tuple_non, gi_tuple_bl, gi_tuple_int, gi_tuple_str, gi_tuple_lst, gi_tuple_tup, gi_tuple_scr, gi_tuple_dct, gi_dict_non, gi_dict_bl, gi_dict_int, gi_dict_str, gi_dict_lst, gi_dict_tup, gi_dict_scr, gi_dict_dct, tr_b, true_and, and_true, eq_self, exO_some, hTL_l, hTL_t, hName_e, hCons_c, hNil_n, bind_so, it_l, it_t, it_r, List.getElem?_cons_zero, List.getElem?_cons_succ, List.set_cons_zero, List.set_cons_succ, true_and, and_true, Nat.zero_le, snb, nnb, ex_some, dT, if_true, Bool.false_eq_true, if_false, wipeE, Int.reduceLT, List.length_nil, List.length_cons, Nat.reduceAdd, Nat.reduceLeDiff, Nat.reduceLT, g_inS, g_ixS, g_slS, g_join, frz_def, g_sort, g_rev, List.length_map, List.length_range]
  refine (parts_spec ns 0).mono ?_
  rintro r ⟨ps, qs, as, rfl, P⟩
  simp only [Z1, Z2, z_bO0, z_bO1, z_for, z_lc, onV_v, onV_e, onS_v, onS_e, onB_v, onB_e, onBR_v, onBR_e, onA_v, onA_e, onVB_v, onVB_e, onVA_v, onVA_e, onAA_v, onAA_e, onAO_v, onAO_e, onBB_v, onBB_e, onO_n, onO_r, onO_b, onO_c, onO_e, onT_n, onT_c, onT_b, onT_r, onT_e, onR_n, onR_r, onR_e, okK_s, okK_n, wO_some, wR_some, wB_some, wA_some, z_lf, z_shr, w_c, w_var, z_op, z_un, z_tB1, z_truR, z_chain, z_andT, z_orT, z_notT, z_andV, z_orV, z_notV, z_if, w_nil, z_cons, z_lst, z_tup, w_dct0, z_call, z_bn, z_sm, z_sl, z_star, z_sh, z_set, z_asg, z_drop, z_ret, w_retV, w_retN, w_nx, z_seq, w_frz, z_ifS, z_app, z_put, z_items, z_it, g_add, g_sub, g_neg, g_mul, g_rep, g_fdiv, g_mod, g_pow, g_addS, g_addL, g_cmp0, g_eqI, g_eqS, g_eqB, g_lenL, g_lenT, g_lenR, g_lenS, g_int, g_intB, g_str, g_listL, g_listT, g_listM, g_tup, g_abs, g_max2, g_min2, gz_ixL, gz_ixT, gz_ixR, g_slL, gi_bool_non, gi_bool_bl, gi_bool_int, gi_bool_str, gi_bool_lst, gi_bool_tup, gi_bool_scr, gi_bool_dct, gi_int_non, gi_int_bl, gi_int_int, gi_int_str, gi_int_lst, gi_int_tup, gi_int_scr, gi_int_dct, gi_str_non, gi_str_bl, gi_str_int, gi_str_str, gi_str_lst, gi_str_tup, gi_str_scr, gi_str_dct, gi_list_non, gi_list_bl, gi_list_int, gi_list_str, gi_list_lst, gi_list_tup, gi_list_scr, gi_list_dct, gi_tuple_non, gi_tuple_bl, gi_tuple_int, gi_tuple_str, gi_tuple_lst, gi_tuple_tup, gi_tuple_scr, gi_tuple_dct, gi_dict_non, gi_dict_bl, gi_dict_int, gi_dict_str, gi_dict_lst, gi_dict_tup, gi_dict_scr, gi_dict_dct, tr_b, true_and, and_true, eq_self, exO_some, hTL_l, hTL_t, hName_e, hCons_c, hNil_n, bind_so, it_l, it_t, it_r, List.getElem?_cons_zero, List.getElem?_cons_succ, List.set_cons_zero, List.set_cons_succ, true_and, and_true, Nat.zero_le, snb, nnb, ex_some, dT, if_true, Bool.false_eq_true, if_false, wipeE, Int.reduceLT, List.length_nil, List.length_cons, Nat.reduceAdd, Nat.reduceLeDiff, Nat.reduceLT, g_inS, g_ixS, g_slS, g_join, frz_def, g_sort, g_rev, List.length_map, List.length_range]
  refine (scale_spec ns 5).mono ?_
  rintro r ⟨s, rfl, hs⟩
  simp only [onS_v, onS_e, okK_s, okK_n, Z1, Z2, onO_n, List.set_cons_zero, List.set_cons_succ]
  simp only [Z1, Z2, z_bO0, z_bO1, z_for, z_lc, onV_v, onV_e, onS_v, onS_e, onB_v, onB_e, onBR_v, onBR_e, onA_v, onA_e, onVB_v, onVB_e, onVA_v, onVA_e, onAA_v, onAA_e, onAO_v, onAO_e, onBB_v, onBB_e, onO_n, onO_r, onO_b, onO_c, onO_e, onT_n, onT_c, onT_b, onT_r, onT_e, onR_n, onR_r, onR_e, okK_s, okK_n, wO_some, wR_some, wB_some, wA_some, z_lf, z_shr, w_c, w_var, z_op, z_un, z_tB1, z_truR, z_chain, z_andT, z_orT, z_notT, z_andV, z_orV, z_notV, z_if, w_nil, z_cons, z_lst, z_tup, w_dct0, z_call, z_bn, z_sm, z_sl, z_star, z_sh, z_set, z_asg, z_drop, z_ret, w_retV, w_retN, w_nx, z_seq, w_frz, z_ifS, z_app, z_put, z_items, z_it, g_add, g_sub, g_neg, g_mul, g_rep, g_fdiv, g_mod, g_pow, g_addS, g_addL, g_cmp0, g_eqI, g_eqS, g_eqB, g_lenL, g_lenT, g_lenR, g_lenS, g_int, g_intB, g_str, g_listL, g_listT, g_listM, g_tup, g_abs, g_max2, g_min2, gz_ixL, gz_ixT, gz_ixR, g_slL, gi_bool_non, gi_bool_bl, gi_bool_int, gi_bool_str, gi_bool_lst, gi_bool_tup, gi_bool_scr, gi_bool_dct, gi_int_non, gi_int_bl, gi_int_int, gi_int_str, gi_int_lst, gi_int_tup, gi_int_scr, gi_int_dct, gi_str_non, gi_str_bl, gi_str_int, gi_str_str, gi_str_lst, gi_str_tup, gi_str_scr, gi_str_dct, gi_list_non, gi_list_bl, gi_list_int, gi_list_str, gi_list_lst, gi_list_tup, gi_list_scr, gi_list_dct, gi_tuple_non, gi_tuple_bl, gi_tuple_int, gi_tuple_str, gi_tuple_lst, gi_tuple_tup, gi_tuple_scr, gi_tuple_dct, gi_dict_non, gi_dict_bl, gi_dict_int, gi_dict_str, gi_dict_lst, gi_dict_tup, gi_dict_scr, gi_dict_dct, tr_b, true_and, and_true, eq_self, exO_some, hTL_l, hTL_t, hName_e, hCons_c, hNil_n, bind_so, it_l, it_t, it_r, List.getElem?_cons_zero, List.getElem?_cons_succ, List.set_cons_zero, List.set_cons_succ, true_and, and_true, Nat.zero_le, snb, nnb, ex_some, dT, if_true, Bool.false_eq_true, if_false, wipeE, Int.reduceLT, List.length_nil, List.length_cons, Nat.reduceAdd, Nat.reduceLeDiff, Nat.reduceLT, g_inS, g_ixS, g_slS, g_join, frz_def, g_sort, g_rev, List.length_map, List.length_range]
  have hx : ∃ x : Int, (if (if (63 : Int) < ns.length then (63 : Int) else ns.length) > 11 then (if (63 : Int) < ns.length then (63 : Int) else ns.length) else 11) = x ∧ 0 ≤ x ∧ x ≤ 1000 := ⟨_, rfl, by split <;> (try split) <;> omega, by split <;> (try split) <;> omega⟩
  obtain ⟨x, ex, x0, x1⟩ := hx
  rw [ex, show rng2D [.int 7, .int x] = some (rngL 7 (x - 7).toNat) from rng2_ok (a := 7) (by decide) x1 x0]
  simp only [exO_some, Z1]
  refine forD_inv _ (fun k en => ∃ o3 o4 o5 o6 o7 o8 o9 : Option Sl, en = [some (Sl.sh (D.scr ns)), some (Sl.sh (partsD ps qs as)), some (Sl.sh s.D), o3, o4, o5, o6, o7, o8, o9]) _ ⟨_, _, _, _, _, _, _, rfl⟩ ?_ ?_
  · rintro k d en hd ⟨o3, o4, o5, o6, o7, o8, o9, rfl⟩
    have hd := rngL_get2 (a := 7) hd
    subst hd
    refine ⟨_, rfl, ?_⟩
    generalize 7 + k = n at *
    refine w_cut (fun en => ∃ y : Sy, en = [some (Sl.sh (D.scr ns)), some (Sl.sh (partsD ps qs as)), some (Sl.sh s.D), some (.sh (.int n)), some (.sh y.D), o5, o6, o7, o8, o9] ∧ y.Ok V6 4) ?_ ?_
    · simp only [Z1, Z2, z_bO0, z_bO1, z_for, z_lc, onV_v, onV_e, onS_v, onS_e, onB_v, onB_e, onBR_v, onBR_e, onA_v, onA_e, onVB_v, onVB_e, onVA_v, onVA_e, onAA_v, onAA_e, onAO_v, onAO_e, onBB_v, onBB_e, onO_n, onO_r, onO_b, onO_c, onO_e, onT_n, onT_c, onT_b, onT_r, onT_e, onR_n, onR_r, onR_e, okK_s, okK_n, wO_some, wR_some, wB_some, wA_some, z_lf, z_shr, w_c, w_var, z_op, z_un, z_tB1, z_truR, z_chain, z_andT, z_orT, z_notT, z_andV, z_orV, z_notV, z_if, w_nil, z_cons, z_lst, z_tup, w_dct0, z_call, z_bn, z_sm, z_sl, z_star, z_sh, z_set, z_asg, z_drop, z_ret, w_retV, w_retN, w_nx, z_seq, w_frz, z_ifS, z_app, z_put, z_items, z_it, g_add, g_sub, g_neg, g_mul, g_rep, g_fdiv, g_mod, g_pow, g_addS, g_addL, g_cmp0, g_eqI, g_eqS, g_eqB, g_lenL, g_lenT, g_lenR, g_lenS, g_int, g_intB, g_str, g_listL, g_listT, g_listM, g_tup, g_abs, g_max2, g_min2, gz_ixL, gz_ixT, gz_ixR, g_slL, gi_bool_non, gi_bool_bl, gi_bool_int, gi_bool_str, gi_bool_lst, gi_bool_tup, gi_bool_scr, gi_bool_dct, gi_int_non, gi_int_bl, gi_int_int, gi_int_str, gi_int_lst, gi_int_tup, gi_int_scr, gi_int_dct, gi_str_non, gi_str_bl, gi_str_int, gi_str_str, gi_str_lst, gi_str_tup, gi_str_scr, gi_str_dct, gi_list_non, gi_list_bl, gi_list_int, gi_list_str, gi_list_lst, gi_list_tup, gi_list_scr, gi_list_dct, gi_tuple_non, gi_tuple_bl, gi_tuple_int, gi_tuple_str, gi_tuple_lst, gi_tuple_tup, gi_tuple_scr, gi_tuple_dct, gi_dict_non, gi_dict_bl, gi_dict_int, gi_dict_str, gi_dict_lst, gi_dict_tup, gi_dict_scr, gi_dict_dct, tr_b, true_and, and_true, eq_self, exO_some, hTL_l, hTL_t, hName_e, hCons_c, hNil_n, bind_so, it_l, it_t, it_r, List.getElem?_cons_zero, List.getElem?_cons_succ, List.set_cons_zero, List.set_cons_succ, true_and, and_true, Nat.zero_le, snb, nnb, ex_some, dT, if_true, Bool.false_eq_true, if_false, wipeE, Int.reduceLT, List.length_nil, List.length_cons, Nat.reduceAdd, Nat.reduceLeDiff, Nat.reduceLT, g_inS, g_ixS, g_slS, g_join, frz_def, g_sort, g_rev, List.length_map, List.length_range]
      refine (saying_spec V6 ns n P (show (Str.ofString "").length ≤ 6 by decide +kernel) (show (Str.ofString "").length ≤ 6 by decide +kernel) (fun p hp => (P.pv p hp).1.2) (fun p hp => (P.qv p hp).1.2) (fun p hp => (P.av p hp).1.2)).mono ?_
      rintro r ⟨y, rfl, hy⟩
      simp only [Z1, Z2, z_bO0, z_bO1, z_for, z_lc, onV_v, onV_e, onS_v, onS_e, onB_v, onB_e, onBR_v, onBR_e, onA_v, onA_e, onVB_v, onVB_e, onVA_v, onVA_e, onAA_v, onAA_e, onAO_v, onAO_e, onBB_v, onBB_e, onO_n, onO_r, onO_b, onO_c, onO_e, onT_n, onT_c, onT_b, onT_r, onT_e, onR_n, onR_r, onR_e, okK_s, okK_n, wO_some, wR_some, wB_some, wA_some, z_lf, z_shr, w_c, w_var, z_op, z_un, z_tB1, z_truR, z_chain, z_andT, z_orT, z_notT, z_andV, z_orV, z_notV, z_if, w_nil, z_cons, z_lst, z_tup, w_dct0, z_call, z_bn, z_sm, z_sl, z_star, z_sh, z_set, z_asg, z_drop, z_ret, w_retV, w_retN, w_nx, z_seq, w_frz, z_ifS, z_app, z_put, z_items, z_it, g_add, g_sub, g_neg, g_mul, g_rep, g_fdiv, g_mod, g_pow, g_addS, g_addL, g_cmp0, g_eqI, g_eqS, g_eqB, g_lenL, g_lenT, g_lenR, g_lenS, g_int, g_intB, g_str, g_listL, g_listT, g_listM, g_tup, g_abs, g_max2, g_min2, gz_ixL, gz_ixT, gz_ixR, g_slL, gi_bool_non, gi_bool_bl, gi_bool_int, gi_bool_str, gi_bool_lst, gi_bool_tup, gi_bool_scr, gi_bool_dct, gi_int_non, gi_int_bl, gi_int_int, gi_int_str, gi_int_lst, gi_int_tup, gi_int_scr, gi_int_dct, gi_str_non, gi_str_bl, gi_str_int, gi_str_str, gi_str_lst, gi_str_tup, gi_str_scr, gi_str_dct, gi_list_non, gi_list_bl, gi_list_int, gi_list_str, gi_list_lst, gi_list_tup, gi_list_scr, gi_list_dct, gi_tuple_non, gi_tuple_bl, gi_tuple_int, gi_tuple_str, gi_tuple_lst, gi_tuple_tup, gi_tuple_scr, gi_tuple_dct, gi_dict_non, gi_dict_bl, gi_dict_int, gi_dict_str, gi_dict_lst, gi_dict_tup, gi_dict_scr, gi_dict_dct, tr_b, true_and, and_true, eq_self, exO_some, hTL_l, hTL_t, hName_e, hCons_c, hNil_n, bind_so, it_l, it_t, it_r, List.getElem?_cons_zero, List.getElem?_cons_succ, List.set_cons_zero, List.set_cons_succ, true_and, and_true, Nat.zero_le, snb, nnb, ex_some, dT, if_true, Bool.false_eq_true, if_false, wipeE, Int.reduceLT, List.length_nil, List.length_cons, Nat.reduceAdd, Nat.reduceLeDiff, Nat.reduceLT, g_inS, g_ixS, g_slS, g_join, frz_def, g_sort, g_rev, List.length_map, List.length_range]
      exact ⟨y, rfl, hy⟩
    rintro en1 ⟨y, rfl, hy⟩
    refine w_cut (fun en => ∃ y : Sy, en = [some (Sl.sh (D.scr ns)), some (Sl.sh (partsD ps qs as)), some (Sl.sh s.D), some (.sh (.int n)), some (.sh y.D), o5, o6, o7, o8, o9] ∧ y.Ok V6 BB) ?_ ?_
    · simp only [Z1, Z2, z_bO0, z_bO1, z_for, z_lc, onV_v, onV_e, onS_v, onS_e, onB_v, onB_e, onBR_v, onBR_e, onA_v, onA_e, onVB_v, onVB_e, onVA_v, onVA_e, onAA_v, onAA_e, onAO_v, onAO_e, onBB_v, onBB_e, onO_n, onO_r, onO_b, onO_c, onO_e, onT_n, onT_c, onT_b, onT_r, onT_e, onR_n, onR_r, onR_e, okK_s, okK_n, wO_some, wR_some, wB_some, wA_some, z_lf, z_shr, w_c, w_var, z_op, z_un, z_tB1, z_truR, z_chain, z_andT, z_orT, z_notT, z_andV, z_orV, z_notV, z_if, w_nil, z_cons, z_lst, z_tup, w_dct0, z_call, z_bn, z_sm, z_sl, z_star, z_sh, z_set, z_asg, z_drop, z_ret, w_retV, w_retN, w_nx, z_seq, w_frz, z_ifS, z_app, z_put, z_items, z_it, g_add, g_sub, g_neg, g_mul, g_rep, g_fdiv, g_mod, g_pow, g_addS, g_addL, g_cmp0, g_eqI, g_eqS, g_eqB, g_lenL, g_lenT, g_lenR, g_lenS, g_int, g_intB, g_str, g_listL, g_listT, g_listM, g_tup, g_abs, g_max2, g_min2, gz_ixL, gz_ixT, gz_ixR, g_slL, gi_bool_non, gi_bool_bl, gi_bool_int, gi_bool_str, gi_bool_lst, gi_bool_tup, gi_bool_scr, gi_bool_dct, gi_int_non, gi_int_bl, gi_int_int, gi_int_str, gi_int_lst, gi_int_tup, gi_int_scr, gi_int_dct, gi_str_non, gi_str_bl, gi_str_int, gi_str_str, gi_str_lst, gi_str_tup, gi_str_scr, gi_str_dct, gi_list_non, gi_list_bl, gi_list_int, gi_list_str, gi_list_lst, gi_list_tup, gi_list_scr, gi_list_dct, gi_tuple_non, gi_tuple_bl, gi_tuple_int, gi_tuple_str, gi_tuple_lst, gi_tuple_tup, gi_tuple_scr, gi_tuple_dct, gi_dict_non, gi_dict_bl, gi_dict_int, gi_dict_str, gi_dict_lst, gi_dict_tup, gi_dict_scr, gi_dict_dct, tr_b, true_and, and_true, eq_self, exO_some, hTL_l, hTL_t, hName_e, hCons_c, hNil_n, bind_so, it_l, it_t, it_r, List.getElem?_cons_zero, List.getElem?_cons_succ, List.set_cons_zero, List.set_cons_succ, true_and, and_true, Nat.zero_le, snb, nnb, ex_some, dT, if_true, Bool.false_eq_true, if_false, wipeE, Int.reduceLT, List.length_nil, List.length_cons, Nat.reduceAdd, Nat.reduceLeDiff, Nat.reduceLT, g_inS, g_ixS, g_slS, g_join, frz_def, g_sort, g_rev, List.length_map, List.length_range]
      split
      · refine (ssaying_spec V6 y s hy).mono ?_
        rintro r rfl
        simp only [Z1, Z2, z_bO0, z_bO1, z_for, z_lc, onV_v, onV_e, onS_v, onS_e, onB_v, onB_e, onBR_v, onBR_e, onA_v, onA_e, onVB_v, onVB_e, onVA_v, onVA_e, onAA_v, onAA_e, onAO_v, onAO_e, onBB_v, onBB_e, onO_n, onO_r, onO_b, onO_c, onO_e, onT_n, onT_c, onT_b, onT_r, onT_e, onR_n, onR_r, onR_e, okK_s, okK_n, wO_some, wR_some, wB_some, wA_some, z_lf, z_shr, w_c, w_var, z_op, z_un, z_tB1, z_truR, z_chain, z_andT, z_orT, z_notT, z_andV, z_orV, z_notV, z_if, w_nil, z_cons, z_lst, z_tup, w_dct0, z_call, z_bn, z_sm, z_sl, z_star, z_sh, z_set, z_asg, z_drop, z_ret, w_retV, w_retN, w_nx, z_seq, w_frz, z_ifS, z_app, z_put, z_items, z_it, g_add, g_sub, g_neg, g_mul, g_rep, g_fdiv, g_mod, g_pow, g_addS, g_addL, g_cmp0, g_eqI, g_eqS, g_eqB, g_lenL, g_lenT, g_lenR, g_lenS, g_int, g_intB, g_str, g_listL, g_listT, g_listM, g_tup, g_abs, g_max2, g_min2, gz_ixL, gz_ixT, gz_ixR, g_slL, gi_bool_non, gi_bool_bl, gi_bool_int, gi_bool_str, gi_bool_lst, gi_bool_tup, gi_bool_scr, gi_bool_dct, gi_int_non, gi_int_bl, gi_int_int, gi_int_str, gi_int_lst, gi_int_tup, gi_int_scr, gi_int_dct, gi_str_non, gi_str_bl, gi_str_int, gi_str_str, gi_str_lst, gi_str_tup, gi_str_scr, gi_str_dct, gi_list_non, gi_list_bl, gi_list_int, gi_list_str, gi_list_lst, gi_list_tup, gi_list_scr, gi_list_dct, gi_tuple_non, gi_tuple_bl, gi_tuple_int, gi_tuple_str, gi_tuple_lst, gi_tuple_tup, gi_tuple_scr, gi_tuple_dct, gi_dict_non, gi_dict_bl, gi_dict_int, gi_dict_str, gi_dict_lst, gi_dict_tup, gi_dict_scr, gi_dict_dct, tr_b, true_and, and_true, eq_self, exO_some, hTL_l, hTL_t, hName_e, hCons_c, hNil_n, bind_so, it_l, it_t, it_r, List.getElem?_cons_zero, List.getElem?_cons_succ, List.set_cons_zero, List.set_cons_succ, true_and, and_true, Nat.zero_le, snb, nnb, ex_some, dT, if_true, Bool.false_eq_true, if_false, wipeE, Int.reduceLT, List.length_nil, List.length_cons, Nat.reduceAdd, Nat.reduceLeDiff, Nat.reduceLT, g_inS, g_ixS, g_slS, g_join, frz_def, g_sort, g_rev, List.length_map, List.length_range]
        exact ⟨_, rfl, sy_sc hs hy⟩
      · exact ⟨y, rfl, sy_up hy⟩
    rintro en2 ⟨y, rfl, hy⟩
    have hp := parts_ok y hy
    simp only [Z1, Z2, z_bO0, z_bO1, z_for, z_lc, onV_v, onV_e, onS_v, onS_e, onB_v, onB_e, onBR_v, onBR_e, onA_v, onA_e, onVB_v, onVB_e, onVA_v, onVA_e, onAA_v, onAA_e, onAO_v, onAO_e, onBB_v, onBB_e, onO_n, onO_r, onO_b, onO_c, onO_e, onT_n, onT_c, onT_b, onT_r, onT_e, onR_n, onR_r, onR_e, okK_s, okK_n, wO_some, wR_some, wB_some, wA_some, z_lf, z_shr, w_c, w_var, z_op, z_un, z_tB1, z_truR, z_chain, z_andT, z_orT, z_notT, z_andV, z_orV, z_notV, z_if, w_nil, z_cons, z_lst, z_tup, w_dct0, z_call, z_bn, z_sm, z_sl, z_star, z_sh, z_set, z_asg, z_drop, z_ret, w_retV, w_retN, w_nx, z_seq, w_frz, z_ifS, z_app, z_put, z_items, z_it, g_add, g_sub, g_neg, g_mul, g_rep, g_fdiv, g_mod, g_pow, g_addS, g_addL, g_cmp0, g_eqI, g_eqS, g_eqB, g_lenL, g_lenT, g_lenR, g_lenS, g_int, g_intB, g_str, g_listL, g_listT, g_listM, g_tup, g_abs, g_max2, g_min2, gz_ixL, gz_ixT, gz_ixR, g_slL, gi_bool_non, gi_bool_bl, gi_bool_int, gi_bool_str, gi_bool_lst, gi_bool_tup, gi_bool_scr, gi_bool_dct, gi_int_non, gi_int_bl, gi_int_int, gi_int_str, gi_int_lst, gi_int_tup, gi_int_scr, gi_int_dct, gi_str_non, gi_str_bl, gi_str_int, gi_str_str, gi_str_lst, gi_str_tup, gi_str_scr, gi_str_dct, gi_list_non, gi_list_bl, gi_list_int, gi_list_str, gi_list_lst, gi_list_tup, gi_list_scr, gi_list_dct, gi_tuple_non, gi_tuple_bl, gi_tuple_int, gi_tuple_str, gi_tuple_lst, gi_tuple_tup, gi_tuple_scr, gi_tuple_dct, gi_dict_non, gi_dict_bl, gi_dict_int, gi_dict_str, gi_dict_lst, gi_dict_tup, gi_dict_scr, gi_dict_dct, tr_b, true_and, and_true, eq_self, exO_some, hTL_l, hTL_t, hName_e, hCons_c, hNil_n, bind_so, it_l, it_t, it_r, List.getElem?_cons_zero, List.getElem?_cons_succ, List.set_cons_zero, List.set_cons_succ, true_and, and_true, Nat.zero_le, snb, nnb, ex_some, dT, if_true, Bool.false_eq_true, if_false, wipeE, Int.reduceLT, List.length_nil, List.length_cons, Nat.reduceAdd, Nat.reduceLeDiff, Nat.reduceLT, g_inS, g_ixS, g_slS, g_join, frz_def, g_sort, g_rev, List.length_map, List.length_range]
    refine (text_saying_spec y hy).mono ?_
    rintro r rfl
    simp only [Z1, Z2, z_bO0, z_bO1, z_for, z_lc, onV_v, onV_e, onS_v, onS_e, onB_v, onB_e, onBR_v, onBR_e, onA_v, onA_e, onVB_v, onVB_e, onVA_v, onVA_e, onAA_v, onAA_e, onAO_v, onAO_e, onBB_v, onBB_e, onO_n, onO_r, onO_b, onO_c, onO_e, onT_n, onT_c, onT_b, onT_r, onT_e, onR_n, onR_r, onR_e, okK_s, okK_n, wO_some, wR_some, wB_some, wA_some, z_lf, z_shr, w_c, w_var, z_op, z_un, z_tB1, z_truR, z_chain, z_andT, z_orT, z_notT, z_andV, z_orV, z_notV, z_if, w_nil, z_cons, z_lst, z_tup, w_dct0, z_call, z_bn, z_sm, z_sl, z_star, z_sh, z_set, z_asg, z_drop, z_ret, w_retV, w_retN, w_nx, z_seq, w_frz, z_ifS, z_app, z_put, z_items, z_it, g_add, g_sub, g_neg, g_mul, g_rep, g_fdiv, g_mod, g_pow, g_addS, g_addL, g_cmp0, g_eqI, g_eqS, g_eqB, g_lenL, g_lenT, g_lenR, g_lenS, g_int, g_intB, g_str, g_listL, g_listT, g_listM, g_tup, g_abs, g_max2, g_min2, gz_ixL, gz_ixT, gz_ixR, g_slL, gi_bool_non, gi_bool_bl, gi_bool_int, gi_bool_str, gi_bool_lst, gi_bool_tup, gi_bool_scr, gi_bool_dct, gi_int_non, gi_int_bl, gi_int_int, gi_int_str, gi_int_lst, gi_int_tup, gi_int_scr, gi_int_dct, gi_str_non, gi_str_bl, gi_str_int, gi_str_str, gi_str_lst, gi_str_tup, gi_str_scr, gi_str_dct, gi_list_non, gi_list_bl, gi_list_int, gi_list_str, gi_list_lst, gi_list_tup, gi_list_scr, gi_list_dct, gi_tuple_non, gi_tuple_bl, gi_tuple_int, gi_tuple_str, gi_tuple_lst, gi_tuple_tup, gi_tuple_scr, gi_tuple_dct, gi_dict_non, gi_dict_bl, gi_dict_int, gi_dict_str, gi_dict_lst, gi_dict_tup, gi_dict_scr, gi_dict_dct, tr_b, true_and, and_true, eq_self, exO_some, hTL_l, hTL_t, hName_e, hCons_c, hNil_n, bind_so, it_l, it_t, it_r, List.getElem?_cons_zero, List.getElem?_cons_succ, List.set_cons_zero, List.set_cons_succ, true_and, and_true, Nat.zero_le, snb, nnb, ex_some, dT, if_true, Bool.false_eq_true, if_false, wipeE, Int.reduceLT, List.length_nil, List.length_cons, Nat.reduceAdd, Nat.reduceLeDiff, Nat.reduceLT, g_inS, g_ixS, g_slS, g_join, frz_def, g_sort, g_rev, List.length_map, List.length_range]
    refine (show_saying_spec y hy).mono ?_
    rintro r rfl
    simp only [Z1, Z2, z_bO0, z_bO1, z_for, z_lc, onV_v, onV_e, onS_v, onS_e, onB_v, onB_e, onBR_v, onBR_e, onA_v, onA_e, onVB_v, onVB_e, onVA_v, onVA_e, onAA_v, onAA_e, onAO_v, onAO_e, onBB_v, onBB_e, onO_n, onO_r, onO_b, onO_c, onO_e, onT_n, onT_c, onT_b, onT_r, onT_e, onR_n, onR_r, onR_e, okK_s, okK_n, wO_some, wR_some, wB_some, wA_some, z_lf, z_shr, w_c, w_var, z_op, z_un, z_tB1, z_truR, z_chain, z_andT, z_orT, z_notT, z_andV, z_orV, z_notV, z_if, w_nil, z_cons, z_lst, z_tup, w_dct0, z_call, z_bn, z_sm, z_sl, z_star, z_sh, z_set, z_asg, z_drop, z_ret, w_retV, w_retN, w_nx, z_seq, w_frz, z_ifS, z_app, z_put, z_items, z_it, g_add, g_sub, g_neg, g_mul, g_rep, g_fdiv, g_mod, g_pow, g_addS, g_addL, g_cmp0, g_eqI, g_eqS, g_eqB, g_lenL, g_lenT, g_lenR, g_lenS, g_int, g_intB, g_str, g_listL, g_listT, g_listM, g_tup, g_abs, g_max2, g_min2, gz_ixL, gz_ixT, gz_ixR, g_slL, gi_bool_non, gi_bool_bl, gi_bool_int, gi_bool_str, gi_bool_lst, gi_bool_tup, gi_bool_scr, gi_bool_dct, gi_int_non, gi_int_bl, gi_int_int, gi_int_str, gi_int_lst, gi_int_tup, gi_int_scr, gi_int_dct, gi_str_non, gi_str_bl, gi_str_int, gi_str_str, gi_str_lst, gi_str_tup, gi_str_scr, gi_str_dct, gi_list_non, gi_list_bl, gi_list_int, gi_list_str, gi_list_lst, gi_list_tup, gi_list_scr, gi_list_dct, gi_tuple_non, gi_tuple_bl, gi_tuple_int, gi_tuple_str, gi_tuple_lst, gi_tuple_tup, gi_tuple_scr, gi_tuple_dct, gi_dict_non, gi_dict_bl, gi_dict_int, gi_dict_str, gi_dict_lst, gi_dict_tup, gi_dict_scr, gi_dict_dct, tr_b, true_and, and_true, eq_self, exO_some, hTL_l, hTL_t, hName_e, hCons_c, hNil_n, bind_so, it_l, it_t, it_r, List.getElem?_cons_zero, List.getElem?_cons_succ, List.set_cons_zero, List.set_cons_succ, true_and, and_true, Nat.zero_le, snb, nnb, ex_some, dT, if_true, Bool.false_eq_true, if_false, wipeE, Int.reduceLT, List.length_nil, List.length_cons, Nat.reduceAdd, Nat.reduceLeDiff, Nat.reduceLT, g_inS, g_ixS, g_slS, g_join, frz_def, g_sort, g_rev, List.length_map, List.length_range]
    refine (show_saying_spec y hy).mono ?_
    rintro r rfl
    simp only [Z1, Z2, z_bO0, z_bO1, z_for, z_lc, onV_v, onV_e, onS_v, onS_e, onB_v, onB_e, onBR_v, onBR_e, onA_v, onA_e, onVB_v, onVB_e, onVA_v, onVA_e, onAA_v, onAA_e, onAO_v, onAO_e, onBB_v, onBB_e, onO_n, onO_r, onO_b, onO_c, onO_e, onT_n, onT_c, onT_b, onT_r, onT_e, onR_n, onR_r, onR_e, okK_s, okK_n, wO_some, wR_some, wB_some, wA_some, z_lf, z_shr, w_c, w_var, z_op, z_un, z_tB1, z_truR, z_chain, z_andT, z_orT, z_notT, z_andV, z_orV, z_notV, z_if, w_nil, z_cons, z_lst, z_tup, w_dct0, z_call, z_bn, z_sm, z_sl, z_star, z_sh, z_set, z_asg, z_drop, z_ret, w_retV, w_retN, w_nx, z_seq, w_frz, z_ifS, z_app, z_put, z_items, z_it, g_add, g_sub, g_neg, g_mul, g_rep, g_fdiv, g_mod, g_pow, g_addS, g_addL, g_cmp0, g_eqI, g_eqS, g_eqB, g_lenL, g_lenT, g_lenR, g_lenS, g_int, g_intB, g_str, g_listL, g_listT, g_listM, g_tup, g_abs, g_max2, g_min2, gz_ixL, gz_ixT, gz_ixR, g_slL, gi_bool_non, gi_bool_bl, gi_bool_int, gi_bool_str, gi_bool_lst, gi_bool_tup, gi_bool_scr, gi_bool_dct, gi_int_non, gi_int_bl, gi_int_int, gi_int_str, gi_int_lst, gi_int_tup, gi_int_scr, gi_int_dct, gi_str_non, gi_str_bl, gi_str_int, gi_str_str, gi_str_lst, gi_str_tup, gi_str_scr, gi_str_dct, gi_list_non, gi_list_bl, gi_list_int, gi_list_str, gi_list_lst, gi_list_tup, gi_list_scr, gi_list_dct, gi_tuple_non, gi_tuple_bl, gi_tuple_int, gi_tuple_str, gi_tuple_lst, gi_tuple_tup, gi_tuple_scr, gi_tuple_dct, gi_dict_non, gi_dict_bl, gi_dict_int, gi_dict_str, gi_dict_lst, gi_dict_tup, gi_dict_scr, gi_dict_dct, tr_b, true_and, and_true, eq_self, exO_some, hTL_l, hTL_t, hName_e, hCons_c, hNil_n, bind_so, it_l, it_t, it_r, List.getElem?_cons_zero, List.getElem?_cons_succ, List.set_cons_zero, List.set_cons_succ, true_and, and_true, Nat.zero_le, snb, nnb, ex_some, dT, if_true, Bool.false_eq_true, if_false, wipeE, Int.reduceLT, List.length_nil, List.length_cons, Nat.reduceAdd, Nat.reduceLeDiff, Nat.reduceLT, g_inS, g_ixS, g_slS, g_join, frz_def, g_sort, g_rev, List.length_map, List.length_range]
    refine (same_strs [syT y, syT y] (by simp)).mono ?_
    rintro r rfl
    simp only [Z1, Z2, z_bO0, z_bO1, z_for, z_lc, onV_v, onV_e, onS_v, onS_e, onB_v, onB_e, onBR_v, onBR_e, onA_v, onA_e, onVB_v, onVB_e, onVA_v, onVA_e, onAA_v, onAA_e, onAO_v, onAO_e, onBB_v, onBB_e, onO_n, onO_r, onO_b, onO_c, onO_e, onT_n, onT_c, onT_b, onT_r, onT_e, onR_n, onR_r, onR_e, okK_s, okK_n, wO_some, wR_some, wB_some, wA_some, z_lf, z_shr, w_c, w_var, z_op, z_un, z_tB1, z_truR, z_chain, z_andT, z_orT, z_notT, z_andV, z_orV, z_notV, z_if, w_nil, z_cons, z_lst, z_tup, w_dct0, z_call, z_bn, z_sm, z_sl, z_star, z_sh, z_set, z_asg, z_drop, z_ret, w_retV, w_retN, w_nx, z_seq, w_frz, z_ifS, z_app, z_put, z_items, z_it, g_add, g_sub, g_neg, g_mul, g_rep, g_fdiv, g_mod, g_pow, g_addS, g_addL, g_cmp0, g_eqI, g_eqS, g_eqB, g_lenL, g_lenT, g_lenR, g_lenS, g_int, g_intB, g_str, g_listL, g_listT, g_listM, g_tup, g_abs, g_max2, g_min2, gz_ixL, gz_ixT, gz_ixR, g_slL, gi_bool_non, gi_bool_bl, gi_bool_int, gi_bool_str, gi_bool_lst, gi_bool_tup, gi_bool_scr, gi_bool_dct, gi_int_non, gi_int_bl, gi_int_int, gi_int_str, gi_int_lst, gi_int_tup, gi_int_scr, gi_int_dct, gi_str_non, gi_str_bl, gi_str_int, gi_str_str, gi_str_lst, gi_str_tup, gi_str_scr, gi_str_dct, gi_list_non, gi_list_bl, gi_list_int, gi_list_str, gi_list_lst, gi_list_tup, gi_list_scr, gi_list_dct, gi_tuple_non, gi_tuple_bl, gi_tuple_int, gi_tuple_str, gi_tuple_lst, gi_tuple_tup, gi_tuple_scr, gi_tuple_dct, gi_dict_non, gi_dict_bl, gi_dict_int, gi_dict_str, gi_dict_lst, gi_dict_tup, gi_dict_scr, gi_dict_dct, tr_b, true_and, and_true, eq_self, exO_some, hTL_l, hTL_t, hName_e, hCons_c, hNil_n, bind_so, it_l, it_t, it_r, List.getElem?_cons_zero, List.getElem?_cons_succ, List.set_cons_zero, List.set_cons_succ, true_and, and_true, Nat.zero_le, snb, nnb, ex_some, dT, if_true, Bool.false_eq_true, if_false, wipeE, Int.reduceLT, List.length_nil, List.length_cons, Nat.reduceAdd, Nat.reduceLeDiff, Nat.reduceLT, g_inS, g_ixS, g_slS, g_join, frz_def, g_sort, g_rev, List.length_map, List.length_range, Bool.not_true, D_eq, g_slT1]
    refine forD_inv _ (fun k en => ∃ o6 o7 o8 o9 : Option Sl, en = [some (Sl.sh (D.scr ns)), some (Sl.sh (partsD ps qs as)), some (Sl.sh s.D), some (.sh (.int n)), some (.sh (.tup (.str (nmT y) :: (trip y).map (·.2.1)))), some (.sh (.str (syT y))), o6, o7, o8, o9]) _ ⟨_, _, _, _, rfl⟩ ?_ ?_
    · rintro j d en hd ⟨o6, o7, o8, o9, rfl⟩
      rw [List.getElem?_map] at hd
      obtain ⟨t, ht, rfl⟩ := Option.map_eq_some_iff.mp hd
      refine ⟨_, rfl, ?_⟩
      rcases part_tup (hp t (List.mem_of_getElem? ht)) with hn | ⟨m, hm, em⟩
      · simp only [Z1, Z2, z_bO0, z_bO1, z_for, z_lc, onV_v, onV_e, onS_v, onS_e, onB_v, onB_e, onBR_v, onBR_e, onA_v, onA_e, onVB_v, onVB_e, onVA_v, onVA_e, onAA_v, onAA_e, onAO_v, onAO_e, onBB_v, onBB_e, onO_n, onO_r, onO_b, onO_c, onO_e, onT_n, onT_c, onT_b, onT_r, onT_e, onR_n, onR_r, onR_e, okK_s, okK_n, wO_some, wR_some, wB_some, wA_some, z_lf, z_shr, w_c, w_var, z_op, z_un, z_tB1, z_truR, z_chain, z_andT, z_orT, z_notT, z_andV, z_orV, z_notV, z_if, w_nil, z_cons, z_lst, z_tup, w_dct0, z_call, z_bn, z_sm, z_sl, z_star, z_sh, z_set, z_asg, z_drop, z_ret, w_retV, w_retN, w_nx, z_seq, w_frz, z_ifS, z_app, z_put, z_items, z_it, g_add, g_sub, g_neg, g_mul, g_rep, g_fdiv, g_mod, g_pow, g_addS, g_addL, g_cmp0, g_eqI, g_eqS, g_eqB, g_lenL, g_lenT, g_lenR, g_lenS, g_int, g_intB, g_str, g_listL, g_listT, g_listM, g_tup, g_abs, g_max2, g_min2, gz_ixL, gz_ixT, gz_ixR, g_slL, gi_bool_non, gi_bool_bl, gi_bool_int, gi_bool_str, gi_bool_lst, gi_bool_tup, gi_bool_scr, gi_bool_dct, gi_int_non, gi_int_bl, gi_int_int, gi_int_str, gi_int_lst, gi_int_tup, gi_int_scr, gi_int_dct, gi_str_non, gi_str_bl, gi_str_int, gi_str_str, gi_str_lst, gi_str_tup, gi_str_scr, gi_str_dct, gi_list_non, gi_list_bl, gi_list_int, gi_list_str, gi_list_lst, gi_list_tup, gi_list_scr, gi_list_dct, gi_tuple_non, gi_tuple_bl, gi_tuple_int, gi_tuple_str, gi_tuple_lst, gi_tuple_tup, gi_tuple_scr, gi_tuple_dct, gi_dict_non, gi_dict_bl, gi_dict_int, gi_dict_str, gi_dict_lst, gi_dict_tup, gi_dict_scr, gi_dict_dct, tr_b, true_and, and_true, eq_self, exO_some, hTL_l, hTL_t, hName_e, hCons_c, hNil_n, bind_so, it_l, it_t, it_r, List.getElem?_cons_zero, List.getElem?_cons_succ, List.set_cons_zero, List.set_cons_succ, true_and, and_true, Nat.zero_le, snb, nnb, ex_some, dT, if_true, Bool.false_eq_true, if_false, wipeE, Int.reduceLT, List.length_nil, List.length_cons, Nat.reduceAdd, Nat.reduceLeDiff, Nat.reduceLT, g_inS, g_ixS, g_slS, g_join, frz_def, g_sort, g_rev, List.length_map, List.length_range, hn]
        exact ⟨_, _, _, _, rfl⟩
      · rw [em]
        have fl := flat_ok hm
        simp only [Z1, Z2, z_bO0, z_bO1, z_for, z_lc, onV_v, onV_e, onS_v, onS_e, onB_v, onB_e, onBR_v, onBR_e, onA_v, onA_e, onVB_v, onVB_e, onVA_v, onVA_e, onAA_v, onAA_e, onAO_v, onAO_e, onBB_v, onBB_e, onO_n, onO_r, onO_b, onO_c, onO_e, onT_n, onT_c, onT_b, onT_r, onT_e, onR_n, onR_r, onR_e, okK_s, okK_n, wO_some, wR_some, wB_some, wA_some, z_lf, z_shr, w_c, w_var, z_op, z_un, z_tB1, z_truR, z_chain, z_andT, z_orT, z_notT, z_andV, z_orV, z_notV, z_if, w_nil, z_cons, z_lst, z_tup, w_dct0, z_call, z_bn, z_sm, z_sl, z_star, z_sh, z_set, z_asg, z_drop, z_ret, w_retV, w_retN, w_nx, z_seq, w_frz, z_ifS, z_app, z_put, z_items, z_it, g_add, g_sub, g_neg, g_mul, g_rep, g_fdiv, g_mod, g_pow, g_addS, g_addL, g_cmp0, g_eqI, g_eqS, g_eqB, g_lenL, g_lenT, g_lenR, g_lenS, g_int, g_intB, g_str, g_listL, g_listT, g_listM, g_tup, g_abs, g_max2, g_min2, gz_ixL, gz_ixT, gz_ixR, g_slL, gi_bool_non, gi_bool_bl, gi_bool_int, gi_bool_str, gi_bool_lst, gi_bool_tup, gi_bool_scr, gi_bool_dct, gi_int_non, gi_int_bl, gi_int_int, gi_int_str, gi_int_lst, gi_int_tup, gi_int_scr, gi_int_dct, gi_str_non, gi_str_bl, gi_str_int, gi_str_str, gi_str_lst, gi_str_tup, gi_str_scr, gi_str_dct, gi_list_non, gi_list_bl, gi_list_int, gi_list_str, gi_list_lst, gi_list_tup, gi_list_scr, gi_list_dct, gi_tuple_non, gi_tuple_bl, gi_tuple_int, gi_tuple_str, gi_tuple_lst, gi_tuple_tup, gi_tuple_scr, gi_tuple_dct, gi_dict_non, gi_dict_bl, gi_dict_int, gi_dict_str, gi_dict_lst, gi_dict_tup, gi_dict_scr, gi_dict_dct, tr_b, true_and, and_true, eq_self, exO_some, hTL_l, hTL_t, hName_e, hCons_c, hNil_n, bind_so, it_l, it_t, it_r, List.getElem?_cons_zero, List.getElem?_cons_succ, List.set_cons_zero, List.set_cons_succ, true_and, and_true, Nat.zero_le, snb, nnb, ex_some, dT, if_true, Bool.false_eq_true, if_false, wipeE, Int.reduceLT, List.length_nil, List.length_cons, Nat.reduceAdd, Nat.reduceLeDiff, Nat.reduceLT, g_inS, g_ixS, g_slS, g_join, frz_def, g_sort, g_rev, List.length_map, List.length_range, gi_tuple_tm, g_cutTm, g_addTm]
        refine (show_tm m hm).mono ?_
        rintro r rfl
        simp only [Z1, Z2, z_bO0, z_bO1, z_for, z_lc, onV_v, onV_e, onS_v, onS_e, onB_v, onB_e, onBR_v, onBR_e, onA_v, onA_e, onVB_v, onVB_e, onVA_v, onVA_e, onAA_v, onAA_e, onAO_v, onAO_e, onBB_v, onBB_e, onO_n, onO_r, onO_b, onO_c, onO_e, onT_n, onT_c, onT_b, onT_r, onT_e, onR_n, onR_r, onR_e, okK_s, okK_n, wO_some, wR_some, wB_some, wA_some, z_lf, z_shr, w_c, w_var, z_op, z_un, z_tB1, z_truR, z_chain, z_andT, z_orT, z_notT, z_andV, z_orV, z_notV, z_if, w_nil, z_cons, z_lst, z_tup, w_dct0, z_call, z_bn, z_sm, z_sl, z_star, z_sh, z_set, z_asg, z_drop, z_ret, w_retV, w_retN, w_nx, z_seq, w_frz, z_ifS, z_app, z_put, z_items, z_it, g_add, g_sub, g_neg, g_mul, g_rep, g_fdiv, g_mod, g_pow, g_addS, g_addL, g_cmp0, g_eqI, g_eqS, g_eqB, g_lenL, g_lenT, g_lenR, g_lenS, g_int, g_intB, g_str, g_listL, g_listT, g_listM, g_tup, g_abs, g_max2, g_min2, gz_ixL, gz_ixT, gz_ixR, g_slL, gi_bool_non, gi_bool_bl, gi_bool_int, gi_bool_str, gi_bool_lst, gi_bool_tup, gi_bool_scr, gi_bool_dct, gi_int_non, gi_int_bl, gi_int_int, gi_int_str, gi_int_lst, gi_int_tup, gi_int_scr, gi_int_dct, gi_str_non, gi_str_bl, gi_str_int, gi_str_str, gi_str_lst, gi_str_tup, gi_str_scr, gi_str_dct, gi_list_non, gi_list_bl, gi_list_int, gi_list_str, gi_list_lst, gi_list_tup, gi_list_scr, gi_list_dct, gi_tuple_non, gi_tuple_bl, gi_tuple_int, gi_tuple_str, gi_tuple_lst, gi_tuple_tup, gi_tuple_scr, gi_tuple_dct, gi_dict_non, gi_dict_bl, gi_dict_int, gi_dict_str, gi_dict_lst, gi_dict_tup, gi_dict_scr, gi_dict_dct, tr_b, true_and, and_true, eq_self, exO_some, hTL_l, hTL_t, hName_e, hCons_c, hNil_n, bind_so, it_l, it_t, it_r, List.getElem?_cons_zero, List.getElem?_cons_succ, List.set_cons_zero, List.set_cons_succ, true_and, and_true, Nat.zero_le, snb, nnb, ex_some, dT, if_true, Bool.false_eq_true, if_false, wipeE, Int.reduceLT, List.length_nil, List.length_cons, Nat.reduceAdd, Nat.reduceLeDiff, Nat.reduceLT, g_inS, g_ixS, g_slS, g_join, frz_def, g_sort, g_rev, List.length_map, List.length_range]
        refine (show_tm (flat m) fl).mono ?_
        rintro r rfl
        simp only [Z1, Z2, z_bO0, z_bO1, z_for, z_lc, onV_v, onV_e, onS_v, onS_e, onB_v, onB_e, onBR_v, onBR_e, onA_v, onA_e, onVB_v, onVB_e, onVA_v, onVA_e, onAA_v, onAA_e, onAO_v, onAO_e, onBB_v, onBB_e, onO_n, onO_r, onO_b, onO_c, onO_e, onT_n, onT_c, onT_b, onT_r, onT_e, onR_n, onR_r, onR_e, okK_s, okK_n, wO_some, wR_some, wB_some, wA_some, z_lf, z_shr, w_c, w_var, z_op, z_un, z_tB1, z_truR, z_chain, z_andT, z_orT, z_notT, z_andV, z_orV, z_notV, z_if, w_nil, z_cons, z_lst, z_tup, w_dct0, z_call, z_bn, z_sm, z_sl, z_star, z_sh, z_set, z_asg, z_drop, z_ret, w_retV, w_retN, w_nx, z_seq, w_frz, z_ifS, z_app, z_put, z_items, z_it, g_add, g_sub, g_neg, g_mul, g_rep, g_fdiv, g_mod, g_pow, g_addS, g_addL, g_cmp0, g_eqI, g_eqS, g_eqB, g_lenL, g_lenT, g_lenR, g_lenS, g_int, g_intB, g_str, g_listL, g_listT, g_listM, g_tup, g_abs, g_max2, g_min2, gz_ixL, gz_ixT, gz_ixR, g_slL, gi_bool_non, gi_bool_bl, gi_bool_int, gi_bool_str, gi_bool_lst, gi_bool_tup, gi_bool_scr, gi_bool_dct, gi_int_non, gi_int_bl, gi_int_int, gi_int_str, gi_int_lst, gi_int_tup, gi_int_scr, gi_int_dct, gi_str_non, gi_str_bl, gi_str_int, gi_str_str, gi_str_lst, gi_str_tup, gi_str_scr, gi_str_dct, gi_list_non, gi_list_bl, gi_list_int, gi_list_str, gi_list_lst, gi_list_tup, gi_list_scr, gi_list_dct, gi_tuple_non, gi_tuple_bl, gi_tuple_int, gi_tuple_str, gi_tuple_lst, gi_tuple_tup, gi_tuple_scr, gi_tuple_dct, gi_dict_non, gi_dict_bl, gi_dict_int, gi_dict_str, gi_dict_lst, gi_dict_tup, gi_dict_scr, gi_dict_dct, tr_b, true_and, and_true, eq_self, exO_some, hTL_l, hTL_t, hName_e, hCons_c, hNil_n, bind_so, it_l, it_t, it_r, List.getElem?_cons_zero, List.getElem?_cons_succ, List.set_cons_zero, List.set_cons_succ, true_and, and_true, Nat.zero_le, snb, nnb, ex_some, dT, if_true, Bool.false_eq_true, if_false, wipeE, Int.reduceLT, List.length_nil, List.length_cons, Nat.reduceAdd, Nat.reduceLeDiff, Nat.reduceLT, g_inS, g_ixS, g_slS, g_join, frz_def, g_sort, g_rev, List.length_map, List.length_range]
        refine (show_tm m hm).mono ?_
        rintro r rfl
        simp only [Z1, Z2, z_bO0, z_bO1, z_for, z_lc, onV_v, onV_e, onS_v, onS_e, onB_v, onB_e, onBR_v, onBR_e, onA_v, onA_e, onVB_v, onVB_e, onVA_v, onVA_e, onAA_v, onAA_e, onAO_v, onAO_e, onBB_v, onBB_e, onO_n, onO_r, onO_b, onO_c, onO_e, onT_n, onT_c, onT_b, onT_r, onT_e, onR_n, onR_r, onR_e, okK_s, okK_n, wO_some, wR_some, wB_some, wA_some, z_lf, z_shr, w_c, w_var, z_op, z_un, z_tB1, z_truR, z_chain, z_andT, z_orT, z_notT, z_andV, z_orV, z_notV, z_if, w_nil, z_cons, z_lst, z_tup, w_dct0, z_call, z_bn, z_sm, z_sl, z_star, z_sh, z_set, z_asg, z_drop, z_ret, w_retV, w_retN, w_nx, z_seq, w_frz, z_ifS, z_app, z_put, z_items, z_it, g_add, g_sub, g_neg, g_mul, g_rep, g_fdiv, g_mod, g_pow, g_addS, g_addL, g_cmp0, g_eqI, g_eqS, g_eqB, g_lenL, g_lenT, g_lenR, g_lenS, g_int, g_intB, g_str, g_listL, g_listT, g_listM, g_tup, g_abs, g_max2, g_min2, gz_ixL, gz_ixT, gz_ixR, g_slL, gi_bool_non, gi_bool_bl, gi_bool_int, gi_bool_str, gi_bool_lst, gi_bool_tup, gi_bool_scr, gi_bool_dct, gi_int_non, gi_int_bl, gi_int_int, gi_int_str, gi_int_lst, gi_int_tup, gi_int_scr, gi_int_dct, gi_str_non, gi_str_bl, gi_str_int, gi_str_str, gi_str_lst, gi_str_tup, gi_str_scr, gi_str_dct, gi_list_non, gi_list_bl, gi_list_int, gi_list_str, gi_list_lst, gi_list_tup, gi_list_scr, gi_list_dct, gi_tuple_non, gi_tuple_bl, gi_tuple_int, gi_tuple_str, gi_tuple_lst, gi_tuple_tup, gi_tuple_scr, gi_tuple_dct, gi_dict_non, gi_dict_bl, gi_dict_int, gi_dict_str, gi_dict_lst, gi_dict_tup, gi_dict_scr, gi_dict_dct, tr_b, true_and, and_true, eq_self, exO_some, hTL_l, hTL_t, hName_e, hCons_c, hNil_n, bind_so, it_l, it_t, it_r, List.getElem?_cons_zero, List.getElem?_cons_succ, List.set_cons_zero, List.set_cons_succ, true_and, and_true, Nat.zero_le, snb, nnb, ex_some, dT, if_true, Bool.false_eq_true, if_false, wipeE, Int.reduceLT, List.length_nil, List.length_cons, Nat.reduceAdd, Nat.reduceLeDiff, Nat.reduceLT, g_inS, g_ixS, g_slS, g_join, frz_def, g_sort, g_rev, List.length_map, List.length_range]
        refine (text_tm m hm).mono ?_
        rintro r rfl
        simp only [Z1, Z2, z_bO0, z_bO1, z_for, z_lc, onV_v, onV_e, onS_v, onS_e, onB_v, onB_e, onBR_v, onBR_e, onA_v, onA_e, onVB_v, onVB_e, onVA_v, onVA_e, onAA_v, onAA_e, onAO_v, onAO_e, onBB_v, onBB_e, onO_n, onO_r, onO_b, onO_c, onO_e, onT_n, onT_c, onT_b, onT_r, onT_e, onR_n, onR_r, onR_e, okK_s, okK_n, wO_some, wR_some, wB_some, wA_some, z_lf, z_shr, w_c, w_var, z_op, z_un, z_tB1, z_truR, z_chain, z_andT, z_orT, z_notT, z_andV, z_orV, z_notV, z_if, w_nil, z_cons, z_lst, z_tup, w_dct0, z_call, z_bn, z_sm, z_sl, z_star, z_sh, z_set, z_asg, z_drop, z_ret, w_retV, w_retN, w_nx, z_seq, w_frz, z_ifS, z_app, z_put, z_items, z_it, g_add, g_sub, g_neg, g_mul, g_rep, g_fdiv, g_mod, g_pow, g_addS, g_addL, g_cmp0, g_eqI, g_eqS, g_eqB, g_lenL, g_lenT, g_lenR, g_lenS, g_int, g_intB, g_str, g_listL, g_listT, g_listM, g_tup, g_abs, g_max2, g_min2, gz_ixL, gz_ixT, gz_ixR, g_slL, gi_bool_non, gi_bool_bl, gi_bool_int, gi_bool_str, gi_bool_lst, gi_bool_tup, gi_bool_scr, gi_bool_dct, gi_int_non, gi_int_bl, gi_int_int, gi_int_str, gi_int_lst, gi_int_tup, gi_int_scr, gi_int_dct, gi_str_non, gi_str_bl, gi_str_int, gi_str_str, gi_str_lst, gi_str_tup, gi_str_scr, gi_str_dct, gi_list_non, gi_list_bl, gi_list_int, gi_list_str, gi_list_lst, gi_list_tup, gi_list_scr, gi_list_dct, gi_tuple_non, gi_tuple_bl, gi_tuple_int, gi_tuple_str, gi_tuple_lst, gi_tuple_tup, gi_tuple_scr, gi_tuple_dct, gi_dict_non, gi_dict_bl, gi_dict_int, gi_dict_str, gi_dict_lst, gi_dict_tup, gi_dict_scr, gi_dict_dct, tr_b, true_and, and_true, eq_self, exO_some, hTL_l, hTL_t, hName_e, hCons_c, hNil_n, bind_so, it_l, it_t, it_r, List.getElem?_cons_zero, List.getElem?_cons_succ, List.set_cons_zero, List.set_cons_succ, true_and, and_true, Nat.zero_le, snb, nnb, ex_some, dT, if_true, Bool.false_eq_true, if_false, wipeE, Int.reduceLT, List.length_nil, List.length_cons, Nat.reduceAdd, Nat.reduceLeDiff, Nat.reduceLT, g_inS, g_ixS, g_slS, g_join, frz_def, g_sort, g_rev, List.length_map, List.length_range]
        refine (text_tm (flat m) fl).mono ?_
        rintro r rfl
        simp only [Z1, Z2, z_bO0, z_bO1, z_for, z_lc, onV_v, onV_e, onS_v, onS_e, onB_v, onB_e, onBR_v, onBR_e, onA_v, onA_e, onVB_v, onVB_e, onVA_v, onVA_e, onAA_v, onAA_e, onAO_v, onAO_e, onBB_v, onBB_e, onO_n, onO_r, onO_b, onO_c, onO_e, onT_n, onT_c, onT_b, onT_r, onT_e, onR_n, onR_r, onR_e, okK_s, okK_n, wO_some, wR_some, wB_some, wA_some, z_lf, z_shr, w_c, w_var, z_op, z_un, z_tB1, z_truR, z_chain, z_andT, z_orT, z_notT, z_andV, z_orV, z_notV, z_if, w_nil, z_cons, z_lst, z_tup, w_dct0, z_call, z_bn, z_sm, z_sl, z_star, z_sh, z_set, z_asg, z_drop, z_ret, w_retV, w_retN, w_nx, z_seq, w_frz, z_ifS, z_app, z_put, z_items, z_it, g_add, g_sub, g_neg, g_mul, g_rep, g_fdiv, g_mod, g_pow, g_addS, g_addL, g_cmp0, g_eqI, g_eqS, g_eqB, g_lenL, g_lenT, g_lenR, g_lenS, g_int, g_intB, g_str, g_listL, g_listT, g_listM, g_tup, g_abs, g_max2, g_min2, gz_ixL, gz_ixT, gz_ixR, g_slL, gi_bool_non, gi_bool_bl, gi_bool_int, gi_bool_str, gi_bool_lst, gi_bool_tup, gi_bool_scr, gi_bool_dct, gi_int_non, gi_int_bl, gi_int_int, gi_int_str, gi_int_lst, gi_int_tup, gi_int_scr, gi_int_dct, gi_str_non, gi_str_bl, gi_str_int, gi_str_str, gi_str_lst, gi_str_tup, gi_str_scr, gi_str_dct, gi_list_non, gi_list_bl, gi_list_int, gi_list_str, gi_list_lst, gi_list_tup, gi_list_scr, gi_list_dct, gi_tuple_non, gi_tuple_bl, gi_tuple_int, gi_tuple_str, gi_tuple_lst, gi_tuple_tup, gi_tuple_scr, gi_tuple_dct, gi_dict_non, gi_dict_bl, gi_dict_int, gi_dict_str, gi_dict_lst, gi_dict_tup, gi_dict_scr, gi_dict_dct, tr_b, true_and, and_true, eq_self, exO_some, hTL_l, hTL_t, hName_e, hCons_c, hNil_n, bind_so, it_l, it_t, it_r, List.getElem?_cons_zero, List.getElem?_cons_succ, List.set_cons_zero, List.set_cons_succ, true_and, and_true, Nat.zero_le, snb, nnb, ex_some, dT, if_true, Bool.false_eq_true, if_false, wipeE, Int.reduceLT, List.length_nil, List.length_cons, Nat.reduceAdd, Nat.reduceLeDiff, Nat.reduceLT, g_inS, g_ixS, g_slS, g_join, frz_def, g_sort, g_rev, List.length_map, List.length_range]
        refine (same_strs [tmT m, tmT (flat m), tmT m] (by simp)).mono ?_
        rintro r rfl
        simp only [Z1, Z2, z_bO0, z_bO1, z_for, z_lc, onV_v, onV_e, onS_v, onS_e, onB_v, onB_e, onBR_v, onBR_e, onA_v, onA_e, onVB_v, onVB_e, onVA_v, onVA_e, onAA_v, onAA_e, onAO_v, onAO_e, onBB_v, onBB_e, onO_n, onO_r, onO_b, onO_c, onO_e, onT_n, onT_c, onT_b, onT_r, onT_e, onR_n, onR_r, onR_e, okK_s, okK_n, wO_some, wR_some, wB_some, wA_some, z_lf, z_shr, w_c, w_var, z_op, z_un, z_tB1, z_truR, z_chain, z_andT, z_orT, z_notT, z_andV, z_orV, z_notV, z_if, w_nil, z_cons, z_lst, z_tup, w_dct0, z_call, z_bn, z_sm, z_sl, z_star, z_sh, z_set, z_asg, z_drop, z_ret, w_retV, w_retN, w_nx, z_seq, w_frz, z_ifS, z_app, z_put, z_items, z_it, g_add, g_sub, g_neg, g_mul, g_rep, g_fdiv, g_mod, g_pow, g_addS, g_addL, g_cmp0, g_eqI, g_eqS, g_eqB, g_lenL, g_lenT, g_lenR, g_lenS, g_int, g_intB, g_str, g_listL, g_listT, g_listM, g_tup, g_abs, g_max2, g_min2, gz_ixL, gz_ixT, gz_ixR, g_slL, gi_bool_non, gi_bool_bl, gi_bool_int, gi_bool_str, gi_bool_lst, gi_bool_tup, gi_bool_scr, gi_bool_dct, gi_int_non, gi_int_bl, gi_int_int, gi_int_str, gi_int_lst, gi_int_tup, gi_int_scr, gi_int_dct, gi_str_non, gi_str_bl, gi_str_int, gi_str_str, gi_str_lst, gi_str_tup, gi_str_scr, gi_str_dct, gi_list_non, gi_list_bl, gi_list_int, gi_list_str, gi_list_lst, gi_list_tup, gi_list_scr, gi_list_dct, gi_tuple_non, gi_tuple_bl, gi_tuple_int, gi_tuple_str, gi_tuple_lst, gi_tuple_tup, gi_tuple_scr, gi_tuple_dct, gi_dict_non, gi_dict_bl, gi_dict_int, gi_dict_str, gi_dict_lst, gi_dict_tup, gi_dict_scr, gi_dict_dct, tr_b, true_and, and_true, eq_self, exO_some, hTL_l, hTL_t, hName_e, hCons_c, hNil_n, bind_so, it_l, it_t, it_r, List.getElem?_cons_zero, List.getElem?_cons_succ, List.set_cons_zero, List.set_cons_succ, true_and, and_true, Nat.zero_le, snb, nnb, ex_some, dT, if_true, Bool.false_eq_true, if_false, wipeE, Int.reduceLT, List.length_nil, List.length_cons, Nat.reduceAdd, Nat.reduceLeDiff, Nat.reduceLT, g_inS, g_ixS, g_slS, g_join, frz_def, g_sort, g_rev, List.length_map, List.length_range, Bool.not_true]
        exact ⟨_, _, _, _, rfl⟩
    · rintro en ⟨o6, o7, o8, o9, rfl⟩
      simp only [Z1, Z2, z_bO0, z_bO1, z_for, z_lc, onV_v, onV_e, onS_v, onS_e, onB_v, onB_e, onBR_v, onBR_e, onA_v, onA_e, onVB_v, onVB_e, onVA_v, onVA_e, onAA_v, onAA_e, onAO_v, onAO_e, onBB_v, onBB_e, onO_n, onO_r, onO_b, onO_c, onO_e, onT_n, onT_c, onT_b, onT_r, onT_e, onR_n, onR_r, onR_e, okK_s, okK_n, wO_some, wR_some, wB_some, wA_some, z_lf, z_shr, w_c, w_var, z_op, z_un, z_tB1, z_truR, z_chain, z_andT, z_orT, z_notT, z_andV, z_orV, z_notV, z_if, w_nil, z_cons, z_lst, z_tup, w_dct0, z_call, z_bn, z_sm, z_sl, z_star, z_sh, z_set, z_asg, z_drop, z_ret, w_retV, w_retN, w_nx, z_seq, w_frz, z_ifS, z_app, z_put, z_items, z_it, g_add, g_sub, g_neg, g_mul, g_rep, g_fdiv, g_mod, g_pow, g_addS, g_addL, g_cmp0, g_eqI, g_eqS, g_eqB, g_lenL, g_lenT, g_lenR, g_lenS, g_int, g_intB, g_str, g_listL, g_listT, g_listM, g_tup, g_abs, g_max2, g_min2, gz_ixL, gz_ixT, gz_ixR, g_slL, gi_bool_non, gi_bool_bl, gi_bool_int, gi_bool_str, gi_bool_lst, gi_bool_tup, gi_bool_scr, gi_bool_dct, gi_int_non, gi_int_bl, gi_int_int, gi_int_str, gi_int_lst, gi_int_tup, gi_int_scr, gi_int_dct, gi_str_non, gi_str_bl, gi_str_int, gi_str_str, gi_str_lst, gi_str_tup, gi_str_scr, gi_str_dct, gi_list_non, gi_list_bl, gi_list_int, gi_list_str, gi_list_lst, gi_list_tup, gi_list_scr, gi_list_dct, gi_tuple_non, gi_tuple_bl, gi_tuple_int, gi_tuple_str, gi_tuple_lst, gi_tuple_tup, gi_tuple_scr, gi_tuple_dct, gi_dict_non, gi_dict_bl, gi_dict_int, gi_dict_str, gi_dict_lst, gi_dict_tup, gi_dict_scr, gi_dict_dct, tr_b, true_and, and_true, eq_self, exO_some, hTL_l, hTL_t, hName_e, hCons_c, hNil_n, bind_so, it_l, it_t, it_r, List.getElem?_cons_zero, List.getElem?_cons_succ, List.set_cons_zero, List.set_cons_succ, true_and, and_true, Nat.zero_le, snb, nnb, ex_some, dT, if_true, Bool.false_eq_true, if_false, wipeE, Int.reduceLT, List.length_nil, List.length_cons, Nat.reduceAdd, Nat.reduceLeDiff, Nat.reduceLT, g_inS, g_ixS, g_slS, g_join, frz_def, g_sort, g_rev, List.length_map, List.length_range]
      exact ⟨_, _, _, _, _, _, _, rfl⟩
  · rintro en ⟨o3, o4, o5, o6, o7, o8, o9, rfl⟩
    simp only [Z1, Z2, z_bO0, z_bO1, z_for, z_lc, onV_v, onV_e, onS_v, onS_e, onB_v, onB_e, onBR_v, onBR_e, onA_v, onA_e, onVB_v, onVB_e, onVA_v, onVA_e, onAA_v, onAA_e, onAO_v, onAO_e, onBB_v, onBB_e, onO_n, onO_r, onO_b, onO_c, onO_e, onT_n, onT_c, onT_b, onT_r, onT_e, onR_n, onR_r, onR_e, okK_s, okK_n, wO_some, wR_some, wB_some, wA_some, z_lf, z_shr, w_c, w_var, z_op, z_un, z_tB1, z_truR, z_chain, z_andT, z_orT, z_notT, z_andV, z_orV, z_notV, z_if, w_nil, z_cons, z_lst, z_tup, w_dct0, z_call, z_bn, z_sm, z_sl, z_star, z_sh, z_set, z_asg, z_drop, z_ret, w_retV, w_retN, w_nx, z_seq, w_frz, z_ifS, z_app, z_put, z_items, z_it, g_add, g_sub, g_neg, g_mul, g_rep, g_fdiv, g_mod, g_pow, g_addS, g_addL, g_cmp0, g_eqI, g_eqS, g_eqB, g_lenL, g_lenT, g_lenR, g_lenS, g_int, g_intB, g_str, g_listL, g_listT, g_listM, g_tup, g_abs, g_max2, g_min2, gz_ixL, gz_ixT, gz_ixR, g_slL, gi_bool_non, gi_bool_bl, gi_bool_int, gi_bool_str, gi_bool_lst, gi_bool_tup, gi_bool_scr, gi_bool_dct, gi_int_non, gi_int_bl, gi_int_int, gi_int_str, gi_int_lst, gi_int_tup, gi_int_scr, gi_int_dct, gi_str_non, gi_str_bl, gi_str_int, gi_str_str, gi_str_lst, gi_str_tup, gi_str_scr, gi_str_dct, gi_list_non, gi_list_bl, gi_list_int, gi_list_str, gi_list_lst, gi_list_tup, gi_list_scr, gi_list_dct, gi_tuple_non, gi_tuple_bl, gi_tuple_int, gi_tuple_str, gi_tuple_lst, gi_tuple_tup, gi_tuple_scr, gi_tuple_dct, gi_dict_non, gi_dict_bl, gi_dict_int, gi_dict_str, gi_dict_lst, gi_dict_tup, gi_dict_scr, gi_dict_dct, tr_b, true_and, and_true, eq_self, exO_some, hTL_l, hTL_t, hName_e, hCons_c, hNil_n, bind_so, it_l, it_t, it_r, List.getElem?_cons_zero, List.getElem?_cons_succ, List.set_cons_zero, List.set_cons_succ, true_and, and_true, Nat.zero_le, snb, nnb, ex_some, dT, if_true, Bool.false_eq_true, if_false, wipeE, Int.reduceLT, List.length_nil, List.length_cons, Nat.reduceAdd, Nat.reduceLeDiff, Nat.reduceLT, g_inS, g_ixS, g_slS, g_join, frz_def, g_sort, g_rev, List.length_map, List.length_range]
end K75
namespace K75
open PySem PySem.Spec PyProof.Rows L2 PD C
def spLaw (K : PySem.W.Frag) : Sp := fun vs H Q _ => ∃ (a : Addr) (ns : List Int), vs = [.ref a] ∧ SqL K H a (ns.map V.int) ∧ ns.length ≤ 63 ∧ ∀ H', Q (.bl true) H'
theorem law_ok {P : Program} {w : World} {K : PySem.W.Frag} {mg : Str → Option Value} {base : Heap} {fa : Nat → Addr} {fd : Nat → FuncData} {ct : Nat → Tok} {ca : Nat → Addr} (T : Tx w K mg fa fd ct ca) : FnOk P w K mg base (L2.CX P w) 12 (fa 19) (fd 19) ["_law_script"] (spLaw K) :=
  (w_law (cn := fun _ => 0) T).imp fun vs H Q E h => by
    obtain ⟨a, ns, rfl, hS, hl, k⟩ := h
    refine ⟨H, [.scr ns], _, Same.refl _, .cons (.scr hS) .nil, rfl, law_true ns hl, ?_⟩
    intro v G' H' st vi
    have e : v = .bl true := (VI.db vi).bl
    rw [e]
    exact k H'
theorem all_mk {l : PySem.W.OpenLaw} {w : World} {K : PySem.W.Frag} {h : Heap} {mg : Str → Option Value} {fl : Addr} (X : K.In h) (G : h.Ns mainGlobals mg) (hfa : mg "law" = some (.ref fl))
    {od0 an0 : Option Addr} {sl0 : Array (Option Value)} {oc0 kV0 dc0 pm0 cd0 ct0 : Value} {f0 : Addr}
    {od1 an1 : Option Addr} {sl1 : Array (Option Value)} {oc1 kV1 dc1 pm1 cd1 ct1 : Value} {f1 : Addr}
    {od2 an2 : Option Addr} {sl2 : Array (Option Value)} {oc2 kV2 dc2 pm2 cd2 ct2 : Value} {f2 : Addr}
    {od3 an3 : Option Addr} {sl3 : Array (Option Value)} {oc3 kV3 dc3 pm3 cd3 ct3 : Value} {f3 : Addr}
    {od4 an4 : Option Addr} {sl4 : Array (Option Value)} {oc4 kV4 dc4 pm4 cd4 ct4 : Value} {f4 : Addr}
    {od5 an5 : Option Addr} {sl5 : Array (Option Value)} {oc5 kV5 dc5 pm5 cd5 ct5 : Value} {f5 : Addr}
    {od6 an6 : Option Addr} {sl6 : Array (Option Value)} {oc6 kV6 dc6 pm6 cd6 ct6 : Value} {f6 : Addr}
    {od7 an7 : Option Addr} {sl7 : Array (Option Value)} {oc7 kV7 dc7 pm7 cd7 ct7 : Value} {f7 : Addr}
    {od8 an8 : Option Addr} {sl8 : Array (Option Value)} {oc8 kV8 dc8 pm8 cd8 ct8 : Value} {f8 : Addr}
    {od9 an9 : Option Addr} {sl9 : Array (Option Value)} {oc9 kV9 dc9 pm9 cd9 ct9 : Value} {f9 : Addr}
    {od10 an10 : Option Addr} {sl10 : Array (Option Value)} {oc10 kV10 dc10 pm10 cd10 ct10 : Value} {f10 : Addr}
    {od11 an11 : Option Addr} {sl11 : Array (Option Value)} {oc11 kV11 dc11 pm11 cd11 ct11 : Value} {f11 : Addr}
    {od12 an12 : Option Addr} {sl12 : Array (Option Value)} {oc12 kV12 dc12 pm12 cd12 ct12 : Value} {f12 : Addr}
    {od13 an13 : Option Addr} {sl13 : Array (Option Value)} {oc13 kV13 dc13 pm13 cd13 ct13 : Value} {f13 : Addr}
    {od14 an14 : Option Addr} {sl14 : Array (Option Value)} {oc14 kV14 dc14 pm14 cd14 ct14 : Value} {f14 : Addr}
    {od15 an15 : Option Addr} {sl15 : Array (Option Value)} {oc15 kV15 dc15 pm15 cd15 ct15 : Value} {f15 : Addr}
    {od16 an16 : Option Addr} {sl16 : Array (Option Value)} {oc16 kV16 dc16 pm16 cd16 ct16 : Value} {f16 : Addr}
    {od17 an17 : Option Addr} {sl17 : Array (Option Value)} {oc17 kV17 dc17 pm17 cd17 ct17 : Value} {f17 : Addr}
    {od18 an18 : Option Addr} {sl18 : Array (Option Value)} {oc18 kV18 dc18 pm18 cd18 ct18 : Value} {f18 : Addr}
    {od19 an19 : Option Addr} {sl19 : Array (Option Value)} {oc19 kV19 dc19 pm19 cd19 ct19 : Value} {f19 : Addr}
    (a0 : PySem.W.nsIn K mainGlobals "_law_same" = some (some (.ref f0))) (l0 : K.lookup f0 = some ⟨oc0, od0, .func (PySem.W.fnOf "_law_same" "_law_same" (defArgs s_Lsame) (defBody s_Lsame) (defScope s_Lsame) .none kV0 dc0 pm0 an0 cd0 ct0), sl0⟩) (c0 : PySem.W.codeIn K cd0 "_law_same" = true) (k0 : PySem.W.keepIn K (.ref f0) = true)
    (a1 : PySem.W.nsIn K mainGlobals "_law_tail_text" = some (some (.ref f1))) (l1 : K.lookup f1 = some ⟨oc1, od1, .func (PySem.W.fnOf "_law_tail_text" "_law_tail_text" (defArgs s_Ltail_text) (defBody s_Ltail_text) (defScope s_Ltail_text) .none kV1 dc1 pm1 an1 cd1 ct1), sl1⟩) (c1 : PySem.W.codeIn K cd1 "_law_tail_text" = true) (k1 : PySem.W.keepIn K (.ref f1) = true)
    (a2 : PySem.W.nsIn K mainGlobals "_law_term_text" = some (some (.ref f2))) (l2 : K.lookup f2 = some ⟨oc2, od2, .func (PySem.W.fnOf "_law_term_text" "_law_term_text" (defArgs s_Lterm_text) (defBody s_Lterm_text) (defScope s_Lterm_text) .none kV2 dc2 pm2 an2 cd2 ct2), sl2⟩) (c2 : PySem.W.codeIn K cd2 "_law_term_text" = true) (k2 : PySem.W.keepIn K (.ref f2) = true)
    (a3 : PySem.W.nsIn K mainGlobals "show_tail" = some (some (.ref f3))) (l3 : K.lookup f3 = some ⟨oc3, od3, .func (PySem.W.fnOf "show_tail" "show_tail" (defArgs s_show_tail) (defBody s_show_tail) (defScope s_show_tail) .none kV3 dc3 pm3 an3 cd3 ct3), sl3⟩) (c3 : PySem.W.codeIn K cd3 "show_tail" = true) (k3 : PySem.W.keepIn K (.ref f3) = true)
    (a4 : PySem.W.nsIn K mainGlobals "show_term" = some (some (.ref f4))) (l4 : K.lookup f4 = some ⟨oc4, od4, .func (PySem.W.fnOf "show_term" "show_term" (defArgs s_show_term) (defBody s_show_term) (defScope s_show_term) .none kV4 dc4 pm4 an4 cd4 ct4), sl4⟩) (c4 : PySem.W.codeIn K cd4 "show_term" = true) (k4 : PySem.W.keepIn K (.ref f4) = true)
    (a5 : PySem.W.nsIn K mainGlobals "show_part" = some (some (.ref f5))) (l5 : K.lookup f5 = some ⟨oc5, od5, .func (PySem.W.fnOf "show_part" "show_part" (defArgs s_show_part) (defBody s_show_part) (defScope s_show_part) .none kV5 dc5 pm5 an5 cd5 ct5), sl5⟩) (c5 : PySem.W.codeIn K cd5 "show_part" = true) (k5 : PySem.W.keepIn K (.ref f5) = true)
    (a6 : PySem.W.nsIn K mainGlobals "show_saying" = some (some (.ref f6))) (l6 : K.lookup f6 = some ⟨oc6, od6, .func (PySem.W.fnOf "show_saying" "show_saying" (defArgs s_show_saying) (defBody s_show_saying) (defScope s_show_saying) .none kV6 dc6 pm6 an6 cd6 ct6), sl6⟩) (c6 : PySem.W.codeIn K cd6 "show_saying" = true) (k6 : PySem.W.keepIn K (.ref f6) = true)
    (a7 : PySem.W.nsIn K mainGlobals "_law_saying_text" = some (some (.ref f7))) (l7 : K.lookup f7 = some ⟨oc7, od7, .func (PySem.W.fnOf "_law_saying_text" "_law_saying_text" (defArgs s_Lsaying_text) (defBody s_Lsaying_text) (defScope s_Lsaying_text) .none kV7 dc7 pm7 an7 cd7 ct7), sl7⟩) (c7 : PySem.W.codeIn K cd7 "_law_saying_text" = true) (k7 : PySem.W.keepIn K (.ref f7) = true)
    (a8 : PySem.W.nsIn K mainGlobals "_law_scaled_term" = some (some (.ref f8))) (l8 : K.lookup f8 = some ⟨oc8, od8, .func (PySem.W.fnOf "_law_scaled_term" "_law_scaled_term" (defArgs s_Lscaled_term) (defBody s_Lscaled_term) (defScope s_Lscaled_term) .none kV8 dc8 pm8 an8 cd8 ct8), sl8⟩) (c8 : PySem.W.codeIn K cd8 "_law_scaled_term" = true) (k8 : PySem.W.keepIn K (.ref f8) = true)
    (a9 : PySem.W.nsIn K mainGlobals "_law_scaled_saying" = some (some (.ref f9))) (l9 : K.lookup f9 = some ⟨oc9, od9, .func (PySem.W.fnOf "_law_scaled_saying" "_law_scaled_saying" (defArgs s_Lscaled_saying) (defBody s_Lscaled_saying) (defScope s_Lscaled_saying) .none kV9 dc9 pm9 an9 cd9 ct9), sl9⟩) (c9 : PySem.W.codeIn K cd9 "_law_scaled_saying" = true) (k9 : PySem.W.keepIn K (.ref f9) = true)
    (a10 : PySem.W.nsIn K mainGlobals "_law_sums" = some (some (.ref f10))) (l10 : K.lookup f10 = some ⟨oc10, od10, .func (PySem.W.fnOf "_law_sums" "_law_sums" (defArgs s_Lsums) (defBody s_Lsums) (defScope s_Lsums) .none kV10 dc10 pm10 an10 cd10 ct10), sl10⟩) (c10 : PySem.W.codeIn K cd10 "_law_sums" = true) (k10 : PySem.W.keepIn K (.ref f10) = true)
    (a11 : PySem.W.nsIn K mainGlobals "_law_figure" = some (some (.ref f11))) (l11 : K.lookup f11 = some ⟨oc11, od11, .func (PySem.W.fnOf "_law_figure" "_law_figure" (defArgs s_Lfigure) (defBody s_Lfigure) (defScope s_Lfigure) .none kV11 dc11 pm11 an11 cd11 ct11), sl11⟩) (c11 : PySem.W.codeIn K cd11 "_law_figure" = true) (k11 : PySem.W.keepIn K (.ref f11) = true)
    (a12 : PySem.W.nsIn K mainGlobals "_law_draws" = some (some (.ref f12))) (l12 : K.lookup f12 = some ⟨oc12, od12, .func (PySem.W.fnOf "_law_draws" "_law_draws" (defArgs s_Ldraws) (defBody s_Ldraws) (defScope s_Ldraws) .none kV12 dc12 pm12 an12 cd12 ct12), sl12⟩) (c12 : PySem.W.codeIn K cd12 "_law_draws" = true) (k12 : PySem.W.keepIn K (.ref f12) = true)
    (a13 : PySem.W.nsIn K mainGlobals "_law_saying" = some (some (.ref f13))) (l13 : K.lookup f13 = some ⟨oc13, od13, .func (PySem.W.fnOf "_law_saying" "_law_saying" (defArgs s_Lsaying) (defBody s_Lsaying) (defScope s_Lsaying) .none kV13 dc13 pm13 an13 cd13 ct13), sl13⟩) (c13 : PySem.W.codeIn K cd13 "_law_saying" = true) (k13 : PySem.W.keepIn K (.ref f13) = true)
    (a14 : PySem.W.nsIn K mainGlobals "_law_long" = some (some (.ref f14))) (l14 : K.lookup f14 = some ⟨oc14, od14, .func (PySem.W.fnOf "_law_long" "_law_long" (defArgs s_Llong) (defBody s_Llong) (defScope s_Llong) .none kV14 dc14 pm14 an14 cd14 ct14), sl14⟩) (c14 : PySem.W.codeIn K cd14 "_law_long" = true) (k14 : PySem.W.keepIn K (.ref f14) = true)
    (a15 : PySem.W.nsIn K mainGlobals "_law_scale" = some (some (.ref f15))) (l15 : K.lookup f15 = some ⟨oc15, od15, .func (PySem.W.fnOf "_law_scale" "_law_scale" (defArgs s_Lscale) (defBody s_Lscale) (defScope s_Lscale) .none kV15 dc15 pm15 an15 cd15 ct15), sl15⟩) (c15 : PySem.W.codeIn K cd15 "_law_scale" = true) (k15 : PySem.W.keepIn K (.ref f15) = true)
    (a16 : PySem.W.nsIn K mainGlobals "_law_row" = some (some (.ref f16))) (l16 : K.lookup f16 = some ⟨oc16, od16, .func (PySem.W.fnOf "_law_row" "_law_row" (defArgs s_Lrow) (defBody s_Lrow) (defScope s_Lrow) .none kV16 dc16 pm16 an16 cd16 ct16), sl16⟩) (c16 : PySem.W.codeIn K cd16 "_law_row" = true) (k16 : PySem.W.keepIn K (.ref f16) = true)
    (a17 : PySem.W.nsIn K mainGlobals "_law_names" = some (some (.ref f17))) (l17 : K.lookup f17 = some ⟨oc17, od17, .func (PySem.W.fnOf "_law_names" "_law_names" (defArgs s_Lnames) (defBody s_Lnames) (defScope s_Lnames) .none kV17 dc17 pm17 an17 cd17 ct17), sl17⟩) (c17 : PySem.W.codeIn K cd17 "_law_names" = true) (k17 : PySem.W.keepIn K (.ref f17) = true)
    (a18 : PySem.W.nsIn K mainGlobals "_law_parts" = some (some (.ref f18))) (l18 : K.lookup f18 = some ⟨oc18, od18, .func (PySem.W.fnOf "_law_parts" "_law_parts" (defArgs s_Lparts) (defBody s_Lparts) (defScope s_Lparts) .none kV18 dc18 pm18 an18 cd18 ct18), sl18⟩) (c18 : PySem.W.codeIn K cd18 "_law_parts" = true) (k18 : PySem.W.keepIn K (.ref f18) = true)
    (a19 : PySem.W.nsIn K mainGlobals "law" = some (some (.ref f19))) (l19 : K.lookup f19 = some ⟨oc19, od19, .func (PySem.W.fnOf "law" "law" (defArgs s_law) (defBody s_law) (defScope s_law) .none kV19 dc19 pm19 an19 cd19 ct19), sl19⟩) (c19 : PySem.W.codeIn K cd19 "law" = true) (k19 : PySem.W.keepIn K (.ref f19) = true)
    (z_all : PySem.W.nsIn K mainGlobals "all" = some none)
    (z_bool : PySem.W.nsIn K mainGlobals "bool" = some none)
    (z_dict : PySem.W.nsIn K mainGlobals "dict" = some none)
    (z_int : PySem.W.nsIn K mainGlobals "int" = some none)
    (z_isinstance : PySem.W.nsIn K mainGlobals "isinstance" = some none)
    (z_len : PySem.W.nsIn K mainGlobals "len" = some none)
    (z_list : PySem.W.nsIn K mainGlobals "list" = some none)
    (z_max : PySem.W.nsIn K mainGlobals "max" = some none)
    (z_min : PySem.W.nsIn K mainGlobals "min" = some none)
    (z_range : PySem.W.nsIn K mainGlobals "range" = some none)
    (z_sorted : PySem.W.nsIn K mainGlobals "sorted" = some none)
    (z_str : PySem.W.nsIn K mainGlobals "str" = some none)
    (z_tuple : PySem.W.nsIn K mainGlobals "tuple" = some none)
    (z_zip : PySem.W.nsIn K mainGlobals "zip" = some none)
    {dA0 : Addr} {es0 : Array DictEntry} {nn0 : Nat} {tt0_0 : Tok} {tt0_1 : Tok} {tt0_2 : Tok} {tt0_3 : Tok} {tt0_4 : Tok} {tt0_5 : Tok} {tt0_6 : Tok}
    (da0 : PySem.W.nsIn K mainGlobals "FORMS" = some (some (.ref dA0))) (dl0 : K.lookup dA0 = some ⟨.type "dict", none, .dict es0 nn0, #[]⟩) (dk0 : PySem.W.KeysLit w.params es0.toList)
    (de0_0 : PySem.W.nsIn K dA0 "place" = some (some (.str "pp" tt0_0)))
    (de0_1 : PySem.W.nsIn K dA0 "value" = some (some (.str "vv" tt0_1)))
    (de0_2 : PySem.W.nsIn K dA0 "rising" = some (some (.str "aee" tt0_2)))
    (de0_3 : PySem.W.nsIn K dA0 "low" = some (some (.str "aeev" tt0_3)))
    (de0_4 : PySem.W.nsIn K dA0 "high" = some (some (.str "aeev" tt0_4)))
    (de0_5 : PySem.W.nsIn K dA0 "below" = some (some (.str "aeeaeek" tt0_5)))
    (de0_6 : PySem.W.nsIn K dA0 "same" = some (some (.str "aaeek" tt0_6)))
    : ∃ fd : FuncData, (∀ (s : Shared) (v : Value), BindsTo s fd ⟨[v], []⟩ [("_law_script", v)]) ∧ ∀ base : Heap, K.In base → base.Ns mainGlobals mg → FnOk l.prog w K mg base (L2.CX l.prog w) 12 fl fd ["_law_script"] (spLaw K) := by
  have e := hfa.symm.trans (PySem.W.mg_of X G a19)
  have e2 : f19 = fl := by cases e; rfl
  subst e2
  have F0 := fun_mk (st := s_Lsame) l0 c0 k0
  have F1 := fun_mk (st := s_Ltail_text) l1 c1 k1
  have F2 := fun_mk (st := s_Lterm_text) l2 c2 k2
  have F3 := fun_mk (st := s_show_tail) l3 c3 k3
  have F4 := fun_mk (st := s_show_term) l4 c4 k4
  have F5 := fun_mk (st := s_show_part) l5 c5 k5
  have F6 := fun_mk (st := s_show_saying) l6 c6 k6
  have F7 := fun_mk (st := s_Lsaying_text) l7 c7 k7
  have F8 := fun_mk (st := s_Lscaled_term) l8 c8 k8
  have F9 := fun_mk (st := s_Lscaled_saying) l9 c9 k9
  have F10 := fun_mk (st := s_Lsums) l10 c10 k10
  have F11 := fun_mk (st := s_Lfigure) l11 c11 k11
  have F12 := fun_mk (st := s_Ldraws) l12 c12 k12
  have F13 := fun_mk (st := s_Lsaying) l13 c13 k13
  have F14 := fun_mk (st := s_Llong) l14 c14 k14
  have F15 := fun_mk (st := s_Lscale) l15 c15 k15
  have F16 := fun_mk (st := s_Lrow) l16 c16 k16
  have F17 := fun_mk (st := s_Lnames) l17 c17 k17
  have F18 := fun_mk (st := s_Lparts) l18 c18 k18
  have F19 := fun_mk (st := s_law) l19 c19 k19
  let fa : Nat → Addr := fun i => match i with | 0 => f0 | 1 => f1 | 2 => f2 | 3 => f3 | 4 => f4 | 5 => f5 | 6 => f6 | 7 => f7 | 8 => f8 | 9 => f9 | 10 => f10 | 11 => f11 | 12 => f12 | 13 => f13 | 14 => f14 | 15 => f15 | 16 => f16 | 17 => f17 | 18 => f18 | 19 => f19 | 20 => dA0 | _ => f0
  let fd : Nat → FuncData := fun i => match i with | 0 => PySem.W.fnOf "_law_same" "_law_same" (defArgs s_Lsame) (defBody s_Lsame) (defScope s_Lsame) .none kV0 dc0 pm0 an0 cd0 ct0 | 1 => PySem.W.fnOf "_law_tail_text" "_law_tail_text" (defArgs s_Ltail_text) (defBody s_Ltail_text) (defScope s_Ltail_text) .none kV1 dc1 pm1 an1 cd1 ct1 | 2 => PySem.W.fnOf "_law_term_text" "_law_term_text" (defArgs s_Lterm_text) (defBody s_Lterm_text) (defScope s_Lterm_text) .none kV2 dc2 pm2 an2 cd2 ct2 | 3 => PySem.W.fnOf "show_tail" "show_tail" (defArgs s_show_tail) (defBody s_show_tail) (defScope s_show_tail) .none kV3 dc3 pm3 an3 cd3 ct3 | 4 => PySem.W.fnOf "show_term" "show_term" (defArgs s_show_term) (defBody s_show_term) (defScope s_show_term) .none kV4 dc4 pm4 an4 cd4 ct4 | 5 => PySem.W.fnOf "show_part" "show_part" (defArgs s_show_part) (defBody s_show_part) (defScope s_show_part) .none kV5 dc5 pm5 an5 cd5 ct5 | 6 => PySem.W.fnOf "show_saying" "show_saying" (defArgs s_show_saying) (defBody s_show_saying) (defScope s_show_saying) .none kV6 dc6 pm6 an6 cd6 ct6 | 7 => PySem.W.fnOf "_law_saying_text" "_law_saying_text" (defArgs s_Lsaying_text) (defBody s_Lsaying_text) (defScope s_Lsaying_text) .none kV7 dc7 pm7 an7 cd7 ct7 | 8 => PySem.W.fnOf "_law_scaled_term" "_law_scaled_term" (defArgs s_Lscaled_term) (defBody s_Lscaled_term) (defScope s_Lscaled_term) .none kV8 dc8 pm8 an8 cd8 ct8 | 9 => PySem.W.fnOf "_law_scaled_saying" "_law_scaled_saying" (defArgs s_Lscaled_saying) (defBody s_Lscaled_saying) (defScope s_Lscaled_saying) .none kV9 dc9 pm9 an9 cd9 ct9 | 10 => PySem.W.fnOf "_law_sums" "_law_sums" (defArgs s_Lsums) (defBody s_Lsums) (defScope s_Lsums) .none kV10 dc10 pm10 an10 cd10 ct10 | 11 => PySem.W.fnOf "_law_figure" "_law_figure" (defArgs s_Lfigure) (defBody s_Lfigure) (defScope s_Lfigure) .none kV11 dc11 pm11 an11 cd11 ct11 | 12 => PySem.W.fnOf "_law_draws" "_law_draws" (defArgs s_Ldraws) (defBody s_Ldraws) (defScope s_Ldraws) .none kV12 dc12 pm12 an12 cd12 ct12 | 13 => PySem.W.fnOf "_law_saying" "_law_saying" (defArgs s_Lsaying) (defBody s_Lsaying) (defScope s_Lsaying) .none kV13 dc13 pm13 an13 cd13 ct13 | 14 => PySem.W.fnOf "_law_long" "_law_long" (defArgs s_Llong) (defBody s_Llong) (defScope s_Llong) .none kV14 dc14 pm14 an14 cd14 ct14 | 15 => PySem.W.fnOf "_law_scale" "_law_scale" (defArgs s_Lscale) (defBody s_Lscale) (defScope s_Lscale) .none kV15 dc15 pm15 an15 cd15 ct15 | 16 => PySem.W.fnOf "_law_row" "_law_row" (defArgs s_Lrow) (defBody s_Lrow) (defScope s_Lrow) .none kV16 dc16 pm16 an16 cd16 ct16 | 17 => PySem.W.fnOf "_law_names" "_law_names" (defArgs s_Lnames) (defBody s_Lnames) (defScope s_Lnames) .none kV17 dc17 pm17 an17 cd17 ct17 | 18 => PySem.W.fnOf "_law_parts" "_law_parts" (defArgs s_Lparts) (defBody s_Lparts) (defScope s_Lparts) .none kV18 dc18 pm18 an18 cd18 ct18 | 19 => PySem.W.fnOf "law" "law" (defArgs s_law) (defBody s_law) (defScope s_law) .none kV19 dc19 pm19 an19 cd19 ct19 | _ => PySem.W.fnOf "" "" (defArgs s_law) [] (defScope s_law) .none .none .none .none none .none .none
  let ct : Nat → Tok := fun i => match i with  | _ => 0
  have T : Tx w K mg fa fd ct (fun i => match i with  | _ => 0) := {
    F_Lsame := F0
    g_Lsame := PySem.W.mg_of X G a0
    b_Lsame := F0.binds (ps := ["_law_found", "_law_due"]) fun _ _ _ _ _ _ us hl => match us, hl with | [_, _], _ => rfl
    F_Ltail_text := F1
    g_Ltail_text := PySem.W.mg_of X G a1
    b_Ltail_text := F1.binds (ps := ["_law_k"]) fun _ _ _ _ _ _ us hl => match us, hl with | [_], _ => rfl
    F_Lterm_text := F2
    g_Lterm_text := PySem.W.mg_of X G a2
    b_Lterm_text := F2.binds (ps := ["_law_term"]) fun _ _ _ _ _ _ us hl => match us, hl with | [_], _ => rfl
    F_show_tail := F3
    g_show_tail := PySem.W.mg_of X G a3
    b_show_tail := F3.binds (ps := ["k"]) fun _ _ _ _ _ _ us hl => match us, hl with | [_], _ => rfl
    F_show_term := F4
    g_show_term := PySem.W.mg_of X G a4
    b_show_term := F4.binds (ps := ["term"]) fun _ _ _ _ _ _ us hl => match us, hl with | [_], _ => rfl
    k_show_term := fun s us ws _ h1 h2 => match us, ws, h1, h2 with | [], [_], _, _ => .of_eq rfl
    F_show_part := F5
    g_show_part := PySem.W.mg_of X G a5
    b_show_part := F5.binds (ps := ["kind", "part"]) fun _ _ _ _ _ _ us hl => match us, hl with | [_, _], _ => rfl
    F_show_saying := F6
    g_show_saying := PySem.W.mg_of X G a6
    b_show_saying := F6.binds (ps := ["saying"]) fun _ _ _ _ _ _ us hl => match us, hl with | [_], _ => rfl
    k_show_saying := fun s us ws _ h1 h2 => match us, ws, h1, h2 with | [], [_], _, _ => .of_eq rfl
    F_Lsaying_text := F7
    g_Lsaying_text := PySem.W.mg_of X G a7
    b_Lsaying_text := F7.binds (ps := ["_law_saying_here"]) fun _ _ _ _ _ _ us hl => match us, hl with | [_], _ => rfl
    F_Lscaled_term := F8
    g_Lscaled_term := PySem.W.mg_of X G a8
    b_Lscaled_term := F8.binds (ps := ["_law_term", "_law_scale_here", "_law_role"]) fun _ _ _ _ _ _ us hl => match us, hl with | [_, _, _], _ => rfl
    F_Lscaled_saying := F9
    g_Lscaled_saying := PySem.W.mg_of X G a9
    b_Lscaled_saying := F9.binds (ps := ["_law_saying_here", "_law_scale_here"]) fun _ _ _ _ _ _ us hl => match us, hl with | [_, _], _ => rfl
    F_Lsums := F10
    g_Lsums := PySem.W.mg_of X G a10
    b_Lsums := F10.binds (ps := ["_law_drawn", "_law_pool", "_law_numbers", "_law_arrays"]) fun _ _ _ _ _ _ us hl => match us, hl with | [_, _, _, _], _ => rfl
    F_Lfigure := F11
    g_Lfigure := PySem.W.mg_of X G a11
    b_Lfigure := F11.binds (ps := ["_law_script", "_law_at"]) fun _ _ _ _ _ _ us hl => match us, hl with | [_, _], _ => rfl
    F_Ldraws := F12
    g_Ldraws := PySem.W.mg_of X G a12
    b_Ldraws := F12.binds (ps := ["_law_script", "_law_at", "_law_limits"]) fun _ _ _ _ _ _ us hl => match us, hl with | [_, _, _], _ => rfl
    F_Lsaying := F13
    g_Lsaying := PySem.W.mg_of X G a13
    b_Lsaying := F13.binds (ps := ["_law_script", "_law_at", "_law_parts_here"]) fun _ _ _ _ _ _ us hl => match us, hl with | [_, _, _], _ => rfl
    F_Llong := F14
    g_Llong := PySem.W.mg_of X G a14
    b_Llong := F14.binds (ps := ["_law_script", "_law_at", "_law_many"]) fun _ _ _ _ _ _ us hl => match us, hl with | [_, _, _], _ => rfl
    F_Lscale := F15
    g_Lscale := PySem.W.mg_of X G a15
    b_Lscale := F15.binds (ps := ["_law_script", "_law_at"]) fun _ _ _ _ _ _ us hl => match us, hl with | [_, _], _ => rfl
    F_Lrow := F16
    g_Lrow := PySem.W.mg_of X G a16
    b_Lrow := F16.binds (ps := ["_law_script", "_law_at", "_law_first", "_law_size", "_law_high"]) fun _ _ _ _ _ _ us hl => match us, hl with | [_, _, _, _, _], _ => rfl
    F_Lnames := F17
    g_Lnames := PySem.W.mg_of X G a17
    b_Lnames := F17.binds (ps := ["_law_script", "_law_at", "_law_many"]) fun _ _ _ _ _ _ us hl => match us, hl with | [_, _, _], _ => rfl
    F_Lparts := F18
    g_Lparts := PySem.W.mg_of X G a18
    b_Lparts := F18.binds (ps := ["_law_script", "_law_at"]) fun _ _ _ _ _ _ us hl => match us, hl with | [_, _], _ => rfl
    F_law := F19
    g_law := PySem.W.mg_of X G a19
    b_law := F19.binds (ps := ["_law_script"]) fun _ _ _ _ _ _ us hl => match us, hl with | [_], _ => rfl
    n_all := PySem.W.mg_none_of X G z_all
    n_bool := PySem.W.mg_none_of X G z_bool
    n_dict := PySem.W.mg_none_of X G z_dict
    n_int := PySem.W.mg_none_of X G z_int
    n_isinstance := PySem.W.mg_none_of X G z_isinstance
    n_len := PySem.W.mg_none_of X G z_len
    n_list := PySem.W.mg_none_of X G z_list
    n_max := PySem.W.mg_none_of X G z_max
    n_min := PySem.W.mg_none_of X G z_min
    n_range := PySem.W.mg_none_of X G z_range
    n_sorted := PySem.W.mg_none_of X G z_sorted
    n_str := PySem.W.mg_none_of X G z_str
    n_tuple := PySem.W.mg_none_of X G z_tuple
    n_zip := PySem.W.mg_none_of X G z_zip
    d_FORMS := PySem.W.mg_of X G da0
    e_FORMS := fun p hp => by
      simp only [List.mem_cons, List.not_mem_nil, or_false] at hp
      rcases hp with rfl | rfl | rfl | rfl | rfl | rfl | rfl
      · exact ⟨_, _, _, dl0, dk0, de0_0, _, rfl⟩
      · exact ⟨_, _, _, dl0, dk0, de0_1, _, rfl⟩
      · exact ⟨_, _, _, dl0, dk0, de0_2, _, rfl⟩
      · exact ⟨_, _, _, dl0, dk0, de0_3, _, rfl⟩
      · exact ⟨_, _, _, dl0, dk0, de0_4, _, rfl⟩
      · exact ⟨_, _, _, dl0, dk0, de0_5, _, rfl⟩
      · exact ⟨_, _, _, dl0, dk0, de0_6, _, rfl⟩
  }
  exact ⟨fd 19, fun s v => .of_eq rfl, fun base _ _ => law_ok T⟩
end K75
open PySem PySem.W PyProof.Rows
theorem PySem.Challenge.cw_allcells_k75_texts_of_terms_and_statemen_holds : PySem.Challenge.rw_allcells_k75_texts_of_terms_and_statemen.Holds := by
  w_on; o_law; k_head; (case hw => w_witness2)
  k_fill
  refine L2.walk_of (l := PySem.Challenge.rw_allcells_k75_texts_of_terms_and_statemen) (n := 63) (k := 12) (x := "_law_script") (CX := fun w => L2.CX (PySem.Challenge.rw_allcells_k75_texts_of_terms_and_statemen).prog w) (sp := fun w => K75.spLaw _) rfl (by decide) rfl ⟨rfl, by decide, by decide⟩ (fun w h Y => PySem.W.kIn_of Y) ?F (fun _ _ a ns hl _ hS => ⟨a, ns, rfl, hS, hl, fun _ => rfl⟩) ?C
  case C =>
    intro w H s e s' h
    obtain ⟨_, _, _, _, _, _, _, _, _, _, _, _, z⟩ := h
    exact z
  case F =>
    intro w mg fa h KX G hmg
    refine' K75.all_mk KX G hmg ?a0 ?l0 ?c0 ?k0 ?a1 ?l1 ?c1 ?k1 ?a2 ?l2 ?c2 ?k2 ?a3 ?l3 ?c3 ?k3 ?a4 ?l4 ?c4 ?k4 ?a5 ?l5 ?c5 ?k5 ?a6 ?l6 ?c6 ?k6 ?a7 ?l7 ?c7 ?k7 ?a8 ?l8 ?c8 ?k8 ?a9 ?l9 ?c9 ?k9 ?a10 ?l10 ?c10 ?k10 ?a11 ?l11 ?c11 ?k11 ?a12 ?l12 ?c12 ?k12 ?a13 ?l13 ?c13 ?k13 ?a14 ?l14 ?c14 ?k14 ?a15 ?l15 ?c15 ?k15 ?a16 ?l16 ?c16 ?k16 ?a17 ?l17 ?c17 ?k17 ?a18 ?l18 ?c18 ?k18 ?a19 ?l19 ?c19 ?k19 ?z_all ?z_bool ?z_dict ?z_int ?z_isinstance ?z_len ?z_list ?z_max ?z_min ?z_range ?z_sorted ?z_str ?z_tuple ?z_zip ?da0 ?dl0 ?dk0 ?de0_0 ?de0_1 ?de0_2 ?de0_3 ?de0_4 ?de0_5 ?de0_6
    (case a0 => k_is)
    (case l0 => k_is)
    (case c0 => k_is)
    (case k0 => k_is)
    (case a1 => k_is)
    (case l1 => k_is)
    (case c1 => k_is)
    (case k1 => k_is)
    (case a2 => k_is)
    (case l2 => k_is)
    (case c2 => k_is)
    (case k2 => k_is)
    (case a3 => k_is)
    (case l3 => k_is)
    (case c3 => k_is)
    (case k3 => k_is)
    (case a4 => k_is)
    (case l4 => k_is)
    (case c4 => k_is)
    (case k4 => k_is)
    (case a5 => k_is)
    (case l5 => k_is)
    (case c5 => k_is)
    (case k5 => k_is)
    (case a6 => k_is)
    (case l6 => k_is)
    (case c6 => k_is)
    (case k6 => k_is)
    (case a7 => k_is)
    (case l7 => k_is)
    (case c7 => k_is)
    (case k7 => k_is)
    (case a8 => k_is)
    (case l8 => k_is)
    (case c8 => k_is)
    (case k8 => k_is)
    (case a9 => k_is)
    (case l9 => k_is)
    (case c9 => k_is)
    (case k9 => k_is)
    (case a10 => k_is)
    (case l10 => k_is)
    (case c10 => k_is)
    (case k10 => k_is)
    (case a11 => k_is)
    (case l11 => k_is)
    (case c11 => k_is)
    (case k11 => k_is)
    (case a12 => k_is)
    (case l12 => k_is)
    (case c12 => k_is)
    (case k12 => k_is)
    (case a13 => k_is)
    (case l13 => k_is)
    (case c13 => k_is)
    (case k13 => k_is)
    (case a14 => k_is)
    (case l14 => k_is)
    (case c14 => k_is)
    (case k14 => k_is)
    (case a15 => k_is)
    (case l15 => k_is)
    (case c15 => k_is)
    (case k15 => k_is)
    (case a16 => k_is)
    (case l16 => k_is)
    (case c16 => k_is)
    (case k16 => k_is)
    (case a17 => k_is)
    (case l17 => k_is)
    (case c17 => k_is)
    (case k17 => k_is)
    (case a18 => k_is)
    (case l18 => k_is)
    (case c18 => k_is)
    (case k18 => k_is)
    (case a19 => k_is)
    (case l19 => k_is)
    (case c19 => k_is)
    (case k19 => k_is)
    (case z_all => k_is)
    (case z_bool => k_is)
    (case z_dict => k_is)
    (case z_int => k_is)
    (case z_isinstance => k_is)
    (case z_len => k_is)
    (case z_list => k_is)
    (case z_max => k_is)
    (case z_min => k_is)
    (case z_range => k_is)
    (case z_sorted => k_is)
    (case z_str => k_is)
    (case z_tuple => k_is)
    (case z_zip => k_is)
    (case da0 => k_is)
    (case dl0 => k_is)
    (case dk0 => (repeat' first | exact trivial | exact ⟨_, _, rfl, rfl⟩ | constructor))
    (case de0_0 => k_is)
    (case de0_1 => k_is)
    (case de0_2 => k_is)
    (case de0_3 => k_is)
    (case de0_4 => k_is)
    (case de0_5 => k_is)
    (case de0_6 => k_is)
