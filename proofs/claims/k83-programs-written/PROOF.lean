import PyProof.Rows.All
import Wide.All
import OpenK.AllK
import Wide.FinOn
import HandS.ForMost
import HandS.ForExc
import HandS.TryOnly
import HandS.Style
import HandS.IsInst
import HandS.Deep
import HandS.Wide
import KE.DataEq
import KE.LtData
import HandS.TupAny
import HandS.TupSets
import KE.KeyNested
import KE.SortData
import HandS.Strs
import KE.KUnpackStar
import HandS.EndBits
import HandS.RevTup
import HandS.Rev
import HandS.SetFor
import HandS.TupMul
import HandS.TupLen
import HandS.FStr
import HandS.Zip
import HandS.Text
import HandS.Conv
import PyProof.Rows.StrJoinMade
import PySem.Challenge.RW_leanbundle_k83_programs_written
set_option Elab.async false
set_option linter.all false
set_option maxRecDepth 100000
set_option maxHeartbeats 4000000
namespace DL
open PySem PySem.Spec L2

abbrev Dt := PyData
/-- an object with parts: a dict by its keys, an instance by its class and its attributes' names -/
inductive NK where
  | dK (ks : List Key)
  | dT (ks : List (List Key))
  | ins (C : Str) (ns : List Str)
/-- what a slot may hold: frozen data, an owned list, an owned (a locked) object with parts, anything by its value -/
inductive OV where
  | val (d : Dt)
  | lst (xs : List OV)
  | nod (k : NK) (xs : List OV)
  | fno (k : NK) (xs : List OV)
  | raw (v : V)
  | sub (fp : List Addr) (h0 F0 : Hp)
/-- at a stands an object of this kind, its parts the values vs; ex: what else belongs to it -/
def NKat (K : PySem.W.Frag) (H : Hp) : NK → Addr → List Addr → List V → Prop
  | .dK ks, a, ex, vs => ex = [] ∧ vs.length = ks.length ∧ H a = some (.dK (ks.zip vs))
  | .dT ks, a, ex, vs => ex = [] ∧ vs.length = ks.length ∧ H a = some (.dT (ks.zip vs))
  | .ins C ns, a, ex, vs => ∃ Ca dx, ex = [dx] ∧ vs.length = ns.length ∧ PySem.W.nsIn K mainGlobals C = some (some (.ref Ca)) ∧ Cls K Ca ∧ (∀ f ∈ ns, NoAttr K Ca f) ∧ H a = some (.ins Ca dx (ns.zip vs)) ∧ H dx = some (.own a)
theorem NKat.congr {K : PySem.W.Frag} {H H' : Hp} : ∀ {k : NK} {a : Addr} {ex : List Addr} {vs : List V}, NKat K H k a ex vs → (∀ b ∈ a :: ex, H' b = H b) → NKat K H' k a ex vs
  | .dK ks, a, ex, vs, ⟨e1, e2, e3⟩, h => ⟨e1, e2, by rw [h a List.mem_cons_self]; exact e3⟩
  | .dT ks, a, ex, vs, ⟨e1, e2, e3⟩, h => ⟨e1, e2, by rw [h a List.mem_cons_self]; exact e3⟩
  | .ins C ns, a, ex, vs, ⟨Ca, dx, e1, e2, e3, e4, e5, e6, e7⟩, h => ⟨Ca, dx, e1, e2, e3, e4, e5, by rw [h a List.mem_cons_self]; exact e6, by rw [h dx (by rw [e1]; simp)]; exact e7⟩
theorem NKat.same {K : PySem.W.Frag} {H H' : Hp} (s : Same H H') : ∀ {k : NK} {a : Addr} {ex : List Addr} {vs : List V}, NKat K H k a ex vs → NKat K H' k a ex vs
  | .dK ks, a, ex, vs, ⟨e1, e2, e3⟩ => ⟨e1, e2, s _ _ e3⟩
  | .dT ks, a, ex, vs, ⟨e1, e2, e3⟩ => ⟨e1, e2, s _ _ e3⟩
  | .ins C ns, a, ex, vs, ⟨Ca, dx, e1, e2, e3, e4, e5, e6, e7⟩ => ⟨Ca, dx, e1, e2, e3, e4, e5, s _ _ e6, s _ _ e7⟩
theorem NKat.there {K : PySem.W.Frag} {H : Hp} : ∀ {k : NK} {a : Addr} {ex : List Addr} {vs : List V}, NKat K H k a ex vs → ∀ b ∈ a :: ex, ∃ o, H b = some o
  | .dK ks, a, ex, vs, ⟨e1, e2, e3⟩, b, hb => by subst e1; rw [List.mem_singleton.mp hb]; exact ⟨_, e3⟩
  | .dT ks, a, ex, vs, ⟨e1, e2, e3⟩, b, hb => by subst e1; rw [List.mem_singleton.mp hb]; exact ⟨_, e3⟩
  | .ins C ns, a, ex, vs, ⟨Ca, dx, e1, e2, e3, e4, e5, e6, e7⟩, b, hb => by
    subst e1
    rcases List.mem_cons.mp hb with rfl | hb
    · exact ⟨_, e6⟩
    · rw [List.mem_singleton.mp hb]; exact ⟨_, e7⟩

/-- the heap without some addresses -/
def hid (H : Hp) (Z : List Addr) : Hp := fun b => if b ∈ Z then none else H b
theorem hid_in {H : Hp} {Z : List Addr} {b : Addr} (h : b ∈ Z) : hid H Z b = none := if_pos h
theorem hid_out {H : Hp} {Z : List Addr} {b : Addr} (h : b ∉ Z) : hid H Z b = H b := if_neg h
theorem hid_le {H : Hp} {Z : List Addr} : Same (hid H Z) H := fun b o e => by
  by_cases h : b ∈ Z
  · rw [hid_in h] at e; cases e
  · rw [hid_out h] at e; exact e
theorem hid_sub {H : Hp} {Z Z' : List Addr} (s : ∀ a ∈ Z', a ∈ Z) : Same (hid H Z) (hid H Z') := fun b o e => by
  by_cases h : b ∈ Z
  · rw [hid_in h] at e; cases e
  · rw [hid_out h] at e
    rw [hid_out fun q => h (s b q)]
    exact e
theorem hid_same {H H' : Hp} {Z : List Addr} (s : Same H H') : Same (hid H Z) (hid H' Z) := fun b o e => by
  by_cases h : b ∈ Z
  · rw [hid_in h] at e; cases e
  · rw [hid_out h] at e
    rw [hid_out h]
    exact s _ _ e
theorem hid_nil {H : Hp} : hid H [] = H := by
  funext b
  exact hid_out (by simp)

theorem SqT.same {K : PySem.W.Frag} {H H' : Hp} {a : Addr} {xs : List V} (e : Same H H') (h : SqT K H a xs) : SqT K H' a xs := by
  rcases h with (h | ⟨o, h⟩) | h
  · exact .inl (.inl (e _ _ h))
  · exact .inl (.inr ⟨o, e _ _ h⟩)
  · exact .inr h
mutual
theorem Dp.same {K : PySem.W.Frag} {H H' : Hp} (e : Same H H') : ∀ {d : Dt} {v : V}, Dp K H v d → Dp K H' v d
  | _, _, .non => .non
  | _, _, .bl b => .bl b
  | _, _, .int i => .int i
  | _, _, .str x => .str x
  | _, _, .lst h t => .lst (e.seq h) (DpAll.same e t)
  | _, _, .tup h t => .tup (SqT.same e h) (DpAll.same e t)
theorem DpAll.same {K : PySem.W.Frag} {H H' : Hp} (e : Same H H') : ∀ {ds : List Dt} {vs : List V}, DpAll K H vs ds → DpAll K H' vs ds
  | _, _, .nil => .nil
  | _, _, .cons h t => .cons (Dp.same e h) (DpAll.same e t)
end
end DL
namespace L2
open PySem PySem.Spec
theorem DpAll.length {K : PySem.W.Frag} {H : Hp} : ∀ {ds : List PyData} {vs : List V}, DpAll K H vs ds → vs.length = ds.length
  | _, _, .nil => rfl
  | _, _, .cons _ t => by rw [List.length_cons, List.length_cons, DpAll.length t]
theorem DpAll.get {K : PySem.W.Frag} {H : Hp} : ∀ {ds : List PyData} {vs : List V} {i : Nat} {d : PyData}, DpAll K H vs ds → ds[i]? = some d → ∃ v, vs[i]? = some v ∧ Dp K H v d
  | _, _, _, _, .nil, e => by simp at e
  | _, _, 0, _, .cons h _, e => by
    simp at e
    subst e
    exact ⟨_, rfl, h⟩
  | _, _, i + 1, _, .cons _ t, e => by
    obtain ⟨v, e1, e2⟩ := DpAll.get t (i := i) (by simpa using e)
    exact ⟨v, by simpa using e1, e2⟩
theorem DpAll.getV {K : PySem.W.Frag} {H : Hp} : ∀ {ds : List PyData} {vs : List V} {i : Nat} {v : V}, DpAll K H vs ds → vs[i]? = some v → ∃ d, ds[i]? = some d ∧ Dp K H v d
  | _, _, _, _, .nil, e => by simp at e
  | _, _, 0, _, .cons h _, e => by
    simp at e
    subst e
    exact ⟨_, rfl, h⟩
  | _, _, i + 1, _, .cons _ t, e => by
    obtain ⟨v, e1, e2⟩ := DpAll.getV t (i := i) (by simpa using e)
    exact ⟨v, by simpa using e1, e2⟩
theorem DpAll.append {K : PySem.W.Frag} {H : Hp} : ∀ {ds es : List PyData} {vs ws : List V}, DpAll K H vs ds → DpAll K H ws es → DpAll K H (vs ++ ws) (ds ++ es)
  | _, _, _, _, .nil, s => s
  | _, _, _, _, .cons h t, s => .cons h (DpAll.append t s)
theorem DpAll.take {K : PySem.W.Frag} {H : Hp} : ∀ {ds : List PyData} {vs : List V} (n : Nat), DpAll K H vs ds → DpAll K H (vs.take n) (ds.take n)
  | _, _, 0, _ => .nil
  | _, _, _ + 1, .nil => .nil
  | _, _, n + 1, .cons h t => .cons h (DpAll.take n t)
theorem DpAll.drop {K : PySem.W.Frag} {H : Hp} : ∀ {ds : List PyData} {vs : List V} (n : Nat), DpAll K H vs ds → DpAll K H (vs.drop n) (ds.drop n)
  | _, _, 0, h => h
  | _, _, _ + 1, .nil => .nil
  | _, _, n + 1, .cons _ t => DpAll.drop n t

end L2
namespace DL
open PySem PySem.Spec L2
mutual
/-- the value v holds x: fp the owned addresses, F the heap of what is frozen -/
inductive Own (K : PySem.W.Frag) (H F : Hp) : V → OV → List Addr → Prop
  | val {v : V} {d : Dt} : Dp K F v d → Own K H F v (.val d) []
  | lst {a : Addr} {vs : List V} {xs : List OV} {fp : List Addr} : H a = some (.lst vs) → OwnL K H F vs xs fp → Own K H F (.ref a) (.lst xs) (a :: fp)
  | nod {a : Addr} {ex : List Addr} {vs : List V} {k : NK} {xs : List OV} {fp : List Addr} : NKat K H k a ex vs → OwnL K H F vs xs fp → Own K H F (.ref a) (.nod k xs) (a :: (ex ++ fp))
  | fno {a : Addr} {ex : List Addr} {vs : List V} {k : NK} {xs : List OV} : NKat K F k a ex vs → OwnL K H F vs xs [] → Own K H F (.ref a) (.fno k xs) []
  | raw {v : V} : Own K H F v (.raw v) []
  | sub {v : V} {fp : List Addr} {h0 F0 : Hp} : (∀ a ∈ fp, H a = h0 a ∧ ∃ o, h0 a = some o) → Same F0 F → Own K H F v (.sub fp h0 F0) fp
inductive OwnL (K : PySem.W.Frag) (H F : Hp) : List V → List OV → List Addr → Prop
  | nil : OwnL K H F [] [] []
  | cons {v : V} {x : OV} {vs : List V} {xs : List OV} {fp gp : List Addr} : Own K H F v x fp → OwnL K H F vs xs gp → OwnL K H F (v :: vs) (x :: xs) (fp ++ gp)
end
section
variable {K : PySem.W.Frag} {H H' F F' : Hp}
mutual
theorem Own.mono (hF : Same F F') : ∀ {v : V} {x : OV} {fp : List Addr}, Own K H F v x fp → (∀ a ∈ fp, H' a = H a) → Own K H' F' v x fp
  | _, _, _, .val h, _ => .val (Dp.same hF h)
  | _, _, _, .lst h t, k => .lst (by rw [k _ List.mem_cons_self]; exact h) (OwnL.mono hF t fun a ha => k a (List.mem_cons_of_mem _ ha))
  | _, _, _, .nod h t, k => .nod (h.congr fun b hb => k b (by
    rcases List.mem_cons.mp hb with rfl | hb
    · exact List.mem_cons_self
    · exact List.mem_cons_of_mem _ (List.mem_append_left _ hb))) (OwnL.mono hF t fun a ha => k a (List.mem_cons_of_mem _ (List.mem_append_right _ ha)))
  | _, _, _, .fno h t, k => .fno (h.same hF) (OwnL.mono hF t fun a ha => by cases ha)
  | _, _, _, .raw, _ => .raw
  | _, _, _, .sub h s, k => .sub (fun a ha => ⟨(k a ha).trans (h a ha).1, (h a ha).2⟩) fun b o e => hF b o (s b o e)
theorem OwnL.mono (hF : Same F F') : ∀ {vs : List V} {xs : List OV} {fp : List Addr}, OwnL K H F vs xs fp → (∀ a ∈ fp, H' a = H a) → OwnL K H' F' vs xs fp
  | _, _, _, .nil, _ => .nil
  | _, _, _, .cons h t, k => .cons (Own.mono hF h fun a ha => k a (List.mem_append_left _ ha)) (OwnL.mono hF t fun a ha => k a (List.mem_append_right _ ha))
end
mutual
theorem Own.there : ∀ {v : V} {x : OV} {fp : List Addr}, Own K H F v x fp → ∀ a ∈ fp, ∃ o, H a = some o
  | _, _, _, .val _, _, ha => by cases ha
  | _, _, _, .lst h t, a, ha => by
    rcases List.mem_cons.mp ha with rfl | ha
    · exact ⟨_, h⟩
    · exact OwnL.there t a ha
  | _, _, _, .nod h t, a, ha => by
    rcases List.mem_cons.mp ha with rfl | ha
    · exact h.there _ List.mem_cons_self
    · rcases List.mem_append.mp ha with ha | ha
      · exact h.there a (List.mem_cons_of_mem _ ha)
      · exact OwnL.there t a ha
  | _, _, _, .fno _ _, _, ha => by cases ha
  | _, _, _, .raw, _, ha => by cases ha
  | _, _, _, .sub h s, a, ha => by
    obtain ⟨e, o, q⟩ := h a ha
    exact ⟨o, e.trans q⟩
theorem OwnL.there : ∀ {vs : List V} {xs : List OV} {fp : List Addr}, OwnL K H F vs xs fp → ∀ a ∈ fp, ∃ o, H a = some o
  | _, _, _, .nil, _, ha => by cases ha
  | _, _, _, .cons h t, a, ha => by
    rcases List.mem_append.mp ha with ha | ha
    · exact Own.there h a ha
    · exact OwnL.there t a ha
end
theorem OwnL.length : ∀ {vs : List V} {xs : List OV} {fp : List Addr}, OwnL K H F vs xs fp → vs.length = xs.length
  | _, _, _, .nil => rfl
  | _, _, _, .cons _ t => by rw [List.length_cons, List.length_cons, OwnL.length t]
theorem OwnL.append : ∀ {vs ws : List V} {xs ys : List OV} {fp gp : List Addr}, OwnL K H F vs xs fp → OwnL K H F ws ys gp → OwnL K H F (vs ++ ws) (xs ++ ys) (fp ++ gp)
  | _, _, _, _, _, _, .nil, s => s
  | _, _, _, _, _, _, .cons h t, s => by
    have q := OwnL.cons h (OwnL.append t s)
    rw [List.append_assoc]
    exact q
theorem OwnL.split : ∀ {vs ws : List V} {xs ys : List OV} {fp : List Addr}, vs.length = xs.length → OwnL K H F (vs ++ ws) (xs ++ ys) fp → ∃ fp1 fp2, fp = fp1 ++ fp2 ∧ OwnL K H F vs xs fp1 ∧ OwnL K H F ws ys fp2
  | [], _, [], _, _, _, h => ⟨[], _, rfl, .nil, h⟩
  | [], _, _ :: _, _, _, e, _ => by simp at e
  | _ :: _, _, [], _, _, e, _ => by simp at e
  | v :: vs, ws, x :: xs, ys, _, e, h => by
    cases h with
    | cons h t =>
      obtain ⟨f1, f2, rfl, a, b⟩ := OwnL.split (vs := vs) (xs := xs) (by simpa using e) t
      exact ⟨_, f2, (List.append_assoc _ _ _).symm, .cons h a, b⟩
theorem OwnL.get : ∀ {vs : List V} {xs : List OV} {fp : List Addr} {i : Nat} {x : OV}, OwnL K H F vs xs fp → xs[i]? = some x → ∃ v gp, vs[i]? = some v ∧ Own K H F v x gp ∧ ∀ a ∈ gp, a ∈ fp
  | _, _, _, _, _, .nil, e => by simp at e
  | _, _, _, 0, _, .cons h _, e => by
    simp at e
    subst e
    exact ⟨_, _, rfl, h, fun a ha => List.mem_append_left _ ha⟩
  | _, _, _, i + 1, _, .cons _ t, e => by
    obtain ⟨v, gp, e1, e2, e3⟩ := OwnL.get t (i := i) (by simpa using e)
    exact ⟨v, gp, by simpa using e1, e2, fun a ha => List.mem_append_right _ (e3 a ha)⟩
theorem OwnL.vals : ∀ {vs : List V} {ds : List Dt} {fp : List Addr}, OwnL K H F vs (ds.map .val) fp → DpAll K F vs ds ∧ fp = []
  | _, [], _, h => by
    cases h
    exact ⟨.nil, rfl⟩
  | _, d :: ds, _, h => by
    cases h with
    | cons h t =>
      cases h with
      | val h =>
        obtain ⟨q, rfl⟩ := OwnL.vals t
        exact ⟨.cons h q, rfl⟩
theorem OwnL.of_vals : ∀ {vs : List V} {ds : List Dt}, DpAll K F vs ds → OwnL K H F vs (ds.map .val) []
  | _, _, .nil => .nil
  | _, _, .cons h t => .cons (fp := []) (gp := []) (.val h) (OwnL.of_vals t)
end

/-- a bag of values and what they hold, apart from one another and from the addresses A -/
abbrev Bag := List (V × OV)
def R (K : PySem.W.Frag) (A : List Addr) (H : Hp) (ps : Bag) : Prop := ∃ Z : List Addr, (A ++ Z).Nodup ∧ OwnL K H (hid H (A ++ Z)) (ps.map (·.1)) (ps.map (·.2)) Z
section
variable {K : PySem.W.Frag} {A : List Addr} {H H' : Hp} {ps qs : Bag} {v w : V} {x y : OV} {d : Dt} {p : V × OV}
theorem OwnL.perm {F : Hp} (h : ps.Perm qs) : ∀ {Z : List Addr}, OwnL K H F (ps.map (·.1)) (ps.map (·.2)) Z → ∃ Z', Z.Perm Z' ∧ OwnL K H F (qs.map (·.1)) (qs.map (·.2)) Z' := by
  induction h with
  | nil => intro Z h; exact ⟨Z, .refl _, h⟩
  | cons x _ ih =>
    intro Z h
    cases h with
    | cons h t =>
      obtain ⟨Z', p, q⟩ := ih t
      exact ⟨_, p.append_left _, .cons h q⟩
  | swap x y l =>
    intro Z h
    cases h with
    | cons h t =>
      cases t with
      | cons h2 t =>
        refine ⟨_, ?_, .cons h2 (.cons h t)⟩
        rw [← List.append_assoc, ← List.append_assoc]
        exact List.Perm.append_right _ List.perm_append_comm
  | trans _ _ ih1 ih2 =>
    intro Z h
    obtain ⟨Z1, p1, q1⟩ := ih1 h
    obtain ⟨Z2, p2, q2⟩ := ih2 q1
    exact ⟨Z2, p1.trans p2, q2⟩
theorem R.perm (h : ps.Perm qs) (r : R K A H ps) : R K A H qs := by
  obtain ⟨Z, nd, o⟩ := r
  obtain ⟨Z', p, q⟩ := OwnL.perm h o
  refine ⟨Z', (List.Perm.nodup_iff (p.append_left A)).mp nd, OwnL.mono (hid_sub fun a ha => (p.append_left A).mem_iff.mpr ha) q fun _ _ => rfl⟩
theorem R.drop (r : R K A H (p :: ps)) : R K A H ps := by
  obtain ⟨Z, nd, o⟩ := r
  cases o with
  | @cons _ _ _ _ fp gp h t =>
    have s : ∀ a ∈ A ++ gp, a ∈ A ++ (fp ++ gp) := fun a ha => by
      rcases List.mem_append.mp ha with z | z
      · exact List.mem_append_left _ z
      · exact List.mem_append_right _ (List.mem_append_right _ z)
    refine ⟨gp, ?_, OwnL.mono (hid_sub s) t fun _ _ => rfl⟩
    rw [List.nodup_append] at nd ⊢
    obtain ⟨n1, n2, n3⟩ := nd
    exact ⟨n1, (List.nodup_append.mp n2).2.1, fun a ha b hb => n3 a ha b (List.mem_append_right _ hb)⟩
theorem R.mono (s : Same H H') (r : R K A H ps) : R K A H' ps := by
  obtain ⟨Z, nd, o⟩ := r
  exact ⟨Z, nd, OwnL.mono (hid_same s) o fun a ha => by
    obtain ⟨ob, e⟩ := OwnL.there o a ha
    rw [e]
    exact s _ _ e⟩
theorem R.dp (r : R K A H ((v, .val d) :: ps)) : Dp K H v d := by
  obtain ⟨Z, nd, o⟩ := r
  cases o with
  | cons h t =>
    cases h with
    | val h => exact Dp.same hid_le h
theorem R.dup (r : R K A H ((v, .val d) :: ps)) : R K A H ((v, .val d) :: (v, .val d) :: ps) := by
  obtain ⟨Z, nd, o⟩ := r
  cases o with
  | cons h t =>
    cases h with
    | val h => exact ⟨_, nd, .cons (fp := []) (.val h) (.cons (.val h) t)⟩
theorem R.add (h : ∀ F : Hp, Dp K F v d) (r : R K A H ps) : R K A H ((v, .val d) :: ps) := by
  obtain ⟨Z, nd, o⟩ := r
  exact ⟨Z, nd, .cons (fp := []) (.val (h _)) o⟩
/-- frozen data that was read off frozen data -/
theorem R.map {e : Dt} (f : ∀ F : Hp, Same F H → Dp K F v d → Dp K F w e) (r : R K A H ((v, .val d) :: ps)) : R K A H ((w, .val e) :: ps) := by
  obtain ⟨Z, nd, o⟩ := r
  cases o with
  | cons h t =>
    cases h with
    | val h => exact ⟨_, nd, .cons (fp := []) (.val (f _ hid_le h)) t⟩
end
end DL

namespace DL
open PySem PySem.Spec L2

section
variable {K : PySem.W.Frag} {A : List Addr} {H H' : Hp} {ps qs : Bag} {v w : V} {x y : OV} {d : Dt} {p : V × OV}
theorem zip_fst {α β : Type} : ∀ {as : List α} {bs : List β}, as.length = bs.length → (as.zip bs).map (·.1) = as
  | [], [], _ => rfl
  | [], _ :: _, e => by simp at e
  | _ :: _, [], e => by simp at e
  | a :: as, b :: bs, e => by
    show a :: (as.zip bs).map (·.1) = _
    rw [zip_fst (by simpa using e)]
theorem zip_snd {α β : Type} : ∀ {as : List α} {bs : List β}, as.length = bs.length → (as.zip bs).map (·.2) = bs
  | [], [], _ => rfl
  | [], _ :: _, e => by simp at e
  | _ :: _, [], e => by simp at e
  | a :: as, b :: bs, e => by
    show b :: (as.zip bs).map (·.2) = _
    rw [zip_snd (by simpa using e)]
theorem R.dropL : ∀ {qs : Bag}, R K A H (qs ++ ps) → R K A H ps
  | [], r => r
  | _ :: _, r => R.dropL r.drop
theorem R.nil : R K [] H [] := ⟨[], by simp, .nil⟩
/-- a list taken apart -/
theorem R.open {xs : List OV} (r : R K A H ((v, .lst xs) :: ps)) : ∃ a vs, v = .ref a ∧ H a = some (.lst vs) ∧ vs.length = xs.length ∧ R K (a :: A) H (vs.zip xs ++ ps) := by
  obtain ⟨Z, nd, o⟩ := r
  cases o with
  | cons h t =>
    cases h with
    | @lst a vs _ fp h hl =>
      have le := hl.length
      rename_i gp
      have pm : (A ++ (a :: fp ++ gp)).Perm (a :: A ++ (fp ++ gp)) := by
        simp only [List.cons_append]
        exact List.perm_middle
      refine ⟨a, vs, rfl, h, le, fp ++ gp, pm.nodup_iff.mp nd, ?_⟩
      rw [List.map_append, List.map_append, zip_fst le, zip_snd le]
      refine OwnL.mono (hid_sub fun b hb => pm.mem_iff.mpr hb) (OwnL.append hl t) fun _ _ => rfl
/-- .. and put together again, changed -/
theorem R.close {a : Addr} {ws : List V} {ys : List OV} (r : R K (a :: A) H (ws.zip ys ++ ps)) (le : ws.length = ys.length) : R K A (upd H a (.lst ws)) ((.ref a, .lst ys) :: ps) := by
  obtain ⟨Z, nd, o⟩ := r
  rw [List.map_append, List.map_append, zip_fst le, zip_snd le] at o
  obtain ⟨fp, gp, rfl, o1, o2⟩ := OwnL.split le o
  have pm : (a :: A ++ (fp ++ gp)).Perm (A ++ (a :: fp ++ gp)) := by
    simp only [List.cons_append]
    exact List.perm_middle.symm
  have na : a ∉ A ++ (fp ++ gp) := by
    rw [List.cons_append, List.nodup_cons] at nd
    exact nd.1
  have hF : Same (hid H (a :: A ++ (fp ++ gp))) (hid (upd H a (.lst ws)) (A ++ (a :: fp ++ gp))) := fun b o e => by
    by_cases hb : b ∈ a :: A ++ (fp ++ gp)
    · rw [hid_in hb] at e; cases e
    · rw [hid_out hb] at e
      rw [hid_out fun q => hb (pm.mem_iff.mpr q), upd_ne fun z => hb (by rw [z]; exact List.mem_cons_self)]
      exact e
  have keep : ∀ b ∈ fp ++ gp, upd H a (.lst ws) b = H b := fun b hb => upd_ne fun z => na (List.mem_append_right _ (z ▸ hb))
  refine ⟨a :: fp ++ gp, pm.nodup_iff.mp nd, ?_⟩
  exact .cons (.lst upd_same (OwnL.mono hF o1 fun b hb => keep b (List.mem_append_left _ hb))) (OwnL.mono hF o2 fun b hb => keep b (List.mem_append_right _ hb))
/-- a new list -/
theorem R.newL {a : Addr} {ws : List V} {ys : List OV} (r : R K [] H (ws.zip ys ++ ps)) (le : ws.length = ys.length) (hn : H a = none) : R K [] (upd H a (.lst ws)) ((.ref a, .lst ys) :: ps) := by
  refine R.close ?_ le
  obtain ⟨Z, nd, o⟩ := r
  have na : a ∉ Z := fun h => by
    obtain ⟨ob, e⟩ := OwnL.there o a h
    rw [hn] at e; cases e
  refine ⟨Z, ?_, OwnL.mono (fun b o e => ?_) o fun _ _ => rfl⟩
  · exact List.nodup_cons.mpr ⟨na, nd⟩
  · by_cases hb : b ∈ [] ++ Z
    · rw [hid_in hb] at e; cases e
    · rw [hid_out hb] at e
      rw [hid_out]
      · exact e
      · intro q
        rcases List.mem_cons.mp q with rfl | q
        · rw [hn] at e; cases e
        · exact hb q
theorem OwnL.dps {F : Hp} : ∀ {ws : List V} {ds : List Dt} {vs : List V} {xs : List OV} {fp : List Addr}, ws.length = ds.length → OwnL K H F (ws ++ vs) (ds.map .val ++ xs) fp → DpAll K F ws ds ∧ OwnL K H F vs xs fp
  | [], [], _, _, _, _, h => ⟨.nil, h⟩
  | [], _ :: _, _, _, _, e, _ => by simp at e
  | _ :: _, [], _, _, _, e, _ => by simp at e
  | w :: ws, d :: ds, _, _, _, e, h => by
    cases h with
    | cons h t =>
      cases h with
      | val h =>
        obtain ⟨a, b⟩ := OwnL.dps (ws := ws) (ds := ds) (by simpa using e) t
        exact ⟨.cons h a, b⟩
theorem R.dps {ws : List V} {ds : List Dt} (le : ws.length = ds.length) (r : R K A H (ws.zip (ds.map .val) ++ ps)) : ∃ Z, (A ++ Z).Nodup ∧ DpAll K (hid H (A ++ Z)) ws ds ∧ OwnL K H (hid H (A ++ Z)) (ps.map (·.1)) (ps.map (·.2)) Z := by
  obtain ⟨Z, nd, o⟩ := r
  rw [List.map_append, List.map_append, zip_fst (by simpa using le), zip_snd (by simpa using le)] at o
  obtain ⟨a, b⟩ := OwnL.dps le o
  exact ⟨Z, nd, a, b⟩
/-- a new tuple -/
theorem R.newT {a : Addr} {ws : List V} {ds : List Dt} (r : R K [] H (ws.zip (ds.map .val) ++ ps)) (le : ws.length = ds.length) (hn : H a = none) : R K [] (upd H a (.tup ws)) ((.ref a, .val (.tuple ds)) :: ps) := by
  obtain ⟨Z, nd, o1, o2⟩ := R.dps le r
  have na : ∀ b ∈ Z, b ≠ a := fun b h z => by
    obtain ⟨ob, e⟩ := OwnL.there o2 b h
    rw [z, hn] at e; cases e
  have hF : Same (hid H ([] ++ Z)) (hid (upd H a (.tup ws)) ([] ++ Z)) := hid_same fun b o e => by rw [upd_ne (ne_of_none e hn)]; exact e
  refine ⟨Z, nd, .cons (fp := []) (.val (.tup (.inl (.inl ?_)) (DpAll.same hF o1))) (OwnL.mono hF o2 fun b hb => upd_ne (na b hb))⟩
  rw [hid_out]
  · exact upd_same
  · exact fun h => na a h rfl
/-- an owned list of frozen things is frozen -/
theorem R.freeze {ds : List Dt} (r : R K A H ((v, .lst (ds.map .val)) :: ps)) : R K A H ((v, .val (.list ds)) :: ps) := by
  obtain ⟨Z, nd, o⟩ := r
  cases o with
  | cons h t =>
    cases h with
    | @lst a vs _ fp h hl =>
      rename_i gp
      obtain ⟨q, rfl⟩ := OwnL.vals hl
      have s : ∀ b ∈ A ++ gp, b ∈ A ++ ([a] ++ gp) := fun b hb => by
        rcases List.mem_append.mp hb with z | z
        · exact List.mem_append_left _ z
        · exact List.mem_append_right _ (List.mem_append_right _ z)
      have nd' : (A ++ (a :: gp)).Nodup := nd
      have na : a ∉ A ++ gp := (List.nodup_cons.mp (List.perm_middle.nodup_iff.mp nd')).1
      refine ⟨gp, (List.nodup_cons.mp (List.perm_middle.nodup_iff.mp nd')).2, .cons (fp := []) (.val (.lst (.inl (.inl ?_)) (DpAll.same (hid_sub s) q))) (OwnL.mono (hid_sub s) t fun _ _ => rfl)⟩
      rw [hid_out na]
      exact h
theorem R.front {p : V × OV} (r : R K A H (ps ++ p :: qs)) : R K A H (p :: (ps ++ qs)) := r.perm List.perm_middle
theorem R.unfront {p : V × OV} (r : R K A H (p :: (ps ++ qs))) : R K A H (ps ++ p :: qs) := r.perm List.perm_middle.symm
/-- what is in the bag, changed -/
theorem R.under {q1 q2 : Bag} {H' : Hp} {A' : List Addr} (f : ∀ ps, R K A H (q1 ++ ps) → R K A' H' (q2 ++ ps)) (r : R K A H (ps ++ (q1 ++ qs))) : R K A' H' (ps ++ (q2 ++ qs)) := by
  have p1 : (ps ++ (q1 ++ qs)).Perm (q1 ++ (ps ++ qs)) := by
    rw [← List.append_assoc, ← List.append_assoc]
    exact List.Perm.append_right _ List.perm_append_comm
  have p2 : (q2 ++ (ps ++ qs)).Perm (ps ++ (q2 ++ qs)) := by
    rw [← List.append_assoc, ← List.append_assoc]
    exact List.Perm.append_right _ List.perm_append_comm
  exact (f _ (r.perm p1)).perm p2
end

/-! ### slots -/
abbrev Env := List (Option OV)
inductive Slots : St → Env → Bag → Prop
  | nil : Slots [] [] []
  | no {o : Option V} {σ : St} {env : Env} {ps : Bag} : Slots σ env ps → Slots (o :: σ) (none :: env) ps
  | yes {v : V} {x : OV} {σ : St} {env : Env} {ps : Bag} : Slots σ env ps → Slots (some v :: σ) (some x :: env) ((v, x) :: ps)
theorem Slots.length {σ : St} {env : Env} {ps : Bag} (h : Slots σ env ps) : σ.length = env.length := by
  induction h with
  | nil => rfl
  | no _ ih => simp [ih]
  | yes _ ih => simp [ih]
/-- a slot's thing is taken out -/
theorem Slots.take {σ : St} {env : Env} {ps : Bag} {i : Nat} {x : OV} (h : Slots σ env ps) (e : env[i]? = some (some x)) : ∃ v qs, σ[i]? = some (some v) ∧ ps.Perm ((v, x) :: qs) ∧ Slots σ (env.set i none) qs := by
  induction h generalizing i with
  | nil => simp at e
  | no h ih =>
    cases i with
    | zero => simp at e
    | succ i =>
      obtain ⟨v, qs, e1, e2, e3⟩ := ih (by simpa using e)
      exact ⟨v, qs, by simpa using e1, e2, .no e3⟩
  | yes h ih =>
    cases i with
    | zero =>
      simp at e
      subst e
      exact ⟨_, _, rfl, .refl _, .no h⟩
    | succ i =>
      obtain ⟨v, qs, e1, e2, e3⟩ := ih (by simpa using e)
      exact ⟨v, _ :: qs, by simpa using e1, (e2.cons _).trans (.swap _ _ _), .yes e3⟩
/-- a slot is filled: what stood there goes -/
theorem Slots.putP {σ : St} {env : Env} {ps : Bag} {i : Nat} (h : Slots σ env ps) (hi : i < σ.length) (v : V) (x : OV) : ∃ qs, Slots (σ.set i (some v)) (env.set i (some x)) qs ∧ ∃ rs us, ps.Perm (rs ++ us) ∧ qs.Perm ((v, x) :: us) := by
  induction h generalizing i with
  | nil => simp at hi
  | @no o σ env ps h ih =>
    cases i with
    | zero => exact ⟨_, .yes h, [], _, .refl _, .refl _⟩
    | succ i =>
      obtain ⟨qs, q1, rs, us, q2, q3⟩ := ih (i := i) (by simpa using hi)
      exact ⟨_, .no q1, rs, us, q2, q3⟩
  | @yes w y σ env ps h ih =>
    cases i with
    | zero => exact ⟨_, .yes h, [(w, y)], ps, .refl _, .refl _⟩
    | succ i =>
      obtain ⟨qs, q1, rs, us, q2, q3⟩ := ih (i := i) (by simpa using hi)
      refine ⟨_, .yes q1, rs, (w, y) :: us, ?_, ?_⟩
      · exact (q2.cons _).trans List.perm_middle.symm
      · exact (q3.cons _).trans (.swap _ _ _)
/-- names of a block forgotten -/
def wipeE (env : Env) : List Nat → Env
  | [] => env
  | i :: r => (wipeE env r).set i none
theorem Slots.forget {σ : St} {env : Env} {ps : Bag} (i : Nat) (o : Option V) (h : Slots σ env ps) : ∃ rs qs, ps.Perm (rs ++ qs) ∧ Slots (σ.set i o) (env.set i none) qs := by
  induction h generalizing i with
  | nil => exact ⟨[], [], .refl _, .nil⟩
  | no h ih =>
    cases i with
    | zero => exact ⟨[], _, .refl _, .no h⟩
    | succ i =>
      obtain ⟨rs, qs, e1, e2⟩ := ih i
      exact ⟨rs, qs, e1, .no e2⟩
  | @yes w y σ env ps h ih =>
    cases i with
    | zero => exact ⟨[(w, y)], _, .refl _, .no h⟩
    | succ i =>
      obtain ⟨rs, qs, e1, e2⟩ := ih i
      exact ⟨rs, _ :: qs, (e1.cons _).trans List.perm_middle.symm, .yes e2⟩

abbrev Pins := List (Nat × V)
/-- the slots hold env, and beside them the bag ws -/
structure Rl (K : PySem.W.Frag) (pin : Pins) (σ : St) (env : Env) (ws : Bag) (H : Hp) : Prop where
  ex : ∃ ps, Slots σ env ps ∧ R K [] H (ps ++ ws)
  pn : ∀ p ∈ pin, σ[p.1]? = some (some p.2)
section
variable {K : PySem.W.Frag} {H H' : Hp} {pin : Pins} {σ : St} {env : Env} {ws qs q1 q2 : Bag} {v w : V} {x y : OV} {d : Dt} {i : Nat}
theorem Rl.under (f : ∀ ps, R K [] H (q1 ++ ps) → R K [] H' (q2 ++ ps)) (r : Rl K pin σ env (q1 ++ ws) H) : Rl K pin σ env (q2 ++ ws) H' := by
  obtain ⟨⟨ps, s, r⟩, pn⟩ := r
  exact ⟨⟨ps, s, R.under f r⟩, pn⟩
theorem Rl.get (r : Rl K pin σ env (q1 ++ ws) H) : ∃ ps, R K [] H (q1 ++ ps) := by
  obtain ⟨⟨ps, s, r⟩, pn⟩ := r
  refine ⟨ps ++ ws, r.perm ?_⟩
  rw [← List.append_assoc, ← List.append_assoc]
  exact List.Perm.append_right _ List.perm_append_comm
/-- the bag opened at its front, for good -/
theorem Rl.fix (r : Rl K pin σ env (q1 ++ ws) H) : ∃ ps, R K [] H (q1 ++ ps) ∧ ∀ H' q2, R K [] H' (q2 ++ ps) → Rl K pin σ env (q2 ++ ws) H' := by
  obtain ⟨⟨ps, s, r⟩, pn⟩ := r
  refine ⟨ps ++ ws, r.perm ?_, fun H' q2 r2 => ⟨⟨ps, s, r2.perm ?_⟩, pn⟩⟩
  · rw [← List.append_assoc, ← List.append_assoc]
    exact List.Perm.append_right _ List.perm_append_comm
  · rw [← List.append_assoc, ← List.append_assoc]
    exact List.Perm.append_right _ List.perm_append_comm
theorem Rl.drop (r : Rl K pin σ env ((v, x) :: ws) H) : Rl K pin σ env ws H := Rl.under (q1 := [(v, x)]) (q2 := []) (fun _ r => R.drop r) r
theorem Rl.mono (s : Same H H') (r : Rl K pin σ env ws H) : Rl K pin σ env ws H' := Rl.under (q1 := []) (q2 := []) (fun _ r => R.mono s r) r
theorem Rl.dup (r : Rl K pin σ env ((v, .val d) :: ws) H) : Rl K pin σ env ((v, .val d) :: (v, .val d) :: ws) H := Rl.under (q1 := [(v, .val d)]) (q2 := [(v, .val d), (v, .val d)]) (fun _ r => R.dup r) r
theorem Rl.dp (r : Rl K pin σ env ((v, .val d) :: ws) H) : Dp K H v d := by
  obtain ⟨ps, r⟩ := Rl.get (q1 := [(v, .val d)]) r
  exact R.dp r
theorem Rl.add (h : ∀ F : Hp, Dp K F v d) (r : Rl K pin σ env ws H) : Rl K pin σ env ((v, .val d) :: ws) H := Rl.under (q1 := []) (q2 := [(v, .val d)]) (fun _ r => R.add h r) r
/-- out of a slot, by a copy -/
theorem Rl.var (e : env[i]? = some (some (.val d))) (r : Rl K pin σ env ws H) : ∃ v, σ[i]? = some (some v) ∧ Rl K pin σ env ((v, .val d) :: ws) H := by
  obtain ⟨⟨ps, s, r⟩, pn⟩ := r
  obtain ⟨v, qs, e1, e2, _⟩ := s.take e
  refine ⟨v, e1, ⟨ps, s, ?_⟩, pn⟩
  have p1 : (ps ++ ws).Perm ((v, .val d) :: (qs ++ ws)) := List.Perm.append_right ws e2
  have r2 := R.dup (r.perm p1)
  exact r2.perm ((p1.symm.cons _).trans List.perm_middle.symm)
/-- out of a slot, moved -/
theorem Rl.take (e : env[i]? = some (some x)) (r : Rl K pin σ env ws H) : ∃ v, σ[i]? = some (some v) ∧ Rl K pin σ (env.set i none) ((v, x) :: ws) H := by
  obtain ⟨⟨ps, s, r⟩, pn⟩ := r
  obtain ⟨v, qs, e1, e2, e3⟩ := s.take e
  refine ⟨v, e1, ⟨qs, e3, ?_⟩, pn⟩
  exact r.perm ((List.Perm.append_right ws e2).trans List.perm_middle.symm)
/-- into a slot -/
theorem Rl.put (hi : i < σ.length) (hp : i ∉ pin.map (·.1)) (r : Rl K pin σ env ((v, x) :: ws) H) : Rl K pin (σ.set i (some v)) (env.set i (some x)) ws H := by
  obtain ⟨⟨ps, s, r⟩, pn⟩ := r
  obtain ⟨qs, s', rs, us, e1, e2⟩ := s.putP hi v x
  refine ⟨⟨qs, s', ?_⟩, fun p h => ?_⟩
  · have p1 : (ps ++ (v, x) :: ws).Perm (rs ++ (us ++ (v, x) :: ws)) := by
      rw [← List.append_assoc]
      exact List.Perm.append_right _ e1
    have r2 := R.dropL (r.perm p1)
    refine r2.perm (List.perm_middle.trans ?_)
    exact (List.Perm.append_right ws e2).symm
  · rw [List.getElem?_set_ne]
    · exact pn p h
    · rintro rfl
      exact hp (List.mem_map.mpr ⟨p, h, rfl⟩)
/-- back into the slot from which it came -/
theorem Rl.back (e : σ[i]? = some (some v)) (r : Rl K pin σ env ((v, x) :: ws) H) : Rl K pin σ (env.set i (some x)) ws H := by
  obtain ⟨hi, e'⟩ := List.getElem?_eq_some_iff.mp e
  obtain ⟨⟨ps, s, r⟩, pn⟩ := r
  have es : σ.set i (some v) = σ := by
    rw [← e']
    exact List.set_getElem_self hi
  obtain ⟨qs, s', rs, us, e1, e2⟩ := s.putP hi v x
  rw [es] at s'
  refine ⟨⟨qs, s', ?_⟩, pn⟩
  have p1 : (ps ++ (v, x) :: ws).Perm (rs ++ (us ++ (v, x) :: ws)) := by
    rw [← List.append_assoc]
    exact List.Perm.append_right _ e1
  have r2 := R.dropL (r.perm p1)
  refine r2.perm (List.perm_middle.trans ?_)
  exact (List.Perm.append_right ws e2).symm
theorem Rl.forget (i : Nat) (r : Rl K pin σ env ws H) (o : Option V) (hp : i ∉ pin.map (·.1)) : Rl K pin (σ.set i o) (env.set i none) ws H := by
  obtain ⟨⟨ps, s, r⟩, pn⟩ := r
  obtain ⟨rs, qs, e1, e2⟩ := s.forget i o
  refine ⟨⟨qs, e2, ?_⟩, fun p h => ?_⟩
  · refine R.dropL (qs := rs) (r.perm ?_)
    rw [← List.append_assoc]
    exact List.Perm.append_right _ e1
  · rw [List.getElem?_set_ne]
    · exact pn p h
    · rintro rfl
      exact hp (List.mem_map.mpr ⟨p, h, rfl⟩)
theorem Rl.len (r : Rl K pin σ env ws H) : σ.length = env.length := by
  obtain ⟨⟨ps, s, _⟩, _⟩ := r
  exact s.length
end
end DL

namespace DL
open PySem PySem.Spec L2

mutual
/-- as frozen data -/
def OV.frz : OV → Option Dt
  | .val d => some d
  | .lst xs => (OV.frzL xs).map .list
  | .nod _ _ => none
  | .fno _ _ => none
  | .raw _ => none
  | .sub _ _ _ => none
def OV.frzL : List OV → Option (List Dt)
  | [] => some []
  | x :: xs => match OV.frz x, OV.frzL xs with
    | some d, some ds => some (d :: ds)
    | _, _ => none
end
section
variable {K : PySem.W.Frag} {H F F' : Hp} {A : List Addr} {ps ws : Bag}
mutual
theorem Own.frz (hF : Same F F') : ∀ {v : V} {x : OV} {fp : List Addr} {d : Dt}, Own K H F v x fp → x.frz = some d → (∀ a ∈ fp, F' a = H a) → Dp K F' v d
  | _, .val d, _, e, .val h, q, _ => by
    rw [OV.frz] at q
    cases q
    exact Dp.same hF h
  | _, .lst xs, _, e, .lst h t, q, k => by
    rw [OV.frz] at q
    cases q' : OV.frzL xs with
    | none => rw [q'] at q; cases q
    | some ds =>
      rw [q'] at q
      cases q
      exact .lst (.inl (.inl (by rw [k _ List.mem_cons_self]; exact h))) (OwnL.frz hF t q' fun a ha => k a (List.mem_cons_of_mem _ ha))
  | _, .nod _ _, _, _, .nod _ _, q, _ => by
    rw [OV.frz] at q
    cases q
  | _, .fno _ _, _, _, .fno _ _, q, _ => by
    rw [OV.frz] at q
    cases q
  | _, .raw _, _, _, .raw, q, _ => by
    rw [OV.frz] at q
    cases q
  | _, .sub _ _ _, _, _, .sub _ _, q, _ => by
    rw [OV.frz] at q
    cases q
theorem OwnL.frz (hF : Same F F') : ∀ {vs : List V} {xs : List OV} {fp : List Addr} {ds : List Dt}, OwnL K H F vs xs fp → OV.frzL xs = some ds → (∀ a ∈ fp, F' a = H a) → DpAll K F' vs ds
  | _, [], _, _, .nil, q, _ => by
    rw [OV.frzL] at q
    cases q
    exact .nil
  | _, x :: xs, _, _, .cons h t, q, k => by
    rw [OV.frzL] at q
    cases q1 : x.frz with
    | none => rw [q1] at q; cases q
    | some d =>
      cases q2 : OV.frzL xs with
      | none => rw [q1, q2] at q; cases q
      | some ds =>
        rw [q1, q2] at q
        cases q
        exact .cons (Own.frz hF h q1 fun a ha => k a (List.mem_append_left _ ha)) (OwnL.frz hF t q2 fun a ha => k a (List.mem_append_right _ ha))
end
theorem R.frz {v : V} {x : OV} {d : Dt} (q : x.frz = some d) (r : R K A H ((v, x) :: ps)) : R K A H ((v, .val d) :: ps) := by
  obtain ⟨Z, nd, o⟩ := r
  cases o with
  | @cons _ _ _ _ fp gp h t =>
    have s : ∀ b ∈ A ++ gp, b ∈ A ++ (fp ++ gp) := fun b hb => by
      rcases List.mem_append.mp hb with z | z
      · exact List.mem_append_left _ z
      · exact List.mem_append_right _ (List.mem_append_right _ z)
    have nd2 := List.nodup_append.mp nd
    have nd3 := List.nodup_append.mp nd2.2.1
    refine ⟨gp, ?_, .cons (fp := []) (.val (Own.frz (hid_sub s) h q fun a ha => hid_out fun z => ?_)) (OwnL.mono (hid_sub s) t fun _ _ => rfl)⟩
    · exact List.nodup_append.mpr ⟨nd2.1, nd3.2.1, fun a ha b hb => nd2.2.2 a ha b (List.mem_append_right _ hb)⟩
    · rcases List.mem_append.mp z with z | z
      · exact nd2.2.2 a z a (List.mem_append_left _ ha) rfl
      · exact nd3.2.2 a ha a z rfl
theorem frzL_len : ∀ {xs : List OV} {ds : List Dt}, OV.frzL xs = some ds → xs.length = ds.length
  | [], _, q => by
    rw [OV.frzL] at q
    cases q
    rfl
  | x :: xs, _, q => by
    rw [OV.frzL] at q
    cases q1 : x.frz with
    | none => rw [q1] at q; cases q
    | some d =>
      cases q2 : OV.frzL xs with
      | none => rw [q1, q2] at q; cases q
      | some ds =>
        rw [q1, q2] at q
        cases q
        rw [List.length_cons, List.length_cons, frzL_len q2]
theorem R.frzL : ∀ {vs : List V} {xs : List OV} {ds : List Dt} {ps : Bag}, vs.length = xs.length → OV.frzL xs = some ds → R K A H (vs.zip xs ++ ps) → R K A H (vs.zip (ds.map .val) ++ ps)
  | [], [], _, _, _, q, r => by
    rw [OV.frzL] at q
    cases q
    exact r
  | [], _ :: _, _, _, e, _, _ => by simp at e
  | _ :: _, [], _, _, e, _, _ => by simp at e
  | v :: vs, x :: xs, _, ps, e, q, r => by
    rw [OV.frzL] at q
    cases q1 : x.frz with
    | none => rw [q1] at q; cases q
    | some d =>
      cases q2 : OV.frzL xs with
      | none => rw [q1, q2] at q; cases q
      | some ds =>
        rw [q1, q2] at q
        cases q
        have r1 := R.unfront (R.frz q1 r)
        have r2 := R.frzL (vs := vs) (xs := xs) (ds := ds) (ps := (v, .val d) :: ps) (by simpa using e) q2 r1
        exact R.front r2
end
@[simp] theorem frzL_map : ∀ ds : List Dt, OV.frzL (ds.map .val) = some ds
  | [] => by simp [OV.frzL]
  | d :: ds => by simp [OV.frzL, OV.frz, frzL_map ds]
@[simp] theorem frz_val (d : Dt) : (OV.val d).frz = some d := by simp [OV.frz]
@[simp] theorem frz_lst (ds : List Dt) : (OV.lst (ds.map .val)).frz = some (.list ds) := by simp [OV.frz]

/-! ### what a piece of the program does with the slots -/
structure Exn where
  cls : Str
  fld : Option (Str × Dt) := none
inductive Er (α : Type) where
  | ok (a : α) (env : Env)
  | ex (e : Exn) (env : Env)
abbrev M (α : Type) := Env → Option (Er α)
def mR {α : Type} (a : α) : M α := fun env => some (.ok a env)
def mO {α : Type} (o : Option α) : M α := fun env => match o with
  | some a => some (.ok a env)
  | none => none
def mB {α β : Type} (f : M α) (g : α → M β) : M β := fun env => match f env with
  | some (.ok a env') => g a env'
  | some (.ex e env') => some (.ex e env')
  | none => none
theorem mB_cases {α β : Type} {f : M α} {g : α → M β} {env : Env} {r : Er β} (h : mB f g env = some r) :
    (∃ a env1, f env = some (.ok a env1) ∧ g a env1 = some r) ∨ ∃ e env1, f env = some (.ex e env1) ∧ r = .ex e env1 := by
  unfold mB at h
  split at h
  · exact .inl ⟨_, _, by assumption, h⟩
  · cases h
    exact .inr ⟨_, _, by assumption, rfl⟩
  · cases h
theorem mO_some {α : Type} {o : Option α} {env : Env} {r : Er α} (h : mO o env = some r) : ∃ a, o = some a ∧ r = .ok a env := by
  unfold mO at h
  split at h
  · cases h
    exact ⟨_, rfl, rfl⟩
  · cases h

/-- an exception is as told -/
def ExIs (K : PySem.W.Frag) (mg : Str → Option Value) (e : Exn) (cls : Value) (d : Option Addr) (H : Hp) : Prop :=
  ∃ C, mg e.cls = some (.ref C) ∧ cls = .ref C ∧ match e.fld with
    | none => True
    | some (f, x) => ∃ dd v, d = some dd ∧ H dd = some (.xd [(f, v)]) ∧ Dp K H v x

section
variable (K : PySem.W.Frag) (mg : Str → Option Value) (pin : Pins) (W : WX)
/-- what is wanted of an exception -/
def Xp (ws : Bag) (σ : St) {α : Type} (r : Er α) : Prop := ∀ e env', r = .ex e env' → ∀ cls d H', ExIs K mg e cls d H' → Rl K pin σ env' ws H' → W cls d σ H'
def dE (f : M OV) : TE := fun σ H Q => ∃ env ws r, Rl K pin σ env ws H ∧ f env = some r ∧ Xp K mg pin W ws σ r ∧
  ∀ x env', r = .ok x env' → ∀ v H', Rl K pin σ env' ((v, x) :: ws) H' → Q v H'
def dT (f : M Bool) : TT := fun σ H Q => ∃ env ws r, Rl K pin σ env ws H ∧ f env = some r ∧ Xp K mg pin W ws σ r ∧
  ∀ b env', r = .ok b env' → ∀ H', Rl K pin σ env' ws H' → Q b H'
def dA (f : M (List OV)) : TA := fun σ H Q => ∃ env ws r, Rl K pin σ env ws H ∧ f env = some r ∧ Xp K mg pin W ws σ r ∧
  ∀ xs env', r = .ok xs env' → ∀ vs H', vs.length = xs.length → Rl K pin σ env' (vs.zip xs ++ ws) H' → Q vs H'
end
section
variable {K : PySem.W.Frag} {mg : Str → Option Value} {pin : Pins} {W : WX} {ws qs : Bag} {σ : St} {H : Hp} {env : Env} {v : V} {x : OV}
theorem Xp.drop {α : Type} {r : Er α} (h : Xp K mg pin W ws σ r) : Xp K mg pin W ((v, x) :: ws) σ r := fun e env' q cls d H' i R => h e env' q cls d H' i R.drop
theorem Xp.dropL {α : Type} {r : Er α} : ∀ {qs : Bag}, Xp K mg pin W ws σ r → Xp K mg pin W (qs ++ ws) σ r
  | [], h => h
  | _ :: _, h => Xp.drop (Xp.dropL h)
theorem Xp.ok {α : Type} {a : α} {env' : Env} : Xp K mg pin W ws σ (.ok a env') := fun _ _ q => nomatch q
theorem Xp.of {α β : Type} {r : Er α} {e : Exn} {env1 : Env} (h : Xp K mg pin W ws σ r) (q : r = .ex e env1) : Xp K mg pin W ws σ (Er.ex (α := β) e env1) := fun e' env' q' => by
  cases q'
  exact h _ _ q
/-- the first of two -/
theorem dE_bind {β : Type} {f : M OV} {g : OV → M β} {r : Er β} {P : VK} (hR : Rl K pin σ env ws H) (he : mB f g env = some r) (hx : Xp K mg pin W ws σ r)
    (k : ∀ x env1 v H1, Rl K pin σ env1 ((v, x) :: ws) H1 → g x env1 = some r → P v H1) : dE K mg pin W f σ H P := by
  rcases mB_cases he with ⟨x, env1, e1, e2⟩ | ⟨e, env1, e1, e2⟩
  · exact ⟨env, ws, _, hR, e1, .ok, fun x' env' q v H1 R1 => by cases q; exact k _ _ v H1 R1 e2⟩
  · exact ⟨env, ws, _, hR, e1, hx.of e2, fun x' env' q => nomatch q⟩
theorem dA_bind {β : Type} {f : M (List OV)} {g : List OV → M β} {r : Er β} {P : List V → Hp → Prop} (hR : Rl K pin σ env ws H) (he : mB f g env = some r) (hx : Xp K mg pin W ws σ r)
    (k : ∀ xs env1 vs H1, vs.length = xs.length → Rl K pin σ env1 (vs.zip xs ++ ws) H1 → g xs env1 = some r → P vs H1) : dA K mg pin W f σ H P := by
  rcases mB_cases he with ⟨x, env1, e1, e2⟩ | ⟨e, env1, e1, e2⟩
  · exact ⟨env, ws, _, hR, e1, .ok, fun x' env' q v H1 l R1 => by cases q; exact k _ _ v H1 l R1 e2⟩
  · exact ⟨env, ws, _, hR, e1, hx.of e2, fun x' env' q => nomatch q⟩
theorem dT_bind {β : Type} {f : M Bool} {g : Bool → M β} {r : Er β} {P : Bool → Hp → Prop} (hR : Rl K pin σ env ws H) (he : mB f g env = some r) (hx : Xp K mg pin W ws σ r)
    (k : ∀ b env1 H1, Rl K pin σ env1 ws H1 → g b env1 = some r → P b H1) : dT K mg pin W f σ H P := by
  rcases mB_cases he with ⟨x, env1, e1, e2⟩ | ⟨e, env1, e1, e2⟩
  · exact ⟨env, ws, _, hR, e1, .ok, fun x' env' q H1 R1 => by cases q; exact k _ _ H1 R1 e2⟩
  · exact ⟨env, ws, _, hR, e1, hx.of e2, fun x' env' q => nomatch q⟩
end

section
variable {X : Cx} {e : Expr} {es : List Expr}
theorem _root_.L2.PE.imp {t t' : TE} (h : PE X e t) (k : ∀ σ H Q, t' σ H Q → t σ H Q) : PE X e t' := ⟨fun pins s σ H Q I q => h.run pins s σ H Q I (k _ _ _ q)⟩
theorem _root_.L2.PT.imp {t t' : TT} (h : PT X e t) (k : ∀ σ H Q, t' σ H Q → t σ H Q) : PT X e t' := ⟨fun pins s σ H Q I q => h.run pins s σ H Q I (k _ _ _ q)⟩
theorem _root_.L2.PW.imp {t t' : TT} (h : PW X e t) (k : ∀ σ H Q, t' σ H Q → t σ H Q) : PW X e t' := ⟨fun wh pins s σ H Q I q => h.run wh pins s σ H Q I (k _ _ _ q)⟩
theorem _root_.L2.PA.imp {t t' : TA} (h : PA X es t) (k : ∀ σ H Q, t' σ H Q → t σ H Q) : PA X es t' := ⟨fun pos pins s σ H Q I q => h.run pos pins s σ H Q I (k _ _ _ q)⟩
theorem _root_.L2.PS.imp {st : Stmt} {t t' : TS} (h : PS X st t) (k : ∀ D σ H, t' D σ H → t D σ H) : PS X st t' := ⟨fun pins s σ H D I q => h.run pins s σ H D I (k _ _ _ q)⟩
theorem _root_.L2.PSs.imp {st : List Stmt} {t t' : TS} (h : PSs X st t) (k : ∀ D σ H, t' D σ H → t D σ H) : PSs X st t' := ⟨fun pins s σ H D I q => h.run pins s σ H D I (k _ _ _ q)⟩
end

abbrev De (X : Cx) (pin : Pins) (W : WX) (e : Expr) (f : M OV) : Prop := PE X e (dE X.K X.mg pin W f)
abbrev Db (X : Cx) (pin : Pins) (W : WX) (e : Expr) (f : M Bool) : Prop := PT X e (dT X.K X.mg pin W f)
abbrev Da (X : Cx) (pin : Pins) (W : WX) (es : List Expr) (f : M (List OV)) : Prop := PA X es (dA X.K X.mg pin W f)

section
variable {X : Cx} {pin : Pins} {W : WX} {a b c e : Expr} {es : List Expr} {pos : Pos} {f g h : M OV} {fa fb : M Bool} {fs : M (List OV)}

/-! ### constants, names -/
def mC (d : Dt) : M OV := mR (.val d)
theorem de_c {v : V} {d : Dt} (hv : ∀ F : Hp, Dp X.K F v d) (h : PE X e (tC v)) : De X pin W e (mC d) := h.imp fun σ H Q ⟨env, ws, r, hR, he, hx, k⟩ => by
  cases he
  exact k _ _ rfl v H (hR.add hv)
theorem de_int {i : Int} {j : Nat} : De X pin W (.Constant (.int i) j pos) (mC (.int i)) := de_c (fun _ => .int i) pe_int
theorem de_bl {b : Bool} {j : Nat} : De X pin W (.Constant (.bool b) j pos) (mC (.bool b)) := de_c (fun _ => .bl b) pe_bl
theorem de_non {j : Nat} : De X pin W (.Constant .none j pos) (mC .none) := de_c (fun _ => .non) pe_non
theorem de_str {x : Str} {j : Nat} : De X pin W (.Constant (.str x) j pos) (mC (.str x)) := de_c (fun _ => .str x) pe_str
/-- a name of the module that holds data -/
def GlobD (K : PySem.W.Frag) (mg : Str → Option Value) (x : Str) (d : Dt) : Prop := ∃ v u, mg x = some u ∧ RelV v u ∧ ∀ F : Hp, Dp K F v d
theorem de_glob {x : Str} {d : Dt} (hg : GlobD X.K X.mg x d) (g : Gl X x := by rfl) (hd : (x == ("__debug__" : Str)) = false := by decide) : De X pin W (.Name x pos) (mC d) := by
  obtain ⟨v, u, hm, r, hv⟩ := hg
  exact de_c hv (pe_glob g hm r hd)
/-- a slot's name: frozen when it is read -/
def mV (i : Nat) : M OV := fun env => match env[i]? with
  | some (some (.val d)) => some (.ok (.val d) env)
  | some (some x) => match x.frz with
    | some d => some (.ok (.val d) (env.set i (some (.val d))))
    | none => none
  | _ => none
theorem de_var {i : Nat} (h : PE X e (tVar i)) : De X pin W e (mV i) := h.imp fun σ H Q ⟨env, ws, r, hR, he, hx, k⟩ => by
  unfold mV at he
  split at he
  · rename_i d q
    cases he
    obtain ⟨v, e1, R1⟩ := hR.var q
    exact ⟨v, e1, k _ _ rfl v H R1⟩
  · rename_i x nv q
    split at he
    · rename_i d q2
      cases he
      obtain ⟨v, e1, R1⟩ := hR.take q
      have R2 := Rl.under (q1 := [(v, x)]) (q2 := [(v, .val d)]) (fun _ r => R.frz q2 r) R1
      have R3 := R2.dup
      have e2 : (env.set i none).set i (some (OV.val d)) = env.set i (some (OV.val d)) := List.set_set _
      have R4 := Rl.back e1 R3
      rw [e2] at R4
      exact ⟨v, e1, k _ _ rfl v H R4⟩
    · cases he
  · cases he
/-- .. moved out of its slot -/
def mMv (i : Nat) : M OV := fun env => match env[i]? with
  | some (some x) => some (.ok x (env.set i none))
  | _ => none
theorem de_mv {i : Nat} (h : PE X e (tVar i)) : De X pin W e (mMv i) := h.imp fun σ H Q ⟨env, ws, r, hR, he, hx, k⟩ => by
  unfold mMv at he
  split at he
  · rename_i x q
    cases he
    obtain ⟨v, e1, R1⟩ := hR.take q
    exact ⟨v, e1, k _ _ rfl v H R1⟩
  · cases he

/-! ### argument lists -/
def mNil : M (List OV) := mR []
def mCons (f : M OV) (fs : M (List OV)) : M (List OV) := mB f fun x => mB fs fun xs => mR (x :: xs)
theorem da_nil : Da X pin W [] mNil := pa_nil.imp fun σ H Q ⟨env, ws, r, hR, he, hx, k⟩ => by
  cases he
  exact k _ _ rfl [] H rfl hR
theorem da_cons (he : De X pin W e f) (hes : Da X pin W es fs) (hs : starEach (e :: es) X.env = (false, eval e X.env) :: starEach es X.env := by rfl) : Da X pin W (e :: es) (mCons f fs) :=
  (pa_cons he hes hs).imp fun σ H Q ⟨env, ws, r, hR, he, hx, k⟩ => by
    refine dE_bind hR he hx fun x env1 v H1 R1 he1 => ?_
    refine dA_bind R1 he1 hx.drop fun xs env2 vs H2 l R2 he2 => ?_
    cases he2
    refine k _ _ rfl (v :: vs) H2 (by simp [l]) ?_
    obtain ⟨⟨ps, s, r⟩, pn⟩ := R2
    refine ⟨⟨ps, s, r.perm (List.Perm.append_left _ ?_)⟩, pn⟩
    exact List.perm_middle

/-! ### operators -/
/-- an operator of two: from frozen data to what is handed back -/
def Sound2 (K : PySem.W.Frag) (r : R2) (g : Dt → Dt → Option OV) : Prop := ∀ (H : Hp) (v w : V) (x y : Dt) (z : OV) (Q : VK) (ps : Bag), g x y = some z → R K [] H ((w, .val y) :: (v, .val x) :: ps) →
  (∀ v' H', R K [] H' ((v', z) :: ps) → Q v' H') → r v w H Q
def g2 (g : Dt → Dt → Option OV) (x y : OV) : Option OV := match x.frz, y.frz with
  | some d, some e => g d e
  | _, _ => none
theorem g2_some {g : Dt → Dt → Option OV} {x y z : OV} (h : g2 g x y = some z) : ∃ d e, x.frz = some d ∧ y.frz = some e ∧ g d e = some z := by
  unfold g2 at h
  split at h
  · exact ⟨_, _, by assumption, by assumption, h⟩
  · cases h
def m2 (g : Dt → Dt → Option OV) (f h : M OV) : M OV := mB f fun x => mB h fun y => mO (g2 g x y)
theorem sound2_use {K : PySem.W.Frag} {mg : Str → Option Value} {r : R2} {gg : Dt → Dt → Option OV} (hs : Sound2 K r gg) {σ : St} {H : Hp} {Q : VK} {env : Env} {ws : Bag} {rr : Er OV} (hR : Rl K pin σ env ws H) (he : m2 gg f h env = some rr) (hx : Xp K mg pin W ws σ rr)
    (k : ∀ x env', rr = .ok x env' → ∀ v H', Rl K pin σ env' ((v, x) :: ws) H' → Q v H') : tOp r (dE K mg pin W f) (dE K mg pin W h) σ H Q := by
  refine dE_bind hR he hx fun x env1 v H1 R1 he1 => ?_
  refine dE_bind R1 he1 hx.drop fun y env2 w H2 R2 he2 => ?_
  obtain ⟨z, e3, rfl⟩ := mO_some he2
  obtain ⟨dx, dy, ex, ey, e4⟩ := g2_some e3
  have R3 := Rl.under (q1 := [(w, y), (v, x)]) (q2 := [(w, .val dy), (v, .val dx)]) (fun _ r => by
    have r1 := R.frz ey r
    have r2 := R.frz ex (r1.perm (.swap _ _ _))
    exact r2.perm (.swap _ _ _)) R2
  obtain ⟨ps, r0, back⟩ := Rl.fix (q1 := [(w, .val dy), (v, .val dx)]) R3
  refine hs H2 v w dx dy z Q ps e4 r0 fun v' H' r1 => ?_
  exact k _ _ rfl v' H' (back H' [(v', z)] r1)
theorem de_op {op : Operator} {r : R2} {gg : Dt → Dt → Option OV} (ho : OpR X (binaryOp op) r) (hs : Sound2 X.K r gg) (ha : De X pin W a f) (hb : De X pin W b h) : De X pin W (.BinOp a op b pos) (m2 gg f h) :=
  (pe_op ho ha hb).imp fun σ H Q ⟨env, ws, rr, hR, he, hx, k⟩ => sound2_use hs hR he hx k
theorem de_cmp {op : CmpOp} {r : R2} {gg : Dt → Dt → Option OV} (ho : OpR X (compareOp op) r) (hs : Sound2 X.K r gg) (ha : De X pin W a f) (hb : De X pin W b h) (hm : behindInMarks op b = false) : De X pin W (.Compare a [op] [b] pos) (m2 gg f h) :=
  (pe_cmpR ho ha hb hm).imp fun σ H Q ⟨env, ws, rr, hR, he, hx, k⟩ => sound2_use hs hR he hx k
/-- a value that is a bool -/
def bl? : OV → Option Bool
  | .val (.bool b) => some b
  | _ => none
def mBl (f : M OV) : M Bool := mB f fun x => mO (bl? x)
theorem bl?_some {x : OV} {b : Bool} (h : bl? x = some b) : x = .val (.bool b) := by
  unfold bl? at h
  split at h
  · cases h
    rfl
  · cases h
theorem dT_of {K : PySem.W.Frag} {mg : Str → Option Value} {σ : St} {H : Hp} {Q : Bool → Hp → Prop} (q : dT K mg pin W (mBl f) σ H Q) : dE K mg pin W f σ H fun x H1 => ∃ c, x = .bl c ∧ Q c H1 := by
  obtain ⟨env, ws, rr, hR, he, hx, k⟩ := q
  refine dE_bind hR he hx fun x env1 v H1 R1 he1 => ?_
  obtain ⟨b, e3, rfl⟩ := mO_some he1
  cases bl?_some e3
  have d := R1.dp
  cases d
  exact ⟨b, rfl, k _ _ rfl H1 R1.drop⟩
theorem db_cmp {op : CmpOp} {r : R2} {gg : Dt → Dt → Option OV} (ho : OpR X (compareOp op) r) (hs : Sound2 X.K r gg) (ha : De X pin W a f) (hb : De X pin W b h) (hm : behindInMarks op b = false) : Db X pin W (.Compare a [op] [b] pos) (mBl (m2 gg f h)) :=
  (pt_cmpR ho ha hb hm).imp fun σ H Q q => by
    obtain ⟨env, ws, rr, hR, he, hx, k⟩ := dT_of q
    exact sound2_use hs hR he hx k
theorem db_val (h : De X pin W e f) (he : ∀ whole, isTrue e X.env whole = (do let v ← whole; standAt e.pos; holding [v] (truthy v)) := by intro _; rfl) : Db X pin W e (mBl f) :=
  (pt_val h he).imp fun σ H Q q => dT_of q

/-! ### and, or, not -/
def mIf {α : Type} (c : M Bool) (f g : M α) : M α := mB c fun b => if b = true then f else g
theorem dT_use {K : PySem.W.Frag} {mg : Str → Option Value} {σ : St} {H : Hp} {env : Env} {ws : Bag} {r : Er Bool} {P : Bool → Hp → Prop} (hR : Rl K pin σ env ws H) (he : fa env = some r) (hx : Xp K mg pin W ws σ r)
    (k : ∀ b env', r = .ok b env' → ∀ H', Rl K pin σ env' ws H' → P b H') : dT K mg pin W fa σ H P := ⟨env, ws, r, hR, he, hx, k⟩
abbrev Dw (X : Cx) (pin : Pins) (W : WX) (e : Expr) (f : M Bool) : Prop := PW X e (dT X.K X.mg pin W f)
def mAnd (f g : M Bool) : M Bool := mIf f g (mR false)
def mOr (f g : M Bool) : M Bool := mIf f (mR true) g
def mNot (f : M Bool) : M Bool := mB f fun b => mR (!b)
theorem dw_and1 (ha : Db X pin W a fa) : Dw X pin W (.BoolOp .And [a] pos) fa := pw_and1 ha
theorem dw_or1 (ha : Db X pin W a fa) : Dw X pin W (.BoolOp .Or [a] pos) fa := pw_or1 ha
theorem dw_and {rest : List Expr} (ha : Db X pin W a fa) (hb : Dw X pin W (.BoolOp .And (b :: rest) pos) fb) : Dw X pin W (.BoolOp .And (a :: b :: rest) pos) (mAnd fa fb) :=
  (pw_and ha hb).imp fun σ H Q ⟨env, ws, rr, hR, he, hx, k⟩ => by
    refine dT_bind hR he hx fun b env1 H1 R1 he1 => ?_
    cases b with
    | true => exact ⟨env1, ws, rr, R1, he1, hx, k⟩
    | false =>
      cases he1
      exact k _ _ rfl H1 R1
theorem dw_or {rest : List Expr} (ha : Db X pin W a fa) (hb : Dw X pin W (.BoolOp .Or (b :: rest) pos) fb) : Dw X pin W (.BoolOp .Or (a :: b :: rest) pos) (mOr fa fb) :=
  (pw_or ha hb).imp fun σ H Q ⟨env, ws, rr, hR, he, hx, k⟩ => by
    refine dT_bind hR he hx fun b env1 H1 R1 he1 => ?_
    cases b with
    | false => exact ⟨env1, ws, rr, R1, he1, hx, k⟩
    | true =>
      cases he1
      exact k _ _ rfl H1 R1
theorem db_w (h : Dw X pin W e fa) : Db X pin W e fa := h.pt
theorem db_not (ha : Db X pin W a fa) : Db X pin W (.UnaryOp .Not a pos) (mNot fa) :=
  (pt_not ha).imp fun σ H Q ⟨env, ws, rr, hR, he, hx, k⟩ => by
    refine dT_bind hR he hx fun b env1 H1 R1 he1 => ?_
    cases he1
    exact k _ _ rfl H1 R1
/-- .. as values: each but the last a bool -/
def mAndV (f g : M OV) : M OV := mIf (mBl f) g (mC (.bool false))
def mOrV (f g : M OV) : M OV := mIf (mBl f) (mC (.bool true)) g
def mNotV (f : M OV) : M OV := mB (mBl f) fun b => mC (.bool (!b))
theorem mBl_seq {K : PySem.W.Frag} {mg : Str → Option Value} {σ : St} {H : Hp} {env : Env} {ws : Bag} {α : Type} {r : Er α} {gg : Bool → M α} {P : VK} (hR : Rl K pin σ env ws H) (he : mB (mBl f) gg env = some r) (hx : Xp K mg pin W ws σ r)
    (k : ∀ c env1 H1, Rl K pin σ env1 ws H1 → gg c env1 = some r → P (.bl c) H1) : dE K mg pin W f σ H P := by
  have q : dT K mg pin W (mBl f) σ H fun b H1 => P (.bl b) H1 := dT_bind hR he hx fun b env1 H1 R1 he1 => k b env1 H1 R1 he1
  obtain ⟨env2, ws2, r2, a1, a2, a3, a4⟩ := dT_of q
  exact ⟨env2, ws2, r2, a1, a2, a3, fun x env' e v H' R' => by
    obtain ⟨c, e1, e2⟩ := a4 x env' e v H' R'
    rw [e1]
    exact e2⟩
theorem de_one {op : BoolOp} (ha : De X pin W a f) : De X pin W (.BoolOp op [a] pos) f := pe_one ha
theorem de_and {rest : List Expr} (ha : De X pin W a f) (hb : De X pin W (.BoolOp .And (b :: rest) pos) g) : De X pin W (.BoolOp .And (a :: b :: rest) pos) (mAndV f g) :=
  (pe_and ha hb).imp fun σ H Q ⟨env, ws, rr, hR, he, hx, k⟩ => by
    refine mBl_seq hR he hx fun c env1 H1 R1 he1 => ?_
    refine ⟨c, rfl, ?_⟩
    cases c with
    | true => exact iteT ⟨env1, ws, rr, R1, he1, hx, k⟩
    | false =>
      cases he1
      exact iteF (k _ _ rfl _ H1 (R1.add fun _ => .bl _))
theorem de_or {rest : List Expr} (ha : De X pin W a f) (hb : De X pin W (.BoolOp .Or (b :: rest) pos) g) : De X pin W (.BoolOp .Or (a :: b :: rest) pos) (mOrV f g) :=
  (pe_or ha hb).imp fun σ H Q ⟨env, ws, rr, hR, he, hx, k⟩ => by
    refine mBl_seq hR he hx fun c env1 H1 R1 he1 => ?_
    refine ⟨c, rfl, ?_⟩
    cases c with
    | false => exact iteF ⟨env1, ws, rr, R1, he1, hx, k⟩
    | true =>
      cases he1
      exact iteT (k _ _ rfl _ H1 (R1.add fun _ => .bl _))
theorem de_not (ha : De X pin W a f) : De X pin W (.UnaryOp .Not a pos) (mNotV f) :=
  (pe_not ha).imp fun σ H Q ⟨env, ws, rr, hR, he, hx, k⟩ => by
    refine mBl_seq hR he hx fun c env1 H1 R1 he1 => ?_
    cases he1
    exact ⟨c, rfl, k _ _ rfl _ H1 (R1.add fun _ => .bl _)⟩
/-- f if c else g -/
theorem de_if (hc : Db X pin W c fa) (ha : De X pin W a f) (hb : De X pin W b g) : De X pin W (.IfExp c a b pos) (mIf fa f g) :=
  (pe_ifExp hc ha hb).imp fun σ H Q ⟨env, ws, rr, hR, he, hx, k⟩ => by
    refine dT_bind hR he hx fun b env1 H1 R1 he1 => ?_
    cases b with
    | true => exact iteT ⟨env1, ws, rr, R1, he1, hx, k⟩
    | false => exact iteF ⟨env1, ws, rr, R1, he1, hx, k⟩
end
end DL

namespace DL
open PySem PySem.Spec L2

/-! ### statements -/
inductive Sr where
  | nx (env : Env)
  | rt (x : OV) (env : Env)
  | bk (env : Env)
  | ct (env : Env)
  | ex (e : Exn) (env : Env)
abbrev MS := Env → Option Sr
def pinOk (pin : Pins) (i : Nat) : Bool := pin.all fun p => p.1 != i
theorem pinOk_not {pin : Pins} {i : Nat} (h : pinOk pin i = true) : i ∉ pin.map (·.1) := fun q => by
  obtain ⟨p, hp, e⟩ := List.mem_map.mp q
  unfold pinOk at h
  have z := List.all_eq_true.mp h p hp
  simp [e] at z
section
variable (K : PySem.W.Frag) (mg : Str → Option Value) (pin : Pins) (W : WX)
structure Ps (ws : Bag) (D : Ends) (r : Sr) : Prop where
  nx : ∀ env', r = .nx env' → ∀ σ' H', Rl K pin σ' env' ws H' → D.nx σ' H'
  rt : ∀ x env', r = .rt x env' → ∀ v σ' H', Rl K pin σ' env' ((v, x) :: ws) H' → D.rt v H'
  bk : ∀ env', r = .bk env' → ∀ σ' H', Rl K pin σ' env' ws H' → D.bk σ' H'
  ct : ∀ env', r = .ct env' → ∀ σ' H', Rl K pin σ' env' ws H' → D.ct σ' H'
  ex : ∀ e env', r = .ex e env' → ∀ cls d σ' H', ExIs K mg e cls d H' → Rl K pin σ' env' ws H' → W cls d σ' H'
def dS (f : MS) : TS := fun D σ H => ∃ env ws r, Rl K pin σ env ws H ∧ f env = some r ∧ Ps K mg pin W ws D r
end
abbrev Ds (X : Cx) (pin : Pins) (W : WX) (st : Stmt) (f : MS) : Prop := PS X st (dS X.K X.mg pin W f)
abbrev Dss (X : Cx) (pin : Pins) (W : WX) (st : List Stmt) (f : MS) : Prop := PSs X st (dS X.K X.mg pin W f)
/-- first an expression, then a statement's end -/
def sB {α : Type} (f : M α) (g : α → MS) : MS := fun env => match f env with
  | some (.ok a env') => g a env'
  | some (.ex e env') => some (.ex e env')
  | none => none
theorem sB_cases {α : Type} {f : M α} {g : α → MS} {env : Env} {r : Sr} (h : sB f g env = some r) :
    (∃ a env1, f env = some (.ok a env1) ∧ g a env1 = some r) ∨ ∃ e env1, f env = some (.ex e env1) ∧ r = .ex e env1 := by
  unfold sB at h
  split at h
  · exact .inl ⟨_, _, by assumption, h⟩
  · cases h
    exact .inr ⟨_, _, by assumption, rfl⟩
  · cases h
section
variable {K : PySem.W.Frag} {mg : Str → Option Value} {pin : Pins} {W : WX} {ws qs : Bag} {σ : St} {H : Hp} {env : Env} {v : V} {x : OV} {D : Ends} {r : Sr}
theorem Ps.xp {α : Type} (h : Ps K mg pin W ws D r) {e : Exn} {env1 : Env} (q : r = .ex e env1) : Xp K mg pin W ws σ (Er.ex (α := α) e env1) := fun e' env' q' => by
  cases q'
  exact fun cls d H' i R => h.ex _ _ q cls d σ H' i R
theorem sB_E {f : M OV} {g : OV → MS} {P : VK} (hR : Rl K pin σ env ws H) (he : sB f g env = some r) (hx : Ps K mg pin W ws D r)
    (k : ∀ x env1 v H1, Rl K pin σ env1 ((v, x) :: ws) H1 → g x env1 = some r → P v H1) : dE K mg pin W f σ H P := by
  rcases sB_cases he with ⟨x, env1, e1, e2⟩ | ⟨e, env1, e1, e2⟩
  · exact ⟨env, ws, _, hR, e1, .ok, fun x' env' q v H1 R1 => by cases q; exact k _ _ v H1 R1 e2⟩
  · exact ⟨env, ws, _, hR, e1, hx.xp e2, fun x' env' q => nomatch q⟩
theorem sB_T {f : M Bool} {g : Bool → MS} {P : Bool → Hp → Prop} (hR : Rl K pin σ env ws H) (he : sB f g env = some r) (hx : Ps K mg pin W ws D r)
    (k : ∀ b env1 H1, Rl K pin σ env1 ws H1 → g b env1 = some r → P b H1) : dT K mg pin W f σ H P := by
  rcases sB_cases he with ⟨x, env1, e1, e2⟩ | ⟨e, env1, e1, e2⟩
  · exact ⟨env, ws, _, hR, e1, .ok, fun x' env' q H1 R1 => by cases q; exact k _ _ H1 R1 e2⟩
  · exact ⟨env, ws, _, hR, e1, hx.xp e2, fun x' env' q => nomatch q⟩
end
def sNext : MS := fun env => some (.nx env)
def sSeq (f g : MS) : MS := fun env => match f env with
  | some (.nx env') => g env'
  | r => r
section
variable {X : Cx} {pin : Pins} {W : WX} {a b c e : Expr} {es : List Expr} {st : Stmt} {sts : List Stmt} {pos : Pos} {f g h : M OV} {fa fb : M Bool} {fs : M (List OV)} {s t u : MS}
theorem dss_nil : Dss X pin W [] sNext := pss_nil.imp fun D σ H ⟨env, ws, r, hR, he, hp⟩ => by
  cases he
  exact hp.nx _ rfl _ _ hR
theorem dss_cons (h1 : Ds X pin W st s) (h2 : Dss X pin W sts t) : Dss X pin W (st :: sts) (sSeq s t) := (pss_cons h1 h2).imp fun D σ H ⟨env, ws, r, hR, he, hp⟩ => by
  unfold sSeq at he
  split at he
  · rename_i env1 e1
    refine ⟨env, ws, _, hR, e1, ⟨fun env' q σ' H' R' => ?_, fun x env' q => (nomatch q), fun env' q => (nomatch q), fun env' q => (nomatch q), fun e env' q => (nomatch q)⟩⟩
    cases q
    exact ⟨env1, ws, r, R', he, hp⟩
  · rename_i nx
    refine ⟨env, ws, r, hR, he, ⟨fun env' q σ' H' R' => ?_, hp.rt, hp.bk, hp.ct, hp.ex⟩⟩
    subst q
    exact absurd he (nx env')
theorem dss_one (h1 : Ds X pin W st s) : Dss X pin W [st] s := pss_one h1
theorem ds_pass : Ds X pin W (.Pass pos) sNext := ps_pass.imp fun D σ H ⟨env, ws, r, hR, he, hp⟩ => by
  cases he
  exact hp.nx _ rfl _ _ hR
def sBrk : MS := fun env => some (.bk env)
def sCt : MS := fun env => some (.ct env)
theorem ds_break : Ds X pin W (.Break pos) sBrk := ps_break.imp fun D σ H ⟨env, ws, r, hR, he, hp⟩ => by
  cases he
  exact hp.bk _ rfl _ _ hR
theorem ds_continue : Ds X pin W (.Continue pos) sCt := ps_continue.imp fun D σ H ⟨env, ws, r, hR, he, hp⟩ => by
  cases he
  exact hp.ct _ rfl _ _ hR
def sExpr (f : M OV) : MS := sB f fun _ => sNext
theorem ds_expr (h : De X pin W e f) (hs : swapsWith e none pos.line X.env = pure false := by rfl) : Ds X pin W (.Expr e pos) (sExpr f) := (ps_expr h hs).imp fun D σ H ⟨env, ws, r, hR, he, hp⟩ => by
  refine sB_E hR he hp fun x env1 v H1 R1 e1 => ?_
  cases e1
  exact hp.nx _ rfl _ _ R1.drop
def sRet (f : M OV) : MS := sB f fun x env => some (.rt x env)
theorem ds_ret (h : De X pin W e f) : Ds X pin W (.Return (some e) pos) (sRet f) := (ps_ret h).imp fun D σ H ⟨env, ws, r, hR, he, hp⟩ => by
  refine sB_E hR he hp fun x env1 v H1 R1 e1 => ?_
  cases e1
  exact hp.rt _ _ rfl _ _ _ R1
def sRetN : MS := fun env => some (.rt (.val .none) env)
theorem ds_retN : Ds X pin W (.Return none pos) sRetN := ps_retN.imp fun D σ H ⟨env, ws, r, hR, he, hp⟩ => by
  cases he
  exact hp.rt _ _ rfl .non _ _ (hR.add fun _ => .non)
def sIf (c : M Bool) (s t : MS) : MS := sB c fun b => if b = true then s else t
theorem ds_if {A B : List Stmt} (hc : Db X pin W c fa) (ha : Dss X pin W A s) (hb : Dss X pin W B t) : Ds X pin W (.If c A B pos) (sIf fa s t) := (ps_if hc ha hb).imp fun D σ H ⟨env, ws, r, hR, he, hp⟩ => by
  refine sB_T hR he hp fun b env1 H1 R1 e1 => ?_
  cases b with
  | true => exact iteT ⟨env1, ws, r, R1, e1, hp⟩
  | false => exact iteF ⟨env1, ws, r, R1, e1, hp⟩
/-- what a target does with an item -/
def putE (env : Env) (i : Nat) (x : OV) : Option Env := if i < env.length then some (env.set i (some x)) else none
theorem putE_some {env env' : Env} {i : Nat} {x : OV} (h : putE env i x = some env') : i < env.length ∧ env' = env.set i (some x) := by
  unfold putE at h
  split at h
  · cases h
    exact ⟨by assumption, rfl⟩
  · cases h
def sSet (i : Nat) (f : M OV) : MS := sB f fun x env => (putE env i x).map .nx
theorem ds_set {i : Nat} {x : Str} {pos' : Pos} (hN : X.N.Nodup) (hi : X.N[i]? = some x) (hx : Loc X.env.scope x) (h : De X pin W e f) (hp : pinOk pin i = true := by rfl)
    (hs : swapsWith e (some (.Name x pos')) pos.line X.env = pure false := by rfl) (hf : X.fn x = true ∨ X.env.scope.names.lookup x = some .local := by first | exact .inl rfl | exact .inr rfl | assumption) :
    Ds X pin W (.Assign [.Name x pos'] e pos) (sSet i f) := (ps_set hN hi hx h hs hf).imp fun D σ H ⟨env, ws, r, hR, he, hp'⟩ => by
  refine sB_E hR he hp' fun y env1 v H1 R1 e1 => ?_
  cases q : putE env1 i y with
  | none => rw [q] at e1; cases e1
  | some env2 =>
    rw [q] at e1
    cases e1
    obtain ⟨l, rfl⟩ := putE_some q
    exact hp'.nx _ rfl _ _ (R1.put (by rw [R1.len]; exact l) (pinOk_not hp))

/-! ### targets -/
def SameSt (is : List Nat) (σ σ' : St) : Prop := σ'.length = σ.length ∧ ∀ j, j ∉ is → σ'[j]? = σ[j]?
def dG (K : PySem.W.Frag) (pin : Pins) (is : List Nat) (g : Dt → Env → Option Env) : TG := fun v σ H Q => ∃ env ws d env', Rl K pin σ env ((v, .val d) :: ws) H ∧ g d env = some env' ∧ ∀ σ' H', SameSt is σ σ' → Rl K pin σ' env' ws H' → Q σ' H'
abbrev Dg (X : Cx) (pin : Pins) (is : List Nat) (tg : Expr) (g : Dt → Env → Option Env) : Prop := PG X tg (dG X.K pin is g)
theorem _root_.L2.PG.imp {tg : Expr} {t t' : TG} (h : PG X tg t) (k : ∀ v σ H Q, t' v σ H Q → t v σ H Q) : PG X tg t' := ⟨fun pins s σ H v u Q I r q => h.run pins s σ H v u Q I r (k _ _ _ _ q)⟩
theorem _root_.L2.PGs.imp {tg : List Expr} {t t' : TGs} (h : PGs X tg t) (k : ∀ v σ H Q, t' v σ H Q → t v σ H Q) : PGs X tg t' := ⟨fun pins s σ H v u Q I r q => h.run pins s σ H v u Q I r (k _ _ _ _ q)⟩
def gN (i : Nat) : Dt → Env → Option Env := fun d env => putE env i (.val d)
theorem dg_name {i : Nat} {x : Str} (hN : X.N.Nodup) (hi : X.N[i]? = some x) (hx : Loc X.env.scope x) (hp : pinOk pin i = true := by rfl) (hf : X.fn x = true ∨ X.env.scope.names.lookup x = some .local := by first | exact .inl rfl | exact .inr rfl | assumption) :
    Dg X pin [i] (.Name x pos) (gN i) := (pg_name hN hi hx hf).imp fun v σ H Q ⟨env, ws, d, env', hR, he, k⟩ => by
  obtain ⟨l, rfl⟩ := putE_some he
  exact k _ _ ⟨by simp, fun j hj => List.getElem?_set_ne (by simpa using Ne.symm (by simpa using hj))⟩ (hR.put (by rw [hR.len]; exact l) (pinOk_not hp))
/-- targets one by one -/
def gAll : List (Dt → Env → Option Env) → List Dt → Env → Option Env
  | [], [], env => some env
  | g :: gs, d :: ds, env => (g d env).bind fun env' => gAll gs ds env'
  | _, _, _ => none
def dGs (K : PySem.W.Frag) (pin : Pins) (is : List Nat) (gs : List (Dt → Env → Option Env)) : TGs := fun vs σ H Q => ∃ env ws ds env', vs.length = ds.length ∧ Rl K pin σ env (vs.zip (ds.map .val) ++ ws) H ∧ gAll gs ds env = some env' ∧ ∀ σ' H', SameSt is σ σ' → Rl K pin σ' env' ws H' → Q σ' H'
theorem SameSt.refl {σ : St} {is : List Nat} : SameSt is σ σ := ⟨rfl, fun _ _ => rfl⟩
theorem SameSt.app {σ σ1 σ2 : St} {is js : List Nat} (a : SameSt is σ σ1) (b : SameSt js σ1 σ2) : SameSt (is ++ js) σ σ2 := ⟨b.1.trans a.1, fun j hj => by
  rw [List.mem_append, not_or] at hj
  exact (b.2 j hj.2).trans (a.2 j hj.1)⟩
theorem dgs_nil : PGs X [] (dGs X.K pin [] []) := pgs_nil.imp fun vs σ H Q ⟨env, ws, ds, env', l, hR, he, k⟩ => by
  cases ds with
  | nil =>
    cases vs with
    | nil =>
      cases he
      exact ⟨rfl, k _ _ .refl hR⟩
    | cons _ _ => simp at l
  | cons _ _ => cases he
theorem dgs_cons {is js : List Nat} {g : Dt → Env → Option Env} {gs : List (Dt → Env → Option Env)} (h1 : Dg X pin is e g) (h2 : PGs X es (dGs X.K pin js gs))
    (hs : (assignEach (e :: es) X.env).map (·.2) = assign e X.env :: (assignEach es X.env).map (·.2) := by rfl) : PGs X (e :: es) (dGs X.K pin (is ++ js) (g :: gs)) := (pgs_cons h1 h2 hs).imp fun vs σ H Q ⟨env, ws, ds, env', l, hR, he, k⟩ => by
  cases ds with
  | nil => cases he
  | cons d ds =>
    cases vs with
    | nil => simp at l
    | cons v vs =>
      unfold gAll at he
      cases q : g d env with
      | none => rw [q] at he; cases he
      | some env1 =>
        rw [q] at he
        refine ⟨v, vs, rfl, env, vs.zip (ds.map .val) ++ ws, d, env1, ?_, q, fun σ1 H1 s1 R1 => ⟨env1, ws, ds, env', by simpa using l, R1, he, fun σ2 H2 s2 R2 => k _ _ (s1.app s2) R2⟩⟩
        exact hR
def gT (gs : List (Dt → Env → Option Env)) : Dt → Env → Option Env := fun d env => match d with
  | .tuple ds => gAll gs ds env
  | _ => none
theorem gAll_len : ∀ {gs : List (Dt → Env → Option Env)} {ds : List Dt} {env env' : Env}, gAll gs ds env = some env' → ds.length = gs.length
  | [], [], _, _, _ => rfl
  | [], _ :: _, _, _, h => by cases h
  | _ :: _, [], _, _, h => by cases h
  | g :: gs, d :: ds, env, env', h => by
    unfold gAll at h
    cases q : g d env with
    | none => rw [q] at h; cases h
    | some env1 =>
      rw [q] at h
      rw [List.length_cons, List.length_cons, gAll_len h]
theorem R.untup {K : PySem.W.Frag} {A : List Addr} {H : Hp} {a : Addr} {ds : List Dt} {ps : Bag} (r : R K A H ((.ref a, .val (.tuple ds)) :: ps)) : ∃ xs, SqT K H a xs ∧ xs.length = ds.length ∧ R K A H (xs.zip (ds.map .val) ++ (.ref a, .val (.tuple ds)) :: ps) := by
  obtain ⟨Z, nd, o⟩ := r
  cases o with
  | cons h t =>
    cases h with
    | val h =>
      cases h with
      | @tup _ xs _ hs ha =>
        have l := ha.length
        refine ⟨xs, SqT.same hid_le hs, l, ⟨_, nd, ?_⟩⟩
        rw [List.map_append, List.map_append, zip_fst (by simpa using l), zip_snd (by simpa using l)]
        exact OwnL.append (OwnL.of_vals ha) (.cons (.val (.tup hs ha)) t)
theorem dg_tup {is : List Nat} {gs : List (Dt → Env → Option Env)} {k : Nat} (hc : X.calm = true) (h : PGs X es (dGs X.K pin is gs)) (hl : (assignEach es X.env).length = gs.length := by rfl) (hst : (assignEach es X.env).findIdx? (·.1) = none := by rfl) :
    Dg X pin is (.Tuple es k pos) (gT gs) := (pg_tup (n := gs.length) hc h hl hst).imp fun v σ H Q ⟨env, ws, d, env', hR, he, kk⟩ => by
  unfold gT at he
  split at he
  · rename_i ds
    have q := hR.dp
    cases q with
    | @tup a xs0 _ hs0 ha0 =>
      obtain ⟨⟨ps, s, r⟩, pn⟩ := hR
      obtain ⟨xs, hs, l, r2⟩ := R.untup (r.perm List.perm_middle)
      refine ⟨a, xs, rfl, hs, by rw [l]; exact gAll_len he, env, ws, ds, env', l, ⟨⟨ps, s, ?_⟩, pn⟩, he, kk⟩
      have r3 : R X.K [] H (xs.zip (ds.map .val) ++ (ps ++ ws)) := R.drop (r2.perm List.perm_middle)
      refine r3.perm ?_
      rw [← List.append_assoc, ← List.append_assoc]
      exact List.Perm.append_right _ List.perm_append_comm
  · cases he
/-- a, b = e -/
def sAsg (f : M OV) (g : Dt → Env → Option Env) : MS := sB f fun x env => match x.frz with
  | some d => (g d env).map .nx
  | none => none
theorem ds_asg {tg : Expr} {is : List Nat} {g : Dt → Env → Option Env} (h : De X pin W e f) (hg : Dg X pin is tg g) (hs : swapsWithSole [tg] e pos.line X.env = pure false := by rfl) (hw : swappedStores [tg] e X.env = pure none := by rfl)
    (h1 : (assignEach [tg] X.env).map (·.2) = [assign tg X.env] := by rfl) : Ds X pin W (.Assign [tg] e pos) (sAsg f g) := (ps_asg h hg hs hw h1).imp fun D σ H ⟨env, ws, r, hR, he, hp⟩ => by
  refine sB_E hR he hp fun y env1 v H1 R1 e1 => ?_
  split at e1
  · rename_i d q
    cases q2 : g d env1 with
    | none => rw [q2] at e1; cases e1
    | some env2 =>
      rw [q2] at e1
      cases e1
      exact ⟨env1, ws, d, env2, Rl.under (q1 := [(v, y)]) (q2 := [(v, .val d)]) (fun _ r => R.frz q r) R1, q2, fun σ' H' _ R' => hp.nx _ rfl _ _ R'⟩
  · cases e1
end

/-! ### what a loop walks -/
structure WalkD (K : PySem.W.Frag) (src : V × OV) (ds : List Dt) (J : It) : Prop where
  go : ∀ i H ps, i < ds.length → R K [] H (src :: ps) → J.go i H
  yld : ∀ i H x H' d, J.yld i H x H' → ds[i]? = some d → ∀ ps, R K [] H (src :: ps) → R K [] H' ((x, .val d) :: src :: ps)
  stop : ∀ i H ps, ds.length ≤ i → R K [] H (src :: ps) → J.stop i H
def dI (K : PySem.W.Frag) (mg : Str → Option Value) (pin : Pins) (W : WX) (f : M (List Dt)) : TI := fun σ H Q => ∃ env ws r, Rl K pin σ env ws H ∧ f env = some r ∧ Xp K mg pin W ws σ r ∧
  ∀ ds env', r = .ok ds env' → ∀ src J H', WalkD K src ds J → Rl K pin σ env' (src :: ws) H' → Q J H'
abbrev Di (X : Cx) (pin : Pins) (W : WX) (tg it : Expr) (f : M (List Dt)) : Prop := PI X tg it (dI X.K X.mg pin W f)
def items? : OV → Option (List Dt) := fun x => match x.frz with
  | some (.list ds) => some ds
  | some (.tuple ds) => some ds
  | _ => none
def mIt (f : M OV) : M (List Dt) := mB f fun x => mO (items? x)
theorem SqL.same {K : PySem.W.Frag} {H H' : Hp} {a : Addr} {xs : List V} (e : Same H H') (h : SqL K H a xs) : SqL K H' a xs := e.seq h
theorem R.unlst {K : PySem.W.Frag} {A : List Addr} {H : Hp} {a : Addr} {ds : List Dt} {ps : Bag} (r : R K A H ((.ref a, .val (.list ds)) :: ps)) : ∃ xs, SqL K H a xs ∧ xs.length = ds.length ∧ R K A H (xs.zip (ds.map .val) ++ (.ref a, .val (.list ds)) :: ps) := by
  obtain ⟨Z, nd, o⟩ := r
  cases o with
  | cons h t =>
    cases h with
    | val h =>
      cases h with
      | @lst _ xs _ hs ha =>
        have l := ha.length
        refine ⟨xs, hid_le.seq hs, l, ⟨_, nd, ?_⟩⟩
        rw [List.map_append, List.map_append, zip_fst (by simpa using l), zip_snd (by simpa using l)]
        exact OwnL.append (OwnL.of_vals ha) (.cons (.val (.lst hs ha)) t)
theorem R.pick {K : PySem.W.Frag} {A : List Addr} {H : Hp} {xs : List V} {ds : List Dt} {ps : Bag} {i : Nat} {d : Dt} (l : xs.length = ds.length) (e : ds[i]? = some d) (r : R K A H (xs.zip (ds.map .val) ++ ps)) : ∃ x, xs[i]? = some x ∧ R K A H ((x, .val d) :: ps) := by
  obtain ⟨Z, nd, o1, o2⟩ := R.dps l r
  obtain ⟨x, e1, e2⟩ := o1.get e
  exact ⟨x, e1, ⟨Z, nd, .cons (fp := []) (.val e2) o2⟩⟩
theorem walk_list {K : PySem.W.Frag} {a : Addr} {ds : List Dt} : WalkD K (.ref a, .val (.list ds)) ds (Itl K a) where
  go := fun i H ps hi r => by
    obtain ⟨xs, hs, l, r2⟩ := R.unlst r
    exact ⟨xs, xs[i]'(by omega), hs, List.getElem?_eq_getElem (by omega)⟩
  yld := fun i H x H' d y e ps r => by
    obtain ⟨xs, hs, l, r2⟩ := R.unlst r
    obtain ⟨rfl, y⟩ := y
    obtain ⟨x', e1, r3⟩ := R.pick l e r2
    rw [y xs hs] at e1
    cases e1
    exact r3
  stop := fun i H ps hi r => by
    obtain ⟨xs, hs, l, r2⟩ := R.unlst r
    exact ⟨xs, hs, by omega⟩
theorem walk_tup {K : PySem.W.Frag} {a : Addr} {ds : List Dt} : WalkD K (.ref a, .val (.tuple ds)) ds (Itt K a) where
  go := fun i H ps hi r => by
    obtain ⟨xs, hs, l, r2⟩ := R.untup r
    exact ⟨xs, xs[i]'(by omega), hs, List.getElem?_eq_getElem (by omega)⟩
  yld := fun i H x H' d y e ps r => by
    obtain ⟨xs, hs, l, r2⟩ := R.untup r
    obtain ⟨rfl, y⟩ := y
    obtain ⟨x', e1, r3⟩ := R.pick l e r2
    rw [y xs hs] at e1
    cases e1
    exact r3
  stop := fun i H ps hi r => by
    obtain ⟨xs, hs, l, r2⟩ := R.untup r
    exact ⟨xs, hs, by omega⟩
def rngD (lo : Int) (n : Nat) : List Dt := (List.range n).map fun (i : Nat) => PyData.int (lo + i)
theorem walk_rng {K : PySem.W.Frag} {lo : Int} {n : Nat} : WalkD K (.non, .val .none) (rngD lo n) (Itr lo n) where
  go := fun i H ps hi r => by
    have h : i < n := by simpa [rngD] using hi
    exact h
  yld := fun i H x H' d y e ps r => by
    obtain ⟨rfl, rfl⟩ := y
    have q : d = .int (lo + i) := by
      unfold rngD at e
      rw [List.getElem?_map] at e
      by_cases h : i < n
      · rw [List.getElem?_range h] at e
        exact (Option.some.inj e).symm
      · rw [List.getElem?_eq_none (by simpa using h)] at e
        cases e
    subst q
    exact R.add (fun _ => .int _) r
  stop := fun i H ps hi r => by
    have h : n ≤ i := by simpa [rngD] using hi
    exact h
theorem _root_.L2.PI.imp {X : Cx} {tg it : Expr} {t t' : TI} (h : PI X tg it t) (k : ∀ σ H R, t' σ H R → t σ H R) : PI X tg it t' := ⟨fun pins s σ H R I q => h.run pins s σ H R I (k _ _ _ q)⟩
section
variable {X : Cx} {pin : Pins} {W : WX} {a b c e tg : Expr} {es : List Expr} {pos p : Pos} {f g : M OV} {fs : M (List OV)}
/-- a list or a tuple, walked -/
theorem di_seq (h : De X pin W e f) : Di X pin W tg e (mIt f) := by
  have hl := pi_list (tg := tg) h
  have ht := pi_tup (tg := tg) h
  refine ⟨fun pins s σ H R I q => ?_⟩
  obtain ⟨env, ws, r, hR, he, hx, k⟩ := q
  rcases mB_cases he with ⟨x, env1, e1, e2⟩ | ⟨ex, env1, e1, e2⟩
  · obtain ⟨ds, e3, rfl⟩ := mO_some e2
    unfold items? at e3
    split at e3
    · rename_i ds' q
      cases e3
      refine hl.run pins s σ H R I ⟨env, ws, _, hR, e1, .ok, fun x' env' z v H' R' => ?_⟩
      cases z
      have R2 := Rl.under (q1 := [(v, x)]) (q2 := [(v, .val (.list ds))]) (fun _ r => DL.R.frz q r) R'
      have dp := R2.dp
      cases dp with
      | @lst a xs _ hs ha => exact ⟨a, rfl, ⟨xs, hs⟩, k _ _ rfl _ _ _ walk_list R2⟩
    · rename_i ds' q
      cases e3
      refine ht.run pins s σ H R I ⟨env, ws, _, hR, e1, .ok, fun x' env' z v H' R' => ?_⟩
      cases z
      have R2 := Rl.under (q1 := [(v, x)]) (q2 := [(v, .val (.tuple ds))]) (fun _ r => DL.R.frz q r) R'
      have dp := R2.dp
      cases dp with
      | @tup a xs _ hs ha => exact ⟨a, rfl, ⟨xs, hs⟩, k _ _ rfl _ _ _ walk_tup R2⟩
    · cases e3
  · exact hl.run pins s σ H R I ⟨env, ws, _, hR, e1, hx.of e2, fun x' env' q => nomatch q⟩
def int1 : List OV → Option Int
  | [.val (.int i)] => some i
  | _ => none
def int2 : List OV → Option (Int × Int)
  | [.val (.int i), .val (.int j)] => some (i, j)
  | _ => none
def mRng1 (f : M OV) : M (List Dt) := mB f fun x => mO (match x with
  | .val (.int j) => if -(2 ^ 62) ≤ j ∧ j < 2 ^ 62 then some (rngD 0 j.toNat) else none
  | _ => none)
theorem one_zip {v : V} {vs : List V} {x : OV} {H : Hp} {K : PySem.W.Frag} : True := trivial
theorem di_range1 (hm : X.mg "range" = none) (h : De X pin W a f) (hg : Gl X "range" := by rfl) (hs : starEach [a] X.env = [(false, eval a X.env)] := by rfl) (hs1 : starEach (a :: []) X.env = (false, eval a X.env) :: starEach [] X.env := by rfl) :
    Di X pin W tg (.Call (.Name "range" p) [a] [] pos) (mRng1 f) := (pi_range1 hg hm (pa_cons h pa_nil hs1) hs).imp fun σ H R ⟨env, ws, r, hR, he, hx, k⟩ => by
  refine dE_bind hR he hx fun x env1 v H1 R1 he1 => ?_
  obtain ⟨ds, e3, rfl⟩ := mO_some he1
  split at e3
  · rename_i j
    split at e3
    · rename_i b
      cases e3
      have dp := R1.dp
      cases dp
      refine ⟨j, rfl, b.1, b.2, k _ _ rfl _ _ _ walk_rng (R1.drop.add fun _ => .non)⟩
    · cases e3
  · cases e3
def mRng2 (f g : M OV) : M (List Dt) := mB f fun x => mB g fun y => mO (match x, y with
  | .val (.int i), .val (.int j) => if -(2 ^ 62) ≤ i ∧ i < 2 ^ 62 ∧ -(2 ^ 62) ≤ j ∧ j < 2 ^ 62 then some (rngD i (j - i).toNat) else none
  | _, _ => none)
theorem di_range2 (hm : X.mg "range" = none) (h : De X pin W a f) (h2 : De X pin W b g) (hg : Gl X "range" := by rfl) (hs : starEach [a, b] X.env = [(false, eval a X.env), (false, eval b X.env)] := by rfl) (hs2 : starEach [b] X.env = [(false, eval b X.env)] := by rfl)
    (hs1 : starEach (a :: [b]) X.env = (false, eval a X.env) :: starEach [b] X.env := by rfl) (hs3 : starEach (b :: []) X.env = (false, eval b X.env) :: starEach [] X.env := by rfl) :
    Di X pin W tg (.Call (.Name "range" p) [a, b] [] pos) (mRng2 f g) := (pi_range2 hg hm (pa_cons h (pa_cons h2 pa_nil hs3) hs1) hs hs2).imp fun σ H R ⟨env, ws, r, hR, he, hx, k⟩ => by
  refine dE_bind hR he hx fun x env1 v H1 R1 he1 => ?_
  refine dE_bind R1 he1 hx.drop fun y env2 w H2 R2 he2 => ?_
  obtain ⟨ds, e3, rfl⟩ := mO_some he2
  split at e3
  · rename_i i j
    split at e3
    · rename_i b
      cases e3
      have dp := R2.dp
      cases dp
      have R3 := R2.drop
      have dp := R3.dp
      cases dp
      exact ⟨i, j, rfl, b, k _ _ rfl _ _ _ walk_rng (R3.drop.add fun _ => .non)⟩
    · cases e3
  · cases e3

/-! ### for -/
def loopS (g : Dt → Env → Option Env) (body : MS) : List Dt → MS
  | [] => sNext
  | d :: ds => fun env => (g d env).bind fun env1 => match body env1 with
    | some (.nx env2) => loopS g body ds env2
    | some (.ct env2) => loopS g body ds env2
    | some (.bk env2) => some (.nx env2)
    | some (.rt x env2) => some (.rt x env2)
    | some (.ex e env2) => some (.ex e env2)
    | none => none
def sFor (its : M (List Dt)) (g : Dt → Env → Option Env) (body : MS) : MS := sB its fun ds => loopS g body ds
theorem ds_for {it : Expr} {body : List Stmt} {is : List Nat} {its : M (List Dt)} {g : Dt → Env → Option Env} {s : MS} (hp : PassesOwn (model X.prog X.w) X.A X.env X.xe) (hc : X.calm = true) (hi : Di X pin W tg it its) (hg : Dg X pin is tg g) (hb : Dss X pin W body s)
    (hs : ∀ x, foldedSetIterable it X.env x = pure x := by intro _; rfl) : Ds X pin W (.For tg it body [] pos) (sFor its g s) := (ps_for hp hc hi hg hb hs).imp fun D σ H ⟨env, ws, r, hR, he, hp⟩ => by
  rcases sB_cases he with ⟨ds, env1, e1, e2⟩ | ⟨ex, env1, e1, e2⟩
  · refine ⟨env, ws, _, hR, e1, .ok, fun ds' env' q src J H1 wk R1 => ?_⟩
    cases q
    refine ⟨fun i m σ' H' => i ≤ ds.length ∧ m = ds.length - i ∧ ∃ env', Rl X.K pin σ' env' (src :: ws) H' ∧ loopS g s (ds.drop i) env' = some r, ⟨ds.length, Nat.zero_le _, rfl, env1, R1, by simpa using e2⟩, ?_⟩
    rintro i m σ2 H2 ⟨hi, rfl, env2, R2, e3⟩
    obtain ⟨ps, rr⟩ := Rl.get (q1 := [src]) R2
    by_cases hlt : i < ds.length
    · refine .inr ⟨wk.go i H2 ps hlt rr, fun σ' H' => ∃ env', Rl X.K pin σ' env' (src :: ws) H' ∧ loopS g s (ds.drop (i + 1)) env' = some r, fun σ' H' h => ⟨ds.length - (i + 1), by omega, hlt, rfl, h⟩, fun x H3 y => ?_⟩
      have ed : ds[i]? = some ds[i] := List.getElem?_eq_getElem hlt
      have R3 := Rl.under (q1 := [src]) (q2 := [(x, .val ds[i]), src]) (fun ps r => wk.yld i H2 x H3 _ y ed ps r) R2
      rw [List.drop_eq_getElem_cons hlt] at e3
      unfold loopS at e3
      cases q1 : g ds[i] env2 with
      | none => rw [q1] at e3; cases e3
      | some env3 =>
        rw [q1] at e3
        refine ⟨env2, src :: ws, ds[i], env3, R3, q1, fun σ4 H4 _ R4 => ?_⟩
        have e4 : (match s env3 with
          | some (.nx env2) => loopS g s (ds.drop (i + 1)) env2
          | some (.ct env2) => loopS g s (ds.drop (i + 1)) env2
          | some (.bk env2) => some (.nx env2)
          | some (.rt x env2) => some (.rt x env2)
          | some (.ex e env2) => some (.ex e env2)
          | none => none) = some r := e3
        cases q2 : s env3 with
        | none => rw [q2] at e4; cases e4
        | some r2 =>
          rw [q2] at e4
          refine ⟨env3, src :: ws, r2, R4, q2, ⟨fun env' z σ' H' R' => ?_, fun x env' z v σ' H' R' => ?_, fun env' z σ' H' R' => ?_, fun env' z σ' H' R' => ?_, fun ex env' z cls d σ' H' ie R' => ?_⟩⟩
          · subst z; exact ⟨env', R', e4⟩
          · subst z; cases e4
            refine hp.rt _ _ rfl v σ' H' ?_
            exact Rl.under (q1 := [(v, x), src]) (q2 := [(v, x)]) (fun _ r => R.drop (r.perm (.swap _ _ _))) R'
          · subst z; cases e4; exact hp.nx _ rfl σ' H' R'.drop
          · subst z; exact ⟨env', R', e4⟩
          · subst z; cases e4; exact hp.ex _ _ rfl cls d σ' H' ie R'.drop
    · have hl : i = ds.length := by omega
      subst hl
      rw [List.drop_length] at e3
      cases e3
      exact .inl ⟨wk.stop _ H2 ps (Nat.le_refl _) rr, hp.nx _ rfl σ2 H2 R2.drop⟩
  · exact ⟨env, ws, _, hR, e1, hp.xp e2, fun x' env' q => nomatch q⟩
end
end DL

namespace DL
open PySem PySem.Spec L2

/-! ### a def -/
inductive Fo where
  | rt (x : OV) (outs : List OV)
  | ex (e : Exn) (outs : List OV)
abbrev Fn := List OV → Option Fo
/-- the arguments that the def changes, by their places -/
def ioV (io : List Nat) (vs : List V) : List V := io.map fun i => vs.getD i .non
def dSp (K : PySem.W.Frag) (mg : Str → Option Value) (io : List Nat) (n : Nat) (F : Fn) : Sp := fun vs H Q E => ∃ (args : List OV) (ws : Bag) (r : Fo), vs.length = n ∧ args.length = n ∧ R K [] H (vs.zip args ++ ws) ∧ F args = some r ∧
  (∀ x outs, r = .rt x outs → ∀ v H', R K [] H' ((v, x) :: ((ioV io vs).zip outs ++ ws)) → Q v H') ∧
  (∀ e outs, r = .ex e outs → ∀ cls d H', ExIs K mg e cls d H' → R K [] H' ((ioV io vs).zip outs ++ ws) → E cls d H')
/-- what stands in these slots -/
def outsE (env : Env) : List Nat → Option (List OV)
  | [] => some []
  | i :: is => match env[i]? with
    | some (some x) => (outsE (env.set i none) is).map (x :: ·)
    | _ => none
def runDef (N np : Nat) (io : List Nat) (b : MS) : Fn := fun args => if args.length = np then match b (args.map some ++ List.replicate (N - np) none) with
  | some (.nx env) => (outsE env io).map (.rt (.val .none))
  | some (.rt x env) => (outsE env io).map (.rt x)
  | some (.ex e env) => (outsE env io).map (.ex e)
  | _ => none else none
def pinsOf (io : List Nat) (vs : List V) : Pins := io.map fun i => (i, vs.getD i .non)
theorem start_rel {K : PySem.W.Frag} {H : Hp} {ws : Bag} : ∀ {vs : List V} {args : List OV} (n : Nat), vs.length = args.length → ∃ ps, Slots (vs.map some ++ List.replicate n none) (args.map some ++ List.replicate n none) ps ∧ ps = vs.zip args
  | [], [], 0, _ => ⟨[], .nil, rfl⟩
  | [], [], n + 1, _ => by
    obtain ⟨ps, h, e⟩ := start_rel (K := K) (H := H) (ws := ws) (vs := []) (args := []) n rfl
    exact ⟨ps, .no h, e⟩
  | [], _ :: _, _, e => by simp at e
  | _ :: _, [], _, e => by simp at e
  | v :: vs, x :: args, n, e => by
    obtain ⟨ps, h, e'⟩ := start_rel (K := K) (H := H) (ws := ws) (vs := vs) (args := args) n (by simpa using e)
    exact ⟨_, .yes h, by rw [e']; rfl⟩
/-- the changed arguments out of their slots -/
theorem outs_rel {K : PySem.W.Frag} {H : Hp} {σ : St} : ∀ {io : List Nat} {env : Env} {ws : Bag} {outs : List OV} {pin : Pins} (vs : List V), (∀ i ∈ io, σ[i]? = some (some (vs.getD i .non))) → Rl K pin σ env ws H → outsE env io = some outs → R K [] H ((ioV io vs).zip outs ++ ws)
  | [], env, ws, outs, pin, vs, hp, hR, e => by
    cases e
    obtain ⟨⟨ps, s, r⟩, pn⟩ := hR
    exact R.dropL r
  | i :: io, env, ws, outs, pin, vs, hp, hR, e => by
    unfold outsE at e
    split at e
    · rename_i x q
      cases q2 : outsE (env.set i none) io with
      | none => rw [q2] at e; cases e
      | some os =>
        rw [q2] at e
        cases e
        obtain ⟨v, e1, R1⟩ := hR.take q
        have ev : v = vs.getD i .non := by
          have := hp i List.mem_cons_self
          rw [e1] at this
          exact Option.some.inj (Option.some.inj this)
        subst ev
        have r := outs_rel (io := io) (ws := (vs.getD i .non, x) :: ws) vs (fun j hj => hp j (List.mem_cons_of_mem _ hj)) R1 q2
        exact r.perm List.perm_middle
    · cases e
theorem ioV_pin {io : List Nat} {vs : List V} {σ : St} (h : ∀ p ∈ pinsOf io vs, σ[p.1]? = some (some p.2)) : ∀ i ∈ io, σ[i]? = some (some (vs.getD i .non)) := fun i hi => h (i, vs.getD i .non) (List.mem_map.mpr ⟨i, hi, rfl⟩)
section
variable {P : Program} {w : World} {K : PySem.W.Frag} {mg : Str → Option Value} {base : Heap}
theorem okD {x qual : Str} {st : Stmt} {f : Addr} {fd : FuncData} {N ps : List Str} {k : Nat} (F : Fun K x qual st f fd) (S : FnScope N ps (defScope st)) (io : List Nat) (b : MS) (hio : (io.all fun i => decide (i < ps.length)) = true)
    (hbody : ∀ (cdv : Value) (A : Around) (outer : List PySem.Env) (s : Shared) (H : Hp) (E : XK) (vs : List V), Room k (A.deeper (PyProof.Rows.envOfC qual (defScope st) s.heap.objs.size f cdv)) →
      PSs (cxOf (L2.CX P w) P w K mg base N qual (defScope st) f cdv A outer s H E) (defBody st) (dS K mg (pinsOf io vs) (fun cls d _ H' => E cls d H') b)) :
    FnOk P w K mg base (L2.CX P w) (k + 1) f fd ps (dSp K mg io ps.length (runDef N.length ps.length io b)) := by
  refine F.okX S (fun vs H Q E h => ?_) (fun cdv A outer s H vs Q E hr h => ⟨_, hbody cdv A outer s H E vs hr, ?_⟩)
  · obtain ⟨_, _, _, l, _⟩ := h
    exact l
  · obtain ⟨args, ws, r, l, la, hR, he, hrt, hex⟩ := h
    unfold runDef at he
    rw [if_pos la] at he
    obtain ⟨bag, sl, rfl⟩ := start_rel (K := K) (H := H) (ws := ws) (vs := vs) (args := args) (N.length - vs.length) (l.trans la.symm)
    have hst : Rl K (pinsOf io vs) (L2.start N vs) (args.map some ++ List.replicate (N.length - vs.length) none) ws H := by
      refine ⟨⟨_, sl, hR⟩, fun p hp => ?_⟩
      obtain ⟨i, hi, rfl⟩ := List.mem_map.mp hp
      have hlt : i < vs.length := by
        rw [l]
        exact of_decide_eq_true (List.all_eq_true.mp hio i hi)
      unfold L2.start
      show (List.map some vs ++ _)[i]? = _
      rw [List.getElem?_append_left (by simpa using hlt), List.getElem?_map, List.getElem?_eq_getElem hlt, List.getD_eq_getElem?_getD, List.getElem?_eq_getElem hlt]
      rfl
    rw [l] at hst
    cases q : b (args.map some ++ List.replicate (N.length - ps.length) none) with
    | none => rw [q] at he; cases he
    | some r2 =>
      rw [q] at he
      refine ⟨_, ws, r2, hst, q, ?_⟩
      have fin : ∀ {env' : Env} {outs : List OV} {σ' : St} {H' : Hp} {v : V} {x : OV}, outsE env' io = some outs → Rl K (pinsOf io vs) σ' env' ((v, x) :: ws) H' → R K [] H' ((v, x) :: ((ioV io vs).zip outs ++ ws)) := fun {env' outs σ' H' v x} e R' =>
        (outs_rel vs (ioV_pin R'.pn) R' e).perm List.perm_middle
      refine ⟨fun env' z σ' H' R' => ?_, fun x env' z v σ' H' R' => ?_, fun env' z σ' H' R' => ?_, fun env' z σ' H' R' => ?_, fun e env' z cls d σ' H' ie R' => ?_⟩
      · subst z
        cases q3 : outsE env' io with
        | none => simp [q3] at he
        | some outs =>
          simp [q3] at he
          exact hrt _ _ he.symm .non H' (fin q3 (R'.add fun _ => .non))
      · subst z
        cases q3 : outsE env' io with
        | none => simp [q3] at he
        | some outs =>
          simp [q3] at he
          exact hrt _ _ he.symm v H' (fin q3 R')
      · subst z
        cases he
      · subst z
        cases he
      · subst z
        cases q3 : outsE env' io with
        | none => simp [q3] at he
        | some outs =>
          simp [q3] at he
          exact hex _ _ he.symm cls d H' ie (outs_rel vs (ioV_pin R'.pn) R' q3)
end

/-! ### a call of a def -/
/-- an argument: by its value, or a slot's thing that the callee changes -/
inductive Ar where
  | ex (f : M OV)
  | io (i : Nat)
inductive Sa where
  | ex (x : OV)
  | io (i : Nat)
def mArs : List Ar → M (List Sa)
  | [] => mR []
  | .ex f :: r => mB f fun x => mB (mArs r) fun xs => mR (.ex x :: xs)
  | .io i :: r => fun env => match env[i]? with
    | some (some _) => mB (mArs r) (fun xs => mR (.io i :: xs)) env
    | _ => none
/-- the values that stand beside the slots -/
def bagSa : List V → List Sa → Bag
  | v :: vs, .ex x :: r => (v, x) :: bagSa vs r
  | _ :: vs, .io _ :: r => bagSa vs r
  | _, _ => []
def ioSa (σ : St) : List V → List Sa → Prop
  | _ :: vs, .ex _ :: r => ioSa σ vs r
  | v :: vs, .io i :: r => σ[i]? = some (some v) ∧ ioSa σ vs r
  | [], [] => True
  | _, _ => False
def dArs (K : PySem.W.Frag) (mg : Str → Option Value) (pin : Pins) (W : WX) (as : List Ar) : TA := fun σ H Q => ∃ env ws r, Rl K pin σ env ws H ∧ mArs as env = some r ∧ Xp K mg pin W ws σ r ∧
  ∀ xs env', r = .ok xs env' → ∀ vs H', vs.length = xs.length → ioSa σ vs xs → Rl K pin σ env' (bagSa vs xs ++ ws) H' → Q vs H'
/-- the callee's arguments -/
def takeSa : List Sa → Env → Option (List OV × Env)
  | [], env => some ([], env)
  | .ex x :: r, env => (takeSa r env).map fun p => (x :: p.1, p.2)
  | .io i :: r, env => match env[i]? with
    | some (some x) => (takeSa r (env.set i none)).map fun p => (x :: p.1, p.2)
    | _ => none
def putSa : List Sa → List OV → Env → Option Env
  | [], [], env => some env
  | .ex _ :: r, outs, env => putSa r outs env
  | .io i :: r, x :: outs, env => putSa r outs (env.set i (some x))
  | _, _, _ => none
def ioPos (n : Nat) : List Ar → List Nat
  | [] => []
  | .ex _ :: r => ioPos (n + 1) r
  | .io _ :: r => n :: ioPos (n + 1) r
def ioPosS (n : Nat) : List Sa → List Nat
  | [] => []
  | .ex _ :: r => ioPosS (n + 1) r
  | .io _ :: r => n :: ioPosS (n + 1) r
def mCall (F : Fn) (as : List Ar) : M OV := mB (mArs as) fun sas env => match takeSa sas env with
  | some (args, env1) => match F args with
    | some (.rt x outs) => (putSa sas outs env1).map (.ok x)
    | some (.ex e outs) => (putSa sas outs env1).map (.ex e)
    | none => none
  | none => none
section
variable {K : PySem.W.Frag} {mg : Str → Option Value} {pin : Pins} {W : WX} {σ : St} {H : Hp} {ws : Bag}
theorem ioSa_len : ∀ {vs : List V} {xs : List Sa}, ioSa σ vs xs → vs.length = xs.length
  | [], [], _ => rfl
  | [], .ex _ :: _, h => h.elim
  | [], .io _ :: _, h => h.elim
  | _ :: _, [], h => h.elim
  | _ :: vs, .ex _ :: r, h => by rw [List.length_cons, List.length_cons, ioSa_len (vs := vs) (xs := r) h]
  | _ :: vs, .io _ :: r, h => by rw [List.length_cons, List.length_cons, ioSa_len (vs := vs) (xs := r) h.2]
theorem take_rel : ∀ {vs : List V} {xs : List Sa} {env env1 : Env} {args : List OV} {ws : Bag}, ioSa σ vs xs → Rl K pin σ env (bagSa vs xs ++ ws) H → takeSa xs env = some (args, env1) → args.length = vs.length ∧ Rl K pin σ env1 (vs.zip args ++ ws) H
  | [], [], env, env1, args, ws, _, hR, e => by
    cases e
    exact ⟨rfl, hR⟩
  | [], .ex _ :: _, _, _, _, _, h, _, _ => h.elim
  | [], .io _ :: _, _, _, _, _, h, _, _ => h.elim
  | _ :: _, [], _, _, _, _, h, _, _ => h.elim
  | v :: vs, .ex x :: r, env, env1, args, ws, h, hR, e => by
    unfold takeSa at e
    cases q : takeSa r env with
    | none => rw [q] at e; cases e
    | some p =>
      rw [q] at e
      cases e
      have hR2 : Rl K pin σ env (bagSa vs r ++ (v, x) :: ws) H := by
        obtain ⟨⟨ps, s, rr⟩, pn⟩ := hR
        exact ⟨⟨ps, s, rr.perm (List.Perm.append_left _ List.perm_middle.symm)⟩, pn⟩
      obtain ⟨l, R1⟩ := take_rel (vs := vs) (xs := r) h hR2 q
      refine ⟨by simp [l], ?_⟩
      obtain ⟨⟨ps, s, rr⟩, pn⟩ := R1
      exact ⟨⟨ps, s, rr.perm (List.Perm.append_left _ List.perm_middle)⟩, pn⟩
  | v :: vs, .io i :: r, env, env1, args, ws, h, hR, e => by
    unfold takeSa at e
    split at e
    · rename_i x q0
      cases q : takeSa r (env.set i none) with
      | none => rw [q] at e; cases e
      | some p =>
        rw [q] at e
        cases e
        obtain ⟨v', e1, R1⟩ := hR.take q0
        have ev : v' = v := Option.some.inj (Option.some.inj (e1.symm.trans h.1))
        subst ev
        have hR2 : Rl K pin σ (env.set i none) (bagSa vs r ++ (v', x) :: ws) H := by
          obtain ⟨⟨ps, s, rr⟩, pn⟩ := R1
          exact ⟨⟨ps, s, rr.perm (List.Perm.append_left _ List.perm_middle.symm)⟩, pn⟩
        obtain ⟨l, R2⟩ := take_rel (vs := vs) (xs := r) h.2 hR2 q
        refine ⟨by simp [l], ?_⟩
        obtain ⟨⟨ps, s, rr⟩, pn⟩ := R2
        exact ⟨⟨ps, s, rr.perm (List.Perm.append_left _ List.perm_middle)⟩, pn⟩
    · cases e
/-- the values of the changed arguments -/
def ioVs : List V → List Sa → List V
  | _ :: vs, .ex _ :: r => ioVs vs r
  | v :: vs, .io _ :: r => v :: ioVs vs r
  | _, _ => []
theorem ioV_Sa : ∀ (pre vs : List V) (xs : List Sa), vs.length = xs.length → ioV (ioPosS pre.length xs) (pre ++ vs) = ioVs vs xs
  | pre, [], [], _ => rfl
  | pre, [], _ :: _, h => by simp at h
  | pre, _ :: _, [], h => by simp at h
  | pre, v :: vs, .ex _ :: r, h => by
    have ih := ioV_Sa (pre ++ [v]) vs r (by simpa using h)
    rw [List.length_append, List.append_assoc] at ih
    exact ih
  | pre, v :: vs, .io _ :: r, h => by
    have ih := ioV_Sa (pre ++ [v]) vs r (by simpa using h)
    rw [List.length_append, List.append_assoc] at ih
    unfold ioPosS ioVs ioV
    rw [List.map_cons]
    congr 1
    simp
theorem put_rel : ∀ {vs : List V} {xs : List Sa} {outs : List OV} {env env1 : Env} {ws : Bag}, ioSa σ vs xs → Rl K pin σ env ((ioVs vs xs).zip outs ++ ws) H → putSa xs outs env = some env1 → Rl K pin σ env1 ws H
  | [], [], outs, env, env1, ws, _, hR, e => by
    cases outs with
    | nil =>
      cases e
      exact hR
    | cons _ _ => cases e
  | [], .ex _ :: _, _, _, _, _, h, _, _ => h.elim
  | [], .io _ :: _, _, _, _, _, h, _, _ => h.elim
  | _ :: _, [], _, _, _, _, h, _, _ => h.elim
  | v :: vs, .ex x :: r, outs, env, env1, ws, h, hR, e => put_rel (vs := vs) (xs := r) h hR (by cases outs <;> exact e)
  | v :: vs, .io i :: r, outs, env, env1, ws, h, hR, e => by
    cases outs with
    | nil => cases e
    | cons x outs =>
      have R1 : Rl K pin σ (env.set i (some x)) ((ioVs vs r).zip outs ++ ws) H := Rl.back h.1 hR
      exact put_rel (vs := vs) (xs := r) h.2 R1 e
end
section
variable {X : Cx} {pin : Pins} {W : WX} {a b c e tg : Expr} {es : List Expr} {pos p : Pos} {f g : M OV} {fs : M (List OV)} {as : List Ar}
abbrev Dar (X : Cx) (pin : Pins) (W : WX) (es : List Expr) (as : List Ar) : Prop := PA X es (dArs X.K X.mg pin W as)
theorem dar_nil : Dar X pin W [] [] := pa_nil.imp fun σ H Q ⟨env, ws, r, hR, he, hx, k⟩ => by
  cases he
  exact k _ _ rfl [] H rfl trivial hR
theorem dar_ex (h : De X pin W e f) (hr : Dar X pin W es as) (hs : starEach (e :: es) X.env = (false, eval e X.env) :: starEach es X.env := by rfl) : Dar X pin W (e :: es) (.ex f :: as) := (pa_cons h hr hs).imp fun σ H Q ⟨env, ws, r, hR, he, hx, k⟩ => by
  unfold mArs at he
  refine dE_bind hR he hx fun x env1 v H1 R1 he1 => ?_
  rcases mB_cases he1 with ⟨xs, env2, e1, e2⟩ | ⟨ex, env2, e1, e2⟩
  · refine ⟨env1, _, _, R1, e1, .ok, fun xs' env' z vs H' l io R' => ?_⟩
    cases z
    cases e2
    refine k _ _ rfl (v :: vs) H' (by simp [l]) io ?_
    obtain ⟨⟨ps, s, rr⟩, pn⟩ := R'
    exact ⟨⟨ps, s, rr.perm (List.Perm.append_left _ List.perm_middle)⟩, pn⟩
  · exact ⟨env1, _, _, R1, e1, (hx.drop).of e2, fun x' env' q => nomatch q⟩
theorem dar_io {i : Nat} (h : PE X e (tVar i)) (hr : Dar X pin W es as) (hs : starEach (e :: es) X.env = (false, eval e X.env) :: starEach es X.env := by rfl) : Dar X pin W (e :: es) (.io i :: as) := (pa_cons h hr hs).imp fun σ H Q ⟨env, ws, r, hR, he, hx, k⟩ => by
  unfold mArs at he
  split at he
  · rename_i x0 q0
    obtain ⟨v, e0, _⟩ := hR.take q0
    refine ⟨v, e0, ?_⟩
    rcases mB_cases he with ⟨xs, env2, e1, e2⟩ | ⟨ex, env2, e1, e2⟩
    · refine ⟨env, _, _, hR, e1, .ok, fun xs' env' z vs H' l io R' => ?_⟩
      cases z
      cases e2
      exact k _ _ rfl (v :: vs) H' (by simp [l]) ⟨e0, io⟩ R'
    · exact ⟨env, _, _, hR, e1, hx.of e2, fun x' env' q => nomatch q⟩
  · cases he
theorem mArs_pos : ∀ {as : List Ar} {env env' : Env} {xs : List Sa} (n : Nat), mArs as env = some (.ok xs env') → ioPosS n xs = ioPos n as
  | [], env, env', xs, n, h => by
    cases h
    rfl
  | .ex f :: as, env, env', xs, n, h => by
    unfold mArs at h
    rcases mB_cases h with ⟨x, env1, e1, e2⟩ | ⟨ex, env1, e1, e2⟩
    · rcases mB_cases e2 with ⟨ys, env2, e3, e4⟩ | ⟨ex, env2, e3, e4⟩
      · cases e4
        exact mArs_pos (as := as) (n + 1) e3
      · cases e4
    · cases e2
  | .io i :: as, env, env', xs, n, h => by
    unfold mArs at h
    split at h
    · rcases mB_cases h with ⟨ys, env2, e3, e4⟩ | ⟨ex, env2, e3, e4⟩
      · cases e4
        have ih := mArs_pos (as := as) (n + 1) e3
        show n :: ioPosS (n + 1) ys = n :: ioPos (n + 1) as
        rw [ih]
      · cases e4
    · cases h
theorem mArs_len : ∀ {as : List Ar} {env env' : Env} {xs : List Sa}, mArs as env = some (.ok xs env') → xs.length = as.length
  | [], env, env', xs, h => by
    cases h
    rfl
  | .ex f :: as, env, env', xs, h => by
    unfold mArs at h
    rcases mB_cases h with ⟨x, env1, e1, e2⟩ | ⟨ex, env1, e1, e2⟩
    · rcases mB_cases e2 with ⟨ys, env2, e3, e4⟩ | ⟨ex, env2, e3, e4⟩
      · cases e4
        have ih := mArs_len (as := as) e3
        simp [ih]
      · cases e4
    · cases e2
  | .io i :: as, env, env', xs, h => by
    unfold mArs at h
    split at h
    · rcases mB_cases h with ⟨ys, env2, e3, e4⟩ | ⟨ex, env2, e3, e4⟩
      · cases e4
        have ih := mArs_len (as := as) e3
        simp [ih]
      · cases e4
    · cases h
/-- what a call's reading wants -/
theorem call_use {io : List Nat} {F : Fn} {σ : St} {H : Hp} {Q : VK} (hio : ioPos 0 as = io) (q : dE X.K X.mg pin W (mCall F as) σ H Q) : dArs X.K X.mg pin W as σ H fun vs H1 => dSp X.K X.mg io as.length F vs H1 Q (WE W σ) := by
  obtain ⟨env, ws, r, hR, he, hx, k⟩ := q
  rcases mB_cases he with ⟨sas, env1, e1, e2⟩ | ⟨ex, env1, e1, e2⟩
  · refine ⟨env, ws, _, hR, e1, .ok, fun xs env' z vs H1 l hio2 R1 => ?_⟩
    cases z
    split at e2
    · rename_i args env2 q1
      obtain ⟨la, R2⟩ := take_rel hio2 R1 q1
      obtain ⟨⟨bag, sl, rr⟩, pn⟩ := R2
      have rr2 : R X.K [] H1 (vs.zip args ++ (bag ++ ws)) := rr.perm (by
        rw [← List.append_assoc, ← List.append_assoc]
        exact List.Perm.append_right _ List.perm_append_comm)
      have ev : ioV io vs = ioVs vs sas := by
        rw [← hio, ← mArs_pos 0 e1]
        exact ioV_Sa [] vs sas l
      have len := mArs_len e1
      cases q2 : F args with
      | none => rw [q2] at e2; cases e2
      | some fo =>
        rw [q2] at e2
        refine ⟨args, bag ++ ws, fo, by omega, by omega, rr2, q2, fun x outs z v H2 r3 => ?_, fun e outs z cls d H2 ie r3 => ?_⟩
        · subst z
          cases q3 : putSa sas outs env2 with
          | none => simp [q3] at e2
          | some env3 =>
            simp [q3] at e2
            refine k _ _ e2.symm v H2 (put_rel hio2 (outs := outs) (env := env2) ⟨⟨bag, sl, ?_⟩, pn⟩ q3)
            rw [ev] at r3
            refine r3.perm ?_
            have p1 : ((ioVs vs sas).zip outs ++ (bag ++ ws)).Perm (bag ++ ((ioVs vs sas).zip outs ++ ws)) := by
              rw [← List.append_assoc, ← List.append_assoc]
              exact List.Perm.append_right _ List.perm_append_comm
            refine (p1.cons _).trans ?_
            refine List.perm_middle.symm.trans (List.Perm.append_left _ ?_)
            exact List.perm_middle.symm
        · subst z
          cases q3 : putSa sas outs env2 with
          | none => simp [q3] at e2
          | some env3 =>
            simp [q3] at e2
            refine hx _ _ e2.symm cls d H2 ie (put_rel hio2 (outs := outs) (env := env2) ⟨⟨bag, sl, ?_⟩, pn⟩ q3)
            rw [ev] at r3
            refine r3.perm ?_
            rw [← List.append_assoc, ← List.append_assoc]
            exact List.Perm.append_right _ List.perm_append_comm
    · cases e2
  · exact ⟨env, ws, _, hR, e1, hx.of e2, fun x' env' q => nomatch q⟩
theorem de_call {io : List Nat} {F : Fn} {k n : Nat} {fa : Addr} {fd : FuncData} {ps : List Str} {x : Str} (tk : Takes X W) (G : FnOk X.prog X.w X.K X.mg X.base (L2.CX X.prog X.w) k fa fd ps (dSp X.K X.mg io n F)) (hr : Room k X.A) (hm : X.mg x = some (.ref fa)) (hk : PySem.W.keepIn X.K (.ref fa) = true) (hb : Binds X.K fd ps [])
    (ha : Dar X pin W (e :: es) as) (hn : as.length = n := by rfl) (hio : ioPos 0 as = io := by rfl) (hg : Gl X x := by rfl) (hdb : (x == ("__debug__" : Str)) = false := by decide) (he : starEach (e :: es) X.env = (false, eval e X.env) :: starEach es X.env := by rfl) (hpl : (backTo pos (starEach es X.env)).any (·.1) = false := by rfl) :
    De X pin W (.Call (.Name x p) (e :: es) [] pos) (mCall F as) := by
  subst hn
  exact (pe_callS G hr hg hm hk hb (fun σ => passAt tk σ) ha hdb he hpl).imp fun σ H Q q => call_use hio q
theorem de_call0 {F : Fn} {k n : Nat} {fa : Addr} {fd : FuncData} {ps : List Str} {x : Str} (tk : Takes X W) : True := trivial
end
end DL

namespace DL
open PySem PySem.Spec L2

def sz (n : Nat) : Bool := decide (n ≤ 16777216)
theorem sz_le {n : Nat} (h : sz n = true) : n ≤ sizeLine := by
  rw [sizeLine_eq]
  exact of_decide_eq_true h

/-! ### built-in functions -/
def SoundC (K : PySem.W.Frag) (r : List V → Hp → VK → Prop) (g : List Dt → Option OV) : Prop := ∀ (H : Hp) (vs : List V) (ds : List Dt) (z : OV) (Q : VK) (ps : Bag), g ds = some z → vs.length = ds.length → R K [] H (vs.zip (ds.map .val) ++ ps) →
  (∀ v' H', R K [] H' ((v', z) :: ps) → Q v' H') → r vs H Q
def mCB (g : List Dt → Option OV) (fs : M (List OV)) : M OV := mB fs fun xs => mO ((OV.frzL xs).bind g)
section
variable {K : PySem.W.Frag} {A : List Addr} {H H' : Hp} {ps : Bag}
theorem R.dpAll {ws : List V} {ds : List Dt} (le : ws.length = ds.length) (r : R K A H (ws.zip (ds.map .val) ++ ps)) : DpAll K H ws ds := by
  obtain ⟨Z, nd, a, b⟩ := R.dps le r
  exact DpAll.same hid_le a
theorem soundC_use {mg : Str → Option Value} {pin : Pins} {W : WX} {r : List V → Hp → VK → Prop} {g : List Dt → Option OV} {fs : M (List OV)} (hs : SoundC K r g) {σ : St} {Q : VK} (q : dE K mg pin W (mCB g fs) σ H Q) : dA K mg pin W fs σ H fun vs H1 => r vs H1 Q := by
  obtain ⟨env, ws, rr, hR, he, hx, k⟩ := q
  refine dA_bind hR he hx fun xs env1 vs H1 l R1 he1 => ?_
  obtain ⟨z, e3, rfl⟩ := mO_some he1
  cases q1 : OV.frzL xs with
  | none => rw [q1] at e3; cases e3
  | some ds =>
    rw [q1] at e3
    have R2 := Rl.under (q1 := vs.zip xs) (q2 := vs.zip (ds.map .val)) (fun ps r => R.frzL l q1 r) R1
    have ld : vs.length = ds.length := l.trans (frzL_len q1)
    obtain ⟨bag, rr, back⟩ := Rl.fix (q1 := vs.zip (ds.map .val)) R2
    exact hs H1 vs ds z Q bag e3 ld rr fun v' H' r1 => k _ _ rfl v' H' (back H' [(v', z)] r1)
end
section
variable {X : Cx} {pin : Pins} {W : WX} {a b c e : Expr} {es : List Expr} {pos p : Pos} {f g h : M OV} {fs : M (List OV)} {x : Str} {id T : String}
theorem de_callB {r : List V → Hp → VK → Prop} {gg : List Dt → Option OV} (hc : CallR X (.builtin id) r) (hs : SoundC X.K r gg) (hm : X.mg x = none) (hv : bootBuiltins x = some (.builtin id)) (ha : Da X pin W (e :: es) fs) (hg : Gl X x := by rfl) (hn : x ≠ "__name__" := by decide) (hdb : (x == ("__debug__" : Str)) = false := by decide)
    (he : starEach (e :: es) X.env = (false, eval e X.env) :: starEach es X.env := by rfl) (hpl : (backTo pos (starEach es X.env)).any (·.1) = false := by rfl) : De X pin W (.Call (.Name x p) (e :: es) [] pos) (mCB gg fs) :=
  (pe_callB hc hg hm hv ha hn hdb he hpl).imp fun σ H Q q => soundC_use hs q
theorem de_callTy {r : List V → Hp → VK → Prop} {gg : List Dt → Option OV} (hc : CallR X (.type T) r) (hs : SoundC X.K r gg) (hm : X.mg x = none) (hv : bootBuiltins x = some (.type T)) (ha : Da X pin W (e :: es) fs) (hg : Gl X x := by rfl) (hn : x ≠ "__name__" := by decide) (hdb : (x == ("__debug__" : Str)) = false := by decide)
    (he : starEach (e :: es) X.env = (false, eval e X.env) :: starEach es X.env := by rfl) (hpl : (backTo pos (starEach es X.env)).any (·.1) = false := by rfl) : De X pin W (.Call (.Name x p) (e :: es) [] pos) (mCB gg fs) :=
  (pe_callTy hc hg hm hv ha hn hdb he hpl).imp fun σ H Q q => soundC_use hs q
end
section
variable {K : PySem.W.Frag} {H H' : Hp}
/-- what is handed back is data in any heap -/
theorem SoundC.pure {r : List V → Hp → VK → Prop} {g : List Dt → Option OV} (h : ∀ (H : Hp) (vs : List V) (ds : List Dt) (z : OV) (Q : VK), g ds = some z → DpAll K H vs ds → ∀ k : (∀ v' d, z = .val d → (∀ F, Dp K F v' d) → Q v' H), r vs H Q) : SoundC K r g := fun H vs ds z Q ps e l rr k =>
  h H vs ds z Q e (R.dpAll l rr) fun v' d ez hd => k v' H (by
    subst ez
    exact R.add hd (R.dropL rr))
def oI (i : Int) : OV := .val (.int i)
def oB (b : Bool) : OV := .val (.bool b)
def lenD : List Dt → Option OV
  | [.list ds] => some (oI ds.length)
  | [.tuple ds] => some (oI ds.length)
  | [.str x] => if sz x.length then some (oI x.length) else none
  | _ => none
theorem sc_len : SoundC K (fun xs H Q => ∃ x n, xs = [x] ∧ LenV K x H n ∧ Q (.int n) H) lenD := SoundC.pure fun H vs ds z Q e dp k => by
  unfold lenD at e
  split at e
  · cases e
    cases dp with
    | cons h t =>
      cases t
      cases h with
      | lst hs ha => exact ⟨_, _, rfl, .inl ⟨_, hs, rfl⟩, by rw [ha.length]; exact k _ _ rfl fun _ => .int _⟩
  · cases e
    cases dp with
    | cons h t =>
      cases t
      cases h with
      | tup hs ha => exact ⟨_, _, rfl, .inr ⟨_, hs, rfl⟩, by rw [ha.length]; exact k _ _ rfl fun _ => .int _⟩
  · split at e
    · rename_i q
      cases e
      cases dp with
      | cons h t =>
        cases t
        cases h
        exact ⟨_, _, rfl, ⟨sz_le q, rfl⟩, k _ _ rfl fun _ => .int _⟩
    · cases e
  · cases e
def intsD : List Dt → Option (List Int)
  | [] => some []
  | .int i :: ds => (intsD ds).map (i :: ·)
  | _ => none
def blsD : List Dt → Option (List Bool)
  | [] => some []
  | .bool b :: ds => (blsD ds).map (b :: ·)
  | _ => none
theorem intsD_vs : ∀ {ds : List Dt} {vs : List V} {ns : List Int}, intsD ds = some ns → DpAll K H vs ds → vs = ns.map V.int
  | [], _, ns, e, dp => by
    cases e
    cases dp
    rfl
  | d :: ds, _, ns, e, dp => by
    cases d with
    | int i =>
      cases q : intsD ds with
      | none => simp [intsD, q] at e
      | some ms =>
        simp [intsD, q] at e
        cases dp with
        | cons h t =>
          cases h
          rw [intsD_vs q t, ← e]
          rfl
    | _ => simp [intsD] at e
theorem blsD_vs : ∀ {ds : List Dt} {vs : List V} {ns : List Bool}, blsD ds = some ns → DpAll K H vs ds → vs = ns.map V.bl
  | [], _, ns, e, dp => by
    cases e
    cases dp
    rfl
  | d :: ds, _, ns, e, dp => by
    cases d with
    | bool i =>
      cases q : blsD ds with
      | none => simp [blsD, q] at e
      | some ms =>
        simp [blsD, q] at e
        cases dp with
        | cons h t =>
          cases h
          rw [blsD_vs q t, ← e]
          rfl
    | _ => simp [blsD] at e
def listArg : List Dt → Option (List Dt)
  | [.list ds] => some ds
  | _ => none
theorem listArg_some {ds es : List Dt} (h : listArg ds = some es) : ds = [.list es] := by
  unfold listArg at h
  split at h
  · cases h
    rfl
  · cases h
theorem listArg_dp {vs : List V} {ds es : List Dt} (h : listArg ds = some es) (dp : DpAll K H vs ds) : ∃ a xs, vs = [.ref a] ∧ SqL K H a xs ∧ DpAll K H xs es := by
  cases listArg_some h
  cases dp with
  | cons h t =>
    cases t
    cases h with
    | lst hs ha => exact ⟨_, _, rfl, hs, ha⟩
def sumD (ds : List Dt) : Option OV := (listArg ds).bind fun es => (intsD es).map fun ns => oI ns.sum
theorem sc_sum : SoundC K (rSum K) sumD := SoundC.pure fun H vs ds z Q e dp k => by
  unfold sumD at e
  cases q : listArg ds with
  | none => simp [q] at e
  | some es =>
    cases q2 : intsD es with
    | none => simp [q, q2] at e
    | some ns =>
      simp [q, q2] at e
      obtain ⟨a, xs, rfl, hs, ha⟩ := listArg_dp q dp
      rw [intsD_vs q2 ha] at hs
      subst e
      exact ⟨a, ns, rfl, hs, k _ _ rfl fun _ => .int _⟩
def allD (ds : List Dt) : Option OV := (listArg ds).bind fun es => (blsD es).map fun ns => oB (ns.all id)
def anyD (ds : List Dt) : Option OV := (listArg ds).bind fun es => (blsD es).map fun ns => oB (ns.any id)
theorem sc_all : SoundC K (fun vs H Q => ∃ (a : Addr) (bs : List Bool), vs = [V.ref a] ∧ SqL K H a (bs.map V.bl) ∧ Q (.bl (bs.all id)) H) allD := SoundC.pure fun H vs ds z Q e dp k => by
  unfold allD at e
  cases q : listArg ds with
  | none => simp [q] at e
  | some es =>
    cases q2 : blsD es with
    | none => simp [q, q2] at e
    | some ns =>
      simp [q, q2] at e
      obtain ⟨a, xs, rfl, hs, ha⟩ := listArg_dp q dp
      rw [blsD_vs q2 ha] at hs
      subst e
      exact ⟨a, ns, rfl, hs, k _ _ rfl fun _ => .bl _⟩
theorem sc_any : SoundC K (fun vs H Q => ∃ (a : Addr) (bs : List Bool), vs = [V.ref a] ∧ SqL K H a (bs.map V.bl) ∧ Q (.bl (bs.any id)) H) anyD := SoundC.pure fun H vs ds z Q e dp k => by
  unfold anyD at e
  cases q : listArg ds with
  | none => simp [q] at e
  | some es =>
    cases q2 : blsD es with
    | none => simp [q, q2] at e
    | some ns =>
      simp [q, q2] at e
      obtain ⟨a, xs, rfl, hs, ha⟩ := listArg_dp q dp
      rw [blsD_vs q2 ha] at hs
      subst e
      exact ⟨a, ns, rfl, hs, k _ _ rfl fun _ => .bl _⟩
/-- tuple(xs) -/
def tupleD : List Dt → Option OV
  | [.list ds] => some (.val (.tuple ds))
  | [.tuple ds] => some (.val (.tuple ds))
  | _ => none
theorem soundC_list1 {r : List V → Hp → VK → Prop} {g : List Dt → Option OV} (h : ∀ (H : Hp) (v : V) (d : Dt) (z : OV) (Q : VK) (ps : Bag), g [d] = some z → R K [] H ((v, .val d) :: ps) → (∀ v' H', R K [] H' ((v', z) :: ps) → Q v' H') → r [v] H Q) (one : ∀ ds, (g ds).isSome = true → ds.length = 1) : SoundC K r g := fun H vs ds z Q ps e l rr k => by
  have l1 := one ds (by rw [e]; rfl)
  match ds, vs, l, l1 with
  | [d], [v], _, _ => exact h H v d z Q ps e rr k
theorem sc_tuple : SoundC K (fun xs H Q => ∃ p ys, xs = [.ref p] ∧ ((SqL K H p ys ∧ ∀ l, H l = none → Q (.ref l) (upd H l (.tup ys))) ∨ (SqT K H p ys ∧ Q (.ref p) H))) tupleD := soundC_list1 (fun H v d z Q ps e rr k => by
  unfold tupleD at e
  split at e
  · rename_i ds q
    cases q
    cases e
    have dp := R.dp rr
    cases dp with
    | @lst a _ _ _ _ =>
      obtain ⟨xs, hs, l, r2⟩ := R.unlst rr
      refine ⟨a, xs, rfl, .inl ⟨hs, fun p hp => k _ _ (R.newT ?_ l hp)⟩⟩
      exact R.drop (r2.perm List.perm_middle)
  · rename_i ds q
    cases q
    cases e
    have dp := R.dp rr
    cases dp with
    | @tup a _ _ _ _ =>
      obtain ⟨xs, hs, l, r2⟩ := R.untup rr
      exact ⟨a, xs, rfl, .inr ⟨hs, k _ _ rr⟩⟩
  · cases e) fun ds h => by
    unfold tupleD at h
    split at h
    · rfl
    · rfl
    · cases h
/-- list(xs) -/
def listD : List Dt → Option OV
  | [.list ds] => some (.lst (ds.map .val))
  | [.tuple ds] => some (.lst (ds.map .val))
  | _ => none
theorem sc_list : SoundC K (fun xs H Q => ∃ p ys, xs = [.ref p] ∧ (SqL K H p ys ∨ SqT K H p ys) ∧ ∀ l, H l = none → Q (.ref l) (upd H l (.lst ys))) listD := soundC_list1 (fun H v d z Q ps e rr k => by
  unfold listD at e
  split at e
  · rename_i ds q
    cases q
    cases e
    have dp := R.dp rr
    cases dp with
    | @lst a _ _ _ _ =>
      obtain ⟨xs, hs, l, r2⟩ := R.unlst rr
      refine ⟨a, xs, rfl, .inl hs, fun p hp => k _ _ (R.newL ?_ (by simpa using l) hp)⟩
      exact R.drop (r2.perm List.perm_middle)
  · rename_i ds q
    cases q
    cases e
    have dp := R.dp rr
    cases dp with
    | @tup a _ _ _ _ =>
      obtain ⟨xs, hs, l, r2⟩ := R.untup rr
      refine ⟨a, xs, rfl, .inr hs, fun p hp => k _ _ (R.newL ?_ (by simpa using l) hp)⟩
      exact R.drop (r2.perm List.perm_middle)
  · cases e) fun ds h => by
    unfold listD at h
    split at h
    · rfl
    · rfl
    · cases h
/-- int(x) -/
def intD : List Dt → Option OV
  | [.int i] => some (oI i)
  | [.bool b] => some (oI (if b then 1 else 0))
  | _ => none
theorem sc_int : SoundC K (fun xs H Q => (∃ i, xs = [.int i] ∧ Q (.int i) H) ∨ ∃ k, xs = [.bl k] ∧ Q (.int (if k then 1 else 0)) H) intD := SoundC.pure fun H vs ds z Q e dp k => by
  unfold intD at e
  split at e
  · cases e
    cases dp with
    | cons h t => cases t; cases h; exact .inl ⟨_, rfl, k _ _ rfl fun _ => .int _⟩
  · cases e
    cases dp with
    | cons h t => cases t; cases h; exact .inr ⟨_, rfl, k _ _ rfl fun _ => .int _⟩
  · cases e
def absD : List Dt → Option OV
  | [.int i] => some (oI (if i < 0 then -i else i))
  | _ => none
theorem sc_abs : SoundC K (fun xs H Q => ∃ i, xs = [.int i] ∧ Q (.int (if i < 0 then -i else i)) H) absD := SoundC.pure fun H vs ds z Q e dp k => by
  unfold absD at e
  split at e
  · cases e
    cases dp with
    | cons h t => cases t; cases h; exact ⟨_, rfl, k _ _ rfl fun _ => .int _⟩
  · cases e
def min2D : List Dt → Option OV
  | [.int i, .int j] => some (oI (if j < i then j else i))
  | _ => none
def max2D : List Dt → Option OV
  | [.int i, .int j] => some (oI (if j > i then j else i))
  | _ => none
theorem sc_min2 : SoundC K (fun xs H Q => ∃ i j, xs = [.int i, .int j] ∧ Q (.int (if j < i then j else i)) H) min2D := SoundC.pure fun H vs ds z Q e dp k => by
  unfold min2D at e
  split at e
  · cases e
    cases dp with
    | cons h t => cases h; cases t with | cons h t => cases t; cases h; exact ⟨_, _, rfl, k _ _ rfl fun _ => .int _⟩
  · cases e
theorem sc_max2 : SoundC K (fun xs H Q => ∃ i j, xs = [.int i, .int j] ∧ Q (.int (if j > i then j else i)) H) max2D := SoundC.pure fun H vs ds z Q e dp k => by
  unfold max2D at e
  split at e
  · cases e
    cases dp with
    | cons h t => cases h; cases t with | cons h t => cases t; cases h; exact ⟨_, _, rfl, k _ _ rfl fun _ => .int _⟩
  · cases e
end

/-! ### isinstance with a built-in class -/
def isiD (T : String) : Dt → Option Bool
  | .none => some ("NoneType" == T)
  | .bool _ => some ("bool" == T || T == "int")
  | .int _ => some ("int" == T)
  | .str _ => some ("str" == T)
  | .list _ => some ("list" == T)
  | .tuple _ => some ("tuple" == T)
  | .dict _ => none
def tyD : Dt → String
  | .none => "NoneType"
  | .bool _ => "bool"
  | .int _ => "int"
  | .str _ => "str"
  | .list _ => "list"
  | .tuple _ => "tuple"
  | .dict _ => "dict"
section
variable {K : PySem.W.Frag} {H H' : Hp}
theorem tyX_of {v : V} {d : Dt} (h : Dp K H v d) : TyX K H v (.type (tyD d)) := by
  cases h with
  | non => exact .base .non
  | bl b => exact .base (.bl b)
  | int i => exact .base (.int i)
  | str x => exact .base (.str x)
  | lst hs ha =>
    rcases hs with (hs | ⟨o, hs⟩) | ⟨o, its, n, hk, hc, _⟩
    · exact .base (.lst hs)
    · exact .base (.frz hs)
    · exact .kList hk hc
  | tup hs ha =>
    rcases hs with (hs | ⟨o, hs⟩) | ⟨o, its, n, hk, hc, _⟩
    · exact .base (.tup hs)
    · exact .fTuple hs
    · exact .kTuple hk hc
end
end DL

namespace DL
open PySem PySem.Spec L2

theorem isi_tab : (["NoneType", "bool", "int", "str", "list", "tuple"].all fun a => ["bool", "int", "str", "list", "tuple"].all fun b => kitB a b == some (a == b || (a == "bool" && b == "int"))) = true := by decide +kernel
def isiT : List String := ["bool", "int", "str", "list", "tuple"]
theorem isi_ok {T : String} (hT : T ∈ isiT) {d : Dt} {b : Bool} (h : isiD T d = some b) : kitB (tyD d) T = some b := by
  have t := List.all_eq_true.mp isi_tab
  have key : ∀ a, a ∈ ["NoneType", "bool", "int", "str", "list", "tuple"] → kitB a T = some (a == T || (a == "bool" && T == "int")) := fun a ha => by
    have t2 := List.all_eq_true.mp (t a ha) T hT
    simpa using t2
  cases d with
  | none =>
    simp [isiD] at h
    rw [tyD, key _ (by simp)]
    simp [← h, eq_comm]
  | bool _ =>
    simp [isiD] at h
    rw [tyD, key _ (by simp)]
    simp [← h, eq_comm]
  | int _ =>
    simp [isiD] at h
    rw [tyD, key _ (by simp)]
    simp [← h, eq_comm]
  | str _ =>
    simp [isiD] at h
    rw [tyD, key _ (by simp)]
    simp [← h, eq_comm]
  | list _ =>
    simp [isiD] at h
    rw [tyD, key _ (by simp)]
    simp [← h, eq_comm]
  | tuple _ =>
    simp [isiD] at h
    rw [tyD, key _ (by simp)]
    simp [← h, eq_comm]
  | dict _ => simp [isiD] at h
def mIsi (T : String) (f : M OV) : M OV := mB f fun x => mO ((x.frz).bind fun d => (isiD T d).map oB)
section
variable {X : Cx} {pin : Pins} {W : WX} {a b c e tg : Expr} {es : List Expr} {pos p p2 : Pos} {f g h : M OV} {fa fb : M Bool} {fs : M (List OV)} {x : Str} {id T : String}
theorem de_isi (mi : X.mg "isinstance" = none) (mT : X.mg x = none) (hv : bootBuiltins x = some (.type T)) (hT : T ∈ isiT) (he : De X pin W e f) (hg : Gl X "isinstance" := by rfl) (hgT : Gl X x := by rfl) (hn : x ≠ "__name__" := by decide) (hd : (x == ("__debug__" : Str)) = false := by decide)
    (hs1 : starEach (e :: [.Name x p2]) X.env = (false, eval e X.env) :: starEach [.Name x p2] X.env := by rfl) (hs2 : starEach (Expr.Name x p2 :: []) X.env = (false, eval (.Name x p2) X.env) :: starEach [] X.env := by rfl) (hpl : (backTo pos (starEach [.Name x p2] X.env)).any (·.1) = false := by rfl) :
    De X pin W (.Call (.Name "isinstance" p) [e, .Name x p2] [] pos) (mIsi T f) :=
  (pe_callB call_isi hg mi (by decide +kernel) (pa_cons he (pa_cons (pe_bltn (v := .ty T) hgT mT hv rfl hn hd) pa_nil hs2) hs1) (by decide) (by decide) hs1 hpl).imp fun σ H Q ⟨env, ws, r, hR, he, hx, k⟩ => by
    refine dE_bind hR he hx fun y env1 v H1 R1 he1 => ?_
    obtain ⟨z, e3, rfl⟩ := mO_some he1
    cases q1 : y.frz with
    | none => simp [q1] at e3
    | some d =>
      cases q2 : isiD T d with
      | none => simp [q1, q2] at e3
      | some bb =>
        simp [q1, q2] at e3
        subst e3
        have R2 := Rl.under (q1 := [(v, y)]) (q2 := [(v, .val d)]) (fun _ r => R.frz q1 r) R1
        exact ⟨v, .ty T, .type (tyD d), .type T, bb, rfl, .ty T, tyX_of R2.dp, kit_ty (isi_ok hT q2), k _ _ rfl _ _ (R2.drop.add fun _ => .bl _)⟩

/-! ### displays -/
def mTup (fs : M (List OV)) : M OV := mB fs fun xs => mO (match OV.frzL xs with
  | some ds => if sz ds.length = true then some (.val (.tuple ds)) else none
  | none => none)
theorem de_tup {k : Nat} (h : Da X pin W es fs) : De X pin W (.Tuple es k pos) (mTup fs) := (pe_tup h).imp fun σ H Q ⟨env, ws, r, hR, he, hx, k⟩ => by
  refine dA_bind hR he hx fun xs env1 vs H1 l R1 he1 => ?_
  obtain ⟨z, e3, rfl⟩ := mO_some he1
  split at e3
  · rename_i ds q
    split at e3
    · rename_i hz
      cases e3
      have ld : vs.length = ds.length := l.trans (frzL_len q)
      have R2 := Rl.under (q1 := vs.zip xs) (q2 := vs.zip (ds.map .val)) (fun ps r => R.frzL l q r) R1
      obtain ⟨ps, rr, back⟩ := Rl.fix (q1 := vs.zip (ds.map .val)) R2
      refine ⟨by rw [ld]; exact sz_le hz, fun p hp => k _ _ rfl _ _ (back _ [(.ref p, .val (.tuple ds))] ?_)⟩
      exact R.newT rr ld hp
    · cases e3
  · cases e3
def mLst (fs : M (List OV)) : M OV := mB fs fun xs => mO (if sz xs.length = true then some (.lst xs) else none)
theorem de_lst (h : Da X pin W es fs) : De X pin W (.List es pos) (mLst fs) := (pe_lst h).imp fun σ H Q ⟨env, ws, r, hR, he, hx, k⟩ => by
  refine dA_bind hR he hx fun xs env1 vs H1 l R1 he1 => ?_
  obtain ⟨z, e3, rfl⟩ := mO_some he1
  split at e3
  · rename_i hz
    cases e3
    obtain ⟨ps, rr, back⟩ := Rl.fix (q1 := vs.zip xs) R1
    refine ⟨by rw [l]; exact sz_le hz, fun p hp => k _ _ rfl _ _ (back _ [(.ref p, .lst xs)] ?_)⟩
    exact R.newL rr l hp
  · cases e3

/-! ### subscripts -/
def ixD : Dt → Dt → Option OV
  | .list ds, .int i => (atI ds i).map .val
  | .tuple ds, .int i => (atI ds i).map .val
  | .str z, .int i => if sz z.length = true then (atI z.cps.toList i).map fun c => .val (.str ⟨#[c]⟩) else none
  | _, _ => none
theorem atI_some {α : Type} {xs : List α} {i : Int} {v : α} (h : atI xs i = some v) : ∃ j, ixN xs.length i = some j ∧ xs[j]? = some v := by
  unfold atI at h
  cases q : ixN xs.length i with
  | none => rw [q] at h; cases h
  | some j =>
    rw [q] at h
    exact ⟨j, rfl, h⟩
theorem atI_of {α : Type} {xs : List α} {i : Int} {v : α} {j n : Nat} (h : ixN n i = some j) (l : xs.length = n) (e : xs[j]? = some v) : atI xs i = some v := by
  unfold atI
  rw [l, h]
  exact e
theorem s2_ix {K : PySem.W.Frag} : Sound2 K (rIx K) ixD := fun H v w x y z Q ps e rr k => by
  unfold ixD at e
  split at e
  · rename_i ds i
    have d1 := R.dp rr
    cases d1
    have rr2 := rr.drop
    have d2 := R.dp rr2
    cases d2 with
    | @lst a _ _ _ _ =>
      obtain ⟨xs, hs, l, r3⟩ := R.unlst rr2
      cases q : atI ds i with
      | none => rw [q] at e; cases e
      | some d =>
        rw [q] at e
        cases e
        obtain ⟨j, e1, e2⟩ := atI_some q
        obtain ⟨u, e3, r4⟩ := R.pick l e2 r3
        exact .inl ⟨a, xs, i, u, rfl, rfl, hs, atI_of e1 l e3, k _ _ (R.drop (r4.perm (.swap _ _ _)))⟩
  · rename_i ds i
    have d1 := R.dp rr
    cases d1
    have rr2 := rr.drop
    have d2 := R.dp rr2
    cases d2 with
    | @tup a _ _ _ _ =>
      obtain ⟨xs, hs, l, r3⟩ := R.untup rr2
      cases q : atI ds i with
      | none => rw [q] at e; cases e
      | some d =>
        rw [q] at e
        cases e
        obtain ⟨j, e1, e2⟩ := atI_some q
        obtain ⟨u, e3, r4⟩ := R.pick l e2 r3
        exact .inr (.inl ⟨a, xs, i, u, rfl, rfl, hs, atI_of e1 l e3, k _ _ (R.drop (r4.perm (.swap _ _ _)))⟩)
  · rename_i zz i
    have d1 := R.dp rr
    cases d1
    have d2 := R.dp rr.drop
    cases d2
    split at e
    · rename_i hz
      cases q : atI zz.cps.toList i with
      | none => rw [q] at e; cases e
      | some c =>
        rw [q] at e
        cases e
        exact .inr (.inr ⟨zz, i, c, rfl, rfl, sz_le hz, q, k _ _ (R.add (fun _ => .str _) rr.drop.drop)⟩)
    · cases e
  · cases e
theorem de_ix (ha : De X pin W a f) (hb : De X pin W b h) (hs : PlainIx b := by intro _ _; rfl) : De X pin W (.Subscript a b pos) (m2 ixD f h) :=
  (pe_ix ix_seq ha hb hs).imp fun σ H Q ⟨env, ws, rr, hR, he, hx, k⟩ => sound2_use s2_ix hR he hx k

/-! ### operators on data -/
section
variable {K : PySem.W.Frag}
theorem Sound2.pure {r : R2} {g : Dt → Dt → Option OV} (h : ∀ (H : Hp) (v w : V) (x y : Dt) (z : OV) (Q : VK), g x y = some z → Dp K H v x → Dp K H w y → ∀ k : (∀ v' d, z = .val d → (∀ F, Dp K F v' d) → Q v' H), r v w H Q) : Sound2 K r g := fun H v w x y z Q ps e rr k =>
  h H v w x y z Q e rr.drop.dp rr.dp fun v' d ez hd => k v' H (by
    subst ez
    exact R.add hd rr.drop.drop)
def gI (g : Int → Int → Option OV) : Dt → Dt → Option OV
  | .int i, .int j => g i j
  | _, _ => none
theorem s2_I {F : Int → Int → V} {d : Int → Int → Dt} (hd : ∀ i j (F' : Hp), Dp K F' (F i j) (d i j)) : Sound2 K (rI0 F) (gI fun i j => some (.val (d i j))) := Sound2.pure fun H v w x y z Q e dx dy k => by
  unfold gI at e
  split at e
  · cases e
    cases dx
    cases dy
    exact ⟨_, _, rfl, rfl, k _ _ rfl (hd _ _)⟩
  · cases e
theorem s2_IC {C : Int → Int → Prop} {c : Int → Int → Bool} {F : Int → Int → V} {d : Int → Int → Dt} (hc : ∀ i j, c i j = true → C i j) (hd : ∀ i j (F' : Hp), Dp K F' (F i j) (d i j)) : Sound2 K (rI C F) (gI fun i j => if c i j = true then some (.val (d i j)) else none) := Sound2.pure fun H v w x y z Q e dx dy k => by
  unfold gI at e
  split at e
  · rename_i i j
    dsimp only at e
    split at e
    · rename_i hcc
      cases e
      cases dx
      cases dy
      exact ⟨_, _, rfl, rfl, hc _ _ hcc, k _ _ rfl (hd _ _)⟩
    · cases e
  · cases e
abbrev addI := gI fun i j => some (.val (.int (i + j)))
abbrev subI := gI fun i j => some (.val (.int (i - j)))
def mulC (i j : Int) : Bool := (decide (-(2 ^ 64) < i) && decide (i < 2 ^ 64)) || (decide (-(2 ^ 64) < j) && decide (j < 2 ^ 64))
abbrev mulI := gI fun i j => if mulC i j = true then some (.val (.int (i * j))) else none
abbrev modI := gI fun i j => if decide (0 < j) = true then some (.val (.int (i % j))) else none
abbrev ltI := gI fun i j => some (.val (.bool (decide (i < j))))
abbrev leI := gI fun i j => some (.val (.bool (decide (i ≤ j))))
abbrev gtI := gI fun i j => some (.val (.bool (decide (j < i))))
abbrev geI := gI fun i j => some (.val (.bool (decide (j ≤ i))))
theorem s2_add : Sound2 K (rI0 fun i j => .int (i + j)) addI := s2_I fun _ _ _ => .int _
theorem s2_sub : Sound2 K (rI0 fun i j => .int (i - j)) subI := s2_I fun _ _ _ => .int _
theorem s2_lt : Sound2 K (rI0 fun i j => .bl (decide (i < j))) ltI := s2_I fun _ _ _ => .bl _
theorem s2_le : Sound2 K (rI0 fun i j => .bl (decide (i ≤ j))) leI := s2_I fun _ _ _ => .bl _
theorem s2_gt : Sound2 K (rI0 fun i j => .bl (decide (j < i))) gtI := s2_I fun _ _ _ => .bl _
theorem s2_ge : Sound2 K (rI0 fun i j => .bl (decide (j ≤ i))) geI := s2_I fun _ _ _ => .bl _
theorem s2_mul : Sound2 K (rI CMul fun i j => .int (i * j)) mulI := s2_IC (fun i j h => by
  unfold mulC at h
  rw [Bool.or_eq_true, Bool.and_eq_true, Bool.and_eq_true] at h
  rcases h with h | h
  · exact .inl ⟨of_decide_eq_true h.1, of_decide_eq_true h.2⟩
  · exact .inr ⟨of_decide_eq_true h.1, of_decide_eq_true h.2⟩) fun _ _ _ => .int _
theorem s2_mod : Sound2 K (rI (fun _ j => 0 < j) fun i j => .int (i % j)) modI := s2_IC (fun i j h => of_decide_eq_true h) fun _ _ _ => .int _
/-- is None, is not None -/
def isNo : Dt → Bool
  | .none => true
  | _ => false
theorem isNo_dp {H : Hp} {v : V} {d : Dt} (h : Dp K H v d) : decide (v = .non) = isNo d := by
  cases h <;> simp [isNo]
end
def mIsN (f : M OV) : M OV := mB f fun x => mO (x.frz.map fun d => oB (isNo d))
def mNotN (f : M OV) : M OV := mB f fun x => mO (x.frz.map fun d => oB (!isNo d))
theorem de_isN {j : Nat} (ha : De X pin W a f) : De X pin W (.Compare a [.Is] [.Constant .none j p] pos) (mIsN f) := (pe_cmp (pc_isN ha)).imp fun σ H Q ⟨env, ws, r, hR, he, hx, k⟩ => by
  refine dE_bind hR he hx fun y env1 v H1 R1 he1 => ?_
  obtain ⟨z, e3, rfl⟩ := mO_some he1
  cases q : y.frz with
  | none => simp [q] at e3
  | some d =>
    simp [q] at e3
    subst e3
    have R2 := Rl.under (q1 := [(v, y)]) (q2 := [(v, .val d)]) (fun _ r => R.frz q r) R1
    rw [isNo_dp R2.dp]
    exact k _ _ rfl _ _ (R2.drop.add fun _ => .bl _)
theorem de_notN {j : Nat} (ha : De X pin W a f) : De X pin W (.Compare a [.IsNot] [.Constant .none j p] pos) (mNotN f) := (pe_cmp (pc_notN ha)).imp fun σ H Q ⟨env, ws, r, hR, he, hx, k⟩ => by
  refine dE_bind hR he hx fun y env1 v H1 R1 he1 => ?_
  obtain ⟨z, e3, rfl⟩ := mO_some he1
  cases q : y.frz with
  | none => simp [q] at e3
  | some d =>
    simp [q] at e3
    subst e3
    have R2 := Rl.under (q1 := [(v, y)]) (q2 := [(v, .val d)]) (fun _ r => R.frz q r) R1
    rw [isNo_dp R2.dp]
    exact k _ _ rfl _ _ (R2.drop.add fun _ => .bl _)
theorem db_isN {j : Nat} (ha : De X pin W a f) : Db X pin W (.Compare a [.Is] [.Constant .none j p] pos) (mBl (mIsN f)) := (pt_cmp (pc_isN ha)).imp fun σ H Q q => by
  obtain ⟨env, ws, r, hR, he, hx, k⟩ := dT_of q
  refine dE_bind hR he hx fun y env1 v H1 R1 he1 => ?_
  obtain ⟨z, e3, rfl⟩ := mO_some he1
  cases q : y.frz with
  | none => simp [q] at e3
  | some d =>
    simp [q] at e3
    subst e3
    have R2 := Rl.under (q1 := [(v, y)]) (q2 := [(v, .val d)]) (fun _ r => R.frz q r) R1
    rw [isNo_dp R2.dp]
    exact k _ _ rfl _ _ (R2.drop.add fun _ => .bl _)
theorem db_notN {j : Nat} (ha : De X pin W a f) : Db X pin W (.Compare a [.IsNot] [.Constant .none j p] pos) (mBl (mNotN f)) := (pt_cmp (pc_notN ha)).imp fun σ H Q q => by
  obtain ⟨env, ws, r, hR, he, hx, k⟩ := dT_of q
  refine dE_bind hR he hx fun y env1 v H1 R1 he1 => ?_
  obtain ⟨z, e3, rfl⟩ := mO_some he1
  cases q : y.frz with
  | none => simp [q] at e3
  | some d =>
    simp [q] at e3
    subst e3
    have R2 := Rl.under (q1 := [(v, y)]) (q2 := [(v, .val d)]) (fun _ r => R.frz q r) R1
    rw [isNo_dp R2.dp]
    exact k _ _ rfl _ _ (R2.drop.add fun _ => .bl _)
/-- -x -/
def mNeg (f : M OV) : M OV := mB f fun x => mO (match x with
  | .val (.int i) => some (oI (-i))
  | _ => none)
theorem de_neg (ha : De X pin W a f) : De X pin W (.UnaryOp .USub a pos) (mNeg f) := (pe_un un_neg ha).imp fun σ H Q ⟨env, ws, r, hR, he, hx, k⟩ => by
  refine dE_bind hR he hx fun y env1 v H1 R1 he1 => ?_
  obtain ⟨z, e3, rfl⟩ := mO_some he1
  split at e3
  · rename_i i
    cases e3
    have d := R1.dp
    cases d
    exact ⟨i, rfl, k _ _ rfl _ _ (R1.drop.add fun _ => .int _)⟩
  · cases e3
end
end DL

namespace DL
open PySem PySem.Spec L2

section
variable {K : PySem.W.Frag} {H : Hp}
mutual
theorem Dp.plain : ∀ {d : Dt} {v : V}, Dp K H v d → d.plain = true
  | _, _, .non => rfl
  | _, _, .bl _ => rfl
  | _, _, .int _ => rfl
  | _, _, .str _ => rfl
  | _, _, .lst _ t => by
    unfold PyData.plain
    exact DpAll.plain t
  | _, _, .tup _ t => by
    unfold PyData.plain
    exact DpAll.plain t
theorem DpAll.plain : ∀ {ds : List Dt} {vs : List V}, DpAll K H vs ds → PyData.plainAll ds = true
  | _, _, .nil => rfl
  | _, _, .cons h t => by
    unfold PyData.plainAll
    rw [Dp.plain h, DpAll.plain t]
    rfl
end
end
/-- what lies not too deep -/
def lowD (x y : Dt) : Bool := decide (min x.depth y.depth ≤ 60)
def eqD : Dt → Dt → Option OV := fun x y => if lowD x y = true then some (oB (PyData.eqv x y)) else none
def neD : Dt → Dt → Option OV := fun x y => if lowD x y = true then some (oB (!PyData.eqv x y)) else none
def ltD : Dt → Dt → Option OV := fun x y => if (PySem.W.alike x y && !isNo x && lowD x y) = true then some (oB (PySem.W.dataLt x y)) else none
def inD : Dt → Dt → Option OV := fun x y => match y with
  | .list ds => if lowD y x = true then some (oB (ds.any fun z => PyData.eqv z x)) else none
  | .tuple ds => if lowD y x = true then some (oB (ds.any fun z => PyData.eqv z x)) else none
  | _ => none
def notInD : Dt → Dt → Option OV := fun x y => match y with
  | .list ds => if lowD y x = true then some (oB (!ds.any fun z => PyData.eqv z x)) else none
  | .tuple ds => if lowD y x = true then some (oB (!ds.any fun z => PyData.eqv z x)) else none
  | _ => none
section
variable {X : Cx}
/-- an operator on data by what it returns -/
def rD (K : PySem.W.Frag) (g : Dt → Dt → Option OV) : R2 := fun x y H Q => ∃ d e v z, Dp K H x d ∧ Dp K H y e ∧ g d e = some (.val z) ∧ (∀ F, Dp K F v z) ∧ Q v H
theorem s2_D {K : PySem.W.Frag} {g : Dt → Dt → Option OV} (hg : ∀ x y z, g x y = some z → ∃ v d, z = .val d ∧ ∀ F, Dp K F v d) : Sound2 K (rD K g) g := Sound2.pure fun H v w x y z Q e dx dy k => by
  obtain ⟨u, d, rfl, hd⟩ := hg x y z e
  exact ⟨x, y, u, d, dx, dy, e, hd, k _ _ rfl hd⟩
theorem oB_back {K : PySem.W.Frag} {b : Bool} : ∃ v d, oB b = .val d ∧ ∀ F, Dp K F v d := ⟨.bl b, _, rfl, fun _ => .bl b⟩
theorem s2_eq {K : PySem.W.Frag} : Sound2 K (rD K eqD) eqD := s2_D fun x y z e => by
  unfold eqD at e
  split at e
  · cases e
    exact oB_back
  · cases e
theorem s2_ne {K : PySem.W.Frag} : Sound2 K (rD K neD) neD := s2_D fun x y z e => by
  unfold neD at e
  split at e
  · cases e
    exact oB_back
  · cases e
theorem s2_ltD {K : PySem.W.Frag} : Sound2 K (rD K ltD) ltD := s2_D fun x y z e => by
  unfold ltD at e
  split at e
  · cases e
    exact oB_back
  · cases e
theorem s2_in {K : PySem.W.Frag} : Sound2 K (rD K inD) inD := s2_D fun x y z e => by
  unfold inD at e
  split at e
  · split at e
    · cases e
      exact oB_back
    · cases e
  · split at e
    · cases e
      exact oB_back
    · cases e
  · cases e
theorem s2_notIn {K : PySem.W.Frag} : Sound2 K (rD K notInD) notInD := s2_D fun x y z e => by
  unfold notInD at e
  split at e
  · split at e
    · cases e
      exact oB_back
    · cases e
  · split at e
    · cases e
      exact oB_back
    · cases e
  · cases e
theorem low_room {x y : Dt} {A : Around} {n : Nat} (h : lowD x y = true) (hu : A.units + 64 < cLine) (hn : n ≤ 4) : A.units + n + min x.depth y.depth < cLine := by
  have := of_decide_eq_true h
  omega
theorem bl_end {pins : List (Addr × Obj)} {σ : St} {H : Hp} {s : Shared} {Q : VK} {v : V} {b : Bool} {z : Dt} (I : Inv X pins σ H s) (hz : oB b = OV.val z) (hv : ∀ F, Dp X.K F v z) (q : Q v H) : EP X pins σ Q (.bool b) s := by
  have e : z = .bool b := by
    unfold oB at hz
    cases hz
    rfl
  subst e
  have d := hv H
  cases d
  exact ⟨.bl b, H, I, rfl, q⟩
theorem op_eqP (hu : X.A.units + 64 < cLine) : OpR X (compareOp .Eq) (rD X.K eqD) := by
  intro pins s σ H x y v u Q I rx ry h
  obtain ⟨d, e, w, z, hd, he, hz, hv, q⟩ := h
  obtain ⟨as, r1⟩ := Dp.reads I d x v hd rx
  obtain ⟨bs, r2⟩ := Dp.reads I e y u he ry
  unfold eqD at hz
  split at hz
  · rename_i hl
    have hz' := Option.some.inj hz
    refine SeqAt.eq_plain r1 r2 (Dp.plain hd) (Dp.plain he) (low_room (n := 0) hl hu (by omega)) (bl_end I hz' hv q)
  · cases hz
theorem op_neP (hu : X.A.units + 64 < cLine) : OpR X (compareOp .NotEq) (rD X.K neD) := by
  intro pins s σ H x y v u Q I rx ry h
  obtain ⟨d, e, w, z, hd, he, hz, hv, q⟩ := h
  obtain ⟨as, r1⟩ := Dp.reads I d x v hd rx
  obtain ⟨bs, r2⟩ := Dp.reads I e y u he ry
  unfold neD at hz
  split at hz
  · rename_i hl
    have hz' := Option.some.inj hz
    refine SeqAt.ne_plain r1 r2 (Dp.plain hd) (Dp.plain he) (low_room (n := 0) hl hu (by omega)) (bl_end I hz' hv q)
  · cases hz
theorem op_ltP (hu : X.A.units + 64 < cLine) : OpR X (compareOp .Lt) (rD X.K ltD) := by
  intro pins s σ H x y v u Q I rx ry h
  obtain ⟨d, e, w, z, hd, he, hz, hv, q⟩ := h
  obtain ⟨as, r1⟩ := Dp.reads I d x v hd rx
  obtain ⟨bs, r2⟩ := Dp.reads I e y u he ry
  unfold ltD at hz
  split at hz
  · rename_i hl
    rw [Bool.and_eq_true, Bool.and_eq_true] at hl
    have hz' := Option.some.inj hz
    have hn : d ≠ .none := fun q => by
      subst q
      have z := hl.1.2
      simp [isNo] at z
    exact PySem.W.rcLt_alike d e X.A s v u as bs r1 r2 hl.1.1 hn (low_room (n := 0) hl.2 hu (by omega)) X.prog X.w X.xe _ (bl_end I hz' hv q)
  · cases hz
theorem depth_list (ds : List Dt) : PyData.depthAll ds ≤ PyData.depth (.list ds) := by
  simp only [PyData.depth]
  omega
theorem depth_tuple (ds : List Dt) : PyData.depthAll ds ≤ PyData.depth (.tuple ds) := by
  simp only [PyData.depth]
  omega
theorem plain_list {ds : List Dt} (h : PyData.plain (.list ds) = true) : PyData.plainAll ds = true := by
  unfold PyData.plain at h
  exact h
theorem plain_tuple {ds : List Dt} (h : PyData.plain (.tuple ds) = true) : PyData.plainAll ds = true := by
  unfold PyData.plain at h
  exact h
theorem op_inP (hu : X.A.units + 64 < cLine) : OpR X (compareOp .In) (rD X.K inD) := by
  intro pins s σ H x y v u Q I rx ry h
  obtain ⟨d, e, w, z, hd, he, hz, hv, q⟩ := h
  obtain ⟨as, r1⟩ := Dp.reads I d x v hd rx
  obtain ⟨bs, r2⟩ := Dp.reads I e y u he ry
  unfold inD at hz
  split at hz
  · rename_i ds
    split at hz
    · rename_i hl
      have hz' := Option.some.inj hz
      have a1 := low_room (n := 1) hl hu (by omega)
      have a2 := depth_list ds
      exact SeqAt.in_list_data r2 r1 (plain_list (Dp.plain he)) (Dp.plain hd) (by omega) (bl_end I hz' hv q)
    · cases hz
  · rename_i ds
    split at hz
    · rename_i hl
      have hz' := Option.some.inj hz
      have a1 := low_room (n := 1) hl hu (by omega)
      have a2 := depth_tuple ds
      exact SeqAt.in_tuple_data r2 r1 (plain_tuple (Dp.plain he)) (Dp.plain hd) (by omega) (bl_end I hz' hv q)
    · cases hz
  · cases hz
theorem op_notInP (hu : X.A.units + 64 < cLine) : OpR X (compareOp .NotIn) (rD X.K notInD) := by
  intro pins s σ H x y v u Q I rx ry h
  obtain ⟨d, e, w, z, hd, he, hz, hv, q⟩ := h
  obtain ⟨as, r1⟩ := Dp.reads I d x v hd rx
  obtain ⟨bs, r2⟩ := Dp.reads I e y u he ry
  unfold notInD at hz
  split at hz
  · rename_i ds
    split at hz
    · rename_i hl
      have hz' := Option.some.inj hz
      have a1 := low_room (n := 1) hl hu (by omega)
      have a2 := depth_list ds
      exact SeqAt.notIn_list_data r2 r1 (plain_list (Dp.plain he)) (Dp.plain hd) (by omega) (bl_end I hz' hv q)
    · cases hz
  · rename_i ds
    split at hz
    · rename_i hl
      have hz' := Option.some.inj hz
      have a1 := low_room (n := 1) hl hu (by omega)
      have a2 := depth_tuple ds
      exact SeqAt.notIn_tuple_data r2 r1 (plain_tuple (Dp.plain he)) (Dp.plain hd) (by omega) (bl_end I hz' hv q)
    · cases hz
  · cases hz
end
end DL

namespace DL
open PySem PySem.Spec L2

/-! ### chains of comparisons -/
/-- a < b < c -/
def mChain (g1 g3 : Dt → Dt → Option OV) (f h f3 : M OV) : M OV := mB f fun x => mB h fun y => mB (mO (g2 g1 x y)) fun z => mB (mO (bl? z)) fun b => if b = true then mB f3 fun w => mO (g2 g3 y w) else mC (.bool false)
section
variable {X : Cx} {pin : Pins} {W : WX} {a b c e tg : Expr} {es : List Expr} {pos p p2 : Pos} {f g h f3 : M OV} {fa fb : M Bool} {fs : M (List OV)} {x : Str} {id T : String}
theorem chain_use {r r' : R2} {g1 g3 : Dt → Dt → Option OV} (hs : Sound2 X.K r g1) (hs' : Sound2 X.K r' g3) {σ : St} {H : Hp} {Q : VK} {env : Env} {ws : Bag} {rr : Er OV} (hR : Rl X.K pin σ env ws H) (he : mChain g1 g3 f h f3 env = some rr) (hx : Xp X.K X.mg pin W ws σ rr)
    (k : ∀ x env', rr = .ok x env' → ∀ v H', Rl X.K pin σ env' ((v, x) :: ws) H' → Q v H') : tChain r r' (dE X.K X.mg pin W f) (dE X.K X.mg pin W h) (dE X.K X.mg pin W f3) σ H Q := by
  refine dE_bind hR he hx fun x env1 v H1 R1 he1 => ?_
  refine dE_bind R1 he1 hx.drop fun y env2 w H2 R2 he2 => ?_
  rcases mB_cases he2 with ⟨z, env3, q1, q2⟩ | ⟨e, env3, q1, q2⟩
  · obtain ⟨z', e3, q3⟩ := mO_some q1
    cases q3
    obtain ⟨dx, dy, ex, ey, e4⟩ := g2_some e3
    rcases mB_cases q2 with ⟨bb, env4, q5, q6⟩ | ⟨e, env4, q5, q6⟩
    · obtain ⟨b', e5, q7⟩ := mO_some q5
      cases q7
      cases bl?_some e5
      have R3 := Rl.under (q1 := [(w, y), (v, x)]) (q2 := [(w, .val dy), (w, .val dy), (v, .val dx)]) (fun _ r => by
        have r1 := R.frz ey r
        have r2 := R.frz ex (r1.perm (.swap _ _ _))
        exact R.dup (r2.perm (.swap _ _ _))) R2
      have R4 := Rl.under (q1 := [(w, .val dy), (w, .val dy), (v, .val dx)]) (q2 := [(w, .val dy), (v, .val dx), (w, .val dy)]) (fun _ r => r.perm (.cons _ (.swap _ _ _))) R3
      obtain ⟨ps, r0, back⟩ := Rl.fix (q1 := [(w, .val dy), (v, .val dx)]) (ws := (w, .val dy) :: ws) R4
      refine hs H2 v w dx dy _ _ ps e4 r0 fun v' H' r1 => ?_
      have R5 := back H' [(v', _)] r1
      have d := Rl.dp R5
      cases d
      refine ⟨bb, rfl, ?_⟩
      cases bb with
      | false =>
        cases q6
        exact iteF (k _ _ rfl _ H' (R5.drop.drop.add fun _ => .bl _))
      | true =>
        refine iteT ?_
        have R6 := R5.drop
        rw [if_pos rfl] at q6
        refine dE_bind R6 q6 hx.drop fun w2 env5 v5 H5 R7 he5 => ?_
        obtain ⟨z2, e7, rfl⟩ := mO_some he5
        obtain ⟨dy2, dw, ey2, ew, e8⟩ := g2_some e7
        have ed : dy2 = dy := Option.some.inj (ey2.symm.trans ey)
        subst ed
        have R8 := Rl.under (q1 := [(v5, w2)]) (q2 := [(v5, .val dw)]) (ws := (w, .val dy2) :: ws) (fun _ r => R.frz ew r) R7
        obtain ⟨ps, r0, back⟩ := Rl.fix (q1 := [(v5, .val dw), (w, .val dy2)]) R8
        exact hs' H5 w v5 dy2 dw z2 Q ps e8 r0 fun v' H' r1 => k _ _ rfl v' H' (back H' [(v', z2)] r1)
    · obtain ⟨_, _, q7⟩ := mO_some q5
      cases q7
  · obtain ⟨_, _, q3⟩ := mO_some q1
    cases q3
theorem de_chain {op op' : CmpOp} {r r' : R2} {g1 g3 : Dt → Dt → Option OV} (ho : OpR X (compareOp op) r) (hs : Sound2 X.K r g1) (ho' : OpR X (compareOp op') r') (hs' : Sound2 X.K r' g3) (ha : De X pin W a f) (hb : De X pin W b h) (hc : De X pin W c f3)
    (hm : lastMarks [op, op'] [b, c] = false := by with_unfolding_all rfl) : De X pin W (.Compare a [op, op'] [b, c] pos) (mChain g1 g3 f h f3) :=
  (pe_chain ho ho' ha hb hc hm).imp fun σ H Q ⟨env, ws, rr, hR, he, hx, k⟩ => chain_use hs hs' hR he hx k
theorem db_chain {op op' : CmpOp} {r r' : R2} {g1 g3 : Dt → Dt → Option OV} (ho : OpR X (compareOp op) r) (hs : Sound2 X.K r g1) (ho' : OpR X (compareOp op') r') (hs' : Sound2 X.K r' g3) (ha : De X pin W a f) (hb : De X pin W b h) (hc : De X pin W c f3)
    (hm : lastMarks [op, op'] [b, c] = false := by with_unfolding_all rfl) : Db X pin W (.Compare a [op, op'] [b, c] pos) (mBl (mChain g1 g3 f h f3)) :=
  (pt_chain ho ho' ha hb hc hm).imp fun σ H Q q => by
    obtain ⟨env, ws, rr, hR, he, hx, k⟩ := dT_of q
    exact chain_use hs hs' hR he hx k

/-! ### x is True, x is False, whatever x is -/
def isB (b : Bool) : Dt → Bool
  | .bool c => c == b
  | _ => false
def isBD : Dt → Dt → Option OV := fun x y => match y with
  | .bool b => some (oB (isB b x))
  | _ => none
def notBD : Dt → Dt → Option OV := fun x y => match y with
  | .bool b => some (oB (!isB b x))
  | _ => none
theorem isB_val {H : Hp} {K : PySem.W.Frag} {x : V} {d : Dt} {u : Value} {b : Bool} (h : Dp K H x d) (r : RelV x u) : plainIs u (.bool b) = true ∧ (u == .bool b) = isB b d := by
  cases h with
  | non => cases r; exact ⟨rfl, rfl⟩
  | bl c => cases r; exact ⟨rfl, by cases b <;> cases c <;> rfl⟩
  | int i => obtain ⟨t, rfl⟩ := r; exact ⟨rfl, rfl⟩
  | str i => obtain ⟨t, rfl⟩ := r; exact ⟨rfl, rfl⟩
  | lst _ _ => cases r; exact ⟨rfl, rfl⟩
  | tup _ _ => cases r; exact ⟨rfl, rfl⟩
theorem op_isB : OpR X (compareOp .Is) (rD X.K isBD) := by
  intro pins s σ H x y v u Q I rx ry h
  obtain ⟨d, e, w, z, hd, he, hz, hv, q⟩ := h
  unfold isBD at hz
  split at hz
  · rename_i b
    cases he
    cases (show u = .bool b from ry)
    obtain ⟨h1, h2⟩ := isB_val (b := b) hd rx
    refine wpAny_is_plain h1 ?_
    rw [h2]
    exact bl_end I (Option.some.inj hz) hv q
  · cases hz
theorem op_notB : OpR X (compareOp .IsNot) (rD X.K notBD) := by
  intro pins s σ H x y v u Q I rx ry h
  obtain ⟨d, e, w, z, hd, he, hz, hv, q⟩ := h
  unfold notBD at hz
  split at hz
  · rename_i b
    cases he
    cases (show u = .bool b from ry)
    obtain ⟨h1, h2⟩ := isB_val (b := b) hd rx
    refine wpAny_isNot_plain h1 ?_
    rw [h2]
    exact bl_end I (Option.some.inj hz) hv q
  · cases hz
theorem s2_isB {K : PySem.W.Frag} : Sound2 K (rD K isBD) isBD := s2_D fun x y z e => by
  unfold isBD at e
  split at e
  · cases e
    exact oB_back
  · cases e
theorem s2_notB {K : PySem.W.Frag} : Sound2 K (rD K notBD) notBD := s2_D fun x y z e => by
  unfold notBD at e
  split at e
  · cases e
    exact oB_back
  · cases e

/-! ### + of ints, texts, lists, tuples -/
def rCatL (K : PySem.W.Frag) : R2 := fun x y H Q => ∃ l b xs zs, x = .ref l ∧ y = .ref b ∧ SqL K H l xs ∧ SqL K H b zs ∧ xs.length + zs.length ≤ sizeLine ∧ ∀ p, H p = none → Q (.ref p) (upd H p (.lst (xs ++ zs)))
theorem op_catL : OpR X (binaryOp .Add) (rCatL X.K) := by
  intro pins s σ H x y v u Q I rx ry h
  obtain ⟨l, b, xs, zs, rfl, rfl, hl, hb, hz, q⟩ := h
  cases rx
  cases ry
  obtain ⟨its, r1, ⟨⟨cls, dd, data, sl⟩, n, ho, hc, hdd, hd⟩, _⟩ := I.list hl
  obtain ⟨its2, r2, ⟨⟨cls2, dd2, data2, sl2⟩, n2, ho2, hc2, hdd2, hd2⟩, _⟩ := I.list hb
  simp only at hc hd hc2 hd2
  subst hc hd hc2 hd2
  have l1 := r1.length
  have l2 := r2.length
  have e : its.toArray ++ its2.toArray = (its ++ its2).toArray := by simp
  refine concat_meets ⟨_, ho, rfl⟩ ⟨_, ho2, rfl⟩ noFill_list_add seq_list_add PySem.F.slot_list_add PySem.F.entry_list_add (PySem.F.args_list_add_2 _ _) (PyProof.Rows.list_addW l b its.toArray its2.toArray n n2 dd dd2 sl sl2 (by simp only [List.size_toArray]; omega)) ⟨ho, ho2, ?_⟩
  rw [e]
  exact ⟨.ref _, _, I.lnew (t' := s.toks) (r1.append r2) (by rw [List.length_append]; omega), rfl, q _ I.fresh⟩
def addD : Dt → Dt → Option OV
  | .int i, .int j => some (oI (i + j))
  | .str x, .str y => if sz (x.length + y.length) = true then some (.val (.str (x ++ y))) else none
  | .list xs, .list ys => if sz (xs.length + ys.length) = true then some (.lst ((xs ++ ys).map .val)) else none
  | .tuple xs, .tuple ys => if sz (xs.length + ys.length) = true then some (.val (.tuple (xs ++ ys))) else none
  | _, _ => none
def rAddG (K : PySem.W.Frag) : R2 := fun x y H Q => (∃ i j, x = .int i ∧ y = .int j ∧ Q (.int (i + j)) H) ∨ (∃ i j, x = .str i ∧ y = .str j ∧ i.length + j.length ≤ sizeLine ∧ Q (.str (i ++ j)) H) ∨ rCatL K x y H Q ∨ rCatA K x y H Q
theorem op_addG : OpR X (binaryOp .Add) (rAddG X.K) := op_add.or (op_add_str.or (op_catL.or op_catA))
theorem zip_map_append (xs ys : List V) (ds es : List Dt) (h : xs.length = ds.length) : (xs ++ ys).zip ((ds ++ es).map OV.val) = xs.zip (ds.map .val) ++ ys.zip (es.map .val) := by
  rw [List.map_append]
  exact List.zip_append (by simpa using h)
theorem s2_add' {K : PySem.W.Frag} : Sound2 K (rAddG K) addD := fun H v w x y z Q ps e rr k => by
  unfold addD at e
  split at e
  · cases e
    have d1 := R.dp rr
    cases d1
    have d2 := R.dp rr.drop
    cases d2
    exact .inl ⟨_, _, rfl, rfl, k _ _ (R.add (fun _ => .int _) rr.drop.drop)⟩
  · split at e
    · rename_i hz
      cases e
      have d1 := R.dp rr
      cases d1
      have d2 := R.dp rr.drop
      cases d2
      exact .inr (.inl ⟨_, _, rfl, rfl, sz_le hz, k _ _ (R.add (fun _ => .str _) rr.drop.drop)⟩)
    · cases e
  · rename_i ds es
    split at e
    · rename_i hz
      cases e
      have d1 := R.dp rr
      cases d1 with
      | @lst b _ _ _ _ =>
        have d2 := R.dp rr.drop
        cases d2 with
        | @lst a _ _ _ _ =>
          obtain ⟨ys, hy, ly, r1⟩ := R.unlst rr
          have r2 : R K [] H (((.ref a, .val (.list ds)) :: (ys.zip (es.map .val) ++ ps))) := by
            refine R.drop (p := (.ref b, .val (.list es))) (r1.perm ?_)
            refine List.perm_middle.trans (.cons _ ?_)
            exact List.perm_middle
          obtain ⟨xs, hx, lx, r3⟩ := R.unlst r2
          have r4 : R K [] H (xs.zip (ds.map .val) ++ (ys.zip (es.map .val) ++ ps)) := R.drop (p := (.ref a, .val (.list ds))) (r3.perm List.perm_middle)
          refine .inr (.inr (.inl ⟨a, b, xs, ys, rfl, rfl, hx, hy, by rw [lx, ly]; exact sz_le hz, fun p hp => k _ _ (R.newL ?_ (by simp [lx, ly]) hp)⟩))
          rw [zip_map_append _ _ _ _ lx, List.append_assoc]
          exact r4
    · cases e
  · rename_i ds es
    split at e
    · rename_i hz
      cases e
      have d1 := R.dp rr
      cases d1 with
      | @tup b _ _ _ _ =>
        have d2 := R.dp rr.drop
        cases d2 with
        | @tup a _ _ _ _ =>
          obtain ⟨ys, hy, ly, r1⟩ := R.untup rr
          have r1' : R K [] H ((.ref a, .val (.tuple ds)) :: (ys.zip (es.map .val) ++ (.ref b, .val (.tuple es)) :: ps)) := r1.perm ((List.Perm.append_left _ (.swap _ _ _)).trans List.perm_middle)
          obtain ⟨xs, hx, lx, r3⟩ := R.untup r1'
          refine .inr (.inr (.inr ⟨a, b, xs, ys, rfl, rfl, hx, hy, by rw [lx, ly]; exact sz_le hz, fun h0 => k _ _ ?_, fun h0 h1 => k _ _ ?_, fun h0 h1 p hp => k _ _ (R.newT ?_ (by simp [lx, ly]) hp)⟩))
          · subst h0
            have : ds = [] := List.eq_nil_of_length_eq_zero (by simpa using lx.symm)
            subst this
            have r5 := r3.drop
            exact (R.dropL r5).perm (.refl _) |> fun r => by simpa using r
          · subst h1
            have : es = [] := List.eq_nil_of_length_eq_zero (by simpa using ly.symm)
            subst this
            rw [List.append_nil]
            have r5 : R K [] H ((.ref a, .val (.tuple ds)) :: (([] : List V).zip (([] : List Dt).map .val) ++ (.ref b, .val (.tuple [])) :: ps)) := R.dropL r3
            have r6 : R K [] H ((.ref a, .val (.tuple ds)) :: (.ref b, .val (.tuple [])) :: ps) := r5
            exact R.drop (r6.perm (.swap _ _ _))
          · rw [zip_map_append _ _ _ _ lx, List.append_assoc]
            have r5 : R K [] H (xs.zip (ds.map .val) ++ (ys.zip (es.map .val) ++ (.ref b, .val (.tuple es)) :: ps)) := R.drop (p := (.ref a, .val (.tuple ds))) (r3.perm List.perm_middle)
            refine R.drop (p := (.ref b, .val (.tuple es))) (r5.perm ?_)
            refine (List.Perm.append_left _ List.perm_middle).trans List.perm_middle
    · cases e
  · cases e
/-! ### slices -/
def SoundSl (K : PySem.W.Frag) (r : V → Option Int → Option Int → Hp → VK → Prop) (g : Dt → Option Int → Option Int → Option OV) : Prop := ∀ (H : Hp) (v : V) (d : Dt) (lo hi : Option Int) (z : OV) (Q : VK) (ps : Bag), g d lo hi = some z → R K [] H ((v, .val d) :: ps) →
  (∀ v' H', R K [] H' ((v', z) :: ps) → Q v' H') → r v lo hi H Q
def cutD {α : Type} (xs : List α) (lo hi : Option Int) : List α := (xs.drop (HT.sIx xs.length 0 lo)).take (HT.sIx xs.length xs.length hi - HT.sIx xs.length 0 lo)
def slD : Dt → Option Int → Option Int → Option OV
  | .list ds, lo, hi => some (.lst ((cutD ds lo hi).map .val))
  | .tuple ds, lo, hi => some (.val (.tuple (cutD ds lo hi)))
  | .str z, lo, hi => if sz z.length = true then some (.val (.str (cutS z lo hi))) else none
  | _, _, _ => none
def rSlG (K : PySem.W.Frag) : V → Option Int → Option Int → Hp → VK → Prop := fun x lo hi H Q => rSlL K x lo hi H Q ∨ rSlA K x lo hi H Q ∨ rSlS x lo hi H Q
theorem sl_G : SlR X (rSlG X.K) := sl_list.or (sl_tupA.or sl_str)
theorem cut_zip (xs : List V) (ds : List Dt) (h : xs.length = ds.length) (lo hi : Option Int) : (cutV xs lo hi).length = (cutD ds lo hi).length := by
  unfold cutV cutD
  simp [h]
theorem dpAll_cut {K : PySem.W.Frag} {F : Hp} {xs : List V} {ds : List Dt} (h : DpAll K F xs ds) (lo hi : Option Int) : DpAll K F (cutV xs lo hi) (cutD ds lo hi) := by
  unfold cutV cutD
  rw [h.length]
  exact (h.drop _).take _
theorem R.cut {K : PySem.W.Frag} {H : Hp} {xs : List V} {ds : List Dt} {ps : Bag} (l : xs.length = ds.length) (r : R K [] H (xs.zip (ds.map .val) ++ ps)) (lo hi : Option Int) : R K [] H ((cutV xs lo hi).zip ((cutD ds lo hi).map .val) ++ ps) := by
  obtain ⟨Z, nd, a, b⟩ := R.dps l r
  refine ⟨Z, nd, ?_⟩
  have lc := cut_zip xs ds l lo hi
  rw [List.map_append, List.map_append, zip_fst (by simpa using lc), zip_snd (by simpa using lc)]
  exact OwnL.append (fp := []) (OwnL.of_vals (dpAll_cut a lo hi)) b
theorem ss_G {K : PySem.W.Frag} : SoundSl K (rSlG K) slD := fun H v d lo hi z Q ps e rr k => by
  unfold slD at e
  split at e
  · rename_i ds
    cases e
    have d1 := R.dp rr
    cases d1 with
    | @lst a _ _ _ _ =>
      obtain ⟨xs, hs, l, r2⟩ := R.unlst rr
      refine .inl ⟨a, xs, rfl, hs, fun p hp => k _ _ (R.newL ?_ (by simpa using cut_zip xs ds l lo hi) hp)⟩
      exact R.cut l (R.drop (r2.perm List.perm_middle)) lo hi
  · rename_i ds
    cases e
    have d1 := R.dp rr
    cases d1 with
    | @tup a _ _ _ _ =>
      obtain ⟨xs, hs, l, r2⟩ := R.untup rr
      refine .inr (.inl ⟨a, xs, rfl, hs, fun hw => k _ _ ?_, fun hw p hp => k _ _ (R.newT ?_ (cut_zip xs ds l lo hi) hp)⟩)
      · have ec : cutD ds lo hi = ds := by
          unfold cutD
          rw [← l, hw.1, hw.2, l]
          simp
        rw [ec]
        exact rr
      · exact R.cut l (R.drop (r2.perm List.perm_middle)) lo hi
  · rename_i zz
    split at e
    · rename_i hz
      cases e
      have d1 := R.dp rr
      cases d1
      exact .inr (.inr ⟨zz, rfl, sz_le hz, k _ _ (R.add (fun _ => .str _) rr.drop)⟩)
    · cases e
  · cases e
def dO (K : PySem.W.Frag) (mg : Str → Option Value) (pin : Pins) (W : WX) (f : M (Option Int)) : TO := fun σ H Q => ∃ env ws r, Rl K pin σ env ws H ∧ f env = some r ∧ Xp K mg pin W ws σ r ∧ ∀ o env', r = .ok o env' → ∀ H', Rl K pin σ env' ws H' → Q o H'
def mNoP : M (Option Int) := mR none
def mP (f : M OV) : M (Option Int) := mB f fun x => mO (match x with
  | .val (.int i) => some (some i)
  | _ => none)
theorem do_none : PO X none (dO X.K X.mg pin W mNoP) := ⟨fun pins s σ H Q I ⟨env, ws, r, hR, he, hx, k⟩ => po_none.run pins s σ H Q I (by cases he; exact k _ _ rfl H hR)⟩
theorem do_some (h : De X pin W e f) : PO X (some e) (dO X.K X.mg pin W (mP f)) := ⟨fun pins s σ H Q I ⟨env, ws, r, hR, he, hx, k⟩ => (po_some h).run pins s σ H Q I (by
  refine dE_bind hR he hx fun x env1 v H1 R1 he1 => ?_
  obtain ⟨z, e3, rfl⟩ := mO_some he1
  split at e3
  · cases e3
    have d := R1.dp
    cases d
    exact ⟨_, rfl, k _ _ rfl H1 R1.drop⟩
  · cases e3)⟩
theorem dO_bind {K : PySem.W.Frag} {mg : Str → Option Value} {ws : Bag} {σ : St} {H : Hp} {env : Env} {β : Type} {f : M (Option Int)} {g : Option Int → M β} {r : Er β} {P : Option Int → Hp → Prop} (hR : Rl K pin σ env ws H) (he : mB f g env = some r) (hx : Xp K mg pin W ws σ r)
    (k : ∀ b env1 H1, Rl K pin σ env1 ws H1 → g b env1 = some r → P b H1) : dO K mg pin W f σ H P := by
  rcases mB_cases he with ⟨x, env1, e1, e2⟩ | ⟨e, env1, e1, e2⟩
  · exact ⟨env, ws, _, hR, e1, .ok, fun x' env' q H1 R1 => by cases q; exact k _ _ H1 R1 e2⟩
  · exact ⟨env, ws, _, hR, e1, hx.of e2, fun x' env' q => nomatch q⟩
def mSl (f : M OV) (lo hi : M (Option Int)) : M OV := mB f fun x => mB lo fun l => mB hi fun u => mO (x.frz.bind fun d => slD d l u)
theorem de_slice {lo hi : Option Expr} {fl fh : M (Option Int)} (ha : De X pin W a f) (hl : PO X lo (dO X.K X.mg pin W fl)) (hh : PO X hi (dO X.K X.mg pin W fh)) : De X pin W (.Subscript a (.Slice lo hi none p2) pos) (mSl f fl fh) :=
  (pe_slice sl_G ha hl hh).imp fun σ H Q ⟨env, ws, rr, hR, he, hx, k⟩ => by
    refine dE_bind hR he hx fun x env1 v H1 R1 he1 => ?_
    refine dO_bind R1 he1 hx.drop fun l env2 H2 R2 he2 => ?_
    refine dO_bind R2 he2 hx.drop fun u env3 H3 R3 he3 => ?_
    obtain ⟨z, e3, rfl⟩ := mO_some he3
    cases q : x.frz with
    | none => simp [q] at e3
    | some d =>
      simp [q] at e3
      have R4 := Rl.under (q1 := [(v, x)]) (q2 := [(v, .val d)]) (fun _ r => R.frz q r) R3
      obtain ⟨ps, r0, back⟩ := Rl.fix (q1 := [(v, .val d)]) R4
      exact ss_G H3 v d l u z Q ps e3 r0 fun v' H' r1 => k _ _ rfl v' H' (back H' [(v', z)] r1)

/-! ### truth -/
def truD : Dt → Option Bool
  | .none => some false
  | .bool b => some b
  | .int i => some (i != 0)
  | .str y => if sz y.length = true then some ((y.length : Int) != 0) else none
  | .list xs => some (!xs.isEmpty)
  | .tuple xs => some (!xs.isEmpty)
  | .dict _ => none
theorem truD_ok {K : PySem.W.Frag} {H : Hp} {v : V} {d : Dt} {b : Bool} (h : Dp K H v d) (e : truD d = some b) : TruV K v H b := by
  cases h with
  | non => cases e; exact rfl
  | bl _ => cases e; exact rfl
  | int _ => cases e; exact rfl
  | str y =>
    have e' : (if sz y.length = true then some ((y.length : Int) != 0) else none) = some b := e
    split at e'
    · rename_i hz
      cases e'
      exact ⟨sz_le hz, rfl⟩
    · cases e'
  | lst hs ha =>
    cases e
    refine .inl ⟨_, hs, ?_⟩
    cases ha <;> rfl
  | tup hs ha =>
    cases e
    refine .inr (.inl ⟨_, hs, ?_⟩)
    cases ha <;> rfl
def mTru (f : M OV) : M Bool := mB f fun x => mO (x.frz.bind truD)
theorem db_tru (h : De X pin W e f) (he : ∀ whole, isTrue e X.env whole = (do let v ← whole; standAt e.pos; holding [v] (truthy v)) := by intro _; rfl) : Db X pin W e (mTru f) := (pt_truth h he).imp fun σ H Q ⟨env, ws, rr, hR, he, hx, k⟩ => by
  refine dE_bind hR he hx fun x env1 v H1 R1 he1 => ?_
  obtain ⟨b, e3, rfl⟩ := mO_some he1
  cases q : x.frz with
  | none => simp [q] at e3
  | some d =>
    simp [q] at e3
    have R2 := Rl.under (q1 := [(v, x)]) (q2 := [(v, .val d)]) (fun _ r => R.frz q r) R1
    exact ⟨b, truD_ok R2.dp e3, k _ _ rfl H1 R2.drop⟩
end
end DL

namespace DL
open PySem PySem.Spec L2

/-! ### an owned list in a slot -/
section
variable {K : PySem.W.Frag} {mg : Str → Option Value} {pin : Pins} {W : WX} {ws qs : Bag} {σ : St} {H : Hp} {env : Env} {v : V} {x : OV} {i : Nat}
theorem Rl.slot (e : env[i]? = some (some x)) (r : Rl K pin σ env ws H) : ∃ v, σ[i]? = some (some v) := by
  obtain ⟨v, h, _⟩ := r.take e
  exact ⟨v, h⟩
theorem set_self {α : Type} : ∀ {l : List α} {i : Nat} {x : α}, l[i]? = some x → l.set i x = l
  | [], _, _, h => by simp at h
  | a :: l, 0, x, h => by
    simp at h
    subst h
    rfl
  | a :: l, i + 1, x, h => by
    simp at h
    simp [set_self h]
/-- a look at the list: its object, its items; and a way back, changed -/
theorem Rl.own {xs : List OV} {q1 : Bag} (e : env[i]? = some (some (.lst xs))) (r : Rl K pin σ env (q1 ++ ws) H) : ∃ a vs, σ[i]? = some (some (.ref a)) ∧ H a = some (.lst vs) ∧ vs.length = xs.length ∧
    ∃ ps, R K [a] H (vs.zip xs ++ (q1 ++ ps)) ∧ (∀ us ys qs, us.length = ys.length → R K [a] H (us.zip ys ++ (qs ++ ps)) → Rl K pin σ (env.set i (some (.lst ys))) (qs ++ ws) (upd H a (.lst us))) := by
  obtain ⟨v, e1, R1⟩ := r.take e
  obtain ⟨⟨bag, sl, rr⟩, pn⟩ := R1
  have r2 : R K [] H ((v, .lst xs) :: (bag ++ (q1 ++ ws))) := rr.perm List.perm_middle
  obtain ⟨a, vs, rfl, h1, l, r3⟩ := R.open r2
  have sw : ∀ (A B C : Bag), (A ++ (B ++ C)).Perm (B ++ (A ++ C)) := fun A B C => by
    rw [← List.append_assoc, ← List.append_assoc]
    exact List.Perm.append_right _ List.perm_append_comm
  refine ⟨a, vs, e1, h1, l, bag ++ ws, r3.perm (List.Perm.append_left _ (sw _ _ _)), fun us ys qs lu r4 => ?_⟩
  have r5 := R.close r4 lu
  have R5 : Rl K pin σ (env.set i none) ((.ref a, .lst ys) :: (qs ++ ws)) (upd H a (.lst us)) := by
    refine ⟨⟨bag, sl, r5.perm ?_⟩, pn⟩
    exact (List.Perm.cons _ (sw _ _ _)).trans List.perm_middle.symm
  have R6 := Rl.back e1 R5
  rw [List.set_set] at R6
  exact R6
theorem upd_self {H : Hp} {a : Addr} {o : HO} (h : H a = some o) : upd H a o = H := by
  funext b
  by_cases hb : b = a
  · subst hb
    rw [upd_same, h]
  · rw [upd_ne hb]
end
section
variable {X : Cx} {pin : Pins} {W : WX} {a b c e tg : Expr} {es : List Expr} {pos p p2 apos cpos : Pos} {f g h : M OV} {fa fb : M Bool} {fs : M (List OV)} {x : Str} {id T : String} {i : Nat}
/-- xs[j] of an owned list: a copy of a frozen item -/
def mIxO (i : Nat) (f : M OV) : M OV := fun env => match env[i]? with
  | some (some (.lst _)) => mB f (fun y env1 => match env1[i]?, y with
    | some (some (.lst xs)), .val (.int j) => match atI xs j with
      | some (.val d) => some (.ok (.val d) env1)
      | _ => none
    | _, _ => none) env
  | _ => none
theorem R.copy {K : PySem.W.Frag} {A : List Addr} {H : Hp} {ps : Bag} : ∀ {vs : List V} {xs : List OV} {j : Nat} {d : Dt}, vs.length = xs.length → xs[j]? = some (.val d) → R K A H (vs.zip xs ++ ps) → ∃ w, vs[j]? = some w ∧ R K A H ((w, .val d) :: (vs.zip xs ++ ps))
  | [], [], j, d, _, e, _ => by simp at e
  | [], _ :: _, _, _, l, _, _ => by simp at l
  | _ :: _, [], _, _, l, _, _ => by simp at l
  | v :: vs, x :: xs, 0, d, l, e, r => by
    simp at e
    subst e
    exact ⟨v, rfl, R.dup r⟩
  | v :: vs, x :: xs, j + 1, d, l, e, r => by
    have r1 : R K A H (vs.zip xs ++ ((v, x) :: ps)) := R.unfront r
    obtain ⟨w, e1, r2⟩ := R.copy (vs := vs) (xs := xs) (by simpa using l) (by simpa using e) r1
    exact ⟨w, by simpa using e1, r2.perm (.cons _ List.perm_middle)⟩
theorem de_ixO (ha : PE X a (tVar i)) (hb : De X pin W b f) (hs : PlainIx b := by intro _ _; rfl) : De X pin W (.Subscript a b pos) (mIxO i f) :=
  (pe_ix ix_list ha hb hs).imp fun σ H Q ⟨env, ws, rr, hR, he, hx, k⟩ => by
    unfold mIxO at he
    split at he
    · rename_i xs0 q0
      obtain ⟨v0, e0⟩ := hR.slot q0
      refine ⟨v0, e0, ?_⟩
      refine dE_bind hR he hx fun y env1 w H1 R1 he1 => ?_
      split at he1
      · rename_i xs j q1
        split at he1
        · rename_i d q2
          cases he1
          obtain ⟨a, vs, e1, h1, l, ps, r1, put⟩ := Rl.own (q1 := [(w, .val (.int j))]) (ws := ws) q1 R1
          have ev : v0 = .ref a := Option.some.inj (Option.some.inj (e0.symm.trans e1))
          subst ev
          have dw := R1.dp
          cases dw
          obtain ⟨m, e2, e3⟩ := atI_some q2
          obtain ⟨u, e4, r2⟩ := R.copy l e3 r1
          refine ⟨a, vs, j, u, rfl, rfl, SqL.of h1, atI_of e2 l e4, ?_⟩
          have R4 := put vs xs [(u, .val d)] l (by
            have r5 : R X.K [a] H1 (vs.zip xs ++ ((u, .val d) :: (V.int j, .val (.int j)) :: ps)) := R.unfront r2
            have r6 := r5.perm (qs := (V.int j, OV.val (.int j)) :: (vs.zip xs ++ ((u, .val d) :: ps))) ((List.Perm.append_left _ (.swap _ _ _)).trans List.perm_middle)
            exact r6.drop)
          rw [upd_self h1, set_self q1] at R4
          exact k _ _ rfl u H1 R4
        · cases he1
      · cases he1
    · cases he
/-- len(xs) of an owned list -/
def mLenO (i : Nat) : M OV := fun env => match env[i]? with
  | some (some (.lst xs)) => some (.ok (oI xs.length) env)
  | _ => none
theorem de_lenO (hm : X.mg "len" = none) (ha : PE X a (tVar i)) (hg : Gl X "len" := by rfl) (hs : starEach (a :: []) X.env = (false, eval a X.env) :: starEach [] X.env := by rfl) (hpl : (backTo pos (starEach [] X.env)).any (·.1) = false := by rfl) :
    De X pin W (.Call (.Name "len" p) [a] [] pos) (mLenO i) := (pe_callB call_len hg hm (by decide +kernel) (pa_cons ha pa_nil hs) (by decide) (by decide) hs hpl).imp fun σ H Q ⟨env, ws, rr, hR, he, hx, k⟩ => by
  unfold mLenO at he
  split at he
  · rename_i xs q
    cases he
    obtain ⟨a, vs, e1, h1, l, ps, r1, put⟩ := Rl.own (q1 := []) q hR
    exact ⟨.ref a, e1, .ref a, vs.length, rfl, .inl ⟨vs, SqL.of h1, rfl⟩, by rw [l]; exact k _ _ rfl _ _ (hR.add fun _ => .int _)⟩
  · cases he
/-- if xs: of an owned list -/
def mTruO (i : Nat) : M Bool := fun env => match env[i]? with
  | some (some (.lst xs)) => some (.ok (!xs.isEmpty) env)
  | _ => none
theorem db_truO (h : PE X e (tVar i)) (he : ∀ whole, isTrue e X.env whole = (do let v ← whole; standAt e.pos; holding [v] (truthy v)) := by intro _; rfl) : Db X pin W e (mTruO i) := (pt_truth h he).imp fun σ H Q ⟨env, ws, rr, hR, he, hx, k⟩ => by
  unfold mTruO at he
  split at he
  · rename_i xs q
    cases he
    obtain ⟨a, vs, e1, h1, l, ps, r1, put⟩ := Rl.own (q1 := []) q hR
    refine ⟨.ref a, e1, _, .inl ⟨vs, SqL.of h1, rfl⟩, ?_⟩
    have : (!vs.isEmpty) = !xs.isEmpty := by
      cases vs <;> cases xs <;> first | rfl | simp at l
    rw [this]
    exact k _ _ rfl H hR
  · cases he
/-- xs.append(e) -/
def mApp (i : Nat) (f : M OV) : M OV := fun env => match env[i]? with
  | some (some (.lst _)) => mB f (fun y env1 => match env1[i]? with
    | some (some (.lst xs)) => if sz (xs.length + 1) = true then some (.ok (.val .none) (env1.set i (some (.lst (xs ++ [y]))))) else none
    | _ => none) env
  | _ => none
theorem zip_snoc : ∀ {vs : List V} {xs : List OV} (w : V) (y : OV), vs.length = xs.length → (vs ++ [w]).zip (xs ++ [y]) = vs.zip xs ++ [(w, y)] := fun w y l => List.zip_append l
theorem de_app (ha : PE X a (tVar i)) (hb : De X pin W b f) (hbase : attributeBase a "append" X.env (eval a X.env) = eval a X.env := by rfl)
    (hfew : ((backTo cpos (starEach (b :: []) X.env)).all (fun x => !x.1) && (backToKw cpos (keywordEach [] X.env)).all (fun x => x.1.isSome)
      && decide ((b :: []).length + ([] : List Keyword).length + (if ([] : List Keyword).isEmpty then 0 else 1) < 30)) = true := by rfl)
    (hline : (apos.endLine == cpos.line) = true := by rfl) (hs : starEach (b :: []) X.env = (false, eval b X.env) :: starEach [] X.env := by rfl) (hplain : (backTo cpos (starEach [] X.env)).any (·.1) = false := by rfl) :
    De X pin W (.Call (.Attribute a "append" apos) [b] [] cpos) (mApp i f) :=
  (pe_bm PySem.F.plainAttrs_list PySem.F.slot_list_append PySem.F.type_list_append mt_append ha (pa_cons hb pa_nil hs) hbase hfew hline hs hplain).imp fun σ H Q ⟨env, ws, rr, hR, he, hx, k⟩ => by
    unfold mApp at he
    split at he
    · rename_i xs0 q0
      obtain ⟨a0, vs0, e0, h0, _⟩ := Rl.own (q1 := []) q0 hR
      refine ⟨.ref a0, e0, .inl ⟨rfl, _, SqL.of h0⟩, ?_⟩
      refine dE_bind hR he hx fun y env1 w H1 R1 he1 => ?_
      split at he1
      · rename_i xs q1
        split at he1
        · rename_i hz
          cases he1
          obtain ⟨a, vs, e1, h1, l, ps, r1, put⟩ := Rl.own (q1 := [(w, y)]) (ws := ws) q1 R1
          have ev : (V.ref a0) = .ref a := Option.some.inj (Option.some.inj (e0.symm.trans e1))
          cases ev
          refine ⟨a0, vs, w, rfl, rfl, h1, ?_, ?_⟩
          · have := sz_le hz
            omega
          · refine k _ _ rfl .non _ (Rl.add (fun _ => .non) ?_)
            refine put (vs ++ [w]) (xs ++ [y]) [] (by simp [l]) ?_
            rw [zip_snoc w y l, List.append_assoc]
            exact r1
        · cases he1
      · cases he1
    · cases he
/-- xs[j] = e -/
def sSetIx (i : Nat) (fi f : M OV) : MS := sB f fun y env0 => match env0[i]? with
  | some (some (.lst _)) => sB fi (fun z env1 => match env1[i]?, z with
    | some (some (.lst xs)), .val (.int k) => match ixN xs.length k with
      | some j => some (.nx (env1.set i (some (.lst (xs.set j y)))))
      | none => none
    | _, _ => none) env0
  | _ => none
theorem zip_set : ∀ {vs : List V} {xs : List OV} {j : Nat} (w : V) (y : OV) (ps : Bag) {K : PySem.W.Frag} {A : List Addr} {H : Hp}, vs.length = xs.length → R K A H (vs.zip xs ++ ((w, y) :: ps)) → R K A H ((vs.set j w).zip (xs.set j y) ++ ps)
  | [], [], j, w, y, ps, K, A, H, _, r => R.drop (by simpa using r)
  | [], _ :: _, _, _, _, _, _, _, _, l, _ => by simp at l
  | _ :: _, [], _, _, _, _, _, _, _, l, _ => by simp at l
  | v :: vs, x :: xs, 0, w, y, ps, K, A, H, l, r => by
    have r1 : R K A H ((v, x) :: (w, y) :: (vs.zip xs ++ ps)) := r.perm (.cons _ List.perm_middle)
    exact r1.drop
  | v :: vs, x :: xs, j + 1, w, y, ps, K, A, H, l, r => by
    have r1 : R K A H (vs.zip xs ++ ((w, y) :: (v, x) :: ps)) := by
      have r0 : R K A H ((v, x) :: (vs.zip xs ++ ((w, y) :: ps))) := r
      refine r0.perm (List.perm_middle.symm.trans ?_)
      exact List.Perm.append_left _ (.swap _ _ _)
    have r2 := zip_set (vs := vs) (xs := xs) (j := j) w y ((v, x) :: ps) (by simpa using l) r1
    exact r2.perm List.perm_middle
theorem sB_use {K : PySem.W.Frag} {mg : Str → Option Value} {ws : Bag} {σ : St} {H : Hp} {env : Env} {D : Ends} {r : Sr} {g : OV → MS} {P : VK} (hR : Rl K pin σ env ws H) (he : sB f g env = some r) (hx : ∀ e env', r = .ex e env' → ∀ cls d H', ExIs K mg e cls d H' → Rl K pin σ env' ws H' → W cls d σ H')
    (k : ∀ x env1 v H1, Rl K pin σ env1 ((v, x) :: ws) H1 → g x env1 = some r → P v H1) : dE K mg pin W f σ H P := by
  rcases sB_cases he with ⟨x, env1, e1, e2⟩ | ⟨e, env1, e1, e2⟩
  · exact ⟨env, ws, _, hR, e1, .ok, fun x' env' q v H1 R1 => by cases q; exact k _ _ v H1 R1 e2⟩
  · exact ⟨env, ws, _, hR, e1, fun e' env' q => by cases q; exact hx _ _ e2, fun x' env' q => nomatch q⟩
theorem ds_setIx (ha : PE X a (tVar i)) (hb : De X pin W b g) (he : De X pin W e f) (hass : ∀ v, assign (.Subscript a b p) X.env v = (do
      let ov ← holding [v] (eval a X.env)
      let iv ← holding [v, ov] (eval b X.env)
      standAt p
      holding [v, ov, iv] (setItem ov iv v)
      release [v, ov, iv] []) := by intro _; rfl) (hs : swapsWithSole [.Subscript a b p] e pos.line X.env = pure false := by rfl) (hw : swappedStores [.Subscript a b p] e X.env = pure none := by rfl)
    (h1 : (assignEach [.Subscript a b p] X.env).map (·.2) = [assign (.Subscript a b p) X.env] := by rfl) : Ds X pin W (.Assign [.Subscript a b p] e pos) (sSetIx i g f) :=
  (ps_asg he (pg_sub ha hb set_list hass) hs hw h1).imp fun D σ H ⟨env, ws, rr, hR, hee, hp⟩ => by
    have hx : ∀ ee env', rr = .ex ee env' → ∀ cls d H', ExIs X.K X.mg ee cls d H' → Rl X.K pin σ env' ws H' → W cls d σ H' := fun ee env' q cls d H' ie R' => hp.ex _ _ q cls d σ H' ie R'
    refine sB_use (D := D) hR hee hx fun y env0 w H1 R1 he1 => ?_
    split at he1
    · rename_i xs0 q0
      obtain ⟨v0, e0⟩ := R1.slot q0
      refine ⟨v0, e0, ?_⟩
      refine sB_use (D := D) R1 he1 (fun ee env' q cls d H' ie R' => hx ee env' q cls d H' ie R'.drop) fun z env1 w2 H2 R2 he2 => ?_
      split at he2
      · rename_i xs kk q1
        split at he2
        · rename_i j q2
          cases he2
          have dw := R2.dp
          cases dw
          obtain ⟨a1, vs, e1, h1, l, ps, r1, put⟩ := Rl.own (q1 := [(V.int kk, .val (.int kk)), (w, y)]) (ws := ws) q1 R2
          have ev : v0 = .ref a1 := Option.some.inj (Option.some.inj (e0.symm.trans e1))
          subst ev
          refine ⟨a1, vs, kk, j, rfl, rfl, h1, by rw [l]; exact q2, ?_⟩
          refine hp.nx _ rfl σ _ (put (vs.set j w) (xs.set j y) [] (by simp [l]) ?_)
          refine zip_set w y ps l ?_
          have r2 : R X.K [a1] H2 (vs.zip xs ++ ((V.int kk, .val (.int kk)) :: (w, y) :: ps)) := r1
          exact (r2.perm List.perm_middle).drop
        · cases he2
      · cases he2
    · cases he1
end
/-! ### comprehensions -/
/-- the slots of the block's names: out of the way, and back -/
def restoreE (env0 : Env) : List Nat → Env → Env
  | [], env => env
  | i :: is, env => restoreE env0 is (env.set i (((wipeE env0 is)[i]?).join))
theorem wipeE_length (env : Env) : ∀ is : List Nat, (wipeE env is).length = env.length
  | [] => rfl
  | i :: is => by unfold wipeE; rw [List.length_set, wipeE_length env is]
section
variable {K : PySem.W.Frag} {mg : Str → Option Value} {pin : Pins} {W : WX} {H : Hp} {ws : Bag}
theorem Rl.stash {σ : St} {env : Env} : ∀ (is : List Nat) {ws : Bag} {H : Hp}, (∀ i ∈ is, pinOk pin i = true) → Rl K pin σ env ws H → ∃ qs, Rl K pin (wipe σ is) (wipeE env is) (qs ++ ws) H ∧
    ∀ env' ws' H', env'.length = env.length → Rl K pin (wipe σ is) env' (qs ++ ws') H' → Rl K pin σ (restoreE env is env') ws' H'
  | [], ws, H, _, r => ⟨[], r, fun env' ws' H' _ r => r⟩
  | i :: is, ws, H, hp, r => by
    obtain ⟨qs, r1, back⟩ := Rl.stash is (fun j hj => hp j (List.mem_cons_of_mem _ hj)) r
    have np := pinOk_not (hp i List.mem_cons_self)
    have pnk : ∀ {o : Option V} {τ : St}, (∀ p ∈ pin, τ[p.1]? = some (some p.2)) → ∀ p ∈ pin, (τ.set i o)[p.1]? = some (some p.2) := fun {o τ} h p hp' => by
      rw [List.getElem?_set_ne]
      · exact h p hp'
      · rintro rfl
        exact np (List.mem_map.mpr ⟨p, hp', rfl⟩)
    have el : (wipeE env is).length = env.length := wipeE_length env is
    unfold wipe wipeE
    cases q : (wipeE env is)[i]? with
    | none =>
      have hi : (wipeE env is).length ≤ i := List.getElem?_eq_none_iff.mp q
      have hl := r1.len
      have e1 : (wipe σ is).set i none = wipe σ is := List.set_eq_of_length_le (by omega)
      have e2 : (wipeE env is).set i none = wipeE env is := List.set_eq_of_length_le hi
      rw [e1, e2]
      refine ⟨qs, r1, fun env' ws' H' le r2 => ?_⟩
      unfold restoreE
      rw [List.set_eq_of_length_le (by omega)]
      exact back env' ws' H' le r2
    | some o =>
      cases o with
      | none =>
        refine ⟨qs, r1.forget i none np |> fun z => z, fun env' ws' H' le r2 => ?_⟩
        unfold restoreE
        rw [q]
        have r3 := r2.forget i ((wipe σ is)[i]?.join) np
        have e1 : ((wipe σ is).set i none).set i ((wipe σ is)[i]?.join) = wipe σ is := by
          rw [List.set_set]
          cases q2 : (wipe σ is)[i]? with
          | none => exact List.set_eq_of_length_le (List.getElem?_eq_none_iff.mp q2)
          | some o => exact set_self q2
        rw [e1] at r3
        exact back _ ws' H' (by simp [le]) r3
      | some x =>
        obtain ⟨v, e1, r2⟩ := r1.take q
        have r3 := r2.forget i none np
        rw [List.set_set] at r3
        refine ⟨(v, x) :: qs, r3, fun env' ws' H' le r4 => ?_⟩
        unfold restoreE
        rw [q]
        have hi : i < (wipe σ is).length := (List.getElem?_eq_some_iff.mp e1).1
        have r5 := Rl.put (i := i) (by simpa using hi) np r4
        have e2 : ((wipe σ is).set i none).set i (some v) = wipe σ is := by
          rw [List.set_set]
          exact set_self e1
        rw [e2] at r5
        exact back _ ws' H' (by simp [le]) r5
theorem wipe_idem_get {σ : St} : ∀ {is : List Nat} {j : Nat}, j ∈ is → j < σ.length → (wipe σ is)[j]? = some none
  | [], _, h, _ => by cases h
  | i :: is, j, h, hl => by
    unfold wipe
    by_cases e : j = i
    · subst e
      rw [List.getElem?_set_self (by rw [wipe_length]; exact hl)]
    · rw [List.getElem?_set_ne (Ne.symm e)]
      rcases List.mem_cons.mp h with h | h
      · exact absurd h e
      · exact wipe_idem_get h hl
theorem wipe_out_get {σ : St} : ∀ {is : List Nat} {j : Nat}, j ∉ is → (wipe σ is)[j]? = σ[j]?
  | [], _, _ => rfl
  | i :: is, j, h => by
    rw [List.mem_cons, not_or] at h
    unfold wipe
    rw [List.getElem?_set_ne (Ne.symm h.1)]
    exact wipe_out_get h.2
theorem wipe_same {σ σ' : St} {is js : List Nat} (h : SameSt js (wipe σ is) σ') (hs : ∀ j ∈ js, j ∈ is) : wipe σ' is = wipe σ is := by
  have l : σ'.length = σ.length := by rw [h.1, wipe_length]
  refine List.ext_getElem? fun j => ?_
  by_cases hj : j ∈ is
  · by_cases hl : j < σ.length
    · rw [wipe_idem_get hj hl, wipe_idem_get hj (by omega)]
    · rw [List.getElem?_eq_none (by rw [wipe_length]; omega), List.getElem?_eq_none (by rw [wipe_length]; omega)]
  · rw [wipe_out_get hj, wipe_out_get hj, h.2 j (fun q => hj (hs j q)), wipe_out_get hj]
/-- the slots forgotten in place -/
theorem Rl.wipeE {σ : St} {env : Env} : ∀ (is : List Nat) {ws : Bag} {H : Hp}, (∀ i ∈ is, pinOk pin i = true) → Rl K pin σ env ws H → Rl K pin (wipe σ is) (wipeE env is) ws H
  | [], _, _, _, r => r
  | i :: is, ws, H, hp, r => (Rl.wipeE is (fun j hj => hp j (List.mem_cons_of_mem _ hj)) r).forget i none (pinOk_not (hp i List.mem_cons_self))
theorem R.push {K : PySem.W.Frag} {H : Hp} {D : V} {xs : List OV} {w : V} {y : OV} {ps : Bag} (r : R K [] H ((D, .lst xs) :: (w, y) :: ps)) : ∃ a vs, D = .ref a ∧ H a = some (.lst vs) ∧ vs.length = xs.length ∧ R K [] (upd H a (.lst (vs ++ [w]))) ((.ref a, .lst (xs ++ [y])) :: ps) := by
  obtain ⟨a, vs, rfl, h, l, r1⟩ := R.open r
  refine ⟨a, vs, rfl, h, l, R.close ?_ (by simp [l])⟩
  rw [zip_snoc w y l, List.append_assoc]
  exact r1
end
/-- the turns of a comprehension -/
def lcLoop (vs : List Nat) (g : Dt → Env → Option Env) (c : M Bool) (elt : M OV) : List Dt → List OV → Env → Option (List OV × Env)
  | [], acc, env => some (acc, env)
  | d :: ds, acc, env => (g d env).bind fun env1 => match c env1 with
    | some (.ok true env2) => match elt env2 with
      | some (.ok y env3) => if sz (acc.length + 1) = true then lcLoop vs g c elt ds (acc ++ [y]) (wipeE env3 vs) else none
      | _ => none
    | some (.ok false env2) => lcLoop vs g c elt ds acc (wipeE env2 vs)
    | _ => none
def mLc (vs : List Nat) (its : M (List Dt)) (g : Dt → Env → Option Env) (c : M Bool) (elt : M OV) : M OV := mB its fun ds env => match lcLoop vs g c elt ds [] (wipeE env vs) with
  | some (acc, env2) => if env2.length = env.length then some (.ok (.lst acc) (restoreE env vs env2)) else none
  | none => none
abbrev wF : WX := fun _ _ _ _ => False
section
variable {X : Cx} {pin : Pins} {W : WX} {a b c e tg it elt : Expr} {es ifs : List Expr} {pos p p2 apos cpos : Pos} {f g h : M OV} {fa fb : M Bool} {fs : M (List OV)}
theorem dpts_nil : PTs X [] (dT X.K X.mg pin W (mR true)) := ⟨fun pins s σ H Q I ⟨env, ws, r, hR, he, hx, k⟩ => pts_nil.run pins s σ H Q I (by cases he; exact k _ _ rfl H hR)⟩
theorem dpts_one (h : Db X pin W c fa) : PTs X [c] (dT X.K X.mg pin W fa) := pts_one h
/-- the turns of one loop of a comprehension -/
theorem turns {vs is : List Nat} {gt : Dt → Env → Option Env} {σ : St} {ds : List Dt} {J : It} {src : V × OV} {D : Addr} {rest : Bag} {acc0 acc : List OV} {env0 env2 : Env} {H0 : Hp} {Fin : Hp → Prop} (hp : ∀ i ∈ vs, pinOk pin i = true) (hs : ∀ i ∈ is, i ∈ vs) (wk : WalkD X.K src ds J)
    (R0 : Rl X.K pin (wipe σ vs) env0 ((.ref D, .lst acc0) :: src :: rest) H0) (e3 : lcLoop vs gt fa f ds acc0 env0 = some (acc, env2)) (fin : ∀ H, Rl X.K pin (wipe σ vs) env2 ((.ref D, .lst acc) :: src :: rest) H → Fin H) :
    ∃ W : Nat → Nat → Hp → Prop, (∃ m, W 0 m H0) ∧ ∀ i m H, W i m H →
      (J.stop i H ∧ Fin H) ∨ (J.go i H ∧ ∃ Nx : Hp → Prop, (∀ H', Nx H' → ∃ m', m' < m ∧ W (i + 1) m' H') ∧ ∀ x H', J.yld i H x H' → dG X.K pin is gt x (wipe σ vs) H' fun σ2 H2 => wipe σ2 vs = wipe σ vs ∧ dT X.K X.mg pin wF fa σ2 H2 fun b H3 =>
        if b = true then dE X.K X.mg pin wF f σ2 H3 fun y H4 => ∃ acc, H4 D = some (.lst acc) ∧ acc.length < sizeLine ∧ Nx (upd H4 D (.lst (acc ++ [y]))) else Nx H3) := by
  refine ⟨fun i m H' => i ≤ ds.length ∧ m = ds.length - i ∧ ∃ env' acc', Rl X.K pin (wipe σ vs) env' ((.ref D, .lst acc') :: src :: rest) H' ∧ lcLoop vs gt fa f (ds.drop i) acc' env' = some (acc, env2), ⟨ds.length, Nat.zero_le _, rfl, env0, acc0, R0, by simpa using e3⟩, ?_⟩
  rintro i m H2 ⟨hi, rfl, env3, acc3, R3, e4⟩
  obtain ⟨ps, rr⟩ := Rl.get (q1 := [(.ref D, .lst acc3), src]) R3
  have rr' : R X.K [] H2 (src :: (.ref D, .lst acc3) :: ps) := rr.perm (.swap _ _ _)
  by_cases hlt : i < ds.length
  · refine .inr ⟨wk.go i H2 _ hlt rr', fun H' => ∃ env' acc', Rl X.K pin (wipe σ vs) env' ((.ref D, .lst acc') :: src :: rest) H' ∧ lcLoop vs gt fa f (ds.drop (i + 1)) acc' env' = some (acc, env2), fun H' h => ⟨ds.length - (i + 1), by omega, hlt, rfl, h⟩, fun x H3 y => ?_⟩
    have ed : ds[i]? = some ds[i] := List.getElem?_eq_getElem hlt
    have R4 := Rl.under (q1 := [(V.ref D, OV.lst acc3), src]) (q2 := [(x, .val ds[i]), (.ref D, .lst acc3), src]) (fun ps r => by
      have r1 := wk.yld i H2 x H3 _ y ed _ (r.perm (.swap _ _ _))
      exact r1.perm (.cons _ (.swap _ _ _))) R3
    rw [List.drop_eq_getElem_cons hlt] at e4
    unfold lcLoop at e4
    cases q1 : gt ds[i] env3 with
    | none => rw [q1] at e4; cases e4
    | some env4 =>
      rw [q1] at e4
      refine ⟨env3, (.ref D, .lst acc3) :: src :: rest, ds[i], env4, R4, q1, fun σ5 H5 ss R5 => ⟨wipe_same ss hs, ?_⟩⟩
      have e5 : (match fa env4 with
        | some (.ok true env2) => match f env2 with
          | some (.ok y env3) => if sz (acc3.length + 1) = true then lcLoop vs gt fa f (ds.drop (i + 1)) (acc3 ++ [y]) (wipeE env3 vs) else none
          | _ => none
        | some (.ok false env2) => lcLoop vs gt fa f (ds.drop (i + 1)) acc3 (wipeE env2 vs)
        | _ => none) = some (acc, env2) := e4
      have ew : wipe σ5 vs = wipe σ vs := wipe_same ss hs
      cases q2 : fa env4 with
      | none => rw [q2] at e5; cases e5
      | some rb =>
        rw [q2] at e5
        cases rb with
        | ex _ _ => cases e5
        | ok b env5 =>
          refine ⟨env4, _, _, R5, q2, .ok, fun b' env' z H6 R6 => ?_⟩
          cases z
          cases b with
          | false =>
            refine iteF ⟨_, acc3, ?_, e5⟩
            have R7 := Rl.wipeE vs hp R6
            rw [ew] at R7
            exact R7
          | true =>
            refine iteT ?_
            dsimp only at e5
            cases q3 : f env5 with
            | none => rw [q3] at e5; cases e5
            | some re =>
              rw [q3] at e5
              cases re with
              | ex _ _ => cases e5
              | ok y env6 =>
                refine ⟨env5, _, _, R6, q3, .ok, fun y' env' z w H7 R7 => ?_⟩
                cases z
                dsimp only at e5
                split at e5
                · rename_i hz
                  have R8 := Rl.wipeE vs hp R7
                  rw [ew] at R8
                  obtain ⟨ps, r0, bk⟩ := Rl.fix (q1 := [(w, y), (.ref D, .lst acc3)]) R8
                  obtain ⟨a, us, ea, h1, l, r1⟩ := R.push (r0.perm (.swap _ _ _))
                  cases ea
                  refine ⟨us, h1, ?_, _, _, bk _ [(.ref D, .lst (acc3 ++ [y]))] r1, e5⟩
                  have := sz_le hz
                  omega
                · cases e5
  · have hl2 : i = ds.length := by omega
    subst hl2
    rw [List.drop_length] at e4
    cases e4
    exact .inl ⟨wk.stop _ H2 _ (Nat.le_refl _) rr', fin H2 R3⟩
theorem Rl.swapBag {K : PySem.W.Frag} {σ : St} {env : Env} {ws ws' : Bag} {H : Hp} (h : ws.Perm ws') (r : Rl K pin σ env ws H) : Rl K pin σ env ws' H := by
  obtain ⟨⟨bag, sl, rr⟩, pn⟩ := r
  exact ⟨⟨bag, sl, rr.perm (List.Perm.append_left _ h)⟩, pn⟩
/-- the reading of a comprehension -/
theorem lc_use {vs is : List Nat} {its : M (List Dt)} {gt : Dt → Env → Option Env} {σ : St} {H : Hp} {Q : VK} (hp : ∀ i ∈ vs, pinOk pin i = true) (hs : ∀ i ∈ is, i ∈ vs) (q : dE X.K X.mg pin W (mLc vs its gt fa f) σ H Q) :
    tLc (dI X.K X.mg pin W its) (dG X.K pin is gt) (dT X.K X.mg pin wF fa) (dE X.K X.mg pin wF f) vs σ H Q := by
  obtain ⟨env, ws, r, hR, he, hx, k⟩ := q
  rcases mB_cases he with ⟨ds, env1, e1, e2⟩ | ⟨ex, env1, e1, e2⟩
  · refine ⟨env, ws, _, hR, e1, .ok, fun ds' env' z src J H1 wk R1 => ?_⟩
    cases z
    intro D hD
    obtain ⟨qs, R2, back⟩ := Rl.stash vs hp R1
    split at e2
    · rename_i acc env2 e3
      split at e2
      · rename_i hl
        cases e2
        have R3 : Rl X.K pin (wipe σ vs) (wipeE env1 vs) (src :: (qs ++ ws)) H1 := R2.swapBag List.perm_middle
        obtain ⟨ps, r0, bk⟩ := Rl.fix (q1 := []) R3
        have R4 := bk _ [(.ref D, .lst [])] (R.newL (ws := []) (ys := []) r0 rfl hD)
        refine turns hp hs wk R4 e3 fun H2 R5 => k _ _ rfl _ _ (back env2 ((.ref D, .lst acc) :: ws) H2 hl ?_)
        have R6 : Rl X.K pin (wipe σ vs) env2 (src :: (.ref D, .lst acc) :: (qs ++ ws)) H2 := R5.swapBag (.swap _ _ _)
        exact R6.drop.swapBag List.perm_middle.symm
      · cases e2
    · cases e2
  · exact ⟨env, ws, _, hR, e1, hx.of e2, fun x' env' q => nomatch q⟩
theorem de_lc {own : List (Str × Nat)} {is : List Nat} {scope : Scope} {its : M (List Dt)} {gt : Dt → Env → Option Env} (hc : X.calm = true) (hN : X.N.Nodup) (hi : Di X pin W tg it its) (ok : BlkOk X.N X.env.scope scope own)
    (hg : ∀ (s : Shared) (H : Hp) (C : Addr) (cl : List (Str × Addr)) (fp : List Addr), PG (X.blk s H scope (compEnvC scope cl C X.env) fp) tg (dG X.K pin is gt)) (ht : ∀ (s : Shared) (H : Hp) (C : Addr) (cl : List (Str × Addr)) (fp : List Addr), PTs (X.blk s H scope (compEnvC scope cl C X.env) fp) ifs (dT X.K X.mg pin wF fa))
    (he : ∀ (s : Shared) (H : Hp) (C : Addr) (cl : List (Str × Addr)) (fp : List Addr), PE (X.blk s H scope (compEnvC scope cl C X.env) fp) elt (dE X.K X.mg pin wF f)) (hp : (own.map (·.2)).all (pinOk pin) = true := by rfl) (hs : ∀ i ∈ is, i ∈ own.map (·.2) := by decide) (hfs : ∀ x, foldedSetIterable it X.env x = pure x := by intro _; rfl) :
    De X pin W (.ListComp elt [⟨tg, it, ifs, 0⟩] scope pos) (mLc (own.map (·.2)) its gt fa f) :=
  (pe_lc hc hN hi ok hg ht he hfs).imp fun σ H Q q => lc_use (List.all_eq_true.mp hp) hs q
theorem ds_setLc {own : List (Str × Nat)} {is : List Nat} {i : Nat} {y : Str} {py spos : Pos} {scope : Scope} {its : M (List Dt)} {gt : Dt → Env → Option Env} (hc : X.calm = true) (hN : X.N.Nodup) (hy : X.N[i]? = some y) (hyl : X.env.scope.names.lookup y = some .local)
    (hsw : swapsWith (.ListComp elt [⟨tg, it, ifs, 0⟩] scope pos) (some (.Name y py)) spos.line X.env = pure true) (hi : Di X pin W tg it its) (ok : BlkOk X.N X.env.scope scope own)
    (hg : ∀ (s : Shared) (H : Hp) (C : Addr) (cl : List (Str × Addr)) (fp : List Addr), PG (X.blk s H scope (compEnvC scope cl C X.env) fp) tg (dG X.K pin is gt)) (ht : ∀ (s : Shared) (H : Hp) (C : Addr) (cl : List (Str × Addr)) (fp : List Addr), PTs (X.blk s H scope (compEnvC scope cl C X.env) fp) ifs (dT X.K X.mg pin wF fa))
    (he : ∀ (s : Shared) (H : Hp) (C : Addr) (cl : List (Str × Addr)) (fp : List Addr), PE (X.blk s H scope (compEnvC scope cl C X.env) fp) elt (dE X.K X.mg pin wF f)) (hpy : pinOk pin i = true := by rfl) (hp : (own.map (·.2)).all (pinOk pin) = true := by rfl) (hs : ∀ i ∈ is, i ∈ own.map (·.2) := by decide) (hfs : ∀ x, foldedSetIterable it X.env x = pure x := by intro _; rfl) :
    Ds X pin W (.Assign [.Name y py] (.ListComp elt [⟨tg, it, ifs, 0⟩] scope pos) spos) (sSet i (mLc (own.map (·.2)) its gt fa f)) :=
  (ps_setLc hc hN hy hyl hsw hi ok hg ht he hfs).imp fun D σ H ⟨env, ws, r, hR, he', hp'⟩ => by
    refine lc_use (List.all_eq_true.mp hp) hs ?_
    refine sB_E hR he' hp' fun y env1 v H1 R1 e1 => ?_
    cases q : putE env1 i y with
    | none => rw [q] at e1; cases e1
    | some env2 =>
      rw [q] at e1
      cases e1
      obtain ⟨l, rfl⟩ := putE_some q
      exact hp'.nx _ rfl _ _ (R1.put (by rw [R1.len]; exact l) (pinOk_not hpy))

/-! ### two clauses -/
def lcLoop2 (vs vs1 : List Nat) (g : Dt → Env → Option Env) (c : M Bool) (its1 : M (List Dt)) (g1 : Dt → Env → Option Env) (c1 : M Bool) (elt : M OV) : List Dt → List OV → Env → Option (List OV × Env)
  | [], acc, env => some (acc, env)
  | d :: ds, acc, env => (g d env).bind fun env1 => match c env1 with
    | some (.ok true env2) => match its1 env2 with
      | some (.ok ds1 env3) => match lcLoop vs1 g1 c1 elt ds1 acc (wipeE env3 vs1) with
        | some (acc4, env4) => lcLoop2 vs vs1 g c its1 g1 c1 elt ds acc4 (wipeE env4 vs)
        | none => none
      | _ => none
    | some (.ok false env2) => lcLoop2 vs vs1 g c its1 g1 c1 elt ds acc (wipeE env2 vs)
    | _ => none
def mLc2 (vs vs1 : List Nat) (its : M (List Dt)) (g : Dt → Env → Option Env) (c : M Bool) (its1 : M (List Dt)) (g1 : Dt → Env → Option Env) (c1 : M Bool) (elt : M OV) : M OV := mB its fun ds env => match lcLoop2 vs vs1 g c its1 g1 c1 elt ds [] (wipeE env vs) with
  | some (acc, env2) => if env2.length = env.length then some (.ok (.lst acc) (restoreE env vs env2)) else none
  | none => none
theorem wipe_wipe {σ : St} : ∀ {vs vs1 : List Nat}, (∀ i ∈ vs1, i ∈ vs) → wipe (wipe σ vs1) vs = wipe σ vs := fun {vs vs1} h => by
  refine List.ext_getElem? fun j => ?_
  by_cases hj : j ∈ vs
  · by_cases hl : j < σ.length
    · rw [wipe_idem_get hj (by rw [wipe_length]; exact hl), wipe_idem_get hj hl]
    · rw [List.getElem?_eq_none (by rw [wipe_length, wipe_length]; omega), List.getElem?_eq_none (by rw [wipe_length]; omega)]
  · rw [wipe_out_get hj, wipe_out_get hj, wipe_out_get fun q => hj (h j q)]
theorem lc2_use {vs vs1 is is1 : List Nat} {its its1 : M (List Dt)} {gt gt1 : Dt → Env → Option Env} {fa1 : M Bool} {σ : St} {H : Hp} {Q : VK} (hp : ∀ i ∈ vs, pinOk pin i = true) (hs : ∀ i ∈ is, i ∈ vs) (hs1 : ∀ i ∈ is1, i ∈ vs1) (hv : ∀ i ∈ vs1, i ∈ vs)
    (q : dE X.K X.mg pin W (mLc2 vs vs1 its gt fa its1 gt1 fa1 f) σ H Q) :
    tLc2 (dI X.K X.mg pin W its) (dG X.K pin is gt) (dT X.K X.mg pin wF fa) (dI X.K X.mg pin wF its1) (dG X.K pin is1 gt1) (dT X.K X.mg pin wF fa1) (dE X.K X.mg pin wF f) vs vs1 σ H Q := by
  obtain ⟨env, ws, r, hR, he, hx, k⟩ := q
  rcases mB_cases he with ⟨ds, env1, e1, e2⟩ | ⟨ex, env1, e1, e2⟩
  · refine ⟨env, ws, _, hR, e1, .ok, fun ds' env' z src J H1 wk R1 => ?_⟩
    cases z
    intro D hD
    obtain ⟨qs, R2, back⟩ := Rl.stash vs hp R1
    split at e2
    · rename_i acc env2 e3
      split at e2
      · rename_i hl
        cases e2
        have R3 : Rl X.K pin (wipe σ vs) (wipeE env1 vs) (src :: (qs ++ ws)) H1 := R2.swapBag List.perm_middle
        obtain ⟨ps, r0, bk⟩ := Rl.fix (q1 := []) R3
        have R4 := bk _ [(.ref D, .lst [])] (R.newL (ws := []) (ys := []) r0 rfl hD)
        refine ⟨fun i m H' => i ≤ ds.length ∧ m = ds.length - i ∧ ∃ env' acc', Rl X.K pin (wipe σ vs) env' ((.ref D, .lst acc') :: src :: (qs ++ ws)) H' ∧ lcLoop2 vs vs1 gt fa its1 gt1 fa1 f (ds.drop i) acc' env' = some (acc, env2), ⟨ds.length, Nat.zero_le _, rfl, _, [], R4, by simpa using e3⟩, ?_⟩
        rintro i m H2 ⟨hi, rfl, env3, acc3, R3, e4⟩
        obtain ⟨ps, rr⟩ := Rl.get (q1 := [(.ref D, .lst acc3), src]) R3
        have rr' : R X.K [] H2 (src :: (.ref D, .lst acc3) :: ps) := rr.perm (.swap _ _ _)
        by_cases hlt : i < ds.length
        · refine .inr ⟨wk.go i H2 _ hlt rr', fun H' => ∃ env' acc', Rl X.K pin (wipe σ vs) env' ((.ref D, .lst acc') :: src :: (qs ++ ws)) H' ∧ lcLoop2 vs vs1 gt fa its1 gt1 fa1 f (ds.drop (i + 1)) acc' env' = some (acc, env2), fun H' h => ⟨ds.length - (i + 1), by omega, hlt, rfl, h⟩, fun x H3 y => ?_⟩
          have ed : ds[i]? = some ds[i] := List.getElem?_eq_getElem hlt
          have R4 := Rl.under (q1 := [(V.ref D, OV.lst acc3), src]) (q2 := [(x, .val ds[i]), (.ref D, .lst acc3), src]) (fun ps r => by
            have r1 := wk.yld i H2 x H3 _ y ed _ (r.perm (.swap _ _ _))
            exact r1.perm (.cons _ (.swap _ _ _))) R3
          rw [List.drop_eq_getElem_cons hlt] at e4
          unfold lcLoop2 at e4
          cases q1 : gt ds[i] env3 with
          | none => rw [q1] at e4; cases e4
          | some env4 =>
            rw [q1] at e4
            refine ⟨env3, (.ref D, .lst acc3) :: src :: (qs ++ ws), ds[i], env4, R4, q1, fun σ5 H5 ss R5 => ⟨wipe_same ss hs, ?_⟩⟩
            have ew : wipe σ5 vs = wipe σ vs := wipe_same ss hs
            have e5 : (match fa env4 with
              | some (.ok true env2) => match its1 env2 with
                | some (.ok ds1 env3) => match lcLoop vs1 gt1 fa1 f ds1 acc3 (wipeE env3 vs1) with
                  | some (acc4, env4) => lcLoop2 vs vs1 gt fa its1 gt1 fa1 f (ds.drop (i + 1)) acc4 (wipeE env4 vs)
                  | none => none
                | _ => none
              | some (.ok false env2) => lcLoop2 vs vs1 gt fa its1 gt1 fa1 f (ds.drop (i + 1)) acc3 (wipeE env2 vs)
              | _ => none) = some (acc, env2) := e4
            cases q2 : fa env4 with
            | none => rw [q2] at e5; cases e5
            | some rb =>
              rw [q2] at e5
              cases rb with
              | ex _ _ => cases e5
              | ok b env5 =>
                refine ⟨env4, _, _, R5, q2, .ok, fun b' env' z H6 R6 => ?_⟩
                cases z
                cases b with
                | false =>
                  refine iteF ⟨_, acc3, ?_, e5⟩
                  have R7 := Rl.wipeE vs hp R6
                  rw [ew] at R7
                  exact R7
                | true =>
                  refine iteT ?_
                  dsimp only at e5
                  cases q3 : its1 env5 with
                  | none => rw [q3] at e5; cases e5
                  | some re =>
                    rw [q3] at e5
                    cases re with
                    | ex _ _ => cases e5
                    | ok ds1 env6 =>
                      refine ⟨env5, _, _, R6, q3, .ok, fun ds' env' z src1 J1 H7 wk1 R7 => ?_⟩
                      cases z
                      dsimp only at e5
                      split at e5
                      · rename_i acc4 env7 e6
                        have hp1 : ∀ i ∈ vs1, pinOk pin i = true := fun i hi => hp i (hv i hi)
                        have R8 := Rl.wipeE vs1 hp1 R7
                        have R9 : Rl X.K pin (wipe σ5 vs1) (wipeE env6 vs1) ((.ref D, .lst acc3) :: src1 :: (src :: (qs ++ ws))) H7 := R8.swapBag (.swap _ _ _)
                        refine turns hp1 hs1 wk1 R9 e6 fun H8 RA => ⟨_, acc4, ?_, e5⟩
                        have RB : Rl X.K pin (wipe σ5 vs1) env7 (src1 :: (.ref D, .lst acc4) :: (src :: (qs ++ ws))) H8 := RA.swapBag (.swap _ _ _)
                        have RC := Rl.wipeE vs hp RB.drop
                        rw [wipe_wipe hv, ew] at RC
                        exact RC
                      · cases e5
        · have hl2 : i = ds.length := by omega
          subst hl2
          rw [List.drop_length] at e4
          cases e4
          refine .inl ⟨wk.stop _ H2 _ (Nat.le_refl _) rr', k _ _ rfl _ _ (back env2 ((.ref D, .lst acc) :: ws) H2 hl ?_)⟩
          have R6 : Rl X.K pin (wipe σ vs) env2 (src :: (.ref D, .lst acc) :: (qs ++ ws)) H2 := R3.swapBag (.swap _ _ _)
          exact R6.drop.swapBag List.perm_middle.symm
      · cases e2
    · cases e2
  · exact ⟨env, ws, _, hR, e1, hx.of e2, fun x' env' q => nomatch q⟩
theorem de_lc2 {own : List (Str × Nat)} {is is1 vs1 : List Nat} {scope : Scope} {tg1 it1 : Expr} {ifs1 : List Expr} {fa1 : M Bool} {its its1 : M (List Dt)} {gt gt1 : Dt → Env → Option Env} (hc : X.calm = true) (hN : X.N.Nodup) (hi : Di X pin W tg it its) (ok : BlkOk X.N X.env.scope scope own) (hv : ∀ i ∈ vs1, i ∈ own.map (·.2))
    (hg : ∀ (s : Shared) (H : Hp) (C : Addr) (cl : List (Str × Addr)) (fp : List Addr), PG (X.blk s H scope (compEnvC scope cl C X.env) fp) tg (dG X.K pin is gt)) (ht : ∀ (s : Shared) (H : Hp) (C : Addr) (cl : List (Str × Addr)) (fp : List Addr), PTs (X.blk s H scope (compEnvC scope cl C X.env) fp) ifs (dT X.K X.mg pin wF fa))
    (hi1 : ∀ (s : Shared) (H : Hp) (C : Addr) (cl : List (Str × Addr)) (fp : List Addr), PI (X.blk s H scope (compEnvC scope cl C X.env) fp) tg1 it1 (dI X.K X.mg pin wF its1))
    (hg1 : ∀ (s : Shared) (H : Hp) (C : Addr) (cl : List (Str × Addr)) (fp : List Addr), PG (X.blk s H scope (compEnvC scope cl C X.env) fp) tg1 (dG X.K pin is1 gt1)) (ht1 : ∀ (s : Shared) (H : Hp) (C : Addr) (cl : List (Str × Addr)) (fp : List Addr), PTs (X.blk s H scope (compEnvC scope cl C X.env) fp) ifs1 (dT X.K X.mg pin wF fa1))
    (he : ∀ (s : Shared) (H : Hp) (C : Addr) (cl : List (Str × Addr)) (fp : List Addr), PE (X.blk s H scope (compEnvC scope cl C X.env) fp) elt (dE X.K X.mg pin wF f)) (hp : (own.map (·.2)).all (pinOk pin) = true := by rfl) (hs : ∀ i ∈ is, i ∈ own.map (·.2) := by decide) (hs1 : ∀ i ∈ is1, i ∈ vs1 := by decide) (hfs : ∀ x, foldedSetIterable it X.env x = pure x := by intro _; rfl) (hfs1 : ∀ env x, foldedSetIterable it1 env x = pure x := by intro _ _; rfl) :
    De X pin W (.ListComp elt [⟨tg, it, ifs, 0⟩, ⟨tg1, it1, ifs1, 0⟩] scope pos) (mLc2 (own.map (·.2)) vs1 its gt fa its1 gt1 fa1 f) :=
  (pe_lc2 hc hN hi ok hv hg ht hi1 hg1 ht1 he hfs hfs1).imp fun σ H Q q => lc2_use (List.all_eq_true.mp hp) hs hs1 hv q
end
end DL

namespace DL
open PySem PySem.Spec L2

/-! ### a look that leaves the slots as they are -/
mutual
def noLD : Dt → Bool
  | .none => true
  | .bool _ => true
  | .int _ => true
  | .str _ => true
  | .tuple ds => noLDs ds
  | .list _ => false
  | .dict _ => false
def noLDs : List Dt → Bool
  | [] => true
  | d :: ds => noLD d && noLDs ds
end
mutual
def flatO : OV → Bool
  | .val d => noLD d
  | .lst xs => flatOs xs
  | .nod _ _ => false
  | .fno _ _ => false
  | .raw _ => false
  | .sub _ _ _ => false
def flatOs : List OV → Bool
  | [] => true
  | x :: xs => flatO x && flatOs xs
end
/-- a thing that may change -/
def isMut : HO → Bool
  | .lst _ => true
  | .dK _ => true
  | .dT _ => true
  | .ins _ _ _ => true
  | .own _ => true
  | _ => false
mutual
/-- locked -/
def OV.fz : OV → Option OV
  | .val d => some (.val d)
  | .lst xs => (OV.frzL xs).map fun ds => .val (.list ds)
  | .nod k xs => (OV.fzL xs).map (.fno k)
  | .fno k xs => some (.fno k xs)
  | .raw _ => none
  | .sub _ _ _ => none
def OV.fzL : List OV → Option (List OV)
  | [] => some []
  | x :: xs => match OV.fz x, OV.fzL xs with
    | some y, some ys => some (y :: ys)
    | _, _ => none
end
theorem fz_frz {x : OV} {d : Dt} (h : x.frz = some d) : x.fz = some (.val d) := by
  cases x with
  | val e =>
    rw [frz_val] at h
    cases h
    rw [OV.fz]
  | lst xs =>
    rw [OV.frz] at h
    rw [OV.fz]
    cases q : OV.frzL xs with
    | none => rw [q] at h; cases h
    | some ds => rw [q] at h; cases h; rfl
  | _ => rw [OV.frz] at h; cases h
section
variable {K : PySem.W.Frag} {H F F' : Hp}
mutual
theorem Dp.noL (k : ∀ b o, F b = some o → F' b = some o ∨ isMut o = true) : ∀ {d : Dt} {v : V}, noLD d = true → Dp K F v d → Dp K F' v d
  | _, _, _, .non => .non
  | _, _, _, .bl _ => .bl _
  | _, _, _, .int _ => .int _
  | _, _, _, .str _ => .str _
  | _, _, h, .lst _ _ => by simp [noLD] at h
  | _, _, h, .tup hs t => by
    rw [noLD] at h
    refine .tup ?_ (DpAll.noL k h t)
    rcases hs with (hs | ⟨o, hs⟩) | hs
    · rcases k _ _ hs with e | e
      · exact .inl (.inl e)
      · cases e
    · rcases k _ _ hs with e | e
      · exact .inl (.inr ⟨o, e⟩)
      · cases e
    · exact .inr hs
theorem DpAll.noL (k : ∀ b o, F b = some o → F' b = some o ∨ isMut o = true) : ∀ {ds : List Dt} {vs : List V}, noLDs ds = true → DpAll K F vs ds → DpAll K F' vs ds
  | _, _, _, .nil => .nil
  | _, _, h, .cons a t => by
    rw [noLDs, Bool.and_eq_true] at h
    exact .cons (Dp.noL k h.1 a) (DpAll.noL k h.2 t)
end
mutual
theorem Own.noL (k : ∀ b o, F b = some o → F' b = some o ∨ isMut o = true) : ∀ {x : OV} {v : V} {fp : List Addr}, flatO x = true → Own K H F v x fp → Own K H F' v x fp
  | _, _, _, h, .val d => by
    rw [flatO] at h
    exact .val (Dp.noL k h d)
  | _, _, _, h, .lst e t => by
    rw [flatO] at h
    exact .lst e (OwnL.noL k h t)
  | _, _, _, h, .nod _ _ => by simp [flatO] at h
  | _, _, _, h, .fno _ _ => by simp [flatO] at h
  | _, _, _, h, .raw => by simp [flatO] at h
  | _, _, _, h, .sub _ _ => by simp [flatO] at h
theorem OwnL.noL (k : ∀ b o, F b = some o → F' b = some o ∨ isMut o = true) : ∀ {xs : List OV} {vs : List V} {fp : List Addr}, flatOs xs = true → OwnL K H F vs xs fp → OwnL K H F' vs xs fp
  | _, _, _, _, .nil => .nil
  | _, _, _, h, .cons a t => by
    rw [flatOs, Bool.and_eq_true] at h
    exact .cons (Own.noL k h.1 a) (OwnL.noL k h.2 t)
end
theorem NKat.mut {k : NK} {a : Addr} {ex : List Addr} {vs : List V} (h : NKat K H k a ex vs) : ∀ b ∈ a :: ex, ∃ o, H b = some o ∧ isMut o = true := fun b hb => by
  cases k with
  | dK ks =>
    obtain ⟨e1, e2, e3⟩ := h
    subst e1
    rw [List.mem_singleton.mp hb]; exact ⟨_, e3, rfl⟩
  | dT ks =>
    obtain ⟨e1, e2, e3⟩ := h
    subst e1
    rw [List.mem_singleton.mp hb]; exact ⟨_, e3, rfl⟩
  | ins C ns =>
    obtain ⟨Ca, dx, e1, e2, e3, e4, e5, e6, e7⟩ := h
    subst e1
    rcases List.mem_cons.mp hb with rfl | hb
    · exact ⟨_, e6, rfl⟩
    · rw [List.mem_singleton.mp hb]; exact ⟨_, e7, rfl⟩
mutual
theorem Own.muts0 : ∀ {x : OV} {v : V} {fp : List Addr} {d : Dt}, x.frz = some d → Own K H F v x fp → ∀ a ∈ fp, ∃ o, H a = some o ∧ isMut o = true
  | _, _, _, _, _, .val _, a, ha => by cases ha
  | .lst xs, _, _, d, e, .lst h t, a, ha => by
    rw [OV.frz] at e
    cases q : OV.frzL xs with
    | none => rw [q] at e; cases e
    | some ds =>
      rcases List.mem_cons.mp ha with rfl | ha
      · exact ⟨_, h, rfl⟩
      · exact OwnL.muts0 q t a ha
  | _, _, _, _, e, .nod _ _, _, _ => by simp [OV.frz] at e
  | _, _, _, _, e, .fno _ _, _, _ => by simp [OV.frz] at e
  | _, _, _, _, e, .raw, _, ha => by cases ha
  | _, _, _, _, e, .sub _ _, _, _ => by simp [OV.frz] at e
theorem OwnL.muts0 : ∀ {xs : List OV} {vs : List V} {fp : List Addr} {ds : List Dt}, OV.frzL xs = some ds → OwnL K H F vs xs fp → ∀ a ∈ fp, ∃ o, H a = some o ∧ isMut o = true
  | _, _, _, _, _, .nil, a, ha => by cases ha
  | x :: xs, _, _, _, e, .cons h t, a, ha => by
    rw [OV.frzL] at e
    cases q1 : x.frz with
    | none => rw [q1] at e; cases e
    | some d =>
      cases q2 : OV.frzL xs with
      | none => rw [q1, q2] at e; cases e
      | some ds =>
        rcases List.mem_append.mp ha with ha | ha
        · exact Own.muts0 q1 h a ha
        · exact OwnL.muts0 q2 t a ha
end
mutual
theorem Own.fz (hF : Same F F') : ∀ {x : OV} {v : V} {fp : List Addr} {y : OV}, Own K H F v x fp → x.fz = some y → (∀ a ∈ fp, F' a = H a) → Own K H F' v y [] ∧ ∀ a ∈ fp, ∃ o, H a = some o ∧ isMut o = true
  | .val d, _, _, y, .val h, q, _ => by
    rw [OV.fz] at q
    cases q
    exact ⟨.val (Dp.same hF h), fun a ha => by cases ha⟩
  | .lst xs, _, _, y, .lst h t, q, k => by
    rw [OV.fz] at q
    cases q1 : OV.frzL xs with
    | none => rw [q1] at q; cases q
    | some ds =>
      rw [q1] at q
      cases q
      have e : (OV.lst xs).frz = some (.list ds) := by rw [OV.frz, q1]; rfl
      exact ⟨.val (Own.frz hF (.lst h t) e k), Own.muts0 e (.lst h t)⟩
  | .nod kk xs, _, _, y, .nod (ex := ex) h t, q, k => by
    rw [OV.fz] at q
    cases q1 : OV.fzL xs with
    | none => rw [q1] at q; cases q
    | some ys =>
      rw [q1] at q
      cases q
      obtain ⟨a1, a2⟩ := OwnL.fz hF t q1 fun a ha => k a (List.mem_cons_of_mem _ (List.mem_append_right _ ha))
      refine ⟨.fno (h.congr fun b hb => k b (by
        rcases List.mem_cons.mp hb with rfl | hb
        · exact List.mem_cons_self
        · exact List.mem_cons_of_mem _ (List.mem_append_left _ hb))) a1, fun a ha => ?_⟩
      rcases List.mem_cons.mp ha with rfl | ha
      · exact h.mut _ List.mem_cons_self
      · rcases List.mem_append.mp ha with ha | ha
        · exact h.mut a (List.mem_cons_of_mem _ ha)
        · exact a2 a ha
  | .fno kk xs, _, _, y, .fno h t, q, _ => by
    rw [OV.fz] at q
    cases q
    exact ⟨.fno (h.same hF) (OwnL.mono hF t fun a ha => by cases ha), fun a ha => by cases ha⟩
  | .raw _, _, _, _, _, q, _ => by
    rw [OV.fz] at q
    cases q
  | .sub _ _ _, _, _, _, _, q, _ => by
    rw [OV.fz] at q
    cases q
theorem OwnL.fz (hF : Same F F') : ∀ {xs : List OV} {vs : List V} {fp : List Addr} {ys : List OV}, OwnL K H F vs xs fp → OV.fzL xs = some ys → (∀ a ∈ fp, F' a = H a) → OwnL K H F' vs ys [] ∧ ∀ a ∈ fp, ∃ o, H a = some o ∧ isMut o = true
  | [], _, _, _, .nil, q, _ => by
    rw [OV.fzL] at q
    cases q
    exact ⟨.nil, fun a ha => by cases ha⟩
  | x :: xs, _, _, _, .cons h t, q, k => by
    rw [OV.fzL] at q
    cases q1 : x.fz with
    | none => rw [q1] at q; cases q
    | some d =>
      cases q2 : OV.fzL xs with
      | none => rw [q1, q2] at q; cases q
      | some ds =>
        rw [q1, q2] at q
        cases q
        obtain ⟨a1, a2⟩ := Own.fz hF h q1 fun a ha => k a (List.mem_append_left _ ha)
        obtain ⟨b1, b2⟩ := OwnL.fz hF t q2 fun a ha => k a (List.mem_append_right _ ha)
        refine ⟨.cons (fp := []) a1 b1, fun a ha => ?_⟩
        rcases List.mem_append.mp ha with ha | ha
        · exact a2 a ha
        · exact b2 a ha
end
end
def frzS : Option OV → Option OV
  | some x => x.fz
  | none => none
def canF (p : V × OV) : Bool := p.2.fz.isSome
def bagF (ps : Bag) : Bag := ps.filterMap fun p => p.2.fz.map fun d => (p.1, d)
theorem slots_frz {σ : St} {env : Env} {ps : Bag} (h : Slots σ env ps) : Slots σ (env.map frzS) (bagF ps) := by
  induction h with
  | nil => exact .nil
  | no _ ih => exact .no ih
  | @yes v x σ env ps _ ih =>
    unfold bagF
    cases q : x.fz with
    | none =>
      rw [List.filterMap_cons_none (by simp [q]), List.map_cons]
      have e : frzS (some x) = none := by simp [frzS, q]
      rw [e]
      exact .no ih
    | some d =>
      rw [List.filterMap_cons_some (b := (v, d)) (by simp [q]), List.map_cons]
      have e : frzS (some x) = some d := by simp [frzS, q]
      rw [e]
      exact .yes ih
theorem own_bagF {K : PySem.W.Frag} {H F F' : Hp} (hF : Same F F') : ∀ {ps : Bag} {Z : List Addr}, (∀ p ∈ ps, canF p = true) → OwnL K H F (ps.map (·.1)) (ps.map (·.2)) Z → (∀ a ∈ Z, F' a = H a) → OwnL K H F' ((bagF ps).map (·.1)) ((bagF ps).map (·.2)) [] ∧ ∀ a ∈ Z, ∃ o, H a = some o ∧ isMut o = true
  | [], _, _, h, _ => by
    cases h
    exact ⟨.nil, fun a ha => by cases ha⟩
  | p :: ps, _, hc, h, k => by
    cases h with
    | cons h t =>
      obtain ⟨a1, a2⟩ := own_bagF hF (fun q hq => hc q (List.mem_cons_of_mem _ hq)) t fun a ha => k a (List.mem_append_right _ ha)
      obtain ⟨d, hd⟩ := Option.isSome_iff_exists.mp (hc p List.mem_cons_self)
      refine ⟨?_, fun a ha => ?_⟩
      · unfold bagF
        rw [List.filterMap_cons_some (b := (p.1, d)) (by simp [hd])]
        exact .cons (fp := []) (Own.fz hF h hd fun a ha => k a (List.mem_append_left _ ha)).1 a1
      · rcases List.mem_append.mp ha with ha | ha
        · exact (Own.fz hF h hd fun a ha => k a (List.mem_append_left _ ha)).2 a ha
        · exact a2 a ha
theorem bagF_filter (ps : Bag) : bagF (ps.filter canF) = bagF ps := by
  unfold bagF
  induction ps with
  | nil => rfl
  | cons p ps ih =>
    cases q : p.2.fz with
    | none =>
      have e : canF p = false := by simp [canF, q]
      rw [List.filter_cons_of_neg (by simp [e]), List.filterMap_cons_none (by simp [q]), ih]
    | some d =>
      have e : canF p = true := by simp [canF, q]
      rw [List.filter_cons_of_pos e, List.filterMap_cons_some (b := (p.1, d)) (by simp [q]), List.filterMap_cons_some (b := (p.1, d)) (by simp [q]), ih]
section
variable {K : PySem.W.Frag} {pin : Pins} {σ : St} {env : Env} {ws : Bag} {H : Hp}
/-- what is owned -/
def OwnA (H : Hp) (σ : St) (env : Env) (H' : Hp) : Prop := ∀ (i : Nat) (k : NK) (xs : List OV) (a : Addr), env[i]? = some (some (OV.nod k xs)) → σ[i]? = some (some (V.ref a)) → H' a = H a
theorem Slots.mem {σ : St} {env : Env} {ps : Bag} (h : Slots σ env ps) : ∀ {i : Nat} {v : V} {x : OV}, env[i]? = some (some x) → σ[i]? = some (some v) → (v, x) ∈ ps := by
  induction h with
  | nil => intro i v x e; simp at e
  | no _ ih =>
    intro i v x e1 e2
    cases i with
    | zero => simp at e1
    | succ i => exact ih (by simpa using e1) (by simpa using e2)
  | yes _ ih =>
    intro i v x e1 e2
    cases i with
    | zero =>
      simp at e1 e2
      subst e1 e2
      exact List.mem_cons_self
    | succ i => exact List.mem_cons_of_mem _ (ih (by simpa using e1) (by simpa using e2))
theorem OwnL.memNod {F : Hp} {v : V} {k : NK} {xs : List OV} : ∀ {ps : Bag} {Z : List Addr}, (v, OV.nod k xs) ∈ ps → OwnL K H F (ps.map (·.1)) (ps.map (·.2)) Z → ∃ a, v = .ref a ∧ a ∈ Z
  | [], _, h, _ => by cases h
  | p :: ps, _, h, o => by
    cases o with
    | cons h1 t =>
      rcases List.mem_cons.mp h with e | h
      · subst e
        cases h1 with
        | nod hk hl => exact ⟨_, rfl, List.mem_append_left _ List.mem_cons_self⟩
      · obtain ⟨a, e, ha⟩ := OwnL.memNod h t
        exact ⟨a, e, List.mem_append_right _ ha⟩
theorem Rl.thaw2 (r : Rl K pin σ env ws H) : ∃ sub : OV, Rl K pin σ (env.map frzS) [(.non, sub)] H ∧
    (∀ env' H', Rl K pin σ env' [(.non, sub)] H' → Rl K pin σ env ws H' ∧ OwnA H σ env H') ∧
    ∀ env' H' v x, flatO x = true → Rl K pin σ env' [(v, x), (.non, sub)] H' → Rl K pin σ env ((v, x) :: ws) H' ∧ OwnA H σ env H' := by
  obtain ⟨⟨ps, sl, rr⟩, pn⟩ := r
  have pm : (ps ++ ws).Perm (ps.filter canF ++ (ps.filter (fun p => !canF p) ++ ws)) := by
    rw [← List.append_assoc]
    exact List.Perm.append_right _ (List.filter_append_perm canF ps).symm
  obtain ⟨Z, nd, o⟩ := rr.perm pm
  have o0 := o
  rw [List.map_append (f := fun p : V × OV => p.1) (l₁ := ps.filter canF), List.map_append (f := fun p : V × OV => p.2) (l₁ := ps.filter canF)] at o0
  obtain ⟨Z1, Z2, rfl, o1, o2⟩ := OwnL.split (by rw [List.length_map, List.length_map]) o0
  rw [List.nil_append] at nd o1 o2
  obtain ⟨n1, n2, n3⟩ := List.nodup_append.mp nd
  have hs : Same (hid H (Z1 ++ Z2)) (hid H Z2) := hid_sub fun a ha => List.mem_append_right _ ha
  obtain ⟨b1, b2⟩ := own_bagF (F' := hid H Z2) hs (fun p hp => (List.mem_filter.mp hp).2) o1 fun a ha => hid_out fun z => n3 a ha a z rfl
  rw [bagF_filter] at b1
  have ow : ∀ H' : Hp, (∀ a ∈ Z1 ++ Z2, H' a = H a) → OwnA H σ env H' := fun H' hh i k xs a e1 e2 => by
    obtain ⟨b, eb, hb⟩ := OwnL.memNod (pm.mem_iff.mp (List.mem_append_left _ (sl.mem e1 e2))) o
    cases eb
    exact hh a hb
  have th : ∀ a ∈ Z2, ∃ ob, H a = some ob := fun a ha => OwnL.there o2 a ha
  -- what stays
  have back0 : ∀ (H' : Hp) (gp Zr : List Addr), (gp ++ (Z2 ++ Zr)).Nodup → (∀ a ∈ Z2, H' a = H a) → Same (hid H Z2) (hid H' (gp ++ (Z2 ++ Zr))) →
      (gp ++ (Z1 ++ Z2)).Nodup ∧ OwnL K H' (hid H' (gp ++ (Z1 ++ Z2))) ((ps.filter canF ++ (ps.filter (fun p => !canF p) ++ ws)).map (·.1)) ((ps.filter canF ++ (ps.filter (fun p => !canF p) ++ ws)).map (·.2)) (Z1 ++ Z2) ∧
      (∀ b ob, hid H' (gp ++ (Z2 ++ Zr)) b = some ob → hid H' (gp ++ (Z1 ++ Z2)) b = some ob ∨ isMut ob = true) ∧ ∀ a ∈ Z1 ++ Z2, H' a = H a := by
    intro H' gp Zr nd' k2 sm
    obtain ⟨m1, m2, m3⟩ := List.nodup_append.mp nd'
    have z1 : ∀ a ∈ Z1, a ∉ gp ++ (Z2 ++ Zr) ∧ H' a = H a := fun a ha => by
      obtain ⟨om, e, _⟩ := b2 a ha
      have q := sm a om (by rw [hid_out fun z => n3 a ha a z rfl]; exact e)
      have nm : a ∉ gp ++ (Z2 ++ Zr) := fun z => by rw [hid_in z] at q; cases q
      refine ⟨nm, ?_⟩
      rw [hid_out nm] at q
      rw [q, e]
    refine ⟨List.nodup_append.mpr ⟨m1, nd, fun a ha b hb e => ?_⟩, ?_, fun b ob e => ?_, fun a ha => ?_⟩
    rotate_left 3
    · rcases List.mem_append.mp ha with ha | ha
      · exact (z1 a ha).2
      · exact k2 a ha
    · subst e
      rcases List.mem_append.mp hb with hb | hb
      · exact (z1 a hb).1 (List.mem_append_left _ ha)
      · exact m3 a ha a (List.mem_append_left _ hb) rfl
    · refine OwnL.mono (fun b ob e => ?_) o fun a ha => ?_
      · rw [List.nil_append] at e
        have nb : b ∉ Z1 ++ Z2 := fun z => by rw [hid_in z] at e; cases e
        rw [hid_out nb] at e
        have q := sm b ob (by rw [hid_out fun z => nb (List.mem_append_right _ z)]; exact e)
        have nm : b ∉ gp ++ (Z2 ++ Zr) := fun z => by rw [hid_in z] at q; cases q
        rw [hid_out nm] at q
        rw [hid_out]
        · exact q
        · intro z
          rcases List.mem_append.mp z with z | z
          · exact nm (List.mem_append_left _ z)
          · exact nb z
      · rcases List.mem_append.mp ha with ha | ha
        · exact (z1 a ha).2
        · exact k2 a ha
    · have nm : b ∉ gp ++ (Z2 ++ Zr) := fun z => by rw [hid_in z] at e; cases e
      rw [hid_out nm] at e
      by_cases hb : b ∈ Z1
      · obtain ⟨om, e2, hm⟩ := b2 b hb
        rw [(z1 b hb).2, e2] at e
        rw [← Option.some.inj e]
        exact .inr hm
      · left
        rw [hid_out]
        · exact e
        · intro z
          rcases List.mem_append.mp z with z | z
          · exact nm (List.mem_append_left _ z)
          · rcases List.mem_append.mp z with z | z
            · exact hb z
            · exact nm (List.mem_append_right _ (List.mem_append_left _ z))
  refine ⟨.sub Z2 H (hid H Z2), ⟨⟨bagF ps, slots_frz sl, Z2, by rw [List.nil_append]; exact n2, ?_⟩, pn⟩, fun env' H' R' => ?_, fun env' H' v x hx R' => ?_⟩
  · rw [List.map_append, List.map_append, List.nil_append]
    have q : OwnL K H (hid H Z2) [V.non] [OV.sub Z2 H (hid H Z2)] (Z2 ++ []) := .cons (.sub (fun a ha => ⟨rfl, th a ha⟩) fun _ _ e => e) .nil
    rw [List.append_nil] at q
    exact OwnL.append b1 q
  · obtain ⟨⟨ps', sl', r'⟩, pn'⟩ := R'
    obtain ⟨Z', nd', o'⟩ := r'.perm (List.perm_append_comm (l₁ := ps') (l₂ := [(V.non, OV.sub Z2 H (hid H Z2))]))
    cases o' with
    | @cons _ _ _ _ fp gp h t =>
      cases h with
      | sub h sm =>
        rw [List.nil_append] at nd' sm
        obtain ⟨e1, e2, _, e4⟩ := back0 H' [] gp nd' (fun a ha => (h a ha).1) sm
        exact ⟨⟨⟨ps, sl, R.perm pm.symm ⟨Z1 ++ Z2, e1, e2⟩⟩, pn⟩, ow H' e4⟩
  · obtain ⟨⟨ps', sl', r'⟩, pn'⟩ := R'
    obtain ⟨Z', nd', o'⟩ := r'.perm (List.perm_append_comm (l₁ := ps') (l₂ := [(v, x), (V.non, OV.sub Z2 H (hid H Z2))]))
    cases o' with
    | @cons _ _ _ _ gp rest hx0 t =>
      cases t with
      | @cons _ _ _ _ fp Zr h t =>
        cases h with
        | sub h sm =>
          rw [List.nil_append] at nd' sm hx0
          obtain ⟨e1, e2, e3, e4⟩ := back0 H' gp Zr nd' (fun a ha => (h a ha).1) sm
          have r2 : R K [] H' ((v, x) :: (ps.filter canF ++ (ps.filter (fun p => !canF p) ++ ws))) := ⟨gp ++ (Z1 ++ Z2), by rw [List.nil_append]; exact e1, .cons (Own.noL e3 hx hx0) (by rw [List.nil_append]; exact e2)⟩
          exact ⟨⟨⟨ps, sl, (r2.perm (pm.symm.cons _)).perm List.perm_middle.symm⟩, pn⟩, ow H' e4⟩
theorem Rl.thaw (r : Rl K pin σ env ws H) : ∃ sub : OV, Rl K pin σ (env.map frzS) [(.non, sub)] H ∧
    (∀ env' H', Rl K pin σ env' [(.non, sub)] H' → Rl K pin σ env ws H') ∧
    ∀ env' H' v x, flatO x = true → Rl K pin σ env' [(v, x), (.non, sub)] H' → Rl K pin σ env ((v, x) :: ws) H' := by
  obtain ⟨sub, a, b, c⟩ := r.thaw2
  exact ⟨sub, a, fun env' H' R' => (b env' H' R').1, fun env' H' v x f R' => (c env' H' v x f R').1⟩
end
def mThaw (f : M OV) : M OV := fun env => match f (env.map frzS) with
  | some (.ok x _) => if flatO x = true then some (.ok x env) else none
  | some (.ex e _) => some (.ex e env)
  | none => none
def mThawB (f : M Bool) : M Bool := fun env => match f (env.map frzS) with
  | some (.ok x _) => some (.ok x env)
  | some (.ex e _) => some (.ex e env)
  | none => none
section
variable {X : Cx} {pin : Pins} {W : WX} {e : Expr} {f : M OV} {fb : M Bool}
theorem de_thaw (h : De X pin W e f) : De X pin W e (mThaw f) := h.imp fun σ H Q ⟨env, ws, r, hR, he, hx, k⟩ => by
  obtain ⟨sub, R1, b1, b2⟩ := hR.thaw
  unfold mThaw at he
  split at he
  · rename_i x env' q
    split at he
    · rename_i hf
      cases he
      refine ⟨_, _, _, R1, q, .ok, fun x' env2 z v H' R' => ?_⟩
      cases z
      exact k _ _ rfl v H' (b2 env' H' v x hf R')
    · cases he
  · rename_i ee env' q
    cases he
    refine ⟨_, _, _, R1, q, fun e2 env2 z cls d H' ie R' => ?_, fun x' env2 z => nomatch z⟩
    cases z
    exact hx _ _ rfl cls d H' ie (b1 env' H' R')
  · cases he
theorem db_thaw (h : Db X pin W e fb) : Db X pin W e (mThawB fb) := h.imp fun σ H Q ⟨env, ws, r, hR, he, hx, k⟩ => by
  obtain ⟨sub, R1, b1, b2⟩ := hR.thaw
  unfold mThawB at he
  split at he
  · rename_i x env' q
    cases he
    refine ⟨_, _, _, R1, q, .ok, fun x' env2 z H' R' => ?_⟩
    cases z
    exact k _ _ rfl H' (b1 env' H' R')
  · rename_i ee env' q
    cases he
    refine ⟨_, _, _, R1, q, fun e2 env2 z cls d H' ie R' => ?_, fun x' env2 z => nomatch z⟩
    cases z
    exact hx _ _ rfl cls d H' ie (b1 env' H' R')
  · cases he
end
end DL

/-! sets of tuples of whole numbers, texts and such tuples -/
namespace NS
open PySem PySem.Spec PyProof.Rows L2

section
variable {P : Program} {w : World} {A : Around} {E : Value → Shared → Prop} {s : Shared}
mutual
theorem notClass_key : ∀ (k : NestedKey) (v : Value) (n : Nat) (s : Shared), NestedIs s.heap k v → k.depth ≤ n → ∀ (A : Around) (E : Value → Shared → Prop) (Q : Bool → Shared → Prop), Q false s → wpAny (model P w) A (ofAClassStatement n v) Q E s
  | .none, _, n, s, x, _, A, E, Q, h => by cases x; cases n <;> exact wpAny_pure h
  | .num i, _, n, s, x, _, A, E, Q, h => by cases x <;> cases n <;> exact wpAny_pure h
  | .text y, _, n, s, x, _, A, E, Q, h => by cases x; cases n <;> exact wpAny_pure h
  | .tup ks, _, n, s, x, hn, A, E, Q, h => by
    cases x with
    | @tup b o vs m _ hg hc hd hk =>
      simp only [NestedKey.depth] at hn
      cases n with
      | zero => omega
      | succ n =>
        have hT : s.TypeIs (.ref b) "tuple" := ⟨o, hg, hc⟩
        unfold ofAClassStatement
        refine wpAny_bind (wpAny_typeOf hT ?_)
        dsimp only
        have e : (("tuple" : String) == "tuple") = true := by decide
        simp only [e, if_true, Bool.not_true, Bool.false_eq_true, if_false]
        try refine wpAny_bind (wpAny_pure ?_)
        try simp only [Bool.not_true, Bool.false_eq_true, if_false]
        show wpAny _ _ (seqItems? (.ref b) >>= _) _ _ s
        refine wpAny_bind (wpAny_seqItems hg hd ?_)
        dsimp only
        refine wpAny_bind ?_
        show wpAny _ _ (forIn vs _ _) _ _ s
        rw [← Array.forIn_toList]
        refine wpAny_forIn_list _ (fun rest r s' => r.1 = none ∧ s' = s ∧ ∀ v ∈ rest, ∀ (A : Around) (E : Value → Shared → Prop) (Q : Bool → Shared → Prop), Q false s → wpAny (model P w) A (ofAClassStatement n v) Q E s) _ ?_ ?_ _ _ ⟨rfl, rfl, notClass_keys ks _ n s hk (by omega)⟩
        · rintro v rest r s' ⟨hr, rfl, hall⟩
          refine wpAny_bind (hall v List.mem_cons_self _ _ _ ?_)
          simp only [Bool.false_eq_true, if_false]
          exact wpAny_pure ⟨rfl, rfl, fun u hu' => hall u (List.mem_cons_of_mem _ hu')⟩
        · rintro ⟨r1, r2⟩ s' ⟨hr, rfl, _⟩
          simp only at hr
          subst hr
          exact wpAny_pure h
theorem notClass_keys : ∀ (ks : List NestedKey) (vs : List Value) (n : Nat) (s : Shared), NestedAll s.heap ks vs → NestedKey.depthAll ks ≤ n → ∀ v ∈ vs, ∀ (A : Around) (E : Value → Shared → Prop) (Q : Bool → Shared → Prop), Q false s → wpAny (model P w) A (ofAClassStatement n v) Q E s
  | [], _, n, s, x, _, v, hv => by cases x; cases hv
  | k :: ks, _, n, s, x, hn, v, hv => by
    cases x with
    | cons x1 x2 =>
      simp only [NestedKey.depthAll] at hn
      rcases List.mem_cons.mp hv with e | hv
      · rw [e]; exact notClass_key k _ n s x1 (by omega)
      · exact notClass_keys ks _ n s x2 (by omega) v hv
end
mutual
theorem hashBy_key : ∀ (k : NestedKey) (v : Value) (n : Nat) (s : Shared), NestedIs s.heap k v → ∀ (A : Around) (E : Value → Shared → Prop) (Q : Bool → Shared → Prop), (∀ b, Q b s) → wpAny (model P w) A (hashByValue n v) Q E s
  | .none, _, n, s, x, A, E, Q, h => by cases x; cases n <;> exact wpAny_pure (h _)
  | .num i, _, n, s, x, A, E, Q, h => by cases x <;> cases n <;> exact wpAny_pure (h _)
  | .text y, _, n, s, x, A, E, Q, h => by cases x; cases n <;> exact wpAny_pure (h _)
  | .tup ks, _, n, s, x, A, E, Q, h => by
    cases x with
    | @tup b o vs m _ hg hc hd hk =>
      cases n with
      | zero => exact wpAny_pure (h _)
      | succ n =>
        have hT : s.TypeIs (.ref b) "tuple" := ⟨o, hg, hc⟩
        unfold hashByValue
        refine wpAny_bind (wpAny_specialOf hT F.slot_tuple_hash.lookup ?_)
        show wpAny _ _ (seqItems? (.ref b) >>= _) _ _ s
        refine wpAny_bind (wpAny_seqItems hg hd ?_)
        refine wpAny_bind ?_
        show wpAny _ _ (forIn vs _ _) _ _ s
        rw [← Array.forIn_toList]
        refine wpAny_forIn_list _ (fun rest r s' => r.1 = none ∧ s' = s ∧ ∀ v ∈ rest, ∀ (A : Around) (E : Value → Shared → Prop) (Q : Bool → Shared → Prop), (∀ b, Q b s) → wpAny (model P w) A (hashByValue n v) Q E s)
          _ ?_ ?_ _ _ ⟨rfl, rfl, hashBy_keys ks _ n s hk⟩
        · rintro v rest r s' ⟨hr, rfl, hall⟩
          refine wpAny_bind (hall v List.mem_cons_self _ _ _ fun b => ?_)
          cases b
          · simp only [Bool.not_false, if_true]
            exact wpAny_pure (show wpAny _ _ (pure false) _ _ _ from wpAny_pure (h _))
          · simp only [Bool.not_true, Bool.false_eq_true, if_false]
            exact wpAny_pure ⟨rfl, rfl, fun u hu' => hall u (List.mem_cons_of_mem _ hu')⟩
        · rintro ⟨r1, r2⟩ s' ⟨hr, rfl, _⟩
          simp only at hr
          subst hr
          exact wpAny_pure (h _)
theorem hashBy_keys : ∀ (ks : List NestedKey) (vs : List Value) (n : Nat) (s : Shared), NestedAll s.heap ks vs → ∀ v ∈ vs, ∀ (A : Around) (E : Value → Shared → Prop) (Q : Bool → Shared → Prop), (∀ b, Q b s) → wpAny (model P w) A (hashByValue n v) Q E s
  | [], _, n, s, x, v, hv => by cases x; cases hv
  | k :: ks, _, n, s, x, v, hv => by
    cases x with
    | cons x1 x2 =>
      rcases List.mem_cons.mp hv with e | hv
      · rw [e]; exact hashBy_key k _ n s x1
      · exact hashBy_keys ks _ n s x2 v hv
end
abbrev IsN (P : Program) (w : World) (h : Heap) (k : NestedKey) (a : Addr) : Prop := (nestedKind P w).is h k a
theorem IsN.at {h h' : Heap} {k : NestedKey} {b : Addr} (x : IsN P w h k b) (hk : ∀ a o vs n, h.get? a = some o → o.data = .seq vs n → h'.get? a = some o) : IsN P w h' k b := ⟨NestedIs.at hk _ _ x.1, x.2⟩
theorem IsN.keep {h h' : Heap} {k : NestedKey} {b : Addr} (x : IsN P w h k b) (hk : ∀ c o, h.get? c = some o → h'.get? c = some o) : IsN P w h' k b := x.at fun a o _ _ e _ => hk a o e
/-- a search among such tuples shows nothing -/
theorem seen_key {k : NestedKey} {b : Addr} {Q : Bool → Shared → Prop} (hk : IsN P w s.heap k b) {ys : List Value} (hy : ∀ y ∈ ys, ∃ k' c, y = Value.ref c ∧ IsN P w s.heap k' c) (h : Q false s) :
    wpAny (model P w) A (searchCouldBeSeen (.ref b) ys) Q E s := by
  unfold searchCouldBeSeen
  refine wpAny_bind ?_
  refine wpAny_forIn_list _ (fun rest r s' => r.1 = none ∧ s' = s ∧ ∀ y ∈ rest, ∃ k' c, y = Value.ref c ∧ IsN P w s.heap k' c) _ ?_ ?_ _ _ ⟨rfl, rfl, hy⟩
  · rintro v rest r s' ⟨hr, rfl, hall⟩
    obtain ⟨k', c, rfl, hc⟩ := hall v List.mem_cons_self
    have rest' : ∀ y ∈ rest, ∃ k' c, y = Value.ref c ∧ IsN P w s'.heap k' c := fun u hu' => hall u (List.mem_cons_of_mem _ hu')
    dsimp only
    by_cases hv : (b == c || (carriedByValue (.ref b) && carriedByValue (.ref c))) = true
    · exact wp_if_pos hv (wpAny_pure ⟨rfl, rfl, rest'⟩)
    · refine wp_if_neg hv ?_
      refine wpAny_bind ((nestedKind P w).quiet hk ?_)
      simp only [Bool.not_true, Bool.false_eq_true, if_false]
      refine wpAny_bind ((nestedKind P w).quiet hc ?_)
      simp only [Bool.not_true, Bool.false_eq_true, if_false]
      refine wpAny_bind (notClass_key _ _ 8 _ hk.1 hk.2 _ _ _ ?_)
      simp only [Bool.false_eq_true, if_false]
      refine wpAny_bind (notClass_key _ _ 8 _ hc.1 hc.2 _ _ _ ?_)
      simp only [Bool.false_eq_true, if_false]
      exact wpAny_pure ⟨rfl, rfl, rest'⟩
  · rintro ⟨r1, r2⟩ s' ⟨hr, rfl, _⟩
    simp only at hr
    subst hr
    exact wpAny_pure h
end

/-! ### the set: its rows, its table -/
abbrev Rw := List (Addr × NestedKey)
def rws (w : World) (L : Rw) : List (Int × Value) := L.map fun p => (p.2.hash w, Value.ref p.1)
structure SN (P : Program) (w : World) (h : Heap) (a : Addr) (L : Rw) (es : Array (Int × Value)) (ep : Nat) (t : SetTable) : Prop where
  ob : ∃ o, h.get? a = some o ∧ o.ExactSet ∧ o.data = .set es ep t
  rows : es.toList = rws w L
  tab : TabOk t (L.map fun p => p.2.hash w)
  nd : (L.map (·.2)).Nodup
  key : ∀ p ∈ L, IsN P w h p.2 p.1
  led : w.params.followText "set-order" = true ∨ t.led = true
  room : L.length * 5 < t.mask * 3
  few : L.length < 64
theorem tab_plain {t : SetTable} {hs : List Int} {b : Bool} (T : TabOk t hs) : TabOk { t with plain := b } hs := ⟨T.ris, T.dm, T.sz, T.mok, T.bd, T.reach⟩
theorem rws_len {w : World} {L : Rw} {es : Array (Int × Value)} (r : es.toList = rws w L) : es.size = L.length := by
  have h := congrArg List.length r
  unfold rws at h
  rw [Array.length_toList, List.length_map] at h
  exact h
theorem rws_get {w : World} {L : Rw} {es : Array (Int × Value)} (r : es.toList = rws w L) {i : Nat} {p : Addr × NestedKey} (h : L[i]? = some p) : es[i]? = some (p.2.hash w, Value.ref p.1) := by
  rw [← Array.getElem?_toList, r]
  unfold rws
  rw [List.getElem?_map, h] <;> rfl
section
variable {P : Program} {w : World} {A : Around} {E : Value → Shared → Prop} {s : Shared} {a : Addr} {L : Rw} {es : Array (Int × Value)} {ep : Nat} {t : SetTable}
theorem SN.fits (R : SN P w s.heap a L es ep t) : t.fits es.size = true := by
  have h1 := R.tab.sz
  rw [List.length_map] at h1
  have h2 := rws_len R.rows
  have h3 := R.room
  unfold SetTable.fits SetTable.fill
  rw [R.tab.dm, Bool.and_eq_true, beq_iff_eq, decide_eq_true_eq]
  show t.place.size = es.size ∧ t.place.size + 0 ≤ t.mask
  omega
theorem SN.gw (R : SN P w s.heap a L es ep t) : ¬ t.gaveWay = true := by
  unfold SetTable.gaveWay
  rw [mask_odd R.tab.mok]
  decide
theorem nth_dummy (m : Nat) : ∀ (n : Nat) (p : SetTable.Probe), p.dummy = none → (nth m p n).dummy = none
  | 0, _, h => h
  | n + 1, p, h => nth_dummy m n (adv m p) (by unfold adv; split <;> exact h)
/-- the search, from the c-th step of the way on -/
theorem SN.from (R : SN P w s.heap a L es ep t) {x : Addr} {k : NestedKey} (hx : IsN P w s.heap k x) (hu : A.units + 8 < cLine) {K : Nat} (hKf : K < 10 * SetTable.turns t.mask)
    (hK : way t.mask (k.hash w) K ∉ t.place.toList) (hKb : ∀ c, c < K → way t.mask (k.hash w) c ∈ t.place.toList) {Q : SetFound → Shared → Prop}
    (hin : k ∈ L.map (·.2) → Q (.there none) s) (hout : k ∉ L.map (·.2) → Q (.free (way t.mask (k.hash w) K) false) s) :
    ∀ (f c : Nat) (stand : Option SetTable.Probe), stand.getD (t.probeStart (k.hash w)) = nth t.mask (runAt t.mask (SetTable.bits (k.hash w) % (t.mask + 1)) (SetTable.bits (k.hash w))) c → c ≤ K → K - c < f →
      (∀ (i : Nat) p, L[i]? = some p → p.2 = k → ∃ c', c ≤ c' ∧ c' < K ∧ t.place.toList[i]? = some (way t.mask (k.hash w) c')) →
      wpAny (model P w) A (setSearchFrom a (.ref x) (k.hash w) true f stand) Q E s
  | 0, c, stand, _, _, hf, _ => absurd hf (Nat.not_lt_zero _)
  | f + 1, c, stand, hst, hc, hf, hre => by
    obtain ⟨o, ho, hex, hd⟩ := R.ob
    generalize hq : k.hash w = q at *
    rw [setSearchFrom_succ]
    refine wpAny_bind (wpAny_setState_of ho hd R.fits ?_)
    dsimp only
    refine wp_if_neg R.gw ?_
    try refine wpAny_bind (wpAny_pure ?_)
    generalize hp0 : runAt t.mask (SetTable.bits q % (t.mask + 1)) (SetTable.bits q) = p0 at *
    have wayE : ∀ n, way t.mask q n = (nth t.mask p0 n).j := fun n => by rw [← hp0]
    have hnd : (nth t.mask p0 c).dummy = none := nth_dummy _ _ _ (by rw [← hp0]; rfl)
    have e1 : ∀ n, (nth t.mask (nth t.mask p0 c) n).j = way t.mask q (c + n) := fun n => by rw [wayE, nth_add]
    have hashAt : ∀ (i : Nat) p, L[i]? = some p → (es[i]?.map (·.1)).getD 0 = p.2.hash w := fun i p hp => by rw [rws_get R.rows hp] <;> rfl
    have spec := go_spec t R.tab.ris R.tab.dm (fun i => (es[i]?.map (·.1)).getD 0) q (10 * SetTable.turns t.mask) (K - c) (nth t.mask p0 c) hnd (by omega)
      (fun n hn => by rw [e1]; exact hKb (c + n) (by omega)) (by rw [e1, show c + (K - c) = K by omega]; exact hK)
    have passed : ∀ (i0 : Nat) (p1 : Addr × NestedKey) (c' : Nat), L[i0]? = some p1 → p1.2 = k → t.place.toList[i0]? = some (way t.mask q c') → c ≤ c' → ∀ m : Nat, (∀ k' i' : Nat, k' < m → t.place.toList[i']? = some (nth t.mask (nth t.mask p0 c) k').j → ((es[i']?.map fun e : Int × Value => e.1).getD 0 : Int) ≠ q) → c + m ≤ c' := by
      intro i0 p1 c' h0 hk0 a3 a1 m hno
      rcases Nat.lt_or_ge c' (c + m) with z | z
      · exfalso
        refine hno (c' - c) i0 (by omega) (by rw [e1, show c + (c' - c) = c' by omega]; exact a3) ?_
        rw [hashAt i0 p1 h0, hk0, hq]
      · exact z
    rcases spec with ⟨n, i, hn, hi, hh, hno, hpr⟩ | ⟨hno, hpr⟩
    · have hpr' : t.probe (fun i => (es[i]?.map (·.1)).getD 0) q (stand.getD (t.probeStart q)) = some (.candidate (way t.mask q (c + n)) i (nth t.mask p0 (c + (n + 1)))) := by
        rw [hst, ← e1, nth_add]
        exact hpr
      rw [hpr']
      dsimp only
      rw [e1] at hi
      have hil : i < L.length := by
        have h1 : i < t.place.toList.length := (List.getElem?_eq_some_iff.mp hi).1
        have h2 := R.tab.sz
        rw [List.length_map] at h2
        rw [Array.length_toList] at h1
        omega
      have hp : L[i]? = some L[i] := List.getElem?_eq_getElem hil
      generalize L[i] = p at hp
      have hmem : p ∈ L := List.mem_of_getElem? hp
      have hpt := R.key p hmem
      have rest : wpAny (model P w) A (searchRest a (.ref x) q true f es t (way t.mask q (c + n)) i (nth t.mask p0 (c + (n + 1)))) Q E s := by
        unfold searchRest
        rw [rws_get R.rows hp]
        dsimp only
        refine wpAny_bind (wpAny_holding ((nestedKind P w).eqBool hu hpt hx ?_))
        refine wpAny_bind (wpAny_setState_of ho hd R.fits ?_)
        dsimp only
        by_cases hkk : p.2 = k
        · refine wp_if_pos (by simp [hkk]) ?_
          exact wpAny_pure (hin (List.mem_map.mpr ⟨p, hmem, hkk⟩))
        · refine wp_if_neg (by simp [hkk]) ?_
          try refine wpAny_bind (wpAny_pure ?_)
          rw [sameMem]
          dsimp only
          have hsl : t.slot (way t.mask q (c + n)) = .live i := slot_live R.tab.ris hi
          simp only [if_true, hsl, rws_get R.rows hp]
          refine wpAny_bind (wpAny_isSame_ref_self (wpAny_bind (wpAny_pure ?_)))
          simp only [if_true]
          refine wp_if_neg (by simp [hkk]) ?_
          subst hq
          subst hp0
          refine SN.from R hx hu hKf hK hKb hin hout f (c + (n + 1)) _ rfl (by omega) (by omega) fun i0 p1 h0 hk0 => ?_
          obtain ⟨c', a1, a2, a3⟩ := hre i0 p1 h0 hk0
          refine ⟨c', ?_, a2, a3⟩
          have le := passed i0 p1 c' h0 hk0 a3 a1 n hno
          rcases Nat.eq_or_lt_of_le le with y | y
          · exfalso
            rw [← y] at a3
            have s0 := slot_live R.tab.ris a3
            rw [hsl] at s0
            injection s0 with s0
            rw [← s0, hp] at h0
            exact hkk ((congrArg Prod.snd (Option.some.inj h0)).trans hk0)
          · omega
      by_cases hl : t.led = true
      · refine wp_if_neg (by simp [hl]) ?_
        try refine wpAny_bind (wpAny_pure ?_)
        exact rest
      · refine wp_if_pos (by simp [hl]) ?_
        refine wpAny_bind (seen_key hx (fun y hy => ?_) ?_)
        · obtain ⟨e, he, ee⟩ := List.mem_map.mp hy
          have he1 : e ∈ es ∧ e.1 = q := by simpa using he
          have he2 : e ∈ es.toList := by simpa using he1.1
          rw [R.rows] at he2
          obtain ⟨p2, hp2, e2⟩ := List.mem_map.mp he2
          refine ⟨p2.2, p2.1, ?_, R.key p2 hp2⟩
          rw [← ee, ← e2]
        · refine wp_if_neg (by decide) ?_
          try refine wpAny_bind (wpAny_pure ?_)
          exact rest
    · have hpr' : t.probe (fun i => (es[i]?.map (·.1)).getD 0) q (stand.getD (t.probeStart q)) = some (.empty (way t.mask q K) none) := by
        have e2 : way t.mask q K = (nth t.mask (nth t.mask p0 c) (K - c)).j := by
          rw [e1, show c + (K - c) = K by omega]
        rw [hst, e2]
        exact hpr
      rw [hpr']
      dsimp only
      refine wpAny_pure (hout fun hm => ?_)
      obtain ⟨p1, h0, hk0⟩ := List.mem_map.mp hm
      obtain ⟨i0, hi0, e0⟩ := List.getElem_of_mem h0
      have h00 : L[i0]? = some p1 := by rw [List.getElem?_eq_getElem hi0, e0]
      obtain ⟨c', a1, a2, a3⟩ := hre i0 p1 h00 hk0
      have le := passed i0 p1 c' h00 hk0 a3 a1 (K - c) hno
      omega
theorem SN.search (R : SN P w s.heap a L es ep t) {x : Addr} {k : NestedKey} (hx : IsN P w s.heap k x) (hu : A.units + 8 < cLine) {Q : SetFound → Shared → Prop}
    (hin : k ∈ L.map (·.2) → Q (.there none) s)
    (hout : ∀ K, k ∉ L.map (·.2) → way t.mask (k.hash w) K ∉ t.place.toList → (∀ c, c < K → way t.mask (k.hash w) c ∈ t.place.toList) → Q (.free (way t.mask (k.hash w) K) false) s) :
    wpAny (model P w) A (setSearch a (.ref x) (k.hash w) true) Q E s := by
  have hroom := R.room
  obtain ⟨K, hKf, hK, hKb⟩ := R.tab.first (by rw [List.length_map]; omega) (k.hash w)
  have hbig : K < 100000 := by
    have : 10 * SetTable.turns t.mask ≤ 1420 := by
      unfold SetTable.turns
      rcases R.tab.mok with e | e | e <;> omega
    omega
  unfold setSearch
  refine R.from hx hu hKf hK hKb hin (fun hn => hout K hn hK hKb) 100000 0 none rfl (Nat.zero_le _) (by omega) fun i p hp hk => ?_
  have hi : (L.map fun p => p.2.hash w)[i]? = some (k.hash w) := by rw [List.getElem?_map, hp, ← hk] <;> rfl
  have hil : i < t.place.toList.length := by
    have h1 : i < L.length := (List.getElem?_eq_some_iff.mp hp).1
    have h2 := R.tab.sz
    rw [List.length_map] at h2
    rw [Array.length_toList]
    omega
  have hj := List.getElem?_eq_getElem hil
  obtain ⟨c, hc, e⟩ := R.tab.before hK hi hj
  exact ⟨c, Nat.zero_le _, hc, by rw [hj, e]⟩
/-! ### adding -/
theorem put_perm' {α : Type} (L : List α) (p : Nat) (x : α) : (L.take p ++ x :: L.drop p).Perm (x :: L) := put_perm L p x

theorem rws_order (es : Array (Int × Value)) (order : Array Nat) (hr : es.toList = rws w L) (hp : order.toList.Perm (List.range L.length)) :
    ∃ L2, (order.filterMap (es[·]?)).toList = rws w L2 ∧ L2.Perm L ∧ (L2.map fun p => p.2.hash w) = order.toList.map fun i => (es.map (·.1)).getD i 0 := by
  have hsz := rws_len hr
  have ent : ∀ i (h : i < L.length), es[i]? = some ((L[i]).2.hash w, Value.ref (L[i]).1) := fun i h => rws_get hr (List.getElem?_eq_getElem h)
  have key : ∀ l : List Nat, (∀ i ∈ l, i < L.length) → l.filterMap (fun i => es[i]?) = rws w (l.filterMap fun i => L[i]?) ∧ ((l.filterMap fun i => L[i]?).map fun p => p.2.hash w) = l.map fun i => (es.map (·.1)).getD i 0 := by
    intro l
    induction l with
    | nil => intro _; exact ⟨rfl, rfl⟩
    | cons i l ih =>
      intro hl
      have hi := hl i List.mem_cons_self
      obtain ⟨e1, e3⟩ := ih fun j hj => hl j (List.mem_cons_of_mem _ hj)
      have e5 : (es.map (·.1))[i]? = some ((L[i]).2.hash w) := by rw [Array.getElem?_map, ent i hi] <;> rfl
      rw [List.filterMap_cons_some (ent i hi), List.filterMap_cons_some (List.getElem?_eq_getElem hi), List.map_cons, List.map_cons, e1, e3]
      refine ⟨rfl, ?_⟩
      simp [Array.getD_eq_getD_getElem?, e5]
  obtain ⟨e1, e3⟩ := key order.toList fun i hi => List.mem_range.mp (hp.mem_iff.mp hi)
  refine ⟨_, by first | (rw [Array.toList_filterMap]; exact e1) | simpa using e1, ?_, e3⟩
  have h2 : (List.range L.length).filterMap (fun i => L[i]?) = L := by
    refine List.ext_getElem? fun j => ?_
    have key2 : ∀ n, n ≤ L.length → (List.range n).filterMap (fun i => L[i]?) = L.take n := by
      intro n
      induction n with
      | zero => intro _; rfl
      | succ n ih =>
        intro hn
        have hlt : n < L.length := hn
        rw [List.range_succ, List.filterMap_append, ih (Nat.le_of_lt hlt), List.take_succ, List.getElem?_eq_getElem hlt]
        rw [List.filterMap_cons_some (List.getElem?_eq_getElem hlt)] <;> rfl
    rw [key2 L.length (Nat.le_refl _), List.take_length]
  have h1 := hp.filterMap fun i => L[i]?
  rw [h2] at h1
  exact h1
theorem key_same {h h' : Heap} {k : NestedKey} {b : Addr} {o : Obj} (hb : IsN P w h k b) (ho : h.get? a = some o) (hd : o.data = .set es ep t) (hs : Heap.SameBut a h h') : IsN P w h' k b :=
  hb.at fun c ob vs n hc hq => by
    refine (hs.2 c ?_).trans hc
    rintro rfl
    rw [ho] at hc
    cases hc
    rw [hd] at hq
    cases hq
theorem relay_sn {o : Obj} (ho : s.heap.get? a = some o) (hex : o.ExactSet) (hd : o.data = .set es ep t) (hrows : es.toList = rws w L) (hsz : t.place.size = es.size) (hdm : t.dummies = #[]) (hfl : es.size ≤ t.mask)
    (nd : (L.map (·.2)).Nodup) (ky : ∀ p ∈ L, IsN P w s.heap p.2 p.1) (ld : w.params.followText "set-order" = true ∨ t.led = true) (few : L.length < 64) {wanted M : Nat}
    (hw : SetTable.sizeAbove wanted - 1 = M) (hM : MaskOk M) (hw2 : SetTable.sizeAbove wanted ≤ 128) (hn : L.length * 5 < M * 3) {Q : Unit → Shared → Prop}
    (hQ : ∀ h' L' es' ep' t', Heap.SameBut a s.heap h' → SN P w h' a L' es' ep' t' → L'.Perm L → Q () { s with heap := h' }) : wpAny (model P w) A (setRelay a wanted) Q E s := by
  have hsl := rws_len hrows
  have hfits : t.fits es.size = true := by
    unfold SetTable.fits SetTable.fill
    rw [hdm, Bool.and_eq_true, beq_iff_eq, decide_eq_true_eq]
    show t.place.size = es.size ∧ t.place.size + 0 ≤ t.mask
    omega
  obtain ⟨t', order, e, hp, T, em, el, ep', ed⟩ := relaid_ok t (hs := es.map (·.1)) (wanted := wanted) hw hM (by rw [Array.size_map, hsl]; omega)
  rw [Array.size_map, hsl] at hp
  obtain ⟨L2, r1, r2, r3⟩ := rws_order es order hrows hp
  rw [← r3] at T
  have hs2 : (order.filterMap (es[·]?)).size = es.size := by rw [rws_len r1, r2.length_eq, hsl]
  rw [setRelay_eq]
  refine wpAny_bind (wpAny_setState_of ho hd hfits ?_)
  dsimp only
  refine wp_if_neg (by rw [sizeLine_eq]; omega) ?_
  try refine wpAny_bind (wpAny_pure ?_)
  rw [e]
  dsimp only
  refine wpAny_bind ?_
  refine wp_if_neg (by rw [hs2]; simp) ?_
  try refine wpAny_bind (wpAny_pure ?_)
  refine wpAny_pure ?_
  dsimp only
  refine wpAny_storeSet_of ho hd ?_ (by rw [hs2, hsl, sizeLine_eq]; omega)
  have sb : Heap.SameBut a s.heap (s.heap.update a (Obj.putSet (order.filterMap (es[·]?)) t')) := Heap.SameBut.update ..
  refine hQ _ L2 (order.filterMap (es[·]?)) (ep + 1) t' sb ?_ r2
  refine ⟨⟨_, store_at ho hd, ⟨hex.1, hex.2.1, hex.2.2⟩, rfl⟩, r1, T, (r2.map (·.2)).nodup_iff.mpr nd, fun p hpm => key_same (ky p (r2.mem_iff.mp hpm)) ho hd sb, by rw [el]; exact ld, ?_, by rw [r2.length_eq]; exact few⟩
  rw [r2.length_eq, em]
  exact hn
theorem SN.add (R : SN P w s.heap a L es ep t) {x : Addr} {k : NestedKey} (hx : IsN P w s.heap k x) (hu : A.units + 8 < cLine) (hfew : L.length + 1 < 64) {Q : Bool → Shared → Prop}
    (hQ : ∀ b h' L' es' ep' t', Heap.SameBut a s.heap h' → SN P w h' a L' es' ep' t' → (k ∈ L.map (·.2) → L' = L) → (k ∉ L.map (·.2) → L'.Perm ((x, k) :: L)) → Q b { s with heap := h' }) :
    wpAny (model P w) A (setAddHashed a (.ref x) (k.hash w)) Q E s := by
  obtain ⟨o, ho, hex, hd⟩ := R.ob
  have hsl := rws_len R.rows
  have hroom := R.room
  unfold setAddHashed
  refine wpAny_holding ?_
  rw [show (100000 : Nat) = 99999 + 1 from rfl, setAddHashedIn_succ]
  refine wpAny_bind (wpAny_setState_of ho hd R.fits ?_)
  dsimp only
  refine wp_if_neg (by simp [byScan, Value.scannable]) ?_
  try refine wpAny_bind (wpAny_pure ?_)
  refine wpAny_bind (R.search hx hu (fun hm => ?_) fun K hm hK hb => ?_)
  · dsimp only
    exact wpAny_pure (hQ false s.heap L es ep t (Heap.SameBut.refl a s.heap) R (fun _ => rfl) fun z => absurd hm z)
  · dsimp only
    refine wpAny_bind (wpAny_setState_of ho hd R.fits ?_)
    dsimp only
    obtain ⟨q1, q2, q3, q4, q5, q6, q7, q8, q9⟩ := R.tab.put hK hb
    generalize hpt : t.put (way t.mask (k.hash w) K) = pt at q1 q3 q4 q5 q6 q7 q8 q9 ⊢
    obtain ⟨t1, p⟩ := pt
    dsimp only at q1 q3 q4 q5 q6 q7 q8 q9 ⊢
    subst q1
    have hin : (SetTable.insertAt es (SetTable.below t.place (way t.mask (k.hash w) K)) (k.hash w, Value.ref x)).toList = rws w (L.take (SetTable.below t.place (way t.mask (k.hash w) K)) ++ (x, k) :: L.drop (SetTable.below t.place (way t.mask (k.hash w) K))) := by
      rw [SetTable.toList_insertAt, R.rows]
      unfold rws
      rw [List.map_append, List.map_cons, List.map_take, List.map_drop]
    generalize hpp : SetTable.below t.place (way t.mask (k.hash w) K) = p at q2 q3 hin ⊢
    have pm := put_perm' L p (x, k)
    have hlen : (L.take p ++ (x, k) :: L.drop p).length = L.length + 1 := pm.length_eq
    have hhs : (L.take p ++ (x, k) :: L.drop p).map (fun p => p.2.hash w) = (L.map fun p => p.2.hash w).take p ++ k.hash w :: (L.map fun p => p.2.hash w).drop p := by
      rw [List.map_append, List.map_cons, List.map_take, List.map_drop]
    rw [← hhs] at q3
    have nd1 : ((L.take p ++ (x, k) :: L.drop p).map (·.2)).Nodup := by
      refine (pm.map (·.2)).nodup_iff.mpr ?_
      rw [List.map_cons]
      exact List.nodup_cons.mpr ⟨hm, R.nd⟩
    have hes := rws_len hin
    rw [hlen] at hes
    generalize SetTable.insertAt es p (k.hash w, Value.ref x) = es1 at hin hes ⊢
    generalize L.take p ++ (x, k) :: L.drop p = L1 at pm hlen q3 nd1 hin
    -- whatever the mark for plain hashes says
    have fin : ∀ (pl : Bool), wpAny (model P w) A (do
        storeSet a es1 { t1 with plain := pl }
        if (!false && SetTable.tooFull { t1 with plain := pl }) = true then do
            setRelay a (SetTable.grown (es.size + 1))
            pure true
          else pure true) Q E s := fun pl => by
      have q3' := tab_plain (b := pl) q3
      have q5' : ({ t1 with plain := pl } : SetTable).led = t.led := q5
      have q4' : ({ t1 with plain := pl } : SetTable).mask = t.mask := q4
      have q9' : ({ t1 with plain := pl } : SetTable).fill = L.length + 1 := by
        have := q9
        rw [List.length_map] at this
        exact this
      generalize ({ t1 with plain := pl } : SetTable) = t2 at q3' q4' q5' q9' ⊢
      refine wpAny_bind (wpAny_storeSet_of ho hd ?_ (by rw [hes, sizeLine_eq]; omega))
      have sb : Heap.SameBut a s.heap (s.heap.update a (Obj.putSet es1 t2)) := Heap.SameBut.update ..
      have ho1 := store_at (es' := es1) (t' := t2) ho hd
      generalize s.heap.update a (Obj.putSet es1 t2) = h1 at sb ho1 ⊢
      have key1 : ∀ p ∈ L1, IsN P w h1 p.2 p.1 := fun p hp => by
        rcases List.mem_cons.mp (pm.mem_iff.mp hp) with e | hp
        · rw [e]; exact key_same hx ho hd sb
        · exact key_same (R.key p hp) ho hd sb
      have ld1 : w.params.followText "set-order" = true ∨ t2.led = true := by rw [q5']; exact R.led
      by_cases hf : t2.tooFull = true
      · refine wp_if_pos (by simp [hf]) ?_
        have hfull : (L.length + 1) * 5 ≥ t2.mask * 3 := by
          have h := hf
          unfold SetTable.tooFull at h
          rw [decide_eq_true_eq, q9'] at h
          exact h
        rw [hsl]
        have hsz1 : t2.place.size = es1.size := by
          have h := q3'.sz
          rw [List.length_map, hlen] at h
          rw [h, hes]
        have cases2 : (t.mask = 7 ∧ L.length = 4) ∨ (t.mask = 31 ∧ L.length = 18) := by
          rw [q4'] at hfull
          rcases R.tab.mok with e | e | e
          · left; rw [e] at hfull hroom; exact ⟨e, by omega⟩
          · right; rw [e] at hfull hroom; exact ⟨e, by omega⟩
          · exfalso; rw [e] at hfull; omega
        have go : ∀ M, SetTable.sizeAbove (SetTable.grown (L.length + 1)) - 1 = M → MaskOk M → SetTable.sizeAbove (SetTable.grown (L.length + 1)) ≤ 128 → (L.length + 1) * 5 < M * 3 →
            wpAny (model P w) A (setRelay a (SetTable.grown (L.length + 1))) (fun _ s' => wpAny (model P w) A (pure true) Q E s') E { s with heap := h1 } := fun M h1' h2' h3' h4' => by
          refine relay_sn (s := { s with heap := h1 }) ho1 ⟨hex.1, hex.2.1, hex.2.2⟩ rfl hin hsz1 q3'.dm (by rw [hes, q4']; rcases cases2 with ⟨e, e2⟩ | ⟨e, e2⟩ <;> omega) nd1 key1 ld1 (by rw [hlen]; exact hfew) h1' h2' h3' (by rw [hlen]; exact h4') ?_
          intro h2 L2 es2 ep2 t3 sb2 R2 pm2
          exact wpAny_pure (hQ true h2 L2 es2 ep2 t3 (sb.trans sb2) R2 (fun z => absurd z hm) fun _ => pm2.trans pm)
        refine wpAny_bind ?_
        rcases cases2 with ⟨_, e2⟩ | ⟨_, e2⟩
        · exact go 31 (by rw [e2, size_20]) (.inr (.inl rfl)) (by rw [e2, size_20]; decide) (by omega)
        · exact go 127 (by rw [e2, size_76]) (.inr (.inr rfl)) (by rw [e2, size_76]; decide) (by omega)
      · refine wp_if_neg (by simp [hf]) ?_
        refine wpAny_pure (hQ true h1 L1 es1 (ep + 1) t2 sb ⟨⟨_, ho1, ⟨hex.1, hex.2.1, hex.2.2⟩, rfl⟩, hin, q3', nd1, key1, ld1, ?_, by rw [hlen]; exact hfew⟩ (fun z => absurd z hm) fun _ => pm)
        have h := hf
        unfold SetTable.tooFull at h
        rw [decide_eq_true_eq, q9'] at h
        rw [hlen]
        omega
    have same : ∀ b : Bool, ({ t1 with plain := t1.plain } : SetTable) = t1 := fun _ => rfl
    by_cases hpl : t1.plain = true
    · refine wp_if_pos hpl ?_
      refine wpAny_bind (hashBy_key _ _ 8 _ hx.1 _ _ _ fun b => ?_)
      cases b
      · exact fin false
      · exact fin t1.plain
    · refine wp_if_neg hpl ?_
      refine wpAny_bind (wpAny_pure ?_)
      exact fin t1.plain
end

/-! ### set(xs) -/
section
variable {P : Program} {w : World} {A : Around} {E : Value → Shared → Prop} {s : Shared}
theorem upd_loop {I : Addr} {fp wr : List Addr} {G : Array GenState → Array GenState → Prop} {n : Nat} {Pv : Nat → Value → Prop} {St : Nat → Shared → Prop} {R : Result → Shared → Prop}
    (W : WalksS P w A.in1 I fp wr G n Pv St) (S : Addr) (hSf : S ∉ fp) (Good : Nat → Heap → Prop) (h0 : Heap) (hS0 : h0.get? S = none) (hw0 : ∀ b ∈ wr, h0.get? b = none)
    (stay : ∀ i h h', Good i h → (∀ o, h.get? S = some o → h'.get? S = some o) → (∀ b o, h0.get? b = some o → h'.get? b = some o) → Good i h')
    (step : ∀ i v (s : Shared) (E : Value → Shared → Prop) (Q : Bool → Shared → Prop), i < n → Pv i v → Good i s.heap → (∀ b o, h0.get? b = some o → s.heap.get? b = some o) →
      (∀ b h' tk, s.toks ≤ tk → Heap.SameBut S s.heap h' → Good (i + 1) h' → Q b { s with heap := h', toks := tk }) → wpAny (model P w) A.in1 (setAdd S v) Q E s) :
    ∀ (k i : Nat) (s : Shared), n - i = k → i ≤ n → St i s → (∀ b o, h0.get? b = some o → s.heap.get? b = some o) → Good i s.heap →
      (∀ s', Moved (S :: wr) G s s' → Good n s'.heap → (∀ b o, h0.get? b = some o → s'.heap.get? b = some o) → R (.ok (.ret .none)) s') →
      codeAny (model P w) A (.builtin "set.update.loop" ⟨[.ref S, .ref I], []⟩) R s := by
  have hSw : S ∉ wr := fun h => hSf (W.sub _ h)
  have hsub : ∀ b ∈ wr, b ∈ S :: wr := fun b hb => List.mem_cons_of_mem _ hb
  have keepM : ∀ {s s' : Shared}, Moved wr G s s' → (∀ b o, h0.get? b = some o → s.heap.get? b = some o) → ∀ b o, h0.get? b = some o → s'.heap.get? b = some o := fun hm hkp b o e =>
    hm.heap b o (fun hb => by rw [hw0 b hb] at e; cases e) (hkp b o e)
  intro k
  induction k with
  | zero =>
    intro i s hk' hi hst hkp g hR
    have hin : i = n := by omega
    subst hin
    refine codeAny_builtin F.entry_set_update_loop ?_
    rw [Around.under_plainId F.plain_set_update_loop _]
    show wpAny _ A.in1 (pyNext (.ref I) >>= _) _ _ s
    refine wpAny_bind (W.done s _ _ hst fun s' hm => ?_)
    show wpAny _ A.in1 (ret Value.none) _ _ s'
    have hkp' := keepM hm hkp
    exact wpAny_pure (hR s' (hm.mono hsub) (stay i _ _ g (fun o e => hm.heap S o hSw e) hkp') hkp')
  | succ k ih =>
    intro i s hk' hi hst hkp g hR
    have hlt : i < n := by omega
    refine codeAny_builtin F.entry_set_update_loop ?_
    rw [Around.under_plainId F.plain_set_update_loop _]
    show wpAny _ A.in1 (pyNext (.ref I) >>= _) _ _ s
    refine wpAny_bind (W.item i s _ _ hlt hst fun v s' hP hst' hm => ?_)
    have hkp' := keepM hm hkp
    have g' : Good i s'.heap := stay i _ _ g (fun o e => hm.heap S o hSw e) hkp'
    show wpAny _ A.in1 (holding [v] (setAdd S v) >>= _) _ _ s'
    refine wpAny_bind (wpAny_holding ?_)
    refine step i v s' _ _ hlt hP g' hkp' fun b h' tk htk hsb g2 => ?_
    have hkp2 : ∀ b o, h0.get? b = some o → h'.get? b = some o := fun b o e => (hsb.2 b (fun z => by rw [z, hS0] at e; cases e)).trans (hkp' b o e)
    refine wpAny_pure ⟨plainId_quiet F.plain_set_update_loop _, ih (i + 1) _ (by omega) hlt (W.frame _ s' _ _ hst' htk fun b hb o e => ?_) hkp2 g2 fun s'' hm'' g'' hkp'' => ?_⟩
    · rw [hsb.2 b (fun h : b = S => hSf (by rw [← h]; exact hb))]; exact e
    · refine hR s'' (Moved.trans W.gtrans ((hm.mono hsub).then_heap htk fun b o hb e => ?_) hm'') g'' hkp''
      rw [hsb.2 b (fun h : b = S => hb (by rw [h]; exact List.mem_cons_self))]; exact e

def fresh0 (w : World) : Obj := { cls := .type "set", dict := none, data := .set #[] 0 (.fresh 0 0 (!w.params.followText "set-order")) }
set_option maxHeartbeats 3200000 in
/-- set(xs) of a list -/
theorem call_set_gen {l : Addr} {items : Array Value} {Q : Value → Shared → Prop} (Good : Nat → Heap → Prop) (hh : A.handled = none) (hl : s.heap.IsList l items)
    (stay : ∀ i h h', Good i h → (∀ o, h.get? s.heap.objs.size = some o → h'.get? s.heap.objs.size = some o) → (∀ b o, s.heap.get? b = some o → h'.get? b = some o) → Good i h')
    (start : ∀ h : Heap, h.get? s.heap.objs.size = some (fresh0 w) → (∀ b o, s.heap.get? b = some o → h.get? b = some o) → Good 0 h)
    (step : ∀ i v (s' : Shared) (A' : Around) (E : Value → Shared → Prop) (Q : Bool → Shared → Prop), A'.units ≤ A.units + 3 → i < items.size → items[i]? = some v → Good i s'.heap → (∀ b o, s.heap.get? b = some o → s'.heap.get? b = some o) →
      (∀ b h' tk, s'.toks ≤ tk → Heap.SameBut s.heap.objs.size s'.heap h' → Good (i + 1) h' → Q b { s' with heap := h', toks := tk }) → wpAny (model P w) A' (setAdd s.heap.objs.size v) Q E s')
    (h : ∀ (h' : Heap) (tk : Nat), Good items.size h' → (∀ b o, s.heap.get? b = some o → h'.get? b = some o) → Q (.ref s.heap.objs.size) { s with heap := h', toks := tk }) :
    wpAny (model P w) A (call (.type "set") [.ref l]) Q E s := by
  obtain ⟨c, tl, hmro⟩ := F.called_set.mro
  have hmade := F.called_set.made
  have hsub := F.called_set.sub
  refine wpAny_call (codeAny_of_tree ?_)
  show wpAny _ _ (callAny (.type "set") _) _ _ _
  refine wpAny_pure ⟨Code.quiet_builtin _ (by decide +kernel), codeAny_builtin F.entry_type_call ?_⟩
  rw [Around.under_plain (weight_type_call_type "set" [.ref l] []) rfl]
  have h1 := F.called_set.notType
  have h2 := F.called_set.canCreate
  have hct := F.typeCall_set_1 (.ref l)
  repeat (any_goals (first | assumption | wp_step))

  refine codeAny_mono (code_set_led1 (.ref l) (E := E) (Q₁ := fun obj s₁ => obj = .ref s.heap.objs.size ∧ s₁ = { s with heap := s.heap.push { cls := .type "set", dict := none, data := .set #[] 0 (.fresh 0 0 (!w.params.followText "set-order")) } }) ⟨rfl, rfl⟩) fun r s₁ hr => ?_
  cases r with
  | error e => exact hr
  | ok fl =>
    cases fl with
    | ret obj =>
      obtain ⟨rfl, rfl⟩ := hr
      have hS : (s.heap.push { cls := .type "set", dict := none, data := .set #[] 0 (.fresh 0 0 (!w.params.followText "set-order")) }).get? s.heap.objs.size = some { cls := .type "set", dict := none, data := .set #[] 0 (.fresh 0 0 (!w.params.followText "set-order")) } := Heap.get?_push_size _ rfl
      have hT : Shared.TypeIs { s with heap := s.heap.push { cls := .type "set", dict := none, data := .set #[] 0 (.fresh 0 0 (!w.params.followText "set-order")) } } (.ref s.heap.objs.size) "set" := ⟨_, hS, rfl⟩
      have hli := F.called_set.init.lookup
      have hbi := F.called_set.init.bind (.ref s.heap.objs.size)
      repeat (any_goals (first | assumption | wp_step))

      refine codeAny_mono (codeAny_call_builtin (R := wants (fun r s₂ => r = .none ∧ ∃ h' tk, s₂ = { s with heap := h', toks := tk } ∧ Good items.size h' ∧
          (∀ b o, s.heap.get? b = some o → h'.get? b = some o)) E) F.called_set.init.plain F.entry_set_init (check_set_init_1 hT ?_)) fun r₂ s₂ hr₂ => ?_
      · obtain ⟨ol, hol, hcl, nl, hdl⟩ := hl
        obtain ⟨ocls, odict, odata, oslots⟩ := ol
        simp only at hcl hdl
        subst hcl; subst hdl
        have hol' : (s.heap.push { cls := .type "set", dict := none, data := .set #[] 0 (.fresh 0 0 (!w.params.followText "set-order")) }).get? l = some { cls := .type "list", dict := odict, data := .seq items nl, slots := oslots } := Heap.get?_push_of_some _ hol
        have hsls := F.sub_list_set
        have hslf := F.sub_list_frozenset
        have hne : (Value.type "list" == Value.type "dict") = false := by decide
        have hl1 : (s.heap.push { cls := .type "set", dict := none, data := .set #[] 0 (.fresh 0 0 (!w.params.followText "set-order")) }).IsList l items := ⟨_, hol', rfl, nl, rfl⟩
        unfold Builtin.«set.__init__» noKeywords Builtin.Frozenset.updateFrom
        generalize hPI : pyIter = PI
        wp_walk
        subst hPI

        refine wpAny_pyIter_list hl1 ?_
        refine wpAny_bind (wpAny_runValue ?_)
        have hlS : l < s.heap.objs.size := Heap.lt_size hol
        have hh3 : A.in1.in1.in1.handled = none := by simp [hh]
        have hneI : l ≠ (s.heap.push { cls := .type "set", dict := none, data := .set #[] 0 (.fresh 0 0 (!w.params.followText "set-order")) }).objs.size := by
          rw [Heap.size_push]; exact Nat.ne_of_lt (Nat.lt_succ_of_lt hlS)
        have hSf : s.heap.objs.size ∉ [(s.heap.push { cls := .type "set", dict := none, data := .set #[] 0 (.fresh 0 0 (!w.params.followText "set-order")) }).objs.size, l] := by
          rw [Heap.size_push]; simp only [List.mem_cons, List.mem_singleton, List.not_mem_nil, or_false, not_or]
          exact ⟨Nat.ne_of_lt (Nat.lt_succ_self _), Nat.ne_of_gt hlS⟩
        have none_of : ∀ b, s.heap.objs.size ≤ b → s.heap.get? b = none := fun b hb => by
          cases q : s.heap.get? b with
          | none => rfl
          | some o => exact absurd (Nat.lt_of_lt_of_le (Heap.lt_size q) hb) (Nat.lt_irrefl _)
        have kp0 : ∀ b o, s.heap.get? b = some o → ((s.heap.push { cls := .type "set", dict := none, data := .set #[] 0 (.fresh 0 0 (!w.params.followText "set-order")) }).push { cls := .type "list_iterator", data := .fields #[.ref l, .int 0 0] }).get? b = some o := fun b o e => Heap.get?_push_of_some _ (Heap.get?_push_of_some _ e)
        refine upd_loop ((Walks.list hh3 _ l hneI items).toS) s.heap.objs.size
          hSf Good s.heap (none_of _ (Nat.le_refl _)) (fun b hb => none_of b (by
            rw [List.mem_singleton.mp hb, Heap.size_push]
            exact Nat.le_succ _)) stay (fun i v s' E' Q' hi hv g k q => step i v s' _ E' Q' (by simp only [Around.in1_units]; omega) hi hv g k q) (items.size - 0) 0 _ (by omega) (Nat.zero_le _)
          ⟨⟨_, Heap.get?_push_size _ rfl, rfl, rfl⟩, (hl1.push _)⟩ kp0 (start _ (Heap.get?_push_of_some _ hS) kp0) ?hR
        case hR =>
          intro s' hm g' hkp
          obtain ⟨h', g2, d', tk', os'⟩ := s'
          have eg : g2 = s.gens := hm.gens
          have ed : d' = s.drawn := hm.drawn
          have eo : os' = s.os := hm.os
          subst eg; subst ed; subst eo
          show wpAny _ _ _ _ _ _
          refine wpAny_pure ?_
          show wpAny _ _ (ret Value.none) _ _ _
          exact wpAny_pure ⟨rfl, h', tk', rfl, g', hkp⟩

      · cases r₂ with
        | error e => exact hr₂
        | ok fl₂ =>
          cases fl₂ with
          | ret r =>
            obtain ⟨rfl, h', tk, rfl, g', hk'⟩ := hr₂
            repeat (any_goals (first | assumption | wp_step))
            exact h _ _ g' hk'
          | _ => exact hr₂.elim
    | _ => exact hr.elim
end
end NS

namespace NS
open PySem PySem.Spec PyProof.Rows L2

/-! ### data as keys -/
mutual
def nkey : PyData → Option NestedKey
  | .none => some .none
  | .int i => some (.num i)
  | .str x => some (.text x)
  | .tuple ds => (nkeys ds).map .tup
  | .bool _ => none
  | .list _ => none
  | .dict _ => none
def nkeys : List PyData → Option (List NestedKey)
  | [] => some []
  | d :: ds => match nkey d, nkeys ds with
    | some k, some ks => some (k :: ks)
    | _, _ => none
end
theorem nkeys_cons {d : PyData} {ds : List PyData} {ks : List NestedKey} (h : nkeys (d :: ds) = some ks) : ∃ k r, nkey d = some k ∧ nkeys ds = some r ∧ ks = k :: r := by
  rw [nkeys] at h
  split at h
  · cases h
    exact ⟨_, _, by assumption, by assumption, rfl⟩
  · cases h
mutual
theorem nkey_is {h : Heap} : ∀ (d : PyData) (u : Value) (as : List Addr) (k : NestedKey), Reads h u d as → nkey d = some k → NestedIs h k u
  | .none, _, _, _, r, e => by
    rw [nkey] at e
    cases e
    cases r
    exact .none
  | .int i, _, _, _, r, e => by
    rw [nkey] at e
    cases e
    cases r
    exact .int _ _
  | .str x, _, _, _, r, e => by
    rw [nkey] at e
    cases e
    cases r
    exact .text _ _
  | .tuple ds, _, _, _, r, e => by
    rw [nkey] at e
    cases q : nkeys ds with
    | none => rw [q] at e; cases e
    | some ks =>
      rw [q] at e
      cases e
      cases r with
      | tuple h1 h2 h3 h4 => exact .tup h1 h2 h3 (nkeys_is ds _ _ ks h4 q)
  | .bool _, _, _, _, _, e => by rw [nkey] at e; cases e
  | .list _, _, _, _, _, e => by rw [nkey] at e; cases e
  | .dict _, _, _, _, _, e => by rw [nkey] at e; cases e
theorem nkeys_is {h : Heap} : ∀ (ds : List PyData) (us : List Value) (as : List Addr) (ks : List NestedKey), ReadsAll h us ds as → nkeys ds = some ks → NestedAll h ks us
  | [], _, _, _, r, e => by
    rw [nkeys] at e
    cases e
    cases r
    exact .nil
  | d :: ds, _, _, _, r, e => by
    obtain ⟨k, ks, e1, e2, rfl⟩ := nkeys_cons e
    cases r with
    | cons h1 h2 => exact .cons (nkey_is d _ _ k h1 e1) (nkeys_is ds _ _ ks h2 e2)
end
mutual
theorem nkey_data : ∀ (d : PyData) (k : NestedKey), nkey d = some k → k.data = d
  | .none, _, e => by
    rw [nkey] at e
    cases e
    rw [NestedKey.data]
  | .int i, _, e => by
    rw [nkey] at e
    cases e
    rw [NestedKey.data]
  | .str x, _, e => by
    rw [nkey] at e
    cases e
    rw [NestedKey.data]
  | .tuple ds, _, e => by
    rw [nkey] at e
    cases q : nkeys ds with
    | none => rw [q] at e; cases e
    | some ks =>
      rw [q] at e
      cases e
      rw [NestedKey.data, nkeys_data ds ks q]
  | .bool _, _, e => by rw [nkey] at e; cases e
  | .list _, _, e => by rw [nkey] at e; cases e
  | .dict _, _, e => by rw [nkey] at e; cases e
theorem nkeys_data : ∀ (ds : List PyData) (ks : List NestedKey), nkeys ds = some ks → NestedKey.datas ks = ds
  | [], _, e => by
    rw [nkeys] at e
    cases e
    rw [NestedKey.datas]
  | d :: ds, _, e => by
    obtain ⟨k, ks, e1, e2, rfl⟩ := nkeys_cons e
    rw [NestedKey.datas, nkey_data d k e1, nkeys_data ds ks e2]
end

/-! ### the set of ints of a list, the set of tuples of a list -/
section
variable {P : Program} {w : World} {A : Around} {E : Value → Shared → Prop} {s : Shared}
theorem call_setI {l : Addr} {items : Array Value} {ns : List Int} {Q : Value → Shared → Prop} (hh : A.handled = none) (hl : s.heap.IsList l items) (hi : ∀ (i : Nat) (v : Value), items[i]? = some v → ∃ t, v = Value.int (ns.getD i 0) t) (hn : ns.length = items.size) (hfew : items.size < 4000)
    (h : ∀ (h' : Heap) (tk n : Nat), SetR w h' s.heap.objs.size (fun k => ns.any (· == k)) n → n ≤ items.size → (∀ b o, s.heap.get? b = some o → h'.get? b = some o) → Q (.ref s.heap.objs.size) { s with heap := h', toks := tk }) :
    wpAny (model P w) A (call (.type "set") [.ref l]) Q E s := by
  refine call_set_gen (fun i h' => ∃ n, SetR w h' s.heap.objs.size (fun k => (ns.take i).any (· == k)) n ∧ n ≤ i) hh hl (fun i h1 h2 g k _ => ?_) (fun h1 e _ => ?_) (fun i v s' A' E' Q' hA hlt hv g kp q => ?_) (fun h' tk g kp => ?_)
  · obtain ⟨n, R, le⟩ := g
    exact ⟨n, R.at k, le⟩
  · refine ⟨0, ?_, Nat.le_refl _⟩
    refine SetR.congr (S := fun _ => false) ⟨_, #[], 0, _, e, ⟨rfl, rfl, rfl⟩, rfl, (fun e he => by simp at he), (by simp), (fun k => by simp), (by decide), (by rfl), rfl, List.Pairwise.nil, ?_⟩ fun k => by simp
    show _ ∨ (!w.params.followText "set-order") = true
    cases w.params.followText "set-order"
    · exact .inr rfl
    · exact .inl rfl
  · obtain ⟨t, rfl⟩ := hi i v hv
    obtain ⟨n, R, le⟩ := g
    unfold setAdd
    refine wpAny_holding ?_
    refine wpAny_bind ((intKind P w).pyHash (intKind_is P w _ t) ?_)
    refine setR_add_hashed (s := { s' with toks := s'.toks + 1 }) R (by unfold scanBound; omega) fun h' sb r => ?_
    refine q _ h' (s'.toks + 1) (Nat.le_succ _) sb ⟨_, SetR.congr r fun k => ?_, ?_⟩
    · have hx : i < ns.length := by omega
      have hg : ns[i]? = some (ns.getD i 0) := by rw [List.getD_eq_getElem?_getD, List.getElem?_eq_getElem hx]; rfl
      rw [take_next hg, List.any_append]
      by_cases e : k = ns.getD i 0
      · subst e; simp
      · have e' : (ns.getD i 0 == k) = false := by simpa using fun z => e z.symm
        rw [List.any_cons, e', List.any_nil, decide_eq_false e]; simp
    · split <;> omega
  · obtain ⟨n, R, le⟩ := g
    rw [← hn, List.take_length] at R
    exact h h' tk n R le kp
theorem call_setN {l : Addr} {items : Array Value} (ks : Rw) {Q : Value → Shared → Prop} (hh : A.handled = none) (hl : s.heap.IsList l items) (hit : items.toList = ks.map fun p => Value.ref p.1)
    (hk : ∀ p ∈ ks, IsN P w s.heap p.2 p.1) (hfew : ks.length < 64) (hu : A.units + 12 < cLine)
    (h : ∀ (h' : Heap) (tk : Nat) L es ep t, SN P w h' s.heap.objs.size L es ep t → (∀ p ∈ L, p ∈ ks) → (∀ p ∈ ks, p.2 ∈ L.map (·.2)) → (∀ b o, s.heap.get? b = some o → h'.get? b = some o) → Q (.ref s.heap.objs.size) { s with heap := h', toks := tk }) :
    wpAny (model P w) A (call (.type "set") [.ref l]) Q E s := by
  have hsz : items.size = ks.length := by
    have q := congrArg List.length hit
    rw [Array.length_toList, List.length_map] at q
    exact q
  refine call_set_gen (fun i h' => (∀ b o, s.heap.get? b = some o → h'.get? b = some o) ∧ ∃ L es ep t, SN P w h' s.heap.objs.size L es ep t ∧ (∀ p ∈ L, p ∈ ks.take i) ∧ (∀ p ∈ ks.take i, p.2 ∈ L.map (·.2)) ∧ L.length ≤ i) hh hl (fun i h1 h2 g k kp => ?_) (fun h1 e kp => ?_) (fun i v s' A' E' Q' hA hlt hv g kp q => ?_) (fun h' tk g kp => ?_)
  · obtain ⟨_, L, es, ep, t, R, g1, g2, g3⟩ := g
    obtain ⟨o, ho, r⟩ := R.ob
    exact ⟨kp, L, es, ep, t, ⟨⟨o, k o ho, r⟩, R.rows, R.tab, R.nd, fun p hp => (hk p (List.mem_of_mem_take (g1 p hp))).keep kp, R.led, R.room, R.few⟩, g1, g2, g3⟩
  · refine ⟨kp, [], #[], 0, _, ⟨⟨_, e, ⟨rfl, rfl, rfl⟩, rfl⟩, rfl, ⟨List.Pairwise.nil, rfl, rfl, .inl rfl, fun x hx => (by cases hx), fun i h j hi => (by simp at hi)⟩, List.nodup_nil, fun p hp => (by cases hp), ?_, by show 0 * 5 < 7 * 3; decide, by decide⟩, fun p hp => (by cases hp), fun p hp => (by simp at hp), Nat.le_refl _⟩
    show _ ∨ (!w.params.followText "set-order") = true
    cases w.params.followText "set-order"
    · exact .inr rfl
    · exact .inl rfl
  · obtain ⟨_, L, es, ep, t, R, g1, g2, g3⟩ := g
    have hq : items.toList[i]? = some v := by rw [Array.getElem?_toList]; exact hv
    rw [hit, List.getElem?_map] at hq
    cases hp : ks[i]? with
    | none => rw [hp] at hq; cases hq
    | some p =>
      rw [hp] at hq
      obtain rfl := (Option.some.inj hq).symm
      have hx : IsN P w s'.heap p.2 p.1 := (hk p (List.mem_of_getElem? hp)).keep kp
      have hxs := take_next hp
      unfold setAdd
      refine wpAny_holding ?_
      refine wpAny_bind ((nestedKind P w).pyHash (by show A'.units + 8 < cLine; omega) hx ?_)
      have htk : s'.toks ≤ s'.toks + (nestedKind P w).draws p.2 := Nat.le_add_right _ _
      refine R.add (s := { s' with toks := s'.toks + (nestedKind P w).draws p.2 }) hx (by omega) (by omega) fun b h' L' es' ep' t' hsb R2 c1 c2 => ?_
      have none_of : s.heap.get? s.heap.objs.size = none := by
        cases q : s.heap.get? s.heap.objs.size with
        | none => rfl
        | some o => exact absurd (Heap.lt_size q) (Nat.lt_irrefl _)
      refine q b h' _ htk hsb ⟨fun b o e => (hsb.2 b (fun z => by rw [z, none_of] at e; cases e)).trans (kp b o e), L', es', ep', t', R2, ?_⟩
      rw [hxs]
      rcases Classical.em (p.2 ∈ L.map (·.2)) with c | c
      · rw [c1 c]
        refine ⟨fun x hx => List.mem_append_left _ (g1 x hx), fun x hx => ?_, Nat.le_succ_of_le g3⟩
        rcases List.mem_append.mp hx with z | z
        · exact g2 x z
        · rw [List.mem_singleton.mp z]; exact c
      · have pm := c2 c
        refine ⟨fun x hx => ?_, fun x hx => ?_, by rw [pm.length_eq, List.length_cons]; exact Nat.succ_le_succ g3⟩
        · rcases List.mem_cons.mp (pm.mem_iff.mp hx) with e | z
          · rw [e]; exact List.mem_append_right _ (List.mem_singleton.mpr rfl)
          · exact List.mem_append_left _ (g1 x z)
        · rw [(pm.map (·.2)).mem_iff, List.map_cons]
          rcases List.mem_append.mp hx with z | z
          · exact List.mem_cons_of_mem _ (g2 x z)
          · rw [List.mem_singleton.mp z]; exact List.mem_cons_self
  · obtain ⟨_, L, es, ep, t, R, g1, g2, g3⟩ := g
    rw [hsz, List.take_length] at g1 g2
    exact h h' tk L es ep t R g1 g2 kp
mutual
theorem reads_there {h : Heap} : ∀ {d : PyData} {v : Value} {as : List Addr}, Reads h v d as → ∀ a ∈ as, ∃ o, h.get? a = some o
  | _, _, _, .none, _, ha => by cases ha
  | _, _, _, .bool _, _, ha => by cases ha
  | _, _, _, .int _ _, _, ha => by cases ha
  | _, _, _, .str _ _, _, ha => by cases ha
  | _, _, _, .list h1 _ _ h4, a, ha => by
    rcases List.mem_cons.mp ha with rfl | ha
    · exact ⟨_, h1⟩
    · exact readsAll_there h4 a ha
  | _, _, _, .tuple _ _ _ h4, a, ha => readsAll_there h4 a ha
  | _, _, _, .dict h1 _ _ h4 h5, a, ha => by
    rcases List.mem_append.mp ha with ha | ha
    · rcases List.mem_cons.mp ha with rfl | ha
      · exact ⟨_, h1⟩
      · exact readsAll_there h4 a ha
    · exact readsAll_there h5 a ha
theorem readsAll_there {h : Heap} : ∀ {ds : List PyData} {vs : List Value} {as : List Addr}, ReadsAll h vs ds as → ∀ a ∈ as, ∃ o, h.get? a = some o
  | _, _, _, .nil, _, ha => by cases ha
  | _, _, _, .cons h1 h2, a, ha => by
    rcases List.mem_append.mp ha with ha | ha
    · exact reads_there h1 a ha
    · exact readsAll_there h2 a ha
end
theorem perm_of_map {α β : Type} (f : α → β) {vs ws : List β} (h : vs.Perm ws) : ∀ L : List α, ws = L.map f → ∃ L1 : List α, L1.Perm L ∧ vs = L1.map f := by
  induction h with
  | nil =>
    intro L e
    exact ⟨L, .refl _, e⟩
  | cons x _ ih =>
    intro L e
    cases L with
    | nil => cases e
    | cons y L =>
      rw [List.map_cons, List.cons.injEq] at e
      obtain ⟨rfl, e⟩ := e
      obtain ⟨L1, p, q⟩ := ih L e
      exact ⟨y :: L1, p.cons _, by rw [List.map_cons, q]⟩
  | swap x y l =>
    intro L e
    match L, e with
    | a :: b :: L, e =>
      rw [List.map_cons, List.map_cons, List.cons.injEq, List.cons.injEq] at e
      obtain ⟨rfl, rfl, rfl⟩ := e
      exact ⟨b :: a :: L, .swap _ _ _, rfl⟩
  | trans _ _ ih1 ih2 =>
    intro L e
    obtain ⟨L1, p1, q1⟩ := ih2 L e
    obtain ⟨L2, p2, q2⟩ := ih1 L1 q1
    exact ⟨L2, p2.trans p1, q2⟩
abbrev dkey (p : Addr × NestedKey) : PyData := p.2.data
theorem sorted_sn {a : Addr} {L : Rw} {es : Array (Int × Value)} {ep : Nat} {t : SetTable} {Q : Value → Shared → Prop} (R : SN P w s.heap a L es ep t) (hh : A.handled = none)
    (hr : ∀ p ∈ L, ∃ as, Reads s.heap (.ref p.1) (dkey p) as) (hal : PySem.W.AllAlike (L.map dkey)) (hk : PySem.W.Sortable (L.map dkey)) (hu : ∀ p ∈ L, A.units + 2 + (dkey p).depth < cLine)
    (hQ : ∀ s' p (out : Array Value) (c : Nat) (L' : Rw), (∀ b o, s.heap.get? b = some o → s'.heap.get? b = some o) → s'.gens = s.gens → s'.os = s.os → s.heap.objs.size ≤ p →
      s'.heap.get? p = some (seqObj "list" out c) → out.toList = L'.map (fun q => Value.ref q.1) → L'.Perm L → L'.Pairwise (fun x y => PySem.W.dataLe false dkey x y = true) → Q (.ref p) s') :
    wpAny (model P w) A (call (.builtin "sorted") [.ref a]) Q E s := by
  obtain ⟨o, ho, hex, hd⟩ := R.ob
  have hsz := rws_len R.rows
  have hfew := R.few
  refine Calls.call_function_entry kind_sorted plain_sorted entry_sorted (args_sorted1 _) ?_
  unfold Builtin.«sorted»
  refine wpAny_bind (m := checkCount "sorted" 1 1 _) (wpAny_pure ?_)
  refine wpAny_bind (collect_set (A := A.in1) hh ⟨o, ho, hex.1, hd⟩ R.fits (by unfold scanBound; omega) R.tab.ris R.led fun s1 vs k1 hz g1 o1 pm => ?_)
  have hes : es.toList.map (·.2) = L.map fun q => Value.ref q.1 := by
    rw [R.rows]
    unfold rws
    rw [List.map_map] <;> rfl
  rw [hes] at pm
  obtain ⟨L1, p1, rfl⟩ := perm_of_map (fun q : Addr × NestedKey => Value.ref q.1) pm L rfl
  have hl1 : L1.length < 64 := by rw [p1.length_eq]; exact hfew
  refine wpAny_bind (wpAny_newList ?_ (by rw [List.length_map, sizeLine_eq]; omega))
  have hoL : (s1.heap.push (seqObj "list" (L1.map fun q => Value.ref q.1).toArray 0)).get? s1.heap.objs.size = some (seqObj "list" (L1.map fun q => Value.ref q.1).toArray 0) := Heap.get?_push_size _ rfl
  have each : ∀ (M : Rw) (T : Value → Addr × NestedKey → Prop), (∀ p ∈ M, T (.ref p.1) p) → PySem.W.EachIs T (M.map fun q => Value.ref q.1) M := by
    intro M T
    induction M with
    | nil => intro _; exact .nil
    | cons p M ih => intro hM; exact .cons (hM p List.mem_cons_self) (ih fun q hq => hM q (List.mem_cons_of_mem _ hq))
  have none_of : s.heap.get? s1.heap.objs.size = none := by
    cases q : s.heap.get? s1.heap.objs.size with
    | none => rfl
    | some o => exact absurd (Nat.lt_of_lt_of_le (Heap.lt_size q) hz) (Nat.lt_irrefl _)
  have mapP : (L1.map dkey).Perm (L.map dkey) := p1.map _
  refine wpAny_bind (wpAny_holding (PySem.W.list_sort_data (s := { s1 with heap := s1.heap.push (seqObj "list" (L1.map fun q => Value.ref q.1).toArray 0) }) (bs := L1) (enc := dkey) (R := fun v p => v = Value.ref p.1) hoL (each L1 _ fun _ _ => rfl) (each L1 _ fun p hp => ?_)
    (fun d hd d' hd' => hal d (mapP.mem_iff.mp hd) d' (mapP.mem_iff.mp hd')) (hk.imp (fun z d hd => z d (mapP.mem_iff.mp hd)) fun z d hd => z d (mapP.mem_iff.mp hd)) (by rw [sizeLine_eq]; omega) (fun p hp => by have := hu p (p1.mem_iff.mp hp); simp only [Around.in1_units]; omega) fun out lo eo => ?_))
  · obtain ⟨as, r⟩ := hr p (p1.mem_iff.mp hp)
    refine ⟨as, PyProof.Rows.Reads.keeps (fun b u e => Heap.get?_push_of_some _ (k1 b u e)) r, fun hm => ?_⟩
    obtain ⟨ob, e⟩ := reads_there r _ hm
    rw [none_of] at e
    cases e
  · obtain ⟨c, hc⟩ := sortedHeap_at (vs := L1.map fun q => Value.ref q.1) (out := out.toArray) hoL
    have outE : ∀ {vs : List Value} {M : Rw}, PySem.W.EachIs (fun v (p : Addr × NestedKey) => v = Value.ref p.1) vs M → vs = M.map fun q => Value.ref q.1 := by
      intro vs M h
      induction h with
      | nil => rfl
      | cons h _ ih => rw [List.map_cons, h, ih]
    refine wpAny_pure ⟨_, rfl, hQ _ s1.heap.objs.size out.toArray c (L1.mergeSort (PySem.W.dataLe false dkey)) (fun b u e => ?_) g1 o1 hz hc (by simpa using outE eo) ((List.mergeSort_perm _ _).trans p1) (PySem.W.sort_pairwise (PySem.W.sortLe_total _ _ _) _)⟩
    have q := k1 b u e
    have hlt := Heap.lt_size q
    show (sortedHeap (s1.heap.push (seqObj "list" (L1.map fun q => Value.ref q.1).toArray 0)) s1.heap.objs.size _ _).get? b = some u
    rw [sortedHeap_old (Nat.ne_of_lt hlt) (by rw [size_push']; exact Nat.lt_succ_of_lt hlt)]
    exact Heap.get?_push_of_some _ q
end
end NS

namespace NS
open PySem PySem.Spec PyProof.Rows L2
/-! ### over the layer -/
structure SN0 (w : World) (h : Heap) (a : Addr) (L : Rw) : Prop where
  ex : ∃ (es : Array (Int × Value)) (ep : Nat) (t : SetTable), (∃ o, h.get? a = some o ∧ o.ExactSet ∧ o.data = .set es ep t) ∧ es.toList = rws w L ∧ TabOk t (L.map fun p => p.2.hash w) ∧ (L.map (·.2)).Nodup ∧
    (w.params.followText "set-order" = true ∨ t.led = true) ∧ L.length * 5 < t.mask * 3 ∧ L.length < 64
def SNO (w : World) (a : Addr) (L : Rw) : HO := .ext fun h => SN0 w h a L
theorem SN.t0 {P : Program} {w : World} {h : Heap} {a : Addr} {L : Rw} {es : Array (Int × Value)} {ep : Nat} {t : SetTable} (R : SN P w h a L es ep t) : SN0 w h a L :=
  ⟨es, ep, t, R.ob, R.rows, R.tab, R.nd, R.led, R.room, R.few⟩
theorem SN0.full {P : Program} {w : World} {h : Heap} {a : Addr} {L : Rw} (R : SN0 w h a L) (ht : ∀ p ∈ L, IsN P w h p.2 p.1) : ∃ es ep t, SN P w h a L es ep t := by
  obtain ⟨es, ep, t, h1, h2, h3, h4, h6, h7, h8⟩ := R.ex
  exact ⟨es, ep, t, h1, h2, h3, h4, ht, h6, h7, h8⟩
theorem sno_new {P : Program} {w : World} {H : Hp} {h : Heap} {a : Addr} {L : Rw} (R : SN0 w h a L) : ObjOk P w H h a (SNO w a L) := by
  have ⟨es, ep, t, ⟨o, ho, r⟩, q⟩ := R.ex
  refine ⟨R, ⟨o, ho⟩, fun h1 h2 p k => ?_⟩
  have ⟨es', ep', t', ⟨o', ho', r'⟩, q'⟩ := SN0.ex p
  exact ⟨es', ep', t', ⟨o', k o' ho', r'⟩, q'⟩
section
variable {X : Cx}
/-- the tuple at p.1 is the key p.2 -/
def KeyAt (K : PySem.W.Frag) (H : Hp) (p : Addr × NestedKey) : Prop := ∃ d, Dp K H (.ref p.1) d ∧ nkey d = some p.2 ∧ p.2.depth ≤ 8
theorem KeyAt.reads {pins : List (Addr × Obj)} {σ : L2.St} {H : Hp} {s : Shared} {p : Addr × NestedKey} (I : Inv X pins σ H s) (h : KeyAt X.K H p) : ∃ as, Reads s.heap (.ref p.1) p.2.data as := by
  obtain ⟨d, h1, h2, _⟩ := h
  obtain ⟨as, r⟩ := Dp.reads I d (.ref p.1) (.ref p.1) h1 rfl
  rw [nkey_data d _ h2]
  exact ⟨as, r⟩
theorem KeyAt.is {pins : List (Addr × Obj)} {σ : L2.St} {H : Hp} {s : Shared} {p : Addr × NestedKey} (I : Inv X pins σ H s) (h : KeyAt X.K H p) : IsN X.prog X.w s.heap p.2 p.1 := by
  obtain ⟨d, h1, h2, h3⟩ := h
  obtain ⟨as, r⟩ := Dp.reads I d (.ref p.1) (.ref p.1) h1 rfl
  exact ⟨nkey_is d _ as _ r h2, h3⟩
theorem refs_vals : ∀ {ks : Rw} {us : List Value}, Vals (ks.map fun p => V.ref p.1) us → us = ks.map fun p => Value.ref p.1
  | [], _, .nil => rfl
  | p :: ks, _, .cons r t => by
    cases r
    rw [refs_vals t] <;> rfl
theorem vals_refs : ∀ (ks : Rw), Vals (ks.map fun p => V.ref p.1) (ks.map fun p => Value.ref p.1)
  | [] => .nil
  | p :: ks => .cons rfl (vals_refs ks)
def rSetN (K : PySem.W.Frag) (w : World) : List V → Hp → VK → Prop := fun xs H Q => ∃ (l : Addr) (ks : Rw), xs = [V.ref l] ∧ SqL K H l (ks.map fun p => V.ref p.1) ∧ (∀ p ∈ ks, KeyAt K H p) ∧ ks.length < 64 ∧
  ∀ a L, H a = none → (∀ p ∈ L, p ∈ ks) → (∀ p ∈ ks, p.2 ∈ L.map (·.2)) → (L.map (·.2)).Nodup → Q (.ref a) (upd H a (SNO w a L))
theorem cr_setN (hc : X.calm = true) (hu : X.A.units + 64 < cLine) : CallR X (.type "set") (rSetN X.K X.w) := by
  intro pins s σ H xs us Q I r h
  obtain ⟨l, ks, rfl, hl, hk, hf, q⟩ := h
  rw [Vals.ref1 r]
  obtain ⟨its, rv, pl, hz⟩ := I.list hl
  have hn : H s.heap.objs.size = none := I.hok.fresh (Nat.le_refl _)
  refine call_setN (P := X.prog) (w := X.w) ks (I.ok.hd hc) pl.isList (by simpa using refs_vals rv) (fun p hp => (hk p hp).is I) hf (by omega) fun h' tk L es ep t R g1 g2 k => ?_
  exact ⟨.ref s.heap.objs.size, upd H s.heap.objs.size (SNO X.w s.heap.objs.size L), I.laid (t' := tk) k (Nat.le_refl _) (sno_new R.t0), rfl, q _ L hn g1 g2 R.nd⟩
def rSetI (K : PySem.W.Frag) (w : World) : List V → Hp → VK → Prop := fun xs H Q => ∃ (l : Addr) (ns : List Int), xs = [V.ref l] ∧ SqL K H l (ns.map V.int) ∧ ns.length < 4000 ∧
  ∀ a n, H a = none → n ≤ ns.length → Q (.ref a) (upd H a (SetO w a (fun k => ns.any (· == k)) n))
theorem ints_get : ∀ {ns : List Int} {us : List Value}, Vals (ns.map V.int) us → us.length = ns.length ∧ ∀ (i : Nat) (v : Value), us[i]? = some v → ∃ t, v = Value.int (ns.getD i 0) t
  | [], _, .nil => ⟨rfl, fun i v h => by simp at h⟩
  | n :: ns, _, .cons r t => by
    obtain ⟨tk, rfl⟩ := r
    obtain ⟨l, ih⟩ := ints_get t
    refine ⟨by simp [l], fun i v h => ?_⟩
    cases i with
    | zero =>
      simp at h
      exact ⟨tk, h.symm⟩
    | succ i =>
      simp at h
      obtain ⟨t', e⟩ := ih i v h
      exact ⟨t', by simpa using e⟩
theorem cr_setI (hc : X.calm = true) : CallR X (.type "set") (rSetI X.K X.w) := by
  intro pins s σ H xs us Q I r h
  obtain ⟨l, ns, rfl, hl, hf, q⟩ := h
  rw [Vals.ref1 r]
  obtain ⟨its, rv, pl, hz⟩ := I.list hl
  obtain ⟨le, hi⟩ := ints_get rv
  have hn : H s.heap.objs.size = none := I.hok.fresh (Nat.le_refl _)
  refine call_setI (P := X.prog) (w := X.w) (ns := ns) (I.ok.hd hc) pl.isList (fun i v e => hi i v (by simpa using e)) (by simp [le]) (by simp [le]; exact hf) fun h' tk n R g k => ?_
  exact ⟨.ref s.heap.objs.size, upd H s.heap.objs.size (SetO X.w s.heap.objs.size (fun k => ns.any (· == k)) n), I.laid (t' := tk) k (Nat.le_refl _) (setO_new R), rfl, q _ n hn (by simpa [le] using g)⟩
def rSortedN (K : PySem.W.Frag) (w : World) : List V → Hp → VK → Prop := fun vs H Q => ∃ (a : Addr) (L : Rw), vs = [V.ref a] ∧ H a = some (SNO w a L) ∧ (∀ p ∈ L, KeyAt K H p) ∧ PySem.W.AllAlike (L.map dkey) ∧ PySem.W.Sortable (L.map dkey) ∧ (∀ p ∈ L, (dkey p).depth ≤ 8) ∧
  ∀ (L' : Rw) (p : Addr), L'.Perm L → L'.Pairwise (fun x y => PySem.W.dataLe false dkey x y = true) → H p = none → Q (.ref p) (upd H p (.lst (L'.map fun q => V.ref q.1)))
theorem cr_sortedN (hc : X.calm = true) (hu : X.A.units + 64 < cLine) : CallR X (.builtin "sorted") (rSortedN X.K X.w) := by
  intro pins s σ H vs us Q I r h
  obtain ⟨a, L, rfl, ha, hk, hal, hso, hdp, q⟩ := h
  have R0 : SN0 X.w s.heap a L := (I.hok a _ ha).1
  obtain ⟨es, ep, t, R⟩ := R0.full (P := X.prog) fun p hp => (hk p hp).is I
  rw [Vals.ref1 r]
  refine sorted_sn R (I.ok.hd hc) (fun p hp => (hk p hp).reads I) hal hso (fun p hp => by have := hdp p hp; omega) fun s' p out c L' k g o hp hg hout pm pw => ?_
  have hfew : L'.length < 64 := by rw [pm.length_eq]; exact R.few
  have hlen : (L'.map fun q => V.ref q.1).length ≤ sizeLine := by rw [List.length_map, sizeLine_eq]; omega
  have hn : H p = none := I.hok.fresh hp
  have hv : Vals (L'.map fun q => V.ref q.1) out.toList := by rw [hout]; exact vals_refs L'
  have J : Inv X pins σ (upd H p (.lst (L'.map fun q => V.ref q.1))) { s with heap := s'.heap, gens := s'.gens, drawn := s'.drawn, toks := s'.toks } :=
    I.call (ch := []) (Un.laid k hp hn) (I.hok.laid k hp ⟨hlen, out.toList, c, hv, hg⟩) (by rw [g]; exact I.bare) (fun _ z => nomatch z)
  have e : s' = { s with heap := s'.heap, gens := s'.gens, drawn := s'.drawn, toks := s'.toks } := by
    cases s'
    cases s
    cases o
    rfl
  rw [e]
  exact ⟨.ref p, _, J, rfl, q L' p pm pw hn⟩
end

/-! ### the order is one -/
mutual
theorem toks_inj : ∀ (x y : PyData) (kx ky : NestedKey) (l m : List (Int ⊕ List Nat)), PySem.W.alike x y = true → nkey x = some kx → nkey y = some ky → PySem.W.keyToks x ++ l = PySem.W.keyToks y ++ m → x = y ∧ l = m
  | .none, y, kx, ky, l, m, ha, hx, hy, e => by
    cases y with
    | none => exact ⟨rfl, e⟩
    | _ => simp [PySem.W.alike] at ha
  | .int i, y, kx, ky, l, m, ha, hx, hy, e => by
    cases y with
    | int j =>
      simp [PySem.W.keyToks] at e
      exact ⟨by rw [e.1], e.2⟩
    | _ => simp [PySem.W.alike] at ha
  | .str i, y, kx, ky, l, m, ha, hx, hy, e => by
    cases y with
    | str j =>
      simp only [PySem.W.keyToks, List.cons_append, List.nil_append, List.cons.injEq, Sum.inr.injEq] at e
      exact ⟨by rw [PySem.W.str_of_cps e.1], e.2⟩
    | _ => simp [PySem.W.alike] at ha
  | .tuple xs, y, kx, ky, l, m, ha, hx, hy, e => by
    cases y with
    | tuple ys =>
      rw [nkey] at hx hy
      cases q1 : nkeys xs with
      | none => rw [q1] at hx; cases hx
      | some k1 =>
        cases q2 : nkeys ys with
        | none => rw [q2] at hy; cases hy
        | some k2 =>
          obtain ⟨a, b⟩ := toksAll_inj xs ys k1 k2 l m (by simpa [PySem.W.alike] using ha) q1 q2 (by simpa [PySem.W.keyToks] using e)
          exact ⟨by rw [a], b⟩
    | _ => simp [PySem.W.alike] at ha
  | .bool _, _, _, _, _, _, _, e, _, _ => by rw [nkey] at e; cases e
  | .list _, _, _, _, _, _, _, e, _, _ => by rw [nkey] at e; cases e
  | .dict _, _, _, _, _, _, _, e, _, _ => by rw [nkey] at e; cases e
theorem toksAll_inj : ∀ (xs ys : List PyData) (kx ky : List NestedKey) (l m : List (Int ⊕ List Nat)), PySem.W.alikeAll xs ys = true → nkeys xs = some kx → nkeys ys = some ky → PySem.W.keyToksAll xs ++ l = PySem.W.keyToksAll ys ++ m → xs = ys ∧ l = m
  | [], [], _, _, l, m, _, _, _, e => by
    simp [PySem.W.keyToksAll] at e
    exact ⟨rfl, e⟩
  | [], y :: ys, _, _, l, m, _, _, _, e => by simp [PySem.W.keyToksAll] at e
  | x :: xs, [], _, _, l, m, _, _, _, e => by simp [PySem.W.keyToksAll] at e
  | x :: xs, y :: ys, _, _, l, m, ha, hx, hy, e => by
    obtain ⟨a1, a2⟩ := PySem.W.alike_all_cons ha
    obtain ⟨k1, r1, e1, e2, rfl⟩ := nkeys_cons hx
    obtain ⟨k2, r2, f1, f2, rfl⟩ := nkeys_cons hy
    rw [PySem.W.toks_all_cons, PySem.W.toks_all_cons] at e
    simp only [List.cons_append, List.cons.injEq, true_and, List.append_assoc] at e
    obtain ⟨p, q⟩ := toks_inj x y k1 k2 _ _ a1 e1 f1 e
    obtain ⟨p2, q2⟩ := toksAll_inj xs ys r1 r2 l m a2 e2 f2 q
    exact ⟨by rw [p, p2], q2⟩
end
abbrev le0 : PyData → PyData → Bool := PySem.W.dataLe false id
theorem le0_lt {x y : PyData} : le0 x y = !PySem.W.dataLt y x := rfl
theorem le0_anti {x y : PyData} {kx ky : NestedKey} (ha : PySem.W.alike x y = true) (hx : nkey x = some kx) (hy : nkey y = some ky) (h1 : le0 x y = true) (h2 : le0 y x = true) : x = y := by
  have e : PySem.W.keyToks x = PySem.W.keyToks y := (PyProof.Rows.listOrd PyProof.Rows.itemOrd).total _ _ (by simpa [le0_lt, PySem.W.dataLt] using h2) (by simpa [le0_lt, PySem.W.dataLt] using h1)
  exact (toks_inj x y kx ky [] [] ha hx hy (by rw [List.append_nil, List.append_nil, e])).1
theorem le0_strict {x y : PyData} {kx ky : NestedKey} (ha : PySem.W.alike x y = true) (hx : nkey x = some kx) (hy : nkey y = some ky) (h1 : le0 x y = true) (ne : x ≠ y) : PySem.W.dataLt x y = true := by
  cases q : PySem.W.dataLt x y with
  | true => rfl
  | false => exact absurd (le0_anti ha hx hy h1 (by rw [le0_lt, q]; rfl)) ne
theorem sort_one {l m : List PyData} (hk : ∀ d ∈ m, ∃ k, nkey d = some k) (hal : PySem.W.AllAlike m) (hp : l.Perm m) (hw : l.Pairwise fun x y => le0 x y = true) : l = m.mergeSort le0 := by
  have hp2 : l.Perm (m.mergeSort le0) := hp.trans (List.mergeSort_perm _ _).symm
  refine hp2.eq_of_pairwise (fun a b ha hb h1 h2 => ?_) hw (PySem.W.sort_pairwise (PySem.W.sortLe_total _ _ _) _)
  have ma := hp.mem_iff.mp ha
  have mb := (List.mergeSort_perm m le0).mem_iff.mp hb
  obtain ⟨ka, ea⟩ := hk a ma
  obtain ⟨kb, eb⟩ := hk b mb
  exact le0_anti (hal a ma b mb) ea eb h1 h2
end NS

/-! star targets -/
namespace DLS
open PySem PySem.Spec PySem.W PySem.Calls PyProof.Rows L2
section
variable {X : Cx}
theorem unpack_starT {prog : Program} {w : World} {A : Around} {E : Value → Shared → Prop} {s : Shared} {l : Addr} {items : Array Value} {n i : Nat} {Q : List Value → Shared → Prop} (hl : IsTup s.heap l items) (hh : A.handled = none) (hi : i < n) (hn : n ≤ items.size + 1) (hz : items.size ≤ 16384)
    (h : ∀ (h' : Heap) (tk : Nat), (∀ b o, s.heap.get? b = some o → h'.get? b = some o) →
      Q (items.toList.take i ++ [.ref h'.objs.size] ++ (items.toList.drop i).drop (items.size + 1 - n)) { s with heap := h'.push { cls := .type "list", data := .seq ((items.toList.drop i).take (items.size + 1 - n)).toArray }, toks := tk }) : wpAny (model prog w) A (unpackItems (.ref l) n (some i)) Q E s := by
  have hlt : l ≠ s.heap.objs.size := by obtain ⟨o, ho, _⟩ := hl; exact Nat.ne_of_lt (Heap.lt_size ho)
  unfold unpackItems
  refine wpAny_bind ?_
  unfold notIterableAtAll
  refine wpAny_bind (wpAny_specialOf hl.typeIs slot_tuple_iter.lookup ?_)
  refine wpAny_pure ?_
  simp only [Bool.false_eq_true, if_false]
  refine wpAny_bind (wpAny_holding (iter_tuple hl ?_))
  refine wpAny_bind (wpAny_holding (draw_tuple hlt i 0 _ _ ⟨_, Heap.get?_push_size _ rfl, rfl, rfl⟩ (hl.push _) (by omega) fun h₁ hit₁ hs₁ => ?_))
  have hl₁ : IsTup h₁ l items := (hl.push _).extBut hs₁.extBut hlt
  rw [Nat.zero_add] at hit₁
  have hit₁' := hit₁
  obtain ⟨oi, hoi, _⟩ := hit₁'
  have hl₁' := hl₁
  obtain ⟨ol, hol, _⟩ := hl₁'
  rw [List.drop_zero]
  have hfl : (items.toList.take i).length = i := by rw [List.length_take, Array.length_toList]; omega
  rw [if_neg (show ¬ ((items.toList.take i).length < i) by rw [hfl]; omega)]
  refine wpAny_bind (wpAny_holding (kun_collect (s := { s with heap := h₁ }) (T := "tuple_iterator") (.inr (.inr (.inr rfl))) (Walks.tuple (A := A.in1) hh s.heap.objs.size l hlt items) (fun j u st => st.1.typeIs) (k := i) (by omega) ⟨hit₁, hl₁⟩ (Heap.lt_size hoi) (Heap.lt_size hol) (fun h₂ tk hk => ?_) (by rw [sizeLine_eq]; omega)))
  have hrl : (items.toList.drop i).length = items.size - i := by rw [List.length_drop, Array.length_toList]
  have hmid : (items.toList.drop i).length - (n - 1 - i) = items.size + 1 - n := by rw [hrl]; omega
  show wpAny _ _ (if (items.toList.drop i).length < n - 1 - i then _ else _) _ _ _
  rw [if_neg (by rw [hrl]; omega)]
  show wpAny _ _ (newList ((items.toList.drop i).take ((items.toList.drop i).length - (n - 1 - i))) >>= fun d => pure (items.toList.take i ++ [d] ++ (items.toList.drop i).drop ((items.toList.drop i).length - (n - 1 - i)))) _ _ _
  rw [hmid]
  have hk2 : ∀ b o, s.heap.get? b = some o → h₂.get? b = some o := fun b o e => hk b o (Nat.ne_of_lt (Heap.lt_size e)) (hs₁.extBut b o (Nat.ne_of_lt (Heap.lt_size e)) (Heap.get?_push_of_some _ e))
  exact wpAny_bind (wpAny_newList (wpAny_pure (h h₂ tk hk2)) (by rw [List.length_take, hrl, sizeLine_eq]; omega))
def gTupS (K : PySem.W.Frag) (n i : Nat) (t : TGs) : TG := fun v σ H Q => ∃ a xs, v = .ref a ∧ SqT K H a xs ∧ n ≤ xs.length + 1 ∧ xs.length ≤ 16384 ∧ ∀ D, H D = none → t (xs.take i ++ [.ref D] ++ (xs.drop i).drop (xs.length + 1 - n)) σ (upd H D (.lst ((xs.drop i).take (xs.length + 1 - n)))) Q
theorem vals_take {xs : List V} {us : List Value} (h : Vals xs us) : ∀ n, Vals (xs.take n) (us.take n) := by
  induction h with
  | nil => intro n; simp; exact .nil
  | cons r _ ih =>
    intro n
    cases n with
    | zero => exact .nil
    | succ n => exact .cons r (ih n)
theorem vals_drop {xs : List V} {us : List Value} (h : Vals xs us) : ∀ n, Vals (xs.drop n) (us.drop n) := by
  induction h with
  | nil => intro n; simp; exact .nil
  | cons r t ih =>
    intro n
    cases n with
    | zero => exact .cons r t
    | succ n => exact ih n
theorem pg_star {es : List Expr} {k n i : Nat} {pos : Pos} {t : TGs} (hc : X.calm = true) (h : PGs X es t)
    (hn : (assignEach es X.env).length = n := by rfl) (hst : (assignEach es X.env).findIdx? (·.1) = some i := by rfl) (hi : i < n := by decide) : PG X (.Tuple es k pos) (gTupS X.K n i t) := by
  refine ⟨fun pins s σ H v u Q I r hw => ?_⟩
  obtain ⟨a, xs, e1, hq, hl, hz1, hw⟩ := hw
  subst e1
  cases r
  obtain ⟨its, rv, ht, hz⟩ := I.tuple hq
  have le := rv.length
  rw [assign_Tuple]
  refine wpAny_bind (wpAny_standAt ?_)
  unfold unpack
  rw [hn, hst]
  refine wpAny_bind (wpAny_holding (unpack_starT ht (I.ok.hd hc) hi (by simp [← le]; exact hl) (by simp [← le]; exact hz1) fun h' tk kp => ?_))
  have hsz : its.toArray.size = xs.length := by simp [le]
  rw [hsz]
  have hmid : Vals ((xs.drop i).take (xs.length + 1 - n)) ((its.drop i).take (xs.length + 1 - n)) := vals_take (vals_drop rv i) _
  have I0 : Inv X pins σ H { s with heap := h', toks := tk } := I.kept kp
  have I1 := I0.lnew (t' := tk) hmid (by rw [List.length_take, List.length_drop, sizeLine_eq]; omega)
  refine h.run pins _ σ _ _ _ Q I1 ?_ (hw _ I0.fresh)
  have r1 : Vals [V.ref h'.objs.size] [Value.ref h'.objs.size] := .cons (show RelV (V.ref h'.objs.size) (Value.ref h'.objs.size) from rfl) .nil
  exact ((vals_take rv i).append r1).append (vals_drop (vals_drop rv i) _)
theorem pgs_starCons {e : Expr} {p : Pos} {es : List Expr} {t : TG} {u : TGs} (h1 : PG X e t) (h2 : PGs X es u) : PGs X (.Starred e p :: es) (gCons t u) := by
  refine ⟨fun pins s σ H vs us Q I r h => ?_⟩
  obtain ⟨v, vr, e1, h⟩ := h
  subst e1
  cases r with
  | cons r rr =>
    show wpAny _ _ (assignInOrder (assign e X.env :: (assignEach es X.env).map (·.2)) _) _ _ _
    refine assignInOrder_cons (thn (h1.run pins s σ H _ _ _ I r h) fun _ s1 ⟨σ1, H1, I1, q1⟩ => ?_)
    exact h2.run pins s1 σ1 H1 _ _ Q I1 rr q1
end
end DLS

namespace DL
open PySem PySem.Spec L2

/-! ### what is never reached -/
def mNo {α : Type} : M α := fun _ => none
def sNo : MS := fun _ => none
section
variable {X : Cx} {pin : Pins} {W : WX} {a b c e : Expr} {es : List Expr} {pos p p2 q apos cpos : Pos} {f g h : M OV} {fs : M (List OV)} {st : Stmt} {sts : List Stmt}
theorem de_no : De X pin W e mNo := ⟨fun _ _ _ _ _ _ ⟨_, _, _, _, he, _⟩ => nomatch he⟩
theorem db_no : Db X pin W e mNo := ⟨fun _ _ _ _ _ _ ⟨_, _, _, _, he, _⟩ => nomatch he⟩
theorem ds_no : Ds X pin W st sNo := ⟨fun _ _ _ _ _ _ ⟨_, _, _, _, he, _⟩ => nomatch he⟩
theorem dss_no : Dss X pin W sts sNo := ⟨fun _ _ _ _ _ _ ⟨_, _, _, _, he, _⟩ => nomatch he⟩

/-! ### // and ** of ints -/
def divC (_ j : Int) : Bool := decide (0 < j) && decide (j < 1073741824)
abbrev divI := gI fun i j => if divC i j = true then some (.val (.int (i / j))) else none
theorem s2_div {K : PySem.W.Frag} : Sound2 K (rI CDiv fun i j => .int (i / j)) divI := s2_IC (fun i j h => by
  unfold divC at h
  rw [Bool.and_eq_true] at h
  exact ⟨of_decide_eq_true h.1, of_decide_eq_true h.2⟩) fun _ _ _ => .int _
def powC (i j : Int) : Bool := decide (2 ≤ i) && decide (1 ≤ j) && !Builtin.Int.intTooBig (((Builtin.Int.intBits i : Nat) : Int) * j)
abbrev powI := gI fun i j => if powC i j = true then some (.val (.int (i ^ j.toNat))) else none
theorem op_pow : OpR X (binaryOp .Pow) (rI (fun i j => powC i j = true) fun i j => .int (i ^ j.toNat)) := opI fun i j t u s Q E hc q => by
  unfold powC at hc
  rw [Bool.and_eq_true, Bool.and_eq_true] at hc
  obtain ⟨⟨h1, h2⟩, h3⟩ := hc
  have h1 := of_decide_eq_true h1
  have h2 := of_decide_eq_true h2
  refine AutoIntOps.pow_4 (by omega) ?_ ?_ ?_ (by simpa using h3) q
  · rw [beq_iff_eq]; omega
  · rw [Bool.or_eq_true, beq_iff_eq, beq_iff_eq]; omega
  · rw [beq_iff_eq]; omega
theorem s2_pow {K : PySem.W.Frag} : Sound2 K (rI (fun i j => powC i j = true) fun i j => .int (i ^ j.toNat)) powI := s2_IC (fun i j h => h) fun _ _ _ => .int _

/-! ### a list display of frozen things -/
def mLstF (fs : M (List OV)) : M OV := mB fs fun xs => mO (if sz xs.length = true then (OV.frzL xs).map fun ds => .lst (ds.map .val) else none)
theorem de_lstF (h : Da X pin W es fs) : De X pin W (.List es pos) (mLstF fs) := (pe_lst h).imp fun σ H Q ⟨env, ws, r, hR, he, hx, k⟩ => by
  refine dA_bind hR he hx fun xs env1 vs H1 l R1 he1 => ?_
  obtain ⟨z, e3, rfl⟩ := mO_some he1
  split at e3
  · rename_i hz
    cases q : OV.frzL xs with
    | none => rw [q] at e3; cases e3
    | some ds =>
      rw [q] at e3
      cases e3
      have R2 := Rl.under (q1 := vs.zip xs) (q2 := vs.zip (ds.map .val)) (fun ps r => R.frzL l q r) R1
      obtain ⟨ps, rr, back⟩ := Rl.fix (q1 := vs.zip (ds.map .val)) R2
      have ld : vs.length = ds.length := l.trans (frzL_len q)
      refine ⟨by rw [l]; exact sz_le hz, fun p hp => k _ _ rfl _ _ (back _ [(.ref p, .lst (ds.map .val))] ?_)⟩
      exact R.newL rr (by simpa using ld) hp
  · cases e3

/-! ### xs.reverse() of an owned list -/
theorem mtR_of {id : String} {r : V → List V → Hp → VK → Prop} (h : MtM X id r) : MtR X id r := h
theorem zip_rev {α β : Type} : ∀ {vs : List α} {xs : List β}, vs.length = xs.length → vs.reverse.zip xs.reverse = (vs.zip xs).reverse
  | [], [], _ => rfl
  | [], _ :: _, e => by simp at e
  | _ :: _, [], e => by simp at e
  | v :: vs, x :: xs, e => by
    have e' : vs.length = xs.length := by simpa using e
    rw [List.reverse_cons, List.reverse_cons, List.zip_append (by simpa using e'), zip_rev e']
    show _ ++ [(v, x)] = ((v, x) :: vs.zip xs).reverse
    rw [List.reverse_cons]
def mRev (i : Nat) : M OV := fun env => match env[i]? with
  | some (some (.lst xs)) => some (.ok (.val .none) (env.set i (some (.lst xs.reverse))))
  | _ => none
theorem de_rev {i : Nat} (ha : PE X a (tVar i)) (hbase : attributeBase a "reverse" X.env (eval a X.env) = eval a X.env := by rfl) (hline : (apos.endLine == cpos.line) = true := by rfl) :
    De X pin W (.Call (.Attribute a "reverse" apos) [] [] cpos) (mRev i) :=
  (pe_bm0 PySem.F.plainAttrs_list PySem.F.slot_list_reverse PySem.F.type_list_reverse (mtR_of mt_reverse) ha hbase hline).imp fun σ H Q ⟨env, ws, rr, hR, he, hx, k⟩ => by
    unfold mRev at he
    split at he
    · rename_i xs q0
      cases he
      obtain ⟨a0, vs, e0, h0, l, ps, r1, put⟩ := Rl.own (q1 := []) (ws := ws) q0 hR
      refine ⟨.ref a0, e0, .inl ⟨rfl, _, SqL.of h0⟩, a0, vs, rfl, rfl, h0, ?_⟩
      refine k _ _ rfl .non _ (Rl.add (fun _ => .non) ?_)
      refine put vs.reverse xs.reverse [] (by simp [l]) ?_
      have e : vs.reverse.zip xs.reverse = (vs.zip xs).reverse := zip_rev l
      rw [e]
      exact r1.perm (List.Perm.append_right _ (List.reverse_perm _).symm)
    · cases he

/-! ### sorted(set(xs)) -/
def nubK : List NestedKey → List NestedKey
  | [] => []
  | k :: ks => if k ∈ ks then nubK ks else k :: nubK ks
theorem mem_nub {x : NestedKey} : ∀ {ks : List NestedKey}, x ∈ nubK ks ↔ x ∈ ks
  | [] => Iff.rfl
  | k :: ks => by
    unfold nubK
    split
    · rename_i h
      rw [mem_nub, List.mem_cons]
      exact ⟨.inr, fun z => z.elim (fun e => e ▸ h) id⟩
    · rw [List.mem_cons, List.mem_cons, mem_nub]
theorem nub_nodup : ∀ (ks : List NestedKey), (nubK ks).Nodup
  | [] => List.nodup_nil
  | k :: ks => by
    unfold nubK
    split
    · exact nub_nodup ks
    · rename_i h
      exact List.nodup_cons.mpr ⟨fun z => h (mem_nub.mp z), nub_nodup ks⟩
def isTupD : Dt → Bool
  | .tuple (_ :: _) => true
  | _ => false
def setD (ds : List Dt) : Option (List Dt) := (NS.nkeys ds).map fun ks => (nubK ks).map NestedKey.data
def sortSetD : Dt → Option OV
  | .list ds => match intsD ds, setD ds with
    | some _, some es => if decide (ds.length < 64) = true then some (.lst ((es.mergeSort NS.le0).map .val)) else none
    | none, some es => if (decide (ds.length < 64) && ds.all isTupD && (ds.all fun x => ds.all fun y => PySem.W.alike x y) && ds.all fun x => decide (x.depth ≤ 8)) = true then some (.lst ((es.mergeSort NS.le0).map .val)) else none
    | _, none => none
  | _ => none
theorem nkeys_each : ∀ {ds : List Dt} {ks : List NestedKey}, NS.nkeys ds = some ks → (∀ d ∈ ds, ∃ k ∈ ks, NS.nkey d = some k) ∧ ∀ k ∈ ks, NS.nkey k.data = some k ∧ k.data ∈ ds
  | [], _, e => by
    rw [NS.nkeys] at e
    cases e
    exact ⟨fun d h => (by cases h), fun k h => (by cases h)⟩
  | d :: ds, _, e => by
    obtain ⟨k, ks, e1, e2, rfl⟩ := NS.nkeys_cons e
    obtain ⟨a, b⟩ := nkeys_each e2
    refine ⟨fun x hx => ?_, fun x hx => ?_⟩
    · rcases List.mem_cons.mp hx with rfl | hx
      · exact ⟨k, List.mem_cons_self, e1⟩
      · obtain ⟨k', m, q⟩ := a x hx
        exact ⟨k', List.mem_cons_of_mem _ m, q⟩
    · rcases List.mem_cons.mp hx with rfl | hx
      · have z := NS.nkey_data d _ e1
        rw [z]
        exact ⟨e1, List.mem_cons_self⟩
      · exact ⟨(b x hx).1, List.mem_cons_of_mem _ (b x hx).2⟩
theorem data_nodup {ks : List NestedKey} (h : ∀ k ∈ ks, NS.nkey k.data = some k) (nd : ks.Nodup) : (ks.map NestedKey.data).Nodup := by
  refine List.pairwise_map.mpr (List.Pairwise.imp_of_mem (fun {a b} ha hb hne e => hne ?_) nd)
  have e1 := h a ha
  rw [e, h b hb] at e1
  exact (Option.some.inj e1).symm
theorem setD_spec {ds es : List Dt} (h : setD ds = some es) : (∀ d, d ∈ es ↔ d ∈ ds) ∧ es.Nodup ∧ ∀ d ∈ es, ∃ k, NS.nkey d = some k := by
  unfold setD at h
  cases q : NS.nkeys ds with
  | none => rw [q] at h; cases h
  | some ks =>
    rw [q] at h
    cases h
    obtain ⟨a, b⟩ := nkeys_each q
    refine ⟨fun d => ⟨fun hd => ?_, fun hd => ?_⟩, data_nodup (fun k hk => (b k (mem_nub.mp hk)).1) (nub_nodup ks), fun d hd => ?_⟩
    · obtain ⟨k, hk, rfl⟩ := List.mem_map.mp hd
      exact (b k (mem_nub.mp hk)).2
    · obtain ⟨k, hk, e⟩ := a d hd
      exact List.mem_map.mpr ⟨k, mem_nub.mpr hk, NS.nkey_data d k e⟩
    · obtain ⟨k, hk, rfl⟩ := List.mem_map.mp hd
      exact ⟨k, (b k (mem_nub.mp hk)).1⟩
theorem ints_mem : ∀ {ds : List Dt} {ns : List Int}, intsD ds = some ns → ds = ns.map .int
  | [], _, e => by cases e; rfl
  | d :: ds, _, e => by
    cases d with
    | int i =>
      cases q : intsD ds with
      | none => simp [intsD, q] at e
      | some ms =>
        simp [intsD, q] at e
        rw [← e, ints_mem q]
        rfl
    | _ => simp [intsD] at e
theorem alike_int (i j : Int) : PySem.W.alike (.int i) (.int j) = true := by simp [PySem.W.alike]
theorem le0_int (i j : Int) : NS.le0 (.int i) (.int j) = decide (i ≤ j) := by
  rw [NS.le0_lt, PySem.W.dataLt_int, PySem.W.not_lt_int]
theorem sort_ints {ds es : List Dt} {ns ns' : List Int} (hi : intsD ds = some ns) (hs : setD ds = some es) (pw : ns'.Pairwise (· < ·)) (hm : ∀ k, k ∈ ns' ↔ ns.any (· == k) = true) : ns'.map PyData.int = es.mergeSort NS.le0 := by
  obtain ⟨a, nd, ky⟩ := setD_spec hs
  have ed := ints_mem hi
  have mem : ∀ d, d ∈ ns'.map PyData.int ↔ d ∈ es := fun d => by
    rw [a d, ed, List.mem_map, List.mem_map]
    constructor
    · rintro ⟨k, hk, rfl⟩
      obtain ⟨j, hj, e⟩ := List.any_eq_true.mp ((hm k).mp hk)
      have e' := beq_iff_eq.mp e
      exact ⟨j, hj, by rw [e']⟩
    · rintro ⟨k, hk, rfl⟩
      exact ⟨k, (hm k).mpr (List.any_eq_true.mpr ⟨k, hk, by simp⟩), rfl⟩
  have nd' : (ns'.map PyData.int).Nodup := List.pairwise_map.mpr (pw.imp fun h e => by cases e; exact absurd h (Int.lt_irrefl _))
  refine NS.sort_one ky (fun x hx y hy => ?_) ((List.perm_ext_iff_of_nodup nd' nd).mpr mem) (List.pairwise_map.mpr (pw.imp fun {i j} h => ?_))
  · obtain ⟨i, _, rfl⟩ := List.mem_map.mp ((mem x).mpr hx)
    obtain ⟨j, _, rfl⟩ := List.mem_map.mp ((mem y).mpr hy)
    exact alike_int i j
  · rw [le0_int]
    exact decide_eq_true (Int.le_of_lt h)
/-- the tuples with their keys -/
theorem keyed_of {K : PySem.W.Frag} {H : Hp} : ∀ {ds : List Dt} {vs : List V} {ks : List NestedKey}, DpAll K H vs ds → NS.nkeys ds = some ks → ds.all isTupD = true → (∀ d ∈ ds, d.depth ≤ 8) →
    ∃ L : NS.Rw, vs = L.map (fun p => V.ref p.1) ∧ L.map (·.2) = ks ∧ ∀ p ∈ L, Dp K H (.ref p.1) p.2.data ∧ NS.nkey p.2.data = some p.2
  | [], _, _, .nil, e, _, _ => by
    rw [NS.nkeys] at e
    cases e
    exact ⟨[], rfl, rfl, fun p h => (by cases h)⟩
  | d :: ds, _, _, .cons h t, e, hc, hd => by
    obtain ⟨k, ks, e1, e2, rfl⟩ := NS.nkeys_cons e
    rw [List.all_cons, Bool.and_eq_true] at hc
    obtain ⟨L, rfl, rfl, hL⟩ := keyed_of t e2 hc.2 fun x hx => hd x (List.mem_cons_of_mem _ hx)
    cases h with
    | @tup a xs ds' hs ha =>
      have z := NS.nkey_data _ _ e1
      refine ⟨(a, k) :: L, rfl, rfl, fun p hp => ?_⟩
      rcases List.mem_cons.mp hp with rfl | hp
      · dsimp only
        rw [z]
        exact ⟨.tup hs ha, e1⟩
      · exact hL p hp
    | _ => simp [isTupD] at hc
mutual
theorem key_depth : ∀ (d : Dt) (k : NestedKey), NS.nkey d = some k → k.depth ≤ d.depth
  | .none, _, e => by rw [NS.nkey] at e; cases e; simp [NestedKey.depth]
  | .int _, _, e => by rw [NS.nkey] at e; cases e; simp [NestedKey.depth]
  | .str _, _, e => by rw [NS.nkey] at e; cases e; simp [NestedKey.depth]
  | .tuple ds, _, e => by
    rw [NS.nkey] at e
    cases q : NS.nkeys ds with
    | none => rw [q] at e; cases e
    | some ks =>
      rw [q] at e
      cases e
      have := keys_depth ds ks q
      simp only [NestedKey.depth, PyData.depth]
      omega
  | .bool _, _, e => by rw [NS.nkey] at e; cases e
  | .list _, _, e => by rw [NS.nkey] at e; cases e
  | .dict _, _, e => by rw [NS.nkey] at e; cases e
theorem keys_depth : ∀ (ds : List Dt) (ks : List NestedKey), NS.nkeys ds = some ks → NestedKey.depthAll ks ≤ PyData.depthAll ds
  | [], _, e => by rw [NS.nkeys] at e; cases e; simp [NestedKey.depthAll]
  | d :: ds, _, e => by
    obtain ⟨k, ks, e1, e2, rfl⟩ := NS.nkeys_cons e
    have a := key_depth d k e1
    have b := keys_depth ds ks e2
    simp only [NestedKey.depthAll, PyData.depthAll]
    omega
end
theorem ints_bag {K : PySem.W.Frag} {A : List Addr} {H : Hp} {ps : Bag} (r : R K A H ps) : ∀ {ns : List Int}, R K A H ((ns.map V.int).zip ((ns.map PyData.int).map .val) ++ ps)
  | [] => r
  | i :: _ => R.add (fun _ => .int i) (ints_bag r)
def rSetG (K : PySem.W.Frag) (w : World) : List V → Hp → VK → Prop := fun xs H Q => NS.rSetI K w xs H Q ∨ NS.rSetN K w xs H Q
theorem cr_setG (hc : X.calm = true) (hu : X.A.units + 64 < cLine) : CallR X (.type "set") (rSetG X.K X.w) := fun pins s σ H xs us Q I r h => h.elim (NS.cr_setI hc pins s σ H xs us Q I r) (NS.cr_setN hc hu pins s σ H xs us Q I r)
def rSortedG (K : PySem.W.Frag) (w : World) : List V → Hp → VK → Prop := fun xs H Q => rSortedSet w xs H Q ∨ NS.rSortedN K w xs H Q
theorem cr_sortedG (hc : X.calm = true) (hu : X.A.units + 64 < cLine) : CallR X (.builtin "sorted") (rSortedG X.K X.w) := fun pins s σ H xs us Q I r h => h.elim (cr_sortedSet hc pins s σ H xs us Q I r) (NS.cr_sortedN hc hu pins s σ H xs us Q I r)
def mSortSet (f : M OV) : M OV := mB f fun x => mO (x.frz.bind sortSetD)
theorem use_sortSet {K : PySem.W.Frag} {w : World} {H : Hp} {v : V} {d : Dt} {z : OV} {Q : VK} {ps : Bag} (e : sortSetD d = some z) (rr : R K [] H ((v, .val d) :: ps)) (k : ∀ v' H', R K [] H' ((v', z) :: ps) → Q v' H') :
    rSetG K w [v] H fun s H3 => rSortedG K w [s] H3 Q := by
  unfold sortSetD at e
  split at e
  · rename_i ds
    have dp := R.dp rr
    cases dp with
    | @lst l _ _ _ _ =>
      obtain ⟨xs, hs, le, r2⟩ := R.unlst rr
      have r3 : R K [] H (xs.zip (ds.map .val) ++ ps) := R.drop (r2.perm List.perm_middle)
      have da := R.dpAll le r3
      split at e
      · rename_i _ _ ns es hi hse
        split at e
        · rename_i hl
          cases e
          have hl := of_decide_eq_true hl
          have hx := intsD_vs hi da
          subst hx
          have ln : ns.length = ds.length := by simpa using le
          refine .inl ⟨l, ns, rfl, hs, by omega, fun a n ha hn => .inl ⟨a, _, n, rfl, upd_same, by omega, fun ns' p pw hm hlen hp => k _ _ ?_⟩⟩
          rw [← sort_ints hi hse pw hm]
          have r4 : R K [] (upd H a (SetO w a (fun k => ns.any (· == k)) n)) ps := (R.dropL r3).mono fun b o eb => by rw [upd_ne (ne_of_none eb ha)]; exact eb
          refine R.newL ?_ (by simp) hp
          exact ints_bag r4
        · cases e
      · rename_i _ _ es hi hse
        split at e
        · rename_i hcond
          cases e
          rw [Bool.and_eq_true, Bool.and_eq_true, Bool.and_eq_true] at hcond
          obtain ⟨⟨⟨h64, htup⟩, hal⟩, hdep⟩ := hcond
          have h64 := of_decide_eq_true h64
          have hdep' : ∀ d ∈ ds, d.depth ≤ 8 := fun d hd => of_decide_eq_true (List.all_eq_true.mp hdep d hd)
          have hse0 := hse
          unfold setD at hse
          cases qk : NS.nkeys ds with
          | none => rw [qk] at hse; cases hse
          | some ks =>
            obtain ⟨Z, nd, dF, own⟩ := R.dps le r3
            obtain ⟨L, rfl, e2, hL⟩ := keyed_of dF qk htup hdep'
            obtain ⟨na, nb⟩ := nkeys_each qk
            have inds : ∀ p ∈ L, p.2.data ∈ ds := fun p hp => (nb p.2 (by rw [← e2]; exact List.mem_map.mpr ⟨p, hp, rfl⟩)).2
            have keyat : ∀ p ∈ L, NS.KeyAt K H p := fun p hp => ⟨_, Dp.same hid_le (hL p hp).1, (hL p hp).2, Nat.le_trans (key_depth _ _ (hL p hp).2) (hdep' _ (inds p hp))⟩
            have al : ∀ x ∈ ds, ∀ y ∈ ds, PySem.W.alike x y = true := fun x hx y hy => List.all_eq_true.mp (List.all_eq_true.mp hal x hx) y hy
            refine .inr ⟨l, L, rfl, hs, keyat, by have := le; rw [List.length_map] at this; omega, fun a Ls ha s1 s2 nds => .inr ⟨a, Ls, rfl, upd_same, fun p hp => ?_, fun x hx y hy => ?_, .inl fun x hx => ?_, fun p hp => hdep' _ (inds p (s1 p hp)), fun L' p pm pw hp => k _ _ ?_⟩⟩
            · obtain ⟨d, h1, h2⟩ := keyat p (s1 p hp)
              exact ⟨d, Dp.same (fun b o eb => by rw [upd_ne (ne_of_none eb ha)]; exact eb) h1, h2⟩
            · obtain ⟨p, hp, rfl⟩ := List.mem_map.mp hx
              obtain ⟨q, hq, rfl⟩ := List.mem_map.mp hy
              exact al _ (inds p (s1 p hp)) _ (inds q (s1 q hq))
            · obtain ⟨p, hp, rfl⟩ := List.mem_map.mp hx
              have t := List.all_eq_true.mp htup _ (inds p (s1 p hp))
              unfold NS.dkey
              unfold isTupD at t
              split at t
              · exact ⟨_, _, by assumption⟩
              · cases t
            · obtain ⟨sa, snd, sk⟩ := setD_spec hse0
              have inL : ∀ q ∈ L', q ∈ L := fun q hq => s1 q (pm.mem_iff.mp hq)
              have ndL' : (L'.map NS.dkey).Nodup := by
                have z := data_nodup (ks := L'.map (·.2)) (fun k hk => by
                  obtain ⟨q, hq, rfl⟩ := List.mem_map.mp hk
                  exact (hL q (inL q hq)).2) ((pm.map (·.2)).nodup_iff.mpr nds)
                rw [List.map_map] at z
                exact z
              have eqs : L'.map NS.dkey = es.mergeSort NS.le0 := by
                refine NS.sort_one sk (fun x hx y hy => al x ((sa x).mp hx) y ((sa y).mp hy)) ((List.perm_ext_iff_of_nodup ndL' snd).mpr fun d => ?_) (List.pairwise_map.mpr pw)
                rw [sa d]
                constructor
                · intro hd
                  obtain ⟨q, hq, rfl⟩ := List.mem_map.mp hd
                  exact inds q (inL q hq)
                · intro hd
                  obtain ⟨kk, hkk, ek⟩ := na d hd
                  rw [← e2] at hkk
                  obtain ⟨q, hq, rfl⟩ := List.mem_map.mp hkk
                  obtain ⟨q', hq', e'⟩ := List.mem_map.mp (s2 q hq)
                  refine List.mem_map.mpr ⟨q', pm.mem_iff.mpr hq', ?_⟩
                  show q'.2.data = d
                  rw [e']
                  exact NS.nkey_data d _ ek
              rw [← eqs]
              refine R.newL ?_ (by simp) hp
              have F1 : Same (hid H ([] ++ Z)) (hid (upd H a (NS.SNO w a Ls)) ([] ++ Z)) := hid_same fun b o eb => by rw [upd_ne (ne_of_none eb ha)]; exact eb
              have dL : ∀ M : NS.Rw, (∀ q ∈ M, q ∈ L) → DpAll K (hid (upd H a (NS.SNO w a Ls)) ([] ++ Z)) (M.map fun q => V.ref q.1) (M.map NS.dkey) := by
                intro M
                induction M with
                | nil => intro _; exact .nil
                | cons q M ih => intro hM; exact .cons (Dp.same F1 (hL q (hM q List.mem_cons_self)).1) (ih fun r hr => hM r (List.mem_cons_of_mem _ hr))
              refine ⟨Z, nd, ?_⟩
              rw [List.map_append, List.map_append, zip_fst (by simp), zip_snd (by simp)]
              refine OwnL.append (fp := []) (OwnL.of_vals (dL L' inL)) (OwnL.mono F1 own fun b hb => ?_)
              obtain ⟨ob, eb⟩ := OwnL.there own b hb
              exact upd_ne (ne_of_none eb ha)
        · cases e
      · cases e
  · cases e
theorem de_sortSet (hc : X.calm = true) (hu : X.A.units + 64 < cLine) (m1 : X.mg "sorted" = none) (m2 : X.mg "set" = none) (he : De X pin W e f) (g1 : Gl X "sorted" := by rfl) (g2 : Gl X "set" := by rfl)
    (hs1 : starEach [e] X.env = (false, eval e X.env) :: starEach [] X.env := by rfl) (hs2 : starEach [.Call (.Name "set" p2) [e] [] q] X.env = (false, eval (.Call (.Name "set" p2) [e] [] q) X.env) :: starEach [] X.env := by rfl)
    (hp1 : (backTo q (starEach [] X.env)).any (·.1) = false := by rfl) (hp2 : (backTo pos (starEach [] X.env)).any (·.1) = false := by rfl) :
    De X pin W (.Call (.Name "sorted" p) [.Call (.Name "set" p2) [e] [] q] [] pos) (mSortSet f) :=
  (pe_callB (cr_sortedG hc hu) g1 m1 (by decide +kernel) (pa_cons (pe_callTy (cr_setG hc hu) g2 m2 (by decide +kernel) (pa_cons he pa_nil hs1) (by decide) (by decide) hs1 hp1) pa_nil hs2) (by decide) (by decide) hs2 hp2).imp fun σ H Q ⟨env, ws, r, hR, he, hx, k⟩ => by
    refine dE_bind hR he hx fun x env1 v H1 R1 he1 => ?_
    obtain ⟨z, e3, rfl⟩ := mO_some he1
    cases q1 : x.frz with
    | none => simp [q1] at e3
    | some d =>
      simp [q1] at e3
      have R2 := Rl.under (q1 := [(v, x)]) (q2 := [(v, .val d)]) (fun _ r => R.frz q1 r) R1
      obtain ⟨ps, rr, back⟩ := Rl.fix (q1 := [(v, .val d)]) R2
      exact use_sortSet e3 rr fun v' H' r1 => k _ _ rfl v' H' (back H' [(v', z)] r1)
end
end DL

namespace DL
open PySem PySem.Spec L2

/-! ### the defs of a module -/
/-- the module has the def -/
def HasDef (K : PySem.W.Frag) (mg : Str → Option Value) (x : Str) (st : Stmt) : Prop := ∃ (a : Addr) (fd : FuncData), mg x = some (.ref a) ∧ PySem.W.keepIn K (.ref a) = true ∧ Fun K x x st a fd
/-- .. and it does what is told -/
def DefOk (P : Program) (w : World) (K : PySem.W.Frag) (mg : Str → Option Value) (base : Heap) (k : Nat) (x : Str) (ps : List Str) (io : List Nat) (F : Fn) : Prop := ∃ (a : Addr) (fd : FuncData), mg x = some (.ref a) ∧ PySem.W.keepIn K (.ref a) = true ∧
  Binds K fd ps [] ∧ FnOk P w K mg base (L2.CX P w) k a fd ps (dSp K mg io ps.length F)
theorem DefOk.mono {P : Program} {w : World} {K : PySem.W.Frag} {mg : Str → Option Value} {base : Heap} {j k : Nat} {x : Str} {ps : List Str} {io : List Nat} {F : Fn} (h : DefOk P w K mg base j x ps io F) (le : j ≤ k) : DefOk P w K mg base k x ps io F := by
  obtain ⟨a, fd, h1, h2, h3, h4⟩ := h
  exact ⟨a, fd, h1, h2, h3, h4.mono le⟩
section
variable {P : Program} {w : World} {K : PySem.W.Frag} {mg : Str → Option Value} {base : Heap}
theorem okDef {x : Str} {st : Stmt} {N ps : List Str} {k : Nat} (D : HasDef K mg x st) (S : FnScope N ps (defScope st)) (hp : defArgs st = defArgs st) (io : List Nat) (b : MS) (hio : (io.all fun i => decide (i < ps.length)) = true)
    (hbd : ∀ (fd : FuncData) (a : Addr), Fun K x x st a fd → Binds K fd ps [])
    (hbody : ∀ (cdv : Value) (A : Around) (outer : List PySem.Env) (s : Shared) (H : Hp) (E : XK) (vs : List V) (f : Addr), Room k (A.deeper (PyProof.Rows.envOfC x (defScope st) s.heap.objs.size f cdv)) →
      PSs (cxOf (L2.CX P w) P w K mg base N x (defScope st) f cdv A outer s H E) (defBody st) (dS K mg (pinsOf io vs) (fun cls d _ H' => E cls d H') b)) :
    DefOk P w K mg base (k + 1) x ps io (runDef N.length ps.length io b) := by
  obtain ⟨a, fd, h1, h2, F⟩ := D
  exact ⟨a, fd, h1, h2, hbd fd a F, okD F S io b hio fun cdv A outer s H E vs hr => hbody cdv A outer s H E vs a hr⟩
/-- nothing is told -/
theorem okNone {x : Str} {st : Stmt} {ps : List Str} {k : Nat} (D : HasDef K mg x st) (io : List Nat) (hbd : ∀ (fd : FuncData) (a : Addr), Fun K x x st a fd → Binds K fd ps []) : DefOk P w K mg base k x ps io (fun _ => none) := by
  obtain ⟨a, fd, h1, h2, F⟩ := D
  have no : ∀ (vs : List V) (H : Hp) (Q : VK) (E : XK), dSp K mg io ps.length (fun _ => none) vs H Q E → False := fun vs H Q E ⟨_, _, _, _, _, _, he, _⟩ => nomatch he
  refine ⟨a, fd, h1, h2, hbd fd a F, ⟨fun vs H Q E q => (no vs H Q E q).elim, fun A outer s H args us vs Q E _ _ _ _ q => (no vs H Q E q).elim⟩⟩
end
section
variable {X : Cx} {pin : Pins} {W : WX} {a b c e tg : Expr} {es : List Expr} {pos p : Pos} {f g : M OV} {fs : M (List OV)} {as : List Ar}
theorem de_callD {io : List Nat} {F : Fn} {j k : Nat} {ps : List Str} {x : Str} (o : DefOk X.prog X.w X.K X.mg X.base j x ps io F) (tk : Takes X W) (hr : Room k X.A)
    (ha : Dar X pin W (e :: es) as) (le : j ≤ k := by decide) (hn : as.length = ps.length := by rfl) (hio : ioPos 0 as = io := by rfl) (hg : Gl X x := by rfl) (hdb : (x == ("__debug__" : Str)) = false := by decide) (he : starEach (e :: es) X.env = (false, eval e X.env) :: starEach es X.env := by rfl) (hpl : (backTo pos (starEach es X.env)).any (·.1) = false := by rfl) :
    De X pin W (.Call (.Name x p) (e :: es) [] pos) (mCall F as) := by
  obtain ⟨a, fd, h1, h2, h3, h4⟩ := o
  exact de_call tk (h4.mono le) hr h1 h2 h3 ha hn hio hg hdb he hpl
end

/-! ### constants of the module -/
theorem glob_int {K : PySem.W.Frag} {mg : Str → Option Value} {x : Str} {i : Int} {t : Tok} (h : mg x = some (.int i t)) : GlobD K mg x (.int i) := ⟨.int i, _, h, ⟨t, rfl⟩, fun _ => .int i⟩
theorem glob_str {K : PySem.W.Frag} {mg : Str → Option Value} {x : Str} {i : Str} {t : Tok} (h : mg x = some (.str i t)) : GlobD K mg x (.str i) := ⟨.str i, _, h, ⟨t, rfl⟩, fun _ => .str i⟩
def mapO (f : Value → Option Dt) : List Value → Option (List Dt)
  | [] => some []
  | v :: r => match f v, mapO f r with
    | some d, some ds => some (d :: ds)
    | _, _ => none
def kStep (K : PySem.W.Frag) (f : Value → Option Dt) (v : Value) : Option Dt := match v with
  | .none => some .none
  | .bool b => some (.bool b)
  | .int i _ => some (.int i)
  | .str x _ => some (.str x)
  | .ref a => match K.lookup a with
    | some o => match o.cls, o.data with
      | .type c, .seq its _ => if c = "tuple" ∧ its.size ≤ 16777216 then (mapO f its.toList).map .tuple else none
      | _, _ => none
    | none => none
  | _ => none
/-- a value of the written part as data -/
def kDat (K : PySem.W.Frag) : Nat → Value → Option Dt
  | 0 => fun _ => none
  | n + 1 => kStep K (kDat K n)
abbrev DatAt (K : PySem.W.Frag) (v : Value) (d : Dt) : Prop := ∃ x, RelV x v ∧ ∀ F, Dp K F x d
theorem mapO_ok {K : PySem.W.Frag} {f : Value → Option Dt} (hf : ∀ v d, f v = some d → DatAt K v d) : ∀ (vs : List Value) (ds : List Dt), mapO f vs = some ds → ∃ xs, Vals xs vs ∧ ∀ F, DpAll K F xs ds
  | [], _, h => by cases h; exact ⟨[], .nil, fun _ => .nil⟩
  | v :: r, ds, h => by
    unfold mapO at h
    cases q1 : f v with
    | none => rw [q1] at h; cases h
    | some d =>
      cases q2 : mapO f r with
      | none => rw [q1, q2] at h; cases h
      | some es =>
        rw [q1, q2] at h
        cases h
        obtain ⟨x, a1, a2⟩ := hf v d q1
        obtain ⟨xs, b1, b2⟩ := mapO_ok hf r es q2
        exact ⟨x :: xs, .cons a1 b1, fun F => .cons (a2 F) (b2 F)⟩
theorem kStep_ok {K : PySem.W.Frag} {f : Value → Option Dt} (hf : ∀ v d, f v = some d → DatAt K v d) (v : Value) (d : Dt) (h : kStep K f v = some d) : DatAt K v d := by
  unfold kStep at h
  split at h
  · cases h; exact ⟨.non, rfl, fun _ => .non⟩
  · cases h; exact ⟨.bl _, rfl, fun _ => .bl _⟩
  · cases h; exact ⟨.int _, ⟨_, rfl⟩, fun _ => .int _⟩
  · cases h; exact ⟨.str _, ⟨_, rfl⟩, fun _ => .str _⟩
  · rename_i a
    split at h
    · rename_i o ho
      split at h
      · rename_i c its m hc hd
        split at h
        · rename_i hcs
          cases q : mapO f its.toList with
          | none => rw [q] at h; cases h
          | some ds =>
            rw [q] at h
            cases h
            obtain ⟨xs, r, hx⟩ := mapO_ok hf _ _ q
            exact ⟨.ref a, rfl, fun F => .tup (.inr ⟨o, its, m, ho, by rw [hc, hcs.1], hd, by rw [sizeLine_eq]; exact hcs.2, r⟩) (hx F)⟩
        · cases h
      · cases h
    · cases h
  · cases h
theorem kDat_ok {K : PySem.W.Frag} : ∀ (n : Nat) (v : Value) (d : Dt), kDat K n v = some d → DatAt K v d
  | 0, _, _, h => by cases h
  | n + 1, v, d, h => kStep_ok (kDat_ok n) v d h
theorem glob_dat {K : PySem.W.Frag} {h : Heap} {mg : Str → Option Value} {x : Str} {v : Value} {d : Dt} (X : K.In h) (G : h.Ns PySem.mainGlobals mg) (e : PySem.W.nsIn K PySem.mainGlobals x = some (some v)) (k : kDat K 12 v = some d) : GlobD K mg x d := by
  obtain ⟨y, r, hd⟩ := kDat_ok 12 v d k
  exact ⟨y, v, PySem.W.mg_of X G e, r, hd⟩
theorem has_def {K : PySem.W.Frag} {h : Heap} {mg : Str → Option Value} {x : Str} {st : Stmt} {f : Addr} {oc : Value} {od an : Option Addr} {osl : Array (Option Value)} {kV doc pm cdv ct : Value} (X : K.In h) (G : h.Ns PySem.mainGlobals mg)
    (e : PySem.W.nsIn K PySem.mainGlobals x = some (some (.ref f))) (l : K.lookup f = some ⟨oc, od, .func (PySem.W.fnOf x x (defArgs st) (defBody st) (defScope st) .none kV doc pm an cdv ct), osl⟩)
    (c : PySem.W.codeIn K cdv x = true) (k : PySem.W.keepIn K (.ref f) = true) : HasDef K mg x st := ⟨f, _, PySem.W.mg_of X G e, k, fun_mk l c k⟩
/-! ### a, *r = a tuple -/
def gStar (n i : Nat) (gs : List (Dt → Env → Option Env)) : Dt → Env → Option Env := fun d env => match d with
  | .tuple ds => if (decide (n ≤ ds.length + 1) && decide (ds.length ≤ 16384)) = true then gAll gs (ds.take i ++ [.list ((ds.drop i).take (ds.length + 1 - n))] ++ (ds.drop i).drop (ds.length + 1 - n)) env else none
  | _ => none
section
variable {X : Cx} {pin : Pins} {W : WX} {e tg : Expr} {es : List Expr} {pos p : Pos}
theorem dgs_star {is js : List Nat} {g : Dt → Env → Option Env} {gs : List (Dt → Env → Option Env)} (h1 : Dg X pin is e g) (h2 : PGs X es (dGs X.K pin js gs)) : PGs X (.Starred e p :: es) (dGs X.K pin (is ++ js) (g :: gs)) :=
  (DLS.pgs_starCons h1 h2).imp fun vs σ H Q ⟨env, ws, ds, env', l, hR, he, k⟩ => by
    cases ds with
    | nil => cases he
    | cons d ds =>
      cases vs with
      | nil => simp at l
      | cons v vs =>
        unfold gAll at he
        cases q : g d env with
        | none => rw [q] at he; cases he
        | some env1 =>
          rw [q] at he
          refine ⟨v, vs, rfl, env, vs.zip (ds.map .val) ++ ws, d, env1, ?_, q, fun σ1 H1 s1 R1 => ⟨env1, ws, ds, env', by simpa using l, R1, he, fun σ2 H2 s2 R2 => k _ _ (s1.app s2) R2⟩⟩
          exact hR
theorem R.of_dps {K : PySem.W.Frag} {A Z : List Addr} {H : Hp} {vs : List V} {ds : List Dt} {ps : Bag} (nd : (A ++ Z).Nodup) (h : DpAll K (hid H (A ++ Z)) vs ds) (o : OwnL K H (hid H (A ++ Z)) (ps.map (·.1)) (ps.map (·.2)) Z) : R K A H (vs.zip (ds.map .val) ++ ps) := by
  refine ⟨Z, nd, ?_⟩
  have le := h.length
  rw [List.map_append, List.map_append, zip_fst (by simpa using le), zip_snd (by simpa using le)]
  exact OwnL.append (fp := []) (OwnL.of_vals h) o
theorem dg_star {is : List Nat} {gs : List (Dt → Env → Option Env)} {k n i : Nat} (hc : X.calm = true) (h : PGs X es (dGs X.K pin is gs)) (hn : (assignEach es X.env).length = n := by rfl) (hst : (assignEach es X.env).findIdx? (·.1) = some i := by rfl) (hi : i < n := by decide) :
    Dg X pin is (.Tuple es k pos) (gStar n i gs) := (DLS.pg_star hc h hn hst hi).imp fun v σ H Q ⟨env, ws, d, env', hR, he, kk⟩ => by
  unfold gStar at he
  split at he
  · rename_i ds
    split at he
    · rename_i hcond
      rw [Bool.and_eq_true] at hcond
      have c1 := of_decide_eq_true hcond.1
      have c2 := of_decide_eq_true hcond.2
      have q := hR.dp
      cases q with
      | @tup a xs0 _ hs0 ha0 =>
        obtain ⟨⟨ps, s, r⟩, pn⟩ := hR
        obtain ⟨xs, hs, l, r2⟩ := R.untup (r.perm List.perm_middle)
        refine ⟨a, xs, rfl, hs, by rw [l]; exact c1, by rw [l]; exact c2, fun D hD => ?_⟩
        rw [l]
        have r3 : R X.K [] H (xs.zip (ds.map .val) ++ (ps ++ ws)) := R.drop (r2.perm List.perm_middle)
        obtain ⟨Z, nd, dF, own⟩ := R.dps l r3
        have nz : D ∉ Z := fun z => by
          obtain ⟨ob, e⟩ := OwnL.there own D z
          rw [hD] at e; cases e
        have F1 : Same (hid H ([] ++ Z)) (hid (upd H D (.lst ((xs.drop i).take (ds.length + 1 - n)))) ([] ++ Z)) := hid_same fun b o eb => by rw [upd_ne (ne_of_none eb hD)]; exact eb
        have dm : Dp X.K (hid (upd H D (.lst ((xs.drop i).take (ds.length + 1 - n)))) ([] ++ Z)) (.ref D) (.list ((ds.drop i).take (ds.length + 1 - n))) :=
          .lst (.inl (.inl (by rw [hid_out (by simpa using nz)]; exact upd_same))) (DpAll.same F1 ((dF.drop i).take _))
        have all : DpAll X.K (hid (upd H D (.lst ((xs.drop i).take (ds.length + 1 - n)))) ([] ++ Z)) (xs.take i ++ [.ref D] ++ (xs.drop i).drop (ds.length + 1 - n)) (ds.take i ++ [.list ((ds.drop i).take (ds.length + 1 - n))] ++ (ds.drop i).drop (ds.length + 1 - n)) :=
          ((DpAll.same F1 (dF.take i)).append (.cons dm .nil)).append (DpAll.same F1 ((dF.drop i).drop _))
        refine ⟨env, ws, _, env', all.length, ⟨⟨ps, s, ?_⟩, pn⟩, he, kk⟩
        have r4 : R X.K [] (upd H D (.lst ((xs.drop i).take (ds.length + 1 - n)))) ((xs.take i ++ [V.ref D] ++ (xs.drop i).drop (ds.length + 1 - n)).zip ((ds.take i ++ [PyData.list ((ds.drop i).take (ds.length + 1 - n))] ++ (ds.drop i).drop (ds.length + 1 - n)).map .val) ++ (ps ++ ws)) := by
          refine R.of_dps nd all (OwnL.mono F1 own fun b hb => ?_)
          obtain ⟨ob, eb⟩ := OwnL.there own b hb
          exact upd_ne (ne_of_none eb hD)
        refine r4.perm ?_
        rw [← List.append_assoc, ← List.append_assoc]
        exact List.Perm.append_right _ List.perm_append_comm
    · cases he
  · cases he
end
/-! ### words for the built-in functions -/
theorem bb_len : bootBuiltins "len" = some (.builtin "len") := by decide +kernel
theorem bb_sum : bootBuiltins "sum" = some (.builtin "sum") := by decide +kernel
theorem bb_all : bootBuiltins "all" = some (.builtin "all") := by decide +kernel
theorem bb_any : bootBuiltins "any" = some (.builtin "any") := by decide +kernel
theorem bb_tuple : bootBuiltins "tuple" = some (.type "tuple") := by decide +kernel
theorem bb_list : bootBuiltins "list" = some (.type "list") := by decide +kernel
theorem bb_int : bootBuiltins "int" = some (.type "int") := by decide +kernel
theorem bb_bool : bootBuiltins "bool" = some (.type "bool") := by decide +kernel
theorem bb_str : bootBuiltins "str" = some (.type "str") := by decide +kernel
theorem bb_abs : bootBuiltins "abs" = some (.builtin "abs") := by decide +kernel
theorem bb_min : bootBuiltins "min" = some (.builtin "min") := by decide +kernel
theorem bb_max : bootBuiltins "max" = some (.builtin "max") := by decide +kernel
section
variable {X : Cx} {pin : Pins} {W : WX} {a b e : Expr} {pos p : Pos} {f g : M OV}
abbrev A1 (f : M OV) : M (List OV) := mCons f mNil
abbrev A2 (f g : M OV) : M (List OV) := mCons f (mCons g mNil)
theorem de_len (hm : X.mg "len" = none) (h : De X pin W e f) (hg : Gl X "len" := by rfl) (hs : starEach (e :: []) X.env = (false, eval e X.env) :: starEach [] X.env := by rfl) (hpl : (backTo pos (starEach [] X.env)).any (·.1) = false := by rfl) :
    De X pin W (.Call (.Name "len" p) [e] [] pos) (mCB lenD (A1 f)) := de_callB call_len sc_len hm bb_len (da_cons h da_nil hs) hg (by decide) (by decide) hs hpl
theorem de_sum (hc : X.calm = true) (hm : X.mg "sum" = none) (h : De X pin W e f) (hg : Gl X "sum" := by rfl) (hs : starEach (e :: []) X.env = (false, eval e X.env) :: starEach [] X.env := by rfl) (hpl : (backTo pos (starEach [] X.env)).any (·.1) = false := by rfl) :
    De X pin W (.Call (.Name "sum" p) [e] [] pos) (mCB sumD (A1 f)) := de_callB (cr_sum hc) sc_sum hm bb_sum (da_cons h da_nil hs) hg (by decide) (by decide) hs hpl
theorem de_all (hc : X.calm = true) (hm : X.mg "all" = none) (h : De X pin W e f) (hg : Gl X "all" := by rfl) (hs : starEach (e :: []) X.env = (false, eval e X.env) :: starEach [] X.env := by rfl) (hpl : (backTo pos (starEach [] X.env)).any (·.1) = false := by rfl) :
    De X pin W (.Call (.Name "all" p) [e] [] pos) (mCB allD (A1 f)) := de_callB (cr_all hc) sc_all hm bb_all (da_cons h da_nil hs) hg (by decide) (by decide) hs hpl
theorem de_any (hc : X.calm = true) (hm : X.mg "any" = none) (h : De X pin W e f) (hg : Gl X "any" := by rfl) (hs : starEach (e :: []) X.env = (false, eval e X.env) :: starEach [] X.env := by rfl) (hpl : (backTo pos (starEach [] X.env)).any (·.1) = false := by rfl) :
    De X pin W (.Call (.Name "any" p) [e] [] pos) (mCB anyD (A1 f)) := de_callB (cr_any hc) sc_any hm bb_any (da_cons h da_nil hs) hg (by decide) (by decide) hs hpl
theorem de_tuple (hm : X.mg "tuple" = none) (h : De X pin W e f) (hg : Gl X "tuple" := by rfl) (hs : starEach (e :: []) X.env = (false, eval e X.env) :: starEach [] X.env := by rfl) (hpl : (backTo pos (starEach [] X.env)).any (·.1) = false := by rfl) :
    De X pin W (.Call (.Name "tuple" p) [e] [] pos) (mCB tupleD (A1 f)) := de_callTy call_tuple_of sc_tuple hm bb_tuple (da_cons h da_nil hs) hg (by decide) (by decide) hs hpl
theorem de_list (hm : X.mg "list" = none) (h : De X pin W e f) (hg : Gl X "list" := by rfl) (hs : starEach (e :: []) X.env = (false, eval e X.env) :: starEach [] X.env := by rfl) (hpl : (backTo pos (starEach [] X.env)).any (·.1) = false := by rfl) :
    De X pin W (.Call (.Name "list" p) [e] [] pos) (mCB listD (A1 f)) := de_callTy call_list_of sc_list hm bb_list (da_cons h da_nil hs) hg (by decide) (by decide) hs hpl
theorem de_intc (hm : X.mg "int" = none) (h : De X pin W e f) (hg : Gl X "int" := by rfl) (hs : starEach (e :: []) X.env = (false, eval e X.env) :: starEach [] X.env := by rfl) (hpl : (backTo pos (starEach [] X.env)).any (·.1) = false := by rfl) :
    De X pin W (.Call (.Name "int" p) [e] [] pos) (mCB intD (A1 f)) := de_callTy call_int1 sc_int hm bb_int (da_cons h da_nil hs) hg (by decide) (by decide) hs hpl
theorem de_abs (hm : X.mg "abs" = none) (h : De X pin W e f) (hg : Gl X "abs" := by rfl) (hs : starEach (e :: []) X.env = (false, eval e X.env) :: starEach [] X.env := by rfl) (hpl : (backTo pos (starEach [] X.env)).any (·.1) = false := by rfl) :
    De X pin W (.Call (.Name "abs" p) [e] [] pos) (mCB absD (A1 f)) := de_callB call_abs sc_abs hm bb_abs (da_cons h da_nil hs) hg (by decide) (by decide) hs hpl
theorem de_min2 (hc : X.calm = true) (hm : X.mg "min" = none) (ha : De X pin W a f) (hb : De X pin W b g) (hg : Gl X "min" := by rfl) (hs2 : starEach (b :: []) X.env = (false, eval b X.env) :: starEach [] X.env := by rfl) (hs : starEach (a :: [b]) X.env = (false, eval a X.env) :: starEach [b] X.env := by rfl) (hpl : (backTo pos (starEach [b] X.env)).any (·.1) = false := by rfl) :
    De X pin W (.Call (.Name "min" p) [a, b] [] pos) (mCB min2D (A2 f g)) := de_callB (call_min2 hc) sc_min2 hm bb_min (da_cons ha (da_cons hb da_nil hs2) hs) hg (by decide) (by decide) hs hpl
theorem de_max2 (hc : X.calm = true) (hm : X.mg "max" = none) (ha : De X pin W a f) (hb : De X pin W b g) (hg : Gl X "max" := by rfl) (hs2 : starEach (b :: []) X.env = (false, eval b X.env) :: starEach [] X.env := by rfl) (hs : starEach (a :: [b]) X.env = (false, eval a X.env) :: starEach [b] X.env := by rfl) (hpl : (backTo pos (starEach [b] X.env)).any (·.1) = false := by rfl) :
    De X pin W (.Call (.Name "max" p) [a, b] [] pos) (mCB max2D (A2 f g)) := de_callB (call_max2 hc) sc_max2 hm bb_max (da_cons ha (da_cons hb da_nil hs2) hs) hg (by decide) (by decide) hs hpl
end
/-! ### frozen when it is kept -/
def mF (f : M OV) : M OV := mB f fun x => mO (x.frz.map .val)
section
variable {X : Cx} {pin : Pins} {W : WX} {e tg it elt : Expr} {ifs : List Expr} {f : M OV} {fa : M Bool} {pos : Pos}
theorem dE_frz {K : PySem.W.Frag} {mg : Str → Option Value} {σ : St} {H : Hp} {Q : VK} (q : dE K mg pin W (mF f) σ H Q) : dE K mg pin W f σ H Q := by
  obtain ⟨env, ws, r, hR, he, hx, k⟩ := q
  refine dE_bind hR he hx fun y env1 v H1 R1 he1 => ?_
  obtain ⟨z, e3, rfl⟩ := mO_some he1
  cases q1 : y.frz with
  | none => simp [q1] at e3
  | some d =>
    simp [q1] at e3
    subst e3
    exact k _ _ rfl v H1 (Rl.under (q1 := [(v, y)]) (q2 := [(v, .val d)]) (fun _ r => R.frz q1 r) R1)
theorem de_frz (h : De X pin W e f) : De X pin W e (mF f) := h.imp fun σ H Q q => dE_frz q
theorem ds_setLcF {own : List (Str × Nat)} {is : List Nat} {i : Nat} {y : Str} {py spos : Pos} {scope : Scope} {its : M (List Dt)} {gt : Dt → Env → Option Env} (hc : X.calm = true) (hN : X.N.Nodup) (hy : X.N[i]? = some y) (hyl : X.env.scope.names.lookup y = some .local)
    (hsw : swapsWith (.ListComp elt [⟨tg, it, ifs, 0⟩] scope pos) (some (.Name y py)) spos.line X.env = pure true) (hi : Di X pin W tg it its) (ok : BlkOk X.N X.env.scope scope own)
    (hg : ∀ (s : Shared) (H : Hp) (C : Addr) (cl : List (Str × Addr)) (fp : List Addr), PG (X.blk s H scope (compEnvC scope cl C X.env) fp) tg (dG X.K pin is gt)) (ht : ∀ (s : Shared) (H : Hp) (C : Addr) (cl : List (Str × Addr)) (fp : List Addr), PTs (X.blk s H scope (compEnvC scope cl C X.env) fp) ifs (dT X.K X.mg pin wF fa))
    (he : ∀ (s : Shared) (H : Hp) (C : Addr) (cl : List (Str × Addr)) (fp : List Addr), PE (X.blk s H scope (compEnvC scope cl C X.env) fp) elt (dE X.K X.mg pin wF f)) (hpy : pinOk pin i = true := by rfl) (hp : (own.map (·.2)).all (pinOk pin) = true := by rfl) (hs : ∀ i ∈ is, i ∈ own.map (·.2) := by decide) (hfs : ∀ x, foldedSetIterable it X.env x = pure x := by intro _; rfl) :
    Ds X pin W (.Assign [.Name y py] (.ListComp elt [⟨tg, it, ifs, 0⟩] scope pos) spos) (sSet i (mF (mLc (own.map (·.2)) its gt fa f))) :=
  (ps_setLc hc hN hy hyl hsw hi ok hg ht he hfs).imp fun D σ H ⟨env, ws, r, hR, he', hp'⟩ => by
    refine lc_use (List.all_eq_true.mp hp) hs (dE_frz ?_)
    refine sB_E hR he' hp' fun y env1 v H1 R1 e1 => ?_
    cases q : putE env1 i y with
    | none => rw [q] at e1; cases e1
    | some env2 =>
      rw [q] at e1
      cases e1
      obtain ⟨l, rfl⟩ := putE_some q
      exact hp'.nx _ rfl _ _ (R1.put (by rw [R1.len]; exact l) (pinOk_not hpy))
end
end DL

namespace DL
open PySem PySem.Spec L2
section
variable {X : Cx} {pin : Pins} {W : WX} {e tg it elt tg1 it1 : Expr} {ifs ifs1 : List Expr} {f : M OV} {fa fa1 : M Bool} {pos spos py : Pos} {y : Str}
/-- y = [.. for .. for ..], kept frozen -/
theorem ds_setLc2F {own : List (Str × Nat)} {is is1 vs1 : List Nat} {i : Nat} {scope : Scope} {its its1 : M (List Dt)} {gt gt1 : Dt → Env → Option Env} (hc : X.calm = true) (hN : X.N.Nodup) (hy : X.N[i]? = some y) (hyl : X.env.scope.names.lookup y = some .local)
    (hsw : swapsWith (.ListComp elt [⟨tg, it, ifs, 0⟩, ⟨tg1, it1, ifs1, 0⟩] scope pos) (some (.Name y py)) spos.line X.env = pure true) (hi : Di X pin W tg it its) (ok : BlkOk X.N X.env.scope scope own) (hv : ∀ i ∈ vs1, i ∈ own.map (·.2))
    (hg : ∀ (s : Shared) (H : Hp) (C : Addr) (cl : List (Str × Addr)) (fp : List Addr), PG (X.blk s H scope (compEnvC scope cl C X.env) fp) tg (dG X.K pin is gt)) (ht : ∀ (s : Shared) (H : Hp) (C : Addr) (cl : List (Str × Addr)) (fp : List Addr), PTs (X.blk s H scope (compEnvC scope cl C X.env) fp) ifs (dT X.K X.mg pin wF fa))
    (hi1 : ∀ (s : Shared) (H : Hp) (C : Addr) (cl : List (Str × Addr)) (fp : List Addr), PI (X.blk s H scope (compEnvC scope cl C X.env) fp) tg1 it1 (dI X.K X.mg pin wF its1))
    (hg1 : ∀ (s : Shared) (H : Hp) (C : Addr) (cl : List (Str × Addr)) (fp : List Addr), PG (X.blk s H scope (compEnvC scope cl C X.env) fp) tg1 (dG X.K pin is1 gt1)) (ht1 : ∀ (s : Shared) (H : Hp) (C : Addr) (cl : List (Str × Addr)) (fp : List Addr), PTs (X.blk s H scope (compEnvC scope cl C X.env) fp) ifs1 (dT X.K X.mg pin wF fa1))
    (he : ∀ (s : Shared) (H : Hp) (C : Addr) (cl : List (Str × Addr)) (fp : List Addr), PE (X.blk s H scope (compEnvC scope cl C X.env) fp) elt (dE X.K X.mg pin wF f)) (hpy : pinOk pin i = true := by rfl) (hp : (own.map (·.2)).all (pinOk pin) = true := by rfl) (hs : ∀ i ∈ is, i ∈ own.map (·.2) := by decide) (hs1 : ∀ i ∈ is1, i ∈ vs1 := by decide) (hfs : ∀ x, foldedSetIterable it X.env x = pure x := by intro _; rfl) (hfs1 : ∀ env x, foldedSetIterable it1 env x = pure x := by intro _ _; rfl) :
    Ds X pin W (.Assign [.Name y py] (.ListComp elt [⟨tg, it, ifs, 0⟩, ⟨tg1, it1, ifs1, 0⟩] scope pos) spos) (sSet i (mF (mLc2 (own.map (·.2)) vs1 its gt fa its1 gt1 fa1 f))) :=
  (ps_setLc2 hc hN hy hyl hsw hi ok hv hg ht hi1 hg1 ht1 he hfs hfs1).imp fun D σ H ⟨env, ws, r, hR, he', hp'⟩ => by
    refine lc2_use (List.all_eq_true.mp hp) hs hs1 hv (dE_frz ?_)
    refine sB_E hR he' hp' fun y env1 v H1 R1 e1 => ?_
    cases q : putE env1 i y with
    | none => rw [q] at e1; cases e1
    | some env2 =>
      rw [q] at e1
      cases e1
      obtain ⟨l, rfl⟩ := putE_some q
      exact hp'.nx _ rfl _ _ (R1.put (by rw [R1.len]; exact l) (pinOk_not hpy))
end
end DL

/-! tuple(reversed(a tuple)) -/
namespace DL
open PySem PySem.Spec PyProof.Rows L2 RT
theorem rt_nolen : typeLookup (.type "reversed") "__len__" = pure none := by rw [typeLookup_type, builtinLookup_eq_fast]; kernel_rfl
theorem rt_hint : typeLookup (.type "reversed") "__length_hint__" = pure (some (.builtin "reversed.__length_hint__")) := by rw [typeLookup_type, builtinLookup_eq_fast]; kernel_rfl
/-- reversed(a tuple), as a walk -/
theorem rt_walk {prog : Program} {w : World} {A : Around} (hh : A.handled = none) (I l : Addr) (hne : l ≠ I) (items : Array Value) (hz : items.size ≤ sizeLine) :
    WalksS prog w A I [I, l] [I] (fun a b => b = a) items.size (fun i v => items[items.size - 1 - i]? = some v) (fun i s => i ≤ items.size ∧ IsRt s.heap I l ((items.size : Int) - 1 - (i : Int)) ∧ IsTup s.heap l items) where
  sub := fun b hb => by simp at hb; simp [hb]
  grefl := fun _ => rfl
  gtrans := fun _ _ _ h1 h2 => h2.trans h1
  frame := fun i s h' tk x _ hk => ⟨x.1, x.2.1.at fun o e => hk I (by simp) o e, by
    obtain ⟨o, e, r⟩ := x.2.2
    exact ⟨o, hk l (by simp) o e, r⟩⟩
  item := fun i s Q E hi x hQ => by
    have e : (items.size : Int) - 1 - (i : Int) = ((items.size - 1 - i : Nat) : Int) := by omega
    have hit := x.2.1
    rw [e] at hit
    have hx : items[items.size - 1 - i]? = some (items[items.size - 1 - i]'(by omega)) := Array.getElem?_eq_getElem (by omega)
    refine next_rt_item hit x.2.2 hx hz fun h' hit' hs' => ?_
    have e2 : ((items.size - 1 - i : Nat) : Int) - 1 = (items.size : Int) - 1 - ((i + 1 : Nat) : Int) := by omega
    rw [e2] at hit'
    refine hQ _ { s with heap := h', toks := s.toks + 1 } hx ⟨hi, hit', ?_⟩ ⟨fun b o hb eo => hs'.extBut b o (fun h => hb (by simp [h])) eo, rfl, rfl, rfl, Nat.le_succ _⟩
    obtain ⟨o, e, r⟩ := x.2.2
    exact ⟨o, (hs'.2 l hne).trans e, r⟩
  done := fun s Q E x hQ => by
    have e : (items.size : Int) - 1 - (items.size : Int) = -1 := by omega
    have hit := x.2.1
    rw [e] at hit
    exact next_rt_end hh hit fun h' he' => hQ { s with heap := h' } ⟨fun b o hb eo => he' b o (fun h => hb (by simp [h])) eo, rfl, rfl, rfl, Nat.le_refl _⟩
  self := fun _ _ _ _ x hQ => iter_rt x.2.1 hQ
theorem slot_rt_hint : Slot "reversed" "__length_hint__" "reversed.__length_hint__" :=
  .of (owner := "reversed") (n := "__length_hint__") (by rw [typeLookup_type, builtinLookup_eq_fast]; kernel_rfl) (by decide +kernel) (by decide +kernel) (by decide +kernel)
    (by first | exact .inl (by decide +kernel) | exact .inr (by decide +kernel)) (by rw [isSubtype_type]; kernel_rfl)
theorem entry_rt_hint : entryFor table "reversed.__length_hint__" = some Builtin.«reversed.__length_hint__» := entryFor_of_tree (by kernel_rfl)
theorem args_rt_hint (a : Value) : argsOk "reversed.__length_hint__" ⟨[a], []⟩ := by
  unfold argsOk; rw [signature?_of (id := "reversed.__length_hint__") (n := ['_', '_', 't', 'n', 'i', 'h', '_', 'h', 't', 'g', 'n', 'e', 'l', '_', '_']) (o := ['d', 'e', 's', 'r', 'e', 'v', 'e', 'r']) (by kernel_rfl) owner_rt]; kernel_rfl
theorem bind_rt_hint (self : Value) : bindSpecial (.builtin "reversed.__length_hint__") self = pure (.builtin "reversed.__length_hint__", [self]) := by kernel_rfl
section
variable {prog : Program} {w : World} {A : Around} {E : Value → Shared → Prop} {s : Shared}
theorem hint_rt {it t : Addr} {items : Array Value} {Q : Value → Shared → Prop} (hit : IsRt s.heap it t ((items.size : Int) - 1)) (ht : IsTup s.heap t items) (hsz : items.size ≤ sizeLine)
    (hQ : ∀ tk tk', Q (.int items.size tk) { s with toks := tk' }) : wpAny (model prog w) A (call (.builtin "reversed.__length_hint__") [.ref it]) Q E s := by
  obtain ⟨o, ho, hc, hd⟩ := id hit
  refine wpAny_call_entry slot_rt_hint hit.typeIs entry_rt_hint ?_ (args_rt_hint _)
  unfold Builtin.«reversed.__length_hint__»
  refine wpAny_bind (wpAny_of_eq (a := Value.ref it) rfl ?_)
  try dsimp only
  refine wpAny_bind (wpAny_field ho hd (x := .ref t) rfl ?_)
  try dsimp only
  try rw [if_neg (by decide)]
  refine wpAny_bind (len_tuple ht (by have := sizeLine_eq; omega) ?_)
  refine wpAny_bind (wpAny_of_eq (a := some ((items.size : Nat) : Int)) rfl ?_)
  try dsimp only
  refine wpAny_bind (wpAny_field ho hd (x := rawInt ((items.size : Int) - 1)) rfl ?_)
  show wpAny _ _ (if ((items.size : Nat) : Int) < (items.size : Int) - 1 + 1 then _ else _) _ _ _
  rw [if_neg (by omega)]
  have e9 : (items.size : Int) - 1 + 1 = ((items.size : Nat) : Int) := by omega
  rw [e9]
  unfold retInt
  first
  | exact wpAny_bind (wpAny_mkInt (wpAny_pure ⟨_, rfl, hQ _ _⟩))
  | exact wpAny_bind (wpAny_mkInt (wpAny_pure (hQ _ _)))
  | exact wpAny_mkInt (wpAny_pure ⟨_, rfl, hQ _ _⟩)
end
section
variable {prog : Program} {w : World} {A : Around} {E : Value → Shared → Prop} {s : Shared}
theorem collect_rt {it l : Addr} {items : Array Value} {Q : List Value → Shared → Prop} (hh : A.handled = none) (hit : IsRt s.heap it l ((items.size : Int) - 1)) (hl : IsTup s.heap l items) (hne : l ≠ it) (hpos : 0 < items.size) (hn : items.size ≤ sizeLine)
    (hQ : ∀ (h' : Heap) (tk : Nat) (acc : Array Value), (∀ b o, b ≠ it → s.heap.get? b = some o → h'.get? b = some o) → ItemsOf (fun i v => items[items.size - 1 - i]? = some v) acc items.size → Q acc.toList { s with heap := h', toks := tk }) :
    wpAny (model prog w) A (collect (.ref it)) Q E s := by
  have W := rt_walk (prog := prog) (w := w) (A := A.in1) hh it l hne items hn
  obtain ⟨oi, hoi, _⟩ := id hit
  obtain ⟨ol, hol, hlr⟩ := id hl
  have hSi : s.heap.objs.size ≠ it := Nat.ne_of_gt (Heap.lt_size hoi)
  have hSl : s.heap.objs.size ≠ l := Nat.ne_of_gt (Heap.lt_size hol)
  have hSf : s.heap.objs.size ∉ [it, l] := by simp only [List.mem_cons, List.not_mem_nil, or_false, not_or]; exact ⟨hSi, hSl⟩
  unfold collect
  refine wpAny_bind (wpAny_runValue (codeAny_builtin F.entry_proto_collect ?_))
  rw [Around.under_plainId F.plain_proto_collect _]
  show wpAny _ A.in1 (newList [] >>= fun l' => again (.builtin "list.__iadd__" ⟨[l', .ref it], []⟩)) _ _ s
  refine wpAny_bind (wpAny_newObj_type ?_)
  refine wpAny_pure ⟨plainId_quiet F.plain_list_iadd _, codeAny_builtin F.entry_list_iadd ?_⟩
  rw [Around.under_plainId F.plain_list_iadd _]
  have hS₁ : (s.heap.push { cls := .type "list", data := .seq ([] : List Value).toArray }).get? s.heap.objs.size = some { cls := .type "list", data := .seq ([] : List Value).toArray } := Heap.get?_push_size _ rfl
  have hit1 : IsRt (s.heap.push { cls := .type "list", data := .seq ([] : List Value).toArray }) it l ((items.size : Int) - 1) := hit.at fun o e => Heap.get?_push_of_some _ e
  have hl1 : IsTup (s.heap.push { cls := .type "list", data := .seq ([] : List Value).toArray }) l items := ⟨ol, Heap.get?_push_of_some _ hol, hlr⟩
  have hT : ({ s with heap := s.heap.push { cls := .type "list", data := .seq ([] : List Value).toArray } } : Shared).TypeIs (.ref it) "reversed" := IsRt.typeIs (s := { s with heap := s.heap.push { cls := .type "list", data := .seq ([] : List Value).toArray } }) hit1
  have h1 : Builtin.List.listSameRef (.ref s.heap.objs.size) (.ref it) = false := by simp [Builtin.List.listSameRef, hSi]
  show wpAny _ A.in1 (Builtin.List.listExtendWith (.ref s.heap.objs.size) (.ref it) (.ref s.heap.objs.size)) _ _ _
  unfold Builtin.List.listExtendWith
  refine wpAny_bind (wpAny_typeOf hT ?_)
  rw [if_neg (by rw [h1]; decide)]
  refine wpAny_bind (iter_rt (s := { s with heap := s.heap.push { cls := .type "list", data := .seq ([] : List Value).toArray } }) hit1 ?_)
  refine wpAny_bind (wpAny_holding ?_)
  unfold Builtin.List.listLengthHint
  refine wpAny_bind (wpAny_specialOf hT rt_nolen ?_)
  show wpAny _ A.in1 (specialOf (Value.ref it) (Str.ofString "__length_hint__") >>= _) _ _ _
  refine wpAny_bind (wpAny_specialOf hT rt_hint ?_)
  generalize hid : ("reversed.__length_hint__" : String) = id0
  wp_delta
  rw [show splitId id0 = some ("reversed", "__length_hint__") from by subst hid; decide +kernel]
  subst hid
  refine wpAny_bind (wpAny_isInstance (b := true) hT (by rw [isSubtype_type]; kernel_rfl) ?_)
  rw [if_neg (by decide)]
  try dsimp only
  rw [if_neg (by decide +kernel)]
  refine wpAny_bind (wpAny_rule ?_)
  refine wpAny_bind (wpAny_of_eq (bind_rt_hint _) ?_)
  try dsimp only
  refine wpAny_bind (wpAny_attempt (hint_rt (s := { s with heap := s.heap.push { cls := .type "list", data := .seq ([] : List Value).toArray } }) hit1 hl1 hn fun tk tk' => ?_))
  have hsl := sizeLine_eq
  have hai : asInt? (.int ((items.size : Nat) : Int) tk) = pure (some ((items.size : Nat) : Int)) := rfl
  try dsimp only
  rw [hai]
  refine wpAny_bind ?_
  refine wpAny_pure ?_
  try dsimp only
  rw [if_neg (show ¬ ((!Builtin.List.listFitsIndex ((items.size : Nat) : Int)) = true) by simp [Builtin.List.listFitsIndex]; omega)]
  try dsimp only
  rw [if_neg (show ¬ (((items.size : Nat) : Int) < 0) by omega)]
  try dsimp only
  rw [if_neg (show ¬ (Builtin.List.listTooLong (((items.size : Nat) : Int)).toNat = true) by simp [Builtin.List.listTooLong]; omega)]
  have ne0 : (((items.size : Nat) : Int) != 0) = true := by simp; intro z; simp [z] at hpos
  rw [ne0]
  refine wpAny_pure ?_
  show wpAny _ A.in1 (rule "list.extend.makes-room" >>= fun _ => Builtin.List.listTouch (.ref s.heap.objs.size) >>= fun _ =>
    again (.builtin "list.extend.loop" ⟨[.ref s.heap.objs.size, .ref it, .ref s.heap.objs.size], []⟩)) _ _ _
  refine wpAny_bind (wpAny_rule ?_)
  refine wpAny_bind ?_
  show wpAny _ A.in1 (updateSeq s.heap.objs.size (·.push .none) >>= fun _ => updateSeq s.heap.objs.size (·.pop)) _ _ _
  refine wpAny_bind (wpAny_updateSeq hS₁ rfl ?_)
  have hS₂ := Heap.get?_update_self (Obj.mapSeq (·.push Value.none)) hS₁ rfl
  refine wpAny_updateSeq hS₂ rfl ?_
  have hS₃ := Heap.get?_update_self (Obj.mapSeq (·.pop)) hS₂ rfl
  have oth : ∀ b o, b ≠ s.heap.objs.size → (s.heap.push { cls := .type "list", data := .seq ([] : List Value).toArray }).get? b = some o →
      (((s.heap.push { cls := .type "list", data := .seq ([] : List Value).toArray }).update s.heap.objs.size (Obj.mapSeq (·.push Value.none))).update s.heap.objs.size (Obj.mapSeq (·.pop))).get? b = some o :=
    fun b o hb e => (Heap.get?_update_other _ _ (Ne.symm hb)).trans ((Heap.get?_update_other _ _ (Ne.symm hb)).trans e)
  have e0 : ((items.size : Nat) : Int) - 1 - ((0 : Nat) : Int) = (items.size : Int) - 1 := by omega
  have hit3 := hit1.at fun o e => oth it o (fun z => hSi z.symm) e
  have hl3 : IsTup (((s.heap.push { cls := .type "list", data := .seq ([] : List Value).toArray }).update s.heap.objs.size (Obj.mapSeq (·.push Value.none))).update s.heap.objs.size (Obj.mapSeq (·.pop))) l items := by
    obtain ⟨o, e, r⟩ := hl1
    exact ⟨o, oth l o (fun z => hSl z.symm) e, r⟩
  refine wpAny_pure ⟨plainId_quiet F.plain_extend_loop _, codeAny_extend_loopS W hn _ hSf _ items.size 0 _ _ _ rfl (Nat.zero_le _) ⟨Nat.zero_le _, by rw [e0]; exact hit3, hl3⟩ hS₃ (ItemsOf.nil _) fun s' acc' c' hm hS' hacc => ?_⟩
  show wpAny _ A (load s.heap.objs.size >>= _) _ _ s'
  refine wpAny_bind (wpAny_load hS' ?_)
  refine wpAny_pure ?_
  rw [Moved.eq_with hm]
  refine hQ s'.heap s'.toks acc' (fun b o hb e => hm.heap b o (fun hmem => ?_) (oth b o (fun z => absurd (Heap.lt_size e) (by rw [z]; exact Nat.lt_irrefl _)) (Heap.get?_push_of_some _ e))) hacc
  rcases List.mem_cons.mp hmem with e' | hmem
  · exact absurd (Heap.lt_size e) (by rw [e']; exact Nat.lt_irrefl _)
  · exact hb (List.mem_singleton.mp hmem)
theorem code_tuple_rt {it l : Addr} {items : Array Value} {Q₁ : Value → Shared → Prop} (hh : A.handled = none) (hit : IsRt s.heap it l ((items.size : Int) - 1)) (hl : IsTup s.heap l items) (hne : l ≠ it) (hpos : 0 < items.size) (hn : items.size ≤ sizeLine)
    (h : ∀ (h' : Heap) (tk : Nat) (acc : Array Value), (∀ b o, b ≠ it → s.heap.get? b = some o → h'.get? b = some o) → ItemsOf (fun i v => items[items.size - 1 - i]? = some v) acc items.size →
      Q₁ (.ref h'.objs.size) { s with heap := h'.push { cls := .type "tuple", data := .seq acc }, toks := tk }) :
    codeAny (model prog w) A (.call (.builtin "tuple.__new__") ⟨[.type "tuple", .ref it], []⟩) (wants Q₁ E) s := by
  refine codeAny_of_tree ?_
  show wpAny _ A.in1 (do checkBuiltinCall "tuple.__new__" ⟨[.type "tuple", .ref it], []⟩; again (.builtin "tuple.__new__" ⟨[.type "tuple", .ref it], []⟩)) _ _ s
  refine wpAny_bind (wpAny_of_eq (F.newCall_tuple_1 _) (wpAny_pure ⟨plainId_quiet F.plain_tuple_new _, codeAny_builtin F.entry_tuple_new ?_⟩))
  rw [Around.under_plainId F.plain_tuple_new _]
  have hsub := sub_tuple_self
  have hinit := init_tuple_lookup
  have hmh := madeHere_tuple
  have hTI : s.TypeIs (.ref it) "reversed" := hit.typeIs
  have hh1 : A.in1.handled = none := hh
  wp_walk using wpAny_typeOf hTI, collect_rt (A := A.in1) hh1 hit hl hne hpos hn
  intro h' tk acc hk hacc
  show wpAny _ _ (Builtin.Tuple.tupleExact acc.toList.toArray >>= fun v => ret v) _ _ _
  unfold Builtin.Tuple.tupleExact
  refine wpAny_bind (wpAny_newObj_type ?_ (by show acc.toList.toArray.size ≤ sizeLine; simp only [Array.toArray_toList]; rw [hacc.1]; exact hn))
  refine wpAny_pure ?_
  have e : acc.toList.toArray = acc := by simp
  rw [e]
  exact h h' tk acc hk hacc
theorem call_tuple_rt {it l : Addr} {items : Array Value} {Q : Value → Shared → Prop} (hh : A.handled = none) (hit : IsRt s.heap it l ((items.size : Int) - 1)) (hl : IsTup s.heap l items) (hne : l ≠ it) (hpos : 0 < items.size) (hn : items.size ≤ sizeLine)
    (hQ : ∀ (h' : Heap) (tk : Nat) (acc : Array Value), (∀ b o, b ≠ it → s.heap.get? b = some o → h'.get? b = some o) → ItemsOf (fun i v => items[items.size - 1 - i]? = some v) acc items.size →
      Q (.ref h'.objs.size) { s with heap := h'.push { cls := .type "tuple", data := .seq acc }, toks := tk }) :
    wpAny (model prog w) A (call (.type "tuple") [.ref it]) Q E s := by
  refine callType_codes (Q₁ := fun obj s₁ => s₁.TypeIs obj "tuple" ∧ Q obj s₁) F.called_tuple (F.typeCall_tuple_1 _) F.entry_object_init
    (code_tuple_rt (A := A.in1) hh hit hl hne hpos hn fun h' tk acc hk hacc => ⟨⟨_, Heap.get?_push_size _ rfl, rfl⟩, hQ h' tk acc hk hacc⟩) fun obj s₁ h₁ => ?_
  exact ⟨h₁.1, F.args_object_init_2 obj _, object_init_meets F.called_tuple.init.lookup F.called_tuple.made (by decide) prog w A.in1 _ s₁ ⟨h₁.1, rfl, h₁.2⟩⟩
end
end DL

/-! tuple(reversed(a tuple)): the rule at the hand layer -/
namespace DL
open PySem PySem.Spec PyProof.Rows L2 RT
variable {X : Cx}
def tTupRevT (K : PySem.W.Frag) (te : TE) : TE := fun σ H Q => te σ H fun v H1 => ∃ (a : Addr) (xs : List V), v = .ref a ∧ SqT K H1 a xs ∧ 0 < xs.length ∧ ∀ q, H1 q = none → Q (.ref q) (upd H1 q (.tup xs.reverse))
theorem pe_tupRevT {e : Expr} {te : TE} {p p2 pos pos2 : Pos} (hc : X.calm = true) (hg : Gl X "tuple") (hm : X.mg "tuple" = none) (hg2 : Gl X "reversed") (hm2 : X.mg "reversed" = none) (he : PE X e te)
    (hs : starEach [e] X.env = (false, eval e X.env) :: starEach [] X.env := by rfl)
    (hs2 : starEach [.Call (.Name "reversed" p2) [e] [] pos2] X.env = (false, eval (.Call (.Name "reversed" p2) [e] [] pos2) X.env) :: starEach [] X.env := by rfl) :
    PE X (.Call (.Name "tuple" p) [.Call (.Name "reversed" p2) [e] [] pos2] [] pos) (tTupRevT X.K te) := by
  refine ⟨fun pins s σ H Q I h => ?_⟩
  refine Call_ (ld_blt I hg hm boot_tuple (PyProof.Rows.callWith_type1 (args_cons (Call_ (ld_blt I hg2 hm2 PyProof.Rows.boot_reversed (PyProof.Rows.callWith_type1 (args_cons (thn (he.run pins s σ H _ I h) fun u s1 ⟨v, H1, I1, r1, q1⟩ => args_nil ?_) hs) hs rfl))) hs2) hs2 rfl))
  obtain ⟨a, xs, ev, hq, hpos, q⟩ := q1
  subst ev
  obtain rfl : u = Value.ref a := r1
  obtain ⟨its, rv, p', hz⟩ := I1.tuple hq
  have hl := rv.length
  have hsl := sizeLine_eq
  have hn : its.toArray.size ≤ sizeLine := by rw [List.size_toArray, ← rv.length]; exact hz
  refine call_reversed_tup p' (fun A E Q k => len_tuple p' (by omega) k) (args_nil ?_)
  have k0 : ∀ b o, s1.heap.get? b = some o → (s1.heap.push (rtObj a ((its.toArray.size : Int) - 1))).get? b = some o := fun b o e => Heap.get?_push_of_some _ e
  have I2 : Inv X pins σ H1 { s1 with heap := s1.heap.push (rtObj a ((its.toArray.size : Int) - 1)), toks := s1.toks + 1 + 1 } := I1.kept (t' := s1.toks + 1 + 1) k0
  obtain ⟨f0, f1, f2, f3, f4, f5⟩ := I1.fpOk (H' := H1) (b := s1.heap.objs.size) (Nat.le_refl _) (I1.hok.fresh (Nat.le_refl _))
  obtain ⟨ol, hol, hlr⟩ := id p'
  have hne : a ≠ s1.heap.objs.size := Nat.ne_of_lt (Heap.lt_size hol)
  refine call_tuple_rt (s := { s1 with heap := s1.heap.push (rtObj a ((its.toArray.size : Int) - 1)), toks := s1.toks + 1 + 1 }) (I1.ok.hd hc) ⟨_, Heap.get?_push_size _ rfl, rfl, rfl⟩ ⟨ol, k0 _ _ hol, hlr⟩ hne (by rw [List.size_toArray, ← rv.length]; exact hpos) hn fun h' tk acc hk hi => ?_
  have I3 : Inv X pins σ H1 { s1 with heap := h', toks := tk } := I2.turned (t' := tk) (fun b o hb e => hk b o hb e) f0 f1 f3 f4 f5
  refine ⟨.ref h'.objs.size, upd H1 h'.objs.size (.tup xs.reverse), I3.laid (t' := tk) (fun c o e => Heap.get?_push_of_some _ e) (Nat.le_refl _) (show ObjOk X.prog X.w _ _ _ (.tup xs.reverse) from ⟨by rw [List.length_reverse]; exact hz, acc.toList, vals_rev rv hi, ?_⟩), rfl, q _ (I3.hok.fresh (Nat.le_refl _))⟩
  rw [Array.toArray_toList]
  exact IsTup.new _ _
end DL

namespace DL
open PySem PySem.Spec PyProof.Rows L2 RT
def tupRevD : Dt → Option OV
  | .tuple ds => if ds.isEmpty = true then none else some (.val (.tuple ds.reverse))
  | _ => none
theorem use_tupRev {K : PySem.W.Frag} {H : Hp} {v : V} {d : Dt} {z : OV} {Q : VK} {ps : Bag} (e : tupRevD d = some z) (rr : R K [] H ((v, .val d) :: ps)) (k : ∀ v' H', R K [] H' ((v', z) :: ps) → Q v' H') :
    ∃ (a : Addr) (xs : List V), v = .ref a ∧ SqT K H a xs ∧ 0 < xs.length ∧ ∀ q, H q = none → Q (.ref q) (upd H q (.tup xs.reverse)) := by
  unfold tupRevD at e
  split at e
  · rename_i ds
    split at e
    · cases e
    · rename_i ne
      cases e
      have dp := R.dp rr
      cases dp with
      | @tup a _ _ _ _ =>
        obtain ⟨xs, hs, l, r2⟩ := R.untup rr
        refine ⟨a, xs, rfl, hs, ?_, fun p hp => k _ _ (R.newT ?_ (by simp [l]) hp)⟩
        · rw [l]
          cases ds with
          | nil => exact absurd rfl ne
          | cons _ _ => exact Nat.succ_pos _
        · rw [List.map_reverse, zip_rev (by simp [l])]
          exact R.drop (r2.perm (List.perm_middle.trans ((List.Perm.append_right _ (List.reverse_perm _).symm).cons _)))
  · cases e
def mTupRev (f : M OV) : M OV := mB f fun x => mO (x.frz.bind tupRevD)
theorem de_tupRev {X : Cx} {e : Expr} {f : M OV} {p p2 pos pos2 : Pos} (hc : X.calm = true) (m1 : X.mg "tuple" = none) (m2 : X.mg "reversed" = none) (he : De X pin W e f) (g1 : Gl X "tuple" := by rfl) (g2 : Gl X "reversed" := by rfl)
    (hs : starEach [e] X.env = (false, eval e X.env) :: starEach [] X.env := by rfl)
    (hs2 : starEach [.Call (.Name "reversed" p2) [e] [] pos2] X.env = (false, eval (.Call (.Name "reversed" p2) [e] [] pos2) X.env) :: starEach [] X.env := by rfl) :
    De X pin W (.Call (.Name "tuple" p) [.Call (.Name "reversed" p2) [e] [] pos2] [] pos) (mTupRev f) :=
  (pe_tupRevT hc g1 m1 g2 m2 he hs hs2).imp fun σ H Q ⟨env, ws, r, hR, he, hx, k⟩ => by
    refine dE_bind hR he hx fun x env1 v H1 R1 he1 => ?_
    obtain ⟨z, e3, rfl⟩ := mO_some he1
    cases q1 : x.frz with
    | none => simp [q1] at e3
    | some d =>
      simp [q1] at e3
      have R2 := Rl.under (q1 := [(v, x)]) (q2 := [(v, .val d)]) (fun _ r => R.frz q1 r) R1
      obtain ⟨ps, rr, back⟩ := Rl.fix (q1 := [(v, .val d)]) R2
      exact use_tupRev e3 rr fun v' H' r1 => k _ _ rfl v' H' (back H' [(v', z)] r1)
end DL

/-! objects with parts: opened, changed, closed; while -/
namespace DL
open PySem PySem.Spec L2
section
variable {K : PySem.W.Frag} {A : List Addr} {H H' : Hp} {ps qs : Bag} {v w : V} {x y : OV} {d : Dt} {p : V × OV}
/-- what is hidden may change -/
theorem R.updA {a : Addr} {o : HO} (ha : a ∈ A) (r : R K A H ps) : R K A (upd H a o) ps := by
  obtain ⟨Z, nd, ow⟩ := r
  have na : ∀ b ∈ Z, b ≠ a := fun b hb e => (List.nodup_append.mp nd).2.2 a ha b hb e.symm
  refine ⟨Z, nd, OwnL.mono (fun b ob e => ?_) ow fun b hb => upd_ne (na b hb)⟩
  by_cases hb : b ∈ A ++ Z
  · rw [hid_in hb] at e; cases e
  · rw [hid_out hb] at e ⊢
    rw [upd_ne fun z => hb (by rw [z]; exact List.mem_append_left _ ha)]
    exact e
/-- .. and may become more than it was -/
theorem R.hide {B : List Addr} (h : ∀ a ∈ B, a ∈ A) (nd : B.Nodup) (r : R K A H ps) : R K B H ps := by
  obtain ⟨Z, nd', ow⟩ := r
  have s : ∀ a ∈ B ++ Z, a ∈ A ++ Z := fun a ha => by
    rcases List.mem_append.mp ha with ha | ha
    · exact List.mem_append_left _ (h a ha)
    · exact List.mem_append_right _ ha
  obtain ⟨n1, n2, n3⟩ := List.nodup_append.mp nd'
  exact ⟨Z, List.nodup_append.mpr ⟨nd, n2, fun a ha b hb => n3 a (h a ha) b hb⟩, OwnL.mono (hid_sub s) ow fun _ _ => rfl⟩
theorem R.openN {k : NK} {xs : List OV} (r : R K A H ((v, .nod k xs) :: ps)) : ∃ a ex vs, v = .ref a ∧ NKat K H k a ex vs ∧ vs.length = xs.length ∧ R K (a :: (ex ++ A)) H (vs.zip xs ++ ps) := by
  obtain ⟨Z, nd, o⟩ := r
  cases o with
  | cons h t =>
    cases h with
    | @nod a ex vs _ _ fp h hl =>
      have le := hl.length
      rename_i gp
      have pm : (A ++ (a :: (ex ++ fp) ++ gp)).Perm (a :: (ex ++ A) ++ (fp ++ gp)) := by
        have e : A ++ (a :: (ex ++ fp) ++ gp) = A ++ ((a :: ex) ++ (fp ++ gp)) := by simp
        have e2 : a :: (ex ++ A) ++ (fp ++ gp) = ((a :: ex) ++ A) ++ (fp ++ gp) := by simp
        rw [e, e2, ← List.append_assoc]
        exact List.Perm.append_right _ List.perm_append_comm
      refine ⟨a, ex, vs, rfl, h, le, fp ++ gp, pm.nodup_iff.mp nd, ?_⟩
      rw [List.map_append, List.map_append, zip_fst le, zip_snd le]
      exact OwnL.mono (hid_sub fun b hb => pm.mem_iff.mpr hb) (OwnL.append hl t) fun _ _ => rfl
theorem R.closeN {k : NK} {a : Addr} {ex : List Addr} {ws : List V} {ys : List OV} (r : R K (a :: (ex ++ A)) H (ws.zip ys ++ ps)) (le : ws.length = ys.length) (hk : NKat K H k a ex ws) : R K A H ((.ref a, .nod k ys) :: ps) := by
  obtain ⟨Z, nd, o⟩ := r
  rw [List.map_append, List.map_append, zip_fst le, zip_snd le] at o
  obtain ⟨fp, gp, rfl, o1, o2⟩ := OwnL.split le o
  have pm : (a :: (ex ++ A) ++ (fp ++ gp)).Perm (A ++ (a :: (ex ++ fp) ++ gp)) := by
    have e : A ++ (a :: (ex ++ fp) ++ gp) = A ++ ((a :: ex) ++ (fp ++ gp)) := by simp
    have e2 : a :: (ex ++ A) ++ (fp ++ gp) = ((a :: ex) ++ A) ++ (fp ++ gp) := by simp
    rw [e, e2]
    rw [← List.append_assoc A]
    exact List.Perm.append_right _ List.perm_append_comm
  have hF : Same (hid H (a :: (ex ++ A) ++ (fp ++ gp))) (hid H (A ++ (a :: (ex ++ fp) ++ gp))) := hid_sub fun b hb => pm.mem_iff.mpr hb
  exact ⟨a :: (ex ++ fp) ++ gp, pm.nodup_iff.mp nd, .cons (.nod hk (OwnL.mono hF o1 fun _ _ => rfl)) (OwnL.mono hF o2 fun _ _ => rfl)⟩
theorem zip_nth : ∀ {vs : List V} {xs : List OV} {j : Nat} {v : V} {x : OV}, vs[j]? = some v → xs[j]? = some x → (vs.zip xs).Perm ((v, x) :: (vs.eraseIdx j).zip (xs.eraseIdx j))
  | [], _, _, _, _, e, _ => by simp at e
  | _ :: _, [], _, _, _, _, e => by simp at e
  | u :: vs, z :: xs, 0, v, x, e1, e2 => by
    simp at e1 e2
    subst e1 e2
    exact .refl _
  | u :: vs, z :: xs, j + 1, v, x, e1, e2 => by
    have ih := zip_nth (vs := vs) (xs := xs) (j := j) (by simpa using e1) (by simpa using e2)
    exact (ih.cons _).trans (.swap _ _ _)
theorem zip_nth_set {vs : List V} {xs : List OV} {j : Nat} {v w : V} {x : OV} (y : OV) (e1 : vs[j]? = some v) (e2 : xs[j]? = some x) : ((vs.set j w).zip (xs.set j y)).Perm ((w, y) :: (vs.eraseIdx j).zip (xs.eraseIdx j)) := by
  have h1 : (vs.set j w)[j]? = some w := by
    obtain ⟨hl, _⟩ := List.getElem?_eq_some_iff.mp e1
    simp [hl]
  have h2 : (xs.set j y)[j]? = some y := by
    obtain ⟨hl, _⟩ := List.getElem?_eq_some_iff.mp e2
    simp [hl]
  have q := zip_nth h1 h2
  rwa [List.eraseIdx_set_eq, List.eraseIdx_set_eq] at q
theorem getV_len {vs : List V} {xs : List OV} {j : Nat} {x : OV} (l : vs.length = xs.length) (e : xs[j]? = some x) : ∃ v, vs[j]? = some v := by
  obtain ⟨hl, _⟩ := List.getElem?_eq_some_iff.mp e
  exact ⟨vs[j], List.getElem?_eq_getElem (by omega)⟩
end
section
variable {K : PySem.W.Frag} {mg : Str → Option Value} {pin : Pins} {W : WX} {ws qs : Bag} {σ : St} {H : Hp} {env : Env} {v : V} {x : OV} {i : Nat}
/-- an object in a slot, opened at one part -/
theorem Rl.node {k : NK} {xs : List OV} {q1 : Bag} {j : Nat} {x : OV} (e : env[i]? = some (some (.nod k xs))) (ej : xs[j]? = some x) (r : Rl K pin σ env (q1 ++ ws) H) : ∃ a ex vs v, σ[i]? = some (some (.ref a)) ∧ NKat K H k a ex vs ∧ vs.length = xs.length ∧ vs[j]? = some v ∧
    ∃ ps, R K (a :: ex) H ((v, x) :: (q1 ++ ps)) ∧
      (∀ H' k' w y qs, NKat K H' k' a ex (vs.set j w) → R K (a :: ex) H' ((w, y) :: (qs ++ ps)) → Rl K pin σ (env.set i (some (.nod k' (xs.set j y)))) (qs ++ ws) H') := by
  obtain ⟨v, e1, R1⟩ := r.take e
  obtain ⟨⟨bag, sl, rr⟩, pn⟩ := R1
  have r2 : R K [] H ((v, .nod k xs) :: (bag ++ (q1 ++ ws))) := rr.perm List.perm_middle
  obtain ⟨a, ex, vs, rfl, h1, l, r3⟩ := R.openN r2
  rw [List.append_nil] at r3
  obtain ⟨vj, ev⟩ := getV_len l ej
  have sw : ∀ (A B C : Bag), (A ++ (B ++ C)).Perm (B ++ (A ++ C)) := fun A B C => by
    rw [← List.append_assoc, ← List.append_assoc]
    exact List.Perm.append_right _ List.perm_append_comm
  refine ⟨a, ex, vs, vj, e1, h1, l, ev, (vs.eraseIdx j).zip (xs.eraseIdx j) ++ (bag ++ ws), ?_, fun H' k' w y qs hk r4 => ?_⟩
  · refine r3.perm ((List.Perm.append_right _ (zip_nth ev ej)).trans ?_)
    refine List.Perm.cons _ ?_
    exact (List.Perm.append_left _ (sw bag q1 ws)).trans (sw _ _ _)
  · have r5 : R K (a :: (ex ++ [])) H' ((vs.set j w).zip (xs.set j y) ++ (bag ++ (qs ++ ws))) := by
      rw [List.append_nil]
      refine r4.perm (((List.Perm.append_right _ (zip_nth_set y ev ej)).trans ?_).symm)
      refine List.Perm.cons _ ?_
      exact (List.Perm.append_left _ (sw bag qs ws)).trans (sw _ _ _)
    have r6 := R.closeN r5 (by simp [l]) hk
    have R5 : Rl K pin σ (env.set i none) ((.ref a, .nod k' (xs.set j y)) :: (qs ++ ws)) H' := ⟨⟨bag, sl, r6.perm List.perm_middle.symm⟩, pn⟩
    have R6 := Rl.back e1 R5
    rw [List.set_set] at R6
    exact R6
/-- the same at its first part alone: a look at the kind -/
theorem Rl.nodeK {k : NK} {xs : List OV} (e : env[i]? = some (some (.nod k xs))) (r : Rl K pin σ env ws H) : ∃ a ex vs, σ[i]? = some (some (.ref a)) ∧ NKat K H k a ex vs ∧ vs.length = xs.length ∧
    ∃ ps, R K (a :: ex) H (vs.zip xs ++ ps) ∧
      (∀ H' k' us ys qs, us.length = ys.length → NKat K H' k' a ex us → R K (a :: ex) H' (us.zip ys ++ (qs ++ ps)) → Rl K pin σ (env.set i (some (.nod k' ys))) (qs ++ ws) H') := by
  obtain ⟨v, e1, R1⟩ := r.take e
  obtain ⟨⟨bag, sl, rr⟩, pn⟩ := R1
  have r2 : R K [] H ((v, .nod k xs) :: (bag ++ ws)) := rr.perm List.perm_middle
  obtain ⟨a, ex, vs, rfl, h1, l, r3⟩ := R.openN r2
  rw [List.append_nil] at r3
  have sw : ∀ (A B C : Bag), (A ++ (B ++ C)).Perm (B ++ (A ++ C)) := fun A B C => by
    rw [← List.append_assoc, ← List.append_assoc]
    exact List.Perm.append_right _ List.perm_append_comm
  refine ⟨a, ex, vs, e1, h1, l, bag ++ ws, r3, fun H' k' us ys qs lu hk r4 => ?_⟩
  have r5 : R K (a :: (ex ++ [])) H' (us.zip ys ++ (bag ++ (qs ++ ws))) := by
    rw [List.append_nil]
    exact r4.perm (List.Perm.append_left _ (sw _ _ _))
  have r6 := R.closeN r5 lu hk
  have R5 : Rl K pin σ (env.set i none) ((.ref a, .nod k' ys) :: (qs ++ ws)) H' := ⟨⟨bag, sl, r6.perm List.perm_middle.symm⟩, pn⟩
  have R6 := Rl.back e1 R5
  rw [List.set_set] at R6
  exact R6
end

/-! ### while -/
def loopW (c : M Bool) (body : MS) : Nat → MS
  | 0 => fun _ => none
  | n + 1 => sB c fun b env => if b = true then (match body env with
    | some (.nx env2) => loopW c body n env2
    | some (.ct env2) => loopW c body n env2
    | some (.bk env2) => some (.nx env2)
    | some (.rt x env2) => some (.rt x env2)
    | some (.ex e env2) => some (.ex e env2)
    | none => none) else some (.nx env)
section
variable {X : Cx} {pin : Pins} {W : WX} {c : Expr} {pos : Pos} {fc : M Bool} {s : MS}
theorem ds_while {body : List Stmt} (n : Nat) (hp : PassesOwn (model X.prog X.w) X.A X.env X.xe) (hc : Db X pin W c fc) (hb : Dss X pin W body s) : Ds X pin W (.While c body [] pos) (loopW fc s n) := (ps_while hp hc hb).imp fun D σ H ⟨env, ws, r, hR, he, hpp⟩ => by
  refine ⟨fun m σ' H' => ∃ env', Rl X.K pin σ' env' ws H' ∧ loopW fc s m env' = some r, ⟨n, env, hR, he⟩, ?_⟩
  rintro m σ2 H2 ⟨env2, R2, e2⟩
  cases m with
  | zero => cases e2
  | succ m =>
    rw [loopW] at e2
    refine sB_T R2 e2 hpp fun b env3 H3 R3 e3 => ?_
    cases b with
    | false =>
      simp only [Bool.false_eq_true, if_false] at e3 ⊢
      cases e3
      exact hpp.nx _ rfl _ _ R3
    | true =>
      simp only [if_true] at e3 ⊢
      refine ⟨fun σ' H' => ∃ env', Rl X.K pin σ' env' ws H' ∧ loopW fc s m env' = some r, fun σ' H' h => ⟨m, Nat.lt_succ_self m, h⟩, ?_⟩
      cases q2 : s env3 with
      | none => rw [q2] at e3; cases e3
      | some r2 =>
        rw [q2] at e3
        refine ⟨env3, ws, r2, R3, q2, ⟨fun env' z σ' H' R' => ?_, fun x env' z v σ' H' R' => ?_, fun env' z σ' H' R' => ?_, fun env' z σ' H' R' => ?_, fun ex env' z cls d σ' H' ie R' => ?_⟩⟩
        · subst z; exact ⟨env', R', e3⟩
        · subst z; cases e3; exact hpp.rt _ _ rfl v σ' H' R'
        · subst z; cases e3; exact hpp.nx _ rfl σ' H' R'
        · subst z; exact ⟨env', R', e3⟩
        · subst z; cases e3; exact hpp.ex _ _ rfl cls d σ' H' ie R'
end
end DL

/-! instances: attributes read, stored; lists in attributes -/
namespace DL
open PySem PySem.Spec L2
def fIx (ns : List Str) (f : Str) : Option Nat := ns.findIdx? fun g => g == f
theorem fIx_lookup {f : Str} : ∀ {ns : List Str} {vs : List V} {j : Nat} {v : V}, fIx ns f = some j → vs[j]? = some v → (ns.zip vs).lookup f = some v ∧ f ∈ ns
  | [], _, _, _, e, _ => by simp [fIx] at e
  | g :: ns, [], _, _, _, e => by simp at e
  | g :: ns, w :: vs, j, v, e, ev => by
    unfold fIx at e
    rw [List.findIdx?_cons] at e
    by_cases h : (g == f) = true
    · rw [h] at e
      simp at e
      subst e
      simp at ev
      subst ev
      have : g = f := by simpa using h
      subst this
      exact ⟨by simp [List.lookup], List.mem_cons_self⟩
    · simp only [Bool.not_eq_true] at h
      rw [h] at e
      simp only [Bool.false_eq_true, if_false] at e
      cases q : ns.findIdx? (fun g => g == f) with
      | none => rw [q] at e; cases e
      | some m =>
        rw [q] at e
        cases e
        obtain ⟨a, b⟩ := fIx_lookup (ns := ns) (vs := vs) (j := m) q (by simpa using ev)
        refine ⟨?_, List.mem_cons_of_mem _ b⟩
        have hn : (f == g) = false := by
          rw [beq_eq_false_iff_ne] at h ⊢
          exact fun z => h z.symm
        simp only [List.zip_cons_cons, List.lookup, hn]
        exact a
theorem putF_zip {f : Str} {w : V} : ∀ {ns : List Str} {vs : List V} {j : Nat}, fIx ns f = some j → vs.length = ns.length → putF f w (ns.zip vs) = ns.zip (vs.set j w)
  | [], _, _, e, _ => by simp [fIx] at e
  | g :: ns, [], _, _, e => by simp at e
  | g :: ns, u :: vs, j, e, l => by
    unfold fIx at e
    rw [List.findIdx?_cons] at e
    by_cases h : (g == f) = true
    · rw [h] at e
      simp at e
      subst e
      have : g = f := by simpa using h
      subst this
      simp [putF]
    · simp only [Bool.not_eq_true] at h
      rw [h] at e
      simp only [Bool.false_eq_true, if_false] at e
      cases q : ns.findIdx? (fun g => g == f) with
      | none => rw [q] at e; cases e
      | some m =>
        rw [q] at e
        cases e
        have ih := putF_zip (f := f) (w := w) (ns := ns) (vs := vs) (j := m) q (by simpa using l)
        have hn : ¬ g = f := by rw [beq_eq_false_iff_ne] at h; exact h
        have hn2 : ¬ f = g := fun z => hn z.symm
        simp only [List.zip_cons_cons, List.set_cons_succ, putF]
        simp [hn, hn2, h, ih]
/-- a part of an instance in a slot -/
def fldG (env : Env) (i : Nat) (f : Str) : Option (Str × List Str × List OV × Nat × OV) := match env[i]? with
  | some (some (.nod (.ins C ns) cs)) => match fIx ns f with
    | some j => match cs[j]? with
      | some x => some (C, ns, cs, j, x)
      | none => none
    | none => none
  | _ => none
theorem fldG_some {env : Env} {i : Nat} {f : Str} {C : Str} {ns : List Str} {cs : List OV} {j : Nat} {x : OV} (h : fldG env i f = some (C, ns, cs, j, x)) : env[i]? = some (some (.nod (.ins C ns) cs)) ∧ fIx ns f = some j ∧ cs[j]? = some x := by
  unfold fldG at h
  split at h
  · rename_i C' ns' cs' e
    split at h
    · rename_i j' ej
      split at h
      · rename_i x' ex
        cases h
        exact ⟨e, ej, ex⟩
      · cases h
    · cases h
  · cases h
section
variable {K : PySem.W.Frag} {mg : Str → Option Value} {pin : Pins} {W : WX} {ws qs q1 : Bag} {σ : St} {H : Hp} {env : Env} {v : V} {x : OV} {i j : Nat} {f C : Str} {ns : List Str} {cs : List OV}
theorem set_same' {α : Type} {l : List α} {j : Nat} {v : α} (h : l[j]? = some v) : l.set j v = l := set_self h
theorem Rl.fld (e : fldG env i f = some (C, ns, cs, j, x)) (r : Rl K pin σ env (q1 ++ ws) H) : ∃ a Ca dx vs v, σ[i]? = some (some (.ref a)) ∧ NKat K H (.ins C ns) a [dx] vs ∧ H a = some (.ins Ca dx (ns.zip vs)) ∧ Cls K Ca ∧ NoAttr K Ca f ∧ (ns.zip vs).lookup f = some v ∧ vs.length = ns.length ∧ vs[j]? = some v ∧
    ∃ ps, R K [a, dx] H ((v, x) :: (q1 ++ ps)) ∧
      (∀ H' w y qs, NKat K H' (.ins C ns) a [dx] (vs.set j w) → R K [a, dx] H' ((w, y) :: (qs ++ ps)) → Rl K pin σ (env.set i (some (.nod (.ins C ns) (cs.set j y)))) (qs ++ ws) H') := by
  obtain ⟨h1, h2, h3⟩ := fldG_some e
  obtain ⟨a, ex, vs, v, e1, hk, l, ev, ps, r1, put⟩ := Rl.node h1 h3 r
  have hk0 := hk
  obtain ⟨Ca, dx, rfl, e2, e3, e4, e5, e6, e7⟩ := hk
  obtain ⟨lk, mem⟩ := fIx_lookup h2 ev
  exact ⟨a, Ca, dx, vs, v, e1, hk0, e6, e4, e5 f mem, lk, e2, ev, ps, r1, fun H' w y qs hk' r4 => put H' _ w y qs hk' r4⟩
theorem NKat.ins_upd {H : Hp} {a dx b : Addr} {vs : List V} {o : HO} (h : NKat K H (.ins C ns) a [dx] vs) (na : b ≠ a) (nd : b ≠ dx) : NKat K (upd H b o) (.ins C ns) a [dx] vs := h.congr fun c hc => by
  rcases List.mem_cons.mp hc with rfl | hc
  · exact upd_ne na.symm
  · rw [List.mem_singleton.mp hc]; exact upd_ne nd.symm
/-- an attribute that is an owned list -/
theorem Rl.fldL {xs : List OV} (e : fldG env i f = some (C, ns, cs, j, .lst xs)) (r : Rl K pin σ env (q1 ++ ws) H) : ∃ a Ca dx vs b us, σ[i]? = some (some (.ref a)) ∧ H a = some (.ins Ca dx (ns.zip vs)) ∧ Cls K Ca ∧ NoAttr K Ca f ∧ (ns.zip vs).lookup f = some (.ref b) ∧ H b = some (.lst us) ∧ us.length = xs.length ∧
    ∃ ps A, R K A H (us.zip xs ++ (q1 ++ ps)) ∧ ∀ us' ys qs, us'.length = ys.length → R K A H (us'.zip ys ++ (qs ++ ps)) → Rl K pin σ (env.set i (some (.nod (.ins C ns) (cs.set j (.lst ys))))) (qs ++ ws) (upd H b (.lst us')) := by
  obtain ⟨a, Ca, dx, vs, v, e1, hk, e2, e3, e4, e5, e6, ev, ps, r1, put⟩ := Rl.fld e r
  obtain ⟨b, us, rfl, hb, l, r2⟩ := R.open r1
  refine ⟨a, Ca, dx, vs, b, us, e1, e2, e3, e4, e5, hb, l, ps, b :: [a, dx], r2, fun us' ys qs lu r4 => ?_⟩
  have nd : (b :: [a, dx]).Nodup := by
    obtain ⟨Z, nd, _⟩ := r2
    exact (List.nodup_append.mp nd).1
  have na : b ≠ a := fun z => by subst z; simp at nd
  have nx : b ≠ dx := fun z => by subst z; simp at nd
  have r5 := R.close r4 lu
  refine put _ (.ref b) (.lst ys) qs ?_ r5
  rw [set_self ev]
  exact hk.ins_upd na nx
theorem zip_inj {α β : Type} : ∀ {as : List α} {xs ys : List β}, xs.length = as.length → ys.length = as.length → as.zip xs = as.zip ys → xs = ys
  | [], [], [], _, _, _ => rfl
  | [], _ :: _, _, e, _, _ => by simp at e
  | [], _, _ :: _, _, e, _ => by simp at e
  | _ :: _, [], _, e, _, _ => by simp at e
  | _ :: _, _, [], _, e, _ => by simp at e
  | a :: as, x :: xs, y :: ys, l1, l2, e => by
    simp only [List.zip_cons_cons, List.cons.injEq, Prod.mk.injEq, true_and] at e
    rw [e.1, zip_inj (by simpa using l1) (by simpa using l2) e.2]
end
section
variable {X : Cx} {pin : Pins} {W : WX} {a b c e tg : Expr} {es : List Expr} {pos p p2 apos cpos : Pos} {fe g h : M OV} {fa fb : M Bool} {fs : M (List OV)} {x : Str} {id T f : String} {i : Nat}
/-- the value of an expression that only looks: it holds no list that may change -/
def mLook (fe : M OV) (env : Env) : Option OV := match fe (env.map frzS) with
  | some (.ok y _) => if flatO y = true then some y else none
  | _ => none
theorem look_use {K : PySem.W.Frag} {mg : Str → Option Value} {σ : St} {H : Hp} {env : Env} {ws : Bag} {y : OV} {Q : VK} (hR : Rl K pin σ env ws H) (he : mLook fe env = some y) (k : ∀ v H', Rl K pin σ env ((v, y) :: ws) H' → OwnA H σ env H' → Q v H') : dE K mg pin W fe σ H Q := by
  obtain ⟨sub, R1, b1, b2⟩ := hR.thaw2
  unfold mLook at he
  split at he
  · rename_i z env1 q
    split at he
    · rename_i hf
      cases he
      refine ⟨_, _, _, R1, q, .ok, fun x' env' e v H' R' => ?_⟩
      cases e
      obtain ⟨r1, r2⟩ := b2 _ H' v _ hf R'
      exact k v H' r1 r2
    · cases he
  · cases he
/-- o.f, frozen when it is read -/
def mFld (i : Nat) (f : Str) : M OV := fun env => match fldG env i f with
  | some (C, ns, cs, j, x) => match x.frz with
    | some d => some (.ok (.val d) (env.set i (some (.nod (.ins C ns) (cs.set j (.val d))))))
    | none => none
  | none => none
theorem de_fld (ha : PE X a (tVar i)) (hb : attributeBase a f X.env (eval a X.env) = eval a X.env := by rfl) : De X pin W (.Attribute a f pos) (mFld i f) := (pe_fld ha hb).imp fun σ H Q ⟨env, ws, rr, hR, he, hx, k⟩ => by
  unfold mFld at he
  split at he
  · rename_i C ns cs j x q
    split at he
    · rename_i d qd
      cases he
      obtain ⟨a0, Ca, dx, vs, v, e1, hk, e2, e3, e4, e5, e6, ev, ps, r1, put⟩ := Rl.fld (q1 := []) q hR
      refine ⟨.ref a0, e1, a0, Ca, dx, _, v, rfl, e2, e3, e4, e5, k _ _ rfl v H ?_⟩
      have r2 := R.dup (R.frz qd r1)
      refine put H v (.val d) [(v, .val d)] ?_ ?_
      · rw [set_self ev]; exact hk
      · exact r2
    · cases he
  · cases he
theorem fldG_ev {σ : St} {H H' : Hp} {env : Env} {ws : Bag} {C : Str} {ns : List Str} {cs : List OV} {j : Nat} {y : OV} {a0 : Addr} (ow : OwnA H σ env H') (e : fldG env i f = some (C, ns, cs, j, y)) (e1 : σ[i]? = some (some (.ref a0))) : H' a0 = H a0 := ow i _ cs a0 (fldG_some e).1 e1
/-- o.f.append(e) -/
def mFApp (i : Nat) (f : Str) (fe : M OV) : M OV := fun env => match fldG env i f with
  | some (C, ns, cs, j, .lst xs) => match mLook fe env with
    | some y => if sz (xs.length + 1) = true then some (.ok (.val .none) (env.set i (some (.nod (.ins C ns) (cs.set j (.lst (xs ++ [y]))))))) else none
    | none => none
  | _ => none
theorem de_fapp (ha : PE X a (tFld X.K (tVar i) f)) (hb : De X pin W b fe) (hbase : attributeBase a "append" X.env (eval a X.env) = eval a X.env := by rfl)
    (hfew : ((backTo cpos (starEach (b :: []) X.env)).all (fun x => !x.1) && (backToKw cpos (keywordEach [] X.env)).all (fun x => x.1.isSome)
      && decide ((b :: []).length + ([] : List Keyword).length + (if ([] : List Keyword).isEmpty then 0 else 1) < 30)) = true := by rfl)
    (hline : (apos.endLine == cpos.line) = true := by rfl) (hs : starEach (b :: []) X.env = (false, eval b X.env) :: starEach [] X.env := by rfl) (hplain : (backTo cpos (starEach [] X.env)).any (·.1) = false := by rfl) :
    De X pin W (.Call (.Attribute a "append" apos) [b] [] cpos) (mFApp i f fe) :=
  (pe_bm PySem.F.plainAttrs_list PySem.F.slot_list_append PySem.F.type_list_append mt_append ha (pa_cons hb pa_nil hs) hbase hfew hline hs hplain).imp fun σ H Q ⟨env, ws, rr, hR, he, hx, k⟩ => by
    unfold mFApp at he
    split at he
    · rename_i C ns cs j xs q
      split at he
      · rename_i y qy
        split at he
        · rename_i hz
          cases he
          obtain ⟨a0, Ca, dx, vs, b0, us, e1, e2, e3, e4, e5, hb0, l, _⟩ := Rl.fldL (q1 := []) q hR
          refine ⟨.ref a0, e1, a0, Ca, dx, _, .ref b0, rfl, e2, e3, e4, e5, .inl ⟨rfl, _, SqL.of hb0⟩, ?_⟩
          refine look_use hR qy fun w H1 R1 ow => ?_
          obtain ⟨a1, Ca1, dx1, vs1, b1, us1, e11, e21, _, _, e51, hb1, l1, ps, A, r1, put⟩ := Rl.fldL (q1 := [(w, y)]) (ws := ws) q R1
          have ea : V.ref a0 = .ref a1 := Option.some.inj (Option.some.inj (e1.symm.trans e11))
          cases ea
          have h0 := fldG_ev (ws := ws) ow q e1
          rw [e21, e2] at h0
          have hz2 : ns.zip vs1 = ns.zip vs := by injection h0 with h0; injection h0
          rw [hz2, e5] at e51
          cases e51
          refine ⟨b0, us1, w, rfl, rfl, hb1, ?_, ?_⟩
          · have := sz_le hz
            omega
          · refine k _ _ rfl .non _ (Rl.add (fun _ => .non) ?_)
            refine put (us1 ++ [w]) (xs ++ [y]) [] (by simp [l1]) ?_
            rw [zip_snoc w y l1, List.append_assoc]
            exact r1
        · cases he
      · cases he
    · cases he
/-- len(o.f) -/
def mFLen (i : Nat) (f : Str) : M OV := fun env => match fldG env i f with
  | some (_, _, _, _, .lst xs) => some (.ok (oI xs.length) env)
  | _ => none
theorem de_flen (hm : X.mg "len" = none) (ha : PE X a (tFld X.K (tVar i) f)) (hg : Gl X "len" := by rfl) (hs : starEach (a :: []) X.env = (false, eval a X.env) :: starEach [] X.env := by rfl) (hpl : (backTo pos (starEach [] X.env)).any (·.1) = false := by rfl) :
    De X pin W (.Call (.Name "len" p) [a] [] pos) (mFLen i f) := (pe_callB call_len hg hm (by decide +kernel) (pa_cons ha pa_nil hs) (by decide) (by decide) hs hpl).imp fun σ H Q ⟨env, ws, rr, hR, he, hx, k⟩ => by
  unfold mFLen at he
  split at he
  · rename_i C ns cs j xs q
    cases he
    obtain ⟨a0, Ca, dx, vs, b0, us, e1, e2, e3, e4, e5, hb0, l, _⟩ := Rl.fldL (q1 := []) q hR
    refine ⟨.ref a0, e1, a0, Ca, dx, _, .ref b0, rfl, e2, e3, e4, e5, .ref b0, us.length, rfl, .inl ⟨us, SqL.of hb0, rfl⟩, ?_⟩
    rw [l]
    exact k _ _ rfl _ H (hR.add fun _ => .int _)
  · cases he
/-- the truth of o.f, a list -/
def mFTru (i : Nat) (f : Str) : M Bool := fun env => match fldG env i f with
  | some (_, _, _, _, .lst xs) => some (.ok (!xs.isEmpty) env)
  | _ => none
theorem db_ftru (h : PE X a (tFld X.K (tVar i) f)) (he : ∀ whole, isTrue a X.env whole = (do let v ← whole; standAt a.pos; holding [v] (truthy v)) := by intro _; rfl) : Db X pin W a (mFTru i f) := (pt_truth h he).imp fun σ H Q ⟨env, ws, rr, hR, he, hx, k⟩ => by
  unfold mFTru at he
  split at he
  · rename_i C ns cs j xs q
    cases he
    obtain ⟨a0, Ca, dx, vs, b0, us, e1, e2, e3, e4, e5, hb0, l, _⟩ := Rl.fldL (q1 := []) q hR
    refine ⟨.ref a0, e1, a0, Ca, dx, _, .ref b0, rfl, e2, e3, e4, e5, _, .inl ⟨us, SqL.of hb0, rfl⟩, ?_⟩
    have : (!us.isEmpty) = !xs.isEmpty := by
      cases us <;> cases xs <;> simp at l ⊢
    rw [this]
    exact k _ _ rfl H hR
  · cases he
end
end DL

/-! lists: += , extend by any list, pop, insert, clear -/
namespace DLX
open PySem PySem.AutoSeq1
theorem list_iaddW (l : Addr) (items : Array Value) (n : Nat) (b : Addr) (items2 : Array Value) (n2 : Nat) (sl2 : Array (Option Value)) (hs0 : ¬(!items.isEmpty && Builtin.List.listTooLong (items.size + items2.size)) = true) (hs1 : items.size ≤ sizeLine) (hs2 : items.size + items2.size ≤ sizeLine + 1) :
    Meets (Builtin.«list.__iadd__» ⟨[.ref l, .ref b], []⟩) (fun _ R s => s.heap.get? l = some { cls := .type "list", dict := none, data := .seq items n, slots := #[] } ∧ s.heap.get? b = some { cls := .type "list", dict := none, data := .seq items2 n2, slots := sl2 } ∧ R (.ok (.ret (Value.ref l))) { s with heap := s.heap.update l (Obj.mapSeq fun x => x ++ items2), toks := s.toks }) :=
  .of_wp fun prog w A R s h => by
    obtain ⟨hp, g, d, tk, os⟩ := s; obtain ⟨hl, hb, h⟩ := h
    have f1 := idx_int; have f2 := sub_tuple_tuple; have f3 := sub_list_list; have f4 := sub_tuple_list; have f5 := sub_list_tuple
    have hz' : (items ++ items2).size ≤ sizeLine + 1 := by rw [Array.size_append]; exact hs2
    wp_walk using (wpAny_updateSeq hl rfl (hz := hs1) (_hz' := hz')), wpAny_loadPart' hl, wpAny_loadPart' hb; exact ⟨_, rfl, h⟩
theorem list_extendW (l : Addr) (items : Array Value) (n : Nat) (b : Addr) (items2 : Array Value) (n2 : Nat) (sl2 : Array (Option Value)) (hc0 : ¬(!items.isEmpty && Builtin.List.listTooLong (items.size + items2.size)) = true) (hc1 : items.size ≤ sizeLine) (hs2 : items.size + items2.size ≤ sizeLine + 1) :
    Meets (Builtin.«list.extend» ⟨[.ref l, .ref b], []⟩) (fun _ R s => s.heap.get? l = some { cls := .type "list", dict := none, data := .seq items n, slots := #[] } ∧ s.heap.get? b = some { cls := .type "list", dict := none, data := .seq items2 n2, slots := sl2 } ∧ R (.ok (.ret Value.none)) { s with heap := s.heap.update l (Obj.mapSeq fun x => x ++ items2), toks := s.toks }) :=
  .of_wp fun prog w A R s h => by
    obtain ⟨hp, g, d, tk, os⟩ := s; obtain ⟨hl, hb, h⟩ := h
    have f1 := idx_int; have f2 := sub_tuple_tuple; have f3 := sub_list_list; have f4 := sub_tuple_list; have f5 := sub_list_tuple
    have hz' : (items ++ items2).size ≤ sizeLine + 1 := by rw [Array.size_append]; exact hs2
    wp_walk using (wpAny_updateSeq hl rfl (hz := hc1) (_hz' := hz')), wpAny_loadPart' hl, wpAny_loadPart' hb; exact ⟨_, rfl, h⟩
end DLX
namespace DL
open PySem PySem.Spec L2
section
variable {X : Cx}
def rExtS (K : PySem.W.Frag) (ret : Bool) : V → V → Hp → VK → Prop := fun x y H Q => ∃ l b xs zs, x = .ref l ∧ y = .ref b ∧ H l = some (.lst xs) ∧ SqL K H b zs ∧ xs.length + zs.length ≤ sizeLine ∧ Q (if ret = true then .ref l else .non) (upd H l (.lst (xs ++ zs)))
theorem iop_extS : OpR X (inplaceOp .Add) (rExtS X.K true) := by
  intro pins s σ H x y v u Q I rx ry h
  obtain ⟨l, b, xs, zs, rfl, rfl, hH, hB, hz, q⟩ := h
  cases rx
  cases ry
  obtain ⟨z, its, n, r, hl, e⟩ := I.lstM hH
  obtain ⟨its2, r2, ⟨⟨cls2, dd2, data2, sl2⟩, n2, ho2, hc2, hdd2, hd2⟩, z2⟩ := I.list hB
  simp only at hc2 hd2 hdd2
  subst hc2 hd2 hdd2
  have hl2 := r2.length
  have hsz : its.toArray.size + its2.toArray.size ≤ sizeLine := by rw [List.size_toArray, List.size_toArray]; omega
  have hlong : ¬ (!its.toArray.isEmpty && Builtin.List.listTooLong (its.toArray.size + its2.toArray.size)) = true := by
    rw [notLongL hsz, Bool.and_false]
    exact Bool.false_ne_true
  refine iadd_road ⟨_, e, rfl⟩ ⟨_, ho2, rfl⟩ (call_meets PySem.F.slot_list_iadd ⟨_, e, rfl⟩ PySem.F.entry_list_iadd (PySem.F.args_list_iadd_2 _ _)
    (DLX.list_iaddW l its.toArray n b its2.toArray n2 sl2 hlong (by rw [List.size_toArray]; omega) (by omega)) ⟨e, ho2, ?_⟩)
  refine ⟨.ref l, _, I.lset (its' := its ++ its2) (t' := s.toks) hH e (by simp) (r.append r2) ?_, rfl, q⟩
  rw [List.length_append]
  omega
theorem mt_extendS : MtR X "list.extend" (fun x vs H Q => ∃ y, vs = [y] ∧ rExtS X.K false x y H Q) := by
  intro pins s σ H x vs v us Q I rx rv h
  obtain ⟨y, rfl, l, b, xs, zs, rfl, rfl, hH, hB, hz, q⟩ := h
  cases rx
  obtain ⟨u, rfl, ru⟩ := rv.one
  cases ru
  obtain ⟨z, its, n, r, hl, e⟩ := I.lstM hH
  obtain ⟨its2, r2, ⟨⟨cls2, dd2, data2, sl2⟩, n2, ho2, hc2, hdd2, hd2⟩, z2⟩ := I.list hB
  simp only at hc2 hd2 hdd2
  subst hc2 hd2 hdd2
  have hl2 := r2.length
  have hsz : its.toArray.size + its2.toArray.size ≤ sizeLine := by rw [List.size_toArray, List.size_toArray]; omega
  have hlong : ¬ (!its.toArray.isEmpty && Builtin.List.listTooLong (its.toArray.size + its2.toArray.size)) = true := by
    rw [notLongL hsz, Bool.and_false]
    exact Bool.false_ne_true
  refine call_meets PySem.F.slot_list_extend ⟨_, e, rfl⟩ PySem.F.entry_list_extend (PySem.F.args_list_extend_2 _ _)
    (DLX.list_extendW l its.toArray n b its2.toArray n2 sl2 hlong (by rw [List.size_toArray]; omega) (by omega)) ⟨e, ho2, ?_⟩
  refine ⟨.non, _, I.lset (its' := its ++ its2) hH e (by simp) (r.append r2) ?_, rfl, q⟩
  rw [List.length_append]
  omega
end
end DL

/-! slots: xs.extend(e), xs += e, xs.insert(i, e), xs.pop(), xs.clear(), n += e -/
namespace DL
open PySem PySem.Spec L2
def itemsO : OV → Option (List OV)
  | .lst ys => some ys
  | .val (.list ds) => some (ds.map .val)
  | _ => none
section
variable {K : PySem.W.Frag} {A : List Addr} {H : Hp} {ps : Bag} {w : V} {y : OV} {ys : List OV}
theorem R.ndA (r : R K A H ps) : A.Nodup := by
  obtain ⟨Z, nd, _⟩ := r
  exact (List.nodup_append.mp nd).1
theorem R.items (e : itemsO y = some ys) (r : R K A H ((w, y) :: ps)) : ∃ b zs, w = .ref b ∧ SqL K H b zs ∧ zs.length = ys.length ∧ R K A H (zs.zip ys ++ ps) := by
  unfold itemsO at e
  split at e
  · cases e
    have nd := r.ndA
    obtain ⟨b, us, rfl, hb, l, r2⟩ := R.open r
    exact ⟨b, us, rfl, SqL.of hb, l, R.hide (fun a ha => List.mem_cons_of_mem _ ha) nd r2⟩
  · rename_i ds
    cases e
    have dp := r.dp
    have hw : ∃ b, w = .ref b := by
      cases dp
      exact ⟨_, rfl⟩
    obtain ⟨b, rfl⟩ := hw
    obtain ⟨zs, h1, l, r2⟩ := R.unlst r
    exact ⟨b, zs, rfl, h1, by simpa using l, (r2.perm List.perm_middle).drop⟩
  · cases e
end
section
variable {X : Cx} {pin : Pins} {W : WX} {a b c e : Expr} {pos p p2 apos cpos : Pos} {f g : M OV} {x : Str} {i : Nat}
/-- xs.extend(e) -/
def mExt (i : Nat) (f : M OV) : M OV := fun env => match env[i]? with
  | some (some (.lst _)) => mB f (fun y env1 => match env1[i]? with
    | some (some (.lst xs)) => match itemsO y with
      | some ys => if sz (xs.length + ys.length) = true then some (.ok (.val .none) (env1.set i (some (.lst (xs ++ ys))))) else none
      | none => none
    | _ => none) env
  | _ => none
theorem de_ext (ha : PE X a (tVar i)) (hb : De X pin W b f) (hbase : attributeBase a "extend" X.env (eval a X.env) = eval a X.env := by rfl)
    (hfew : ((backTo cpos (starEach (b :: []) X.env)).all (fun x => !x.1) && (backToKw cpos (keywordEach [] X.env)).all (fun x => x.1.isSome)
      && decide ((b :: []).length + ([] : List Keyword).length + (if ([] : List Keyword).isEmpty then 0 else 1) < 30)) = true := by rfl)
    (hline : (apos.endLine == cpos.line) = true := by rfl) (hs : starEach (b :: []) X.env = (false, eval b X.env) :: starEach [] X.env := by rfl) (hplain : (backTo cpos (starEach [] X.env)).any (·.1) = false := by rfl) :
    De X pin W (.Call (.Attribute a "extend" apos) [b] [] cpos) (mExt i f) :=
  (pe_bm PySem.F.plainAttrs_list PySem.F.slot_list_extend PySem.F.type_list_extend mt_extendS ha (pa_cons hb pa_nil hs) hbase hfew hline hs hplain).imp fun σ H Q ⟨env, ws, rr, hR, he, hx, k⟩ => by
    unfold mExt at he
    split at he
    · rename_i xs0 q0
      obtain ⟨a0, vs0, e0, h0, _⟩ := Rl.own (q1 := []) q0 hR
      refine ⟨.ref a0, e0, .inl ⟨rfl, _, SqL.of h0⟩, ?_⟩
      refine dE_bind hR he hx fun y env1 w H1 R1 he1 => ?_
      split at he1
      · rename_i xs q1
        split at he1
        · rename_i ys qy
          split at he1
          · rename_i hz
            cases he1
            obtain ⟨a1, vs, e1, h1, l, ps, r1, put⟩ := Rl.own (q1 := [(w, y)]) (ws := ws) q1 R1
            have ev : (V.ref a0) = .ref a1 := Option.some.inj (Option.some.inj (e0.symm.trans e1))
            cases ev
            have r2 : R X.K [a0] H1 ((w, y) :: (vs.zip xs ++ ps)) := r1.perm List.perm_middle
            obtain ⟨b0, zs, rfl, hb0, lz, r3⟩ := R.items qy r2
            refine ⟨.ref b0, rfl, a0, b0, vs, zs, rfl, rfl, h1, hb0, ?_, ?_⟩
            · have := sz_le hz
              omega
            · show _
              refine k _ _ rfl .non _ (Rl.add (fun _ => .non) ?_)
              refine put (vs ++ zs) (xs ++ ys) [] (by simp [l, lz]) ?_
              rw [List.zip_append l]
              have r4 : R X.K [a0] H1 (vs.zip xs ++ (zs.zip ys ++ ps)) := r3.perm (by
                rw [← List.append_assoc, ← List.append_assoc]
                exact List.Perm.append_right _ List.perm_append_comm)
              rw [List.append_assoc]
              exact r4
          · cases he1
        · cases he1
      · cases he1
    · cases he
/-- xs += e, of an owned list -/
def sExt (i : Nat) (f : M OV) : MS := fun env => match env[i]? with
  | some (some (.lst _)) => sB f (fun y env1 => match env1[i]? with
    | some (some (.lst xs)) => match itemsO y with
      | some ys => if sz (xs.length + ys.length) = true then some (.nx (env1.set i (some (.lst (xs ++ ys))))) else none
      | none => none
    | _ => none) env
  | _ => none
theorem ds_ext {pos' : Pos} (hN : X.N.Nodup) (hi : X.N[i]? = some x) (hx : Loc X.env.scope x) (he : De X pin W e f) (hf : X.fn x = true ∨ X.env.scope.names.lookup x = some .local := by first | exact .inl rfl | exact .inr rfl | assumption) :
    Ds X pin W (.AugAssign (.Name x pos') .Add e pos) (sExt i f) :=
  (ps_aug hN hi hx he iop_extS hf).imp fun D σ H ⟨env, ws, rr, hR, he, hp⟩ => by
    unfold sExt at he
    split at he
    · rename_i xs0 q0
      obtain ⟨a0, vs0, e0, h0, _⟩ := Rl.own (q1 := []) q0 hR
      refine ⟨.ref a0, e0, ?_⟩
      refine sB_use (D := D) hR he (fun ee env' q cls d H' ie R' => hp.ex ee env' q cls d σ H' ie R') fun y env1 w H1 R1 he1 => ?_
      split at he1
      · rename_i xs q1
        split at he1
        · rename_i ys qy
          split at he1
          · rename_i hz
            cases he1
            obtain ⟨a1, vs, e1, h1, l, ps, r1, put⟩ := Rl.own (q1 := [(w, y)]) (ws := ws) q1 R1
            have ev : (V.ref a0) = .ref a1 := Option.some.inj (Option.some.inj (e0.symm.trans e1))
            cases ev
            have r2 : R X.K [a0] H1 ((w, y) :: (vs.zip xs ++ ps)) := r1.perm List.perm_middle
            obtain ⟨b0, zs, rfl, hb0, lz, r3⟩ := R.items qy r2
            refine ⟨a0, b0, vs, zs, rfl, rfl, h1, hb0, ?_, ?_⟩
            · have := sz_le hz
              omega
            · have es : σ.set i (some (.ref a0)) = σ := set_self e0
              show D.nx (σ.set i (some (.ref a0))) _
              rw [es]
              refine hp.nx _ rfl σ _ (put (vs ++ zs) (xs ++ ys) [] (by simp [l, lz]) ?_)
              rw [List.zip_append l]
              have r4 : R X.K [a0] H1 (vs.zip xs ++ (zs.zip ys ++ ps)) := r3.perm (by
                rw [← List.append_assoc, ← List.append_assoc]
                exact List.Perm.append_right _ List.perm_append_comm)
              rw [List.append_assoc]
              exact r4
          · cases he1
        · cases he1
      · cases he1
    · cases he
/-- n += e, of ints -/
def sInc (o : Int → Int → Int) (i : Nat) (f : M OV) : MS := fun env => match env[i]? with
  | some (some (.val (.int m))) => sB f (fun y env1 => match y with
    | .val (.int n) => some (.nx (env1.set i (some (.val (.int (o m n))))))
    | _ => none) env
  | _ => none
theorem ds_inc {op : Operator} {o : Int → Int → Int} {pos' : Pos} (ho : PIp X op (ipI o)) (hN : X.N.Nodup) (hi : X.N[i]? = some x) (hx : Loc X.env.scope x) (he : De X pin W e f) (hp : pinOk pin i = true := by rfl) (hf : X.fn x = true ∨ X.env.scope.names.lookup x = some .local := by first | exact .inl rfl | exact .inr rfl | assumption) :
    Ds X pin W (.AugAssign (.Name x pos') op e pos) (sInc o i f) :=
  (ps_aug hN hi hx he ho hf).imp fun D σ H ⟨env, ws, rr, hR, he, hp'⟩ => by
    unfold sInc at he
    split at he
    · rename_i m q0
      obtain ⟨v, e0, r0⟩ := hR.var q0
      have dv := r0.dp
      cases dv
      refine ⟨_, e0, ?_⟩
      refine sB_use (D := D) hR he (fun ee env' q cls d H' ie R' => hp'.ex ee env' q cls d σ H' ie R') fun y env1 w H1 R1 he1 => ?_
      split at he1
      · rename_i n
        cases he1
        have dw := R1.dp
        cases dw
        refine ⟨m, n, rfl, rfl, ?_⟩
        have hl : i < σ.length := (List.getElem?_eq_some_iff.mp e0).1
        refine hp'.nx _ rfl _ _ (Rl.put hl (pinOk_not hp) (Rl.add (fun _ => .int _) R1.drop))
      · cases he1
    · cases he
end
end DL

/-! slots: xs.insert(i, e), xs.pop(), xs.pop(i), xs.clear() -/
namespace DL
open PySem PySem.Spec L2
section
variable {K : PySem.W.Frag} {A : List Addr} {H : Hp} {ps : Bag} {w : V} {y : OV} {ys : List OV}
theorem zip_ins {vs : List V} {xs : List OV} (k : Nat) (w : V) (y : OV) (l : vs.length = xs.length) : ((vs.take k ++ [w] ++ vs.drop k).zip (xs.take k ++ [y] ++ xs.drop k)).Perm ((w, y) :: vs.zip xs) := by
  have l1 : (vs.take k).length = (xs.take k).length := by rw [List.length_take, List.length_take, l]
  rw [List.append_assoc, List.append_assoc, List.zip_append l1]
  show ((vs.take k).zip (xs.take k) ++ ((w, y) :: (vs.drop k).zip (xs.drop k))).Perm _
  refine List.perm_middle.trans (.cons _ ?_)
  rw [← List.zip_append l1, List.take_append_drop, List.take_append_drop]
theorem zip_erase : ∀ {vs : List V} {xs : List OV} {k : Nat} {w : V} {y : OV}, vs.length = xs.length → vs[k]? = some w → xs[k]? = some y → (vs.zip xs).Perm ((w, y) :: (vs.eraseIdx k).zip (xs.eraseIdx k))
  | [], [], _, _, _, _, e, _ => by simp at e
  | [], _ :: _, _, _, _, l, _, _ => by simp at l
  | _ :: _, [], _, _, _, l, _, _ => by simp at l
  | v :: vs, x :: xs, 0, w, y, l, e1, e2 => by
    simp only [List.getElem?_cons_zero, Option.some.injEq] at e1 e2
    subst e1 e2
    exact .refl _
  | v :: vs, x :: xs, k + 1, w, y, l, e1, e2 => by
    have ih := zip_erase (vs := vs) (xs := xs) (k := k) (w := w) (y := y) (by simpa using l) (by simpa using e1) (by simpa using e2)
    exact (List.Perm.cons _ ih).trans (.swap _ _ _)
end
section
variable {X : Cx} {pin : Pins} {W : WX} {a b c e : Expr} {pos p p2 apos cpos : Pos} {f g fi : M OV} {x : Str} {i : Nat}
/-- xs.clear() -/
def mClr (i : Nat) : M OV := fun env => match env[i]? with
  | some (some (.lst _)) => some (.ok (.val .none) (env.set i (some (.lst []))))
  | _ => none
theorem de_clr (ha : PE X a (tVar i)) (hbase : attributeBase a "clear" X.env (eval a X.env) = eval a X.env := by rfl) (hline : (apos.endLine == cpos.line) = true := by rfl) :
    De X pin W (.Call (.Attribute a "clear" apos) [] [] cpos) (mClr i) :=
  (pe_bm0 PySem.F.plainAttrs_list PySem.F.slot_list_clear PySem.F.type_list_clear (mtR_of mt_clear) ha hbase hline).imp fun σ H Q ⟨env, ws, rr, hR, he, hx, k⟩ => by
    unfold mClr at he
    split at he
    · rename_i xs q
      cases he
      obtain ⟨a1, vs, e1, h1, l, ps, r1, put⟩ := Rl.own (q1 := []) q hR
      refine ⟨.ref a1, e1, .inl ⟨rfl, _, SqL.of h1⟩, a1, vs, rfl, rfl, h1, ?_⟩
      refine k _ _ rfl .non _ (Rl.add (fun _ => .non) ?_)
      exact put [] [] [] rfl (R.dropL r1)
    · cases he
/-- xs.pop() -/
def mPop (i : Nat) : M OV := fun env => match env[i]? with
  | some (some (.lst xs)) => match xs[xs.length - 1]? with
    | some y => some (.ok y (env.set i (some (.lst xs.dropLast))))
    | none => none
  | _ => none
theorem de_pop (ha : PE X a (tVar i)) (hbase : attributeBase a "pop" X.env (eval a X.env) = eval a X.env := by rfl) (hline : (apos.endLine == cpos.line) = true := by rfl) :
    De X pin W (.Call (.Attribute a "pop" apos) [] [] cpos) (mPop i) :=
  (pe_bm0 PySem.F.plainAttrs_list PySem.F.slot_list_pop PySem.F.type_list_pop (mtR_of mt_pop) ha hbase hline).imp fun σ H Q ⟨env, ws, rr, hR, he, hx, k⟩ => by
    unfold mPop at he
    split at he
    · rename_i xs q
      split at he
      · rename_i y qy
        cases he
        obtain ⟨a1, vs, e1, h1, l, ps, r1, put⟩ := Rl.own (q1 := []) q hR
        have hlt : xs.length - 1 < vs.length := by
          rw [l]
          exact (List.getElem?_eq_some_iff.mp qy).1
        obtain ⟨w, ew⟩ : ∃ w, vs[xs.length - 1]? = some w := ⟨_, List.getElem?_eq_getElem hlt⟩
        refine ⟨.ref a1, e1, .inl ⟨rfl, _, SqL.of h1⟩, a1, vs, w, rfl, rfl, h1, by rw [l]; exact ew, ?_⟩
        have pm := zip_erase l ew qy
        have d1 : vs.dropLast = vs.eraseIdx (xs.length - 1) := by
          rw [← l, List.eraseIdx_length_sub_one]
        have d2 : xs.dropLast = xs.eraseIdx (xs.length - 1) := by
          rw [List.eraseIdx_length_sub_one]
        refine k _ _ rfl w _ ?_
        refine put vs.dropLast xs.dropLast [(w, y)] (by simp [l]) ?_
        rw [d1, d2]
        have r2 : R X.K [a1] H ((w, y) :: ((vs.eraseIdx (xs.length - 1)).zip (xs.eraseIdx (xs.length - 1)) ++ ps)) := r1.perm (List.Perm.append_right _ pm)
        exact r2.perm List.perm_middle.symm
      · cases he
    · cases he
/-- xs.pop(j) -/
def mPopAt (i : Nat) (f : M OV) : M OV := fun env => match env[i]? with
  | some (some (.lst _)) => mB f (fun z env1 => match env1[i]?, z with
    | some (some (.lst xs)), .val (.int j) => if -(2 ^ 63) ≤ j ∧ j < 2 ^ 63 then (match seqIndex? j xs.length with
      | some k => match xs[k]? with
        | some y => some (.ok y (env1.set i (some (.lst (xs.eraseIdx k)))))
        | none => none
      | none => none) else none
    | _, _ => none) env
  | _ => none
theorem de_popAt (ha : PE X a (tVar i)) (hb : De X pin W b f) (hbase : attributeBase a "pop" X.env (eval a X.env) = eval a X.env := by rfl)
    (hfew : ((backTo cpos (starEach (b :: []) X.env)).all (fun x => !x.1) && (backToKw cpos (keywordEach [] X.env)).all (fun x => x.1.isSome)
      && decide ((b :: []).length + ([] : List Keyword).length + (if ([] : List Keyword).isEmpty then 0 else 1) < 30)) = true := by rfl)
    (hline : (apos.endLine == cpos.line) = true := by rfl) (hs : starEach (b :: []) X.env = (false, eval b X.env) :: starEach [] X.env := by rfl) (hplain : (backTo cpos (starEach [] X.env)).any (·.1) = false := by rfl) :
    De X pin W (.Call (.Attribute a "pop" apos) [b] [] cpos) (mPopAt i f) :=
  (pe_bm PySem.F.plainAttrs_list PySem.F.slot_list_pop PySem.F.type_list_pop (mtR_of mt_popAt) ha (pa_cons hb pa_nil hs) hbase hfew hline hs hplain).imp fun σ H Q ⟨env, ws, rr, hR, he, hx, k⟩ => by
    unfold mPopAt at he
    split at he
    · rename_i xs0 q0
      obtain ⟨a0, vs0, e0, h0, _⟩ := Rl.own (q1 := []) q0 hR
      refine ⟨.ref a0, e0, .inl ⟨rfl, _, SqL.of h0⟩, ?_⟩
      refine dE_bind hR he hx fun z env1 w H1 R1 he1 => ?_
      split at he1
      · rename_i xs j q1
        split at he1
        · rename_i hj
          split at he1
          · rename_i kk qk
            split at he1
            · rename_i y qy
              cases he1
              have dw := R1.dp
              cases dw
              obtain ⟨a1, vs, e1, h1, l, ps, r1, put⟩ := Rl.own (q1 := []) (ws := ws) q1 R1.drop
              have ev : (V.ref a0) = .ref a1 := Option.some.inj (Option.some.inj (e0.symm.trans e1))
              cases ev
              have hlt : kk < vs.length := by
                rw [l]
                exact (List.getElem?_eq_some_iff.mp qy).1
              obtain ⟨w, ew⟩ : ∃ w, vs[kk]? = some w := ⟨_, List.getElem?_eq_getElem hlt⟩
              refine ⟨a0, vs, j, kk, w, rfl, rfl, h1, hj.1, hj.2, by rw [l]; exact qk, ew, ?_⟩
              have pm := zip_erase l ew qy
              refine k _ _ rfl w _ ?_
              refine put (vs.eraseIdx kk) (xs.eraseIdx kk) [(w, y)] (by simp [List.length_eraseIdx, l]) ?_
              have r2 : R X.K [a0] H1 ((w, y) :: ((vs.eraseIdx kk).zip (xs.eraseIdx kk) ++ ps)) := r1.perm (List.Perm.append_right _ pm)
              exact r2.perm List.perm_middle.symm
            · cases he1
          · cases he1
        · cases he1
      · cases he1
    · cases he
/-- xs.insert(j, e) -/
def mIns (i : Nat) (fi f : M OV) : M OV := fun env => match env[i]? with
  | some (some (.lst _)) => mB fi (fun z => mB f fun y env1 => match env1[i]?, z with
    | some (some (.lst xs)), .val (.int j) => if 0 ≤ j ∧ j < 2 ^ 63 ∧ sz (xs.length + 1) = true then some (.ok (.val .none) (env1.set i (some (.lst (xs.take j.toNat ++ [y] ++ xs.drop j.toNat))))) else none
    | _, _ => none) env
  | _ => none
theorem de_ins (ha : PE X a (tVar i)) (hb : De X pin W b fi) (hc : De X pin W c f) (hbase : attributeBase a "insert" X.env (eval a X.env) = eval a X.env := by rfl)
    (hfew : ((backTo cpos (starEach (b :: c :: []) X.env)).all (fun x => !x.1) && (backToKw cpos (keywordEach [] X.env)).all (fun x => x.1.isSome)
      && decide ((b :: c :: []).length + ([] : List Keyword).length + (if ([] : List Keyword).isEmpty then 0 else 1) < 30)) = true := by rfl)
    (hline : (apos.endLine == cpos.line) = true := by rfl) (hs : starEach (b :: c :: []) X.env = (false, eval b X.env) :: starEach (c :: []) X.env := by rfl) (hs2 : starEach (c :: []) X.env = (false, eval c X.env) :: starEach [] X.env := by rfl) (hplain : (backTo cpos (starEach (c :: []) X.env)).any (·.1) = false := by rfl) :
    De X pin W (.Call (.Attribute a "insert" apos) [b, c] [] cpos) (mIns i fi f) :=
  (pe_bm PySem.F.plainAttrs_list PySem.F.slot_list_insert PySem.F.type_list_insert mt_insert ha (pa_cons hb (pa_cons hc pa_nil hs2) hs) hbase hfew hline hs hplain).imp fun σ H Q ⟨env, ws, rr, hR, he, hx, k⟩ => by
    unfold mIns at he
    split at he
    · rename_i xs0 q0
      obtain ⟨a0, vs0, e0, h0, _⟩ := Rl.own (q1 := []) q0 hR
      refine ⟨.ref a0, e0, .inl ⟨rfl, _, SqL.of h0⟩, ?_⟩
      refine dE_bind hR he hx fun z env1 w1 H1 R1 he1 => ?_
      refine dE_bind R1 he1 hx.drop fun y env2 w H2 R2 he2 => ?_
      split at he2
      · rename_i xs j q1
        split at he2
        · rename_i hj
          cases he2
          have r0 := (Rl.swapBag (.swap _ _ _) R2).dp
          cases r0
          have R3 : Rl X.K pin σ env2 ((w, y) :: ws) H2 := (Rl.swapBag (.swap _ _ _) R2).drop
          obtain ⟨a1, vs, e1, h1, l, ps, r1, put⟩ := Rl.own (q1 := [(w, y)]) (ws := ws) q1 R3
          have ev : (V.ref a0) = .ref a1 := Option.some.inj (Option.some.inj (e0.symm.trans e1))
          cases ev
          refine ⟨a0, vs, j, w, rfl, rfl, h1, ?_, hj.1, hj.2.1, ?_⟩
          · have := sz_le hj.2.2
            omega
          · refine k _ _ rfl .non _ (Rl.add (fun _ => .non) ?_)
            refine put _ _ [] (by simp [l]) ?_
            have pm := zip_ins j.toNat w y l
            refine R.perm (List.Perm.append_right _ pm.symm) ?_
            exact r1.perm List.perm_middle
        · cases he2
      · cases he2
    · cases he
end
end DL

/-! blocks one behind the other; a part of a list, borrowed -/
namespace DLX
open PySem PySem.W
variable {M : Model} {A : Around} {E : Value → Shared → Prop} {s : Shared} {env : Env}
theorem wp_execs_app {rest : List Stmt} : ∀ (l : List Stmt) {Γ : Ctx} {p : Pos} {s : Shared} {Q : Flow → Pos → Shared → Prop} {E : Value → Pos → Shared → Prop},
    Sem.wp M Γ (execs l env) (fun f p' s' => match f with | .next => Sem.wp M Γ (execs rest env) Q E p' s' | f => Q f p' s') E p s → Sem.wp M Γ (execs (l ++ rest) env) Q E p s
  | [], Γ, p, s, Q, E, h => h
  | st :: l, Γ, p, s, Q, E, h => by
    rw [List.cons_append, execs_cons, Sem.wp_bind']
    rw [execs_cons, Sem.wp_bind'] at h
    refine Sem.wp_mono M Γ _ (fun f p' s' h' => ?_) (fun _ _ _ h' => h') _ _ h
    cases f with
    | next => exact wp_execs_app l h'
    | ret v => exact h'
    | brk => exact h'
    | cont => exact h'
theorem wpAny_execs_app {l rest : List Stmt} {Q : Flow → Shared → Prop}
    (h : wpAny M A (execs l env) (fun f s' => match f with | .next => wpAny M A (execs rest env) Q E s' | f => Q f s') E s) : wpAny M A (execs (l ++ rest) env) Q E s := fun Γ p hΓ => by
  refine wp_execs_app l ?_
  refine Sem.wp_mono M Γ _ (fun f p' s' h' => ?_) (fun _ _ _ h' => h') _ _ (h Γ p hΓ)
  cases f with
  | next => exact h' Γ p' hΓ
  | ret v => exact h'
  | brk => exact h'
  | cont => exact h'
end DLX
namespace DL
open PySem PySem.Spec L2
theorem pss_app {X : Cx} {l rest : List Stmt} {t u : TS} (h1 : PSs X l t) (h2 : PSs X rest u) : PSs X (l ++ rest) (tSeq t u) := by
  refine ⟨fun pins s σ H D I h => ?_⟩
  refine DLX.wpAny_execs_app (thn (h1.run pins s σ H { D with nx := u D } I h) fun f s1 q => ?_)
  cases f with
  | next =>
    obtain ⟨σ', H', I', q⟩ := q
    exact h2.run pins s1 σ' H' D I' q
  | ret v => exact q
  | brk => exact q
  | cont => exact q
section
variable {X : Cx} {pin : Pins} {W : WX} {st : Stmt} {l sts : List Stmt} {s t : MS}
theorem dss_app (h1 : Dss X pin W l s) (h2 : Dss X pin W sts t) : Dss X pin W (l ++ sts) (sSeq s t) := (pss_app h1 h2).imp fun D σ H ⟨env, ws, r, hR, he, hp⟩ => by
  unfold sSeq at he
  split at he
  · rename_i env1 e1
    refine ⟨env, ws, _, hR, e1, ⟨fun env' q σ' H' R' => ?_, fun x env' q => (nomatch q), fun env' q => (nomatch q), fun env' q => (nomatch q), fun e env' q => (nomatch q)⟩⟩
    cases q
    exact ⟨env1, ws, r, R', he, hp⟩
  · rename_i q
    refine ⟨env, ws, r, hR, he, ⟨fun env' e => ?_, hp.rt, hp.bk, hp.ct, hp.ex⟩⟩
    subst e
    exact (q env' he).elim
end
section
variable {K : PySem.W.Frag} {A : List Addr} {H : Hp} {ps : Bag} {w : V} {y : OV} {ys : List OV}
theorem R.pullAt : ∀ {vs : List V} {xs : List OV} {k : Nat} {x : OV} {ps : Bag}, vs.length = xs.length → xs[k]? = some x → R K A H (vs.zip xs ++ ps) → ∃ v, vs[k]? = some v ∧ R K A H (vs.zip (xs.set k (.raw v)) ++ ((v, x) :: ps))
  | [], [], _, _, _, _, e, _ => by simp at e
  | [], _ :: _, _, _, _, l, _, _ => by simp at l
  | _ :: _, [], _, _, _, l, _, _ => by simp at l
  | v :: vs, x :: xs, 0, z, ps, l, e, r => by
    simp at e
    subst e
    refine ⟨v, rfl, ?_⟩
    have r1 : R K A H ((v, x) :: (vs.zip xs ++ ps)) := r
    have r2 : R K A H ((v, .raw v) :: (v, x) :: (vs.zip xs ++ ps)) := by
      obtain ⟨Z, nd, o⟩ := r1
      exact ⟨Z, nd, OwnL.cons .raw o⟩
    exact r2.perm (.cons _ List.perm_middle.symm)
  | v :: vs, x :: xs, k + 1, z, ps, l, e, r => by
    have r1 : R K A H (vs.zip xs ++ ((v, x) :: ps)) := R.unfront r
    obtain ⟨u, e1, r2⟩ := R.pullAt (vs := vs) (xs := xs) (by simpa using l) (by simpa using e) r1
    refine ⟨u, by simpa using e1, ?_⟩
    have r3 : R K A H ((v, x) :: (vs.zip (xs.set k (.raw u)) ++ ((u, z) :: ps))) := by
      refine r2.perm ?_
      refine (List.Perm.append_left _ (.swap _ _ _)).trans List.perm_middle
    exact r3
theorem R.putAt {vs : List V} {xs : List OV} {k : Nat} {v : V} {y : OV} (l : vs.length = xs.length) (e : vs[k]? = some v) (r : R K A H (vs.zip xs ++ ((v, y) :: ps))) : R K A H (vs.zip (xs.set k y) ++ ps) := by
  have r2 := zip_set v y (j := k) ps l r
  rw [set_self e] at r2
  exact r2
end
/-- a part of the list in slot i: which, the list, the part -/
def bor0 (i : Nat) (k : Int) (env : Env) : Option (Nat × List OV × OV) := match env[i]? with
  | some (some (.lst xs)) => match ixN xs.length k with
    | some n => match xs[n]? with
      | some y => some (n, xs, y)
      | none => none
    | none => none
  | _ => none
theorem bor0_some {i : Nat} {k : Int} {env : Env} {n : Nat} {xs : List OV} {y : OV} (h : bor0 i k env = some (n, xs, y)) : env[i]? = some (some (.lst xs)) ∧ ixN xs.length k = some n ∧ xs[n]? = some y := by
  unfold bor0 at h
  split at h
  · rename_i xs' e
    split at h
    · rename_i n' en
      split at h
      · rename_i y' ey
        cases h
        exact ⟨e, en, ey⟩
      · cases h
    · cases h
  · cases h
def unbor (i j n : Nat) (xs : List OV) (env : Env) : Option Env := match env[j]? with
  | some (some y) => some ((env.set j none).set i (some (.lst (xs.set n y))))
  | _ => none
/-- y = xs[e], then what changes y; then y is back in xs -/
def sBor (i j : Nat) (fi : M OV) (s : MS) : MS := fun env => match env[i]? with
  | some (some (.lst _)) => sB fi (fun z env1 => match z with
    | .val (.int k) => match bor0 i k env1 with
      | some (n, xs, y) => if j < env1.length then (match s ((env1.set i none).set j (some y)) with
        | some (.nx e2) => (unbor i j n xs e2).map .nx
        | some (.bk e2) => (unbor i j n xs e2).map .bk
        | some (.ct e2) => (unbor i j n xs e2).map .ct
        | some (.rt x e2) => some (.rt x e2)
        | some (.ex x e2) => some (.ex x e2)
        | none => none) else none
      | none => none
    | _ => none) env
  | _ => none
section
variable {K : PySem.W.Frag} {pin : Pins} {σ σ' : St} {env e2 e3 : Env} {ws : Bag} {H H' : Hp} {a : Addr} {v : V} {xs : List OV} {i j n : Nat}
theorem Rl.unpin {p : Nat × V} (r : Rl K (p :: pin) σ env ws H) : Rl K pin σ env ws H := ⟨r.ex, fun q hq => r.pn q (List.mem_cons_of_mem _ hq)⟩
theorem Rl.pinned {p : Nat × V} (h : σ[p.1]? = some (some p.2)) (r : Rl K pin σ env ws H) : Rl K (p :: pin) σ env ws H := ⟨r.ex, fun q hq => by
  rcases List.mem_cons.mp hq with rfl | hq
  · exact h
  · exact r.pn q hq⟩
theorem Rl.unbor (hole : ∃ us : List V, us.length = xs.length ∧ us[n]? = some v) (r : Rl K ((i, .ref a) :: (j, v) :: pin) σ e2 ((.ref a, .lst (xs.set n (.raw v))) :: ws) H) (e : unbor i j n xs e2 = some e3) : Rl K pin σ e3 ws H := by
  unfold DL.unbor at e
  split at e
  · rename_i y q
    cases e
    have pi := r.pn _ List.mem_cons_self
    have pj := r.pn _ (List.mem_cons_of_mem _ List.mem_cons_self)
    obtain ⟨v', e1, r1⟩ := (r.unpin.unpin).take q
    have ev : v' = v := Option.some.inj (Option.some.inj (e1.symm.trans pj))
    subst ev
    obtain ⟨ps, r2, back⟩ := Rl.fix (q1 := [(v', y), (.ref a, .lst (xs.set n (.raw v')))]) r1
    have r3 : R K [] H ((.ref a, .lst (xs.set n (.raw v'))) :: (v', y) :: ps) := r2.perm (.swap _ _ _)
    obtain ⟨a', us, ea, hb, l, r4⟩ := R.open r3
    cases ea
    have l' : us.length = (xs.set n (.raw v')).length := l
    have hn : n < xs.length := by
      obtain ⟨ws, l1, l2⟩ := hole
      rw [← l1]
      exact (List.getElem?_eq_some_iff.mp l2).1
    have eu : us[n]? = some v' := by
      have hn2 : n < us.length := by rw [l', List.length_set]; exact hn
      obtain ⟨w, ew⟩ : ∃ w, us[n]? = some w := ⟨_, List.getElem?_eq_getElem hn2⟩
      have hr : (xs.set n (.raw v'))[n]? = some (.raw v') := by
        rw [List.getElem?_set_self hn]
      obtain ⟨w2, ew2, r5⟩ := R.pullAt l' hr r4
      have e' : w2 = v' := by
        obtain ⟨Z, nd, o⟩ := R.dropL r5
        simp only [List.map_cons] at o
        cases o with
        | cons h1 h2 => cases h1; rfl
      rw [ew2, e']
    have r6 := R.putAt l' eu r4
    have r7 := R.close r6 (by simp [l'])
    rw [upd_self hb, List.set_set] at r7
    have r8 := back H [(.ref a, .lst (xs.set n y))] r7
    exact Rl.back pi r8
  · cases e
end
section
variable {X : Cx} {pin : Pins} {W : WX} {a b : Expr} {pos p p2 : Pos} {y : Str} {i j : Nat} {fi : M OV} {s t : MS} {mid rest : List Stmt}
theorem dss_bor (hN : X.N.Nodup) (hj : X.N[j]? = some y) (hy : Loc X.env.scope y) (ha : PE X a (tVar i)) (hb : De X pin W b fi)
    (hmid : ∀ u v, Dss X ((i, u) :: (j, v) :: pin) W mid s) (hp : pinOk pin j = true := by rfl) (hij : (i != j) = true := by rfl) (hs : PlainIx b := by intro _ _; rfl)
    (hsw : swapsWith (.Subscript a b p2) (some (.Name y p)) pos.line X.env = pure false := by rfl) (hf : X.fn y = true ∨ X.env.scope.names.lookup y = some .local := by first | exact .inl rfl | exact .inr rfl | assumption) :
    Dss X pin W (.Assign [.Name y p] (.Subscript a b p2) pos :: mid) (sBor i j fi s) := by
  have hm : PSs X mid (fun D σ H => ∃ u v, dS X.K X.mg ((i, u) :: (j, v) :: pin) W s D σ H) := ⟨fun pins s σ H D I ⟨u, v, h⟩ => (hmid u v).run pins s σ H D I h⟩
  refine (pss_cons (ps_set hN hj hy (pe_ix ix_list ha hb hs) hsw hf) hm).imp fun D σ H ⟨env, ws, r, hR, he, hp'⟩ => ?_
  unfold sBor at he
  split at he
  · rename_i xs0 q0
    obtain ⟨v0, e0⟩ := hR.slot q0
    refine ⟨v0, e0, ?_⟩
    refine sB_use (D := D) hR he (fun ee env' q cls d H' ie R' => hp'.ex ee env' q cls d σ H' ie R') fun z env1 w H1 R1 he1 => ?_
    split at he1
    · rename_i kk
      split at he1
      · rename_i n xs yv q1
        split at he1
        · rename_i hlt
          obtain ⟨b1, b2, b3⟩ := bor0_some q1
          have dw := R1.dp
          cases dw
          have R2 := R1.drop
          obtain ⟨va, ea, R3⟩ := R2.take b1
          have ev : v0 = va := Option.some.inj (Option.some.inj (e0.symm.trans ea))
          subst ev
          obtain ⟨ps, r4, back⟩ := Rl.fix (q1 := [(v0, .lst xs)]) R3
          obtain ⟨a0, us, rfl, h0, l, r5⟩ := R.open r4
          obtain ⟨v, e1, r6⟩ := R.pullAt l b3 r5
          have r7 : R X.K [a0] H1 (us.zip (xs.set n (.raw v)) ++ ((v, yv) :: ps)) := r6
          have r8 := R.close r7 (by simp [l])
          rw [upd_self h0] at r8
          have R9 : Rl X.K pin σ (env1.set i none) ((v, yv) :: (.ref a0, .lst (xs.set n (.raw v))) :: ws) H1 := back H1 [(v, yv), (.ref a0, .lst (xs.set n (.raw v)))] (r8.perm (.swap _ _ _))
          have hl : j < σ.length := by
            rw [R9.len, List.length_set]
            exact hlt
          have R10 := R9.put hl (pinOk_not hp)
          have hne : i ≠ j := by
            intro z
            subst z
            simp at hij
          have s1 : (σ.set j (some v))[i]? = some (some (.ref a0)) := by
            rw [List.getElem?_set_ne hne.symm]
            exact ea
          have s2 : (σ.set j (some v))[j]? = some (some v) := by
            rw [List.getElem?_set_self hl]
          have R11 := Rl.pinned (p := (i, V.ref a0)) s1 (Rl.pinned (p := (j, v)) s2 R10)
          have hole : ∃ us : List V, us.length = xs.length ∧ us[n]? = some v := ⟨us, l, e1⟩
          refine ⟨a0, us, kk, v, rfl, rfl, SqL.of h0, atI_of b2 l e1, ?_⟩
          show ∃ u v, dS X.K X.mg ((i, u) :: (j, v) :: pin) W s D _ _
          split at he1
          · rename_i e2 q
            cases q3 : unbor i j n xs e2 with
            | none => rw [q3] at he1; cases he1
            | some e3 =>
              rw [q3] at he1
              cases he1
              exact ⟨.ref a0, v, _, _, _, R11, q, ⟨fun env' qq σ' H' R' => by cases qq; exact hp'.nx _ rfl σ' H' (Rl.unbor hole R' q3), fun x env' qq => (nomatch qq), fun env' qq => (nomatch qq), fun env' qq => (nomatch qq), fun e env' qq => (nomatch qq)⟩⟩
          · rename_i e2 q
            cases q3 : unbor i j n xs e2 with
            | none => rw [q3] at he1; cases he1
            | some e3 =>
              rw [q3] at he1
              cases he1
              exact ⟨.ref a0, v, _, _, _, R11, q, ⟨fun env' qq => (nomatch qq), fun x env' qq => (nomatch qq), fun env' qq σ' H' R' => by cases qq; exact hp'.bk _ rfl σ' H' (Rl.unbor hole R' q3), fun env' qq => (nomatch qq), fun e env' qq => (nomatch qq)⟩⟩
          · rename_i e2 q
            cases q3 : unbor i j n xs e2 with
            | none => rw [q3] at he1; cases he1
            | some e3 =>
              rw [q3] at he1
              cases he1
              exact ⟨.ref a0, v, _, _, _, R11, q, ⟨fun env' qq => (nomatch qq), fun x env' qq => (nomatch qq), fun env' qq => (nomatch qq), fun env' qq σ' H' R' => by cases qq; exact hp'.ct _ rfl σ' H' (Rl.unbor hole R' q3), fun e env' qq => (nomatch qq)⟩⟩
          · rename_i x e2 q
            cases he1
            exact ⟨.ref a0, v, _, _, _, R11, q, ⟨fun env' qq => (nomatch qq), fun x env' qq v' σ' H' R' => by cases qq; exact hp'.rt _ _ rfl v' σ' H' (Rl.swapBag (.swap _ _ _) R'.unpin.unpin).drop, fun env' qq => (nomatch qq), fun env' qq => (nomatch qq), fun e env' qq => (nomatch qq)⟩⟩
          · rename_i x e2 q
            cases he1
            exact ⟨.ref a0, v, _, _, _, R11, q, ⟨fun env' qq => (nomatch qq), fun x env' qq => (nomatch qq), fun env' qq => (nomatch qq), fun env' qq => (nomatch qq), fun e env' qq cls d σ' H' ie R' => by cases qq; exact hp'.ex _ _ rfl cls d σ' H' ie R'.unpin.unpin.drop⟩⟩
          · cases he1
        · cases he1
      · cases he1
    · cases he1
  · cases he
end
end DL

/-! sets of a tuple's ints; len of a set; tuple * int -/
namespace DL
open PySem PySem.Spec L2
theorem ints_are : ∀ {ns : List Int} {us : List Value}, Vals (ns.map V.int) us → PyProof.Rows.IntsAre us ns
  | [], _, .nil => .nil
  | n :: ns, _, .cons r t => by
    obtain ⟨tk, rfl⟩ := r
    exact .cons _ _ (ints_are t)
section
variable {X : Cx}
def rSetTI (K : PySem.W.Frag) (w : World) : List V → Hp → VK → Prop := fun xs H Q => ∃ (l : Addr) (ns : List Int), xs = [V.ref l] ∧ SqT K H l (ns.map V.int) ∧ ns.length < 4000 ∧
  ∀ a n, H a = none → n ≤ ns.length → Q (.ref a) (upd H a (SetO w a (fun j => decide (j ∈ ns)) n))
theorem cr_setTI (hc : X.calm = true) : CallR X (.type "set") (rSetTI X.K X.w) := by
  intro pins s σ H xs us Q I r h
  obtain ⟨l, ns, rfl, hl, hf, q⟩ := h
  rw [Vals.ref1 r]
  obtain ⟨its, rv, pl, hz⟩ := I.tuple hl
  have hn : H s.heap.objs.size = none := I.hok.fresh (Nat.le_refl _)
  refine call_set_tupI (P := X.prog) (w := X.w) ns (I.ok.hd hc) pl (ints_are (by simpa using rv)) (by unfold scanBound; omega) fun h' tk c R g k => ?_
  exact ⟨.ref s.heap.objs.size, upd H s.heap.objs.size (SetO X.w s.heap.objs.size (fun j => decide (j ∈ ns)) c), I.laid (t' := tk) k (Nat.le_refl _) (setO_new R), rfl, q _ c hn g⟩
/-- len of a set of ints -/
def rLenSI (w : World) : List V → Hp → VK → Prop := fun xs H Q => ∃ (a : Addr) (S : Int → Bool) (n : Nat), xs = [V.ref a] ∧ H a = some (SetO w a S n) ∧
  ∀ ks : List Int, ks.Nodup → (∀ k, S k = true ↔ k ∈ ks) → Q (.int (ks.length : Nat)) H
theorem call_lenSI : CallR X (.builtin "len") (rLenSI X.w) := by
  intro pins s σ H xs us Q I r h
  obtain ⟨a, S, n, rfl, ha, q⟩ := h
  rw [Vals.ref1 r]
  obtain ⟨o, es, ep, t, ho, hx, hd, g, nd, hm, hb, hf, hn, _⟩ := setO_get I ha
  refine call_len_set ho hx hd hf (by unfold scanBound at hb; omega) ?_
  have e : (es.toList.map keyOf).length = es.size := by simp
  rw [← e]
  exact ⟨.int _, H, I.tok _, ⟨_, rfl⟩, q _ nd hm⟩
/-- len of a set of tuples -/
def rLenSN (w : World) : List V → Hp → VK → Prop := fun xs H Q => ∃ (a : Addr) (L : NS.Rw), xs = [V.ref a] ∧ H a = some (NS.SNO w a L) ∧ Q (.int (L.length : Nat)) H
theorem call_lenSN : CallR X (.builtin "len") (rLenSN X.w) := by
  intro pins s σ H xs us Q I r h
  obtain ⟨a, L, rfl, ha, q⟩ := h
  rw [Vals.ref1 r]
  have R0 : NS.SN0 X.w s.heap a L := (I.hok a _ ha).1
  obtain ⟨es, ep, t, ⟨o, ho, hx, hd⟩, hr, ht, nd, hl, hroom, hfew⟩ := R0.ex
  have e : es.size = L.length := NS.rws_len hr
  refine call_len_set ho hx hd ?_ (by omega) ?_
  · rw [e]
    unfold SetTable.fits SetTable.fill
    rw [ht.sz, ht.dm, List.length_map]
    simp
    omega
  · rw [e]
    exact ⟨.int _, H, I.tok _, ⟨_, rfl⟩, q⟩
end
def nubI : List Int → List Int
  | [] => []
  | n :: ns => if n ∈ nubI ns then nubI ns else n :: nubI ns
theorem mem_nubI {x : Int} : ∀ {ns : List Int}, x ∈ nubI ns ↔ x ∈ ns
  | [] => Iff.rfl
  | n :: ns => by
    have ih := mem_nubI (x := x) (ns := ns)
    unfold nubI
    split
    · rename_i h
      rw [List.mem_cons, ih]
      constructor
      · exact .inr
      · rintro (rfl | h')
        · exact mem_nubI.mp h
        · exact h'
    · rw [List.mem_cons, List.mem_cons, ih]
theorem nubI_nodup : ∀ (ns : List Int), (nubI ns).Nodup
  | [] => .nil
  | n :: ns => by
    unfold nubI
    split
    · exact nubI_nodup ns
    · rename_i h
      exact List.nodup_cons.mpr ⟨h, nubI_nodup ns⟩
def lenSetD : Dt → Option OV
  | .list ds => match intsD ds with
    | some ns => if ns.length < 4000 then some (oI (nubI ns).length) else none
    | none => match setD ds with
      | some es => if (decide (ds.length < 64) && ds.all isTupD && ds.all fun x => decide (x.depth ≤ 8)) = true then some (oI es.length) else none
      | none => none
  | .tuple ds => match intsD ds with
    | some ns => if ns.length < 4000 then some (oI (nubI ns).length) else none
    | none => none
  | _ => none
def rSetH (K : PySem.W.Frag) (w : World) : List V → Hp → VK → Prop := fun xs H Q => rSetG K w xs H Q ∨ rSetTI K w xs H Q
theorem cr_setH {X : Cx} (hc : X.calm = true) (hu : X.A.units + 64 < cLine) : CallR X (.type "set") (rSetH X.K X.w) := (cr_setG hc hu).or (cr_setTI hc)
def rLenH (w : World) : List V → Hp → VK → Prop := fun xs H Q => rLenSI w xs H Q ∨ rLenSN w xs H Q
theorem call_lenH {X : Cx} : CallR X (.builtin "len") (rLenH X.w) := call_lenSI.or call_lenSN
theorem use_lenSet {K : PySem.W.Frag} {w : World} {H : Hp} {v : V} {d : Dt} {z : OV} {Q : VK} {ps : Bag} (e : lenSetD d = some z) (rr : R K [] H ((v, .val d) :: ps)) (k : ∀ v' H', R K [] H' ((v', z) :: ps) → Q v' H') :
    rSetH K w [v] H fun s H3 => rLenH w [s] H3 Q := by
  unfold lenSetD at e
  split at e
  · rename_i ds
    have dp := R.dp rr
    cases dp with
    | @lst l _ _ _ _ =>
      obtain ⟨xs, hs, le, r2⟩ := R.unlst rr
      have r3 : R K [] H (xs.zip (ds.map .val) ++ ps) := R.drop (r2.perm List.perm_middle)
      have da := R.dpAll le r3
      have keep : ∀ {a : Addr} {o : HO}, H a = none → R K [] (upd H a o) ps := fun ha => (R.dropL r3).mono fun b o eb => by rw [upd_ne (ne_of_none eb ha)]; exact eb
      split at e
      · rename_i ns hi
        split at e
        · rename_i hl
          cases e
          have hx := intsD_vs hi da
          subst hx
          refine .inl (.inl ⟨l, ns, rfl, hs, hl, fun a n ha hn => .inl ⟨a, _, n, rfl, upd_same, fun ks nd hm => ?_⟩⟩)
          have el : ks.length = (nubI ns).length := (List.Perm.length_eq ((List.perm_ext_iff_of_nodup nd (nubI_nodup ns)).mpr fun x => by
            rw [mem_nubI, ← hm x]
            simp))
          rw [el]
          exact k _ _ (R.add (fun _ => .int _) (keep ha))
        · cases e
      · split at e
        · rename_i es hse
          split at e
          · rename_i hcond
            cases e
            rw [Bool.and_eq_true, Bool.and_eq_true] at hcond
            obtain ⟨⟨h64, htup⟩, hdep⟩ := hcond
            have h64 := of_decide_eq_true h64
            have hdep' : ∀ d ∈ ds, d.depth ≤ 8 := fun d hd => of_decide_eq_true (List.all_eq_true.mp hdep d hd)
            unfold setD at hse
            cases qk : NS.nkeys ds with
            | none => rw [qk] at hse; cases hse
            | some ks =>
              rw [qk] at hse
              cases hse
              obtain ⟨Z, nd, dF, own⟩ := R.dps le r3
              obtain ⟨L, rfl, e2, hL⟩ := keyed_of dF qk htup hdep'
              obtain ⟨na, nb⟩ := nkeys_each qk
              have inds : ∀ p ∈ L, p.2.data ∈ ds := fun p hp => (nb p.2 (by rw [← e2]; exact List.mem_map.mpr ⟨p, hp, rfl⟩)).2
              have keyat : ∀ p ∈ L, NS.KeyAt K H p := fun p hp => ⟨_, Dp.same hid_le (hL p hp).1, (hL p hp).2, Nat.le_trans (key_depth _ _ (hL p hp).2) (hdep' _ (inds p hp))⟩
              refine .inl (.inr ⟨l, L, rfl, hs, keyat, by have := le; rw [List.length_map] at this; omega, fun a Ls ha s1 s2 nds => .inr ⟨a, Ls, rfl, upd_same, ?_⟩⟩)
              have el : Ls.length = ((nubK ks).map NestedKey.data).length := by
                rw [List.length_map, ← List.length_map (as := Ls) (f := (·.2))]
                refine List.Perm.length_eq ((List.perm_ext_iff_of_nodup nds (nub_nodup ks)).mpr fun x => ?_)
                rw [mem_nub, ← e2]
                constructor
                · intro hx
                  obtain ⟨p, hp, rfl⟩ := List.mem_map.mp hx
                  exact List.mem_map.mpr ⟨p, s1 p hp, rfl⟩
                · intro hx
                  obtain ⟨p, hp, rfl⟩ := List.mem_map.mp hx
                  exact s2 p hp
              rw [el]
              exact k _ _ (R.add (fun _ => .int _) (keep ha))
          · cases e
        · cases e
  · rename_i ds
    split at e
    · rename_i ns hi
      split at e
      · rename_i hl
        cases e
        have dp := R.dp rr
        cases dp with
        | @tup l _ _ _ _ =>
          obtain ⟨xs, hs, le, r2⟩ := R.untup rr
          have r3 : R K [] H (xs.zip (ds.map .val) ++ ps) := R.drop (r2.perm List.perm_middle)
          have da := R.dpAll le r3
          have hx := intsD_vs hi da
          subst hx
          refine .inr ⟨l, ns, rfl, hs, hl, fun a n ha hn => .inl ⟨a, _, n, rfl, upd_same, fun ks nd hm => ?_⟩⟩
          have el : ks.length = (nubI ns).length := (List.Perm.length_eq ((List.perm_ext_iff_of_nodup nd (nubI_nodup ns)).mpr fun x => by
            rw [mem_nubI, ← hm x]
            simp))
          rw [el]
          exact k _ _ (R.add (fun _ => .int _) ((R.dropL r3).mono fun b o eb => by rw [upd_ne (ne_of_none eb ha)]; exact eb))
      · cases e
    · cases e
  · cases e
def mLenSet (f : M OV) : M OV := mB f fun x => mO (x.frz.bind lenSetD)
section
variable {X : Cx} {pin : Pins} {W : WX} {e : Expr} {f : M OV} {p p2 q pos : Pos}
theorem de_lenSet (hc : X.calm = true) (hu : X.A.units + 64 < cLine) (m1 : X.mg "len" = none) (m2 : X.mg "set" = none) (he : De X pin W e f) (g1 : Gl X "len" := by rfl) (g2 : Gl X "set" := by rfl)
    (hs1 : starEach [e] X.env = (false, eval e X.env) :: starEach [] X.env := by rfl) (hs2 : starEach [.Call (.Name "set" p2) [e] [] q] X.env = (false, eval (.Call (.Name "set" p2) [e] [] q) X.env) :: starEach [] X.env := by rfl)
    (hp1 : (backTo q (starEach [] X.env)).any (·.1) = false := by rfl) (hp2 : (backTo pos (starEach [] X.env)).any (·.1) = false := by rfl) :
    De X pin W (.Call (.Name "len" p) [.Call (.Name "set" p2) [e] [] q] [] pos) (mLenSet f) :=
  (pe_callB call_lenH g1 m1 (by decide +kernel) (pa_cons (pe_callTy (cr_setH hc hu) g2 m2 (by decide +kernel) (pa_cons he pa_nil hs1) (by decide) (by decide) hs1 hp1) pa_nil hs2) (by decide) (by decide) hs2 hp2).imp fun σ H Q ⟨env, ws, r, hR, he, hx, k⟩ => by
    refine dE_bind hR he hx fun x env1 v H1 R1 he1 => ?_
    obtain ⟨z, e3, rfl⟩ := mO_some he1
    cases q1 : x.frz with
    | none => simp [q1] at e3
    | some d =>
      simp [q1] at e3
      have R2 := Rl.under (q1 := [(v, x)]) (q2 := [(v, .val d)]) (fun _ r => R.frz q1 r) R1
      obtain ⟨ps, rr, back⟩ := Rl.fix (q1 := [(v, .val d)]) R2
      exact use_lenSet e3 rr fun v' H' r1 => k _ _ rfl v' H' (back H' [(v', z)] r1)
end
end DL

/-! tuple * int -/
namespace DL
open PySem PySem.Spec L2
def repOk (ds : List Dt) (k : Int) : Bool := !ds.isEmpty && decide (2 ≤ k) && decide (k ≤ 1000) && decide (ds.length ≤ 1000)
def mulD : Dt → Dt → Option OV
  | .tuple ds, .int k => if repOk ds k = true then some (.val (.tuple (List.replicate k.toNat ds).flatten)) else none
  | x, y => mulI x y
def rMulG (K : PySem.W.Frag) : R2 := fun x y H Q => rRepT K x y H Q ∨ rI CMul (fun i j => .int (i * j)) x y H Q
theorem op_mulG {X : Cx} : OpR X (binaryOp .Mult) (rMulG X.K) := op_repT.or op_mul
theorem DpAll.rep {K : PySem.W.Frag} {H : Hp} {ds : List Dt} {vs : List V} (h : DpAll K H vs ds) : ∀ n : Nat, DpAll K H (List.replicate n vs).flatten (List.replicate n ds).flatten
  | 0 => .nil
  | n + 1 => by
    rw [List.replicate_succ, List.flatten_cons, List.replicate_succ, List.flatten_cons]
    exact DpAll.append h (DpAll.rep h n)
theorem DpAll.len {K : PySem.W.Frag} {H : Hp} : ∀ {ds : List Dt} {vs : List V}, DpAll K H vs ds → vs.length = ds.length
  | _, _, .nil => rfl
  | _, _, .cons _ t => by rw [List.length_cons, List.length_cons, DpAll.len t]
theorem s2_mulG {K : PySem.W.Frag} : Sound2 K (rMulG K) mulD := fun H v w x y z Q ps e rr k => by
  unfold mulD at e
  split at e
  · rename_i ds kk
    split at e
    · rename_i hr
      cases e
      unfold repOk at hr
      rw [Bool.and_eq_true, Bool.and_eq_true, Bool.and_eq_true] at hr
      obtain ⟨⟨⟨h1, h2⟩, h3⟩, h4⟩ := hr
      have h2 := of_decide_eq_true h2
      have h3 := of_decide_eq_true h3
      have h4 := of_decide_eq_true h4
      have d2 := R.dp rr
      cases d2
      have r1 := rr.drop
      have d1 := R.dp r1
      cases d1 with
      | @tup l _ _ _ _ =>
        obtain ⟨xs, hs, le, r2⟩ := R.untup r1
        have r3 : R K [] H (xs.zip (ds.map .val) ++ ps) := R.drop (r2.perm List.perm_middle)
        refine .inl ⟨l, kk, xs, rfl, rfl, hs, ?_, h2, h3, by omega, fun p hp => k _ _ ?_⟩
        · rintro rfl
          cases ds with
          | nil => simp at h1
          | cons _ _ => simp at le
        · obtain ⟨Z, nd, dF, own⟩ := R.dps le r3
          have dr := DpAll.rep dF kk.toNat
          exact R.newT (R.of_dps nd dr own) (DpAll.len dr) hp
    · cases e
  · exact .inr (s2_mul H v w _ _ z Q ps e rr k)
end DL

/-! t[::-1] of a tuple -/
namespace DLX
open PySem PySem.Spec PyProof.Rows HT
section
variable {prog : Program} {w : World} {A : Around} {E : Value → Shared → Prop} {s : Shared}
theorem adjust_rev (n : Nat) : Builtin.Slice.sliceAdjust none none (-1) (n : Int) = ((n : Int) - 1, -1) := rfl
theorem places_rev (n : Nat) : Builtin.Slice.slicePlaces ((n : Int) - 1) (-1) (-1) = n := by
  unfold Builtin.Slice.slicePlaces
  have h1 : ¬ (-1 : Int) > 0 := by omega
  simp only [h1, if_false]
  have h2 : (-(-1) : Int) = 1 := by omega
  rw [h2, Int.ediv_one]
  split <;> omega
theorem sliceApplied_rev {sl : Addr} {n : Nat} {t : Tok} {Q : Int × Int × Nat → Shared → Prop} (hs : s.heap.IsSliceOf sl .none .none (.int (-1) t))
    (h : Q ((n : Int) - 1, -1, n) s) : wpAny (model prog w) A (Builtin.Slice.sliceApplied (.ref sl) (pure (n : Int))) Q E s := by
  obtain ⟨os, hos, hcs, hds⟩ := id hs
  unfold Builtin.Slice.sliceApplied Builtin.Slice.sliceFields
  refine wpAny_bind (wpAny_bind (wpAny_field hos hds (x := .none) rfl (wpAny_bind (wpAny_field hos hds (x := .none) rfl (wpAny_bind (wpAny_field hos hds (x := .int (-1) t) rfl (wpAny_pure ?_)))))))
  refine wpAny_bind (slicePart_ (.int (-1) t) ?_)
  show wpAny _ _ (if ((-1 : Int) == 0) = true then _ else _) _ _ s
  rw [if_neg (by decide)]
  refine wpAny_bind (slicePart_ .none (wpAny_bind (slicePart_ .none (wpAny_bind (wpAny_pure ?_)))))
  show wpAny _ _ (match Builtin.Slice.sliceAdjust none none (-1) (n : Int) with | (lo, hi) => pure (lo, (-1 : Int), Builtin.Slice.slicePlaces lo hi (-1))) _ _ s
  rw [adjust_rev n]
  show wpAny _ _ (pure ((n : Int) - 1, (-1 : Int), Builtin.Slice.slicePlaces ((n : Int) - 1) (-1) (-1))) _ _ s
  rw [places_rev]
  exact wpAny_pure h
theorem filterMap_some' {α β : Type} {f : α → Option β} {g : α → β} : ∀ (l : List α), (∀ x ∈ l, f x = some (g x)) → l.filterMap f = l.map g
  | [], _ => rfl
  | a :: l, h => by
    rw [List.filterMap_cons, h a List.mem_cons_self, List.map_cons, filterMap_some' l fun x hx => h x (List.mem_cons_of_mem _ hx)]
theorem pick_rev (xs : Array Value) : ((List.range xs.size).filterMap fun (m : Nat) => xs[(((xs.size : Nat) : Int) - 1 + (m : Int) * (-1)).toNat]?).toArray = xs.toList.reverse.toArray := by
  congr 1
  refine List.ext_getElem? fun i => ?_
  have e : ∀ m ∈ List.range xs.size, xs[(((xs.size : Nat) : Int) - 1 + (m : Int) * (-1)).toNat]? = some (xs.toList.reverse.getD m .none) := fun m hm => by
    have hm := List.mem_range.mp hm
    have e1 : (((xs.size : Nat) : Int) - 1 + (m : Int) * (-1)).toNat = xs.size - 1 - m := by omega
    rw [e1, ← Array.getElem?_toList]
    have hl : m < xs.toList.length := by rw [Array.length_toList]; exact hm
    have e2 : xs.toList.reverse[m]? = xs.toList[xs.toList.length - 1 - m]? := List.getElem?_reverse hl
    rw [List.getD_eq_getElem?_getD, e2, Array.length_toList]
    have hl2 : xs.size - 1 - m < xs.toList.length := by rw [Array.length_toList]; omega
    rw [List.getElem?_eq_getElem hl2] <;> rfl
  rw [filterMap_some' _ e, List.getElem?_map]
  by_cases hi : i < xs.size
  · rw [List.getElem?_range hi]
    have hl : i < xs.toList.reverse.length := by rw [List.length_reverse, Array.length_toList]; exact hi
    rw [Option.map_some, List.getD_eq_getElem?_getD, List.getElem?_eq_getElem hl, Option.getD_some]
  · have h1 : (List.range xs.size)[i]? = none := List.getElem?_eq_none (by rw [List.length_range]; omega)
    have h2 : xs.toList.reverse[i]? = none := List.getElem?_eq_none (by rw [List.length_reverse, Array.length_toList]; omega)
    rw [h1, h2] <;> rfl
theorem getItem_tuple_rev {t sl : Addr} {items : Array Value} {k : Tok} {Q : Value → Shared → Prop} (ht : IsTup s.heap t items) (hs : s.heap.IsSliceOf sl .none .none (.int (-1) k))
    (hw : 0 < items.size)
    (h : Q (.ref s.heap.objs.size) { s with heap := s.heap.push { cls := .type "tuple", data := .seq items.toList.reverse.toArray } })
    (hsz : items.size ≤ sizeLine) : wpAny (model prog w) A (getItem (.ref t) (.ref sl)) Q E s := by
  have htake : sizeOk (.seq items.toList.reverse.toArray) := by
    show items.toList.reverse.toArray.size ≤ sizeLine
    rw [List.size_toArray, List.length_reverse, Array.length_toList]
    omega
  obtain ⟨os, hos, hcs, hds⟩ := id hs
  have hTs : s.TypeIs (.ref sl) "slice" := ⟨os, hos, hcs⟩
  unfold getItem
  try with_reducible refine wpAny_holding ?_
  first | refine wpAny_bind (wpAny_pure ?_) | skip
  refine wpAny_bind (wpAny_sequenceKey ht.typeIs (by decide) ?_)
  refine wpAny_bind (wpAny_callSpecial?_slot (name := Str.ofString "__getitem__") ht.typeIs PyProof.Rows.slot_tuple_getitem
    (wpAny_call_entry PyProof.Rows.slot_tuple_getitem ht.typeIs entry_tuple_getitem ?_ (args_tuple_getitem _ _)))
  show wpAny _ _ (Builtin.Tuple.tupleItemsOf (.ref t) >>= _) _ _ s
  refine wpAny_bind (tupleItemsOf_ ht ?_)
  refine wpAny_bind (wpAny_typeOf hTs ?_)
  rw [if_pos (by decide)]
  refine wpAny_bind (sliceApplied_rev hs ?_)
  have hno : ¬ (((((items.size : Nat) : Int) - 1) == 0 && (-1 : Int) == 1 && items.size == items.size) = true) := by
    intro q
    rw [Bool.and_eq_true, Bool.and_eq_true] at q
    have q1 : (-1 : Int) = 1 := eq_of_beq q.1.2
    omega
  show wpAny _ _ (if ((((items.size : Nat) : Int) - 1) == 0 && (-1 : Int) == 1 && items.size == items.size) = true then _ else _) _ _ s
  rw [if_neg hno, pick_rev]
  first
    | exact wpAny_bind (m := Builtin.Tuple.tupleExact _) (wpAny_newObj_type (wpAny_pure ⟨_, rfl, wpAny_pure h⟩) htake)
    | exact wpAny_bind (m := Builtin.Tuple.tupleExact _) (wpAny_newObj_type (wpAny_bind (wpAny_pure (wpAny_pure ⟨_, rfl, wpAny_pure h⟩))) htake)
    | exact wpAny_bind (wpAny_bind (m := Builtin.Tuple.tupleExact _) (wpAny_newObj_type (wpAny_pure (wpAny_pure ⟨_, rfl, wpAny_pure h⟩)) htake))
    | exact wpAny_bind (wpAny_bind (m := Builtin.Tuple.tupleExact _) (wpAny_newObj_type (wpAny_pure ⟨_, rfl, wpAny_pure h⟩) htake))
end
end DLX
namespace DL
open PySem PySem.Spec L2 PyProof.Rows
section
variable {X : Cx} {pin : Pins} {W : WX} {e st : Expr} {te ts : TE} {f fs : M OV} {pos p2 : Pos}
def tSlRev (K : PySem.W.Frag) (te ts : TE) : TE := fun σ H Q => te σ H fun x H1 => ts σ H1 fun k H2 => k = .int (-1) ∧ ∃ a xs, x = .ref a ∧ SqT K H2 a xs ∧ xs ≠ [] ∧ ∀ p, H2 p = none → Q (.ref p) (upd H2 p (.tup xs.reverse))
theorem pe_sliceRev (he : PE X e te) (hs : PE X st ts) : PE X (.Subscript e (.Slice none none (some st) p2) pos) (tSlRev X.K te ts) := by
  refine ⟨fun pins s σ H Q I h => ?_⟩
  refine Subscript_ (thn (he.run pins s σ H _ I h) fun v s1 ⟨x, H1, I1, r1, q1⟩ => ?_)
  refine wpAny_Slice ?_
  rw [evalPart_none]
  refine wpAny_pure ?_
  refine wpAny_pure ?_
  rw [evalPart_some]
  refine thn (hs.run pins s1 σ H1 _ I1 q1) fun u s3 ⟨k, H3, I3, r3, q3⟩ => ?_
  obtain ⟨rfl, a, xs, rfl, hx, hne, q⟩ := q3
  obtain ⟨t, rfl⟩ := r3
  cases r1
  have I4 : Inv X pins σ H3 { s3 with heap := s3.heap.push { cls := .type "slice", data := .fields #[.none, .none, .int (-1) t] } } := I3.kept (t' := s3.toks) fun b ob q => Heap.get?_push_of_some _ q
  obtain ⟨its, r, ht, hz⟩ := I4.tuple hx
  have hlen : its.toArray.size = xs.length := by rw [List.size_toArray]; exact r.length.symm
  have hpos : 0 < its.toArray.size := by
    rw [hlen]
    cases xs with
    | nil => exact absurd rfl hne
    | cons _ _ => simp
  show wpAny (model X.prog X.w) X.A (subscriptTail e (.Slice none none (some st) p2) (.ref a) (.ref s3.heap.objs.size)) (EP X pins σ Q) X.xe { s3 with heap := s3.heap.push { cls := .type "slice", data := .fields #[.none, .none, .int (-1) t] } }
  refine tail_any (ops := [.ref a, .ref s3.heap.objs.size]) ht.typeIs PyProof.Rows.slot_tuple_getitem.lookup (DLX.getItem_tuple_rev ht (Heap.IsSliceOf.new ..) hpos ?_ (by rw [hlen]; exact hz)) (by with_unfolding_all rfl)
  refine ⟨.ref _, _, I4.laid (t' := s3.toks) (o := .tup xs.reverse) (fun b ob q => Heap.get?_push_of_some _ q) (Nat.le_refl _) ?_, rfl, q _ (I4.hok.fresh (Nat.le_refl _))⟩
  exact ⟨by rw [List.length_reverse]; exact hz, its.reverse, r.reverse, IsTup.new _ _⟩
def mSlRev (f fs : M OV) : M OV := mB f fun x => mB fs fun k => mO (match x.frz, k with
  | some (.tuple (d :: ds)), .val (.int (-1)) => some (.val (.tuple (d :: ds).reverse))
  | _, _ => none)
theorem de_sliceRev (ha : De X pin W e f) (hs : De X pin W st fs) : De X pin W (.Subscript e (.Slice none none (some st) p2) pos) (mSlRev f fs) :=
  (pe_sliceRev ha hs).imp fun σ H Q ⟨env, ws, rr, hR, he, hx, k⟩ => by
    refine dE_bind hR he hx fun x env1 v H1 R1 he1 => ?_
    refine dE_bind R1 he1 hx.drop fun kk env2 w H2 R2 he2 => ?_
    obtain ⟨z, e3, rfl⟩ := mO_some he2
    split at e3
    · rename_i d ds qx
      cases e3
      have dw := R2.dp
      cases dw
      have R3 := R2.drop
      have R4 := Rl.under (q1 := [(v, x)]) (q2 := [(v, .val (.tuple (d :: ds)))]) (fun _ r => R.frz qx r) R3
      obtain ⟨ps, r0, back⟩ := Rl.fix (q1 := [(v, .val (.tuple (d :: ds)))]) R4
      have d1 := R.dp r0
      cases d1 with
      | @tup l _ _ _ _ =>
        obtain ⟨xs, hs, le, r2⟩ := R.untup r0
        have r3 : R X.K [] H2 (xs.zip ((d :: ds).map .val) ++ ps) := R.drop (r2.perm List.perm_middle)
        refine ⟨rfl, l, xs, rfl, hs, ?_, fun p hp => ?_⟩
        · rintro rfl
          simp at le
        · refine k _ _ rfl _ _ (back _ [(.ref p, .val (.tuple (d :: ds).reverse))] ?_)
          refine R.newT ?_ (by simpa using le) hp
          have ez : xs.reverse.zip ((d :: ds).reverse.map OV.val) = (xs.zip ((d :: ds).map OV.val)).reverse := by
            rw [List.map_reverse]
            exact zip_rev (by simpa using le)
          rw [ez]
          exact r3.perm (List.Perm.append_right _ (List.reverse_perm _).symm)
    · cases e3
end
end DL

/-! enumerate, zip, list(range), texts: join, str, f-strings -/
namespace DL
open PySem PySem.Spec L2
section
variable {X : Cx} {pin : Pins} {W : WX} {a b c e o tg : Expr} {es : List Expr} {pos p apos tpos : Pos} {f g : M OV} {fs : List (M OV)} {elts : List Expr} {kk : Nat}
/-! ### enumerate -/
def enumD (ds : List Dt) : List Dt := ds.mapIdx fun i d => .tuple [.int i, d]
theorem walk_enum {K : PySem.W.Frag} {a : Addr} {ds : List Dt} : WalkD K (.ref a, .val (.list ds)) (enumD ds) (Ite K a) where
  go := fun i H ps hi r => by
    obtain ⟨xs, hs, l, r2⟩ := R.unlst r
    have hi : i < ds.length := by simpa [enumD] using hi
    exact ⟨xs, xs[i]'(by omega), hs, List.getElem?_eq_getElem (by omega)⟩
  yld := fun i H x H' d y e ps r => by
    obtain ⟨xs, hs, l, r2⟩ := R.unlst r
    obtain ⟨T, x, rfl, hT, rfl, y⟩ := y
    unfold enumD at e
    rw [List.getElem?_mapIdx] at e
    cases ed : ds[i]? with
    | none => rw [ed] at e; simp at e
    | some d0 =>
      rw [ed, Option.map_some] at e
      cases e
      obtain ⟨x', e1, r3⟩ := R.pick l ed r2
      rw [y xs hs] at e1
      cases e1
      refine R.newT (ws := [.int i, x]) (ds := [.int i, d0]) ?_ rfl hT
      exact R.add (fun _ => .int _) r3
  stop := fun i H ps hi r => by
    obtain ⟨xs, hs, l, r2⟩ := R.unlst r
    have hi : ds.length ≤ i := by simpa [enumD] using hi
    exact ⟨xs, hs, by omega⟩
def enumO : OV → Option (List Dt) := fun x => match x.frz with
  | some (.list ds) => some (enumD ds)
  | _ => none
def mEnum (f : M OV) : M (List Dt) := mB f fun x => mO (enumO x)
theorem di_enum (hm : X.mg "enumerate" = none) (h : De X pin W e f) (hg : Gl X "enumerate" := by rfl) (hs : starEach [e] X.env = [(false, eval e X.env)] := by rfl) (hs1 : starEach (e :: []) X.env = (false, eval e X.env) :: starEach [] X.env := by rfl) :
    Di X pin W (.Tuple elts kk tpos) (.Call (.Name "enumerate" p) [e] [] pos) (mEnum f) := (pi_enum hg hm (pa_cons h pa_nil hs1) hs).imp fun σ H R ⟨env, ws, r, hR, he, hx, k⟩ => by
  refine dE_bind hR he hx fun x env1 v H1 R1 he1 => ?_
  obtain ⟨ds, e3, rfl⟩ := mO_some he1
  unfold enumO at e3
  split at e3
  · rename_i ds' q
    cases e3
    have R2 := Rl.under (q1 := [(v, x)]) (q2 := [(v, .val (.list ds'))]) (fun _ r => DL.R.frz q r) R1
    have dp := R2.dp
    cases dp with
    | @lst a xs _ hs ha => exact ⟨a, xs, rfl, hs, k _ _ rfl _ _ _ walk_enum R2⟩
  · cases e3
/-! ### zip -/
def zipD (as bs : List Dt) : List Dt := (as.zip bs).map fun x => .tuple [x.1, x.2]
/-- list(range(..)) -/
def lRgD (a b : Int) : List Dt := (List.range (b - a).toNat).map fun (i : Nat) => .int (a + i)
def lRgO1 : OV → Option OV
  | .val (.int j) => if -(2 ^ 62) ≤ j ∧ j < 16777216 then some (.lst ((lRgD 0 j).map .val)) else none
  | _ => none
def mLRg1 (f : M OV) : M OV := mB f fun x => mO (lRgO1 x)
theorem rgV_zip (K : PySem.W.Frag) (a b : Int) : ∀ {ps : Bag} {H : Hp}, R K [] H ps → R K [] H ((rgV a b).zip ((lRgD a b).map .val) ++ ps) := by
  intro ps H r
  unfold rgV lRgD
  generalize List.range (b - a).toNat = l
  induction l with
  | nil => exact r
  | cons i l ih => exact R.add (fun _ => .int _) ih
theorem de_lRg1 (hc : X.calm = true) (hm : X.mg "list" = none) (hm2 : X.mg "range" = none) (h : De X pin W a f) (hg : Gl X "list" := by rfl) (hg2 : Gl X "range" := by rfl) {p2 pos2 : Pos}
    (na : starEach [a] X.env = (false, eval a X.env) :: starEach [] X.env := by rfl) (ne : starEach [.Call (.Name "range" p2) [a] [] pos2] X.env = (false, eval (.Call (.Name "range" p2) [a] [] pos2) X.env) :: starEach [] X.env := by rfl) :
    De X pin W (.Call (.Name "list" p) [.Call (.Name "range" p2) [a] [] pos2] [] pos) (mLRg1 f) := (pe_listRg hc hg hm (prg_1 hg2 hm2 h na) ne).imp fun σ H Q ⟨env, ws, r, hR, he, hx, k⟩ => by
  refine dE_bind hR he hx fun x env1 v H1 R1 he1 => ?_
  obtain ⟨z, e3, rfl⟩ := mO_some he1
  unfold lRgO1 at e3
  split at e3
  · rename_i j
    split at e3
    · rename_i b
      cases e3
      have dp := R1.dp
      cases dp
      refine ⟨j, rfl, ⟨by omega, by omega, by omega, by omega, by omega⟩, fun q hq => k _ _ rfl _ _ (Rl.under (q1 := [(.int j, .val (.int j))]) (q2 := [(.ref q, .lst ((lRgD 0 j).map .val))]) (fun ps r => R.newL (rgV_zip _ _ _ (R.drop r)) (by rw [rgV_length]; simp [lRgD]) hq) R1)⟩
    · cases e3
  · cases e3
/-! ### texts -/
def strsD : List Dt → Option (List Str)
  | [] => some []
  | .str x :: ds => (strsD ds).map (x :: ·)
  | _ :: _ => none
theorem strsD_eq : ∀ {ds : List Dt} {ys : List Str}, strsD ds = some ys → ds = ys.map .str
  | [], _, e => by cases e; rfl
  | d :: ds, _, e => by
    cases d with
    | str x =>
      cases q : strsD ds with
      | none => simp [strsD, q] at e
      | some zs =>
        simp [strsD, q] at e
        rw [← e, strsD_eq q]
        rfl
    | _ => simp [strsD] at e
theorem dps_strs {K : PySem.W.Frag} {H : Hp} : ∀ {ys : List Str} {xs : List V}, DpAll K H xs (ys.map .str) → xs = ys.map .str
  | [], _, h => by cases h; rfl
  | y :: ys, _, h => by
    cases h with
    | cons h t => cases h; rw [dps_strs t]; rfl
def joinOk (a : Str) (ys : List Str) : Bool := decide ((ys.map (·.length)).sum + ys.length * a.length ≤ 16777216)
def joinD : Dt → Dt → Option OV
  | .str a, .list ds => (strsD ds).bind fun ys => if joinOk a ys = true then some (.val (.str (Txt.join a ys))) else none
  | .str a, .tuple ds => (strsD ds).bind fun ys => if joinOk a ys = true then some (.val (.str (Txt.join a ys))) else none
  | _, _ => none
def mJoin (a : Str) (f : M OV) : M OV := mB f fun x => mO (x.frz.bind (joinD (.str a)))
theorem de_join {s : Str} {j : Nat} {opos : Pos} (h : De X pin W e f) (na : starEach [e] X.env = [(false, eval e X.env)] := by rfl) (hb : attributeBase (.Constant (.str s) j opos) "join" X.env (eval (.Constant (.str s) j opos) X.env) = eval (.Constant (.str s) j opos) X.env := by rfl) (hl : (apos.endLine == pos.line) = true := by rfl) :
    De X pin W (.Call (.Attribute (.Constant (.str s) j opos) "join" apos) [e] [] pos) (mJoin s f) := (pe_join pe_str h na hb hl).imp fun σ H Q ⟨env, ws, r, hR, he, hx, k⟩ => ⟨⟨s, rfl⟩, dE_bind hR he hx fun x env1 v H1 R1 he1 => by
  obtain ⟨z, e3, rfl⟩ := mO_some he1
  cases qf : x.frz with
  | none => rw [qf] at e3; cases e3
  | some d =>
    rw [qf, Option.bind_some] at e3
    have R2 := Rl.under (q1 := [(v, x)]) (q2 := [(v, .val d)]) (fun _ r => DL.R.frz qf r) R1
    have dp := R2.dp
    unfold joinD at e3
    split at e3
    · rename_i a ds ea
      injection ea with ea
      subst ea
      cases q : strsD ds with
      | none => rw [q] at e3; cases e3
      | some ys =>
        rw [q, Option.bind_some] at e3
        split at e3
        · rename_i hj
          cases e3
          have hj := of_decide_eq_true hj
          obtain rfl := strsD_eq q
          cases dp with
          | @lst p xs _ hs ha =>
            rw [dps_strs ha] at hs
            exact ⟨s, p, ys, rfl, rfl, .inl hs, hj, k _ _ rfl _ _ (R2.drop.add fun _ => .str _)⟩
        · cases e3
    · rename_i a ds ea
      injection ea with ea
      subst ea
      cases q : strsD ds with
      | none => rw [q] at e3; cases e3
      | some ys =>
        rw [q, Option.bind_some] at e3
        split at e3
        · rename_i hj
          cases e3
          have hj := of_decide_eq_true hj
          obtain rfl := strsD_eq q
          cases dp with
          | @tup p xs _ hs ha =>
            rw [dps_strs ha] at hs
            exact ⟨s, p, ys, rfl, rfl, .inr hs, hj, k _ _ rfl _ _ (R2.drop.add fun _ => .str _)⟩
        · cases e3
    · cases e3⟩
/-! ### f-strings -/
def txI (i : Int) : Str := Str.ofString (toString i)
def fmtO : OV → Option OV
  | .val (.str y) => if decide (y.length ≤ sizeLine) = true then some (.val (.str y)) else none
  | .val (.int i) => if decide (i.natAbs.log2 < 1920) = true then some (.val (.str (txI i))) else none
  | _ => none
def mFmt (f : M OV) : M OV := mB f fun x => mO (fmtO x)
theorem de_fmt (h : De X pin W e f) : De X pin W (.FormattedValue e (-1) none pos) (mFmt f) := (L2.pe_fmt h).imp fun σ H Q ⟨env, ws, r, hR, he, hx, k⟩ => dE_bind hR he hx fun x env1 v H1 R1 he1 => by
  obtain ⟨z, e3, rfl⟩ := mO_some he1
  unfold fmtO at e3
  split at e3
  · rename_i y
    split at e3
    · rename_i hy
      cases e3
      have dp := R1.dp
      cases dp
      exact .inl ⟨y, rfl, of_decide_eq_true hy, k _ _ rfl _ _ (R1.drop.add fun _ => .str _)⟩
    · cases e3
  · rename_i i
    split at e3
    · rename_i hy
      cases e3
      have dp := R1.dp
      cases dp
      exact .inr ⟨i, rfl, of_decide_eq_true hy, k _ _ rfl _ _ (R1.drop.add fun _ => .str _)⟩
    · cases e3
  · cases e3
inductive Dj (X : Cx) (pin : Pins) (W : WX) : List Expr → List (M OV) → Prop where
  | nil : Dj X pin W [] []
  | cons {e : Expr} {f : M OV} {es : List Expr} {fs : List (M OV)} (h : De X pin W e f) (r : Dj X pin W es fs) : Dj X pin W (e :: es) (f :: fs)
theorem Dj.pj {fs : List (M OV)} (h : Dj X pin W es fs) : PJ X es (fs.map fun f => dE X.K X.mg pin W f) := by
  induction h with
  | nil => exact .nil
  | cons h _ ih => exact .cons h ih
def jsK (acc : Str) (k : Str → M Str) : OV → M Str
  | .val (.str y) => fun env => if decide ((acc ++ y).length ≤ sizeLine) = true then k (acc ++ y) env else none
  | _ => fun _ => none
def mJs : List (M OV) → Str → M Str
  | [], acc => mR acc
  | f :: fs, acc => mB f (jsK acc (mJs fs))
def mJoined (fs : List (M OV)) : M OV := mB (mJs fs Str.empty) fun s => mR (.val (.str s))
theorem js_use {K : PySem.W.Frag} {mg : Str → Option Value} {σ : L2.St} {ws : Bag} {P : Str → Hp → Prop} : ∀ (fs : List (M OV)) (acc : Str) (env : DL.Env) (H : Hp) (r : Er Str), Rl K pin σ env ws H → mJs fs acc env = some r → Xp K mg pin W ws σ r → (∀ s env', r = .ok s env' → ∀ H', Rl K pin σ env' ws H' → P s H') →
    tJs (fs.map fun f => dE K mg pin W f) acc σ H P
  | [], acc, env, H, r, hR, he, hx, k => by
    cases he
    exact k _ _ rfl _ hR
  | f :: fs, acc, env, H, r, hR, he, hx, k => by
    rw [List.map_cons, tJs]
    refine dE_bind hR he hx fun x env1 v H1 R1 he1 => ?_
    unfold jsK at he1
    split at he1
    · rename_i y
      split at he1
      · rename_i hy
        have dp := R1.dp
        cases dp
        exact ⟨y, rfl, of_decide_eq_true hy, js_use fs _ env1 H1 r R1.drop he1 hx k⟩
      · cases he1
    · cases he1
theorem de_joined {v1 v2 : Expr} {rest : List Expr} {fs : List (M OV)} (h : Dj X pin W (v1 :: v2 :: rest) fs) : De X pin W (.JoinedStr (v1 :: v2 :: rest) pos) (mJoined fs) := (pe_joined h.pj).imp fun σ H Q ⟨env, ws, r, hR, he, hx, k⟩ => by
  rcases mB_cases he with ⟨s, env1, e1, e2⟩ | ⟨ex, env1, e1, rfl⟩
  · cases e2
    exact js_use fs _ env H _ hR e1 .ok fun s' env' q H' R' => by
      cases q
      exact k _ _ rfl _ _ (R'.add fun _ => .str _)
  · exact js_use fs _ env H _ hR e1 (hx.of rfl) fun s' env' q => nomatch q
theorem de_joined1 (h : De X pin W e f) : De X pin W (.JoinedStr [e] pos) f := L2.pe_joined1 h
def strcD : List Dt → Option OV
  | [.int i] => if decide (i.natAbs.log2 < 1920) = true then some (.val (.str (txI i))) else none
  | _ => none
theorem sc_strc {K : PySem.W.Frag} : SoundC K (fun xs H Q => ∃ i, xs = [.int i] ∧ i.natAbs.log2 < 1920 ∧ Q (.str (toString i)) H) strcD := SoundC.pure fun H vs ds z Q e dp k => by
  unfold strcD at e
  split at e
  · rename_i i
    split at e
    · rename_i hi
      cases e
      cases dp with
      | cons h t =>
        cases h
        cases t
        exact ⟨i, rfl, of_decide_eq_true hi, k _ _ rfl fun _ => .str _⟩
    · cases e
  · cases e
theorem de_strc (hm : X.mg "str" = none) (h : De X pin W e f) (hg : Gl X "str" := by rfl) (hs : starEach (e :: []) X.env = (false, eval e X.env) :: starEach [] X.env := by rfl) (hpl : (backTo pos (starEach [] X.env)).any (·.1) = false := by rfl) :
    De X pin W (.Call (.Name "str" p) [e] [] pos) (mCB strcD (A1 f)) := de_callTy call_str_int sc_strc hm bb_str (da_cons h da_nil hs) hg (by decide) (by decide) hs hpl
/-! ### list * int -/
theorem R.less {K : PySem.W.Frag} {A : List Addr} {H : Hp} {q : Addr} {ps : Bag} (r : R K (q :: A) H ps) : R K A H ps := by
  obtain ⟨Z, nd, o⟩ := r
  exact ⟨Z, (List.nodup_cons.mp nd).2, OwnL.mono (hid_sub fun b hb => List.mem_cons_of_mem _ hb) o fun _ _ => rfl⟩
end
end DL

/-! zip of two, list * int -/
namespace DL
open PySem PySem.Spec L2
theorem R.subS {K : PySem.W.Frag} {H h0 F0 : Hp} {ps : Bag} {v : V} (r : R K [] H ((v, .sub [] h0 F0) :: ps)) : ∃ Z, ([] ++ Z).Nodup ∧ Same F0 (hid H ([] ++ Z)) ∧ OwnL K H (hid H ([] ++ Z)) (((v, OV.sub [] h0 F0) :: ps).map (·.1)) (((v, OV.sub [] h0 F0) :: ps).map (·.2)) Z := by
  obtain ⟨Z, nd, o⟩ := r
  refine ⟨Z, nd, ?_, o⟩
  cases o with
  | cons h t =>
    cases h with
    | sub _ s => exact s
section
variable {K : PySem.W.Frag} {a b : Addr} {xs ys : List V} {as bs : List Dt} {h0 F0 : Hp}
theorem zipD_get {i : Nat} {d : Dt} (e : (zipD as bs)[i]? = some d) : ∃ c1 c2, as[i]? = some c1 ∧ bs[i]? = some c2 ∧ d = .tuple [c1, c2] := by
  unfold zipD at e
  rw [List.getElem?_map] at e
  cases q : (as.zip bs)[i]? with
  | none => rw [q] at e; cases e
  | some x =>
    rw [q] at e
    cases e
    obtain ⟨h1, h2⟩ := List.getElem?_zip_eq_some.mp q
    exact ⟨_, _, h1, h2, rfl⟩
theorem walk_zipL (hx : SqL K F0 a xs) (dx : DpAll K F0 xs as) (hy : SqL K F0 b ys) (dy : DpAll K F0 ys bs) : WalkD K (.non, .sub [] h0 F0) (zipD as bs) (Itz K a b) where
  go := fun i H ps hi r => by
    obtain ⟨Z, nd, s, o⟩ := R.subS r
    have lx := dx.length
    have ly := dy.length
    have hi : i < as.length ∧ i < bs.length := by simp [zipD] at hi; omega
    exact ⟨xs, ys, xs[i]'(by omega), ys[i]'(by omega), hid_le.seq (s.seq hx), hid_le.seq (s.seq hy), List.getElem?_eq_getElem _, List.getElem?_eq_getElem _⟩
  yld := fun i H x H' d y e ps r => by
    obtain ⟨T, x1, y1, rfl, hT, rfl, f1, f2⟩ := y
    obtain ⟨c1, c2, e1, e2, rfl⟩ := zipD_get e
    obtain ⟨Z, nd, s, o⟩ := R.subS r
    have g1 := f1 xs (hid_le.seq (s.seq hx))
    have g2 := f2 ys (hid_le.seq (s.seq hy))
    obtain ⟨u1, q1, p1⟩ := dx.get e1
    obtain ⟨u2, q2, p2⟩ := dy.get e2
    rw [g1] at q1
    rw [g2] at q2
    cases q1
    cases q2
    refine R.newT (ws := [x1, y1]) (ds := [c1, c2]) ?_ rfl hT
    exact ⟨Z, nd, .cons (fp := []) (.val (Dp.same s p1)) (.cons (fp := []) (.val (Dp.same s p2)) o)⟩
  stop := fun i H ps hi r => by
    obtain ⟨Z, nd, s, o⟩ := R.subS r
    have lx := dx.length
    have ly := dy.length
    refine ⟨xs, ys, hid_le.seq (s.seq hx), hid_le.seq (s.seq hy), ?_⟩
    simp [zipD] at hi
    omega
theorem walk_zipT (hx : SqT K F0 a xs) (dx : DpAll K F0 xs as) (hy : SqT K F0 b ys) (dy : DpAll K F0 ys bs) : WalkD K (.non, .sub [] h0 F0) (zipD as bs) (RZ.ItzT K a b) where
  go := fun i H ps hi r => by
    obtain ⟨Z, nd, s, o⟩ := R.subS r
    have lx := dx.length
    have ly := dy.length
    have hi : i < as.length ∧ i < bs.length := by simp [zipD] at hi; omega
    exact ⟨xs, ys, xs[i]'(by omega), ys[i]'(by omega), SqT.same hid_le (SqT.same s hx), SqT.same hid_le (SqT.same s hy), List.getElem?_eq_getElem _, List.getElem?_eq_getElem _⟩
  yld := fun i H x H' d y e ps r => by
    obtain ⟨T, x1, y1, rfl, hT, rfl, f1, f2⟩ := y
    obtain ⟨c1, c2, e1, e2, rfl⟩ := zipD_get e
    obtain ⟨Z, nd, s, o⟩ := R.subS r
    have g1 := f1 xs (SqT.same hid_le (SqT.same s hx))
    have g2 := f2 ys (SqT.same hid_le (SqT.same s hy))
    obtain ⟨u1, q1, p1⟩ := dx.get e1
    obtain ⟨u2, q2, p2⟩ := dy.get e2
    rw [g1] at q1
    rw [g2] at q2
    cases q1
    cases q2
    refine R.newT (ws := [x1, y1]) (ds := [c1, c2]) ?_ rfl hT
    exact ⟨Z, nd, .cons (fp := []) (.val (Dp.same s p1)) (.cons (fp := []) (.val (Dp.same s p2)) o)⟩
  stop := fun i H ps hi r => by
    obtain ⟨Z, nd, s, o⟩ := R.subS r
    have lx := dx.length
    have ly := dy.length
    refine ⟨xs, ys, SqT.same hid_le (SqT.same s hx), SqT.same hid_le (SqT.same s hy), ?_⟩
    simp [zipD] at hi
    omega
end
def zipO (x y : OV) : Option (List Dt) := match x.frz, y.frz with
  | some (.list as), some (.list bs) => some (zipD as bs)
  | some (.tuple as), some (.tuple bs) => some (zipD as bs)
  | _, _ => none
def mZip (f g : M OV) : M (List Dt) := mB f fun x => mB g fun y => mO (zipO x y)
section
variable {X : Cx} {pin : Pins} {W : WX} {a b c e o tg : Expr} {es : List Expr} {pos p apos tpos : Pos} {f g : M OV} {elts : List Expr} {kk : Nat}
theorem di_zip (hm : X.mg "zip" = none) (h : De X pin W a f) (h2 : De X pin W b g) (hg : Gl X "zip" := by rfl) (hs : starEach [a, b] X.env = (false, eval a X.env) :: starEach [b] X.env := by rfl)
    (hs3 : starEach (b :: []) X.env = (false, eval b X.env) :: starEach [] X.env := by rfl) (hpl : (backTo pos (starEach [b] X.env)).any (·.1) = false := by rfl) :
    Di X pin W (.Tuple elts kk tpos) (.Call (.Name "zip" p) [a, b] [] pos) (mZip f g) := (RZ.pi_zipA hg hm (pa_cons h (pa_cons h2 pa_nil hs3) hs) hs hpl).imp fun σ H RR ⟨env, ws, r, hR, he, hx, k⟩ => by
  refine dE_bind hR he hx fun x env1 v H1 R1 he1 => ?_
  refine dE_bind R1 he1 hx.drop fun y env2 w H2 R2 he2 => ?_
  obtain ⟨ds, e3, rfl⟩ := mO_some he2
  unfold zipO at e3
  split at e3
  · rename_i as bs q1 q2
    cases e3
    have R3 := Rl.under (q1 := [(w, y)]) (q2 := [(w, .val (.list bs))]) (fun _ r => DL.R.frz q2 r) R2
    have R4 := Rl.under (q1 := [(w, .val (.list bs)), (v, x)]) (q2 := [(v, .val (.list as)), (w, .val (.list bs))]) (fun _ r => DL.R.frz q1 (r.perm (List.Perm.swap _ _ _))) R3
    obtain ⟨⟨ps, s, r⟩, pn⟩ := R4
    obtain ⟨Z, nd, o⟩ := r.perm (List.perm_append_comm : (ps ++ ([(v, OV.val (.list as)), (w, .val (.list bs))] ++ ws)).Perm (([(v, OV.val (.list as)), (w, .val (.list bs))] ++ ws) ++ ps))
    cases o with
    | cons h1 o =>
      cases o with
      | cons h2 o =>
        cases h1 with
        | val h1 => cases h2 with
          | val h2 =>
            cases h1 with
            | @lst p1 xs _ hx dx => cases h2 with
              | @lst p2 ys _ hy dy =>
                refine ⟨p1, p2, xs, ys, rfl, .inl ⟨hid_le.seq hx, hid_le.seq hy, k _ _ rfl (.non, .sub [] H2 (hid H2 ([] ++ _))) _ _ (walk_zipL hx dx hy dy) ⟨⟨ps, s, ?_⟩, pn⟩⟩⟩
                exact DL.R.perm (List.perm_append_comm : (((V.non, OV.sub [] H2 (hid H2 ([] ++ _))) :: ws) ++ ps).Perm (ps ++ ((V.non, OV.sub [] H2 (hid H2 ([] ++ _))) :: ws))) ⟨_, nd, .cons (fp := []) (.sub (fun _ h => by cases h) fun _ _ e => e) o⟩
  · rename_i as bs q1 q2
    cases e3
    have R3 := Rl.under (q1 := [(w, y)]) (q2 := [(w, .val (.tuple bs))]) (fun _ r => DL.R.frz q2 r) R2
    have R4 := Rl.under (q1 := [(w, .val (.tuple bs)), (v, x)]) (q2 := [(v, .val (.tuple as)), (w, .val (.tuple bs))]) (fun _ r => DL.R.frz q1 (r.perm (List.Perm.swap _ _ _))) R3
    obtain ⟨⟨ps, s, r⟩, pn⟩ := R4
    obtain ⟨Z, nd, o⟩ := r.perm (List.perm_append_comm : (ps ++ ([(v, OV.val (.tuple as)), (w, .val (.tuple bs))] ++ ws)).Perm (([(v, OV.val (.tuple as)), (w, .val (.tuple bs))] ++ ws) ++ ps))
    cases o with
    | cons h1 o =>
      cases o with
      | cons h2 o =>
        cases h1 with
        | val h1 => cases h2 with
          | val h2 =>
            cases h1 with
            | @tup p1 xs _ hx dx => cases h2 with
              | @tup p2 ys _ hy dy =>
                refine ⟨p1, p2, xs, ys, rfl, .inr ⟨SqT.same hid_le hx, SqT.same hid_le hy, k _ _ rfl (.non, .sub [] H2 (hid H2 ([] ++ _))) _ _ (walk_zipT hx dx hy dy) ⟨⟨ps, s, ?_⟩, pn⟩⟩⟩
                exact DL.R.perm (List.perm_append_comm : (((V.non, OV.sub [] H2 (hid H2 ([] ++ _))) :: ws) ++ ps).Perm (ps ++ ((V.non, OV.sub [] H2 (hid H2 ([] ++ _))) :: ws))) ⟨_, nd, .cons (fp := []) (.sub (fun _ h => by cases h) fun _ _ e => e) o⟩
  · cases e3
/-! ### list * int -/
def vals? : List OV → Option (List Dt)
  | [] => some []
  | .val d :: r => (vals? r).map (d :: ·)
  | _ :: _ => none
theorem vals?_eq : ∀ {xs : List OV} {ds : List Dt}, vals? xs = some ds → xs = ds.map .val
  | [], _, e => by cases e; rfl
  | x :: xs, _, e => by
    cases x with
    | val d =>
      cases q : vals? xs with
      | none => simp [vals?, q] at e
      | some zs =>
        simp [vals?, q] at e
        rw [← e, vals?_eq q]
        rfl
    | _ => simp [vals?] at e
theorem vals?_map : ∀ ds : List Dt, vals? (ds.map .val) = some ds
  | [] => rfl
  | d :: ds => by rw [List.map_cons, vals?, vals?_map ds]; rfl
def repLOk (ds : List Dt) (k : Int) : Bool := decide (0 ≤ k) && decide (k ≤ 1000) && decide (ds.length ≤ 1000)
def repO : OV → OV → Option OV
  | .lst xs, .val (.int k) => (vals? xs).bind fun ds => if repLOk ds k = true then some (.lst ((List.replicate k.toNat ds).flatten.map .val)) else none
  | _, _ => none
def mRepL (f g : M OV) : M OV := mB f fun x => mB g fun y => mO (repO x y)
theorem flat_rep_len {α : Type} (l : List α) : ∀ n : Nat, (List.replicate n l).flatten.length = l.length * n
  | 0 => by simp
  | n + 1 => by rw [List.replicate_succ, List.flatten_cons, List.length_append, flat_rep_len l n, Nat.mul_succ, Nat.add_comm]
theorem de_repL (h : De X pin W a f) (h2 : De X pin W b g) : De X pin W (.BinOp a .Mult b pos) (mRepL f g) := (pe_op op_rep h h2).imp fun σ H Q ⟨env, ws, r, hR, he, hx, k⟩ => by
  refine dE_bind hR he hx fun x env1 v H1 R1 he1 => ?_
  refine dE_bind R1 he1 hx.drop fun y env2 w H2 R2 he2 => ?_
  obtain ⟨z, e3, rfl⟩ := mO_some he2
  unfold repO at e3
  split at e3
  · rename_i xs kk
    cases q : vals? xs with
    | none => rw [q] at e3; cases e3
    | some ds =>
      rw [q, Option.bind_some] at e3
      split at e3
      · rename_i hk
        cases e3
        obtain rfl := vals?_eq q
        unfold repLOk at hk
        rw [Bool.and_eq_true, Bool.and_eq_true] at hk
        obtain ⟨⟨h1, h2⟩, h3⟩ := hk
        have h1 := of_decide_eq_true h1
        have h2 := of_decide_eq_true h2
        have h3 := of_decide_eq_true h3
        have dp := R2.dp
        cases dp
        have R3 := R2.drop
        obtain ⟨ps, rr⟩ := Rl.get (q1 := [(v, .lst (ds.map .val))]) R3
        obtain ⟨l, vs, rfl, hl, le, _⟩ := DL.R.open rr
        rw [List.length_map] at le
        have hb : vs.length * kk.toNat ≤ 1000 * 1000 := Nat.mul_le_mul (by omega) (by omega)
        refine ⟨l, kk, vs, rfl, rfl, hl, by omega, by omega, by rw [sizeLine_eq]; omega, fun p hp => k _ _ rfl _ _ ?_⟩
        refine Rl.under (q1 := [(.ref l, .lst (ds.map .val))]) (q2 := [(.ref p, .lst ((List.replicate kk.toNat ds).flatten.map .val))]) (fun ps r => ?_) R3
        obtain ⟨l2, vs2, e2, hl2, le2, r2⟩ := DL.R.open r
        cases e2
        rw [hl] at hl2
        cases hl2
        have r3 := DL.R.less r2
        obtain ⟨Z, nd, dF, own⟩ := DL.R.dps le r3
        have dr := DpAll.rep dF kk.toNat
        refine DL.R.newL (DL.R.of_dps nd dr own) ?_ hp
        rw [List.length_map]
        exact DpAll.len dr
      · cases e3
  · cases e3
end
end DL

/-! the second level: what a denotation computes, as a plain function of data -/
namespace DL
open PySem PySem.Spec L2

/-! ### plain programs -/
abbrev PM (α : Type) := Option (Except Exn α)
section
variable {α β γ : Type}
def pR (a : α) : PM α := some (.ok a)
def pX (e : Exn) : PM α := some (.error e)
def pO (o : Option α) : PM α := match o with
  | some a => pR a
  | none => none
def pB (p : PM α) (f : α → PM β) : PM β := match p with
  | some (.ok a) => f a
  | some (.error e) => some (.error e)
  | none => none
@[simp] theorem pB_R (a : α) (f : α → PM β) : pB (pR a) f = f a := Eq.trans rfl rfl
@[simp] theorem pB_X (e : Exn) (f : α → PM β) : pB (pX e : PM α) f = pX e := Eq.trans rfl rfl
@[simp] theorem pB_none (f : α → PM β) : pB (none : PM α) f = none := Eq.trans rfl rfl
@[simp] theorem pO_some (a : α) : pO (some a) = pR a := Eq.trans rfl rfl
@[simp] theorem pO_none : pO (none : Option α) = none := Eq.trans rfl rfl
@[simp] theorem pB_B (p : PM α) (f : α → PM β) (g : β → PM γ) : pB (pB p f) g = pB p fun a => pB (f a) g := by
  unfold pB
  cases p with
  | none => rfl
  | some r => cases r <;> rfl
theorem pB_ite (c : Prop) [Decidable c] (p q : PM α) (f : α → PM β) : pB (if c then p else q) f = if c then pB p f else pB q f := by split <;> rfl
@[simp] theorem pR_inj (a b : α) : pR a = pR b ↔ a = b := by simp [pR]
end

/-! ### what a slot is known to hold -/
inductive SS where
  | any
  | som
  | dat (d : Dt)
  | own (ds : List Dt)
  | own2 (dss : List (List Dt))
def oLL (dss : List (List Dt)) : OV := .lst (dss.map fun ds => .lst (ds.map .val))
theorem frz_LL (dss : List (List Dt)) : (oLL dss).frz = some (.list (dss.map .list)) := by
  have h : ∀ dss : List (List Dt), OV.frzL (dss.map fun ds => OV.lst (ds.map .val)) = some (dss.map .list) := by
    intro dss
    induction dss with
    | nil => simp [OV.frzL]
    | cons ds dss ih => simp [OV.frzL, ih]
  unfold oLL
  rw [OV.frz, h]
  rfl
def SS.Ok : SS → Option OV → Prop
  | .any, _ => True
  | .som, o => ∃ x, o = some x
  | .dat d, o => ∃ x, o = some x ∧ x.frz = some d
  | .own ds, o => o = some (.lst (ds.map .val))
  | .own2 dss, o => o = some (oLL dss)
inductive EOk : List SS → Env → Prop
  | nil : EOk [] []
  | cons {s : SS} {o : Option OV} {S : List SS} {env : Env} : s.Ok o → EOk S env → EOk (s :: S) (o :: env)
theorem EOk.len {S : List SS} {env : Env} (h : EOk S env) : env.length = S.length := by
  induction h with
  | nil => rfl
  | cons _ _ ih => simp [ih]
theorem EOk.get {S : List SS} {env : Env} (h : EOk S env) : ∀ {i : Nat} {s : SS}, S[i]? = some s → ∃ o, env[i]? = some o ∧ s.Ok o := by
  induction h with
  | nil => intro i s e; simp at e
  | cons h _ ih =>
    intro i s e
    cases i with
    | zero =>
      simp at e
      subst e
      exact ⟨_, rfl, h⟩
    | succ i => simpa using ih (i := i) (by simpa using e)
theorem EOk.set {S : List SS} {env : Env} (h : EOk S env) (i : Nat) {s : SS} {o : Option OV} (k : s.Ok o) : EOk (S.set i s) (env.set i o) := by
  induction h generalizing i with
  | nil => exact .nil
  | cons h t ih =>
    cases i with
    | zero => exact .cons k t
    | succ i => exact .cons h (ih i)
/-- a slot's thing as it was -/
theorem EOk.keep {S : List SS} {env : Env} (h : EOk S env) {i : Nat} {s : SS} {o : Option OV} (e : env[i]? = some o) (k : s.Ok o) : EOk (S.set i s) env := by
  have q := h.set i k
  obtain ⟨hi, e'⟩ := List.getElem?_eq_some_iff.mp e
  rw [← e', List.set_getElem_self hi] at q
  exact q
inductive SL : SS → SS → Prop
  | any {s : SS} : SL s .any
  | same {s : SS} : SL s s
  | frz {ds : List Dt} : SL (.own ds) (.dat (.list ds))
  | somD {d : Dt} : SL (.dat d) .som
  | somO {ds : List Dt} : SL (.own ds) .som
  | frz2 {dss : List (List Dt)} : SL (.own2 dss) (.dat (.list (dss.map .list)))
  | somO2 {dss : List (List Dt)} : SL (.own2 dss) .som
theorem SL.ok {s t : SS} {o : Option OV} (h : SL s t) (k : s.Ok o) : t.Ok o := by
  cases h with
  | any => trivial
  | same => exact k
  | frz => exact ⟨_, k, frz_lst _⟩
  | somD => obtain ⟨x, e, _⟩ := k; exact ⟨x, e⟩
  | somO => exact ⟨_, k⟩
  | frz2 => exact ⟨_, k, frz_LL _⟩
  | somO2 => exact ⟨_, k⟩
inductive SLe : List SS → List SS → Prop
  | nil : SLe [] []
  | cons {s t : SS} {S T : List SS} : SL s t → SLe S T → SLe (s :: S) (t :: T)
theorem SLe.any {s : SS} {S T : List SS} (h : SLe S T) : SLe (s :: S) (.any :: T) := .cons .any h
theorem SLe.same {s : SS} {S T : List SS} (h : SLe S T) : SLe (s :: S) (s :: T) := .cons .same h
theorem SLe.frz {ds : List Dt} {S T : List SS} (h : SLe S T) : SLe (.own ds :: S) (.dat (.list ds) :: T) := .cons .frz h
theorem SLe.somD {d : Dt} {S T : List SS} (h : SLe S T) : SLe (.dat d :: S) (.som :: T) := .cons .somD h
theorem SLe.somO {ds : List Dt} {S T : List SS} (h : SLe S T) : SLe (.own ds :: S) (.som :: T) := .cons .somO h
theorem SLe.frz2 {dss : List (List Dt)} {S T : List SS} (h : SLe S T) : SLe (.own2 dss :: S) (.dat (.list (dss.map .list)) :: T) := .cons .frz2 h
theorem SLe.somO2 {dss : List (List Dt)} {S T : List SS} (h : SLe S T) : SLe (.own2 dss :: S) (.som :: T) := .cons .somO2 h
theorem SLe.ok {S T : List SS} {env : Env} (h : SLe S T) (k : EOk S env) : EOk T env := by
  induction h generalizing env with
  | nil => exact k
  | cons h _ ih =>
    cases k with
    | cons a b => exact .cons (h.ok a) (ih b)

/-! ### programs of the first level that go on -/
class Res (ρ : Type) where
  ex : Exn → Env → ρ
instance {α : Type} : Res (Er α) := ⟨.ex⟩
instance : Res Sr := ⟨.ex⟩
abbrev MG (ρ : Type) := Env → Option ρ
def gB {α ρ : Type} [Res ρ] (f : M α) (k : α → MG ρ) : MG ρ := fun env => match f env with
  | some (.ok a env') => k a env'
  | some (.ex e env') => some (Res.ex e env')
  | none => none
theorem gB_ok {α ρ : Type} [Res ρ] {f : M α} {k : α → MG ρ} {env env' : Env} {a : α} (h : f env = some (.ok a env')) : gB f k env = k a env' := by unfold gB; rw [h]
theorem mB_g {α β : Type} (f : M α) (g : α → M β) : mB f g = gB f g := by
  funext env
  unfold mB gB
  rcases f env with _ | _ | _ <;> rfl
theorem sB_g {α : Type} (f : M α) (g : α → MS) : sB f g = gB f g := by
  funext env
  unfold sB gB
  rcases f env with _ | _ | _ <;> rfl
theorem gB_m {α β ρ : Type} [Res ρ] (f : M α) (g : α → M β) (k : β → MG ρ) : gB (mB f g) k = gB f fun x => gB (g x) k := by
  funext env
  unfold gB mB
  rcases f env with _ | _ | _ <;> rfl
theorem gB_R {α ρ : Type} [Res ρ] (a : α) (k : α → MG ρ) : gB (mR a) k = k a := rfl
theorem seq_g {α : Type} (f : M α) (g : α → MS) (r : MS) : sSeq (sB f g) r = gB f fun x => sSeq (g x) r := by
  funext env
  unfold sSeq sB gB
  rcases f env with _ | _ | _ <;> rfl
theorem seq_seq (a b c : MS) : sSeq (sSeq a b) c = sSeq a (sSeq b c) := by
  funext env
  unfold sSeq
  rcases a env with _ | r
  · rfl
  · cases r <;> rfl
theorem seq_last (a : MS) : sSeq a sNext = a := by
  funext env
  unfold sSeq sNext
  rcases a env with _ | r
  · rfl
  · cases r <;> rfl

/-- d, begun where S stands, does what p tells; Q: from p's value to d's end; X: what stands when an error leaves -/
def Bk {ρ β : Type} [Res ρ] (X : List SS) (d : MG ρ) (S : List SS) (p : PM β) (Q : β → ρ → Prop) : Prop := ∀ env, EOk S env → match p with
  | none => True
  | some (.ok b) => ∃ r, d env = some r ∧ Q b r
  | some (.error e) => ∃ env', d env = some (Res.ex e env') ∧ EOk X env'
section
variable {ρ α β γ : Type} [Res ρ] {X S S1 T : List SS} {d : MG ρ} {k : OV → MG ρ} {Q : β → ρ → Prop} {p : PM β} {rest : MS} {Qs : β → Sr → Prop}
theorem Bk.none : Bk X d S (none : PM β) Q := fun _ _ => trivial
theorem Bk.to {d' : MG ρ} (h : ∀ env, EOk S env → ∃ env', EOk T env' ∧ d env = d' env') (b : Bk X d' T p Q) : Bk X d S p Q := fun env he => by
  obtain ⟨env', h1, h2⟩ := h env he
  have q := b env' h1
  rw [h2]
  exact q
theorem Bk.le (h : SLe S T) (b : Bk X d T p Q) : Bk X d S p Q := fun env he => b env (h.ok he)
theorem Bk.eq {d' : MG ρ} (h : d = d') (b : Bk X d' S p Q) : Bk X d S p Q := h ▸ b
/-- a primitive step: it may not be defined -/
theorem Bk.prim {o : Option α} {f : α → PM β} (h : ∀ a, o = some a → Bk X d S (f a) Q) : Bk X d S (pB (pO o) f) Q := by
  cases o with
  | none => exact Bk.none
  | some a => exact h a rfl

/-- a part that stands by itself -/
def Qe {α β : Type} (v : β → α) (S : β → List SS) : β → Er α → Prop := fun b r => ∃ env', r = .ok (v b) env' ∧ EOk (S b) env'
theorem bk_part {f : M α} {k : α → MG ρ} {q : PM γ} {v : γ → α} {S1 : γ → List SS} {r : γ → PM β} (h : Bk X f S q (Qe v S1)) (hk : ∀ c, Bk X (k (v c)) (S1 c) (r c) Q) : Bk X (gB f k) S (pB q r) Q := fun env he => by
  have a := h env he
  cases q with
  | none => trivial
  | some z =>
    cases z with
    | error e =>
      obtain ⟨env', e1, e2⟩ := a
      exact ⟨env', by unfold gB; rw [e1]; rfl, e2⟩
    | ok c =>
      obtain ⟨_, e1, env', rfl, e2⟩ := a
      have b := hk c env' e2
      show match r c with
        | Option.none => True
        | some (.ok b) => ∃ r, gB f k env = some r ∧ Q b r
        | some (.error e) => ∃ env', gB f k env = some (Res.ex e env') ∧ EOk X env'
      rw [gB_ok e1]
      exact b
theorem bk_ret {a : α} {c : γ} {v : γ → α} {S1 : γ → List SS} (h : SLe S (S1 c)) (e : v c = a := by rfl) : Bk (ρ := Er α) X (mR a) S (pR c) (Qe v S1) := fun env he => ⟨_, rfl, env, by rw [e], h.ok he⟩

/-! ### constants, names -/
theorem bk_c {c : Dt} (h : Bk X (k (.val c)) S p Q) : Bk X (gB (mC c) k) S p Q := h
theorem mV_dat {i : Nat} {d : Dt} {env : Env} (he : EOk S env) (hi : S[i]? = some (.dat d)) : ∃ env', mV i env = some (.ok (.val d) env') ∧ EOk S env' := by
  obtain ⟨o, e1, x, rfl, hx⟩ := he.get hi
  by_cases hv : ∃ d', x = .val d'
  · obtain ⟨d', rfl⟩ := hv
    rw [frz_val] at hx
    cases hx
    exact ⟨env, by unfold mV; rw [e1], he⟩
  · have hs : S.set i (.dat d) = S := by
      obtain ⟨hl, e'⟩ := List.getElem?_eq_some_iff.mp hi
      rw [← e']
      exact List.set_getElem_self hl
    refine ⟨env.set i (some (.val d)), ?_, by have q := he.set i (s := .dat d) (o := some (.val d)) ⟨_, rfl, frz_val d⟩; rwa [hs] at q⟩
    unfold mV
    rw [e1]
    cases x with
    | val d' => exact absurd ⟨d', rfl⟩ hv
    | lst xs => simp only [hx]
    | _ => rw [OV.frz] at hx; cases hx
theorem bk_v (i : Nat) {c : Dt} (h : Bk X (k (.val c)) S p Q) (hi : S[i]? = some (.dat c) := by rfl) : Bk X (gB (mV i) k) S p Q := Bk.to (fun env he => by
  obtain ⟨env', e1, e2⟩ := mV_dat he hi
  exact ⟨env', e2, gB_ok e1⟩) h
/-- an owned list read: it is frozen from now on -/
theorem bk_vO (i : Nat) {ds : List Dt} (h : Bk X (k (.val (.list ds))) (S.set i (.dat (.list ds))) p Q) (hi : S[i]? = some (.own ds) := by rfl) : Bk X (gB (mV i) k) S p Q := Bk.to (fun env he => by
  obtain ⟨o, e1, rfl⟩ := he.get hi
  refine ⟨env.set i (some (.val (.list ds))), he.set i ⟨_, rfl, frz_val _⟩, gB_ok ?_⟩
  unfold mV
  rw [e1]
  simp only [frz_lst]) h
/-- a slot moved out -/
theorem bk_mvO (i : Nat) {ds : List Dt} (h : Bk X (k (.lst (ds.map .val))) (S.set i .any) p Q) (hi : S[i]? = some (.own ds) := by rfl) : Bk X (gB (mMv i) k) S p Q := Bk.to (fun env he => by
  obtain ⟨o, e1, rfl⟩ := he.get hi
  exact ⟨env.set i none, he.set i trivial, gB_ok (by unfold mMv; rw [e1])⟩) h
/-- .. of which only the data are known -/
theorem bk_mvF (i : Nat) {c : Dt} (h : ∀ x : OV, x.frz = some c → Bk X (k x) (S.set i .any) p Q) (hi : S[i]? = some (.dat c) := by rfl) : Bk X (gB (mMv i) k) S p Q := fun env he => by
  obtain ⟨o, e1, x, rfl, hx⟩ := he.get hi
  have q := h x hx (env.set i none) (he.set i trivial)
  have e : gB (mMv i) k env = k x (env.set i none) := gB_ok (by unfold mMv; rw [e1])
  rw [e]
  exact q

/-! ### binds -/
theorem bk_m {α' : Type} {f : M α'} {g : α' → M α} {k : α → MG ρ} (h : Bk X (gB f fun x => gB (g x) k) S p Q) : Bk X (gB (mB f g) k) S p Q := .eq (gB_m f g k) h
theorem bk_mR {a : α} {k : α → MG ρ} (h : Bk X (k a) S p Q) : Bk X (gB (mR a) k) S p Q := h
theorem bk_mO {o : Option α} {k : α → MG ρ} {a : α} (e : o = some a) (h : Bk X (k a) S p Q) : Bk X (gB (mO o) k) S p Q := by
  subst e
  exact h
theorem gB_mO {o : Option α} {k : α → MG ρ} {a : α} (e : o = some a) : gB (mO o) k = k a := by subst e; rfl

/-! ### operators: what they return as data, or as a new list -/
def val? : OV → Option Dt
  | .val d => some d
  | _ => none
theorem val?_some {x : OV} {d : Dt} (h : val? x = some d) : x = .val d := by
  cases x <;> simp [val?] at h
  rw [h]
def lstL (xs : List OV) : Option (List Dt) := if xs.all (fun x => (val? x).isSome) = true then OV.frzL xs else none
def lst? : OV → Option (List Dt)
  | .lst xs => lstL xs
  | _ => none
theorem vals_all : ∀ {xs : List OV} {ds : List Dt}, xs.all (fun x => (val? x).isSome) = true → OV.frzL xs = some ds → xs = ds.map .val
  | [], ds, _, e => by rw [OV.frzL] at e; cases e; rfl
  | x :: xs, ds, h, e => by
    rw [List.all_cons, Bool.and_eq_true] at h
    cases x with
    | val d =>
      rw [OV.frzL, frz_val] at e
      cases q : OV.frzL xs with
      | none => rw [q] at e; cases e
      | some es =>
        rw [q] at e
        cases e
        rw [List.map_cons, vals_all h.2 q]
    | _ => simp [val?] at h
theorem lst?_some {x : OV} {ds : List Dt} (h : lst? x = some ds) : x = .lst (ds.map .val) := by
  cases x with
  | lst xs =>
    unfold lst? lstL at h
    simp only at h
    split at h
    · rename_i q
      rw [vals_all q h]
    · cases h
  | _ => simp [lst?] at h
@[simp] theorem val?_val (d : Dt) : val? (.val d) = some d := rfl
@[simp] theorem val?_oI (i : Int) : val? (oI i) = some (.int i) := rfl
@[simp] theorem val?_oB (b : Bool) : val? (oB b) = some (.bool b) := rfl
@[simp] theorem lst?_lst (ds : List Dt) : lst? (.lst (ds.map .val)) = some ds := by
  show lstL _ = _
  unfold lstL
  rw [if_pos, frzL_map]
  rw [List.all_eq_true]
  intro x hx
  obtain ⟨d, _, rfl⟩ := List.mem_map.mp hx
  rfl
@[simp] theorem lst?_nil : lst? (.lst []) = some [] := by simpa using lst?_lst []
@[simp] theorem lst?_cons (d : Dt) (ds : List Dt) : lst? (.lst (.val d :: ds.map .val)) = some (d :: ds) := by simpa using lst?_lst (d :: ds)
/-- the result as data -/
def pV (o : Option OV) : PM Dt := pO (o.bind val?)
/-- the result as a new list -/
def pL (o : Option OV) : PM (List Dt) := pO (o.bind lst?)
@[simp] theorem pV_val (d : Dt) : pV (some (.val d)) = pR d := rfl
@[simp] theorem pV_oI (i : Int) : pV (some (oI i)) = pR (.int i) := rfl
@[simp] theorem pV_oB (b : Bool) : pV (some (oB b)) = pR (.bool b) := rfl
@[simp] theorem pV_none : pV none = none := rfl
@[simp] theorem pL_none : pL none = none := rfl
@[simp] theorem pL_lst (ds : List Dt) : pL (some (.lst (ds.map .val))) = pR ds := by simp [pL]
theorem bk_oV {o : Option OV} {r : Dt → PM β} (h : ∀ c, Bk X (k (.val c)) S (r c) Q) : Bk X (gB (mO o) k) S (pB (pV o) r) Q := by
  cases o with
  | none => exact Bk.none
  | some x =>
    cases e : val? x with
    | none =>
      have : pV (some x) = none := by simp [pV, e]
      rw [this]
      exact Bk.none
    | some c =>
      have : pV (some x) = pR c := by simp [pV, e]
      rw [this, val?_some e]
      exact h c
theorem bk_oL {o : Option OV} {r : List Dt → PM β} (h : ∀ ds, Bk X (k (.lst (ds.map .val))) S (r ds) Q) : Bk X (gB (mO o) k) S (pB (pL o) r) Q := by
  cases o with
  | none => exact Bk.none
  | some x =>
    cases e : lst? x with
    | none =>
      have : pL (some x) = none := by simp [pL, e]
      rw [this]
      exact Bk.none
    | some c =>
      have : pL (some x) = pR c := by simp [pL, e]
      rw [this, lst?_some e]
      exact h c
variable {f g h : M OV} {fs : M (List OV)} {fb fc : M Bool}
theorem bk_2 {op : Dt → Dt → Option OV} (hh : Bk X (gB f fun x => gB h fun y => gB (mO (g2 op x y)) k) S p Q) : Bk X (gB (m2 op f h) k) S p Q := by
  unfold m2
  exact bk_m (.eq (by congr; funext x; exact gB_m _ _ _) hh)
theorem g2_vals {op : Dt → Dt → Option OV} {a b : Dt} : g2 op (.val a) (.val b) = op a b := by
  unfold g2
  rw [frz_val, frz_val]
theorem bk_opV {op : Dt → Dt → Option OV} {a b : Dt} {r : Dt → PM β} (hh : ∀ c, Bk X (k (.val c)) S (r c) Q) : Bk X (gB (mO (g2 op (.val a) (.val b))) k) S (pB (pV (op a b)) r) Q := by
  rw [g2_vals]
  exact bk_oV hh
theorem bk_opL {op : Dt → Dt → Option OV} {a b : Dt} {r : List Dt → PM β} (hh : ∀ ds, Bk X (k (.lst (ds.map .val))) S (r ds) Q) : Bk X (gB (mO (g2 op (.val a) (.val b))) k) S (pB (pL (op a b)) r) Q := by
  rw [g2_vals]
  exact bk_oL hh
/-- .. as they come: x's data are known -/
theorem bk_frzL {ds : List Dt} (hh : Bk X (k (.val (.list ds))) S p Q) : Bk X (gB (mO ((OV.lst (ds.map .val)).frz.map .val)) k) S p Q := by
  rw [frz_lst]
  exact hh
theorem bk_frzV {d : Dt} (hh : Bk X (k (.val d)) S p Q) : Bk X (gB (mO ((OV.val d).frz.map .val)) k) S p Q := by
  rw [frz_val]
  exact hh
theorem bk_frzX {x : OV} {d : Dt} (hx : x.frz = some d) (hh : Bk X (k (.val d)) S p Q) : Bk X (gB (mO (x.frz.map .val)) k) S p Q := by
  rw [hx]
  exact hh
theorem bk_F (hh : Bk X (gB f fun x => gB (mO (x.frz.map .val)) k) S p Q) : Bk X (gB (mF f) k) S p Q := bk_m hh

/-! ### argument lists -/
theorem bk_cons {k : List OV → MG ρ} (hh : Bk X (gB f fun x => gB fs fun xs => k (x :: xs)) S p Q) : Bk X (gB (mCons f fs) k) S p Q := by
  unfold mCons
  refine bk_m (.eq ?_ hh)
  congr
  funext x
  rw [gB_m]
  rfl
theorem bk_nil {k : List OV → MG ρ} (hh : Bk X (k []) S p Q) : Bk X (gB mNil k) S p Q := hh
theorem bk_cb {G : List Dt → Option OV} (hh : Bk X (gB fs fun xs => gB (mO ((OV.frzL xs).bind G)) k) S p Q) : Bk X (gB (mCB G fs) k) S p Q := bk_m hh
theorem frzL_eq {xs : List OV} {ds : List Dt} (e : xs = ds.map .val) : OV.frzL xs = some ds := by rw [e, frzL_map]
theorem frzL_1 {x : OV} {d : Dt} (e : x.frz = some d) : OV.frzL [x] = some [d] := by
  rw [OV.frzL, e, OV.frzL]
theorem bk_cbV {G : List Dt → Option OV} {xs : List OV} {ds : List Dt} {r : Dt → PM β} (e : OV.frzL xs = some ds) (hh : ∀ c, Bk X (k (.val c)) S (r c) Q) : Bk X (gB (mO ((OV.frzL xs).bind G)) k) S (pB (pV (G ds)) r) Q := by
  rw [e]
  exact bk_oV hh
theorem bk_cbL {G : List Dt → Option OV} {xs : List OV} {ds : List Dt} {r : List Dt → PM β} (e : OV.frzL xs = some ds) (hh : ∀ c, Bk X (k (.lst (c.map .val))) S (r c) Q) : Bk X (gB (mO ((OV.frzL xs).bind G)) k) S (pB (pL (G ds)) r) Q := by
  rw [e]
  exact bk_oL hh
theorem bk_tup (hh : Bk X (gB fs fun xs => gB (mO (match OV.frzL xs with
  | some ds => if sz ds.length = true then some (OV.val (.tuple ds)) else none
  | none => none)) k) S p Q) : Bk X (gB (mTup fs) k) S p Q := bk_m hh
theorem bk_tupL {xs : List OV} {ds : List Dt} (e : OV.frzL xs = some ds) (z : sz ds.length = true) (hh : Bk X (k (.val (.tuple ds))) S p Q) : Bk X (gB (mO (match OV.frzL xs with
  | some ds => if sz ds.length = true then some (OV.val (.tuple ds)) else none
  | none => none)) k) S p Q := by
  rw [e]
  refine bk_mO ?_ hh
  simp only [z, if_true]
theorem bk_lstF (hh : Bk X (gB fs fun xs => gB (mO (if sz xs.length = true then (OV.frzL xs).map fun ds => OV.lst (ds.map .val) else none)) k) S p Q) : Bk X (gB (mLstF fs) k) S p Q := bk_m hh
theorem bk_lstL {xs : List OV} {ds : List Dt} (e : OV.frzL xs = some ds) (z : sz xs.length = true) (hh : Bk X (k (.lst (ds.map .val))) S p Q) : Bk X (gB (mO (if sz xs.length = true then (OV.frzL xs).map fun ds => OV.lst (ds.map .val) else none)) k) S p Q := by
  rw [e, if_pos z]
  exact hh

/-! ### truths -/
def bool? : Dt → Option Bool
  | .bool b => some b
  | _ => none
@[simp] theorem bool?_b (b : Bool) : bool? (.bool b) = some b := rfl
theorem bk_bl {k : Bool → MG ρ} (hh : Bk X (gB f fun x => gB (mO (bl? x)) k) S p Q) : Bk X (gB (mBl f) k) S p Q := bk_m hh
theorem bk_blV {k : Bool → MG ρ} {d : Dt} {r : Bool → PM β} (hh : ∀ b, Bk X (k b) S (r b) Q) : Bk X (gB (mO (bl? (.val d))) k) S (pB (pO (bool? d)) r) Q := Bk.prim fun b e => by
  cases d <;> simp [bool?] at e
  subst e
  exact hh _
theorem bk_tru {k : Bool → MG ρ} (hh : Bk X (gB f fun x => gB (mO (x.frz.bind truD)) k) S p Q) : Bk X (gB (mTru f) k) S p Q := bk_m hh
theorem bk_truV {k : Bool → MG ρ} {x : OV} {d : Dt} {r : Bool → PM β} (e : x.frz = some d) (hh : ∀ b, Bk X (k b) S (r b) Q) : Bk X (gB (mO (x.frz.bind truD)) k) S (pB (pO (truD d)) r) Q := by
  rw [e]
  refine Bk.prim fun b q => ?_
  exact bk_mO q (hh b)
theorem bk_not {k : Bool → MG ρ} (hh : Bk X (gB fb fun b => k (!b)) S p Q) : Bk X (gB (mNot fb) k) S p Q := bk_m hh
theorem bk_if {c : M Bool} {f g : M α} {k : α → MG ρ} (hh : Bk X (gB c fun b => if b = true then gB f k else gB g k) S p Q) : Bk X (gB (mIf c f g) k) S p Q := by
  unfold mIf
  refine bk_m (.eq ?_ hh)
  congr
  funext b
  cases b <;> rfl
theorem bk_and {k : Bool → MG ρ} (hh : Bk X (gB fb fun b => if b = true then gB fc k else k false) S p Q) : Bk X (gB (mAnd fb fc) k) S p Q := bk_if hh
theorem bk_or {k : Bool → MG ρ} (hh : Bk X (gB fb fun b => if b = true then k true else gB fc k) S p Q) : Bk X (gB (mOr fb fc) k) S p Q := bk_if hh
theorem bk_andV (hh : Bk X (gB (mBl f) fun b => if b = true then gB g k else k (.val (.bool false))) S p Q) : Bk X (gB (mAndV f g) k) S p Q := bk_if hh
theorem bk_orV (hh : Bk X (gB (mBl f) fun b => if b = true then k (.val (.bool true)) else gB g k) S p Q) : Bk X (gB (mOrV f g) k) S p Q := bk_if hh
theorem bk_notV (hh : Bk X (gB (mBl f) fun b => k (.val (.bool !b))) S p Q) : Bk X (gB (mNotV f) k) S p Q := bk_m hh
theorem bk_ite {b : Bool} {d1 d2 : MG ρ} {p1 p2 : PM β} (h1 : Bk X d1 S p1 Q) (h2 : Bk X d2 S p2 Q) : Bk X (if b = true then d1 else d2) S (if b = true then p1 else p2) Q := by
  cases b
  · exact h2
  · exact h1
theorem bk_isi {T : String} {r : Dt → PM β} (hh : Bk X (gB f fun x => gB (mO ((x.frz).bind fun d => (isiD T d).map oB)) k) S p Q) : Bk X (gB (mIsi T f) k) S p Q := bk_m hh
def pIsi (T : String) (d : Dt) : PM Dt := pO ((isiD T d).map .bool)
theorem bk_isiV {T : String} {d : Dt} {r : Dt → PM β} (hh : ∀ c, Bk X (k (.val c)) S (r c) Q) : Bk X (gB (mO (((OV.val d).frz).bind fun d => (isiD T d).map oB)) k) S (pB (pIsi T d) r) Q := by
  rw [frz_val]
  refine Bk.prim fun c e => ?_
  cases q : isiD T d with
  | none => rw [q] at e; cases e
  | some b =>
    rw [q] at e
    cases e
    exact bk_mO (by simp [q]; rfl) (hh _)
theorem bk_isN (hh : Bk X (gB f fun x => gB (mO (x.frz.map fun d => oB (isNo d))) k) S p Q) : Bk X (gB (mIsN f) k) S p Q := bk_m hh
theorem bk_notN (hh : Bk X (gB f fun x => gB (mO (x.frz.map fun d => oB (!isNo d))) k) S p Q) : Bk X (gB (mNotN f) k) S p Q := bk_m hh
theorem bk_isNV {d : Dt} (hh : Bk X (k (.val (.bool (isNo d)))) S p Q) : Bk X (gB (mO ((OV.val d).frz.map fun d => oB (isNo d))) k) S p Q := by
  rw [frz_val]
  exact hh
theorem bk_notNV {d : Dt} (hh : Bk X (k (.val (.bool (!isNo d)))) S p Q) : Bk X (gB (mO ((OV.val d).frz.map fun d => oB (!isNo d))) k) S p Q := by
  rw [frz_val]
  exact hh
def pNeg : Dt → PM Dt
  | .int i => pR (.int (-i))
  | _ => none
@[simp] theorem pNeg_i (i : Int) : pNeg (.int i) = pR (.int (-i)) := rfl
def negO : OV → Option OV
  | .val (.int i) => some (oI (-i))
  | _ => none
theorem bk_neg (hh : Bk X (gB f fun x => gB (mO (negO x)) k) S p Q) : Bk X (gB (mNeg f) k) S p Q := bk_m hh
theorem bk_negV {d : Dt} {r : Dt → PM β} (hh : ∀ c, Bk X (k (.val c)) S (r c) Q) : Bk X (gB (mO (negO (.val d))) k) S (pB (pNeg d) r) Q := by
  cases d with
  | int i => exact hh _
  | _ => exact Bk.none
/-- a < b < c -/
theorem bk_chain {g1 g3 : Dt → Dt → Option OV} {f3 : M OV} (hh : Bk X (gB f fun x => gB h fun y => gB (mO (g2 g1 x y)) fun z => gB (mO (bl? z)) fun b => if b = true then gB f3 fun w => gB (mO (g2 g3 y w)) k else k (.val (.bool false))) S p Q) : Bk X (gB (mChain g1 g3 f h f3) k) S p Q := by
  unfold mChain
  refine bk_m (.eq ?_ hh)
  congr
  funext x
  rw [gB_m]
  congr
  funext y
  rw [gB_m]
  congr
  funext z
  rw [gB_m]
  congr
  funext b
  cases b
  · rfl
  · exact gB_m _ _ _
end
end DL

/-! the second level: values by their data, statements, targets, calls -/
namespace DL
open PySem PySem.Spec L2
section
variable {ρ α β γ : Type} [Res ρ] {X S S1 T : List SS} {d : MG ρ} {k : OV → MG ρ} {Q : β → ρ → Prop} {p : PM β} {rest body : MS} {f g h : M OV} {fs : M (List OV)} {fb fc : M Bool} {x y : OV} {a b : Dt}
/-- the result, whatever its form, by its data -/
def pF (o : Option OV) : PM Dt := pO (o.bind OV.frz)
@[simp] theorem pF_val (d : Dt) : pF (some (.val d)) = pR d := by simp [pF]
@[simp] theorem pF_oI (i : Int) : pF (some (oI i)) = pR (.int i) := by simp [pF, oI]
@[simp] theorem pF_oB (i : Bool) : pF (some (oB i)) = pR (.bool i) := by simp [pF, oB]
@[simp] theorem pF_lst (ds : List Dt) : pF (some (.lst (ds.map .val))) = pR (.list ds) := by simp [pF]
@[simp] theorem pF_none : pF none = none := rfl
theorem bk_oX {o : Option OV} {r : Dt → PM β} (hh : ∀ (z : OV) c, z.frz = some c → Bk X (k z) S (r c) Q) : Bk X (gB (mO o) k) S (pB (pF o) r) Q := by
  cases o with
  | none => exact Bk.none
  | some z =>
    cases e : z.frz with
    | none =>
      have : pF (some z) = none := by simp [pF, e]
      rw [this]
      exact Bk.none
    | some c =>
      have : pF (some z) = pR c := by simp [pF, e]
      rw [this]
      exact hh z c e
theorem g2_frz {op : Dt → Dt → Option OV} (hx : x.frz = some a) (hy : y.frz = some b) : g2 op x y = op a b := by
  unfold g2
  rw [hx, hy]
theorem bk_o2V {op : Dt → Dt → Option OV} {r : Dt → PM β} (hx : x.frz = some a) (hy : y.frz = some b) (hh : ∀ c, Bk X (k (.val c)) S (r c) Q) : Bk X (gB (mO (g2 op x y)) k) S (pB (pV (op a b)) r) Q := by
  rw [g2_frz hx hy]
  exact bk_oV hh
theorem bk_o2L {op : Dt → Dt → Option OV} {r : List Dt → PM β} (hx : x.frz = some a) (hy : y.frz = some b) (hh : ∀ c : List Dt, Bk X (k (.lst (c.map .val))) S (r c) Q) : Bk X (gB (mO (g2 op x y)) k) S (pB (pL (op a b)) r) Q := by
  rw [g2_frz hx hy]
  exact bk_oL hh
theorem bk_o2X {op : Dt → Dt → Option OV} {r : Dt → PM β} (hx : x.frz = some a) (hy : y.frz = some b) (hh : ∀ (z : OV) c, z.frz = some c → Bk X (k z) S (r c) Q) : Bk X (gB (mO (g2 op x y)) k) S (pB (pF (op a b)) r) Q := by
  rw [g2_frz hx hy]
  exact bk_oX hh
/-- .. on one's data -/
theorem bk_o1V {op : Dt → Option OV} {r : Dt → PM β} (hx : x.frz = some a) (hh : ∀ c, Bk X (k (.val c)) S (r c) Q) : Bk X (gB (mO (x.frz.bind op)) k) S (pB (pV (op a)) r) Q := by
  rw [hx]
  exact bk_oV hh
theorem bk_o1L {op : Dt → Option OV} {r : List Dt → PM β} (hx : x.frz = some a) (hh : ∀ c : List Dt, Bk X (k (.lst (c.map .val))) S (r c) Q) : Bk X (gB (mO (x.frz.bind op)) k) S (pB (pL (op a)) r) Q := by
  rw [hx]
  exact bk_oL hh
theorem bk_o1X {op : Dt → Option OV} {r : Dt → PM β} (hx : x.frz = some a) (hh : ∀ (z : OV) c, z.frz = some c → Bk X (k z) S (r c) Q) : Bk X (gB (mO (x.frz.bind op)) k) S (pB (pF (op a)) r) Q := by
  rw [hx]
  exact bk_oX hh
theorem bk_F' (hx : x.frz = some a) (hh : Bk X (k (.val a)) S p Q) : Bk X (gB (mO (x.frz.map .val)) k) S p Q := by
  rw [hx]
  exact hh
theorem bk_isiF {T : String} {r : Dt → PM β} (hx : x.frz = some a) (hh : ∀ c, Bk X (k (.val c)) S (r c) Q) : Bk X (gB (mO ((x.frz).bind fun d => (isiD T d).map oB)) k) S (pB (pIsi T a) r) Q := by
  rw [hx, ← frz_val a]
  exact bk_isiV hh
theorem bk_isNF (hx : x.frz = some a) (hh : Bk X (k (.val (.bool (isNo a)))) S p Q) : Bk X (gB (mO (x.frz.map fun d => oB (isNo d))) k) S p Q := by
  rw [hx]
  exact hh
theorem bk_notNF (hx : x.frz = some a) (hh : Bk X (k (.val (.bool (!isNo a)))) S p Q) : Bk X (gB (mO (x.frz.map fun d => oB (!isNo d))) k) S p Q := by
  rw [hx]
  exact hh
theorem frzL_nil : OV.frzL [] = some [] := by rw [OV.frzL]
theorem frzL_cons {xs : List OV} {ds : List Dt} (hx : x.frz = some a) (h : OV.frzL xs = some ds) : OV.frzL (x :: xs) = some (a :: ds) := by
  rw [OV.frzL, hx, h]
theorem bk_sortSet (hh : Bk X (gB f fun x => gB (mO (x.frz.bind sortSetD)) k) S p Q) : Bk X (gB (mSortSet f) k) S p Q := bk_m hh
theorem bk_tupRev (hh : Bk X (gB f fun x => gB (mO (x.frz.bind tupRevD)) k) S p Q) : Bk X (gB (mTupRev f) k) S p Q := bk_m hh
/-! slices -/
theorem bk_sl {lo hi : M (Option Int)} (hh : Bk X (gB f fun x => gB lo fun l => gB hi fun u => gB (mO (x.frz.bind fun d => slD d l u)) k) S p Q) : Bk X (gB (mSl f lo hi) k) S p Q := by
  unfold mSl
  refine bk_m (.eq ?_ hh)
  congr
  funext x
  rw [gB_m]
  congr
  funext y
  exact gB_m _ _ _
theorem bk_noP {k : Option Int → MG ρ} (hh : Bk X (k none) S p Q) : Bk X (gB mNoP k) S p Q := hh
def int? : Dt → Option Int
  | .int i => some i
  | _ => none
@[simp] theorem int?_i (i : Int) : int? (.int i) = some i := rfl
def endO : OV → Option (Option Int)
  | .val (.int i) => some (some i)
  | _ => none
theorem bk_P {k : Option Int → MG ρ} (hh : Bk X (gB f fun x => gB (mO (endO x)) k) S p Q) : Bk X (gB (mP f) k) S p Q := bk_m hh
theorem bk_PV {k : Option Int → MG ρ} {r : Int → PM β} (hh : ∀ i, Bk X (k (some i)) S (r i) Q) : Bk X (gB (mO (endO (.val a))) k) S (pB (pO (int? a)) r) Q := by
  cases a with
  | int i => exact hh i
  | _ => exact Bk.none
theorem bk_slV {l u : Option Int} {r : Dt → PM β} (hx : x.frz = some a) (hh : ∀ c, Bk X (k (.val c)) S (r c) Q) : Bk X (gB (mO (x.frz.bind fun d => slD d l u)) k) S (pB (pV (slD a l u)) r) Q := bk_o1V (op := fun d => slD d l u) hx hh
theorem bk_slL {l u : Option Int} {r : List Dt → PM β} (hx : x.frz = some a) (hh : ∀ c : List Dt, Bk X (k (.lst (c.map .val))) S (r c) Q) : Bk X (gB (mO (x.frz.bind fun d => slD d l u)) k) S (pB (pL (slD a l u)) r) Q := bk_o1L (op := fun d => slD d l u) hx hh
theorem bk_slX {l u : Option Int} {r : Dt → PM β} (hx : x.frz = some a) (hh : ∀ (z : OV) c, z.frz = some c → Bk X (k z) S (r c) Q) : Bk X (gB (mO (x.frz.bind fun d => slD d l u)) k) S (pB (pF (slD a l u)) r) Q := bk_o1X (op := fun d => slD d l u) hx hh

/-! ### owned lists -/
theorem own_at {env : Env} {i : Nat} {ds : List Dt} (he : EOk S env) (hi : S[i]? = some (.own ds)) : env[i]? = some (some (.lst (ds.map .val))) := by
  obtain ⟨o, e, rfl⟩ := he.get hi
  exact e
theorem bk_lenO (i : Nat) {ds : List Dt} (hh : Bk X (k (.val (.int ds.length))) S p Q) (hi : S[i]? = some (.own ds) := by rfl) : Bk X (gB (mLenO i) k) S p Q := Bk.to (fun env he => ⟨env, he, gB_ok (by unfold mLenO; rw [own_at he hi]; simp [oI])⟩) hh
theorem bk_truO (i : Nat) {ds : List Dt} {k : Bool → MG ρ} (hh : Bk X (k (!ds.isEmpty)) S p Q) (hi : S[i]? = some (.own ds) := by rfl) : Bk X (gB (mTruO i) k) S p Q := Bk.to (fun env he => ⟨env, he, gB_ok (by
  unfold mTruO
  rw [own_at he hi]
  cases ds <;> rfl)⟩) hh
def ixOK (i : Nat) (y : OV) : M OV := fun env1 => match env1[i]?, y with
    | some (some (.lst xs)), .val (.int j) => match atI xs j with
      | some (.val d) => some (.ok (.val d) env1)
      | _ => none
    | _, _ => none
theorem bk_ixO (i : Nat) {ds : List Dt} (hh : Bk X (gB f fun y => gB (ixOK i y) k) S p Q) (hi : S[i]? = some (.own ds) := by rfl) : Bk X (gB (mIxO i f) k) S p Q := Bk.to (fun env he => ⟨env, he, by
  have e : mIxO i f env = mB f (ixOK i) env := by
    unfold mIxO
    rw [own_at he hi]
    rfl
  rw [← gB_m]
  unfold gB
  rw [e]⟩) hh
def pIxL (ds : List Dt) : Dt → PM Dt
  | .int j => pO (atI ds j)
  | _ => none
theorem pIxL_i (ds : List Dt) (j : Int) : pIxL ds (.int j) = pO (atI ds j) := rfl
theorem atI_map {ds : List Dt} {j : Int} {c : Dt} (h : atI ds j = some c) : atI (ds.map OV.val) j = some (.val c) := by
  unfold atI at h ⊢
  rw [List.length_map]
  cases q : ixN ds.length j with
  | none => rw [q] at h; cases h
  | some n => rw [q] at h; simp at h ⊢; simp [h]
theorem bk_ixOV (i : Nat) {ds : List Dt} {r : Dt → PM β} (hh : ∀ c, Bk X (k (.val c)) S (r c) Q) (hi : S[i]? = some (.own ds) := by rfl) : Bk X (gB (ixOK i (.val a)) k) S (pB (pIxL ds a) r) Q := by
  cases a with
  | int j =>
    rw [pIxL_i]
    refine Bk.prim fun c e => Bk.to (fun env he => ⟨env, he, gB_ok ?_⟩) (hh c)
    unfold ixOK
    rw [own_at he hi]
    simp only [atI_map e]
  | _ => exact Bk.none
def appK (i : Nat) (y : OV) : M OV := fun env1 => match env1[i]? with
    | some (some (.lst xs)) => if sz (xs.length + 1) = true then some (.ok (.val .none) (env1.set i (some (.lst (xs ++ [y]))))) else none
    | _ => none
theorem bk_app (i : Nat) {ds : List Dt} (hh : Bk X (gB f fun y => gB (appK i y) k) S p Q) (hi : S[i]? = some (.own ds) := by rfl) : Bk X (gB (mApp i f) k) S p Q := Bk.to (fun env he => ⟨env, he, by
  have e : mApp i f env = mB f (appK i) env := by
    unfold mApp
    rw [own_at he hi]
    rfl
  rw [← gB_m]
  unfold gB
  rw [e]⟩) hh
def pApp (ds : List Dt) (d : Dt) : PM (List Dt) := if sz (ds.length + 1) = true then pR (ds ++ [d]) else none
theorem bk_appV (i : Nat) {ds : List Dt} {r : List Dt → PM β} (hh : ∀ c, Bk X (k (.val .none)) (S.set i (.own c)) (r c) Q) (hi : S[i]? = some (.own ds) := by rfl) : Bk X (gB (appK i (.val a)) k) S (pB (pApp ds a) r) Q := by
  unfold pApp
  split
  · rename_i z
    refine Bk.to (fun env he => ⟨env.set i (some (.lst ((ds ++ [a]).map .val))), he.set (s := .own (ds ++ [a])) i rfl, gB_ok ?_⟩) (hh (ds ++ [a]))
    unfold appK
    rw [own_at he hi]
    simp [z]
  · exact Bk.none
theorem bk_rev (i : Nat) {ds : List Dt} (hh : Bk X (k (.val .none)) (S.set i (.own ds.reverse)) p Q) (hi : S[i]? = some (.own ds) := by rfl) : Bk X (gB (mRev i) k) S p Q := Bk.to (fun env he => ⟨env.set i (some (.lst (ds.reverse.map .val))), he.set (s := .own ds.reverse) i rfl, gB_ok (by
  unfold mRev
  rw [own_at he hi]
  simp)⟩) hh

/-! ### thaw -/
def thS : SS → SS
  | .own ds => .dat (.list ds)
  | .dat d => .dat d
  | .own2 dss => .dat (.list (dss.map .list))
  | _ => .any
theorem EOk.thaw {env : Env} (h : EOk S env) : EOk (S.map thS) (env.map frzS) := by
  induction h with
  | nil => exact .nil
  | @cons s o S env h _ ih =>
    refine .cons ?_ ih
    cases s with
    | any => trivial
    | som => trivial
    | dat d =>
      obtain ⟨x, rfl, hx⟩ := h
      exact ⟨.val d, by simp [frzS, fz_frz hx], frz_val d⟩
    | own ds =>
      cases h
      exact ⟨.val (.list ds), by simp [frzS, fz_frz (frz_lst ds)], frz_val _⟩
    | own2 dss =>
      cases h
      exact ⟨.val (.list (dss.map .list)), by simp [frzS, fz_frz (frz_LL dss)], frz_val _⟩
def pFlat (d : Dt) : PM Unit := if noLD d = true then pR () else none
theorem bk_thaw {q : PM γ} {v : γ → Dt} {S1 : γ → List SS} {r : γ → PM β} (h : Bk (S.map thS) f (S.map thS) q (Qe (fun c => .val (v c)) S1)) (hk : ∀ c, Bk X (k (.val (v c))) S (r c) Q) (hX : SLe S X) : Bk X (gB (mThaw f) k) S (pB q fun c => pB (pFlat (v c)) fun _ => r c) Q := fun env he => by
  have a := h (env.map frzS) he.thaw
  cases q with
  | none => trivial
  | some z =>
    cases z with
    | error e =>
      obtain ⟨env', e1, e2⟩ := a
      exact ⟨env, by unfold gB mThaw; rw [e1]; rfl, hX.ok he⟩
    | ok c =>
      obtain ⟨_, e1, env', rfl, e2⟩ := a
      by_cases z : noLD (v c) = true
      · have e : gB (mThaw f) k env = k (.val (v c)) env := gB_ok (by
          unfold mThaw
          rw [e1]
          have : flatO (.val (v c)) = true := by rw [flatO]; exact z
          simp only [this, if_true])
        have b := hk c env he
        have ep : (pB (pR c) fun c => pB (pFlat (v c)) fun _ => r c) = r c := by simp [pFlat, z]
        show match (pB (pR c) fun c => pB (pFlat (v c)) fun _ => r c) with
          | Option.none => True
          | some (.ok b) => ∃ r, gB (mThaw f) k env = some r ∧ Q b r
          | some (.error e) => ∃ env', gB (mThaw f) k env = some (Res.ex e env') ∧ EOk X env'
        rw [ep, e]
        exact b
      · have ep : (pB (pR c) fun c => pB (pFlat (v c)) fun _ => r c) = none := by simp [pFlat, z]
        show match (pB (pR c) fun c => pB (pFlat (v c)) fun _ => r c) with
          | Option.none => True
          | some (.ok b) => ∃ r, gB (mThaw f) k env = some r ∧ Q b r
          | some (.error e) => ∃ env', gB (mThaw f) k env = some (Res.ex e env') ∧ EOk X env'
        rw [ep]
        trivial
theorem bk_thawB {k : Bool → MG ρ} {q : PM γ} {v : γ → Bool} {S1 : γ → List SS} {r : γ → PM β} (h : Bk (S.map thS) fb (S.map thS) q (Qe v S1)) (hk : ∀ c, Bk X (k (v c)) S (r c) Q) (hX : SLe S X) : Bk X (gB (mThawB fb) k) S (pB q r) Q := fun env he => by
  have a := h (env.map frzS) he.thaw
  cases q with
  | none => trivial
  | some z =>
    cases z with
    | error e =>
      obtain ⟨env', e1, e2⟩ := a
      exact ⟨env, by unfold gB mThawB; rw [e1]; rfl, hX.ok he⟩
    | ok c =>
      obtain ⟨_, e1, env', rfl, e2⟩ := a
      have e : gB (mThawB fb) k env = k (v c) env := gB_ok (by unfold mThawB; rw [e1])
      have b := hk c env he
      show match r c with
        | Option.none => True
        | some (.ok b) => ∃ r, gB (mThawB fb) k env = some r ∧ Q b r
        | some (.error e) => ∃ env', gB (mThawB fb) k env = some (Res.ex e env') ∧ EOk X env'
      rw [e]
      exact b
end
end DL

/-! the second level: statements, targets, loops, comprehensions, calls, defs -/
namespace DL
open PySem PySem.Spec L2
section
variable {ρ α β γ σ : Type} [Res ρ] {X S S1 T : List SS} {d : MG ρ} {k : OV → MG ρ} {Q : β → ρ → Prop} {Qs : β → Sr → Prop} {p : PM β} {rest body A B : MS} {f g h : M OV} {fs : M (List OV)} {fb fc : M Bool} {x y : OV} {a b : Dt}

/-! ### statements -/
theorem bk_last (hh : Bk X (sSeq A sNext) S p Qs) : Bk X A S p Qs := .eq (seq_last A).symm hh
theorem bk_skip (hh : Bk X rest S p Qs) : Bk X (sSeq sNext rest) S p Qs := hh
theorem bk_seq {C : MS} (hh : Bk X (sSeq A (sSeq B C)) S p Qs) : Bk X (sSeq (sSeq A B) C) S p Qs := .eq (seq_seq A B C) hh
def setK (i : Nat) (x : OV) (rest : MS) : MS := sSeq (fun env => (putE env i x).map .nx) rest
theorem bk_set {i : Nat} (hh : Bk X (gB f fun x => setK i x rest) S p Qs) : Bk X (sSeq (sSet i f) rest) S p Qs := .eq (seq_g _ _ _) hh
theorem setK_to {env : Env} {i : Nat} (hl : i < env.length) : setK i x rest env = rest (env.set i (some x)) := by
  unfold setK sSeq putE
  simp only [if_pos hl, Option.map_some]
theorem bk_setX {i : Nat} (hx : x.frz = some a) (hh : Bk X rest (S.set i (.dat a)) p Qs) (hl : Nat.ble (i + 1) S.length = true := by rfl) : Bk X (setK i x rest) S p Qs :=
  Bk.to (fun env he => ⟨_, he.set (s := .dat a) i ⟨x, rfl, hx⟩, setK_to (by rw [he.len]; exact Nat.le_of_ble_eq_true hl)⟩) hh
theorem bk_setV {i : Nat} (hh : Bk X rest (S.set i (.dat a)) p Qs) (hl : Nat.ble (i + 1) S.length = true := by rfl) : Bk X (setK i (.val a) rest) S p Qs := bk_setX (frz_val a) hh hl
theorem bk_setO {i : Nat} {ds : List Dt} (hh : Bk X rest (S.set i (.own ds)) p Qs) (hl : Nat.ble (i + 1) S.length = true := by rfl) : Bk X (setK i (.lst (ds.map .val)) rest) S p Qs :=
  Bk.to (fun env he => ⟨_, he.set (s := .own ds) i rfl, setK_to (by rw [he.len]; exact Nat.le_of_ble_eq_true hl)⟩) hh
theorem bk_expr (hh : Bk X (gB f fun _ => rest) S p Qs) : Bk X (sSeq (sExpr f) rest) S p Qs := .eq (seq_g _ _ _) hh
def rtK (x : OV) : MS := fun env => some (.rt x env)
theorem bk_sret (hh : Bk X (gB f rtK) S p Qs) : Bk X (sSeq (sRet f) rest) S p Qs := .eq (seq_g _ _ _) hh
theorem bk_retN (hh : Bk X (rtK (.val .none)) S p Qs) : Bk X (sSeq sRetN rest) S p Qs := hh
def asgK (x : OV) (g : Dt → Env → Option Env) (rest : MS) : MS := sSeq (fun env => match x.frz with
    | some d => (g d env).map .nx
    | none => none) rest
theorem bk_asg {g : Dt → Env → Option Env} (hh : Bk X (gB f fun x => asgK x g rest) S p Qs) : Bk X (sSeq (sAsg f g) rest) S p Qs := .eq (seq_g _ _ _) hh
/-- first a target, then the rest -/
def gTg {ρ : Type} (g : Dt → Env → Option Env) (d : Dt) (k : MG ρ) : MG ρ := fun env => (g d env).bind k
theorem bk_asgX {g : Dt → Env → Option Env} (hx : x.frz = some a) (hh : Bk X (gTg g a rest) S p Qs) : Bk X (asgK x g rest) S p Qs := .eq (by
  funext env
  unfold asgK sSeq gTg
  cases q : g a env <;> simp [hx, q]) hh
theorem bk_tN {k : MG ρ} {i : Nat} (hh : Bk X k (S.set i (.dat a)) p Q) (hl : Nat.ble (i + 1) S.length = true := by rfl) : Bk X (gTg (gN i) a k) S p Q :=
  Bk.to (fun env he => ⟨env.set i (some (.val a)), he.set (s := .dat a) i ⟨_, rfl, frz_val a⟩, by
    unfold gTg gN putE
    rw [if_pos (by rw [he.len]; exact Nat.le_of_ble_eq_true hl)]
    rfl⟩) hh
def pT1 {β : Type} (d : Dt) (k : Dt → PM β) : PM β := match d with
  | .tuple [a] => k a
  | _ => none
def pT2 {β : Type} (d : Dt) (k : Dt → Dt → PM β) : PM β := match d with
  | .tuple [a, b] => k a b
  | _ => none
def pT3 {β : Type} (d : Dt) (k : Dt → Dt → Dt → PM β) : PM β := match d with
  | .tuple [a, b, c] => k a b c
  | _ => none
def pT4 {β : Type} (d : Dt) (k : Dt → Dt → Dt → Dt → PM β) : PM β := match d with
  | .tuple [a, b, c, e] => k a b c e
  | _ => none
@[simp] theorem pT1_t {β : Type} (a : Dt) (k : Dt → PM β) : pT1 (.tuple [a]) k = k a := Eq.trans rfl rfl
@[simp] theorem pT2_t {β : Type} (a b : Dt) (k : Dt → Dt → PM β) : pT2 (.tuple [a, b]) k = k a b := Eq.trans rfl rfl
@[simp] theorem pT3_t {β : Type} (a b c : Dt) (k : Dt → Dt → Dt → PM β) : pT3 (.tuple [a, b, c]) k = k a b c := Eq.trans rfl rfl
@[simp] theorem pT4_t {β : Type} (a b c d : Dt) (k : Dt → Dt → Dt → Dt → PM β) : pT4 (.tuple [a, b, c, d]) k = k a b c d := Eq.trans rfl rfl
theorem bk_t1 {k : MG ρ} {g1 : Dt → Env → Option Env} {r : Dt → PM β} (hh : ∀ a, Bk X (gTg g1 a k) S (r a) Q) : Bk X (gTg (gT [g1]) a k) S (pT1 a r) Q := by
  unfold pT1
  split
  · refine .eq ?_ (hh _)
    funext env
    simp only [gTg, gT, gAll, Option.bind_some, Option.bind_assoc]
    try rfl
  · exact Bk.none
theorem bk_t2 {k : MG ρ} {g1 g2 : Dt → Env → Option Env} {r : Dt → Dt → PM β} (hh : ∀ a b, Bk X (gTg g1 a (gTg g2 b k)) S (r a b) Q) : Bk X (gTg (gT [g1, g2]) a k) S (pT2 a r) Q := by
  unfold pT2
  split
  · refine .eq ?_ (hh _ _)
    funext env
    simp only [gTg, gT, gAll, Option.bind_some, Option.bind_assoc]
    try rfl
  · exact Bk.none
theorem bk_t3 {k : MG ρ} {g1 g2 g3 : Dt → Env → Option Env} {r : Dt → Dt → Dt → PM β} (hh : ∀ a b c, Bk X (gTg g1 a (gTg g2 b (gTg g3 c k))) S (r a b c) Q) : Bk X (gTg (gT [g1, g2, g3]) a k) S (pT3 a r) Q := by
  unfold pT3
  split
  · refine .eq ?_ (hh _ _ _)
    funext env
    simp only [gTg, gT, gAll, Option.bind_some, Option.bind_assoc]
    try rfl
  · exact Bk.none
theorem bk_t4 {k : MG ρ} {g1 g2 g3 g4 : Dt → Env → Option Env} {r : Dt → Dt → Dt → Dt → PM β} (hh : ∀ a b c e, Bk X (gTg g1 a (gTg g2 b (gTg g3 c (gTg g4 e k)))) S (r a b c e) Q) : Bk X (gTg (gT [g1, g2, g3, g4]) a k) S (pT4 a r) Q := by
  unfold pT4
  split
  · refine .eq ?_ (hh _ _ _ _)
    funext env
    simp only [gTg, gT, gAll, Option.bind_some, Option.bind_assoc]
    try rfl
  · exact Bk.none
/-- word, *rest = a -/
def pS21 {β : Type} (d : Dt) (k : Dt → Dt → PM β) : PM β := match d with
  | .tuple (a :: r) => if decide (r.length + 1 ≤ 16384) = true then k a (.list r) else none
  | _ => none
@[simp] theorem pS21_t {β : Type} (a : Dt) (r : List Dt) (k : Dt → Dt → PM β) (h : r.length + 1 ≤ 16384) : pS21 (.tuple (a :: r)) k = k a (.list r) := by simp [pS21, h]
theorem bk_s21 {k : MG ρ} {g1 g2 : Dt → Env → Option Env} {r : Dt → Dt → PM β} (hh : ∀ a b, Bk X (gTg g1 a (gTg g2 b k)) S (r a b) Q) : Bk X (gTg (gStar 2 1 [g1, g2]) a k) S (pS21 a r) Q := by
  unfold pS21
  split
  · rename_i a0 r0
    split
    · rename_i hl
      refine .eq ?_ (hh _ _)
      funext env
      have hl' := of_decide_eq_true hl
      have h1 : (decide (2 ≤ (a0 :: r0).length + 1) && decide ((a0 :: r0).length ≤ 16384)) = true := by
        rw [List.length_cons, Bool.and_eq_true, decide_eq_true_eq, decide_eq_true_eq]
        omega
      have e : (a0 :: r0).take 1 ++ [.list (((a0 :: r0).drop 1).take ((a0 :: r0).length + 1 - 2))] ++ ((a0 :: r0).drop 1).drop ((a0 :: r0).length + 1 - 2) = [a0, .list r0] := by
        simp
      unfold gTg gStar
      simp only
      rw [if_pos h1, e]
      simp only [gAll, Option.bind_some, Option.bind_assoc]
      try rfl
    · exact Bk.none
  · exact Bk.none
theorem bk_sif {c : M Bool} (hh : Bk X (gB c fun b => if b = true then sSeq A rest else sSeq B rest) S p Qs) : Bk X (sSeq (sIf c A B) rest) S p Qs := .eq (by
  refine (seq_g _ _ _).trans ?_
  congr
  funext b
  cases b <;> rfl) hh
/-- an if by itself; then the rest -/
def Qj (S : γ → List SS) : γ → Sr → Prop := fun s r => ∃ env', r = .nx env' ∧ EOk (S s) env'
theorem bk_sifJ {c : M Bool} {pc : PM γ} {Sj : γ → List SS} {r : γ → PM β} (hc : Bk X (gB c fun b => if b = true then A else B) S pc (Qj Sj)) (hk : ∀ s, Bk X rest (Sj s) (r s) Qs) : Bk X (sSeq (sIf c A B) rest) S (pB pc r) Qs := fun env he => by
  have a := hc env he
  have ec : sIf c A B = gB c fun b => if b = true then A else B := sB_g _ _
  cases pc with
  | none => trivial
  | some z =>
    cases z with
    | error e =>
      obtain ⟨env', e1, e2⟩ := a
      exact ⟨env', by rw [ec]; unfold sSeq; rw [e1]; rfl, e2⟩
    | ok s =>
      obtain ⟨_, e1, env', rfl, e2⟩ := a
      have e : sSeq (sIf c A B) rest env = rest env' := by rw [ec]; unfold sSeq; rw [e1]
      have b := hk s env' e2
      show match r s with
        | Option.none => True
        | some (.ok b) => ∃ r, sSeq (sIf c A B) rest env = some r ∧ Qs b r
        | some (.error e) => ∃ env', sSeq (sIf c A B) rest env = some (Res.ex e env') ∧ EOk X env'
      rw [e]
      exact b
theorem bk_nxJ {s : γ} {Sj : γ → List SS} (h : SLe S (Sj s)) : Bk X sNext S (pR s) (Qj Sj) := fun env he => ⟨_, rfl, env, rfl, h.ok he⟩

/-! ### the end of a def -/
def Qf (v : β → OV) (So : β → List SS) : β → Sr → Prop := fun b r => ∃ env', EOk (So b) env' ∧ (r = .rt (v b) env' ∨ r = .nx env' ∧ v b = .val .none)
theorem bk_rt {v : β → OV} {So : β → List SS} {c : β} (h : SLe S (So c)) (e : v c = x := by rfl) : Bk X (rtK x) S (pR c) (Qf v So) := fun env he => ⟨_, rfl, env, h.ok he, .inl (by rw [e])⟩
theorem bk_end {v : β → OV} {So : β → List SS} {c : β} (h : SLe S (So c)) (e : v c = .val .none := by rfl) : Bk X sNext S (pR c) (Qf v So) := fun env he => ⟨_, rfl, env, h.ok he, .inr ⟨rfl, e⟩⟩
/-- a def called -/
def FOk (F : Fn) (args : List OV) (p : PM β) (v : β → OV) (O : β → List OV) (n : Nat) : Prop := match p with
  | none => True
  | some (.ok b) => F args = some (.rt (v b) (O b))
  | some (.error e) => ∃ outs, F args = some (.ex e outs) ∧ outs.length = n
theorem bk_fun {N np n : Nat} {io : List Nat} {dd : MS} {args : List OV} {v : β → OV} {So : β → List SS} {O : β → List OV} (hb : Bk X dd S p (Qf v So)) (hl : args.length = np) (hs : EOk S (args.map some ++ List.replicate (N - np) none))
    (ho : ∀ b env, EOk (So b) env → outsE env io = some (O b)) (hx : ∀ env, EOk X env → ∃ outs, outsE env io = some outs ∧ outs.length = n) : FOk (runDef N np io dd) args p v O n := by
  have q := hb _ hs
  unfold FOk runDef
  rw [if_pos hl]
  cases p with
  | none => trivial
  | some z =>
    cases z with
    | ok b =>
      obtain ⟨r, e1, env', h1, h2⟩ := q
      have o := ho b env' h1
      rcases h2 with rfl | ⟨rfl, h2⟩
      · show (match dd _ with
          | some (.nx env) => (outsE env io).map (Fo.rt (.val .none))
          | some (.rt x env) => (outsE env io).map (.rt x)
          | some (.ex e env) => (outsE env io).map (.ex e)
          | _ => none) = _
        rw [e1]
        simp [o]
      · show (match dd _ with
          | some (.nx env) => (outsE env io).map (Fo.rt (.val .none))
          | some (.rt x env) => (outsE env io).map (.rt x)
          | some (.ex e env) => (outsE env io).map (.ex e)
          | _ => none) = _
        rw [e1]
        simp [o, h2]
    | error e =>
      obtain ⟨env', e1, e2⟩ := q
      obtain ⟨outs, o, l⟩ := hx env' e2
      refine ⟨outs, ?_, l⟩
      show (match dd _ with
          | some (.nx env) => (outsE env io).map (Fo.rt (.val .none))
          | some (.rt x env) => (outsE env io).map (.rt x)
          | some (.ex e env) => (outsE env io).map (.ex e)
          | _ => none) = _
      rw [e1]
      show (outsE env' io).map (Fo.ex e) = _
      rw [o]
      rfl
theorem outs0 {env : Env} : outsE env [] = some [] := rfl
theorem outs1 {env : Env} {i : Nat} {ds : List Dt} (he : EOk S env) (hi : S[i]? = some (.own ds) := by rfl) : outsE env [i] = some [.lst (ds.map .val)] := by
  unfold outsE
  rw [own_at he hi]
  rfl
theorem outsX1 {env : Env} {i : Nat} (he : EOk S env) (hi : S[i]? = some .som := by rfl) : ∃ outs, outsE env [i] = some outs ∧ outs.length = 1 := by
  obtain ⟨o, e, x, rfl⟩ := he.get hi
  exact ⟨[x], by unfold outsE; rw [e]; rfl, rfl⟩

/-! ### calls -/
def callK (F : Fn) (sas : List Sa) : M OV := fun env => match takeSa sas env with
  | some (args, env1) => match F args with
    | some (.rt x outs) => (putSa sas outs env1).map (.ok x)
    | some (.ex e outs) => (putSa sas outs env1).map (.ex e)
    | none => none
  | none => none
theorem bk_call {F : Fn} {as : List Ar} (hh : Bk X (gB (mArs as) fun sas => gB (callK F sas) k) S p Q) : Bk X (gB (mCall F as) k) S p Q := bk_m hh
theorem bk_ae {as : List Ar} {k : List Sa → MG ρ} (hh : Bk X (gB f fun x => gB (mArs as) fun xs => k (.ex x :: xs)) S p Q) : Bk X (gB (mArs (.ex f :: as)) k) S p Q := by
  show Bk X (gB (mB f fun x => mB (mArs as) fun xs => mR (Sa.ex x :: xs)) k) S p Q
  refine bk_m (.eq ?_ hh)
  congr
  funext x
  rw [gB_m]
  rfl
theorem bk_ai {i : Nat} {as : List Ar} {k : List Sa → MG ρ} {ds : List Dt} (hh : Bk X (gB (mArs as) fun xs => k (.io i :: xs)) S p Q) (hi : S[i]? = some (.own ds) := by rfl) : Bk X (gB (mArs (.io i :: as)) k) S p Q := Bk.to (fun env he => ⟨env, he, by
  have e : mArs (.io i :: as) env = mB (mArs as) (fun xs => mR (.io i :: xs)) env := by
    rw [mArs]
    simp only [own_at he hi]
  have e2 : gB (mB (mArs as) (fun xs => mR (.io i :: xs))) k = gB (mArs as) fun xs => k (.io i :: xs) := by
    rw [gB_m]
    rfl
  rw [← e2]
  unfold gB
  rw [e]⟩) hh
theorem bk_an {k : List Sa → MG ρ} (hh : Bk X (k []) S p Q) : Bk X (gB (mArs []) k) S p Q := hh
theorem bk_call0 {F : Fn} {sas : List Sa} {args : List OV} {pF : PM γ} {v : γ → OV} {r : γ → PM β} (hF : FOk F args pF v (fun _ => []) 0) (ht : ∀ env, takeSa sas env = some (args, env)) (hp : ∀ env, putSa sas [] env = some env) (hX : SLe S X) (hh : ∀ c, Bk X (k (v c)) S (r c) Q) :
    Bk X (gB (callK F sas) k) S (pB pF r) Q := fun env he => by
  cases pF with
  | none => trivial
  | some z =>
    cases z with
    | ok c =>
      have e : gB (callK F sas) k env = k (v c) env := gB_ok (by
        unfold callK
        rw [ht]
        simp only
        rw [show F args = _ from hF]
        simp [hp])
      have b := hh c env he
      show match r c with
        | Option.none => True
        | some (.ok b) => ∃ r, gB (callK F sas) k env = some r ∧ Q b r
        | some (.error e) => ∃ env', gB (callK F sas) k env = some (Res.ex e env') ∧ EOk X env'
      rw [e]
      exact b
    | error e =>
      obtain ⟨outs, e1, l⟩ := hF
      cases outs with
      | nil => exact ⟨env, by
        unfold gB callK
        rw [ht]
        simp only
        rw [e1]
        simp [hp], hX.ok he⟩
      | cons _ _ => cases l
theorem bk_call1 {F : Fn} {sas : List Sa} {args : List OV} {i : Nat} {ds : List Dt} {pF : PM γ} {v : γ → OV} {o : γ → List Dt} {r : γ → PM β} (hF : FOk F args pF v (fun c => [.lst ((o c).map .val)]) 1)
    (ht : ∀ env, env[i]? = some (some (.lst (ds.map .val))) → takeSa sas env = some (args, env.set i none)) (hp : ∀ env y, putSa sas [y] env = some (env.set i (some y))) (hX : SLe (S.set i .som) X) (hh : ∀ c, Bk X (k (v c)) (S.set i (.own (o c))) (r c) Q) (hi : S[i]? = some (.own ds) := by rfl) :
    Bk X (gB (callK F sas) k) S (pB pF r) Q := fun env he => by
  have t := ht env (own_at he hi)
  cases pF with
  | none => trivial
  | some z =>
    cases z with
    | ok c =>
      have e : gB (callK F sas) k env = k (v c) (env.set i (some (.lst ((o c).map .val)))) := gB_ok (by
        unfold callK
        rw [t]
        simp only
        rw [show F args = _ from hF]
        simp [hp])
      have b := hh c _ (he.set (s := .own (o c)) i rfl)
      show match r c with
        | Option.none => True
        | some (.ok b) => ∃ r, gB (callK F sas) k env = some r ∧ Q b r
        | some (.error e) => ∃ env', gB (callK F sas) k env = some (Res.ex e env') ∧ EOk X env'
      rw [e]
      exact b
    | error e =>
      obtain ⟨outs, e1, l⟩ := hF
      match outs, l with
      | [y], _ =>
        refine ⟨env.set i (some y), ?_, hX.ok (he.set (s := .som) i ⟨y, rfl⟩)⟩
        unfold gB callK
        rw [t]
        simp only
        rw [e1]
        simp [hp]

/-! ### what is walked -/
theorem bk_it {k : List Dt → MG ρ} (hh : Bk X (gB f fun x => gB (mO (items? x)) k) S p Q) : Bk X (gB (mIt f) k) S p Q := bk_m hh
def pIt : Dt → PM (List Dt)
  | .list ds => pR ds
  | .tuple ds => pR ds
  | _ => none
@[simp] theorem pIt_l (ds : List Dt) : pIt (.list ds) = pR ds := Eq.trans rfl rfl
@[simp] theorem pIt_t (ds : List Dt) : pIt (.tuple ds) = pR ds := Eq.trans rfl rfl
theorem bk_itX {k : List Dt → MG ρ} {r : List Dt → PM β} (hx : x.frz = some a) (hh : ∀ ds, Bk X (k ds) S (r ds) Q) : Bk X (gB (mO (items? x)) k) S (pB (pIt a) r) Q := by
  unfold items?
  rw [hx]
  cases a with
  | list ds => exact hh ds
  | tuple ds => exact hh ds
  | _ => exact Bk.none
@[irreducible] def pRng1 : Dt → PM (List Dt)
  | .int j => if -(2 ^ 62) ≤ j ∧ j < 2 ^ 62 then pR (rngD 0 j.toNat) else none
  | _ => none
def rngO1 : OV → Option (List Dt)
  | .val (.int j) => if -(2 ^ 62) ≤ j ∧ j < 2 ^ 62 then some (rngD 0 j.toNat) else none
  | _ => none
theorem bk_rng1 {k : List Dt → MG ρ} (hh : Bk X (gB f fun x => gB (mO (rngO1 x)) k) S p Q) : Bk X (gB (mRng1 f) k) S p Q := bk_m hh
theorem bk_rng1V {k : List Dt → MG ρ} {r : List Dt → PM β} (hh : ∀ ds, Bk X (k ds) S (r ds) Q) : Bk X (gB (mO (rngO1 (.val a))) k) S (pB (pRng1 a) r) Q := by
  cases a with
  | int j =>
    unfold pRng1 rngO1
    simp only
    split
    · exact hh _
    · exact Bk.none
  | _ => unfold pRng1; exact Bk.none
@[irreducible] def pRng2 : Dt → Dt → PM (List Dt)
  | .int i, .int j => if -(2 ^ 62) ≤ i ∧ i < 2 ^ 62 ∧ -(2 ^ 62) ≤ j ∧ j < 2 ^ 62 then pR (rngD i (j - i).toNat) else none
  | _, _ => none
def rngO2 : OV → OV → Option (List Dt)
  | .val (.int i), .val (.int j) => if -(2 ^ 62) ≤ i ∧ i < 2 ^ 62 ∧ -(2 ^ 62) ≤ j ∧ j < 2 ^ 62 then some (rngD i (j - i).toNat) else none
  | _, _ => none
theorem bk_rng2 {k : List Dt → MG ρ} (hh : Bk X (gB f fun x => gB g fun y => gB (mO (rngO2 x y)) k) S p Q) : Bk X (gB (mRng2 f g) k) S p Q := by
  unfold mRng2
  refine bk_m (.eq ?_ hh)
  congr
  funext x
  exact gB_m _ _ _
theorem bk_rng2V {k : List Dt → MG ρ} {r : List Dt → PM β} (hh : ∀ ds, Bk X (k ds) S (r ds) Q) : Bk X (gB (mO (rngO2 (.val a) (.val b))) k) S (pB (pRng2 a b) r) Q := by
  cases a with
  | int i => cases b with
    | int j =>
      unfold pRng2 rngO2
      simp only
      split
      · exact hh _
      · exact Bk.none
    | _ => unfold pRng2; exact Bk.none
  | _ => unfold pRng2; exact Bk.none

/-! ### for -/
theorem bk_for {its : M (List Dt)} {g : Dt → Env → Option Env} (hh : Bk X (gB its fun ds => sSeq (loopS g body ds) rest) S p Qs) : Bk X (sSeq (sFor its g body) rest) S p Qs := .eq (seq_g _ _ _) hh
def pFor : List Dt → σ → (Dt → σ → PM σ) → PM σ
  | [], s, _ => pR s
  | d :: ds, s, f => pB (f d s) fun s' => pFor ds s' f
@[simp] theorem pFor_nil (s : σ) (f : Dt → σ → PM σ) : pFor [] s f = pR s := Eq.trans rfl rfl
theorem pFor_cons (d : Dt) (ds : List Dt) (s : σ) (f : Dt → σ → PM σ) : pFor (d :: ds) s f = pB (f d s) fun s' => pFor ds s' f := rfl
/-- a turn that goes on -/
def Qn (S : σ → List SS) : σ → Sr → Prop := fun s r => ∃ env', (r = .nx env' ∨ r = .ct env') ∧ EOk (S s) env'
theorem bk_nx {s : σ} {Sn : σ → List SS} (h : SLe S (Sn s)) : Bk X sNext S (pR s) (Qn Sn) := fun env he => ⟨_, rfl, env, .inl rfl, h.ok he⟩
theorem bk_ct {s : σ} {Sn : σ → List SS} (h : SLe S (Sn s)) : Bk X (sSeq sCt rest) S (pR s) (Qn Sn) := fun env he => ⟨_, rfl, env, .inr rfl, h.ok he⟩
theorem bk_loop {g : Dt → Env → Option Env} {Sn : σ → List SS} {fn : Dt → σ → PM σ} {r : σ → PM β} (hb : ∀ d s, Bk X (gTg g d body) (Sn s) (fn d s) (Qn Sn)) (hr : ∀ s, Bk X rest (Sn s) (r s) Qs) : ∀ (ds : List Dt) (s : σ), Bk X (sSeq (loopS g body ds) rest) (Sn s) (pB (pFor ds s fn) r) Qs
  | [], s => hr s
  | d :: ds, s => fun env he => by
    have q := hb d s env he
    rw [pFor_cons, pB_B]
    cases e : fn d s with
    | none => trivial
    | some z =>
      rw [e] at q
      cases z with
      | ok s' =>
        obtain ⟨r0, e1, env', h2, h3⟩ := q
        have ih := bk_loop hb hr ds s' env' h3
        have el : sSeq (loopS g body (d :: ds)) rest env = sSeq (loopS g body ds) rest env' := by
          unfold gTg at e1
          unfold sSeq
          rw [loopS]
          cases eg : g d env with
          | none => rw [eg] at e1; cases e1
          | some env1 =>
            rw [eg] at e1
            simp only [Option.bind_some] at e1
            rcases h2 with rfl | rfl <;> simp only [eg, Option.bind_some, e1]
        rw [el]
        exact ih
      | error ex =>
        obtain ⟨env', e1, e2⟩ := q
        refine ⟨env', ?_, e2⟩
        unfold gTg at e1
        unfold sSeq
        rw [loopS]
        cases eg : g d env with
        | none => rw [eg] at e1; cases e1
        | some env1 =>
          rw [eg] at e1
          simp only [Option.bind_some] at e1
          simp only [eg, Option.bind_some, e1]
          rfl
theorem bk_loopS {g : Dt → Env → Option Env} {Sn : σ → List SS} {fn : Dt → σ → PM σ} {r : σ → PM β} {ds : List Dt} (s : σ) (le : SLe S (Sn s)) (hb : ∀ d s, Bk X (gTg g d body) (Sn s) (fn d s) (Qn Sn)) (hr : ∀ s, Bk X rest (Sn s) (r s) Qs) : Bk X (sSeq (loopS g body ds) rest) S (pB (pFor ds s fn) r) Qs := .le le (bk_loop hb hr ds s)
/-- .. with ways out -/
inductive Lp (ρ σ : Type) where
  | go (s : σ)
  | bk (s : σ)
  | rt (b : ρ)
def pForL : List Dt → σ → (Dt → σ → PM (Lp γ σ)) → PM (Lp γ σ)
  | [], s, _ => pR (.go s)
  | d :: ds, s, f => pB (f d s) fun l => match l with
    | .go s' => pForL ds s' f
    | .bk s' => pR (.bk s')
    | .rt b => pR (.rt b)
@[simp] theorem pForL_nil (s : σ) (f : Dt → σ → PM (Lp γ σ)) : pForL [] s f = pR (.go s) := Eq.trans rfl rfl
theorem pForL_cons (d : Dt) (ds : List Dt) (s : σ) (f : Dt → σ → PM (Lp γ σ)) : pForL (d :: ds) s f = pB (f d s) fun l => match l with
    | .go s' => pForL ds s' f
    | .bk s' => pR (.bk s')
    | .rt b => pR (.rt b) := rfl
def pLp {β : Type} (l : Lp γ σ) (go : σ → PM β) (rt : γ → PM β) : PM β := match l with
  | .go s => go s
  | .bk s => go s
  | .rt b => rt b
@[simp] theorem pLp_go {β : Type} (s : σ) (go : σ → PM β) (rt : γ → PM β) : pLp (.go s) go rt = go s := Eq.trans rfl rfl
@[simp] theorem pLp_bk {β : Type} (s : σ) (go : σ → PM β) (rt : γ → PM β) : pLp (.bk s) go rt = go s := Eq.trans rfl rfl
@[simp] theorem pLp_rt {β : Type} (s : γ) (go : σ → PM β) (rt : γ → PM β) : pLp (.rt s) go rt = rt s := Eq.trans rfl rfl
def Ql (S : σ → List SS) (Qr : γ → Sr → Prop) : Lp γ σ → Sr → Prop := fun l r => match l with
  | .go s => ∃ env', (r = .nx env' ∨ r = .ct env') ∧ EOk (S s) env'
  | .bk s => ∃ env', r = .bk env' ∧ EOk (S s) env'
  | .rt b => Qr b r ∧ ∃ x env', r = .rt x env'
theorem bk_nxL {s : σ} {Sn : σ → List SS} {Qr : γ → Sr → Prop} (h : SLe S (Sn s)) : Bk X sNext S (pR (.go s)) (Ql Sn Qr) := fun env he => ⟨_, rfl, env, .inl rfl, h.ok he⟩
theorem bk_ctL {s : σ} {Sn : σ → List SS} {Qr : γ → Sr → Prop} (h : SLe S (Sn s)) : Bk X (sSeq sCt rest) S (pR (.go s)) (Ql Sn Qr) := fun env he => ⟨_, rfl, env, .inr rfl, h.ok he⟩
theorem bk_bkL {s : σ} {Sn : σ → List SS} {Qr : γ → Sr → Prop} (h : SLe S (Sn s)) : Bk X (sSeq sBrk rest) S (pR (.bk s)) (Ql Sn Qr) := fun env he => ⟨_, rfl, env, rfl, h.ok he⟩
theorem bk_rtL {Sn : σ → List SS} {v : γ → OV} {So : γ → List SS} {c : γ} (h : SLe S (So c)) (e : v c = x := by rfl) : Bk X (rtK x) S (pR (.rt c)) (Ql Sn (Qf v So)) := fun env he => ⟨_, rfl, ⟨env, h.ok he, .inl (by rw [e])⟩, _, _, rfl⟩
theorem bk_lloop {g : Dt → Env → Option Env} {Sn : σ → List SS} {Qr : γ → Sr → Prop} {fn : Dt → σ → PM (Lp γ σ)} {r : σ → PM β} {w : γ → β} (hb : ∀ d s, Bk X (gTg g d body) (Sn s) (fn d s) (Ql Sn Qr)) (hw : ∀ c x env, Qr c (.rt x env) → Qs (w c) (.rt x env)) (hr : ∀ s, Bk X rest (Sn s) (r s) Qs) :
    ∀ (ds : List Dt) (s : σ), Bk X (sSeq (loopS g body ds) rest) (Sn s) (pB (pForL ds s fn) fun l => pLp l r fun c => pR (w c)) Qs
  | [], s => hr s
  | d :: ds, s => fun env he => by
    have q := hb d s env he
    rw [pForL_cons, pB_B]
    have tg : ∀ env1, g d env = some env1 → gTg g d body env = body env1 := fun env1 e => by unfold gTg; rw [e]; rfl
    have tn : g d env = none → gTg g d body env = none := fun e => by unfold gTg; rw [e]; rfl
    have ls : ∀ env1, g d env = some env1 → sSeq (loopS g body (d :: ds)) rest env = sSeq (fun env1 => match body env1 with
        | some (.nx env2) => loopS g body ds env2
        | some (.ct env2) => loopS g body ds env2
        | some (.bk env2) => some (.nx env2)
        | some (.rt x env2) => some (.rt x env2)
        | some (.ex e env2) => some (.ex e env2)
        | none => none) rest env1 := fun env1 e => by
      unfold sSeq
      rw [loopS]
      simp only [e, Option.bind_some]
      try rfl
    cases e : fn d s with
    | none => trivial
    | some z =>
      rw [e] at q
      cases eg : g d env with
      | none =>
        rw [tn eg] at q
        cases z with
        | ok l => obtain ⟨_, h, _⟩ := q; cases h
        | error ex => obtain ⟨_, h, _⟩ := q; cases h
      | some env1 =>
        rw [tg env1 eg] at q
        rw [ls env1 eg]
        cases z with
        | ok l =>
          obtain ⟨r0, e1, h⟩ := q
          cases l with
          | go s' =>
            obtain ⟨env', h2, h3⟩ := h
            have ih := bk_lloop hb hw hr ds s' env' h3
            have el : sSeq (fun env1 => match body env1 with
                | some (.nx env2) => loopS g body ds env2
                | some (.ct env2) => loopS g body ds env2
                | some (.bk env2) => some (.nx env2)
                | some (.rt x env2) => some (.rt x env2)
                | some (.ex e env2) => some (.ex e env2)
                | none => none) rest env1 = sSeq (loopS g body ds) rest env' := by
              unfold sSeq
              simp only [e1]
              rcases h2 with rfl | rfl <;> rfl
            rw [el]
            exact ih
          | bk s' =>
            obtain ⟨env', rfl, h3⟩ := h
            have el : sSeq (fun env1 => match body env1 with
                | some (.nx env2) => loopS g body ds env2
                | some (.ct env2) => loopS g body ds env2
                | some (.bk env2) => some (.nx env2)
                | some (.rt x env2) => some (.rt x env2)
                | some (.ex e env2) => some (.ex e env2)
                | none => none) rest env1 = rest env' := by
              unfold sSeq
              simp only [e1]
            rw [el]
            exact hr s' env' h3
          | rt c =>
            obtain ⟨h1, x, env', rfl⟩ := h
            exact ⟨.rt x env', by unfold sSeq; simp only [e1], hw c x env' h1⟩
        | error ex =>
          obtain ⟨env', e1, e2⟩ := q
          exact ⟨env', by unfold sSeq; simp only [e1]; rfl, e2⟩
theorem bk_lloopS {g : Dt → Env → Option Env} {Sn : σ → List SS} {Qr : γ → Sr → Prop} {fn : Dt → σ → PM (Lp γ σ)} {r : σ → PM β} {w : γ → β} {ds : List Dt} (s : σ) (le : SLe S (Sn s)) (hb : ∀ d s, Bk X (gTg g d body) (Sn s) (fn d s) (Ql Sn Qr)) (hw : ∀ c x env, Qr c (.rt x env) → Qs (w c) (.rt x env)) (hr : ∀ s, Bk X rest (Sn s) (r s) Qs) :
    Bk X (sSeq (loopS g body ds) rest) S (pB (pForL ds s fn) fun l => pLp l r fun c => pR (w c)) Qs := .le le (bk_lloop hb hw hr ds s)
theorem qf_id {v : β → OV} {So : β → List SS} : ∀ c x env, Qf v So c (.rt x env) → Qf v So (id c) (.rt x env) := fun _ _ _ h => h
theorem ql_rt {Sn : σ → List SS} {Qr : γ → Sr → Prop} : ∀ (c : γ) x env, Qr c (.rt x env) → Ql Sn Qr (.rt c) (.rt x env) := fun _ x env h => ⟨h, x, env, rfl⟩
end
end DL

/-! the second level: comprehensions -/
namespace DL
open PySem PySem.Spec L2
section
variable {ρ α β γ σ : Type} [Res ρ] {X S S1 T : List SS} {d : MG ρ} {k : OV → MG ρ} {Q : β → ρ → Prop} {p : PM β} {f elt : M OV} {fb c : M Bool} {x y : OV} {a b : Dt} {g : Dt → Env → Option Env} {vs : List Nat}
def lcT (g : Dt → Env → Option Env) (c : M Bool) (elt : M OV) (d : Dt) : M (Option OV) := gTg g d (gB c fun b => if b = true then gB elt fun y => mR (some y) else mR none)
inductive OptR (R : Dt → OV → Prop) : Option Dt → Option OV → Prop
  | none : OptR R none none
  | some {d : Dt} {x : OV} : R d x → OptR R (some d) (some x)
inductive AllR (R : Dt → OV → Prop) : List Dt → List OV → Prop
  | nil : AllR R [] []
  | cons {d : Dt} {x : OV} {ds : List Dt} {xs : List OV} : R d x → AllR R ds xs → AllR R (d :: ds) (x :: xs)
def VS (d : Dt) (x : OV) : Prop := x = .val d
def VF (d : Dt) (x : OV) : Prop := x.frz = some d
theorem AllR.toVals {ds : List Dt} {xs : List OV} (h : AllR VS ds xs) : xs = ds.map .val := by
  induction h with
  | nil => rfl
  | cons h _ ih => rw [h, ih]; rfl
theorem AllR.toFrz {ds : List Dt} {xs : List OV} (h : AllR VF ds xs) : OV.frzL xs = some ds := by
  induction h with
  | nil => exact frzL_nil
  | cons h _ ih => exact frzL_cons h ih
theorem AllR.len {R : Dt → OV → Prop} {ds : List Dt} {xs : List OV} (h : AllR R ds xs) : xs.length = ds.length := by
  induction h with
  | nil => rfl
  | cons _ _ ih => simp [ih]
/-- one turn's end -/
def Qc (R : Dt → OV → Prop) (o : β → Option Dt) (st : β → σ) (Sw : σ → List SS) : β → Er (Option OV) → Prop := fun b r => ∃ z env', r = .ok z env' ∧ OptR R (o b) z ∧ EOk (Sw (st b)) env'
/-- an error's way is not told -/
def pNx {α : Type} (q : PM α) : PM α := match q with
  | some (.ok a) => pR a
  | _ => none
@[simp] theorem pNx_R {α : Type} (a : α) : pNx (pR a) = pR a := Eq.trans rfl rfl
def pGen (ds : List Dt) (s : σ) (f : Dt → σ → PM β) (o : β → Option Dt) (st : β → σ) : PM (List Dt × σ) := match ds with
  | [] => pR ([], s)
  | d :: ds => pB (pNx (f d s)) fun b => pB (pGen ds (st b) f o st) fun r => pR ((o b).toList ++ r.1, r.2)
def wipeOk (S : List SS) : List Nat → Prop
  | [] => True
  | i :: is => (S[i]? = some .any ∨ S[i]? = none) ∧ wipeOk S is
theorem EOk.wipe {env : Env} (h : EOk S env) : ∀ {vs : List Nat}, wipeOk S vs → EOk S (wipeE env vs)
  | [], _ => h
  | i :: is, w => by
    have q := EOk.wipe h w.2
    rw [wipeE]
    rcases w.1 with e | e
    · have z := q.set i (s := .any) (o := none) trivial
      have es : S.set i .any = S := by
        obtain ⟨hl, e'⟩ := List.getElem?_eq_some_iff.mp e
        rw [← e']
        exact List.set_getElem_self hl
      rwa [es] at z
    · have hl : (wipeE env is).length ≤ i := by
        rw [q.len]
        exact List.getElem?_eq_none_iff.mp e
      rw [List.set_eq_of_length_le hl]
      exact q
theorem EOk.restore {env0 : Env} : ∀ {vs : List Nat} {env : Env}, EOk S env → wipeOk S vs → EOk S (restoreE env0 vs env)
  | [], env, h, _ => h
  | i :: is, env, h, w => by
    rw [restoreE]
    refine EOk.restore ?_ w.2
    rcases w.1 with e | e
    · have z := h.set i (s := .any) (o := ((wipeE env0 is)[i]?).join) trivial
      have es : S.set i .any = S := by
        obtain ⟨hl, e'⟩ := List.getElem?_eq_some_iff.mp e
        rw [← e']
        exact List.set_getElem_self hl
      rwa [es] at z
    · have hl : env.length ≤ i := by
        rw [h.len]
        exact List.getElem?_eq_none_iff.mp e
      rw [List.set_eq_of_length_le hl]
      exact h
theorem sz_mono {m n : Nat} (h : sz n = true) (l : m ≤ n) : sz m = true := by
  unfold sz at h ⊢
  have := of_decide_eq_true h
  exact decide_eq_true (by omega)
theorem lc_run {R : Dt → OV → Prop} {o : β → Option Dt} {st : β → σ} {Sw : σ → List SS} {fn : Dt → σ → PM β} (hb : ∀ d s, Bk X (lcT g c elt d) (Sw s) (fn d s) (Qc R o st Sw)) (hw : ∀ s, wipeOk (Sw s) vs) :
    ∀ (ds : List Dt) (s : σ) (acc : List OV) (env : Env) (ys : List Dt) (s' : σ), EOk (Sw s) env → pGen ds s fn o st = pR (ys, s') → sz (acc.length + ys.length) = true → ∃ xs env', lcLoop vs g c elt ds acc env = some (acc ++ xs, env') ∧ AllR R ys xs ∧ EOk (Sw s') env'
  | [], s, acc, env, ys, s', he, e, hz => by
    rw [pGen, pR_inj] at e
    cases e
    exact ⟨[], env, by rw [lcLoop, List.append_nil], .nil, he⟩
  | d :: ds, s, acc, env, ys, s', he, e, hz => by
    have q := hb d s env he
    rw [pGen] at e
    cases e1 : fn d s with
    | none => rw [e1] at e; cases e
    | some z =>
      cases z with
      | error _ => rw [e1] at e; cases e
      | ok b0 =>
        rw [e1] at e q
        obtain ⟨r0, q1, z, env', rfl, hR, h3⟩ := q
        have e2 : (pB (pGen ds (st b0) fn o st) fun r => pR ((o b0).toList ++ r.1, r.2)) = pR (ys, s') := e
        cases e3 : pGen ds (st b0) fn o st with
        | none => rw [e3] at e2; cases e2
        | some z2 =>
          cases z2 with
          | error _ => rw [e3] at e2; cases e2
          | ok r =>
            rw [e3] at e2
            have e4 : pR ((o b0).toList ++ r.1, r.2) = pR (ys, s') := e2
            rw [pR_inj, Prod.mk.injEq] at e4
            obtain ⟨rfl, rfl⟩ := e4
            unfold lcT gTg at q1
            rw [lcLoop]
            cases eg : g d env with
            | none => rw [eg] at q1; cases q1
            | some env1 =>
              rw [eg] at q1
              simp only [Option.bind_some] at q1 ⊢
              unfold gB at q1
              cases ec : c env1 with
              | none => rw [ec] at q1; cases q1
              | some rc =>
                cases rc with
                | ex _ _ => rw [ec] at q1; cases q1
                | ok bb env2 =>
                  rw [ec] at q1
                  simp only at q1
                  cases bb with
                  | false =>
                    simp only [Bool.false_eq_true, if_false] at q1
                    obtain ⟨rfl, rfl⟩ : none = z ∧ env2 = env' := by
                      have := Option.some.inj q1
                      injection this with a1 a2
                      exact ⟨a1, a2⟩
                    generalize ho : o b0 = oo at *
                    cases hR
                    have hz' : sz (acc.length + r.1.length) = true := by simpa using hz
                    obtain ⟨xs, env3, f1, f2, f3⟩ := lc_run hb hw ds (st b0) acc (wipeE env2 vs) r.1 r.2 (h3.wipe (hw _)) e3 hz'
                    exact ⟨xs, env3, f1, by simpa using f2, f3⟩
                  | true =>
                    simp only [if_true] at q1
                    cases ee : elt env2 with
                    | none => rw [ee] at q1; cases q1
                    | some re =>
                      cases re with
                      | ex _ _ => rw [ee] at q1; cases q1
                      | ok y env3 =>
                        rw [ee] at q1
                        obtain ⟨rfl, rfl⟩ : some y = z ∧ env3 = env' := by
                          have := Option.some.inj q1
                          injection this with a1 a2
                          exact ⟨a1, a2⟩
                        generalize ho : o b0 = oo at *
                        cases hR with
                        | @some dd _ hR =>
                          have hz1 : sz (acc.length + 1) = true := sz_mono hz (by simp)
                          have hz' : sz ((acc ++ [y]).length + r.1.length) = true := by
                            simp only [Option.toList_some, List.length_append, List.length_singleton] at hz ⊢
                            rw [Nat.add_assoc]
                            exact hz
                          obtain ⟨xs, env4, f1, f2, f3⟩ := lc_run hb hw ds (st b0) (acc ++ [y]) (wipeE env3 vs) r.1 r.2 (h3.wipe (hw _)) e3 hz'
                          refine ⟨y :: xs, env4, ?_, .cons hR f2, f3⟩
                          simp only [ee, hz1, if_true]
                          rw [f1]
                          simp
def lcK (vs : List Nat) (g : Dt → Env → Option Env) (c : M Bool) (elt : M OV) (ds : List Dt) : M OV := fun env => match lcLoop vs g c elt ds [] (wipeE env vs) with
  | some (acc, env2) => if env2.length = env.length then some (.ok (.lst acc) (restoreE env vs env2)) else none
  | none => none
theorem bk_lc {its : M (List Dt)} (hh : Bk X (gB its fun ds => gB (lcK vs g c elt ds) k) S p Q) : Bk X (gB (mLc vs its g c elt) k) S p Q := bk_m hh
/-- .. and it is no longer than a list can be -/
def pSz {σ : Type} (q : PM (List Dt × σ)) : PM (List Dt × σ) := pB q fun r => if sz r.1.length = true then pR r else none
theorem pSz_some {q : PM (List Dt × σ)} {r : Except Exn (List Dt × σ)} (h : pSz q = some r) : (∃ e, r = .error e ∧ q = some (.error e)) ∨ ∃ b, r = .ok b ∧ q = pR b ∧ sz b.1.length = true := by
  unfold pSz at h
  cases q with
  | none => cases h
  | some z =>
    cases z with
    | error e => cases h; exact .inl ⟨e, rfl, rfl⟩
    | ok b =>
      change (if sz b.1.length = true then pR b else none) = some r at h
      split at h
      · cases h
        exact .inr ⟨b, rfl, rfl, by assumption⟩
      · cases h
theorem pGen_ok {fn : Dt → σ → PM β} {o : β → Option Dt} {st : β → σ} {e : Exn} : ∀ {ds : List Dt} {s : σ}, pGen ds s fn o st ≠ some (.error e)
  | [], s, h => by rw [pGen] at h; cases h
  | d :: ds, s, h => by
    rw [pGen] at h
    cases e1 : fn d s with
    | none => rw [e1] at h; cases h
    | some z =>
      cases z with
      | error _ => rw [e1] at h; cases h
      | ok b =>
        rw [e1] at h
        have h2 : (pB (pGen ds (st b) fn o st) fun r => pR ((o b).toList ++ r.1, r.2)) = some (.error e) := h
        cases e3 : pGen ds (st b) fn o st with
        | none => rw [e3] at h2; cases h2
        | some z =>
          cases z with
          | ok _ => rw [e3] at h2; cases h2
          | error e' =>
            rw [e3] at h2
            cases h2
            exact pGen_ok e3
theorem bk_lcG {R : Dt → OV → Prop} {o : β → Option Dt} {st : β → σ} {Sw : σ → List SS} {fn : Dt → σ → PM β} {ds : List Dt} {r : List Dt × σ → PM γ} {Q : γ → ρ → Prop} (s : σ) (le : SLe S (Sw s)) (hw : ∀ s, wipeOk (Sw s) vs) (hs : ∀ s s', (Sw s).length = (Sw s').length) (hb : ∀ d s, Bk X (lcT g c elt d) (Sw s) (fn d s) (Qc R o st Sw))
    (hk : ∀ ys xs s, AllR R ys xs → Bk X (k (.lst xs)) (Sw s) (r (ys, s)) Q) : Bk X (gB (lcK vs g c elt ds) k) S (pB (pSz (pGen ds s fn o st)) r) Q := fun env he => by
  have he := le.ok he
  cases e : pSz (pGen ds s fn o st) with
  | none => trivial
  | some z =>
    rcases pSz_some e with ⟨ex, rfl, e2⟩ | ⟨b, rfl, e2, hz⟩
    · exact absurd e2 pGen_ok
    · obtain ⟨xs, env', f1, f2, f3⟩ := lc_run hb hw ds s [] (wipeE env vs) b.1 b.2 (he.wipe (hw s)) e2 (by simpa using hz)
      have hl : env'.length = env.length := by
        rw [f3.len, he.len]
        exact hs _ _
      have e5 : gB (lcK vs g c elt ds) k env = k (.lst xs) (restoreE env vs env') := gB_ok (by
        unfold lcK
        rw [f1]
        simp [hl])
      have q := hk b.1 xs b.2 f2 _ (f3.restore (env0 := env) (hw _))
      show match r (b.1, b.2) with
        | Option.none => True
        | some (.ok b) => ∃ r, gB (lcK vs g c elt ds) k env = some r ∧ Q b r
        | some (.error e) => ∃ env', gB (lcK vs g c elt ds) k env = some (Res.ex e env') ∧ EOk X env'
      rw [e5]
      exact q
end
end DL

/-! the second level: comprehensions by kinds; two loops -/
namespace DL
open PySem PySem.Spec L2
section
variable {ρ α β γ σ : Type} [Res ρ] {X S S1 T : List SS} {d : MG ρ} {k : OV → MG ρ} {Q : γ → ρ → Prop} {p : PM β} {f elt : M OV} {fb c : M Bool} {x y : OV} {a b : Dt} {g g1 : Dt → Env → Option Env} {vs vs1 : List Nat} {R : Dt → OV → Prop}
theorem lcT_all {d : Dt} : lcT g (mR true) elt d = gTg g d (gB elt fun y => mR (some y)) := rfl
theorem bk_elV {c : β} {o : β → Option Dt} {st : β → σ} {Sw : σ → List SS} (h : SLe S (Sw (st c))) (e : o c = some a := by rfl) : Bk (ρ := Er (Option OV)) X (mR (some (.val a))) S (pR c) (Qc VS o st Sw) := fun env he => ⟨_, rfl, _, env, rfl, by rw [e]; exact .some rfl, h.ok he⟩
theorem bk_elF {c : β} {o : β → Option Dt} {st : β → σ} {Sw : σ → List SS} (hx : x.frz = some a) (h : SLe S (Sw (st c))) (e : o c = some a := by rfl) : Bk (ρ := Er (Option OV)) X (mR (some x)) S (pR c) (Qc VF o st Sw) := fun env he => ⟨_, rfl, _, env, rfl, by rw [e]; exact .some hx, h.ok he⟩
theorem bk_elN {c : β} {o : β → Option Dt} {st : β → σ} {Sw : σ → List SS} (h : SLe S (Sw (st c))) (e : o c = none := by rfl) : Bk (ρ := Er (Option OV)) X (mR none) S (pR c) (Qc R o st Sw) := fun env he => ⟨_, rfl, _, env, rfl, by rw [e]; exact .none, h.ok he⟩
def pMap (ds : List Dt) (f : Dt → PM Dt) : PM (List Dt) := pB (pSz (pGen ds () (fun d _ => f d) some fun _ => ())) fun r => pR r.1
def pFil (ds : List Dt) (f : Dt → PM (Option Dt)) : PM (List Dt) := pB (pSz (pGen ds () (fun d _ => f d) id fun _ => ())) fun r => pR r.1
def pMapS (ds : List Dt) (s : σ) (f : Dt → σ → PM (Dt × σ)) : PM (List Dt × σ) := pSz (pGen ds s f (fun b => some b.1) fun b => b.2)
def pFilS (ds : List Dt) (s : σ) (f : Dt → σ → PM (Option Dt × σ)) : PM (List Dt × σ) := pSz (pGen ds s f (fun b => b.1) fun b => b.2)
/-- .. and its value's relation -/
theorem bk_lcM {Sw : List SS} {fn : Dt → PM Dt} {ds : List Dt} {r : List Dt → PM γ} (le : SLe S Sw) (hw : wipeOk Sw vs) (hb : ∀ d, Bk X (gTg g d (gB elt fun y => mR (some y))) Sw (fn d) (Qc R some (fun _ => ()) fun _ => Sw))
    (hk : ∀ ys xs, AllR R ys xs → Bk X (k (.lst xs)) Sw (r ys) Q) : Bk X (gB (lcK vs g (mR true) elt ds) k) S (pB (pMap ds fn) r) Q := by
  unfold pMap
  rw [pB_B]
  exact bk_lcG (r := fun z => r z.1) (Sw := fun _ => Sw) () le (fun _ => hw) (fun _ _ => rfl) (fun d _ => hb d) fun ys xs s h => hk ys xs h
theorem bk_lcF {Sw : List SS} {fn : Dt → PM (Option Dt)} {ds : List Dt} {r : List Dt → PM γ} (le : SLe S Sw) (hw : wipeOk Sw vs) (hb : ∀ d, Bk X (gTg g d (gB c fun b => if b = true then gB elt fun y => mR (some y) else mR none)) Sw (fn d) (Qc R id (fun _ => ()) fun _ => Sw))
    (hk : ∀ ys xs, AllR R ys xs → Bk X (k (.lst xs)) Sw (r ys) Q) : Bk X (gB (lcK vs g c elt ds) k) S (pB (pFil ds fn) r) Q := by
  unfold pFil
  rw [pB_B]
  exact bk_lcG (r := fun z => r z.1) (Sw := fun _ => Sw) () le (fun _ => hw) (fun _ _ => rfl) (fun d _ => hb d) fun ys xs s h => hk ys xs h
theorem bk_lcMS {Sw : σ → List SS} {fn : Dt → σ → PM (Dt × σ)} {ds : List Dt} {r : List Dt × σ → PM γ} (s : σ) (le : SLe S (Sw s)) (hw : ∀ s, wipeOk (Sw s) vs) (hs : ∀ s s', (Sw s).length = (Sw s').length) (hb : ∀ d s, Bk X (gTg g d (gB elt fun y => mR (some y))) (Sw s) (fn d s) (Qc R (fun b => some b.1) (fun b => b.2) Sw))
    (hk : ∀ ys xs s, AllR R ys xs → Bk X (k (.lst xs)) (Sw s) (r (ys, s)) Q) : Bk X (gB (lcK vs g (mR true) elt ds) k) S (pB (pMapS ds s fn) r) Q :=
  bk_lcG s le hw hs hb hk
theorem bk_lcFS {Sw : σ → List SS} {fn : Dt → σ → PM (Option Dt × σ)} {ds : List Dt} {r : List Dt × σ → PM γ} (s : σ) (le : SLe S (Sw s)) (hw : ∀ s, wipeOk (Sw s) vs) (hs : ∀ s s', (Sw s).length = (Sw s').length) (hb : ∀ d s, Bk X (gTg g d (gB c fun b => if b = true then gB elt fun y => mR (some y) else mR none)) (Sw s) (fn d s) (Qc R (fun b => b.1) (fun b => b.2) Sw))
    (hk : ∀ ys xs s, AllR R ys xs → Bk X (k (.lst xs)) (Sw s) (r (ys, s)) Q) : Bk X (gB (lcK vs g c elt ds) k) S (pB (pFilS ds s fn) r) Q :=
  bk_lcG s le hw hs hb hk
/-! .. a list of data alone, or of what can be frozen -/
theorem hkV {Sw : List SS} {r : List Dt → PM γ} (h : ∀ ys, Bk X (k (.lst (ys.map .val))) Sw (r ys) Q) : ∀ ys xs, AllR VS ys xs → Bk X (k (.lst xs)) Sw (r ys) Q := fun ys xs e => by rw [e.toVals]; exact h ys
theorem hkF {Sw : List SS} {r : List Dt → PM γ} (h : ∀ ys (z : OV), z.frz = some (.list ys) → Bk X (k z) Sw (r ys) Q) : ∀ ys xs, AllR VF ys xs → Bk X (k (.lst xs)) Sw (r ys) Q := fun ys xs e => h ys _ (by rw [OV.frz, e.toFrz]; rfl)
theorem hkVS {Sw : σ → List SS} {r : List Dt × σ → PM γ} (h : ∀ ys s, Bk X (k (.lst (ys.map .val))) (Sw s) (r (ys, s)) Q) : ∀ ys xs s, AllR VS ys xs → Bk X (k (.lst xs)) (Sw s) (r (ys, s)) Q := fun ys xs s e => by rw [e.toVals]; exact h ys s
theorem hkFS {Sw : σ → List SS} {r : List Dt × σ → PM γ} (h : ∀ ys s (z : OV), z.frz = some (.list ys) → Bk X (k z) (Sw s) (r (ys, s)) Q) : ∀ ys xs s, AllR VF ys xs → Bk X (k (.lst xs)) (Sw s) (r (ys, s)) Q := fun ys xs s e => h ys s _ (by rw [OV.frz, e.toFrz]; rfl)

/-! ### two loops -/
theorem lcLoop_acc : ∀ (ds : List Dt) (acc0 : List OV) (env : Env) (r : List OV) (env' : Env), lcLoop vs g c elt ds acc0 env = some (r, env') → ∃ xs, r = acc0 ++ xs ∧ ∀ acc : List OV, sz (acc.length + xs.length) = true → lcLoop vs g c elt ds acc env = some (acc ++ xs, env')
  | [], acc0, env, r, env', h => by
    rw [lcLoop] at h
    cases h
    exact ⟨[], by simp, fun acc _ => by rw [lcLoop]; simp⟩
  | d :: ds, acc0, env, r, env', h => by
    rw [lcLoop] at h
    cases eg : g d env with
    | none => rw [eg] at h; cases h
    | some env1 =>
      rw [eg] at h
      simp only [Option.bind_some] at h
      cases ec : c env1 with
      | none => rw [ec] at h; cases h
      | some rc =>
        cases rc with
        | ex _ _ => rw [ec] at h; cases h
        | ok bb env2 =>
          rw [ec] at h
          cases bb with
          | false =>
            simp only at h
            obtain ⟨xs, rfl, k⟩ := lcLoop_acc ds acc0 _ r env' h
            refine ⟨xs, rfl, fun acc hz => ?_⟩
            rw [lcLoop, eg]
            simp only [Option.bind_some, ec]
            exact k acc hz
          | true =>
            simp only at h
            cases ee : elt env2 with
            | none => rw [ee] at h; cases h
            | some re =>
              cases re with
              | ex _ _ => rw [ee] at h; cases h
              | ok y env3 =>
                rw [ee] at h
                simp only at h
                split at h
                · obtain ⟨xs, rfl, k⟩ := lcLoop_acc ds _ _ r env' h
                  refine ⟨y :: xs, by simp, fun acc hz => ?_⟩
                  rw [lcLoop, eg]
                  simp only [Option.bind_some, ec, ee]
                  rw [List.length_cons] at hz
                  rw [if_pos (sz_mono hz (by omega)), k (acc ++ [y]) (sz_mono hz (by rw [List.length_append, List.length_singleton]; omega))]
                  simp
                · cases h
def lcI (vs1 : List Nat) (g1 : Dt → Env → Option Env) (c1 : M Bool) (elt : M OV) (ds1 : List Dt) : M (List OV) := fun env => match lcLoop vs1 g1 c1 elt ds1 [] (wipeE env vs1) with
  | some (xs, env') => some (.ok xs env')
  | none => none
def lcT2 (vs1 : List Nat) (g : Dt → Env → Option Env) (c : M Bool) (its1 : M (List Dt)) (g1 : Dt → Env → Option Env) (c1 : M Bool) (elt : M OV) (d : Dt) : M (List OV) := gTg g d (gB c fun b => if b = true then gB its1 fun ds1 => lcI vs1 g1 c1 elt ds1 else mR [])
def Qv2 (R : Dt → OV → Prop) (Sw : σ → List SS) : List Dt × σ → Er (List OV) → Prop := fun b r => ∃ z env', r = .ok z env' ∧ AllR R b.1 z ∧ EOk (Sw b.2) env'
def pGen2 (ds : List Dt) (s : σ) (f : Dt → σ → PM (List Dt × σ)) : PM (List Dt × σ) := match ds with
  | [] => pR ([], s)
  | d :: ds => pB (pNx (f d s)) fun b => pB (pGen2 ds b.2 f) fun r => pR (b.1 ++ r.1, r.2)
theorem AllR.append {R : Dt → OV → Prop} {ds es : List Dt} {xs ys : List OV} (h : AllR R ds xs) (h2 : AllR R es ys) : AllR R (ds ++ es) (xs ++ ys) := by
  induction h with
  | nil => exact h2
  | cons h _ ih => exact .cons h ih
theorem lc2_run {its1 : M (List Dt)} {c1 : M Bool} {Sw : σ → List SS} {fn : Dt → σ → PM (List Dt × σ)} (hb : ∀ d s, Bk X (lcT2 vs1 g c its1 g1 c1 elt d) (Sw s) (fn d s) (Qv2 R Sw)) (hw : ∀ s, wipeOk (Sw s) vs) :
    ∀ (ds : List Dt) (s : σ) (acc : List OV) (env : Env) (ys : List Dt) (s' : σ), EOk (Sw s) env → pGen2 ds s fn = pR (ys, s') → sz (acc.length + ys.length) = true → ∃ xs env', lcLoop2 vs vs1 g c its1 g1 c1 elt ds acc env = some (acc ++ xs, env') ∧ AllR R ys xs ∧ EOk (Sw s') env'
  | [], s, acc, env, ys, s', he, e, hz => by
    rw [pGen2, pR_inj] at e
    cases e
    exact ⟨[], env, by rw [lcLoop2, List.append_nil], .nil, he⟩
  | d :: ds, s, acc, env, ys, s', he, e, hz => by
    have q := hb d s env he
    rw [pGen2] at e
    cases e1 : fn d s with
    | none => rw [e1] at e; cases e
    | some z =>
      cases z with
      | error _ => rw [e1] at e; cases e
      | ok b0 =>
        rw [e1] at e q
        obtain ⟨r0, q1, z, env', rfl, hR, h3⟩ := q
        have e2 : (pB (pGen2 ds b0.2 fn) fun r => pR (b0.1 ++ r.1, r.2)) = pR (ys, s') := e
        cases e3 : pGen2 ds b0.2 fn with
        | none => rw [e3] at e2; cases e2
        | some z2 =>
          cases z2 with
          | error _ => rw [e3] at e2; cases e2
          | ok r =>
            rw [e3] at e2
            have e4 : pR (b0.1 ++ r.1, r.2) = pR (ys, s') := e2
            rw [pR_inj, Prod.mk.injEq] at e4
            obtain ⟨rfl, rfl⟩ := e4
            unfold lcT2 gTg at q1
            rw [lcLoop2]
            cases eg : g d env with
            | none => rw [eg] at q1; cases q1
            | some env1 =>
              rw [eg] at q1
              simp only [Option.bind_some] at q1 ⊢
              unfold gB at q1
              cases ec : c env1 with
              | none => rw [ec] at q1; cases q1
              | some rc =>
                cases rc with
                | ex _ _ => rw [ec] at q1; cases q1
                | ok bb env2 =>
                  rw [ec] at q1
                  simp only at q1
                  cases bb with
                  | false =>
                    simp only [Bool.false_eq_true, if_false] at q1
                    obtain ⟨rfl, rfl⟩ : [] = z ∧ env2 = env' := by
                      have := Option.some.inj q1
                      injection this with a1 a2
                      exact ⟨a1, a2⟩
                    generalize ho : b0.1 = oo at *
                    cases hR
                    have hz' : sz (acc.length + r.1.length) = true := by simpa using hz
                    obtain ⟨xs, env3, f1, f2, f3⟩ := lc2_run hb hw ds b0.2 acc (wipeE env2 vs) r.1 r.2 (h3.wipe (hw _)) e3 hz'
                    exact ⟨xs, env3, f1, by simpa using f2, f3⟩
                  | true =>
                    simp only [if_true] at q1
                    cases ei : its1 env2 with
                    | none => rw [ei] at q1; cases q1
                    | some ri =>
                      cases ri with
                      | ex _ _ => rw [ei] at q1; cases q1
                      | ok ds1 env3 =>
                        rw [ei] at q1
                        simp only at q1
                        unfold lcI at q1
                        cases el : lcLoop vs1 g1 c1 elt ds1 [] (wipeE env3 vs1) with
                        | none => rw [el] at q1; cases q1
                        | some rl =>
                          rw [el] at q1
                          obtain ⟨rfl, rfl⟩ : rl.1 = z ∧ rl.2 = env' := by
                            have := Option.some.inj q1
                            injection this with a1 a2
                            exact ⟨a1, a2⟩
                          obtain ⟨xs1, ex, kk⟩ := lcLoop_acc ds1 [] _ rl.1 rl.2 el
                          rw [List.nil_append] at ex
                          have hln := hR.len
                          rw [List.length_append] at hz
                          have f0 := kk acc (sz_mono hz (by rw [← ex, hln]; omega))
                          obtain ⟨xs, env5, f1, f2, f3⟩ := lc2_run hb hw ds b0.2 (acc ++ xs1) (wipeE rl.2 vs) r.1 r.2 (h3.wipe (hw _)) e3 (sz_mono hz (by rw [List.length_append, ← ex, hln]; omega))
                          refine ⟨xs1 ++ xs, env5, ?_, ?_, f3⟩
                          · simp only [ei, f0]
                            rw [f1]
                            simp
                          · rw [← ex]
                            exact hR.append f2
def lcK2 (vs vs1 : List Nat) (g : Dt → Env → Option Env) (c : M Bool) (its1 : M (List Dt)) (g1 : Dt → Env → Option Env) (c1 : M Bool) (elt : M OV) (ds : List Dt) : M OV := fun env => match lcLoop2 vs vs1 g c its1 g1 c1 elt ds [] (wipeE env vs) with
  | some (acc, env2) => if env2.length = env.length then some (.ok (.lst acc) (restoreE env vs env2)) else none
  | none => none
theorem bk_lc2 {its its1 : M (List Dt)} {c1 : M Bool} {q : PM γ} (hh : Bk X (gB its fun ds => gB (lcK2 vs vs1 g c its1 g1 c1 elt ds) k) S q Q) : Bk X (gB (mLc2 vs vs1 its g c its1 g1 c1 elt) k) S q Q := bk_m hh
theorem pGen2_ok {fn : Dt → σ → PM (List Dt × σ)} {e : Exn} : ∀ {ds : List Dt} {s : σ}, pGen2 ds s fn ≠ some (.error e)
  | [], s, h => by rw [pGen2] at h; cases h
  | d :: ds, s, h => by
    rw [pGen2] at h
    cases e1 : fn d s with
    | none => rw [e1] at h; cases h
    | some z =>
      cases z with
      | error _ => rw [e1] at h; cases h
      | ok b =>
        rw [e1] at h
        have h2 : (pB (pGen2 ds b.2 fn) fun r => pR (b.1 ++ r.1, r.2)) = some (.error e) := h
        cases e3 : pGen2 ds b.2 fn with
        | none => rw [e3] at h2; cases h2
        | some z =>
          cases z with
          | ok _ => rw [e3] at h2; cases h2
          | error e' =>
            rw [e3] at h2
            cases h2
            exact pGen2_ok e3
theorem bk_lc2G {its1 : M (List Dt)} {c1 : M Bool} {Sw : σ → List SS} {fn : Dt → σ → PM (List Dt × σ)} {ds : List Dt} {r : List Dt × σ → PM γ} (s : σ) (le : SLe S (Sw s)) (hw : ∀ s, wipeOk (Sw s) vs) (hs : ∀ s s', (Sw s).length = (Sw s').length) (hb : ∀ d s, Bk X (lcT2 vs1 g c its1 g1 c1 elt d) (Sw s) (fn d s) (Qv2 R Sw))
    (hk : ∀ ys xs s, AllR R ys xs → Bk X (k (.lst xs)) (Sw s) (r (ys, s)) Q) : Bk X (gB (lcK2 vs vs1 g c its1 g1 c1 elt ds) k) S (pB (pSz (pGen2 ds s fn)) r) Q := fun env he => by
  have he := le.ok he
  cases e : pSz (pGen2 ds s fn) with
  | none => trivial
  | some z =>
    rcases pSz_some e with ⟨ex, rfl, e2⟩ | ⟨b, rfl, e2, hz⟩
    · exact absurd e2 pGen2_ok
    · obtain ⟨xs, env', f1, f2, f3⟩ := lc2_run hb hw ds s [] (wipeE env vs) b.1 b.2 (he.wipe (hw s)) e2 (by simpa using hz)
      have hl : env'.length = env.length := by
        rw [f3.len, he.len]
        exact hs _ _
      have e5 : gB (lcK2 vs vs1 g c its1 g1 c1 elt ds) k env = k (.lst xs) (restoreE env vs env') := gB_ok (by
        unfold lcK2
        rw [f1]
        simp [hl])
      have q := hk b.1 xs b.2 f2 _ (f3.restore (env0 := env) (hw _))
      show match r (b.1, b.2) with
        | Option.none => True
        | some (.ok b) => ∃ r, gB (lcK2 vs vs1 g c its1 g1 c1 elt ds) k env = some r ∧ Q b r
        | some (.error e) => ∃ env', gB (lcK2 vs vs1 g c its1 g1 c1 elt ds) k env = some (Res.ex e env') ∧ EOk X env'
      rw [e5]
      exact q
/-- the inner loop, by itself -/
theorem bk_lcI {τ : Type} {Sw1 : τ → List SS} {Sw : σ → List SS} {fn : Dt → τ → PM β} {o : β → Option Dt} {st : β → τ} {w : τ → σ} {c1 : M Bool} {ds : List Dt} (s : τ) (le : SLe S (Sw1 s)) (hw : ∀ s, wipeOk (Sw1 s) vs1) (hb : ∀ d s, Bk X (lcT g1 c1 elt d) (Sw1 s) (fn d s) (Qc R o st Sw1))
    (hk : ∀ s, SLe (Sw1 s) (Sw (w s))) : Bk X (lcI vs1 g1 c1 elt ds) S (pB (pSz (pGen ds s fn o st)) fun z => pR (z.1, w z.2)) (Qv2 R Sw) := fun env he => by
  have he := le.ok he
  cases e : pSz (pGen ds s fn o st) with
  | none => trivial
  | some z =>
    rcases pSz_some e with ⟨ex, rfl, e2⟩ | ⟨b, rfl, e2, hz⟩
    · exact absurd e2 pGen_ok
    · obtain ⟨xs, env', f1, f2, f3⟩ := lc_run hb hw ds s [] (wipeE env vs1) b.1 b.2 (he.wipe (hw s)) e2 (by simpa using hz)
      refine ⟨.ok xs env', ?_, xs, env', rfl, f2, (hk _).ok f3⟩
      unfold lcI
      rw [f1]
      rfl
/-- .. that holds nothing -/
theorem bk_lcIN {Sw : σ → List SS} {s : σ} (h : SLe S (Sw s)) : Bk (ρ := Er (List OV)) X (mR []) S (pR ([], s)) (Qv2 R Sw) := fun env he => ⟨_, rfl, [], env, rfl, .nil, h.ok he⟩
def pMap2 (ds : List Dt) (f : Dt → PM (List Dt)) : PM (List Dt) := pB (pSz (pGen2 ds () fun d _ => pB (f d) fun ys => pR (ys, ()))) fun r => pR r.1
def pMap2S (ds : List Dt) (s : σ) (f : Dt → σ → PM (List Dt × σ)) : PM (List Dt × σ) := pSz (pGen2 ds s f)
theorem lcT2_all {its1 : M (List Dt)} {c1 : M Bool} {d : Dt} : lcT2 vs1 g (mR true) its1 g1 c1 elt d = gTg g d (gB its1 fun ds1 => lcI vs1 g1 c1 elt ds1) := rfl
/-- stateless turns of the outer loop -/
def Qu2 (R : Dt → OV → Prop) (Sw : List SS) : List Dt → Er (List OV) → Prop := fun b r => ∃ z env', r = .ok z env' ∧ AllR R b z ∧ EOk Sw env'
theorem Bk.unit {Sw : List SS} {m : M (List OV)} {q : PM (List Dt)} (h : Bk X m S q (Qu2 R Sw)) : Bk X m S (pB q fun ys => pR (ys, ())) (Qv2 R fun (_ : Unit) => Sw) := fun env he => by
  have a := h env he
  cases q with
  | none => trivial
  | some z => cases z <;> exact a
theorem bk_lc2M {its1 : M (List Dt)} {c1 : M Bool} {Sw : List SS} {fn : Dt → PM (List Dt)} {ds : List Dt} {r : List Dt → PM γ} (le : SLe S Sw) (hw : wipeOk Sw vs) (hb : ∀ d, Bk X (lcT2 vs1 g c its1 g1 c1 elt d) Sw (fn d) (Qu2 R Sw))
    (hk : ∀ ys xs, AllR R ys xs → Bk X (k (.lst xs)) Sw (r ys) Q) : Bk X (gB (lcK2 vs vs1 g c its1 g1 c1 elt ds) k) S (pB (pMap2 ds fn) r) Q := by
  unfold pMap2
  rw [pB_B]
  exact bk_lc2G (r := fun z => r z.1) (Sw := fun _ => Sw) () le (fun _ => hw) (fun _ _ => rfl) (fun d _ => (hb d).unit) fun ys xs s h => hk ys xs h
theorem bk_lcIM {Sw1 Sw : List SS} {fn : Dt → PM Dt} {ds : List Dt} (le : SLe S Sw1) (hw : wipeOk Sw1 vs1) (hb : ∀ d, Bk X (gTg g1 d (gB elt fun y => mR (some y))) Sw1 (fn d) (Qc R some (fun _ => ()) fun _ => Sw1)) (hk : SLe Sw1 Sw) : Bk X (lcI vs1 g1 (mR true) elt ds) S (pMap ds fn) (Qu2 R Sw) := by
  have q := bk_lcI (Sw1 := fun _ => Sw1) (Sw := fun (_ : Unit) => Sw) (w := id) (c1 := mR true) (ds := ds) () le (fun _ => hw) (fun d _ => hb d) fun _ => hk
  intro env he
  have a := q env he
  revert a
  unfold pMap
  generalize pSz (pGen ds () (fun d x => fn d) some fun x => ()) = qq
  intro a
  cases qq with
  | none => trivial
  | some z => cases z <;> exact a
theorem bk_lcIF {Sw1 Sw : List SS} {c1 : M Bool} {fn : Dt → PM (Option Dt)} {ds : List Dt} (le : SLe S Sw1) (hw : wipeOk Sw1 vs1) (hb : ∀ d, Bk X (gTg g1 d (gB c1 fun b => if b = true then gB elt fun y => mR (some y) else mR none)) Sw1 (fn d) (Qc R id (fun _ => ()) fun _ => Sw1)) (hk : SLe Sw1 Sw) : Bk X (lcI vs1 g1 c1 elt ds) S (pFil ds fn) (Qu2 R Sw) := by
  have q := bk_lcI (Sw1 := fun _ => Sw1) (Sw := fun (_ : Unit) => Sw) (w := id) (c1 := c1) (ds := ds) () le (fun _ => hw) (fun d _ => hb d) fun _ => hk
  intro env he
  have a := q env he
  revert a
  unfold pFil
  generalize pSz (pGen ds () (fun d x => fn d) id fun x => ()) = qq
  intro a
  cases qq with
  | none => trivial
  | some z => cases z <;> exact a
theorem bk_lcIN' {Sw : List SS} (h : SLe S Sw) : Bk (ρ := Er (List OV)) X (mR []) S (pR []) (Qu2 R Sw) := fun env he => ⟨_, rfl, [], env, rfl, .nil, h.ok he⟩
end
/-! ### what they make, when nothing fails -/
theorem pNx_pure {α : Type} {q : PM α} {a : α} (h : q = pR a) : pNx q = pR a := by rw [h]; rfl
theorem pGen_map {σ β : Type} {f : Dt → σ → PM β} {o : β → Option Dt} {st : β → σ} {s : σ} {h : Dt → β} : ∀ {ds : List Dt}, (∀ d ∈ ds, f d s = pR (h d) ∧ st (h d) = s) → pGen ds s f o st = pR (ds.flatMap fun d => (o (h d)).toList, s)
  | [], _ => rfl
  | d :: ds, hd => by
    obtain ⟨e1, e2⟩ := hd d List.mem_cons_self
    rw [pGen, e1, pNx_R, pB_R, e2, pGen_map fun x hx => hd x (List.mem_cons_of_mem _ hx)]
    rfl
theorem flat_map {h : Dt → Dt} : ∀ ds : List Dt, (ds.flatMap fun d => (some (h d)).toList) = ds.map h
  | [] => rfl
  | d :: ds => by rw [List.flatMap_cons, flat_map ds]; rfl
theorem flat_fil {h : Dt → Option Dt} : ∀ ds : List Dt, (ds.flatMap fun d => (h d).toList) = ds.filterMap h
  | [] => rfl
  | d :: ds => by
    rw [List.flatMap_cons, flat_fil ds, List.filterMap_cons]
    cases h d <;> rfl
theorem pMap_ok {ds : List Dt} {f : Dt → PM Dt} (h : Dt → Dt) (hd : ∀ d ∈ ds, f d = pR (h d)) (hz : ds.length ≤ 16777216) : pMap ds f = pR (ds.map h) := by
  unfold pMap
  rw [pGen_map (h := h) fun d x => ⟨hd d x, rfl⟩, flat_map]
  unfold pSz
  rw [pB_R, if_pos (by simp [sz, hz])]
  rfl
theorem pFil_ok {ds : List Dt} {f : Dt → PM (Option Dt)} (h : Dt → Option Dt) (hd : ∀ d ∈ ds, f d = pR (h d)) (hz : ds.length ≤ 16777216) : pFil ds f = pR (ds.filterMap h) := by
  unfold pFil
  rw [pGen_map (h := h) fun d x => ⟨hd d x, rfl⟩]
  show pB (pSz (pR ((ds.flatMap fun d => (h d).toList), ()))) _ = _
  rw [flat_fil]
  unfold pSz
  have := List.length_filterMap_le h ds
  rw [pB_R, if_pos (by simp [sz]; omega)]
  rfl
end DL

/-! the second level: more rules -/
namespace DL
open PySem PySem.Spec L2
section
variable {ρ α β γ σ : Type} [Res ρ] {X S S1 T : List SS} {d : MG ρ} {k : OV → MG ρ} {Q : β → ρ → Prop} {Qs : β → Sr → Prop} {p : PM β} {rest : MS} {f g h : M OV} {fb c : M Bool} {x y : OV} {a b : Dt}
theorem gB_id (f : M α) : gB (ρ := Er α) f mR = f := by
  funext env
  unfold gB mR
  rcases f env with _ | r
  · rfl
  · cases r <;> rfl
theorem bk_sub {f : M α} {Q : β → Er α → Prop} (hh : Bk X (gB f mR) S p Q) : Bk X f S p Q := .eq (gB_id f).symm hh
/-! comparisons as truths -/
def pC (op : Dt → Dt → Option OV) (a b : Dt) : PM Bool := pO ((op a b).bind bl?)
theorem bk_cmp {op : Dt → Dt → Option OV} {k : Bool → MG ρ} (hh : Bk X (gB f fun x => gB h fun y => gB (mO ((g2 op x y).bind bl?)) k) S p Q) : Bk X (gB (mBl (m2 op f h)) k) S p Q := by
  refine bk_bl (bk_2 (.eq ?_ hh))
  congr
  funext x
  congr
  funext y
  cases g2 op x y <;> rfl
theorem bk_cmpV {op : Dt → Dt → Option OV} {k : Bool → MG ρ} {r : Bool → PM β} (hx : x.frz = some a) (hy : y.frz = some b) (hh : ∀ c, Bk X (k c) S (r c) Q) : Bk X (gB (mO ((g2 op x y).bind bl?)) k) S (pB (pC op a b) r) Q := by
  rw [g2_frz hx hy]
  exact Bk.prim fun c e => bk_mO e (hh c)
def pIs (T : String) (d : Dt) : PM Bool := pO (isiD T d)
theorem bk_isi2 {T : String} {k : Bool → MG ρ} (hh : Bk X (gB f fun x => gB (mO (x.frz.bind (isiD T))) k) S p Q) : Bk X (gB (mBl (mIsi T f)) k) S p Q := by
  refine bk_bl (bk_m (.eq ?_ hh))
  congr
  funext x
  cases x.frz with
  | none => rfl
  | some d =>
    show gB (mO ((isiD T d).map oB)) _ = gB (mO (isiD T d)) _
    cases isiD T d <;> rfl
theorem bk_is2V {T : String} {k : Bool → MG ρ} {r : Bool → PM β} (hx : x.frz = some a) (hh : ∀ c, Bk X (k c) S (r c) Q) : Bk X (gB (mO (x.frz.bind (isiD T))) k) S (pB (pIs T a) r) Q := by
  rw [hx]
  exact Bk.prim fun c e => bk_mO e (hh c)
theorem bk_blB {k : Bool → MG ρ} {b : Bool} (hh : Bk X (k b) S p Q) : Bk X (gB (mO (bl? (.val (.bool b)))) k) S p Q := hh
/-! a place of an owned list -/
def setIxK (i : Nat) (y z : OV) (rest : MS) : MS := sSeq (fun env1 => match env1[i]?, z with
    | some (some (.lst xs)), .val (.int k) => match ixN xs.length k with
      | some j => some (.nx (env1.set i (some (.lst (xs.set j y)))))
      | none => none
    | _, _ => none) rest
def chkK {ρ : Type} (i : Nat) (k : MG ρ) : MG ρ := fun env => match env[i]? with
  | some (some (.lst _)) => k env
  | _ => none
theorem bk_chk (i : Nat) {ds : List Dt} (hh : Bk X d S p Q) (hi : S[i]? = some (.own ds) := by rfl) : Bk X (chkK i d) S p Q := Bk.to (fun env he => ⟨env, he, by unfold chkK; rw [own_at he hi]⟩) hh
theorem bk_setIx {i : Nat} {fi : M OV} (hh : Bk X (gB f fun y => chkK i (gB fi fun z => setIxK i y z rest)) S p Qs) : Bk X (sSeq (sSetIx i fi f) rest) S p Qs := .eq (by
  unfold sSetIx
  rw [seq_g]
  congr
  funext y env0
  unfold chkK sSeq
  rcases q : env0[i]? with _ | _ | x
  · simp only [q]
  · simp only [q]
  · cases x with
    | lst xs =>
      simp only [q]
      unfold sB gB
      cases fi env0 with
      | none => rfl
      | some r2 => cases r2 <;> rfl
    | _ => simp only [q]) hh
def pSetIx (ds : List Dt) (k d : Dt) : PM (List Dt) := match k with
  | .int j => pO ((ixN ds.length j).map fun n => ds.set n d)
  | _ => none
theorem pSetIx_i (ds : List Dt) (j : Int) (d : Dt) : pSetIx ds (.int j) d = pO ((ixN ds.length j).map fun n => ds.set n d) := rfl
theorem bk_setIxV (i : Nat) {ds : List Dt} {r : List Dt → PM β} (hh : ∀ c, Bk X rest (S.set i (.own c)) (r c) Qs) (hi : S[i]? = some (.own ds) := by rfl) : Bk X (setIxK i (.val a) (.val b) rest) S (pB (pSetIx ds b a) r) Qs := by
  cases b with
  | int j =>
    rw [pSetIx_i]
    refine Bk.prim fun c e => Bk.to (fun env he => ⟨env.set i (some (.lst (c.map .val))), he.set (s := .own c) i rfl, ?_⟩) (hh c)
    cases q : ixN ds.length j with
    | none => rw [q] at e; cases e
    | some n =>
      rw [q] at e
      cases e
      unfold setIxK sSeq
      simp only [own_at he hi, List.length_map, q, List.map_set]
  | _ => exact Bk.none
end

/-! comprehensions, their result's form told -/
section
variable {ρ α β γ σ : Type} [Res ρ] {X S S1 T : List SS} {d : MG ρ} {k : OV → MG ρ} {Q : γ → ρ → Prop} {p : PM β} {f elt : M OV} {fb c : M Bool} {x y : OV} {a b : Dt} {g g1 : Dt → Env → Option Env} {vs vs1 : List Nat}
theorem bk_lcM_V {Sw : List SS} {fn : Dt → PM Dt} {ds : List Dt} {r : List Dt → PM γ} (le : SLe S Sw) (hw : wipeOk Sw vs) (hb : ∀ d, Bk X (gTg g d (gB elt fun y => mR (some y))) Sw (fn d) (Qc VS some (fun _ => ()) fun _ => Sw)) (hk : ∀ ys : List Dt, Bk X (k (.lst (ys.map .val))) Sw (r ys) Q) : Bk X (gB (lcK vs g (mR true) elt ds) k) S (pB (pMap ds fn) r) Q := bk_lcM le hw hb (hkV hk)
theorem bk_lcM_F {Sw : List SS} {fn : Dt → PM Dt} {ds : List Dt} {r : List Dt → PM γ} (le : SLe S Sw) (hw : wipeOk Sw vs) (hb : ∀ d, Bk X (gTg g d (gB elt fun y => mR (some y))) Sw (fn d) (Qc VF some (fun _ => ()) fun _ => Sw)) (hk : ∀ ys (z : OV), z.frz = some (.list ys) → Bk X (k z) Sw (r ys) Q) : Bk X (gB (lcK vs g (mR true) elt ds) k) S (pB (pMap ds fn) r) Q := bk_lcM le hw hb (hkF hk)
theorem bk_lcF_V {Sw : List SS} {fn : Dt → PM (Option Dt)} {ds : List Dt} {r : List Dt → PM γ} (le : SLe S Sw) (hw : wipeOk Sw vs) (hb : ∀ d, Bk X (gTg g d (gB c fun b => if b = true then gB elt fun y => mR (some y) else mR none)) Sw (fn d) (Qc VS id (fun _ => ()) fun _ => Sw)) (hk : ∀ ys : List Dt, Bk X (k (.lst (ys.map .val))) Sw (r ys) Q) : Bk X (gB (lcK vs g c elt ds) k) S (pB (pFil ds fn) r) Q := bk_lcF le hw hb (hkV hk)
theorem bk_lcF_F {Sw : List SS} {fn : Dt → PM (Option Dt)} {ds : List Dt} {r : List Dt → PM γ} (le : SLe S Sw) (hw : wipeOk Sw vs) (hb : ∀ d, Bk X (gTg g d (gB c fun b => if b = true then gB elt fun y => mR (some y) else mR none)) Sw (fn d) (Qc VF id (fun _ => ()) fun _ => Sw)) (hk : ∀ ys (z : OV), z.frz = some (.list ys) → Bk X (k z) Sw (r ys) Q) : Bk X (gB (lcK vs g c elt ds) k) S (pB (pFil ds fn) r) Q := bk_lcF le hw hb (hkF hk)
theorem bk_lcMS_V {Sw : σ → List SS} {fn : Dt → σ → PM (Dt × σ)} {ds : List Dt} {r : List Dt × σ → PM γ} (s : σ) (le : SLe S (Sw s)) (hw : ∀ s, wipeOk (Sw s) vs) (hs : ∀ s s', (Sw s).length = (Sw s').length) (hb : ∀ d s, Bk X (gTg g d (gB elt fun y => mR (some y))) (Sw s) (fn d s) (Qc VS (fun b => some b.1) (fun b => b.2) Sw)) (hk : ∀ (ys : List Dt) s, Bk X (k (.lst (ys.map .val))) (Sw s) (r (ys, s)) Q) : Bk X (gB (lcK vs g (mR true) elt ds) k) S (pB (pMapS ds s fn) r) Q := bk_lcMS s le hw hs hb (hkVS hk)
theorem bk_lcMS_F {Sw : σ → List SS} {fn : Dt → σ → PM (Dt × σ)} {ds : List Dt} {r : List Dt × σ → PM γ} (s : σ) (le : SLe S (Sw s)) (hw : ∀ s, wipeOk (Sw s) vs) (hs : ∀ s s', (Sw s).length = (Sw s').length) (hb : ∀ d s, Bk X (gTg g d (gB elt fun y => mR (some y))) (Sw s) (fn d s) (Qc VF (fun b => some b.1) (fun b => b.2) Sw)) (hk : ∀ ys s (z : OV), z.frz = some (.list ys) → Bk X (k z) (Sw s) (r (ys, s)) Q) : Bk X (gB (lcK vs g (mR true) elt ds) k) S (pB (pMapS ds s fn) r) Q := bk_lcMS s le hw hs hb (hkFS hk)
theorem bk_lcFS_V {Sw : σ → List SS} {fn : Dt → σ → PM (Option Dt × σ)} {ds : List Dt} {r : List Dt × σ → PM γ} (s : σ) (le : SLe S (Sw s)) (hw : ∀ s, wipeOk (Sw s) vs) (hs : ∀ s s', (Sw s).length = (Sw s').length) (hb : ∀ d s, Bk X (gTg g d (gB c fun b => if b = true then gB elt fun y => mR (some y) else mR none)) (Sw s) (fn d s) (Qc VS (fun b => b.1) (fun b => b.2) Sw)) (hk : ∀ (ys : List Dt) s, Bk X (k (.lst (ys.map .val))) (Sw s) (r (ys, s)) Q) : Bk X (gB (lcK vs g c elt ds) k) S (pB (pFilS ds s fn) r) Q := bk_lcFS s le hw hs hb (hkVS hk)
theorem bk_lcFS_F {Sw : σ → List SS} {fn : Dt → σ → PM (Option Dt × σ)} {ds : List Dt} {r : List Dt × σ → PM γ} (s : σ) (le : SLe S (Sw s)) (hw : ∀ s, wipeOk (Sw s) vs) (hs : ∀ s s', (Sw s).length = (Sw s').length) (hb : ∀ d s, Bk X (gTg g d (gB c fun b => if b = true then gB elt fun y => mR (some y) else mR none)) (Sw s) (fn d s) (Qc VF (fun b => b.1) (fun b => b.2) Sw)) (hk : ∀ ys s (z : OV), z.frz = some (.list ys) → Bk X (k z) (Sw s) (r (ys, s)) Q) : Bk X (gB (lcK vs g c elt ds) k) S (pB (pFilS ds s fn) r) Q := bk_lcFS s le hw hs hb (hkFS hk)
theorem bk_lc2M_V {its1 : M (List Dt)} {c1 : M Bool} {Sw : List SS} {fn : Dt → PM (List Dt)} {ds : List Dt} {r : List Dt → PM γ} (le : SLe S Sw) (hw : wipeOk Sw vs) (hb : ∀ d, Bk X (lcT2 vs1 g c its1 g1 c1 elt d) Sw (fn d) (Qu2 VS Sw)) (hk : ∀ ys : List Dt, Bk X (k (.lst (ys.map .val))) Sw (r ys) Q) : Bk X (gB (lcK2 vs vs1 g c its1 g1 c1 elt ds) k) S (pB (pMap2 ds fn) r) Q := bk_lc2M le hw hb (hkV hk)
end
end DL

/-! the second level: len(set), t[::-1], insert, +=, lists of lists, a part borrowed -/
namespace DL
open PySem PySem.Spec L2
section
variable {ρ α β γ : Type} [Res ρ] {X S T : List SS} {p : PM β} {Q : β → ρ → Prop} {Qs : β → Sr → Prop} {f g : M OV} {k : OV → MG ρ} {a b c : Dt} {x y : OV} {rest A B : MS}
theorem bk_lenS (hh : Bk X (gB f fun x => gB (mO (x.frz.bind lenSetD)) k) S p Q) : Bk X (gB (mLenSet f) k) S p Q := bk_m hh
def slRevO (x k : OV) : Option OV := match x.frz, k with
  | some (.tuple (d :: ds)), .val (.int (-1)) => some (.val (.tuple (d :: ds).reverse))
  | _, _ => none
def slRevD : Dt → Dt → Option Dt
  | .tuple (d :: ds), .int (-1) => some (.tuple (d :: ds).reverse)
  | _, _ => none
theorem bk_slRev (hh : Bk X (gB f fun x => gB g fun y => gB (mO (slRevO x y)) k) S p Q) : Bk X (gB (mSlRev f g) k) S p Q := bk_m (.eq (by
  congr 1
  funext x
  rw [gB_m]
  rfl) hh)
theorem bk_slRevV {r : Dt → PM β} (hx : x.frz = some a) (hh : ∀ c, Bk X (k (.val c)) S (r c) Q) : Bk X (gB (mO (slRevO x (.val b))) k) S (pB (pO (slRevD a b)) r) Q := Bk.prim fun c e => by
  have e2 : slRevO x (.val b) = some (.val c) := by
    unfold slRevD at e
    split at e
    · cases e
      unfold slRevO
      rw [hx]
      rfl
    · cases e
  exact .eq (gB_mO e2) (hh c)
/-! insert -/
def insK (i : Nat) (z y : OV) : M OV := fun env1 => match env1[i]?, z with
    | some (some (.lst xs)), .val (.int j) => if 0 ≤ j ∧ j < 2 ^ 63 ∧ sz (xs.length + 1) = true then some (.ok (.val .none) (env1.set i (some (.lst (xs.take j.toNat ++ [y] ++ xs.drop j.toNat))))) else none
    | _, _ => none
theorem bk_ins (i : Nat) {ds : List Dt} (hh : Bk X (gB g fun z => gB f fun y => gB (insK i z y) k) S p Q) (hi : S[i]? = some (.own ds) := by rfl) : Bk X (gB (mIns i g f) k) S p Q := Bk.to (fun env he => ⟨env, he, by
  have e : mIns i g f env = mB g (fun z => mB f (insK i z)) env := by
    unfold mIns
    rw [own_at he hi]
    rfl
  have e3 : gB (mIns i g f) k env = gB (mB g (fun z => mB f (insK i z))) k env := by
    unfold gB
    rw [e]
  rw [e3, gB_m]
  congr 2
  funext z
  rw [gB_m]⟩) hh
def pIns (ds : List Dt) (z d : Dt) : PM (List Dt) := match z with
  | .int j => if 0 ≤ j ∧ j < 2 ^ 63 ∧ sz (ds.length + 1) = true then pR (ds.take j.toNat ++ [d] ++ ds.drop j.toNat) else none
  | _ => none
theorem bk_insV (i : Nat) {ds : List Dt} {r : List Dt → PM β} (hh : ∀ c, Bk X (k (.val .none)) (S.set i (.own c)) (r c) Q) (hi : S[i]? = some (.own ds) := by rfl) : Bk X (gB (insK i (.val b) (.val a)) k) S (pB (pIns ds b a) r) Q := by
  cases b with
  | int j =>
    unfold pIns
    dsimp only
    split
    · rename_i z
      refine Bk.to (fun env he => ⟨env.set i (some (.lst ((ds.take j.toNat ++ [a] ++ ds.drop j.toNat).map .val))), he.set (s := .own _) i rfl, gB_ok ?_⟩) (hh (ds.take j.toNat ++ [a] ++ ds.drop j.toNat))
      unfold insK
      rw [own_at he hi]
      simp only [List.length_map, z, and_self, if_true]
      simp [List.map_take, List.map_drop]
    · exact Bk.none
  | _ => exact Bk.none
/-! lists of lists -/
theorem own2_at {env : Env} {i : Nat} {dss : List (List Dt)} (he : EOk S env) (hi : S[i]? = some (.own2 dss)) : env[i]? = some (some (oLL dss)) := by
  obtain ⟨o, e, rfl⟩ := he.get hi
  exact e
theorem bk_vO2 (i : Nat) {dss : List (List Dt)} (h : Bk X (k (.val (.list (dss.map .list)))) (S.set i (.dat (.list (dss.map .list)))) p Q) (hi : S[i]? = some (.own2 dss) := by rfl) : Bk X (gB (mV i) k) S p Q := Bk.to (fun env he => by
  obtain ⟨o, e1, rfl⟩ := he.get hi
  refine ⟨env.set i (some (.val (.list (dss.map .list)))), he.set i ⟨_, rfl, frz_val _⟩, gB_ok ?_⟩
  have e := frz_LL dss
  unfold oLL at e e1
  unfold mV
  rw [e1]
  simp only [e]) h
theorem bk_setO2 {i : Nat} {dss : List (List Dt)} (hh : Bk X rest (S.set i (.own2 dss)) p Qs) (hl : Nat.ble (i + 1) S.length = true := by rfl) : Bk X (setK i (oLL dss) rest) S p Qs :=
  Bk.to (fun env he => ⟨env.set i (some (oLL dss)), he.set (s := .own2 dss) i rfl, setK_to (by rw [he.len]; exact Nat.le_of_ble_eq_true hl)⟩) hh
/-- a list of new lists -/
def VL (d : Dt) (x : OV) : Prop := ∃ ds : List Dt, d = .list ds ∧ x = .lst (ds.map .val)
def unL : Dt → List Dt
  | .list ds => ds
  | _ => []
theorem AllR.toLL {ds : List Dt} {xs : List OV} (h : AllR VL ds xs) : OV.lst xs = oLL (ds.map unL) := by
  unfold oLL
  congr 1
  induction h with
  | nil => rfl
  | cons h _ ih =>
    obtain ⟨es, rfl, rfl⟩ := h
    rw [ih] <;> rfl
theorem hkL {Sw : List SS} {r : List Dt → PM γ} {Q : γ → ρ → Prop} (h : ∀ ys : List Dt, Bk X (k (oLL (ys.map unL))) Sw (r ys) Q) : ∀ ys xs, AllR VL ys xs → Bk X (k (.lst xs)) Sw (r ys) Q := fun ys xs e => by rw [e.toLL]; exact h ys
end
end DL

/-! the second level: a part of a list of lists, borrowed -/
namespace DL
open PySem PySem.Spec L2
section
variable {ρ α β γ : Type} [Res ρ] {X S T : List SS} {p : PM β} {Q : β → ρ → Prop} {Qs : β → Sr → Prop} {f g : M OV} {k : OV → MG ρ} {a b c : Dt} {x y : OV} {rest A B s : MS}
def borM (i j : Nat) (s : MS) (z : OV) : MS := fun env1 => match z with
    | .val (.int k) => match bor0 i k env1 with
      | some (n, xs, y) => if j < env1.length then (match s ((env1.set i none).set j (some y)) with
        | some (.nx e2) => (unbor i j n xs e2).map .nx
        | some (.bk e2) => (unbor i j n xs e2).map .bk
        | some (.ct e2) => (unbor i j n xs e2).map .ct
        | some (.rt x e2) => some (.rt x e2)
        | some (.ex x e2) => some (.ex x e2)
        | none => none) else none
      | none => none
    | _ => none
theorem bk_bor (i j : Nat) {dss : List (List Dt)} (hh : Bk X (gB f fun z => sSeq (borM i j s z) rest) S p Qs) (hi : S[i]? = some (.own2 dss) := by rfl) : Bk X (sSeq (sBor i j f s) rest) S p Qs := Bk.to (fun env he => ⟨env, he, by
  have e : sBor i j f s env = sB f (borM i j s) env := by
    unfold sBor
    rw [own2_at he hi]
    rfl
  have e3 : sSeq (sBor i j f s) rest env = sSeq (sB f (borM i j s)) rest env := by
    unfold sSeq
    rw [e]
  rw [e3, seq_g]⟩) hh
def pIx2 (dss : List (List Dt)) : Dt → PM (Nat × List Dt)
  | .int k => pO ((ixN dss.length k).bind fun n => (dss[n]?).map fun ds => (n, ds))
  | _ => none
theorem bk_borV (i j : Nat) {dss : List (List Dt)} {pb : List Dt → PM γ} {o : γ → List Dt} {Sj : γ → List SS} {r : Nat → γ → PM β} (hb : ∀ ds, Bk X s ((S.set i .any).set j (.own ds)) (pb ds) (Qj Sj))
    (ho : ∀ c, (Sj c)[j]? = some (.own (o c))) (hk : ∀ n c, Bk X rest (((Sj c).set j .any).set i (.own2 (dss.set n (o c)))) (r n c) Qs) (hi : S[i]? = some (.own2 dss) := by rfl) (hl : Nat.ble (j + 1) S.length = true := by rfl) :
    Bk X (sSeq (borM i j s (.val b)) rest) S (pB (pIx2 dss b) fun nd => pB (pb nd.2) fun c => r nd.1 c) Qs := by
  cases b with
  | int kk =>
    refine Bk.prim fun nd e => fun env he => ?_
    obtain ⟨n, ds⟩ := nd
    cases q1 : ixN dss.length kk with
    | none => rw [q1] at e; cases e
    | some n' =>
      rw [q1] at e
      simp only [Option.bind_some, Option.map_eq_some_iff, Prod.mk.injEq] at e
      obtain ⟨ds', q2, rfl, rfl⟩ := e
      have e0 := own2_at he hi
      have eb : bor0 i kk env = some (n', (dss.map fun ds => OV.lst (ds.map .val)), .lst (ds'.map .val)) := by
        unfold bor0
        rw [e0]
        unfold oLL
        simp only [List.length_map, q1, List.getElem?_map, q2, Option.map_some]
      have hjl : j < env.length := by
        rw [he.len]
        exact Nat.le_of_ble_eq_true hl
      have he2 : EOk ((S.set i .any).set j (.own ds')) ((env.set i none).set j (some (.lst (ds'.map .val)))) := (he.set (s := .any) (o := none) i trivial).set (s := .own ds') j rfl
      have h := hb ds' _ he2
      have run : borM i j s (.val (.int kk)) env = (match s ((env.set i none).set j (some (.lst (ds'.map .val)))) with
        | some (.nx e2) => (unbor i j n' (dss.map fun ds => OV.lst (ds.map .val)) e2).map .nx
        | some (.bk e2) => (unbor i j n' (dss.map fun ds => OV.lst (ds.map .val)) e2).map .bk
        | some (.ct e2) => (unbor i j n' (dss.map fun ds => OV.lst (ds.map .val)) e2).map .ct
        | some (.rt x e2) => some (.rt x e2)
        | some (.ex x e2) => some (.ex x e2)
        | none => none) := by
        unfold borM
        simp only [eb, hjl, if_true]
      show match pB (pb ds') fun c => r n' c with
        | Option.none => True
        | some (.ok b) => ∃ r, sSeq (borM i j s (.val (.int kk))) rest env = some r ∧ Qs b r
        | some (.error e) => ∃ env', sSeq (borM i j s (.val (.int kk))) rest env = some (Res.ex e env') ∧ EOk X env'
      cases q3 : pb ds' with
      | none => trivial
      | some z =>
        rw [q3] at h
        cases z with
        | error e =>
          obtain ⟨env', e1, e2⟩ := h
          refine ⟨env', ?_, e2⟩
          unfold sSeq
          rw [run, e1]
          rfl
        | ok c =>
          obtain ⟨_, e1, env', rfl, e2⟩ := h
          have hoc := own_at e2 (ho c)
          have eu : unbor i j n' (dss.map fun ds => OV.lst (ds.map .val)) env' = some ((env'.set j none).set i (some (oLL (dss.set n' (o c))))) := by
            unfold unbor
            rw [hoc]
            unfold oLL
            simp only [List.map_set]
          have e : sSeq (borM i j s (.val (.int kk))) rest env = rest ((env'.set j none).set i (some (oLL (dss.set n' (o c))))) := by
            unfold sSeq
            rw [run, e1]
            simp only [eu, Option.map_some]
          have b := hk n' c _ ((e2.set (s := .any) (o := none) j trivial).set (s := .own2 (dss.set n' (o c))) i rfl)
          show match r n' c with
            | Option.none => True
            | some (.ok b) => ∃ r, sSeq (borM i j s (.val (.int kk))) rest env = some r ∧ Qs b r
            | some (.error e) => ∃ env', sSeq (borM i j s (.val (.int kk))) rest env = some (Res.ex e env') ∧ EOk X env'
          rw [e]
          exact b
  | _ => exact Bk.none
end
end DL
namespace DL
open PySem PySem.Spec L2
section
variable {ρ α β γ σ : Type} [Res ρ] {X S T : List SS} {p : PM β} {Q : γ → ρ → Prop} {k : OV → MG ρ} {a : Dt} {vs : List Nat} {g : Dt → Env → Option Env} {elt : M OV}
/-- the slots told anew -/
theorem bk_S {d : MG ρ} {q : PM γ} (hh : Bk X d T q Q) (e : S = T := by rfl) : Bk X d S q Q := e ▸ hh
theorem bk_elL {c : β} {es : List Dt} {o : β → Option Dt} {st : β → σ} {Sw : σ → List SS} (h : SLe S (Sw (st c))) (e : o c = some (.list es) := by rfl) : Bk (ρ := Er (Option OV)) X (mR (some (.lst (es.map .val)))) S (pR c) (Qc VL o st Sw) := fun env he => ⟨_, rfl, _, env, rfl, by rw [e]; exact .some ⟨es, rfl, rfl⟩, h.ok he⟩
theorem bk_lcM_L {Sw : List SS} {fn : Dt → PM Dt} {ds : List Dt} {r : List Dt → PM γ} (le : SLe S Sw) (hw : wipeOk Sw vs) (hb : ∀ d, Bk X (gTg g d (gB elt fun y => mR (some y))) Sw (fn d) (Qc VL some (fun _ => ()) fun _ => Sw)) (hk : ∀ ys : List Dt, Bk X (k (oLL (ys.map unL))) Sw (r ys) Q) : Bk X (gB (lcK vs g (mR true) elt ds) k) S (pB (pMap ds fn) r) Q := bk_lcM le hw hb (hkL hk)
end
end DL

/-! second level: enumerate, zip, list(range), texts, list * int -/
namespace DL
open PySem PySem.Spec L2
section
variable {ρ α β γ σ : Type} [Res ρ] {X S T : List SS} {p : PM β} {Q : β → ρ → Prop} {k : OV → MG ρ} {kd : List Dt → MG ρ} {a b : Dt} {f g : M OV} {x y : OV}
def pEnum : Dt → PM (List Dt)
  | .list ds => pR (enumD ds)
  | _ => none
theorem bk_enum (hh : Bk X (gB f fun x => gB (mO (enumO x)) kd) S p Q) : Bk X (gB (mEnum f) kd) S p Q := bk_m hh
theorem bk_enumX {r : List Dt → PM β} (hx : x.frz = some a) (hh : ∀ ds, Bk X (kd ds) S (r ds) Q) : Bk X (gB (mO (enumO x)) kd) S (pB (pEnum a) r) Q := by
  unfold enumO
  rw [hx]
  cases a with
  | list ds => exact hh _
  | _ => exact Bk.none
def pZip : Dt → Dt → PM (List Dt)
  | .list as, .list bs => pR (zipD as bs)
  | .tuple as, .tuple bs => pR (zipD as bs)
  | _, _ => none
theorem bk_zip (hh : Bk X (gB f fun x => gB g fun y => gB (mO (zipO x y)) kd) S p Q) : Bk X (gB (mZip f g) kd) S p Q := by
  unfold mZip
  refine bk_m (.eq ?_ hh)
  congr
  funext x
  exact gB_m _ _ _
theorem bk_zipX {r : List Dt → PM β} (hx : x.frz = some a) (hy : y.frz = some b) (hh : ∀ ds, Bk X (kd ds) S (r ds) Q) : Bk X (gB (mO (zipO x y)) kd) S (pB (pZip a b) r) Q := by
  unfold zipO
  rw [hx, hy]
  cases a with
  | list as => cases b with
    | list bs => exact hh _
    | _ => exact Bk.none
  | tuple as => cases b with
    | tuple bs => exact hh _
    | _ => exact Bk.none
  | _ => exact Bk.none
@[irreducible] def pLRg : Dt → PM (List Dt)
  | .int j => if -(2 ^ 62) ≤ j ∧ j < 16777216 then pR (lRgD 0 j) else none
  | _ => none
theorem pLRg_ok (n : Nat) (h : n ≤ 1000000) : pLRg (.int n) = pR ((List.range n).map fun (i : Nat) => .int i) := by
  unfold pLRg
  simp only
  rw [if_pos (by omega)]
  simp [lRgD]
theorem bk_lRg (hh : Bk X (gB f fun x => gB (mO (lRgO1 x)) k) S p Q) : Bk X (gB (mLRg1 f) k) S p Q := bk_m hh
theorem bk_lRgV {r : List Dt → PM β} (hh : ∀ ds : List Dt, Bk X (k (.lst (ds.map .val))) S (r ds) Q) : Bk X (gB (mO (lRgO1 (.val a))) k) S (pB (pLRg a) r) Q := by
  cases a with
  | int j =>
    unfold pLRg lRgO1
    simp only
    split
    · exact hh _
    · exact Bk.none
  | _ => unfold pLRg; exact Bk.none
theorem bk_join {s : Str} (hh : Bk X (gB f fun x => gB (mO (x.frz.bind (joinD (.str s)))) k) S p Q) : Bk X (gB (mJoin s f) k) S p Q := bk_m hh
/-! f-strings -/
def pFmt : Dt → PM Str
  | .str y => if decide (y.length ≤ sizeLine) = true then pR y else none
  | .int i => if decide (i.natAbs.log2 < 1920) = true then pR (txI i) else none
  | _ => none
def pCat (acc y : Str) : PM Str := if decide ((acc ++ y).length ≤ sizeLine) = true then pR (acc ++ y) else none
section
variable {ks : Str → MG ρ} {acc : Str} {fs : List (M OV)}
theorem bk_jd (hh : Bk X (gB (mJs fs Str.empty) fun s => k (.val (.str s))) S p Q) : Bk X (gB (mJoined fs) k) S p Q := bk_m hh
theorem bk_jsE (hh : Bk X (ks acc) S p Q) : Bk X (gB (mJs [] acc) ks) S p Q := hh
theorem jsK_cat {s : Str} {r : Str → PM β} (hh : ∀ c, Bk X (gB (mJs fs c) ks) S (r c) Q) : Bk X (gB (jsK acc (mJs fs) (.val (.str s))) ks) S (pB (pCat acc s) r) Q := by
  unfold pCat
  split
  · rename_i h
    refine .eq ?_ (hh (acc ++ s))
    funext env
    unfold jsK gB
    simp only [h, if_true]
  · exact Bk.none
theorem bk_jsC {s : Str} {r : Str → PM β} (hh : ∀ c, Bk X (gB (mJs fs c) ks) S (r c) Q) : Bk X (gB (mJs (mC (.str s) :: fs) acc) ks) S (pB (pCat acc s) r) Q := by
  unfold mJs
  exact bk_m (jsK_cat hh)
theorem bk_jsF (hh : Bk X (gB f fun x => gB (mO (fmtO x)) fun z => gB (jsK acc (mJs fs) z) ks) S p Q) : Bk X (gB (mJs (mFmt f :: fs) acc) ks) S p Q := by
  unfold mJs
  refine bk_m (bk_m hh)
theorem bk_jsFV {r : Str → PM β} (hh : ∀ c, Bk X (gB (mJs fs c) ks) S (r c) Q) : Bk X (gB (mO (fmtO (.val a))) fun z => gB (jsK acc (mJs fs) z) ks) S (pB (pFmt a) fun y => pB (pCat acc y) r) Q := by
  cases a with
  | str y =>
    unfold pFmt fmtO
    simp only
    split
    · exact jsK_cat hh
    · exact Bk.none
  | int i =>
    unfold pFmt fmtO
    simp only
    split
    · exact jsK_cat hh
    · exact Bk.none
  | _ => exact Bk.none
end
/-! list * int -/
def pRepL (ds : List Dt) : Dt → PM (List Dt)
  | .int k => if repLOk ds k = true then pR (List.replicate k.toNat ds).flatten else none
  | _ => none
theorem bk_repL (hh : Bk X (gB f fun x => gB g fun y => gB (mO (repO x y)) k) S p Q) : Bk X (gB (mRepL f g) k) S p Q := by
  unfold mRepL
  refine bk_m (.eq ?_ hh)
  congr
  funext x
  exact gB_m _ _ _
theorem bk_repLV {ds : List Dt} {r : List Dt → PM β} (hh : ∀ c : List Dt, Bk X (k (.lst (c.map .val))) S (r c) Q) : Bk X (gB (mO (repO (.lst (ds.map .val)) (.val b))) k) S (pB (pRepL ds b) r) Q := by
  cases b with
  | int j =>
    unfold pRepL repO
    simp only [vals?_map, Option.bind_some]
    split
    · exact hh _
    · exact Bk.none
  | _ => exact Bk.none
/-! xs.extend(e) -/
def extK (i : Nat) (y : OV) : M OV := fun env1 => match env1[i]? with
    | some (some (.lst xs)) => match itemsO y with
      | some ys => if sz (xs.length + ys.length) = true then some (.ok (.val .none) (env1.set i (some (.lst (xs ++ ys))))) else none
      | none => none
    | _ => none
theorem bk_ext (i : Nat) {ds : List Dt} (hh : Bk X (gB f fun y => gB (extK i y) k) S p Q) (hi : S[i]? = some (.own ds) := by rfl) : Bk X (gB (mExt i f) k) S p Q := Bk.to (fun env he => ⟨env, he, by
  have e : mExt i f env = mB f (extK i) env := by
    unfold mExt
    rw [own_at he hi]
    rfl
  rw [← gB_m]
  unfold gB
  rw [e]⟩) hh
def pExt (ds es : List Dt) : PM (List Dt) := if sz (ds.length + es.length) = true then pR (ds ++ es) else none
theorem ext_own (i : Nat) {ds es : List Dt} {y : OV} {r : List Dt → PM β} (ey : itemsO y = some (es.map .val)) (hh : ∀ c, Bk X (k (.val .none)) (S.set i (.own c)) (r c) Q) (hi : S[i]? = some (.own ds)) : Bk X (gB (extK i y) k) S (pB (pExt ds es) r) Q := by
  unfold pExt
  split
  · rename_i z
    refine Bk.to (fun env he => ⟨env.set i (some (.lst ((ds ++ es).map .val))), he.set (s := .own (ds ++ es)) i rfl, gB_ok ?_⟩) (hh (ds ++ es))
    unfold extK
    rw [own_at he hi]
    simp [ey, z]
  · exact Bk.none
theorem bk_extL (i : Nat) {ds es : List Dt} {r : List Dt → PM β} (hh : ∀ c, Bk X (k (.val .none)) (S.set i (.own c)) (r c) Q) (hi : S[i]? = some (.own ds) := by rfl) : Bk X (gB (extK i (.lst (es.map .val))) k) S (pB (pExt ds es) r) Q := ext_own i rfl hh hi
def pItL : Dt → PM (List Dt)
  | .list ds => pR ds
  | _ => none
theorem bk_extV (i : Nat) {ds : List Dt} {r : List Dt → List Dt → PM β} (hh : ∀ es c, Bk X (k (.val .none)) (S.set i (.own c)) (r es c) Q) (hi : S[i]? = some (.own ds) := by rfl) : Bk X (gB (extK i (.val a)) k) S (pB (pItL a) fun es => pB (pExt ds es) (r es)) Q := by
  cases a with
  | list es => exact ext_own i rfl (hh es) hi
  | _ => exact Bk.none
end
end DL

/-! words for the plain laws over the second level -/
namespace DL
open PySem PySem.Spec L2
/-! ### primitives on data whose form is known -/
@[simp] theorem pIs_bool_NoneType  : pIs "bool" .none = pR false := rfl
@[simp] theorem pIsi_bool_NoneType  : pIsi "bool" .none = pR (.bool false) := rfl
@[simp] theorem pIs_bool_bool (b : Bool) : pIs "bool" (.bool b) = pR true := rfl
@[simp] theorem pIsi_bool_bool (b : Bool) : pIsi "bool" (.bool b) = pR (.bool true) := rfl
@[simp] theorem pIs_bool_int (i : Int) : pIs "bool" (.int i) = pR false := rfl
@[simp] theorem pIsi_bool_int (i : Int) : pIsi "bool" (.int i) = pR (.bool false) := rfl
@[simp] theorem pIs_bool_str (s : Str) : pIs "bool" (.str s) = pR false := rfl
@[simp] theorem pIsi_bool_str (s : Str) : pIsi "bool" (.str s) = pR (.bool false) := rfl
@[simp] theorem pIs_bool_list (xs : List Dt) : pIs "bool" (.list xs) = pR false := rfl
@[simp] theorem pIsi_bool_list (xs : List Dt) : pIsi "bool" (.list xs) = pR (.bool false) := rfl
@[simp] theorem pIs_bool_tuple (xs : List Dt) : pIs "bool" (.tuple xs) = pR false := rfl
@[simp] theorem pIsi_bool_tuple (xs : List Dt) : pIsi "bool" (.tuple xs) = pR (.bool false) := rfl
@[simp] theorem pIs_int_NoneType  : pIs "int" .none = pR false := rfl
@[simp] theorem pIsi_int_NoneType  : pIsi "int" .none = pR (.bool false) := rfl
@[simp] theorem pIs_int_bool (b : Bool) : pIs "int" (.bool b) = pR true := rfl
@[simp] theorem pIsi_int_bool (b : Bool) : pIsi "int" (.bool b) = pR (.bool true) := rfl
@[simp] theorem pIs_int_int (i : Int) : pIs "int" (.int i) = pR true := rfl
@[simp] theorem pIsi_int_int (i : Int) : pIsi "int" (.int i) = pR (.bool true) := rfl
@[simp] theorem pIs_int_str (s : Str) : pIs "int" (.str s) = pR false := rfl
@[simp] theorem pIsi_int_str (s : Str) : pIsi "int" (.str s) = pR (.bool false) := rfl
@[simp] theorem pIs_int_list (xs : List Dt) : pIs "int" (.list xs) = pR false := rfl
@[simp] theorem pIsi_int_list (xs : List Dt) : pIsi "int" (.list xs) = pR (.bool false) := rfl
@[simp] theorem pIs_int_tuple (xs : List Dt) : pIs "int" (.tuple xs) = pR false := rfl
@[simp] theorem pIsi_int_tuple (xs : List Dt) : pIsi "int" (.tuple xs) = pR (.bool false) := rfl
@[simp] theorem pIs_str_NoneType  : pIs "str" .none = pR false := rfl
@[simp] theorem pIsi_str_NoneType  : pIsi "str" .none = pR (.bool false) := rfl
@[simp] theorem pIs_str_bool (b : Bool) : pIs "str" (.bool b) = pR false := rfl
@[simp] theorem pIsi_str_bool (b : Bool) : pIsi "str" (.bool b) = pR (.bool false) := rfl
@[simp] theorem pIs_str_int (i : Int) : pIs "str" (.int i) = pR false := rfl
@[simp] theorem pIsi_str_int (i : Int) : pIsi "str" (.int i) = pR (.bool false) := rfl
@[simp] theorem pIs_str_str (s : Str) : pIs "str" (.str s) = pR true := rfl
@[simp] theorem pIsi_str_str (s : Str) : pIsi "str" (.str s) = pR (.bool true) := rfl
@[simp] theorem pIs_str_list (xs : List Dt) : pIs "str" (.list xs) = pR false := rfl
@[simp] theorem pIsi_str_list (xs : List Dt) : pIsi "str" (.list xs) = pR (.bool false) := rfl
@[simp] theorem pIs_str_tuple (xs : List Dt) : pIs "str" (.tuple xs) = pR false := rfl
@[simp] theorem pIsi_str_tuple (xs : List Dt) : pIsi "str" (.tuple xs) = pR (.bool false) := rfl
@[simp] theorem pIs_list_NoneType  : pIs "list" .none = pR false := rfl
@[simp] theorem pIsi_list_NoneType  : pIsi "list" .none = pR (.bool false) := rfl
@[simp] theorem pIs_list_bool (b : Bool) : pIs "list" (.bool b) = pR false := rfl
@[simp] theorem pIsi_list_bool (b : Bool) : pIsi "list" (.bool b) = pR (.bool false) := rfl
@[simp] theorem pIs_list_int (i : Int) : pIs "list" (.int i) = pR false := rfl
@[simp] theorem pIsi_list_int (i : Int) : pIsi "list" (.int i) = pR (.bool false) := rfl
@[simp] theorem pIs_list_str (s : Str) : pIs "list" (.str s) = pR false := rfl
@[simp] theorem pIsi_list_str (s : Str) : pIsi "list" (.str s) = pR (.bool false) := rfl
@[simp] theorem pIs_list_list (xs : List Dt) : pIs "list" (.list xs) = pR true := rfl
@[simp] theorem pIsi_list_list (xs : List Dt) : pIsi "list" (.list xs) = pR (.bool true) := rfl
@[simp] theorem pIs_list_tuple (xs : List Dt) : pIs "list" (.tuple xs) = pR false := rfl
@[simp] theorem pIsi_list_tuple (xs : List Dt) : pIsi "list" (.tuple xs) = pR (.bool false) := rfl
@[simp] theorem pIs_tuple_NoneType  : pIs "tuple" .none = pR false := rfl
@[simp] theorem pIsi_tuple_NoneType  : pIsi "tuple" .none = pR (.bool false) := rfl
@[simp] theorem pIs_tuple_bool (b : Bool) : pIs "tuple" (.bool b) = pR false := rfl
@[simp] theorem pIsi_tuple_bool (b : Bool) : pIsi "tuple" (.bool b) = pR (.bool false) := rfl
@[simp] theorem pIs_tuple_int (i : Int) : pIs "tuple" (.int i) = pR false := rfl
@[simp] theorem pIsi_tuple_int (i : Int) : pIsi "tuple" (.int i) = pR (.bool false) := rfl
@[simp] theorem pIs_tuple_str (s : Str) : pIs "tuple" (.str s) = pR false := rfl
@[simp] theorem pIsi_tuple_str (s : Str) : pIsi "tuple" (.str s) = pR (.bool false) := rfl
@[simp] theorem pIs_tuple_list (xs : List Dt) : pIs "tuple" (.list xs) = pR false := rfl
@[simp] theorem pIsi_tuple_list (xs : List Dt) : pIsi "tuple" (.list xs) = pR (.bool false) := rfl
@[simp] theorem pIs_tuple_tuple (xs : List Dt) : pIs "tuple" (.tuple xs) = pR true := rfl
@[simp] theorem pIsi_tuple_tuple (xs : List Dt) : pIsi "tuple" (.tuple xs) = pR (.bool true) := rfl
@[simp] theorem pC_lt (a b : Int) : pC ltI (.int a) (.int b) = pR (decide (a < b)) := rfl
@[simp] theorem pV_lt (a b : Int) : pV (ltI (.int a) (.int b)) = pR (.bool (decide (a < b))) := rfl
@[simp] theorem pC_le (a b : Int) : pC leI (.int a) (.int b) = pR (decide (a ≤ b)) := rfl
@[simp] theorem pV_le (a b : Int) : pV (leI (.int a) (.int b)) = pR (.bool (decide (a ≤ b))) := rfl
@[simp] theorem pC_gt (a b : Int) : pC gtI (.int a) (.int b) = pR (decide (b < a)) := rfl
@[simp] theorem pV_gt (a b : Int) : pV (gtI (.int a) (.int b)) = pR (.bool (decide (b < a))) := rfl
@[simp] theorem pC_ge (a b : Int) : pC geI (.int a) (.int b) = pR (decide (b ≤ a)) := rfl
@[simp] theorem pV_ge (a b : Int) : pV (geI (.int a) (.int b)) = pR (.bool (decide (b ≤ a))) := rfl
@[simp] theorem pV_sub (a b : Int) : pV (subI (.int a) (.int b)) = pR (.int (a - b)) := rfl
@[simp] theorem pV_addi (a b : Int) : pV (addD (.int a) (.int b)) = pR (.int (a + b)) := rfl
@[simp] theorem pF_addi (a b : Int) : pF (addD (.int a) (.int b)) = pR (.int (a + b)) := by simp [addD]
@[simp] theorem pV_inti (a : Int) : pV (intD [.int a]) = pR (.int a) := rfl
@[simp] theorem pV_absi (a : Int) : pV (absD [.int a]) = pR (.int (if a < 0 then -a else a)) := rfl
@[simp] theorem pV_mini (a b : Int) : pV (min2D [.int a, .int b]) = pR (.int (if b < a then b else a)) := rfl
@[simp] theorem pV_maxi (a b : Int) : pV (max2D [.int a, .int b]) = pR (.int (if b > a then b else a)) := rfl
@[simp] theorem pV_lenl (ds : List Dt) : pV (lenD [.list ds]) = pR (.int ds.length) := rfl
@[simp] theorem pV_lent (ds : List Dt) : pV (lenD [.tuple ds]) = pR (.int ds.length) := rfl
@[simp] theorem pV_tupl (ds : List Dt) : pV (tupleD [.list ds]) = pR (.tuple ds) := rfl
@[simp] theorem pV_tupt (ds : List Dt) : pV (tupleD [.tuple ds]) = pR (.tuple ds) := rfl
@[simp] theorem pL_lstl (ds : List Dt) : pL (listD [.list ds]) = pR ds := by simp [listD]
@[simp] theorem pL_lstt (ds : List Dt) : pL (listD [.tuple ds]) = pR ds := by simp [listD]
theorem pV_mod (a b : Int) (h : 0 < b) : pV (modI (.int a) (.int b)) = pR (.int (a % b)) := by simp [gI, h]
theorem pV_div (a b : Int) (h : 0 < b) (h2 : b < 1073741824) : pV (divI (.int a) (.int b)) = pR (.int (a / b)) := by simp [gI, divC, h, h2]
theorem pV_mul (a b : Int) (h : mulC a b = true) : pV (mulI (.int a) (.int b)) = pR (.int (a * b)) := by simp [gI, h]
theorem pV_addt (xs ys : List Dt) (h : xs.length + ys.length ≤ 16777216) : pV (addD (.tuple xs) (.tuple ys)) = pR (.tuple (xs ++ ys)) := by simp [addD, sz, h]
theorem pF_addt (xs ys : List Dt) (h : xs.length + ys.length ≤ 16777216) : pF (addD (.tuple xs) (.tuple ys)) = pR (.tuple (xs ++ ys)) := by simp [addD, sz, h]
theorem pF_addl (xs ys : List Dt) (h : xs.length + ys.length ≤ 16777216) : pF (addD (.list xs) (.list ys)) = pR (.list (xs ++ ys)) := by
  show pF (if sz (xs.length + ys.length) = true then some (.lst ((xs ++ ys).map .val)) else none) = _
  rw [if_pos (by simp [sz, h])]
  exact pF_lst _
theorem pL_addl (xs ys : List Dt) (h : xs.length + ys.length ≤ 16777216) : pL (addD (.list xs) (.list ys)) = pR (xs ++ ys) := by
  show pL (if sz (xs.length + ys.length) = true then some (.lst ((xs ++ ys).map .val)) else none) = _
  rw [if_pos (by simp [sz, h])]
  exact pL_lst _
/-! equality -/
def low (d : Dt) : Prop := d.depth ≤ 60
theorem lowD_l {x y : Dt} (h : x.depth ≤ 60) : lowD x y = true := by simp [lowD]; omega
theorem lowD_r {x y : Dt} (h : y.depth ≤ 60) : lowD x y = true := by simp [lowD]; omega
theorem pC_eq {x y : Dt} (h : x.depth ≤ 60 ∨ y.depth ≤ 60) : pC eqD x y = pR (PyData.eqv x y) := by
  have : lowD x y = true := h.elim lowD_l lowD_r
  simp [pC, eqD, this, oB, bl?]
theorem pC_ne {x y : Dt} (h : x.depth ≤ 60 ∨ y.depth ≤ 60) : pC neD x y = pR (!PyData.eqv x y) := by
  have : lowD x y = true := h.elim lowD_l lowD_r
  simp [pC, neD, this, oB, bl?]
theorem pV_eq {x y : Dt} (h : x.depth ≤ 60 ∨ y.depth ≤ 60) : pV (eqD x y) = pR (.bool (PyData.eqv x y)) := by
  have : lowD x y = true := h.elim lowD_l lowD_r
  simp [eqD, this]
theorem pV_ne {x y : Dt} (h : x.depth ≤ 60 ∨ y.depth ≤ 60) : pV (neD x y) = pR (.bool (!PyData.eqv x y)) := by
  have : lowD x y = true := h.elim lowD_l lowD_r
  simp [neD, this]
@[simp] theorem pC_eqi (x : Dt) (i : Int) : pC eqD x (.int i) = pR (PyData.eqv x (.int i)) := pC_eq (.inr (by simp [PyData.depth]))
@[simp] theorem pC_eqs (x : Dt) (s : Str) : pC eqD x (.str s) = pR (PyData.eqv x (.str s)) := pC_eq (.inr (by simp [PyData.depth]))
@[simp] theorem pC_nei (x : Dt) (i : Int) : pC neD x (.int i) = pR (!PyData.eqv x (.int i)) := pC_ne (.inr (by simp [PyData.depth]))
@[simp] theorem pC_nes (x : Dt) (s : Str) : pC neD x (.str s) = pR (!PyData.eqv x (.str s)) := pC_ne (.inr (by simp [PyData.depth]))
@[simp] theorem pV_eqi (x : Dt) (i : Int) : pV (eqD x (.int i)) = pR (.bool (PyData.eqv x (.int i))) := pV_eq (.inr (by simp [PyData.depth]))
@[simp] theorem pV_eqs (x : Dt) (s : Str) : pV (eqD x (.str s)) = pR (.bool (PyData.eqv x (.str s))) := pV_eq (.inr (by simp [PyData.depth]))
@[simp] theorem pV_nei (x : Dt) (i : Int) : pV (neD x (.int i)) = pR (.bool (!PyData.eqv x (.int i))) := pV_ne (.inr (by simp [PyData.depth]))
@[simp] theorem pV_nes (x : Dt) (s : Str) : pV (neD x (.str s)) = pR (.bool (!PyData.eqv x (.str s))) := pV_ne (.inr (by simp [PyData.depth]))
@[simp] theorem eqv_ii (a b : Int) : PyData.eqv (.int a) (.int b) = decide (a = b) := by simp [PyData.eqv, Bool.beq_eq_decide_eq]
@[simp] theorem eqv_ss (a b : Str) : PyData.eqv (.str a) (.str b) = (a == b) := by simp [PyData.eqv]
@[simp] theorem eqv_bb (a b : Bool) : PyData.eqv (.bool a) (.bool b) = (a == b) := by simp [PyData.eqv]
@[simp] theorem eqv_tt (a b : List Dt) : PyData.eqv (.tuple a) (.tuple b) = PyData.eqvAll a b := by simp [PyData.eqv]
@[simp] theorem eqv_ll (a b : List Dt) : PyData.eqv (.list a) (.list b) = PyData.eqvAll a b := by simp [PyData.eqv]
@[simp] theorem eqvA_nn : PyData.eqvAll [] [] = true := by simp [PyData.eqvAll]
@[simp] theorem eqvA_nc (x : Dt) (xs : List Dt) : PyData.eqvAll [] (x :: xs) = false := by simp [PyData.eqvAll]
@[simp] theorem eqvA_cn (x : Dt) (xs : List Dt) : PyData.eqvAll (x :: xs) [] = false := by simp [PyData.eqvAll]
@[simp] theorem eqvA_cc (x y : Dt) (xs ys : List Dt) : PyData.eqvAll (x :: xs) (y :: ys) = (PyData.eqv x y && PyData.eqvAll xs ys) := by simp [PyData.eqvAll]
@[simp] theorem dep_i (i : Int) : (PyData.int i).depth = 0 := by simp [PyData.depth]
@[simp] theorem dep_s (i : Str) : (PyData.str i).depth = 0 := by simp [PyData.depth]
@[simp] theorem dep_b (i : Bool) : (PyData.bool i).depth = 0 := by simp [PyData.depth]
@[simp] theorem dep_n : PyData.none.depth = 0 := by simp [PyData.depth]
/-! places -/
@[simp] theorem pV_ix0l (a : Dt) (r : List Dt) : pV (ixD (.list (a :: r)) (.int 0)) = pR a := by simp [ixD, atI, ixN]
@[simp] theorem pV_ix0 (a : Dt) (r : List Dt) : pV (ixD (.tuple (a :: r)) (.int 0)) = pR a := by simp [ixD, atI, ixN]
@[simp] theorem pV_ix1 (a b : Dt) (r : List Dt) : pV (ixD (.tuple (a :: b :: r)) (.int 1)) = pR b := by
  have : (1 : Int) < r.length + 1 + 1 := by omega
  simp [ixD, atI, ixN, this]
@[simp] theorem pV_ix2 (a b c : Dt) (r : List Dt) : pV (ixD (.tuple (a :: b :: c :: r)) (.int 2)) = pR c := by
  have : (2 : Int) < r.length + 1 + 1 + 1 := by omega
  simp [ixD, atI, ixN, this]
@[simp] theorem pV_ix3 (a b c e : Dt) (r : List Dt) : pV (ixD (.tuple (a :: b :: c :: e :: r)) (.int 3)) = pR e := by
  have : (3 : Int) < r.length + 1 + 1 + 1 + 1 := by omega
  simp [ixD, atI, ixN, this]
@[simp] theorem pV_ix1l (a b : Dt) (r : List Dt) : pV (ixD (.list (a :: b :: r)) (.int 1)) = pR b := by
  have : (1 : Int) < r.length + 1 + 1 := by omega
  simp [ixD, atI, ixN, this]
@[simp] theorem pV_ix2l (a b c : Dt) (r : List Dt) : pV (ixD (.list (a :: b :: c :: r)) (.int 2)) = pR c := by
  have : (2 : Int) < r.length + 1 + 1 + 1 := by omega
  simp [ixD, atI, ixN, this]
@[simp] theorem pV_ix3l (a b c e : Dt) (r : List Dt) : pV (ixD (.list (a :: b :: c :: e :: r)) (.int 3)) = pR e := by
  have : (3 : Int) < r.length + 1 + 1 + 1 + 1 := by omega
  simp [ixD, atI, ixN, this]
theorem atI_nat {α : Type} {ds : List α} {n : Nat} (hn : n < ds.length) : atI ds (n : Int) = some ds[n] := by
  simp [atI, ixN, hn]
theorem pV_ixl {ds : List Dt} {n : Nat} (hn : n < ds.length) : pV (ixD (.list ds) (.int n)) = pR ds[n] := by simp [ixD, atI_nat hn]
theorem pV_ixt {ds : List Dt} {n : Nat} (hn : n < ds.length) : pV (ixD (.tuple ds) (.int n)) = pR ds[n] := by simp [ixD, atI_nat hn]
theorem pV_ixlI {ds : List Dt} {i : Int} (h0 : 0 ≤ i) (h1 : i < ds.length) : pV (ixD (.list ds) (.int i)) = pR (ds[i.toNat]'(by omega)) := by
  obtain ⟨n, rfl⟩ : ∃ n : Nat, i = n := ⟨i.toNat, by omega⟩
  simpa using pV_ixl (ds := ds) (n := n) (by omega)
theorem pV_ixtI {ds : List Dt} {i : Int} (h0 : 0 ≤ i) (h1 : i < ds.length) : pV (ixD (.tuple ds) (.int i)) = pR (ds[i.toNat]'(by omega)) := by
  obtain ⟨n, rfl⟩ : ∃ n : Nat, i = n := ⟨i.toNat, by omega⟩
  simpa using pV_ixt (ds := ds) (n := n) (by omega)
theorem pApp_ok {ds : List Dt} {d : Dt} (h : ds.length < 16777216) : pApp ds d = pR (ds ++ [d]) := by simp [pApp, sz]; omega
theorem pRng1_i (j : Int) : pRng1 (.int j) = if -(2 ^ 62) ≤ j ∧ j < 2 ^ 62 then pR (rngD 0 j.toNat) else none := by unfold pRng1; rfl
theorem pRng1_ok (n : Nat) (h : n ≤ 1000000) : pRng1 (.int n) = pR (rngD 0 n) := by
  rw [pRng1_i, if_pos (by omega)]
  simp
theorem pRng1_I {i : Int} (h0 : i ≤ 1000000) (h1 : -1000000 ≤ i) : pRng1 (.int i) = pR (rngD 0 i.toNat) := by
  rw [pRng1_i, if_pos (by omega)]
@[simp] theorem bool?_bb (b : Bool) : pO (bool? (.bool b)) = pR b := rfl
@[simp] theorem pO_int?_i (i : Int) : pO (int? (.int i)) = pR i := rfl
@[simp] theorem pSetIx_0 (a d : Dt) (r : List Dt) : pSetIx (a :: r) (.int 0) d = pR (d :: r) := by simp [pSetIx_i, ixN]
/-! ### what a plain program is sure to do -/
def Wp {α : Type} (p : PM α) (Q : α → Prop) : Prop := ∃ a, p = pR a ∧ Q a
section
variable {α β σ : Type} {Q : β → Prop}
theorem Wp.ret {a : β} (h : Q a) : Wp (pR a) Q := ⟨a, rfl, h⟩
theorem Wp.bind {p : PM α} {f : α → PM β} (h : Wp p fun a => Wp (f a) Q) : Wp (pB p f) Q := by
  obtain ⟨a, rfl, b, e, q⟩ := h
  exact ⟨b, by rw [pB_R, e], q⟩
theorem Wp.eq {p : PM α} {f : α → PM β} {a : α} (e : p = pR a) (h : Wp (f a) Q) : Wp (pB p f) Q := by
  rw [e]
  exact h
theorem Wp.mono {p : PM α} {P Q : α → Prop} (h : Wp p P) (k : ∀ a, P a → Q a) : Wp p Q := by
  obtain ⟨a, e, q⟩ := h
  exact ⟨a, e, k a q⟩
theorem Wp.ite {c : Bool} {p q : PM β} (h1 : c = true → Wp p Q) (h2 : c = false → Wp q Q) : Wp (if c = true then p else q) Q := by
  cases c
  · exact h2 rfl
  · exact h1 rfl
theorem Wp.iteP {c : Prop} [Decidable c] {p q : PM β} (h1 : c → Wp p Q) (h2 : ¬ c → Wp q Q) : Wp (if c then p else q) Q := by
  by_cases h : c
  · rw [if_pos h]; exact h1 h
  · rw [if_neg h]; exact h2 h
/-- a loop, by what holds with the rest of the list still ahead -/
theorem Wp.for {ds : List Dt} {s : σ} {f : Dt → σ → PM σ} {k : σ → PM β} (I : List Dt → List Dt → σ → Prop) (h0 : I [] ds s) (step : ∀ done d rest s, ds = done ++ d :: rest → I done (d :: rest) s → Wp (f d s) fun s' => I (done ++ [d]) rest s') (h : ∀ s, I ds [] s → Wp (k s) Q) : Wp (pB (pFor ds s f) k) Q := by
  have go : ∀ (rest done : List Dt) (s : σ), ds = done ++ rest → I done rest s → Wp (pFor rest s f) fun s' => I ds [] s' := by
    intro rest
    induction rest with
    | nil =>
      intro done s e hI
      rw [List.append_nil] at e
      subst e
      exact ⟨s, rfl, hI⟩
    | cons d rest ih =>
      intro done s e hI
      rw [pFor_cons]
      exact Wp.bind ((step done d rest s e hI).mono fun s' hI' => ih (done ++ [d]) s' (by rw [e]; simp) hI')
  exact Wp.bind ((go ds [] s rfl h0).mono h)
/-- a comprehension that draws -/
theorem pGen_wp {γ : Type} {f : Dt → σ → PM γ} {o : γ → Option Dt} {st : γ → σ} {ds : List Dt} (I : List Dt → List Dt → σ → Prop) (step : ∀ done d rest ys s, ds = done ++ d :: rest → I done ys s → Wp (f d s) fun b => I (done ++ [d]) (ys ++ (o b).toList) (st b)) :
    ∀ (rest done : List Dt) (ys : List Dt) (s : σ), ds = done ++ rest → I done ys s → Wp (pGen rest s f o st) fun r => I ds (ys ++ r.1) r.2
  | [], done, ys, s, e, hI => by
    rw [List.append_nil] at e
    subst e
    exact ⟨_, rfl, by simpa using hI⟩
  | d :: rest, done, ys, s, e, hI => by
    rw [pGen]
    obtain ⟨b, e1, h1⟩ := step done d rest ys s e hI
    rw [e1, pNx_R, pB_R]
    refine Wp.bind ((pGen_wp I step rest (done ++ [d]) _ (st b) (by rw [e]; simp) h1).mono fun r hr => ?_)
    exact .ret (by simpa [List.append_assoc] using hr)
theorem pSz_wp {q : PM (List Dt × σ)} {P : List Dt × σ → Prop} (h : Wp q P) (hl : ∀ r, P r → r.1.length ≤ 16777216) : Wp (pSz q) P := by
  obtain ⟨r, rfl, p⟩ := h
  refine ⟨r, ?_, p⟩
  unfold pSz
  rw [pB_R, if_pos (by simp [sz, hl r p])]
theorem Wp.mapS {ds : List Dt} {s : σ} {f : Dt → σ → PM (Dt × σ)} {k : List Dt × σ → PM β} (I : List Dt → List Dt → σ → Prop) (h0 : I [] [] s) (step : ∀ done d rest ys s, ds = done ++ d :: rest → I done ys s → Wp (f d s) fun b => I (done ++ [d]) (ys ++ [b.1]) b.2)
    (hl : ∀ ys s, I ds ys s → ys.length ≤ 16777216) (h : ∀ ys s, I ds ys s → Wp (k (ys, s)) Q) : Wp (pB (pMapS ds s f) k) Q :=
  Wp.bind ((pSz_wp (pGen_wp (o := fun b : Dt × σ => some b.1) (st := fun b => b.2) I step ds [] [] s rfl h0) fun r hr => hl _ _ (by simpa using hr)).mono fun r hr => h r.1 r.2 (by simpa using hr))
theorem Wp.filS {ds : List Dt} {s : σ} {f : Dt → σ → PM (Option Dt × σ)} {k : List Dt × σ → PM β} (I : List Dt → List Dt → σ → Prop) (h0 : I [] [] s) (step : ∀ done d rest ys s, ds = done ++ d :: rest → I done ys s → Wp (f d s) fun b => I (done ++ [d]) (ys ++ b.1.toList) b.2)
    (hl : ∀ ys s, I ds ys s → ys.length ≤ 16777216) (h : ∀ ys s, I ds ys s → Wp (k (ys, s)) Q) : Wp (pB (pFilS ds s f) k) Q :=
  Wp.bind ((pSz_wp (pGen_wp (o := fun b : Option Dt × σ => b.1) (st := fun b => b.2) I step ds [] [] s rfl h0) fun r hr => hl _ _ (by simpa using hr)).mono fun r hr => h r.1 r.2 (by simpa using hr))
/-- a loop that is a fold -/
theorem pFor_ok {f : Dt → σ → PM σ} (g : Dt → σ → σ) : ∀ {ds : List Dt} {s : σ}, (∀ d ∈ ds, ∀ s, f d s = pR (g d s)) → pFor ds s f = pR (ds.foldl (fun s d => g d s) s)
  | [], s, _ => rfl
  | d :: ds, s, h => by
    rw [pFor_cons, h d List.mem_cons_self, pB_R, pFor_ok g fun x hx => h x (List.mem_cons_of_mem _ hx)]
    rfl
theorem pMap2_ok {ds : List Dt} {f : Dt → PM (List Dt)} (h : Dt → List Dt) (hd : ∀ d ∈ ds, f d = pR (h d)) (hz : (ds.flatMap h).length ≤ 16777216) : pMap2 ds f = pR (ds.flatMap h) := by
  have go : ∀ ds : List Dt, (∀ d ∈ ds, f d = pR (h d)) → pGen2 ds () (fun d _ => pB (f d) fun ys => pR (ys, ())) = pR (ds.flatMap h, ()) := by
    intro ds
    induction ds with
    | nil => intro _; rfl
    | cons d ds ih =>
      intro hd
      rw [pGen2, hd d List.mem_cons_self, pB_R, pNx_R, pB_R, ih fun x hx => hd x (List.mem_cons_of_mem _ hx)]
      rfl
  unfold pMap2
  rw [go ds hd]
  unfold pSz
  rw [pB_R, if_pos (show sz _ = true from decide_eq_true hz)]
  rfl
end
theorem rng_len (lo : Int) (n : Nat) : (rngD lo n).length = n := by simp [rngD]
theorem rng_mem {n : Nat} {d : Dt} (h : d ∈ rngD 0 n) : ∃ j : Nat, d = .int j ∧ j < n := by
  unfold rngD at h
  obtain ⟨j, hj, rfl⟩ := List.mem_map.mp h
  exact ⟨j, by simp, List.mem_range.mp hj⟩
theorem rng_map (n : Nat) : rngD 0 n = (List.range n).map fun i : Nat => PyData.int i := by simp [rngD]
end DL

/-! programs by their types -/
namespace DL
open PySem PySem.Spec L2
def nm : List Str := ["a", "b", "c", "d"]
abbrev Nd := Nat × Str
def nd (x : Nd) : Dt := .tuple [.int x.1, .str x.2]
@[simp] theorem nd_mk (p : Nat) (s : Str) : nd (p, s) = .tuple [.int p, .str s] := rfl
def NdOk (c : Nat) (x : Nd) : Prop := x.1 < c ∧ x.2 ∈ nm
inductive PRow where
  | load (p : Nat)
  | give (n : Str) (ns : List Nd) (r : Bool)
  | pass (n : Str) (p : Nat) (o : Str)
  | shw (ns : List Nd) (r : Bool)
  | late (n : Str) (p : Int) (ns : List Nd)
  | out
deriving DecidableEq
def PRow.enc : PRow → Dt
  | .load p => .tuple [.str "load", .int p]
  | .give n ns r => .tuple [.str "give", .str n, .tuple (ns.map nd), .bool r]
  | .pass n p o => .tuple [.str "pass", .str n, .int p, .str o]
  | .shw ns r => .tuple [.str "show", .tuple (ns.map nd), .bool r]
  | .late n p ns => .tuple [.str "late", .str n, .int p, .tuple (ns.map nd)]
  | .out => .tuple [.str "out"]
def PRow.word : PRow → Str
  | .load _ => "load"
  | .give _ _ _ => "give"
  | .pass _ _ _ => "pass"
  | .shw _ _ => "show"
  | .late _ _ _ => "late"
  | .out => "out"
def PRow.isOut : PRow → Bool
  | .out => true
  | _ => false
def NdsOk (c : Nat) (ns : List Nd) : Prop := ∀ x ∈ ns, NdOk c x
def PRow.Ok (c : Nat) : PRow → Prop
  | .load p => p < c
  | .give n ns _ => n ∈ nm ∧ NdsOk c ns ∧ ns.length ≤ 1
  | .pass n p o => n ∈ nm ∧ p < c ∧ o ∈ nm
  | .shw ns _ => NdsOk c ns ∧ ns.length ≤ 2
  | .late n p ns => n ∈ nm ∧ -1 ≤ p ∧ p < c ∧ NdsOk c ns ∧ ns.length ≤ 2
  | .out => True
structure Prog where
  parts : List (List PRow)
  marks : List Bool
  entries : List Nat
  opens : List Nd
def rowsE (rs : List PRow) : Dt := .tuple (rs.map PRow.enc)
def partsE (ps : List (List PRow)) : Dt := .tuple (ps.map rowsE)
def Prog.enc (P : Prog) : Dt := .tuple [partsE P.parts, .tuple (P.marks.map .bool), .tuple (P.entries.map fun (e : Nat) => .int e), .tuple (P.opens.map nd)]
def tot {α : Type} (ls : List (List α)) : Nat := (ls.map List.length).sum
def nOut (rs : List PRow) : Nat := (rs.filter PRow.isOut).length
def outs (ps : List (List PRow)) : Nat := (ps.map nOut).sum
def ndLt (a b : Nd) : Prop := PySem.W.dataLt (nd a) (nd b) = true
structure Prog.Ok (P : Prog) : Prop where
  c0 : 0 < P.parts.length
  c4 : P.parts.length ≤ 4
  rows : ∀ rs ∈ P.parts, (∀ r ∈ rs, r.Ok P.parts.length) ∧ rs.length ≤ 5
  tot12 : tot P.parts ≤ 12
  outs2 : outs P.parts ≤ 2
  ml : P.marks.length = P.parts.length
  ent : ∀ e ∈ P.entries, e < P.parts.length
  entA : P.entries.Pairwise (· < ·)
  ent1 : 1 ≤ P.entries.length
  ent3 : P.entries.length ≤ 3
  opn : NdsOk P.parts.length P.opens
  opnA : P.opens.Pairwise ndLt
  opn4 : P.opens.length ≤ 4
theorem tot_snoc {α : Type} (ls : List (List α)) (l : List α) : tot (ls ++ [l]) = tot ls + l.length := by simp [tot]
theorem outs_snoc (ls : List (List PRow)) (l : List PRow) : outs (ls ++ [l]) = outs ls + nOut l := by simp [outs]
/-! words -/
@[simp] theorem w_load_load : (("load" : Str) == "load") = true := by decide
@[simp] theorem w_load_out : (("load" : Str) == "out") = false := by decide
@[simp] theorem we_load_out : (("load" : Str) = "out") = False := by simp; decide
@[simp] theorem w_load_pass : (("load" : Str) == "pass") = false := by decide
@[simp] theorem we_load_pass : (("load" : Str) = "pass") = False := by simp; decide
@[simp] theorem w_load_late : (("load" : Str) == "late") = false := by decide
@[simp] theorem we_load_late : (("load" : Str) = "late") = False := by simp; decide
@[simp] theorem w_load_give : (("load" : Str) == "give") = false := by decide
@[simp] theorem we_load_give : (("load" : Str) = "give") = False := by simp; decide
@[simp] theorem w_load_show : (("load" : Str) == "show") = false := by decide
@[simp] theorem we_load_show : (("load" : Str) = "show") = False := by simp; decide
@[simp] theorem w_out_load : (("out" : Str) == "load") = false := by decide
@[simp] theorem we_out_load : (("out" : Str) = "load") = False := by simp; decide
@[simp] theorem w_out_out : (("out" : Str) == "out") = true := by decide
@[simp] theorem w_out_pass : (("out" : Str) == "pass") = false := by decide
@[simp] theorem we_out_pass : (("out" : Str) = "pass") = False := by simp; decide
@[simp] theorem w_out_late : (("out" : Str) == "late") = false := by decide
@[simp] theorem we_out_late : (("out" : Str) = "late") = False := by simp; decide
@[simp] theorem w_out_give : (("out" : Str) == "give") = false := by decide
@[simp] theorem we_out_give : (("out" : Str) = "give") = False := by simp; decide
@[simp] theorem w_out_show : (("out" : Str) == "show") = false := by decide
@[simp] theorem we_out_show : (("out" : Str) = "show") = False := by simp; decide
@[simp] theorem w_pass_load : (("pass" : Str) == "load") = false := by decide
@[simp] theorem we_pass_load : (("pass" : Str) = "load") = False := by simp; decide
@[simp] theorem w_pass_out : (("pass" : Str) == "out") = false := by decide
@[simp] theorem we_pass_out : (("pass" : Str) = "out") = False := by simp; decide
@[simp] theorem w_pass_pass : (("pass" : Str) == "pass") = true := by decide
@[simp] theorem w_pass_late : (("pass" : Str) == "late") = false := by decide
@[simp] theorem we_pass_late : (("pass" : Str) = "late") = False := by simp; decide
@[simp] theorem w_pass_give : (("pass" : Str) == "give") = false := by decide
@[simp] theorem we_pass_give : (("pass" : Str) = "give") = False := by simp; decide
@[simp] theorem w_pass_show : (("pass" : Str) == "show") = false := by decide
@[simp] theorem we_pass_show : (("pass" : Str) = "show") = False := by simp; decide
@[simp] theorem w_late_load : (("late" : Str) == "load") = false := by decide
@[simp] theorem we_late_load : (("late" : Str) = "load") = False := by simp; decide
@[simp] theorem w_late_out : (("late" : Str) == "out") = false := by decide
@[simp] theorem we_late_out : (("late" : Str) = "out") = False := by simp; decide
@[simp] theorem w_late_pass : (("late" : Str) == "pass") = false := by decide
@[simp] theorem we_late_pass : (("late" : Str) = "pass") = False := by simp; decide
@[simp] theorem w_late_late : (("late" : Str) == "late") = true := by decide
@[simp] theorem w_late_give : (("late" : Str) == "give") = false := by decide
@[simp] theorem we_late_give : (("late" : Str) = "give") = False := by simp; decide
@[simp] theorem w_late_show : (("late" : Str) == "show") = false := by decide
@[simp] theorem we_late_show : (("late" : Str) = "show") = False := by simp; decide
@[simp] theorem w_give_load : (("give" : Str) == "load") = false := by decide
@[simp] theorem we_give_load : (("give" : Str) = "load") = False := by simp; decide
@[simp] theorem w_give_out : (("give" : Str) == "out") = false := by decide
@[simp] theorem we_give_out : (("give" : Str) = "out") = False := by simp; decide
@[simp] theorem w_give_pass : (("give" : Str) == "pass") = false := by decide
@[simp] theorem we_give_pass : (("give" : Str) = "pass") = False := by simp; decide
@[simp] theorem w_give_late : (("give" : Str) == "late") = false := by decide
@[simp] theorem we_give_late : (("give" : Str) = "late") = False := by simp; decide
@[simp] theorem w_give_give : (("give" : Str) == "give") = true := by decide
@[simp] theorem w_give_show : (("give" : Str) == "show") = false := by decide
@[simp] theorem we_give_show : (("give" : Str) = "show") = False := by simp; decide
@[simp] theorem w_show_load : (("show" : Str) == "load") = false := by decide
@[simp] theorem we_show_load : (("show" : Str) = "load") = False := by simp; decide
@[simp] theorem w_show_out : (("show" : Str) == "out") = false := by decide
@[simp] theorem we_show_out : (("show" : Str) = "out") = False := by simp; decide
@[simp] theorem w_show_pass : (("show" : Str) == "pass") = false := by decide
@[simp] theorem we_show_pass : (("show" : Str) = "pass") = False := by simp; decide
@[simp] theorem w_show_late : (("show" : Str) == "late") = false := by decide
@[simp] theorem we_show_late : (("show" : Str) = "late") = False := by simp; decide
@[simp] theorem w_show_give : (("show" : Str) == "give") = false := by decide
@[simp] theorem we_show_give : (("show" : Str) = "give") = False := by simp; decide
@[simp] theorem w_show_show : (("show" : Str) == "show") = true := by decide
theorem nm_cases {s : Str} (h : s ∈ nm) : s = "a" ∨ s = "b" ∨ s = "c" ∨ s = "d" := by
  simpa [nm] using h
/-! order -/
theorem eqv_nd (a b : Nd) : PyData.eqv (nd a) (nd b) = decide (a = b) := by
  obtain ⟨p, s⟩ := a
  obtain ⟨q, t⟩ := b
  simp only [nd_mk, eqv_tt, eqvA_cc, eqv_ii, eqv_ss, eqvA_nn, Bool.and_true]
  by_cases h : p = q
  · by_cases h2 : s = t
    · simp [h, h2]
    · simp [h, h2]
  · have : ¬ (p : Int) = q := by omega
    simp [h, this]
theorem alike_nd (a b : Nd) : PySem.W.alike (nd a) (nd b) = true := by simp [nd, PySem.W.alike, PySem.W.alikeAll]
theorem dep_nd (a : Nd) : (nd a).depth ≤ 1 := by simp [nd, PyData.depth, PyData.depthAll]
end DL

/-! sorted(set(..)) by types -/
namespace DL
open PySem PySem.Spec L2
theorem nub_len : ∀ ks : List NestedKey, (nubK ks).length ≤ ks.length
  | [] => Nat.le_refl _
  | k :: ks => by
    unfold nubK
    have := nub_len ks
    split <;> simp only [List.length_cons] <;> omega
theorem nkeys_len : ∀ {ds : List Dt} {ks : List NestedKey}, NS.nkeys ds = some ks → ks.length = ds.length
  | [], _, e => by rw [NS.nkeys] at e; cases e; rfl
  | d :: ds, _, e => by
    obtain ⟨k, r, _, e2, rfl⟩ := NS.nkeys_cons e
    rw [List.length_cons, List.length_cons, nkeys_len e2]
theorem sorted_spec {ds es : List Dt} (hs : setD ds = some es) (al : ∀ x ∈ ds, ∀ y ∈ ds, PySem.W.alike x y = true) : (∀ d, d ∈ es.mergeSort NS.le0 ↔ d ∈ ds) ∧ (es.mergeSort NS.le0).Pairwise (fun a b => PySem.W.dataLt a b = true) ∧ (es.mergeSort NS.le0).length ≤ ds.length := by
  obtain ⟨a, nd, ky⟩ := setD_spec hs
  have pm := List.mergeSort_perm es NS.le0
  refine ⟨fun d => by rw [pm.mem_iff]; exact a d, ?_, ?_⟩
  · have pw := PySem.W.sort_pairwise (le := NS.le0) (PySem.W.sortLe_total _ _ _) es
    have nd2 : (es.mergeSort NS.le0).Nodup := pm.nodup_iff.mpr nd
    refine (List.Pairwise.and pw nd2).imp_of_mem fun {x y} hx hy h => ?_
    have mx := pm.mem_iff.mp hx
    have my := pm.mem_iff.mp hy
    obtain ⟨kx, ex⟩ := ky x mx
    obtain ⟨k2, ey⟩ := ky y my
    exact NS.le0_strict (al x ((a x).mp mx) y ((a y).mp my)) ex ey h.1 h.2
  · rw [pm.length_eq]
    unfold setD at hs
    cases q : NS.nkeys ds with
    | none => rw [q] at hs; cases hs
    | some ks =>
      rw [q] at hs
      cases hs
      rw [List.length_map, ← nkeys_len q]
      exact nub_len ks
theorem nkeys_ints : ∀ ns : List Int, NS.nkeys (ns.map .int) = some (ns.map .num)
  | [] => by rw [List.map_nil, NS.nkeys]; rfl
  | n :: ns => by rw [List.map_cons, NS.nkeys, NS.nkey, nkeys_ints ns]; rfl
theorem intsD_map : ∀ ns : List Int, intsD (ns.map .int) = some ns
  | [] => rfl
  | n :: ns => by rw [List.map_cons, intsD, intsD_map ns]; rfl
theorem nkeys_all : ∀ {ds : List Dt}, (∀ d ∈ ds, ∃ k, NS.nkey d = some k) → ∃ ks, NS.nkeys ds = some ks
  | [], _ => ⟨[], by rw [NS.nkeys]⟩
  | d :: ds, h => by
    obtain ⟨k, hk⟩ := h d List.mem_cons_self
    obtain ⟨ks, e⟩ := nkeys_all fun x hx => h x (List.mem_cons_of_mem _ hx)
    exact ⟨k :: ks, by rw [NS.nkeys, hk, e]⟩
theorem map_of {α : Type} {f : α → Dt} {xs : List Dt} (h : ∀ x ∈ xs, ∃ a, x = f a) : ∃ as : List α, xs = as.map f := by
  induction xs with
  | nil => exact ⟨[], rfl⟩
  | cons x xs ih =>
    obtain ⟨b, rfl⟩ := h x List.mem_cons_self
    obtain ⟨bs, rfl⟩ := ih fun y hy => h y (List.mem_cons_of_mem _ hy)
    exact ⟨b :: bs, rfl⟩
/-- ints, ascending, each once -/
theorem sortNats_ok (ns : List Nat) (h : ns.length < 64) : ∃ out : List Nat, pL (sortSetD (.list (ns.map fun (n : Nat) => .int n))) = pR (out.map fun (n : Nat) => .int n) ∧ (∀ n, n ∈ out ↔ n ∈ ns) ∧ out.Pairwise (· < ·) ∧ out.length ≤ ns.length := by
  have e0 : (ns.map fun (n : Nat) => PyData.int n) = (ns.map fun (n : Nat) => (n : Int)).map .int := by rw [List.map_map]; rfl
  have hs : setD (ns.map fun (n : Nat) => PyData.int n) = some ((nubK ((ns.map fun (n : Nat) => (n : Int)).map .num)).map NestedKey.data) := by unfold setD; rw [e0, nkeys_ints]; rfl
  obtain ⟨a, b, c⟩ := sorted_spec hs (fun x hx y hy => by
    obtain ⟨i, _, rfl⟩ := List.mem_map.mp hx
    obtain ⟨j, _, rfl⟩ := List.mem_map.mp hy
    exact alike_int i j)
  generalize hm : (((nubK ((ns.map fun (n : Nat) => (n : Int)).map .num)).map NestedKey.data).mergeSort NS.le0) = es at a b c
  obtain ⟨out, rfl⟩ := map_of (f := fun (n : Nat) => PyData.int n) (xs := es) fun x hx => by
    obtain ⟨i, _, rfl⟩ := List.mem_map.mp ((a x).mp hx)
    exact ⟨i, rfl⟩
  have inj : ∀ m n : Nat, PyData.int m = PyData.int n → m = n := fun m n e => by
    injection e with e
    omega
  refine ⟨out, ?_, fun n => ⟨fun hn => ?_, fun hn => ?_⟩, ?_, by simpa using c⟩
  · unfold sortSetD
    simp only
    have e1 : intsD (ns.map fun (n : Nat) => PyData.int n) = some (ns.map fun (n : Nat) => (n : Int)) := by rw [e0, intsD_map]
    rw [e1, hs]
    simp only [List.length_map, h, decide_true, if_true, hm]
    exact pL_lst _
  · obtain ⟨m, hm, e⟩ := List.mem_map.mp ((a (.int n)).mp (List.mem_map.mpr ⟨n, hn, rfl⟩))
    rw [← inj _ _ e]; exact hm
  · obtain ⟨m, hm, e⟩ := List.mem_map.mp ((a (.int n)).mpr (List.mem_map.mpr ⟨n, hn, rfl⟩))
    rw [← inj _ _ e]; exact hm
  · rw [List.pairwise_map] at b
    refine b.imp fun {x y} h => ?_
    rw [PySem.W.dataLt_int] at h
    have := of_decide_eq_true h
    omega
theorem nd_inj {a b : Nd} (h : nd a = nd b) : a = b := by
  have e : PyData.eqv (nd a) (nd b) = true := by rw [h, eqv_nd]; simp
  rw [eqv_nd] at e
  exact of_decide_eq_true e
theorem sortNds_ok (ns : List Nd) (h : ns.length < 64) : ∃ out : List Nd, pL (sortSetD (.list (ns.map nd))) = pR (out.map nd) ∧ (∀ n, n ∈ out ↔ n ∈ ns) ∧ out.Pairwise ndLt ∧ out.length ≤ ns.length := by
  obtain ⟨ks, hk⟩ := nkeys_all (ds := ns.map nd) fun d hx => by
    obtain ⟨⟨p, s⟩, _, rfl⟩ := List.mem_map.mp hx
    exact ⟨.tup [.num p, .text s], by simp [NS.nkey, NS.nkeys]⟩
  have hs : setD (ns.map nd) = some ((nubK ks).map NestedKey.data) := by unfold setD; rw [hk]; rfl
  have al : ∀ x ∈ ns.map nd, ∀ y ∈ ns.map nd, PySem.W.alike x y = true := fun x hx y hy => by
    obtain ⟨i, _, rfl⟩ := List.mem_map.mp hx
    obtain ⟨j, _, rfl⟩ := List.mem_map.mp hy
    exact alike_nd i j
  obtain ⟨a, b, c⟩ := sorted_spec hs al
  generalize hm : ((nubK ks).map NestedKey.data).mergeSort NS.le0 = es at a b c
  obtain ⟨out, rfl⟩ := map_of (f := nd) (xs := es) fun x hx => by
    obtain ⟨i, _, rfl⟩ := List.mem_map.mp ((a x).mp hx)
    exact ⟨i, rfl⟩
  refine ⟨out, ?_, fun n => ⟨fun hn => ?_, fun hn => ?_⟩, ?_, by simpa using c⟩
  · cases ns with
    | nil =>
      have hl : out.length ≤ 0 := by simpa using c
      have : out = [] := List.length_eq_zero_iff.mp (by omega)
      subst this
      have e : sortSetD (.list (([] : List Nd).map nd)) = some (.lst (([] : List Dt).map .val)) := by
        unfold sortSetD
        simp only [List.map_nil, intsD] at hs hm ⊢
        rw [hs]
        simp [hm]
      rw [e]
      exact pL_lst _
    | cons n0 r =>
      have hi : intsD ((n0 :: r).map nd) = none := rfl
      have t1 : (((n0 :: r).map nd).all isTupD) = true := List.all_eq_true.mpr fun x hx => by
        obtain ⟨i, _, rfl⟩ := List.mem_map.mp hx
        rfl
      have t2 : (((n0 :: r).map nd).all fun x => ((n0 :: r).map nd).all fun y => PySem.W.alike x y) = true := List.all_eq_true.mpr fun x hx => List.all_eq_true.mpr fun y hy => al x hx y hy
      have t3 : (((n0 :: r).map nd).all fun x => decide (x.depth ≤ 8)) = true := List.all_eq_true.mpr fun x hx => by
        obtain ⟨i, _, rfl⟩ := List.mem_map.mp hx
        have := dep_nd i
        exact decide_eq_true (by omega)
      have h' : decide (((n0 :: r).map nd).length < 64) = true := decide_eq_true (by simpa using h)
      unfold sortSetD
      simp only [hi, hs, t1, t2, t3, h', Bool.and_self, if_true, hm]
      exact pL_lst _
  · obtain ⟨m, hm, e⟩ := List.mem_map.mp ((a (nd n)).mp (List.mem_map.mpr ⟨n, hn, rfl⟩))
    rw [← nd_inj e]; exact hm
  · obtain ⟨m, hm, e⟩ := List.mem_map.mp ((a (nd n)).mpr (List.mem_map.mpr ⟨n, hn, rfl⟩))
    rw [← nd_inj e]; exact hm
  · rw [List.pairwise_map] at b
    exact b
end DL

namespace G
open PySem PySem.Spec L2 DL
def top (i : Nat) : Stmt := PySem.Challenge.pw_leanbundle_k83_programs_written.main.body.getD i (.Pass ⟨0, 0, 0, 0⟩)
abbrev st__law_names_text : Stmt := top 42
abbrev st__law_line : Stmt := top 43
abbrev st__law_lines : Stmt := top 44
abbrev st__law_pool : Stmt := top 31
abbrev st__law_draw : Stmt := top 32
abbrev st__law_need : Stmt := top 34
abbrev st__law_needs : Stmt := top 35
abbrev st__law_row : Stmt := top 38
abbrev st__law_subset : Stmt := top 33
abbrev st__law_with_show : Stmt := top 37
abbrev st__law_words : Stmt := top 36
abbrev st__law_program : Stmt := top 39
abbrev st_is_ascending : Stmt := top 15
abbrev st_is_integer : Stmt := top 11
abbrev st_is_number : Stmt := top 14
abbrev st_is_entries : Stmt := top 21
abbrev st_is_flag : Stmt := top 12
abbrev st_is_marks : Stmt := top 20
abbrev st_is_name : Stmt := top 13
abbrev st_is_named : Stmt := top 16
abbrev st_is_opens : Stmt := top 22
abbrev st_is_needs : Stmt := top 17
abbrev st_is_row : Stmt := top 18
abbrev st_is_parts : Stmt := top 19
abbrev st_is_program : Stmt := top 23
abbrev st_need_program : Stmt := top 24
abbrev st_written_name : Stmt := top 26
abbrev st_written_names : Stmt := top 27
abbrev st_written_row : Stmt := top 28
abbrev st_show_program : Stmt := top 29
abbrev st_law : Stmt := top 45
abbrev c_MOST_ENTRIES : Dt := (.int 3)
abbrev c_MOST_OPENS : Dt := (.int 4)
abbrev c_MOST_OUTS : Dt := (.int 2)
abbrev c_MOST_PARTS : Dt := (.int 4)
abbrev c_MOST_ROWS : Dt := (.int 5)
abbrev c_MOST_ROWS_IN_ALL : Dt := (.int 12)
abbrev c_NAMES : Dt := (.tuple [(.str "a"), (.str "b"), (.str "c"), (.str "d")])
/-! ### what each def computes -/
def d__law_names_text_e1 : M OV :=
  (m2 addD (m2 addD (mCB strcD (A1 (mV 1))) (mC (.str "."))) (mV 2))
def d__law_names_text : MS :=
  (sSeq (sIf (mBl (m2 eqD (mV 0) (mTup mNil)))
  (sRet (mC (.str "-")))
  sNext)
  (sRet (mJoin "," (mLc [1, 2] (mIt (mV 0)) (gT [(gN 1), (gN 2)]) (mR true) d__law_names_text_e1))))
def F__law_names_text : Fn := runDef 3 1 [] d__law_names_text
def d__law_line : MS :=
  (sSeq (sIf (mBl (m2 eqD (m2 ixD (mV 0) (mC (.int 0))) (mC (.str "load"))))
  (sRet (m2 addD (mC (.str "load ")) (mCB strcD (A1 (m2 ixD (mV 0) (mC (.int 1)))))))
  sNext)
  (sSeq (sIf (mBl (m2 eqD (m2 ixD (mV 0) (mC (.int 0))) (mC (.str "pass"))))
  (sRet (m2 addD (m2 addD (m2 addD (m2 addD (m2 addD (mC (.str "pass ")) (m2 ixD (mV 0) (mC (.int 1)))) (mC (.str " "))) (mCB strcD (A1 (m2 ixD (mV 0) (mC (.int 2)))))) (mC (.str "."))) (m2 ixD (mV 0) (mC (.int 3)))))
  sNext)
  (sSeq (sIf (mBl (m2 eqD (m2 ixD (mV 0) (mC (.int 0))) (mC (.str "late"))))
  (sRet (m2 addD (m2 addD (m2 addD (m2 addD (m2 addD (mC (.str "late ")) (m2 ixD (mV 0) (mC (.int 1)))) (mC (.str " "))) (mIf (mBl (m2 eqD (m2 ixD (mV 0) (mC (.int 2))) (mNeg (mC (.int 1))))) (mC (.str "-")) (mCB strcD (A1 (m2 ixD (mV 0) (mC (.int 2))))))) (mC (.str " "))) (mCall F__law_names_text [.ex (m2 ixD (mV 0) (mC (.int 3)))])))
  sNext)
  (sSeq (sIf (mBl (m2 eqD (m2 ixD (mV 0) (mC (.int 0))) (mC (.str "out"))))
  (sRet (mC (.str "out")))
  sNext)
  (sSeq (sSet 1 (mF (mIf (mTru (m2 ixD (mV 0) (mNeg (mC (.int 1))))) (mC (.str " !")) (mC (.str "")))))
  (sSeq (sIf (mBl (m2 eqD (m2 ixD (mV 0) (mC (.int 0))) (mC (.str "give"))))
  (sRet (m2 addD (m2 addD (m2 addD (m2 addD (mC (.str "give ")) (m2 ixD (mV 0) (mC (.int 1)))) (mC (.str " "))) (mCall F__law_names_text [.ex (m2 ixD (mV 0) (mC (.int 2)))])) (mV 1)))
  sNext)
  (sRet (m2 addD (m2 addD (mC (.str "show ")) (mCall F__law_names_text [.ex (m2 ixD (mV 0) (mC (.int 1)))])) (mV 1)))))))))
def F__law_line : Fn := runDef 2 1 [] d__law_line
def d__law_lines_e1 : M OV :=
  (mCB strcD (A1 (mV 2)))
def d__law_lines_e2 : M OV :=
  (mCall F__law_line [.ex (mV 3)])
def d__law_lines_b1 : MS :=
  (sSeq (sExpr (mApp 1 (mIf (mTru (m2 ixD (m2 ixD (mV 0) (mC (.int 1))) (mV 2))) (mC (.str "part plain")) (mC (.str "part")))))
  (sSet 1 (m2 addD (mV 1) (mLc [3] (mIt (m2 ixD (m2 ixD (mV 0) (mC (.int 0))) (mV 2))) (gN 3) (mR true) d__law_lines_e2))))
def d__law_lines : MS :=
  (sSeq (sSet 1 (mLstF (mCons (m2 addD (mC (.str "entries ")) (mJoin "" (mLc [2] (mIt (m2 ixD (mV 0) (mC (.int 2)))) (gN 2) (mR true) d__law_lines_e1))) (mCons (m2 addD (mC (.str "open ")) (mCall F__law_names_text [.ex (m2 ixD (mV 0) (mC (.int 3)))])) mNil))))
  (sSeq (sFor (mRng1 (mCB lenD (A1 (m2 ixD (mV 0) (mC (.int 0)))))) (gN 2)
  d__law_lines_b1)
  (sRet (mMv 1))))
def F__law_lines : Fn := runDef 4 1 [] d__law_lines
def d__law_pool_e1 : M OV :=
  (mCB intD (A1 (mV 1)))
def d__law_pool : MS :=
  (sRet (m2 addD (m2 addD (mLstF (mCons (mC (.int 0)) mNil)) (mLc [1] (mIt (mV 0)) (gN 1) (mR true) d__law_pool_e1)) (mRepL (mLstF (mCons (mC (.int 0)) mNil)) (mCB intD (A1 (m2 eqD (mCB lenD (A1 (mV 0))) (mC (.int 0))))))))
def F__law_pool : Fn := runDef 2 1 [] d__law_pool
def d__law_draw : MS :=
  (sSeq (sSet 2 (mF (mIxO 0 (mC (.int 0)))))
  (sSeq (sSetIx 0 (mC (.int 0)) (m2 addD (mV 2) (mC (.int 1))))
  (sSeq (sSet 3 (m2 addD (mC (.int 1)) (m2 modI (mCB intD (A1 (mV 2))) (m2 subI (mLenO 0) (mC (.int 1))))))
  (sSeq (sSet 4 (mF (mIxO 0 (mV 3))))
  (sSeq (sIf (mBl (m2 geI (mV 4) (m2 powI (mC (.int 10)) (mC (.int 18)))))
  (sSeq (sSetIx 0 (mV 3) (m2 divI (mV 4) (mV 1)))
  (sRet (m2 modI (mCB intD (A1 (mV 4))) (mV 1))))
  sNext)
  (sSeq (sSet 5 (m2 addD (m2 modI (mCB intD (A1 (mV 4))) (mC (.int 1000003))) (mC (.int 5))))
  (sSeq (sSet 6 (m2 addD (m2 addD (m2 mulI (m2 mulI (mV 5) (mV 5)) (m2 addD (mV 2) (mC (.int 7)))) (m2 mulI (mV 5) (m2 addD (m2 mulI (mV 2) (mV 2)) (mC (.int 13))))) (m2 powI (m2 addD (mV 2) (mC (.int 11))) (mC (.int 3)))))
  (sSeq (sSet 7 (mF (m2 ixD (mLstF (mCons (mC (.int 999979)) (mCons (mC (.int 999961)) (mCons (mC (.int 999953)) (mCons (mC (.int 999931)) (mCons (mC (.int 999917)) mNil)))))) (m2 modI (mCB intD (A1 (mV 2))) (mC (.int 5))))))
  (sRet (m2 modI (m2 modI (mCB intD (A1 (m2 divI (m2 mulI (mV 6) (mV 6)) (mC (.int 1009))))) (mV 7)) (mV 1)))))))))))
def F__law_draw : Fn := runDef 8 2 [0] d__law_draw
def d__law_need : MS :=
  (sSeq (sIf (mAnd (mBl (m2 neD (mV 2) (mLstF mNil))) (mBl (m2 gtI (mCall F__law_draw [.io 0, .ex (mC (.int 6))]) (mC (.int 0)))))
  (sRet (m2 ixD (mV 2) (mCall F__law_draw [.io 0, .ex (mCB lenD (A1 (mV 2)))])))
  sNext)
  (sRet (mTup (mCons (mCall F__law_draw [.io 0, .ex (mV 1)]) (mCons (m2 ixD (mC (.str "abcd")) (mCall F__law_draw [.io 0, .ex (mC (.int 4))])) mNil)))))
def F__law_need : Fn := runDef 3 3 [0] d__law_need
def d__law_needs_e1 : M OV :=
  (mCall F__law_need [.io 0, .ex (mV 1), .ex (mV 2)])
def d__law_needs : MS :=
  (sRet (mCB tupleD (A1 (mLc [4] (mRng1 (mCall F__law_draw [.io 0, .ex (m2 addD (mV 3) (mC (.int 1)))])) (gN 4) (mR true) d__law_needs_e1))))
def F__law_needs : Fn := runDef 5 4 [0] d__law_needs
def d__law_row : MS :=
  (sSeq (sIf (mBl (m2 eqD (mV 1) (mC (.str "load"))))
  (sRet (mTup (mCons (mV 1) (mCons (mCall F__law_draw [.io 0, .ex (mV 3)]) mNil))))
  sNext)
  (sSeq (sIf (mBl (m2 eqD (mV 1) (mC (.str "give"))))
  (sRet (mTup (mCons (mV 1) (mCons (mV 2) (mCons (mCall F__law_needs [.io 0, .ex (mV 3), .ex (mV 4), .ex (mC (.int 1))]) (mCons (m2 eqD (mCall F__law_draw [.io 0, .ex (mC (.int 4))]) (mC (.int 0))) mNil))))))
  sNext)
  (sSeq (sIf (mBl (m2 eqD (mV 1) (mC (.str "pass"))))
  (sRet (m2 addD (mTup (mCons (mV 1) (mCons (mV 2) mNil))) (mCall F__law_need [.io 0, .ex (mV 3), .ex (mV 4)])))
  sNext)
  (sSeq (sIf (mBl (m2 eqD (mV 1) (mC (.str "show"))))
  (sRet (mTup (mCons (mV 1) (mCons (mCall F__law_needs [.io 0, .ex (mV 3), .ex (mV 4), .ex (mC (.int 2))]) (mCons (m2 eqD (mCall F__law_draw [.io 0, .ex (mC (.int 4))]) (mC (.int 0))) mNil)))))
  sNext)
  (sSeq (sIf (mBl (m2 eqD (mV 1) (mC (.str "late"))))
  (sRet (mTup (mCons (mV 1) (mCons (mV 2) (mCons (m2 subI (mCall F__law_draw [.io 0, .ex (m2 addD (mV 3) (mC (.int 1)))]) (mC (.int 1))) (mCons (mCall F__law_needs [.io 0, .ex (mV 3), .ex (mV 4), .ex (mC (.int 2))]) mNil))))))
  sNext)
  (sRet (mTup (mCons (mV 1) mNil))))))))
def F__law_row : Fn := runDef 5 5 [0] d__law_row
def d__law_subset_b1 : MS :=
  (sIf (mAnd (mBl (m2 ltI (mLenO 3) (mV 2))) (mBl (m2 eqD (mCall F__law_draw [.io 0, .ex (mC (.int 2))]) (mC (.int 1)))))
  (sExpr (mApp 3 (mV 4)))
  sNext)
def d__law_subset : MS :=
  (sSeq (sSet 3 (mLstF mNil))
  (sSeq (sFor (mIt (mV 1)) (gN 4)
  d__law_subset_b1)
  (sRet (mMv 3))))
def F__law_subset : Fn := runDef 5 3 [0] d__law_subset
def d__law_with_show_b1 : MS :=
  (sIf (mOr (mBl (m2 eqD (mV 4) (mC (.str "give")))) (mBl (m2 eqD (mV 4) (mC (.str "show")))))
  (sRet (mV 0))
  sNext)
def d__law_with_show_b2 : MS :=
  (sFor (mIt (mV 1)) (gT [(gN 4), (gN 5)])
  d__law_with_show_b1)
def d__law_with_show_e1 : M OV :=
  (mV 6)
def d__law_with_show_e2 : M OV :=
  (mIf (mBl (m2 eqD (mV 6) (mV 3))) (m2 addD (mSl (mV 1) mNoP (mP (mNeg (mC (.int 1))))) (mLstF (mCons (mTup (mCons (mC (.str "show")) (mCons (mC (.str "a")) mNil))) mNil))) (mV 1))
def d__law_with_show : MS :=
  (sSeq (sFor (mIt (mV 0)) (gN 1)
  d__law_with_show_b2)
  (sSeq (sSet 2 (mF (mLc [6] (mRng1 (mCB lenD (A1 (mV 0)))) (gN 6) (mBl (m2 neD (m2 ixD (mV 0) (mV 6)) (mLstF mNil))) d__law_with_show_e1)))
  (sSeq (sSet 3 (mF (m2 ixD (m2 addD (mV 2) (mLstF (mCons (mC (.int 0)) mNil))) (mC (.int 0)))))
  (sRet (mF (mLc [6, 1] (mEnum (mV 0)) (gT [(gN 6), (gN 1)]) (mR true) d__law_with_show_e2))))))
def F__law_with_show : Fn := runDef 7 1 [] d__law_with_show
def d__law_words_b1 : MS :=
  (sSeq (sSet 10 (mF (m2 ixD (mLstF (mCons (mC (.str "load")) (mCons (mC (.str "give")) (mCons (mC (.str "pass")) (mCons (mC (.str "show")) (mCons (mC (.str "late")) (mCons (mC (.str "give")) (mCons (mC (.str "load")) (mCons (mC (.str "out")) mNil))))))))) (mCall F__law_draw [.io 0, .ex (mC (.int 8))]))))
  (sSeq (sIf (mAnd (mBl (m2 eqD (mV 10) (mC (.str "out")))) (mBl (m2 eqD (mV 6) (mC (.int 0)))))
  (sSet 10 (mC (.str "give")))
  sNext)
  (sSeq (sSet 6 (m2 subI (mV 6) (mCB intD (A1 (m2 eqD (mV 10) (mC (.str "out")))))))
  (sExpr (mApp 8 (mTup (mCons (mV 10) (mCons (m2 ixD (mC (.str "abcd")) (mCall F__law_draw [.io 0, .ex (mC (.int 4))])) mNil))))))))
def d__law_words_b2 : MS :=
  (sSeq (sSet 8 (mLstF mNil))
  (sSeq (sFor (mRng1 (mCB min2D (A2 (mV 5) (mCall F__law_draw [.io 0, .ex (mC (.int 6))])))) (gN 9)
  d__law_words_b1)
  (sSeq (sSet 5 (m2 subI (mV 5) (mLenO 8)))
  (sExpr (mApp 4 (mV 8))))))
def d__law_words : MS :=
  (sSeq (sSet 4 (mLstF mNil))
  (sSeq (sSet 5 (mF (mV 2)))
  (sSeq (sSet 6 (mF (mV 3)))
  (sSeq (sFor (mRng1 (mV 1)) (gN 7)
  d__law_words_b2)
  (sRet (mMv 4))))))
def F__law_words : Fn := runDef 11 4 [0] d__law_words
def d__law_program_e1 : M OV :=
  (mTup (mCons (mV 10) (mCons (mV 17) mNil)))
def d__law_program_b1 : MS :=
  (sSet 9 (mF (m2 addD (mV 9) (mLc [16, 17] (mIt (m2 ixD (mV 8) (mV 10))) (gT [(gN 16), (gN 17)]) (mBl (m2 inD (mV 16) (mLstF (mCons (mC (.str "give")) (mCons (mC (.str "pass")) (mCons (mC (.str "late")) mNil)))))) d__law_program_e1))))
def d__law_program_e2 : M OV :=
  (m2 eqD (mCall F__law_draw [.io 0, .ex (mC (.int 2))]) (mC (.int 1)))
def d__law_program_e3 : M OV :=
  (mCall F__law_row [.io 0, .ex (mV 16), .ex (mV 17), .ex (mV 6), .ex (mV 9)])
def d__law_program_b2 : MS :=
  (sExpr (mApp 14 (mCB tupleD (A1 (mLc [16, 17] (mIt (mV 15)) (gT [(gN 16), (gN 17)]) (mR true) d__law_program_e3)))))
def d__law_program : MS :=
  (sSeq (sSet 6 (m2 addD (mC (.int 1)) (mCall F__law_draw [.io 0, .ex (mV 1)])))
  (sSeq (sSet 7 (mF (mCall F__law_subset [.io 0, .ex (mF (mLRg1 (mV 6))), .ex (mV 4)])))
  (sSeq (sIf (mBl (m2 eqD (mV 7) (mLstF mNil)))
  (sSet 7 (mF (mLstF (mCons (mCall F__law_draw [.io 0, .ex (mV 6)]) mNil))))
  sNext)
  (sSeq (sSet 8 (mF (mCall F__law_with_show [.ex (mF (mCall F__law_words [.io 0, .ex (mV 6), .ex (mV 2), .ex (mV 3)]))])))
  (sSeq (sSet 9 (mF (mLstF mNil)))
  (sSeq (sFor (mRng1 (mV 6)) (gN 10)
  d__law_program_b1)
  (sSeq (sSet 9 (mF (mSortSet (mV 9))))
  (sSeq (sSet 11 (mTup (mCons (mCall F__law_draw [.io 0, .ex (mV 6)]) (mCons (m2 ixD (mC (.str "abcd")) (mCall F__law_draw [.io 0, .ex (mC (.int 4))])) mNil))))
  (sSeq (sSet 12 (mF (mCall F__law_subset [.io 0, .ex (mF (mSortSet (m2 addD (mV 9) (mLstF (mCons (mV 11) mNil))))), .ex (mV 5)])))
  (sSeq (sSet 13 (mCB tupleD (A1 (mLc [10] (mRng1 (mV 6)) (gN 10) (mR true) d__law_program_e2))))
  (sSeq (sSet 14 (mLstF mNil))
  (sSeq (sFor (mIt (mV 8)) (gN 15)
  d__law_program_b2)
  (sRet (mTup (mCons (mCB tupleD (A1 (mV 14))) (mCons (mV 13) (mCons (mCB tupleD (A1 (mV 7))) (mCons (mCB tupleD (A1 (mV 12))) mNil))))))))))))))))))
def F__law_program : Fn := runDef 18 6 [0] d__law_program
def d_is_ascending_e1 : M OV :=
  (m2 ltD (m2 ixD (mV 0) (mV 1)) (m2 ixD (mV 0) (m2 addD (mV 1) (mC (.int 1)))))
def d_is_ascending : MS :=
  (sRet (mCB allD (A1 (mLc [1] (mRng1 (m2 subI (mCB lenD (A1 (mV 0))) (mC (.int 1)))) (gN 1) (mR true) d_is_ascending_e1))))
def F_is_ascending : Fn := runDef 2 1 [] d_is_ascending
def d_is_integer : MS :=
  (sRet (mAndV (mIsi "int" (mV 0)) (mNotV (mIsi "bool" (mV 0)))))
def F_is_integer : Fn := runDef 1 1 [] d_is_integer
def d_is_number : MS :=
  (sRet (mAndV (mCall F_is_integer [.ex (mV 0)]) (mChain leI ltI (mC (.int 0)) (mV 0) (mV 1))))
def F_is_number : Fn := runDef 2 2 [] d_is_number
def d_is_entries_e1 : M OV :=
  (mCall F_is_number [.ex (mV 2), .ex (mV 1)])
def d_is_entries : MS :=
  (sSeq (sIf (mOr (mNot (mBl (mIsi "tuple" (mV 0)))) (mNot (mBl (mChain leI leI (mC (.int 1)) (mCB lenD (A1 (mV 0))) (mC c_MOST_ENTRIES)))))
  (sRet (mC (.bool false)))
  sNext)
  (sRet (mAndV (mCB allD (A1 (mLc [2] (mIt (mV 0)) (gN 2) (mR true) d_is_entries_e1))) (mCall F_is_ascending [.ex (mV 0)]))))
def F_is_entries : Fn := runDef 3 2 [] d_is_entries
def d_is_flag : MS :=
  (sRet (mOrV (m2 isBD (mV 0) (mC (.bool true))) (m2 isBD (mV 0) (mC (.bool false)))))
def F_is_flag : Fn := runDef 1 1 [] d_is_flag
def d_is_marks_e1 : M OV :=
  (mCall F_is_flag [.ex (mV 2)])
def d_is_marks : MS :=
  (sRet (mAndV (mIsi "tuple" (mV 0)) (mAndV (m2 eqD (mCB lenD (A1 (mV 0))) (mV 1)) (mCB allD (A1 (mLc [2] (mIt (mV 0)) (gN 2) (mR true) d_is_marks_e1))))))
def F_is_marks : Fn := runDef 3 2 [] d_is_marks
def d_is_name : MS :=
  (sRet (mAndV (mIsi "str" (mV 0)) (m2 inD (mV 0) (mC c_NAMES))))
def F_is_name : Fn := runDef 1 1 [] d_is_name
def d_is_named : MS :=
  (sRet (mAndV (mIsi "tuple" (mV 0)) (mAndV (m2 eqD (mCB lenD (A1 (mV 0))) (mC (.int 2))) (mAndV (mCall F_is_number [.ex (m2 ixD (mV 0) (mC (.int 0))), .ex (mV 1)]) (mCall F_is_name [.ex (m2 ixD (mV 0) (mC (.int 1)))])))))
def F_is_named : Fn := runDef 2 2 [] d_is_named
def d_is_opens_e1 : M OV :=
  (mCall F_is_named [.ex (mV 2), .ex (mV 1)])
def d_is_opens : MS :=
  (sSeq (sIf (mOr (mNot (mBl (mIsi "tuple" (mV 0)))) (mBl (m2 gtI (mCB lenD (A1 (mV 0))) (mC c_MOST_OPENS))))
  (sRet (mC (.bool false)))
  sNext)
  (sRet (mAndV (mCB allD (A1 (mLc [2] (mIt (mV 0)) (gN 2) (mR true) d_is_opens_e1))) (mCall F_is_ascending [.ex (mV 0)]))))
def F_is_opens : Fn := runDef 3 2 [] d_is_opens
def d_is_needs_e1 : M OV :=
  (mCall F_is_named [.ex (mV 3), .ex (mV 1)])
def d_is_needs : MS :=
  (sRet (mAndV (mIsi "tuple" (mV 0)) (mAndV (m2 leI (mCB lenD (A1 (mV 0))) (mV 2)) (mCB allD (A1 (mLc [3] (mIt (mV 0)) (gN 3) (mR true) d_is_needs_e1))))))
def F_is_needs : Fn := runDef 4 3 [] d_is_needs
def d_is_row : MS :=
  (sSeq (sIf (mOr (mNot (mBl (mIsi "tuple" (mV 0)))) (mOr (mBl (m2 eqD (mCB lenD (A1 (mV 0))) (mC (.int 0)))) (mNot (mBl (mIsi "str" (m2 ixD (mV 0) (mC (.int 0))))))))
  (sRet (mC (.bool false)))
  sNext)
  (sSeq (sAsg (mV 0) (gStar 2 1 [(gN 2), (gN 3)]))
  (sSeq (sIf (mBl (m2 eqD (mV 2) (mC (.str "load"))))
  (sRet (mAndV (m2 eqD (mCB lenD (A1 (mV 3))) (mC (.int 1))) (mCall F_is_number [.ex (m2 ixD (mV 3) (mC (.int 0))), .ex (mV 1)])))
  sNext)
  (sSeq (sIf (mBl (m2 eqD (mV 2) (mC (.str "give"))))
  (sRet (mAndV (m2 eqD (mCB lenD (A1 (mV 3))) (mC (.int 3))) (mAndV (mCall F_is_name [.ex (m2 ixD (mV 3) (mC (.int 0)))]) (mAndV (mCall F_is_needs [.ex (m2 ixD (mV 3) (mC (.int 1))), .ex (mV 1), .ex (mC (.int 1))]) (mCall F_is_flag [.ex (m2 ixD (mV 3) (mC (.int 2)))])))))
  sNext)
  (sSeq (sIf (mBl (m2 eqD (mV 2) (mC (.str "pass"))))
  (sRet (mAndV (m2 eqD (mCB lenD (A1 (mV 3))) (mC (.int 3))) (mAndV (mCall F_is_name [.ex (m2 ixD (mV 3) (mC (.int 0)))]) (mAndV (mCall F_is_number [.ex (m2 ixD (mV 3) (mC (.int 1))), .ex (mV 1)]) (mCall F_is_name [.ex (m2 ixD (mV 3) (mC (.int 2)))])))))
  sNext)
  (sSeq (sIf (mBl (m2 eqD (mV 2) (mC (.str "show"))))
  (sRet (mAndV (m2 eqD (mCB lenD (A1 (mV 3))) (mC (.int 2))) (mAndV (mCall F_is_needs [.ex (m2 ixD (mV 3) (mC (.int 0))), .ex (mV 1), .ex (mC (.int 2))]) (mCall F_is_flag [.ex (m2 ixD (mV 3) (mC (.int 1)))]))))
  sNext)
  (sSeq (sIf (mBl (m2 eqD (mV 2) (mC (.str "late"))))
  (sSeq (sIf (mOr (mBl (m2 neD (mCB lenD (A1 (mV 3))) (mC (.int 3)))) (mOr (mNot (mBl (mCall F_is_name [.ex (m2 ixD (mV 3) (mC (.int 0)))]))) (mNot (mBl (mCall F_is_integer [.ex (m2 ixD (mV 3) (mC (.int 1)))])))))
  (sRet (mC (.bool false)))
  sNext)
  (sRet (mAndV (mChain leI ltI (mNeg (mC (.int 1))) (m2 ixD (mV 3) (mC (.int 1))) (mV 1)) (mCall F_is_needs [.ex (m2 ixD (mV 3) (mC (.int 2))), .ex (mV 1), .ex (mC (.int 2))]))))
  sNext)
  (sRet (mAndV (m2 eqD (mV 2) (mC (.str "out"))) (m2 eqD (mCB lenD (A1 (mV 3))) (mC (.int 0))))))))))))
def F_is_row : Fn := runDef 4 2 [] d_is_row
def d_is_parts_e1 : M OV :=
  (mAndV (mIsi "tuple" (mV 1)) (m2 leI (mCB lenD (A1 (mV 1))) (mC c_MOST_ROWS)))
def d_is_parts_e2 : M OV :=
  (mCB lenD (A1 (mV 1)))
def d_is_parts_e3 : M OV :=
  (mCall F_is_row [.ex (mV 2), .ex (mCB lenD (A1 (mV 0)))])
def d_is_parts_b1 : MS :=
  (sIf (mNot (mBl (mCB allD (A1 (mLc [2] (mIt (mV 1)) (gN 2) (mR true) d_is_parts_e3)))))
  (sRet (mC (.bool false)))
  sNext)
def d_is_parts_e4 : M OV :=
  (mV 2)
def d_is_parts : MS :=
  (sSeq (sIf (mOr (mNot (mBl (mIsi "tuple" (mV 0)))) (mNot (mBl (mChain leI leI (mC (.int 1)) (mCB lenD (A1 (mV 0))) (mC c_MOST_PARTS)))))
  (sRet (mC (.bool false)))
  sNext)
  (sSeq (sIf (mNot (mBl (mCB allD (A1 (mLc [1] (mIt (mV 0)) (gN 1) (mR true) d_is_parts_e1)))))
  (sRet (mC (.bool false)))
  sNext)
  (sSeq (sIf (mBl (m2 gtI (mCB sumD (A1 (mLc [1] (mIt (mV 0)) (gN 1) (mR true) d_is_parts_e2))) (mC c_MOST_ROWS_IN_ALL)))
  (sRet (mC (.bool false)))
  sNext)
  (sSeq (sFor (mIt (mV 0)) (gN 1)
  d_is_parts_b1)
  (sRet (m2 leI (mCB lenD (A1 (mLc2 [1, 2] [2] (mIt (mV 0)) (gN 1) (mR true) (mIt (mV 1)) (gN 2) (mBl (m2 eqD (m2 ixD (mV 2) (mC (.int 0))) (mC (.str "out")))) d_is_parts_e4))) (mC c_MOST_OUTS)))))))
def F_is_parts : Fn := runDef 3 1 [] d_is_parts
def d_is_program : MS :=
  (sSeq (sIf (mOr (mNot (mBl (mIsi "tuple" (mV 0)))) (mBl (m2 neD (mCB lenD (A1 (mV 0))) (mC (.int 4)))))
  (sRet (mC (.bool false)))
  sNext)
  (sSeq (sAsg (mV 0) (gT [(gN 1), (gN 2), (gN 3), (gN 4)]))
  (sSeq (sIf (mNot (mBl (mCall F_is_parts [.ex (mV 1)])))
  (sRet (mC (.bool false)))
  sNext)
  (sSeq (sSet 5 (mCB lenD (A1 (mV 1))))
  (sRet (mAndV (mCall F_is_marks [.ex (mV 2), .ex (mV 5)]) (mAndV (mCall F_is_entries [.ex (mV 3), .ex (mV 5)]) (mCall F_is_opens [.ex (mV 4), .ex (mV 5)]))))))))
def F_is_program : Fn := runDef 6 1 [] d_is_program
def d_need_program : MS :=
  (sIf (mNot (mBl (mCall F_is_program [.ex (mV 0)])))
  sNo
  sNext)
def F_need_program : Fn := runDef 1 1 [] d_need_program
def d_written_name : MS :=
  (sRet (mJoined [(mFmt (m2 ixD (mV 0) (mC (.int 0)))), (mC (.str ".")), (mFmt (m2 ixD (mV 0) (mC (.int 1))))]))
def F_written_name : Fn := runDef 1 1 [] d_written_name
def d_written_names_e1 : M OV :=
  (mCall F_written_name [.ex (mV 1)])
def d_written_names : MS :=
  (sRet (mIf (mBl (m2 gtI (mCB lenD (A1 (mV 0))) (mC (.int 0)))) (mJoin "," (mLc [1] (mIt (mV 0)) (gN 1) (mR true) d_written_names_e1)) (mC (.str "-"))))
def F_written_names : Fn := runDef 2 1 [] d_written_names
def d_written_row : MS :=
  (sSeq (sAsg (mV 0) (gStar 2 1 [(gN 1), (gN 2)]))
  (sSeq (sIf (mBl (m2 eqD (mV 1) (mC (.str "load"))))
  (sRet (mJoined [(mC (.str "load ")), (mFmt (m2 ixD (mV 2) (mC (.int 0))))]))
  sNext)
  (sSeq (sIf (mBl (m2 eqD (mV 1) (mC (.str "pass"))))
  (sRet (mJoined [(mC (.str "pass ")), (mFmt (m2 ixD (mV 2) (mC (.int 0)))), (mC (.str " ")), (mFmt (m2 ixD (mV 2) (mC (.int 1)))), (mC (.str ".")), (mFmt (m2 ixD (mV 2) (mC (.int 2))))]))
  sNext)
  (sSeq (sIf (mBl (m2 eqD (mV 1) (mC (.str "late"))))
  (sSeq (sSet 4 (mF (mIf (mBl (m2 ltI (m2 ixD (mV 2) (mC (.int 1))) (mC (.int 0)))) (mC (.str "-")) (mCB strcD (A1 (m2 ixD (mV 2) (mC (.int 1))))))))
  (sRet (mJoined [(mC (.str "late ")), (mFmt (m2 ixD (mV 2) (mC (.int 0)))), (mC (.str " ")), (mFmt (mV 4)), (mC (.str " ")), (mFmt (mCall F_written_names [.ex (m2 ixD (mV 2) (mC (.int 2)))]))])))
  sNext)
  (sSeq (sIf (mBl (m2 eqD (mV 1) (mC (.str "out"))))
  (sRet (mV 1))
  sNext)
  (sSeq (sSet 3 (mF (mIf (mTru (m2 ixD (mV 2) (mNeg (mC (.int 1))))) (mC (.str " !")) (mC (.str "")))))
  (sSeq (sIf (mBl (m2 eqD (mV 1) (mC (.str "give"))))
  (sRet (mJoined [(mC (.str "give ")), (mFmt (m2 ixD (mV 2) (mC (.int 0)))), (mC (.str " ")), (mFmt (mCall F_written_names [.ex (m2 ixD (mV 2) (mC (.int 1)))])), (mFmt (mV 3))]))
  sNext)
  (sRet (mJoined [(mC (.str "show ")), (mFmt (mCall F_written_names [.ex (m2 ixD (mV 2) (mC (.int 0)))])), (mFmt (mV 3))])))))))))
def F_written_row : Fn := runDef 5 1 [] d_written_row
def d_show_program_e1 : M OV :=
  (mCB strcD (A1 (mV 9)))
def d_show_program_e2 : M OV :=
  (mCall F_written_row [.ex (mV 8)])
def d_show_program_b1 : MS :=
  (sSeq (sExpr (mApp 5 (mIf (mTru (mV 7)) (mC (.str "part plain")) (mC (.str "part")))))
  (sExpr (mExt 5 (mLc [8] (mIt (mV 6)) (gN 8) (mR true) d_show_program_e2))))
def d_show_program : MS :=
  (sSeq (sExpr (mCall F_need_program [.ex (mV 0)]))
  (sSeq (sAsg (mV 0) (gT [(gN 1), (gN 2), (gN 3), (gN 4)]))
  (sSeq (sSet 5 (mLstF (mCons (m2 addD (mC (.str "entries ")) (mJoin "" (mLc [9] (mIt (mV 3)) (gN 9) (mR true) d_show_program_e1))) (mCons (m2 addD (mC (.str "open ")) (mCall F_written_names [.ex (mV 4)])) mNil))))
  (sSeq (sFor (mZip (mV 1) (mV 2)) (gT [(gN 6), (gN 7)])
  d_show_program_b1)
  (sRet (mJoin "\n" (mV 5)))))))
def F_show_program : Fn := runDef 10 1 [] d_show_program
def d_law_b1 : MS :=
  (sSeq (sSet 5 (mF (mCall F_show_program [.ex (mV 4)])))
  (sIf (mOr (mNot (mBl (mIsi "str" (mV 5)))) (mBl (m2 neD (mV 5) (mJoin "\n" (mCall F__law_lines [.ex (mV 4)])))))
  (sRet (mC (.bool false)))
  sNext))
def d_law : MS :=
  (sSeq (sSet 1 (mCall F__law_pool [.ex (mV 0)]))
  (sSeq (sSet 2 (mF (mCall F__law_program [.io 1, .ex (mC (.int 4)), .ex (mC (.int 12)), .ex (mC (.int 2)), .ex (mC (.int 3)), .ex (mC (.int 4))])))
  (sSeq (sSet 3 (mF (mCall F__law_program [.io 1, .ex (mC (.int 4)), .ex (mC (.int 12)), .ex (mC (.int 2)), .ex (mC (.int 3)), .ex (mC (.int 4))])))
  (sSeq (sFor (mIt (mLstF (mCons (mV 2) (mCons (mV 3) (mCons (mV 2) mNil))))) (gN 4)
  d_law_b1)
  (sRet (mC (.bool true)))))))
def F_law : Fn := runDef 6 1 [] d_law
/-! ### what the module has -/
structure Txt (K : PySem.W.Frag) (mg : Str → Option Value) : Prop where
  d__law_names_text : HasDef K mg "_law_names_text" st__law_names_text
  d__law_line : HasDef K mg "_law_line" st__law_line
  d__law_lines : HasDef K mg "_law_lines" st__law_lines
  d__law_pool : HasDef K mg "_law_pool" st__law_pool
  d__law_draw : HasDef K mg "_law_draw" st__law_draw
  d__law_need : HasDef K mg "_law_need" st__law_need
  d__law_needs : HasDef K mg "_law_needs" st__law_needs
  d__law_row : HasDef K mg "_law_row" st__law_row
  d__law_subset : HasDef K mg "_law_subset" st__law_subset
  d__law_with_show : HasDef K mg "_law_with_show" st__law_with_show
  d__law_words : HasDef K mg "_law_words" st__law_words
  d__law_program : HasDef K mg "_law_program" st__law_program
  d_is_ascending : HasDef K mg "is_ascending" st_is_ascending
  d_is_integer : HasDef K mg "is_integer" st_is_integer
  d_is_number : HasDef K mg "is_number" st_is_number
  d_is_entries : HasDef K mg "is_entries" st_is_entries
  d_is_flag : HasDef K mg "is_flag" st_is_flag
  d_is_marks : HasDef K mg "is_marks" st_is_marks
  d_is_name : HasDef K mg "is_name" st_is_name
  d_is_named : HasDef K mg "is_named" st_is_named
  d_is_opens : HasDef K mg "is_opens" st_is_opens
  d_is_needs : HasDef K mg "is_needs" st_is_needs
  d_is_row : HasDef K mg "is_row" st_is_row
  d_is_parts : HasDef K mg "is_parts" st_is_parts
  d_is_program : HasDef K mg "is_program" st_is_program
  d_need_program : HasDef K mg "need_program" st_need_program
  d_written_name : HasDef K mg "written_name" st_written_name
  d_written_names : HasDef K mg "written_names" st_written_names
  d_written_row : HasDef K mg "written_row" st_written_row
  d_show_program : HasDef K mg "show_program" st_show_program
  d_law : HasDef K mg "law" st_law
  c_MOST_ENTRIES : GlobD K mg "MOST_ENTRIES" c_MOST_ENTRIES
  c_MOST_OPENS : GlobD K mg "MOST_OPENS" c_MOST_OPENS
  c_MOST_OUTS : GlobD K mg "MOST_OUTS" c_MOST_OUTS
  c_MOST_PARTS : GlobD K mg "MOST_PARTS" c_MOST_PARTS
  c_MOST_ROWS : GlobD K mg "MOST_ROWS" c_MOST_ROWS
  c_MOST_ROWS_IN_ALL : GlobD K mg "MOST_ROWS_IN_ALL" c_MOST_ROWS_IN_ALL
  c_NAMES : GlobD K mg "NAMES" c_NAMES
  z_all : mg "all" = none
  z_bool : mg "bool" = none
  z_enumerate : mg "enumerate" = none
  z_int : mg "int" = none
  z_isinstance : mg "isinstance" = none
  z_len : mg "len" = none
  z_list : mg "list" = none
  z_min : mg "min" = none
  z_range : mg "range" = none
  z_set : mg "set" = none
  z_sorted : mg "sorted" = none
  z_str : mg "str" = none
  z_sum : mg "sum" = none
  z_tuple : mg "tuple" = none
  z_zip : mg "zip" = none
/-! ### each def keeps its promise -/
section
variable {w : World} {K : PySem.W.Frag} {mg : Str → Option Value} {base : Heap}
theorem sc__law_names_text : FnScope ["names", "part", "name"] ["names"] (defScope st__law_names_text) := ⟨rfl, rfl, rfl, by decide +kernel, rfl, by decide +kernel, by decide +kernel⟩
theorem ok__law_names_text (T : Txt K mg) : DefOk PySem.Challenge.pw_leanbundle_k83_programs_written w K mg base 1 "_law_names_text" ["names"] [] F__law_names_text :=
  okDef (k := 0) T.d__law_names_text sc__law_names_text rfl [] d__law_names_text (by decide) (fun _ _ F => F.binds (ps := ["names"]) fun _ _ _ _ _ _ us hl => match us, hl with | [_], _ => rfl) fun cdv A outer s H E vs fa hr =>
  (dss_cons (ds_if (db_cmp (op_eqP hr.units) s2_eq (de_var (pv 0)) (de_tup da_nil) (by with_unfolding_all rfl))
  (dss_one (ds_ret de_str))
  dss_nil)
  (dss_one (ds_ret (de_join (de_lc (own := [("part", 1), ("name", 2)]) rfl sc__law_names_text.nd (di_seq (de_var (pv 0))) (by exact (show BlkOk ["names", "part", "name"] (defScope st__law_names_text) _ [("part", 1), ("name", 2)] from ⟨rfl, by decide +kernel, by decide +kernel, by decide +kernel, by decide +kernel⟩)) (fun _ _ _ _ _ => (dg_tup rfl (dgs_cons (dg_name (i := 1) sc__law_names_text.nd rfl (by first | exact Or.inl rfl | exact Or.inr rfl)) (dgs_cons (dg_name (i := 2) sc__law_names_text.nd rfl (by first | exact Or.inl rfl | exact Or.inr rfl)) dgs_nil)))) (fun _ _ _ _ _ => dpts_nil) (fun _ _ _ _ _ => (de_op op_addG s2_add' (de_op op_addG s2_add' (de_strc T.z_str (de_var (pv 1))) de_str) (de_var (pv 2)))))))))
theorem sc__law_line : FnScope ["row", "risk"] ["row"] (defScope st__law_line) := ⟨rfl, rfl, rfl, by decide +kernel, rfl, by decide +kernel, by decide +kernel⟩
theorem ok__law_line (T : Txt K mg) (o__law_names_text : DefOk PySem.Challenge.pw_leanbundle_k83_programs_written w K mg base 1 "_law_names_text" ["names"] [] F__law_names_text) : DefOk PySem.Challenge.pw_leanbundle_k83_programs_written w K mg base 2 "_law_line" ["row"] [] F__law_line :=
  okDef (k := 1) T.d__law_line sc__law_line rfl [] d__law_line (by decide) (fun _ _ F => F.binds (ps := ["row"]) fun _ _ _ _ _ _ us hl => match us, hl with | [_], _ => rfl) fun cdv A outer s H E vs fa hr =>
  (dss_cons (ds_if (db_cmp (op_eqP hr.units) s2_eq (de_ix (de_var (pv 0)) de_int) de_str (by with_unfolding_all rfl))
  (dss_one (ds_ret (de_op op_addG s2_add' de_str (de_strc T.z_str (de_ix (de_var (pv 0)) de_int)))))
  dss_nil)
  (dss_cons (ds_if (db_cmp (op_eqP hr.units) s2_eq (de_ix (de_var (pv 0)) de_int) de_str (by with_unfolding_all rfl))
  (dss_one (ds_ret (de_op op_addG s2_add' (de_op op_addG s2_add' (de_op op_addG s2_add' (de_op op_addG s2_add' (de_op op_addG s2_add' de_str (de_ix (de_var (pv 0)) de_int)) de_str) (de_strc T.z_str (de_ix (de_var (pv 0)) de_int))) de_str) (de_ix (de_var (pv 0)) de_int))))
  dss_nil)
  (dss_cons (ds_if (db_cmp (op_eqP hr.units) s2_eq (de_ix (de_var (pv 0)) de_int) de_str (by with_unfolding_all rfl))
  (dss_one (ds_ret (de_op op_addG s2_add' (de_op op_addG s2_add' (de_op op_addG s2_add' (de_op op_addG s2_add' (de_op op_addG s2_add' de_str (de_ix (de_var (pv 0)) de_int)) de_str) (de_if (db_cmp (op_eqP hr.units) s2_eq (de_ix (de_var (pv 0)) de_int) (de_neg de_int) (by with_unfolding_all rfl)) de_str (de_strc T.z_str (de_ix (de_var (pv 0)) de_int)))) de_str) (de_callD o__law_names_text (takes_of rfl rfl rfl rfl) hr (dar_ex (de_ix (de_var (pv 0)) de_int) dar_nil)))))
  dss_nil)
  (dss_cons (ds_if (db_cmp (op_eqP hr.units) s2_eq (de_ix (de_var (pv 0)) de_int) de_str (by with_unfolding_all rfl))
  (dss_one (ds_ret de_str))
  dss_nil)
  (dss_cons (ds_set (i := 1) sc__law_line.nd rfl (by first | exact Or.inl rfl | exact Or.inr rfl) (de_frz (de_if (db_tru (de_ix (de_var (pv 0)) (de_neg de_int))) de_str de_str)))
  (dss_cons (ds_if (db_cmp (op_eqP hr.units) s2_eq (de_ix (de_var (pv 0)) de_int) de_str (by with_unfolding_all rfl))
  (dss_one (ds_ret (de_op op_addG s2_add' (de_op op_addG s2_add' (de_op op_addG s2_add' (de_op op_addG s2_add' de_str (de_ix (de_var (pv 0)) de_int)) de_str) (de_callD o__law_names_text (takes_of rfl rfl rfl rfl) hr (dar_ex (de_ix (de_var (pv 0)) de_int) dar_nil))) (de_var (pv 1)))))
  dss_nil)
  (dss_one (ds_ret (de_op op_addG s2_add' (de_op op_addG s2_add' de_str (de_callD o__law_names_text (takes_of rfl rfl rfl rfl) hr (dar_ex (de_ix (de_var (pv 0)) de_int) dar_nil))) (de_var (pv 1)))))))))))
theorem sc__law_lines : FnScope ["program", "lines", "part", "row"] ["program"] (defScope st__law_lines) := ⟨rfl, rfl, rfl, by decide +kernel, rfl, by decide +kernel, by decide +kernel⟩
theorem ok__law_lines (T : Txt K mg) (o__law_line : DefOk PySem.Challenge.pw_leanbundle_k83_programs_written w K mg base 2 "_law_line" ["row"] [] F__law_line) (o__law_names_text : DefOk PySem.Challenge.pw_leanbundle_k83_programs_written w K mg base 1 "_law_names_text" ["names"] [] F__law_names_text) : DefOk PySem.Challenge.pw_leanbundle_k83_programs_written w K mg base 3 "_law_lines" ["program"] [] F__law_lines :=
  okDef (k := 2) T.d__law_lines sc__law_lines rfl [] d__law_lines (by decide) (fun _ _ F => F.binds (ps := ["program"]) fun _ _ _ _ _ _ us hl => match us, hl with | [_], _ => rfl) fun cdv A outer s H E vs fa hr =>
  (dss_cons (ds_set (i := 1) sc__law_lines.nd rfl (by first | exact Or.inl rfl | exact Or.inr rfl) (de_lstF (da_cons (de_op op_addG s2_add' de_str (de_join (de_lc (own := [("part", 2)]) rfl sc__law_lines.nd (di_seq (de_ix (de_var (pv 0)) de_int)) (by exact (show BlkOk ["program", "lines", "part", "row"] (defScope st__law_lines) _ [("part", 2)] from ⟨rfl, by decide +kernel, by decide +kernel, by decide +kernel, by decide +kernel⟩)) (fun _ _ _ _ _ => (dg_name (i := 2) sc__law_lines.nd rfl (by first | exact Or.inl rfl | exact Or.inr rfl))) (fun _ _ _ _ _ => dpts_nil) (fun _ _ _ _ _ => (de_strc T.z_str (de_var (pv 2))))))) (da_cons (de_op op_addG s2_add' de_str (de_callD o__law_names_text (takes_of rfl rfl rfl rfl) hr (dar_ex (de_ix (de_var (pv 0)) de_int) dar_nil))) da_nil))))
  (dss_cons (ds_for (passes_of rfl) rfl (di_range1 T.z_range (de_len T.z_len (de_ix (de_var (pv 0)) de_int))) (dg_name (i := 2) sc__law_lines.nd rfl (by first | exact Or.inl rfl | exact Or.inr rfl))
  (dss_cons (ds_expr (de_app (pv 1) (de_if (db_tru (de_ix (de_ix (de_var (pv 0)) de_int) (de_var (pv 2)))) de_str de_str)))
  (dss_one (ds_set (i := 1) sc__law_lines.nd rfl (by first | exact Or.inl rfl | exact Or.inr rfl) (de_op op_addG s2_add' (de_var (pv 1)) (de_lc (own := [("row", 3)]) rfl sc__law_lines.nd (di_seq (de_ix (de_ix (de_var (pv 0)) de_int) (de_var (pv 2)))) (by exact (show BlkOk ["program", "lines", "part", "row"] (defScope st__law_lines) _ [("row", 3)] from ⟨rfl, by decide +kernel, by decide +kernel, by decide +kernel, by decide +kernel⟩)) (fun _ _ _ _ _ => (dg_name (i := 3) sc__law_lines.nd rfl (by first | exact Or.inl rfl | exact Or.inr rfl))) (fun _ _ _ _ _ => dpts_nil) (fun _ _ _ _ _ => (de_callD o__law_line takes0 hr (dar_ex (de_var (pv 3)) dar_nil)))))))))
  (dss_one (ds_ret (de_mv (pv 1))))))
theorem sc__law_pool : FnScope ["script", "cell"] ["script"] (defScope st__law_pool) := ⟨rfl, rfl, rfl, by decide +kernel, rfl, by decide +kernel, by decide +kernel⟩
theorem ok__law_pool (T : Txt K mg) : DefOk PySem.Challenge.pw_leanbundle_k83_programs_written w K mg base 1 "_law_pool" ["script"] [] F__law_pool :=
  okDef (k := 0) T.d__law_pool sc__law_pool rfl [] d__law_pool (by decide) (fun _ _ F => F.binds (ps := ["script"]) fun _ _ _ _ _ _ us hl => match us, hl with | [_], _ => rfl) fun cdv A outer s H E vs fa hr =>
  (dss_one (ds_ret (de_op op_addG s2_add' (de_op op_addG s2_add' (de_lstF (da_cons de_int da_nil)) (de_lc (own := [("cell", 1)]) rfl sc__law_pool.nd (di_seq (de_var (pv 0))) (by exact (show BlkOk ["script", "cell"] (defScope st__law_pool) _ [("cell", 1)] from ⟨rfl, by decide +kernel, by decide +kernel, by decide +kernel, by decide +kernel⟩)) (fun _ _ _ _ _ => (dg_name (i := 1) sc__law_pool.nd rfl (by first | exact Or.inl rfl | exact Or.inr rfl))) (fun _ _ _ _ _ => dpts_nil) (fun _ _ _ _ _ => (de_intc T.z_int (de_var (pv 1)))))) (de_repL (de_lstF (da_cons de_int da_nil)) (de_intc T.z_int (de_cmp (op_eqP hr.units) s2_eq (de_len T.z_len (de_var (pv 0))) de_int (by with_unfolding_all rfl)))))))
theorem sc__law_draw : FnScope ["pool", "limit", "k", "at", "cell", "number", "mixed", "prime"] ["pool", "limit"] (defScope st__law_draw) := ⟨rfl, rfl, rfl, by decide +kernel, rfl, by decide +kernel, by decide +kernel⟩
theorem ok__law_draw (T : Txt K mg) : DefOk PySem.Challenge.pw_leanbundle_k83_programs_written w K mg base 1 "_law_draw" ["pool", "limit"] [0] F__law_draw :=
  okDef (k := 0) T.d__law_draw sc__law_draw rfl [0] d__law_draw (by decide) (fun _ _ F => F.binds (ps := ["pool", "limit"]) fun _ _ _ _ _ _ us hl => match us, hl with | [_, _], _ => rfl) fun cdv A outer s H E vs fa hr =>
  (dss_cons (ds_set (i := 2) sc__law_draw.nd rfl (by first | exact Or.inl rfl | exact Or.inr rfl) (de_frz (de_ixO (pv 0) de_int)))
  (dss_cons (ds_setIx (pv 0) de_int (de_op op_addG s2_add' (de_var (pv 2)) de_int))
  (dss_cons (ds_set (i := 3) sc__law_draw.nd rfl (by first | exact Or.inl rfl | exact Or.inr rfl) (de_op op_addG s2_add' de_int (de_op op_mod s2_mod (de_intc T.z_int (de_var (pv 2))) (de_op op_sub s2_sub (de_lenO T.z_len (pv 0)) de_int))))
  (dss_cons (ds_set (i := 4) sc__law_draw.nd rfl (by first | exact Or.inl rfl | exact Or.inr rfl) (de_frz (de_ixO (pv 0) (de_var (pv 3)))))
  (dss_cons (ds_if (db_cmp op_ge s2_ge (de_var (pv 4)) (de_op DL.op_pow s2_pow de_int de_int) (by with_unfolding_all rfl))
  (dss_cons (ds_setIx (pv 0) (de_var (pv 3)) (de_op op_fdiv s2_div (de_var (pv 4)) (de_var (pv 1))))
  (dss_one (ds_ret (de_op op_mod s2_mod (de_intc T.z_int (de_var (pv 4))) (de_var (pv 1))))))
  dss_nil)
  (dss_cons (ds_set (i := 5) sc__law_draw.nd rfl (by first | exact Or.inl rfl | exact Or.inr rfl) (de_op op_addG s2_add' (de_op op_mod s2_mod (de_intc T.z_int (de_var (pv 4))) de_int) de_int))
  (dss_cons (ds_set (i := 6) sc__law_draw.nd rfl (by first | exact Or.inl rfl | exact Or.inr rfl) (de_op op_addG s2_add' (de_op op_addG s2_add' (de_op op_mul s2_mul (de_op op_mul s2_mul (de_var (pv 5)) (de_var (pv 5))) (de_op op_addG s2_add' (de_var (pv 2)) de_int)) (de_op op_mul s2_mul (de_var (pv 5)) (de_op op_addG s2_add' (de_op op_mul s2_mul (de_var (pv 2)) (de_var (pv 2))) de_int))) (de_op DL.op_pow s2_pow (de_op op_addG s2_add' (de_var (pv 2)) de_int) de_int)))
  (dss_cons (ds_set (i := 7) sc__law_draw.nd rfl (by first | exact Or.inl rfl | exact Or.inr rfl) (de_frz (de_ix (de_lstF (da_cons de_int (da_cons de_int (da_cons de_int (da_cons de_int (da_cons de_int da_nil)))))) (de_op op_mod s2_mod (de_intc T.z_int (de_var (pv 2))) de_int))))
  (dss_one (ds_ret (de_op op_mod s2_mod (de_op op_mod s2_mod (de_intc T.z_int (de_op op_fdiv s2_div (de_op op_mul s2_mul (de_var (pv 6)) (de_var (pv 6))) de_int)) (de_var (pv 7))) (de_var (pv 1)))))))))))))
theorem sc__law_need : FnScope ["pool", "count", "given"] ["pool", "count", "given"] (defScope st__law_need) := ⟨rfl, rfl, rfl, by decide +kernel, rfl, by decide +kernel, by decide +kernel⟩
theorem ok__law_need (T : Txt K mg) (o__law_draw : DefOk PySem.Challenge.pw_leanbundle_k83_programs_written w K mg base 1 "_law_draw" ["pool", "limit"] [0] F__law_draw) : DefOk PySem.Challenge.pw_leanbundle_k83_programs_written w K mg base 2 "_law_need" ["pool", "count", "given"] [0] F__law_need :=
  okDef (k := 1) T.d__law_need sc__law_need rfl [0] d__law_need (by decide) (fun _ _ F => F.binds (ps := ["pool", "count", "given"]) fun _ _ _ _ _ _ us hl => match us, hl with | [_, _, _], _ => rfl) fun cdv A outer s H E vs fa hr =>
  (dss_cons (ds_if (db_w (dw_and (db_cmp (op_neP hr.units) s2_ne (de_var (pv 2)) (de_lstF da_nil) (by with_unfolding_all rfl)) (dw_and1 (db_cmp op_gt s2_gt (de_callD o__law_draw (takes_of rfl rfl rfl rfl) hr (dar_io (pv 0) (dar_ex de_int dar_nil))) de_int (by with_unfolding_all rfl)))))
  (dss_one (ds_ret (de_ix (de_var (pv 2)) (de_callD o__law_draw (takes_of rfl rfl rfl rfl) hr (dar_io (pv 0) (dar_ex (de_len T.z_len (de_var (pv 2))) dar_nil))))))
  dss_nil)
  (dss_one (ds_ret (de_tup (da_cons (de_callD o__law_draw (takes_of rfl rfl rfl rfl) hr (dar_io (pv 0) (dar_ex (de_var (pv 1)) dar_nil))) (da_cons (de_ix de_str (de_callD o__law_draw (takes_of rfl rfl rfl rfl) hr (dar_io (pv 0) (dar_ex de_int dar_nil)))) da_nil))))))
theorem sc__law_needs : FnScope ["pool", "count", "given", "most", "k"] ["pool", "count", "given", "most"] (defScope st__law_needs) := ⟨rfl, rfl, rfl, by decide +kernel, rfl, by decide +kernel, by decide +kernel⟩
theorem ok__law_needs (T : Txt K mg) (o__law_draw : DefOk PySem.Challenge.pw_leanbundle_k83_programs_written w K mg base 1 "_law_draw" ["pool", "limit"] [0] F__law_draw) (o__law_need : DefOk PySem.Challenge.pw_leanbundle_k83_programs_written w K mg base 2 "_law_need" ["pool", "count", "given"] [0] F__law_need) : DefOk PySem.Challenge.pw_leanbundle_k83_programs_written w K mg base 3 "_law_needs" ["pool", "count", "given", "most"] [0] F__law_needs :=
  okDef (k := 2) T.d__law_needs sc__law_needs rfl [0] d__law_needs (by decide) (fun _ _ F => F.binds (ps := ["pool", "count", "given", "most"]) fun _ _ _ _ _ _ us hl => match us, hl with | [_, _, _, _], _ => rfl) fun cdv A outer s H E vs fa hr =>
  (dss_one (ds_ret (de_tuple T.z_tuple (de_lc (own := [("k", 4)]) rfl sc__law_needs.nd (di_range1 T.z_range (de_callD o__law_draw (takes_of rfl rfl rfl rfl) hr (dar_io (pv 0) (dar_ex (de_op op_addG s2_add' (de_var (pv 3)) de_int) dar_nil)))) (by exact (show BlkOk ["pool", "count", "given", "most", "k"] (defScope st__law_needs) _ [("k", 4)] from ⟨rfl, by decide +kernel, by decide +kernel, by decide +kernel, by decide +kernel⟩)) (fun _ _ _ _ _ => (dg_name (i := 4) sc__law_needs.nd rfl (by first | exact Or.inl rfl | exact Or.inr rfl))) (fun _ _ _ _ _ => dpts_nil) (fun _ _ _ _ _ => (de_callD o__law_need takes0 hr (dar_io (pv 0) (dar_ex (de_var (pv 1)) (dar_ex (de_var (pv 2)) dar_nil)))))))))
theorem sc__law_row : FnScope ["pool", "word", "name", "count", "given"] ["pool", "word", "name", "count", "given"] (defScope st__law_row) := ⟨rfl, rfl, rfl, by decide +kernel, rfl, by decide +kernel, by decide +kernel⟩
theorem ok__law_row (T : Txt K mg) (o__law_draw : DefOk PySem.Challenge.pw_leanbundle_k83_programs_written w K mg base 1 "_law_draw" ["pool", "limit"] [0] F__law_draw) (o__law_need : DefOk PySem.Challenge.pw_leanbundle_k83_programs_written w K mg base 2 "_law_need" ["pool", "count", "given"] [0] F__law_need) (o__law_needs : DefOk PySem.Challenge.pw_leanbundle_k83_programs_written w K mg base 3 "_law_needs" ["pool", "count", "given", "most"] [0] F__law_needs) : DefOk PySem.Challenge.pw_leanbundle_k83_programs_written w K mg base 4 "_law_row" ["pool", "word", "name", "count", "given"] [0] F__law_row :=
  okDef (k := 3) T.d__law_row sc__law_row rfl [0] d__law_row (by decide) (fun _ _ F => F.binds (ps := ["pool", "word", "name", "count", "given"]) fun _ _ _ _ _ _ us hl => match us, hl with | [_, _, _, _, _], _ => rfl) fun cdv A outer s H E vs fa hr =>
  (dss_cons (ds_if (db_cmp (op_eqP hr.units) s2_eq (de_var (pv 1)) de_str (by with_unfolding_all rfl))
  (dss_one (ds_ret (de_tup (da_cons (de_var (pv 1)) (da_cons (de_callD o__law_draw (takes_of rfl rfl rfl rfl) hr (dar_io (pv 0) (dar_ex (de_var (pv 3)) dar_nil))) da_nil)))))
  dss_nil)
  (dss_cons (ds_if (db_cmp (op_eqP hr.units) s2_eq (de_var (pv 1)) de_str (by with_unfolding_all rfl))
  (dss_one (ds_ret (de_tup (da_cons (de_var (pv 1)) (da_cons (de_var (pv 2)) (da_cons (de_callD o__law_needs (takes_of rfl rfl rfl rfl) hr (dar_io (pv 0) (dar_ex (de_var (pv 3)) (dar_ex (de_var (pv 4)) (dar_ex de_int dar_nil))))) (da_cons (de_cmp (op_eqP hr.units) s2_eq (de_callD o__law_draw (takes_of rfl rfl rfl rfl) hr (dar_io (pv 0) (dar_ex de_int dar_nil))) de_int (by with_unfolding_all rfl)) da_nil)))))))
  dss_nil)
  (dss_cons (ds_if (db_cmp (op_eqP hr.units) s2_eq (de_var (pv 1)) de_str (by with_unfolding_all rfl))
  (dss_one (ds_ret (de_op op_addG s2_add' (de_tup (da_cons (de_var (pv 1)) (da_cons (de_var (pv 2)) da_nil))) (de_callD o__law_need (takes_of rfl rfl rfl rfl) hr (dar_io (pv 0) (dar_ex (de_var (pv 3)) (dar_ex (de_var (pv 4)) dar_nil)))))))
  dss_nil)
  (dss_cons (ds_if (db_cmp (op_eqP hr.units) s2_eq (de_var (pv 1)) de_str (by with_unfolding_all rfl))
  (dss_one (ds_ret (de_tup (da_cons (de_var (pv 1)) (da_cons (de_callD o__law_needs (takes_of rfl rfl rfl rfl) hr (dar_io (pv 0) (dar_ex (de_var (pv 3)) (dar_ex (de_var (pv 4)) (dar_ex de_int dar_nil))))) (da_cons (de_cmp (op_eqP hr.units) s2_eq (de_callD o__law_draw (takes_of rfl rfl rfl rfl) hr (dar_io (pv 0) (dar_ex de_int dar_nil))) de_int (by with_unfolding_all rfl)) da_nil))))))
  dss_nil)
  (dss_cons (ds_if (db_cmp (op_eqP hr.units) s2_eq (de_var (pv 1)) de_str (by with_unfolding_all rfl))
  (dss_one (ds_ret (de_tup (da_cons (de_var (pv 1)) (da_cons (de_var (pv 2)) (da_cons (de_op op_sub s2_sub (de_callD o__law_draw (takes_of rfl rfl rfl rfl) hr (dar_io (pv 0) (dar_ex (de_op op_addG s2_add' (de_var (pv 3)) de_int) dar_nil))) de_int) (da_cons (de_callD o__law_needs (takes_of rfl rfl rfl rfl) hr (dar_io (pv 0) (dar_ex (de_var (pv 3)) (dar_ex (de_var (pv 4)) (dar_ex de_int dar_nil))))) da_nil)))))))
  dss_nil)
  (dss_one (ds_ret (de_tup (da_cons (de_var (pv 1)) da_nil)))))))))
theorem sc__law_subset : FnScope ["pool", "items", "most", "kept", "item"] ["pool", "items", "most"] (defScope st__law_subset) := ⟨rfl, rfl, rfl, by decide +kernel, rfl, by decide +kernel, by decide +kernel⟩
theorem ok__law_subset (T : Txt K mg) (o__law_draw : DefOk PySem.Challenge.pw_leanbundle_k83_programs_written w K mg base 1 "_law_draw" ["pool", "limit"] [0] F__law_draw) : DefOk PySem.Challenge.pw_leanbundle_k83_programs_written w K mg base 2 "_law_subset" ["pool", "items", "most"] [0] F__law_subset :=
  okDef (k := 1) T.d__law_subset sc__law_subset rfl [0] d__law_subset (by decide) (fun _ _ F => F.binds (ps := ["pool", "items", "most"]) fun _ _ _ _ _ _ us hl => match us, hl with | [_, _, _], _ => rfl) fun cdv A outer s H E vs fa hr =>
  (dss_cons (ds_set (i := 3) sc__law_subset.nd rfl (by first | exact Or.inl rfl | exact Or.inr rfl) (de_lstF da_nil))
  (dss_cons (ds_for (passes_of rfl) rfl (di_seq (de_var (pv 1))) (dg_name (i := 4) sc__law_subset.nd rfl (by first | exact Or.inl rfl | exact Or.inr rfl))
  (dss_one (ds_if (db_w (dw_and (db_cmp op_lt s2_lt (de_lenO T.z_len (pv 3)) (de_var (pv 2)) (by with_unfolding_all rfl)) (dw_and1 (db_cmp (op_eqP hr.units) s2_eq (de_callD o__law_draw (takes_of rfl rfl rfl rfl) hr (dar_io (pv 0) (dar_ex de_int dar_nil))) de_int (by with_unfolding_all rfl)))))
  (dss_one (ds_expr (de_app (pv 3) (de_var (pv 4)))))
  dss_nil)))
  (dss_one (ds_ret (de_mv (pv 3))))))
theorem sc__law_with_show : FnScope ["words", "row", "full", "at", "word", "name", "k"] ["words"] (defScope st__law_with_show) := ⟨rfl, rfl, rfl, by decide +kernel, rfl, by decide +kernel, by decide +kernel⟩
theorem ok__law_with_show (T : Txt K mg) : DefOk PySem.Challenge.pw_leanbundle_k83_programs_written w K mg base 1 "_law_with_show" ["words"] [] F__law_with_show :=
  okDef (k := 0) T.d__law_with_show sc__law_with_show rfl [] d__law_with_show (by decide) (fun _ _ F => F.binds (ps := ["words"]) fun _ _ _ _ _ _ us hl => match us, hl with | [_], _ => rfl) fun cdv A outer s H E vs fa hr =>
  (dss_cons (ds_for (passes_of rfl) rfl (di_seq (de_var (pv 0))) (dg_name (i := 1) sc__law_with_show.nd rfl (by first | exact Or.inl rfl | exact Or.inr rfl))
  (dss_one (ds_for (passes_of rfl) rfl (di_seq (de_var (pv 1))) (dg_tup rfl (dgs_cons (dg_name (i := 4) sc__law_with_show.nd rfl (by first | exact Or.inl rfl | exact Or.inr rfl)) (dgs_cons (dg_name (i := 5) sc__law_with_show.nd rfl (by first | exact Or.inl rfl | exact Or.inr rfl)) dgs_nil)))
  (dss_one (ds_if (db_w (dw_or (db_cmp (op_eqP hr.units) s2_eq (de_var (pv 4)) de_str (by with_unfolding_all rfl)) (dw_or1 (db_cmp (op_eqP hr.units) s2_eq (de_var (pv 4)) de_str (by with_unfolding_all rfl)))))
  (dss_one (ds_ret (de_var (pv 0))))
  dss_nil)))))
  (dss_cons (by first | exact ds_setLcF (own := [("k", 6)]) (i := 2) rfl sc__law_with_show.nd rfl rfl (by rfl) (di_range1 T.z_range (de_len T.z_len (de_var (pv 0)))) (by exact (show BlkOk ["words", "row", "full", "at", "word", "name", "k"] (defScope st__law_with_show) _ [("k", 6)] from ⟨rfl, by decide +kernel, by decide +kernel, by decide +kernel, by decide +kernel⟩)) (fun _ _ _ _ _ => (dg_name (i := 6) sc__law_with_show.nd rfl (by first | exact Or.inl rfl | exact Or.inr rfl))) (fun _ _ _ _ _ => (dpts_one (db_cmp (op_neP hr.units) s2_ne (de_ix (de_var (pv 0)) (de_var (pv 6))) (de_lstF da_nil) (by with_unfolding_all rfl)))) (fun _ _ _ _ _ => (de_var (pv 6))) | exact ds_set (i := 2) sc__law_with_show.nd rfl (by first | exact Or.inl rfl | exact Or.inr rfl) (de_frz (de_lc (own := [("k", 6)]) rfl sc__law_with_show.nd (di_range1 T.z_range (de_len T.z_len (de_var (pv 0)))) (by exact (show BlkOk ["words", "row", "full", "at", "word", "name", "k"] (defScope st__law_with_show) _ [("k", 6)] from ⟨rfl, by decide +kernel, by decide +kernel, by decide +kernel, by decide +kernel⟩)) (fun _ _ _ _ _ => (dg_name (i := 6) sc__law_with_show.nd rfl (by first | exact Or.inl rfl | exact Or.inr rfl))) (fun _ _ _ _ _ => (dpts_one (db_cmp (op_neP hr.units) s2_ne (de_ix (de_var (pv 0)) (de_var (pv 6))) (de_lstF da_nil) (by with_unfolding_all rfl)))) (fun _ _ _ _ _ => (de_var (pv 6))))))
  (dss_cons (ds_set (i := 3) sc__law_with_show.nd rfl (by first | exact Or.inl rfl | exact Or.inr rfl) (de_frz (de_ix (de_op op_addG s2_add' (de_var (pv 2)) (de_lstF (da_cons de_int da_nil))) de_int)))
  (dss_one (ds_ret (de_frz (de_lc (own := [("k", 6), ("row", 1)]) rfl sc__law_with_show.nd (di_enum T.z_enumerate (de_var (pv 0))) (by exact (show BlkOk ["words", "row", "full", "at", "word", "name", "k"] (defScope st__law_with_show) _ [("k", 6), ("row", 1)] from ⟨rfl, by decide +kernel, by decide +kernel, by decide +kernel, by decide +kernel⟩)) (fun _ _ _ _ _ => (dg_tup rfl (dgs_cons (dg_name (i := 6) sc__law_with_show.nd rfl (by first | exact Or.inl rfl | exact Or.inr rfl)) (dgs_cons (dg_name (i := 1) sc__law_with_show.nd rfl (by first | exact Or.inl rfl | exact Or.inr rfl)) dgs_nil)))) (fun _ _ _ _ _ => dpts_nil) (fun _ _ _ _ _ => (de_if (db_cmp (op_eqP hr.units) s2_eq (de_var (pv 6)) (de_var (pv 3)) (by with_unfolding_all rfl)) (de_op op_addG s2_add' (de_slice (de_var (pv 1)) do_none (do_some (de_neg de_int))) (de_lstF (da_cons (de_tup (da_cons de_str (da_cons de_str da_nil))) da_nil))) (de_var (pv 1)))))))))))
theorem sc__law_words : FnScope ["pool", "count", "most_rows", "most_outs", "words", "left", "outs", "part", "row", "k", "word"] ["pool", "count", "most_rows", "most_outs"] (defScope st__law_words) := ⟨rfl, rfl, rfl, by decide +kernel, rfl, by decide +kernel, by decide +kernel⟩
theorem ok__law_words (T : Txt K mg) (o__law_draw : DefOk PySem.Challenge.pw_leanbundle_k83_programs_written w K mg base 1 "_law_draw" ["pool", "limit"] [0] F__law_draw) : DefOk PySem.Challenge.pw_leanbundle_k83_programs_written w K mg base 2 "_law_words" ["pool", "count", "most_rows", "most_outs"] [0] F__law_words :=
  okDef (k := 1) T.d__law_words sc__law_words rfl [0] d__law_words (by decide) (fun _ _ F => F.binds (ps := ["pool", "count", "most_rows", "most_outs"]) fun _ _ _ _ _ _ us hl => match us, hl with | [_, _, _, _], _ => rfl) fun cdv A outer s H E vs fa hr =>
  (dss_cons (ds_set (i := 4) sc__law_words.nd rfl (by first | exact Or.inl rfl | exact Or.inr rfl) (de_lstF da_nil))
  (dss_cons (ds_set (i := 5) sc__law_words.nd rfl (by first | exact Or.inl rfl | exact Or.inr rfl) (de_frz (de_var (pv 2))))
  (dss_cons (ds_set (i := 6) sc__law_words.nd rfl (by first | exact Or.inl rfl | exact Or.inr rfl) (de_frz (de_var (pv 3))))
  (dss_cons (ds_for (passes_of rfl) rfl (di_range1 T.z_range (de_var (pv 1))) (dg_name (i := 7) sc__law_words.nd rfl (by first | exact Or.inl rfl | exact Or.inr rfl))
  (dss_cons (ds_set (i := 8) sc__law_words.nd rfl (by first | exact Or.inl rfl | exact Or.inr rfl) (de_lstF da_nil))
  (dss_cons (ds_for (passes_of rfl) rfl (di_range1 T.z_range (de_min2 rfl T.z_min (de_var (pv 5)) (de_callD o__law_draw (takes_of rfl rfl rfl rfl) hr (dar_io (pv 0) (dar_ex de_int dar_nil))))) (dg_name (i := 9) sc__law_words.nd rfl (by first | exact Or.inl rfl | exact Or.inr rfl))
  (dss_cons (ds_set (i := 10) sc__law_words.nd rfl (by first | exact Or.inl rfl | exact Or.inr rfl) (de_frz (de_ix (de_lstF (da_cons de_str (da_cons de_str (da_cons de_str (da_cons de_str (da_cons de_str (da_cons de_str (da_cons de_str (da_cons de_str da_nil))))))))) (de_callD o__law_draw (takes_of rfl rfl rfl rfl) hr (dar_io (pv 0) (dar_ex de_int dar_nil))))))
  (dss_cons (ds_if (db_w (dw_and (db_cmp (op_eqP hr.units) s2_eq (de_var (pv 10)) de_str (by with_unfolding_all rfl)) (dw_and1 (db_cmp (op_eqP hr.units) s2_eq (de_var (pv 6)) de_int (by with_unfolding_all rfl)))))
  (dss_one (ds_set (i := 10) sc__law_words.nd rfl (by first | exact Or.inl rfl | exact Or.inr rfl) de_str))
  dss_nil)
  (dss_cons (ds_set (i := 6) sc__law_words.nd rfl (by first | exact Or.inl rfl | exact Or.inr rfl) (de_op op_sub s2_sub (de_var (pv 6)) (de_intc T.z_int (de_cmp (op_eqP hr.units) s2_eq (de_var (pv 10)) de_str (by with_unfolding_all rfl)))))
  (dss_one (ds_expr (de_app (pv 8) (de_tup (da_cons (de_var (pv 10)) (da_cons (de_ix de_str (de_callD o__law_draw (takes_of rfl rfl rfl rfl) hr (dar_io (pv 0) (dar_ex de_int dar_nil)))) da_nil))))))))))
  (dss_cons (ds_set (i := 5) sc__law_words.nd rfl (by first | exact Or.inl rfl | exact Or.inr rfl) (de_op op_sub s2_sub (de_var (pv 5)) (de_lenO T.z_len (pv 8))))
  (dss_one (ds_expr (de_app (pv 4) (de_var (pv 8)))))))))
  (dss_one (ds_ret (de_mv (pv 4))))))))
theorem sc__law_program : FnScope ["pool", "most_parts", "most_rows", "most_outs", "most_entries", "most_opens", "count", "entries", "words", "given", "part", "one", "opens", "marks", "parts", "row", "word", "name"] ["pool", "most_parts", "most_rows", "most_outs", "most_entries", "most_opens"] (defScope st__law_program) := ⟨rfl, rfl, rfl, by decide +kernel, rfl, by decide +kernel, by decide +kernel⟩
theorem ok__law_program (T : Txt K mg) (o__law_draw : DefOk PySem.Challenge.pw_leanbundle_k83_programs_written w K mg base 1 "_law_draw" ["pool", "limit"] [0] F__law_draw) (o__law_row : DefOk PySem.Challenge.pw_leanbundle_k83_programs_written w K mg base 4 "_law_row" ["pool", "word", "name", "count", "given"] [0] F__law_row) (o__law_subset : DefOk PySem.Challenge.pw_leanbundle_k83_programs_written w K mg base 2 "_law_subset" ["pool", "items", "most"] [0] F__law_subset) (o__law_with_show : DefOk PySem.Challenge.pw_leanbundle_k83_programs_written w K mg base 1 "_law_with_show" ["words"] [] F__law_with_show) (o__law_words : DefOk PySem.Challenge.pw_leanbundle_k83_programs_written w K mg base 2 "_law_words" ["pool", "count", "most_rows", "most_outs"] [0] F__law_words) : DefOk PySem.Challenge.pw_leanbundle_k83_programs_written w K mg base 5 "_law_program" ["pool", "most_parts", "most_rows", "most_outs", "most_entries", "most_opens"] [0] F__law_program :=
  okDef (k := 4) T.d__law_program sc__law_program rfl [0] d__law_program (by decide) (fun _ _ F => F.binds (ps := ["pool", "most_parts", "most_rows", "most_outs", "most_entries", "most_opens"]) fun _ _ _ _ _ _ us hl => match us, hl with | [_, _, _, _, _, _], _ => rfl) fun cdv A outer s H E vs fa hr =>
  (dss_cons (ds_set (i := 6) sc__law_program.nd rfl (by first | exact Or.inl rfl | exact Or.inr rfl) (de_op op_addG s2_add' de_int (de_callD o__law_draw (takes_of rfl rfl rfl rfl) hr (dar_io (pv 0) (dar_ex (de_var (pv 1)) dar_nil)))))
  (dss_cons (ds_set (i := 7) sc__law_program.nd rfl (by first | exact Or.inl rfl | exact Or.inr rfl) (de_frz (de_callD o__law_subset (takes_of rfl rfl rfl rfl) hr (dar_io (pv 0) (dar_ex (de_frz (de_lRg1 rfl T.z_list T.z_range (de_var (pv 6)))) (dar_ex (de_var (pv 4)) dar_nil))))))
  (dss_cons (ds_if (db_cmp (op_eqP hr.units) s2_eq (de_var (pv 7)) (de_lstF da_nil) (by with_unfolding_all rfl))
  (dss_one (ds_set (i := 7) sc__law_program.nd rfl (by first | exact Or.inl rfl | exact Or.inr rfl) (de_frz (de_lstF (da_cons (de_callD o__law_draw (takes_of rfl rfl rfl rfl) hr (dar_io (pv 0) (dar_ex (de_var (pv 6)) dar_nil))) da_nil)))))
  dss_nil)
  (dss_cons (ds_set (i := 8) sc__law_program.nd rfl (by first | exact Or.inl rfl | exact Or.inr rfl) (de_frz (de_callD o__law_with_show (takes_of rfl rfl rfl rfl) hr (dar_ex (de_frz (de_callD o__law_words (takes_of rfl rfl rfl rfl) hr (dar_io (pv 0) (dar_ex (de_var (pv 6)) (dar_ex (de_var (pv 2)) (dar_ex (de_var (pv 3)) dar_nil)))))) dar_nil))))
  (dss_cons (ds_set (i := 9) sc__law_program.nd rfl (by first | exact Or.inl rfl | exact Or.inr rfl) (de_frz (de_lstF da_nil)))
  (dss_cons (ds_for (passes_of rfl) rfl (di_range1 T.z_range (de_var (pv 6))) (dg_name (i := 10) sc__law_program.nd rfl (by first | exact Or.inl rfl | exact Or.inr rfl))
  (dss_one (ds_set (i := 9) sc__law_program.nd rfl (by first | exact Or.inl rfl | exact Or.inr rfl) (de_frz (de_op op_addG s2_add' (de_var (pv 9)) (de_lc (own := [("word", 16), ("name", 17)]) rfl sc__law_program.nd (di_seq (de_ix (de_var (pv 8)) (de_var (pv 10)))) (by exact (show BlkOk ["pool", "most_parts", "most_rows", "most_outs", "most_entries", "most_opens", "count", "entries", "words", "given", "part", "one", "opens", "marks", "parts", "row", "word", "name"] (defScope st__law_program) _ [("word", 16), ("name", 17)] from ⟨rfl, by decide +kernel, by decide +kernel, by decide +kernel, by decide +kernel⟩)) (fun _ _ _ _ _ => (dg_tup rfl (dgs_cons (dg_name (i := 16) sc__law_program.nd rfl (by first | exact Or.inl rfl | exact Or.inr rfl)) (dgs_cons (dg_name (i := 17) sc__law_program.nd rfl (by first | exact Or.inl rfl | exact Or.inr rfl)) dgs_nil)))) (fun _ _ _ _ _ => (dpts_one (db_cmp (op_inP hr.units) s2_in (de_var (pv 16)) (de_lstF (da_cons de_str (da_cons de_str (da_cons de_str da_nil)))) (by with_unfolding_all rfl)))) (fun _ _ _ _ _ => (de_tup (da_cons (de_var (pv 10)) (da_cons (de_var (pv 17)) da_nil))))))))))
  (dss_cons (ds_set (i := 9) sc__law_program.nd rfl (by first | exact Or.inl rfl | exact Or.inr rfl) (de_frz (de_sortSet rfl hr.units T.z_sorted T.z_set (de_var (pv 9)))))
  (dss_cons (ds_set (i := 11) sc__law_program.nd rfl (by first | exact Or.inl rfl | exact Or.inr rfl) (de_tup (da_cons (de_callD o__law_draw (takes_of rfl rfl rfl rfl) hr (dar_io (pv 0) (dar_ex (de_var (pv 6)) dar_nil))) (da_cons (de_ix de_str (de_callD o__law_draw (takes_of rfl rfl rfl rfl) hr (dar_io (pv 0) (dar_ex de_int dar_nil)))) da_nil))))
  (dss_cons (ds_set (i := 12) sc__law_program.nd rfl (by first | exact Or.inl rfl | exact Or.inr rfl) (de_frz (de_callD o__law_subset (takes_of rfl rfl rfl rfl) hr (dar_io (pv 0) (dar_ex (de_frz (de_sortSet rfl hr.units T.z_sorted T.z_set (de_op op_addG s2_add' (de_var (pv 9)) (de_lstF (da_cons (de_var (pv 11)) da_nil))))) (dar_ex (de_var (pv 5)) dar_nil))))))
  (dss_cons (ds_set (i := 13) sc__law_program.nd rfl (by first | exact Or.inl rfl | exact Or.inr rfl) (de_tuple T.z_tuple (de_lc (own := [("part", 10)]) rfl sc__law_program.nd (di_range1 T.z_range (de_var (pv 6))) (by exact (show BlkOk ["pool", "most_parts", "most_rows", "most_outs", "most_entries", "most_opens", "count", "entries", "words", "given", "part", "one", "opens", "marks", "parts", "row", "word", "name"] (defScope st__law_program) _ [("part", 10)] from ⟨rfl, by decide +kernel, by decide +kernel, by decide +kernel, by decide +kernel⟩)) (fun _ _ _ _ _ => (dg_name (i := 10) sc__law_program.nd rfl (by first | exact Or.inl rfl | exact Or.inr rfl))) (fun _ _ _ _ _ => dpts_nil) (fun _ _ _ _ _ => (de_cmp (op_eqP hr.units) s2_eq (de_callD o__law_draw takes0 hr (dar_io (pv 0) (dar_ex de_int dar_nil))) de_int (by with_unfolding_all rfl))))))
  (dss_cons (ds_set (i := 14) sc__law_program.nd rfl (by first | exact Or.inl rfl | exact Or.inr rfl) (de_lstF da_nil))
  (dss_cons (ds_for (passes_of rfl) rfl (di_seq (de_var (pv 8))) (dg_name (i := 15) sc__law_program.nd rfl (by first | exact Or.inl rfl | exact Or.inr rfl))
  (dss_one (ds_expr (de_app (pv 14) (de_tuple T.z_tuple (de_lc (own := [("word", 16), ("name", 17)]) rfl sc__law_program.nd (di_seq (de_var (pv 15))) (by exact (show BlkOk ["pool", "most_parts", "most_rows", "most_outs", "most_entries", "most_opens", "count", "entries", "words", "given", "part", "one", "opens", "marks", "parts", "row", "word", "name"] (defScope st__law_program) _ [("word", 16), ("name", 17)] from ⟨rfl, by decide +kernel, by decide +kernel, by decide +kernel, by decide +kernel⟩)) (fun _ _ _ _ _ => (dg_tup rfl (dgs_cons (dg_name (i := 16) sc__law_program.nd rfl (by first | exact Or.inl rfl | exact Or.inr rfl)) (dgs_cons (dg_name (i := 17) sc__law_program.nd rfl (by first | exact Or.inl rfl | exact Or.inr rfl)) dgs_nil)))) (fun _ _ _ _ _ => dpts_nil) (fun _ _ _ _ _ => (de_callD o__law_row takes0 hr (dar_io (pv 0) (dar_ex (de_var (pv 16)) (dar_ex (de_var (pv 17)) (dar_ex (de_var (pv 6)) (dar_ex (de_var (pv 9)) dar_nil)))))))))))))
  (dss_one (ds_ret (de_tup (da_cons (de_tuple T.z_tuple (de_var (pv 14))) (da_cons (de_var (pv 13)) (da_cons (de_tuple T.z_tuple (de_var (pv 7))) (da_cons (de_tuple T.z_tuple (de_var (pv 12))) da_nil)))))))))))))))))))
theorem sc_is_ascending : FnScope ["items", "k"] ["items"] (defScope st_is_ascending) := ⟨rfl, rfl, rfl, by decide +kernel, rfl, by decide +kernel, by decide +kernel⟩
theorem ok_is_ascending (T : Txt K mg) : DefOk PySem.Challenge.pw_leanbundle_k83_programs_written w K mg base 1 "is_ascending" ["items"] [] F_is_ascending :=
  okDef (k := 0) T.d_is_ascending sc_is_ascending rfl [] d_is_ascending (by decide) (fun _ _ F => F.binds (ps := ["items"]) fun _ _ _ _ _ _ us hl => match us, hl with | [_], _ => rfl) fun cdv A outer s H E vs fa hr =>
  (dss_one (ds_ret (de_all rfl T.z_all (de_lc (own := [("k", 1)]) rfl sc_is_ascending.nd (di_range1 T.z_range (de_op op_sub s2_sub (de_len T.z_len (de_var (pv 0))) de_int)) (by exact (show BlkOk ["items", "k"] (defScope st_is_ascending) _ [("k", 1)] from ⟨rfl, by decide +kernel, by decide +kernel, by decide +kernel, by decide +kernel⟩)) (fun _ _ _ _ _ => (dg_name (i := 1) sc_is_ascending.nd rfl (by first | exact Or.inl rfl | exact Or.inr rfl))) (fun _ _ _ _ _ => dpts_nil) (fun _ _ _ _ _ => (de_cmp (op_ltP hr.units) s2_ltD (de_ix (de_var (pv 0)) (de_var (pv 1))) (de_ix (de_var (pv 0)) (de_op op_addG s2_add' (de_var (pv 1)) de_int)) (by with_unfolding_all rfl)))))))
theorem sc_is_integer : FnScope ["thing"] ["thing"] (defScope st_is_integer) := ⟨rfl, rfl, rfl, by decide +kernel, rfl, by decide +kernel, by decide +kernel⟩
theorem ok_is_integer (T : Txt K mg) : DefOk PySem.Challenge.pw_leanbundle_k83_programs_written w K mg base 1 "is_integer" ["thing"] [] F_is_integer :=
  okDef (k := 0) T.d_is_integer sc_is_integer rfl [] d_is_integer (by decide) (fun _ _ F => F.binds (ps := ["thing"]) fun _ _ _ _ _ _ us hl => match us, hl with | [_], _ => rfl) fun cdv A outer s H E vs fa hr =>
  (dss_one (ds_ret (de_and (de_isi T.z_isinstance T.z_int bb_int (by decide) (de_var (pv 0))) (de_one (de_not (de_isi T.z_isinstance T.z_bool bb_bool (by decide) (de_var (pv 0))))))))
theorem sc_is_number : FnScope ["thing", "count"] ["thing", "count"] (defScope st_is_number) := ⟨rfl, rfl, rfl, by decide +kernel, rfl, by decide +kernel, by decide +kernel⟩
theorem ok_is_number (T : Txt K mg) (o_is_integer : DefOk PySem.Challenge.pw_leanbundle_k83_programs_written w K mg base 1 "is_integer" ["thing"] [] F_is_integer) : DefOk PySem.Challenge.pw_leanbundle_k83_programs_written w K mg base 2 "is_number" ["thing", "count"] [] F_is_number :=
  okDef (k := 1) T.d_is_number sc_is_number rfl [] d_is_number (by decide) (fun _ _ F => F.binds (ps := ["thing", "count"]) fun _ _ _ _ _ _ us hl => match us, hl with | [_, _], _ => rfl) fun cdv A outer s H E vs fa hr =>
  (dss_one (ds_ret (de_and (de_callD o_is_integer (takes_of rfl rfl rfl rfl) hr (dar_ex (de_var (pv 0)) dar_nil)) (de_one (de_chain op_le s2_le op_lt s2_lt de_int (de_var (pv 0)) (de_var (pv 1)))))))
theorem sc_is_entries : FnScope ["thing", "count", "part"] ["thing", "count"] (defScope st_is_entries) := ⟨rfl, rfl, rfl, by decide +kernel, rfl, by decide +kernel, by decide +kernel⟩
theorem ok_is_entries (T : Txt K mg) (o_is_ascending : DefOk PySem.Challenge.pw_leanbundle_k83_programs_written w K mg base 1 "is_ascending" ["items"] [] F_is_ascending) (o_is_number : DefOk PySem.Challenge.pw_leanbundle_k83_programs_written w K mg base 2 "is_number" ["thing", "count"] [] F_is_number) : DefOk PySem.Challenge.pw_leanbundle_k83_programs_written w K mg base 3 "is_entries" ["thing", "count"] [] F_is_entries :=
  okDef (k := 2) T.d_is_entries sc_is_entries rfl [] d_is_entries (by decide) (fun _ _ F => F.binds (ps := ["thing", "count"]) fun _ _ _ _ _ _ us hl => match us, hl with | [_, _], _ => rfl) fun cdv A outer s H E vs fa hr =>
  (dss_cons (ds_if (db_w (dw_or (db_not (db_val (de_isi T.z_isinstance T.z_tuple bb_tuple (by decide) (de_var (pv 0))))) (dw_or1 (db_not (db_chain op_le s2_le op_le s2_le de_int (de_len T.z_len (de_var (pv 0))) (de_glob T.c_MOST_ENTRIES))))))
  (dss_one (ds_ret de_bl))
  dss_nil)
  (dss_one (ds_ret (de_and (de_all rfl T.z_all (de_lc (own := [("part", 2)]) rfl sc_is_entries.nd (di_seq (de_var (pv 0))) (by exact (show BlkOk ["thing", "count", "part"] (defScope st_is_entries) _ [("part", 2)] from ⟨rfl, by decide +kernel, by decide +kernel, by decide +kernel, by decide +kernel⟩)) (fun _ _ _ _ _ => (dg_name (i := 2) sc_is_entries.nd rfl (by first | exact Or.inl rfl | exact Or.inr rfl))) (fun _ _ _ _ _ => dpts_nil) (fun _ _ _ _ _ => (de_callD o_is_number takes0 hr (dar_ex (de_var (pv 2)) (dar_ex (de_var (pv 1)) dar_nil)))))) (de_one (de_callD o_is_ascending (takes_of rfl rfl rfl rfl) hr (dar_ex (de_var (pv 0)) dar_nil)))))))
theorem sc_is_flag : FnScope ["thing"] ["thing"] (defScope st_is_flag) := ⟨rfl, rfl, rfl, by decide +kernel, rfl, by decide +kernel, by decide +kernel⟩
theorem ok_is_flag (T : Txt K mg) : DefOk PySem.Challenge.pw_leanbundle_k83_programs_written w K mg base 1 "is_flag" ["thing"] [] F_is_flag :=
  okDef (k := 0) T.d_is_flag sc_is_flag rfl [] d_is_flag (by decide) (fun _ _ F => F.binds (ps := ["thing"]) fun _ _ _ _ _ _ us hl => match us, hl with | [_], _ => rfl) fun cdv A outer s H E vs fa hr =>
  (dss_one (ds_ret (de_or (de_cmp op_isB s2_isB (de_var (pv 0)) de_bl (by with_unfolding_all rfl)) (de_one (de_cmp op_isB s2_isB (de_var (pv 0)) de_bl (by with_unfolding_all rfl))))))
theorem sc_is_marks : FnScope ["thing", "count", "mark"] ["thing", "count"] (defScope st_is_marks) := ⟨rfl, rfl, rfl, by decide +kernel, rfl, by decide +kernel, by decide +kernel⟩
theorem ok_is_marks (T : Txt K mg) (o_is_flag : DefOk PySem.Challenge.pw_leanbundle_k83_programs_written w K mg base 1 "is_flag" ["thing"] [] F_is_flag) : DefOk PySem.Challenge.pw_leanbundle_k83_programs_written w K mg base 2 "is_marks" ["thing", "count"] [] F_is_marks :=
  okDef (k := 1) T.d_is_marks sc_is_marks rfl [] d_is_marks (by decide) (fun _ _ F => F.binds (ps := ["thing", "count"]) fun _ _ _ _ _ _ us hl => match us, hl with | [_, _], _ => rfl) fun cdv A outer s H E vs fa hr =>
  (dss_one (ds_ret (de_and (de_isi T.z_isinstance T.z_tuple bb_tuple (by decide) (de_var (pv 0))) (de_and (de_cmp (op_eqP hr.units) s2_eq (de_len T.z_len (de_var (pv 0))) (de_var (pv 1)) (by with_unfolding_all rfl)) (de_one (de_all rfl T.z_all (de_lc (own := [("mark", 2)]) rfl sc_is_marks.nd (di_seq (de_var (pv 0))) (by exact (show BlkOk ["thing", "count", "mark"] (defScope st_is_marks) _ [("mark", 2)] from ⟨rfl, by decide +kernel, by decide +kernel, by decide +kernel, by decide +kernel⟩)) (fun _ _ _ _ _ => (dg_name (i := 2) sc_is_marks.nd rfl (by first | exact Or.inl rfl | exact Or.inr rfl))) (fun _ _ _ _ _ => dpts_nil) (fun _ _ _ _ _ => (de_callD o_is_flag takes0 hr (dar_ex (de_var (pv 2)) dar_nil))))))))))
theorem sc_is_name : FnScope ["thing"] ["thing"] (defScope st_is_name) := ⟨rfl, rfl, rfl, by decide +kernel, rfl, by decide +kernel, by decide +kernel⟩
theorem ok_is_name (T : Txt K mg) : DefOk PySem.Challenge.pw_leanbundle_k83_programs_written w K mg base 1 "is_name" ["thing"] [] F_is_name :=
  okDef (k := 0) T.d_is_name sc_is_name rfl [] d_is_name (by decide) (fun _ _ F => F.binds (ps := ["thing"]) fun _ _ _ _ _ _ us hl => match us, hl with | [_], _ => rfl) fun cdv A outer s H E vs fa hr =>
  (dss_one (ds_ret (de_and (de_isi T.z_isinstance T.z_str bb_str (by decide) (de_var (pv 0))) (de_one (de_cmp (op_inP hr.units) s2_in (de_var (pv 0)) (de_glob T.c_NAMES) (by with_unfolding_all rfl))))))
theorem sc_is_named : FnScope ["thing", "count"] ["thing", "count"] (defScope st_is_named) := ⟨rfl, rfl, rfl, by decide +kernel, rfl, by decide +kernel, by decide +kernel⟩
theorem ok_is_named (T : Txt K mg) (o_is_name : DefOk PySem.Challenge.pw_leanbundle_k83_programs_written w K mg base 1 "is_name" ["thing"] [] F_is_name) (o_is_number : DefOk PySem.Challenge.pw_leanbundle_k83_programs_written w K mg base 2 "is_number" ["thing", "count"] [] F_is_number) : DefOk PySem.Challenge.pw_leanbundle_k83_programs_written w K mg base 3 "is_named" ["thing", "count"] [] F_is_named :=
  okDef (k := 2) T.d_is_named sc_is_named rfl [] d_is_named (by decide) (fun _ _ F => F.binds (ps := ["thing", "count"]) fun _ _ _ _ _ _ us hl => match us, hl with | [_, _], _ => rfl) fun cdv A outer s H E vs fa hr =>
  (dss_one (ds_ret (de_and (de_isi T.z_isinstance T.z_tuple bb_tuple (by decide) (de_var (pv 0))) (de_and (de_cmp (op_eqP hr.units) s2_eq (de_len T.z_len (de_var (pv 0))) de_int (by with_unfolding_all rfl)) (de_and (de_callD o_is_number (takes_of rfl rfl rfl rfl) hr (dar_ex (de_ix (de_var (pv 0)) de_int) (dar_ex (de_var (pv 1)) dar_nil))) (de_one (de_callD o_is_name (takes_of rfl rfl rfl rfl) hr (dar_ex (de_ix (de_var (pv 0)) de_int) dar_nil))))))))
theorem sc_is_opens : FnScope ["thing", "count", "name"] ["thing", "count"] (defScope st_is_opens) := ⟨rfl, rfl, rfl, by decide +kernel, rfl, by decide +kernel, by decide +kernel⟩
theorem ok_is_opens (T : Txt K mg) (o_is_ascending : DefOk PySem.Challenge.pw_leanbundle_k83_programs_written w K mg base 1 "is_ascending" ["items"] [] F_is_ascending) (o_is_named : DefOk PySem.Challenge.pw_leanbundle_k83_programs_written w K mg base 3 "is_named" ["thing", "count"] [] F_is_named) : DefOk PySem.Challenge.pw_leanbundle_k83_programs_written w K mg base 4 "is_opens" ["thing", "count"] [] F_is_opens :=
  okDef (k := 3) T.d_is_opens sc_is_opens rfl [] d_is_opens (by decide) (fun _ _ F => F.binds (ps := ["thing", "count"]) fun _ _ _ _ _ _ us hl => match us, hl with | [_, _], _ => rfl) fun cdv A outer s H E vs fa hr =>
  (dss_cons (ds_if (db_w (dw_or (db_not (db_val (de_isi T.z_isinstance T.z_tuple bb_tuple (by decide) (de_var (pv 0))))) (dw_or1 (db_cmp op_gt s2_gt (de_len T.z_len (de_var (pv 0))) (de_glob T.c_MOST_OPENS) (by with_unfolding_all rfl)))))
  (dss_one (ds_ret de_bl))
  dss_nil)
  (dss_one (ds_ret (de_and (de_all rfl T.z_all (de_lc (own := [("name", 2)]) rfl sc_is_opens.nd (di_seq (de_var (pv 0))) (by exact (show BlkOk ["thing", "count", "name"] (defScope st_is_opens) _ [("name", 2)] from ⟨rfl, by decide +kernel, by decide +kernel, by decide +kernel, by decide +kernel⟩)) (fun _ _ _ _ _ => (dg_name (i := 2) sc_is_opens.nd rfl (by first | exact Or.inl rfl | exact Or.inr rfl))) (fun _ _ _ _ _ => dpts_nil) (fun _ _ _ _ _ => (de_callD o_is_named takes0 hr (dar_ex (de_var (pv 2)) (dar_ex (de_var (pv 1)) dar_nil)))))) (de_one (de_callD o_is_ascending (takes_of rfl rfl rfl rfl) hr (dar_ex (de_var (pv 0)) dar_nil)))))))
theorem sc_is_needs : FnScope ["thing", "count", "most", "need"] ["thing", "count", "most"] (defScope st_is_needs) := ⟨rfl, rfl, rfl, by decide +kernel, rfl, by decide +kernel, by decide +kernel⟩
theorem ok_is_needs (T : Txt K mg) (o_is_named : DefOk PySem.Challenge.pw_leanbundle_k83_programs_written w K mg base 3 "is_named" ["thing", "count"] [] F_is_named) : DefOk PySem.Challenge.pw_leanbundle_k83_programs_written w K mg base 4 "is_needs" ["thing", "count", "most"] [] F_is_needs :=
  okDef (k := 3) T.d_is_needs sc_is_needs rfl [] d_is_needs (by decide) (fun _ _ F => F.binds (ps := ["thing", "count", "most"]) fun _ _ _ _ _ _ us hl => match us, hl with | [_, _, _], _ => rfl) fun cdv A outer s H E vs fa hr =>
  (dss_one (ds_ret (de_and (de_isi T.z_isinstance T.z_tuple bb_tuple (by decide) (de_var (pv 0))) (de_and (de_cmp op_le s2_le (de_len T.z_len (de_var (pv 0))) (de_var (pv 2)) (by with_unfolding_all rfl)) (de_one (de_all rfl T.z_all (de_lc (own := [("need", 3)]) rfl sc_is_needs.nd (di_seq (de_var (pv 0))) (by exact (show BlkOk ["thing", "count", "most", "need"] (defScope st_is_needs) _ [("need", 3)] from ⟨rfl, by decide +kernel, by decide +kernel, by decide +kernel, by decide +kernel⟩)) (fun _ _ _ _ _ => (dg_name (i := 3) sc_is_needs.nd rfl (by first | exact Or.inl rfl | exact Or.inr rfl))) (fun _ _ _ _ _ => dpts_nil) (fun _ _ _ _ _ => (de_callD o_is_named takes0 hr (dar_ex (de_var (pv 3)) (dar_ex (de_var (pv 1)) dar_nil)))))))))))
theorem sc_is_row : FnScope ["thing", "count", "word", "rest"] ["thing", "count"] (defScope st_is_row) := ⟨rfl, rfl, rfl, by decide +kernel, rfl, by decide +kernel, by decide +kernel⟩
theorem ok_is_row (T : Txt K mg) (o_is_flag : DefOk PySem.Challenge.pw_leanbundle_k83_programs_written w K mg base 1 "is_flag" ["thing"] [] F_is_flag) (o_is_integer : DefOk PySem.Challenge.pw_leanbundle_k83_programs_written w K mg base 1 "is_integer" ["thing"] [] F_is_integer) (o_is_name : DefOk PySem.Challenge.pw_leanbundle_k83_programs_written w K mg base 1 "is_name" ["thing"] [] F_is_name) (o_is_needs : DefOk PySem.Challenge.pw_leanbundle_k83_programs_written w K mg base 4 "is_needs" ["thing", "count", "most"] [] F_is_needs) (o_is_number : DefOk PySem.Challenge.pw_leanbundle_k83_programs_written w K mg base 2 "is_number" ["thing", "count"] [] F_is_number) : DefOk PySem.Challenge.pw_leanbundle_k83_programs_written w K mg base 5 "is_row" ["thing", "count"] [] F_is_row :=
  okDef (k := 4) T.d_is_row sc_is_row rfl [] d_is_row (by decide) (fun _ _ F => F.binds (ps := ["thing", "count"]) fun _ _ _ _ _ _ us hl => match us, hl with | [_, _], _ => rfl) fun cdv A outer s H E vs fa hr =>
  (dss_cons (ds_if (db_w (dw_or (db_not (db_val (de_isi T.z_isinstance T.z_tuple bb_tuple (by decide) (de_var (pv 0))))) (dw_or (db_cmp (op_eqP hr.units) s2_eq (de_len T.z_len (de_var (pv 0))) de_int (by with_unfolding_all rfl)) (dw_or1 (db_not (db_val (de_isi T.z_isinstance T.z_str bb_str (by decide) (de_ix (de_var (pv 0)) de_int))))))))
  (dss_one (ds_ret de_bl))
  dss_nil)
  (dss_cons (ds_asg (de_var (pv 0)) (dg_star rfl (dgs_cons (dg_name (i := 2) sc_is_row.nd rfl (by first | exact Or.inl rfl | exact Or.inr rfl)) (dgs_star (dg_name (i := 3) sc_is_row.nd rfl (by first | exact Or.inl rfl | exact Or.inr rfl)) dgs_nil))))
  (dss_cons (ds_if (db_cmp (op_eqP hr.units) s2_eq (de_var (pv 2)) de_str (by with_unfolding_all rfl))
  (dss_one (ds_ret (de_and (de_cmp (op_eqP hr.units) s2_eq (de_len T.z_len (de_var (pv 3))) de_int (by with_unfolding_all rfl)) (de_one (de_callD o_is_number (takes_of rfl rfl rfl rfl) hr (dar_ex (de_ix (de_var (pv 3)) de_int) (dar_ex (de_var (pv 1)) dar_nil)))))))
  dss_nil)
  (dss_cons (ds_if (db_cmp (op_eqP hr.units) s2_eq (de_var (pv 2)) de_str (by with_unfolding_all rfl))
  (dss_one (ds_ret (de_and (de_cmp (op_eqP hr.units) s2_eq (de_len T.z_len (de_var (pv 3))) de_int (by with_unfolding_all rfl)) (de_and (de_callD o_is_name (takes_of rfl rfl rfl rfl) hr (dar_ex (de_ix (de_var (pv 3)) de_int) dar_nil)) (de_and (de_callD o_is_needs (takes_of rfl rfl rfl rfl) hr (dar_ex (de_ix (de_var (pv 3)) de_int) (dar_ex (de_var (pv 1)) (dar_ex de_int dar_nil)))) (de_one (de_callD o_is_flag (takes_of rfl rfl rfl rfl) hr (dar_ex (de_ix (de_var (pv 3)) de_int) dar_nil))))))))
  dss_nil)
  (dss_cons (ds_if (db_cmp (op_eqP hr.units) s2_eq (de_var (pv 2)) de_str (by with_unfolding_all rfl))
  (dss_one (ds_ret (de_and (de_cmp (op_eqP hr.units) s2_eq (de_len T.z_len (de_var (pv 3))) de_int (by with_unfolding_all rfl)) (de_and (de_callD o_is_name (takes_of rfl rfl rfl rfl) hr (dar_ex (de_ix (de_var (pv 3)) de_int) dar_nil)) (de_and (de_callD o_is_number (takes_of rfl rfl rfl rfl) hr (dar_ex (de_ix (de_var (pv 3)) de_int) (dar_ex (de_var (pv 1)) dar_nil))) (de_one (de_callD o_is_name (takes_of rfl rfl rfl rfl) hr (dar_ex (de_ix (de_var (pv 3)) de_int) dar_nil))))))))
  dss_nil)
  (dss_cons (ds_if (db_cmp (op_eqP hr.units) s2_eq (de_var (pv 2)) de_str (by with_unfolding_all rfl))
  (dss_one (ds_ret (de_and (de_cmp (op_eqP hr.units) s2_eq (de_len T.z_len (de_var (pv 3))) de_int (by with_unfolding_all rfl)) (de_and (de_callD o_is_needs (takes_of rfl rfl rfl rfl) hr (dar_ex (de_ix (de_var (pv 3)) de_int) (dar_ex (de_var (pv 1)) (dar_ex de_int dar_nil)))) (de_one (de_callD o_is_flag (takes_of rfl rfl rfl rfl) hr (dar_ex (de_ix (de_var (pv 3)) de_int) dar_nil)))))))
  dss_nil)
  (dss_cons (ds_if (db_cmp (op_eqP hr.units) s2_eq (de_var (pv 2)) de_str (by with_unfolding_all rfl))
  (dss_cons (ds_if (db_w (dw_or (db_cmp (op_neP hr.units) s2_ne (de_len T.z_len (de_var (pv 3))) de_int (by with_unfolding_all rfl)) (dw_or (db_not (db_val (de_callD o_is_name (takes_of rfl rfl rfl rfl) hr (dar_ex (de_ix (de_var (pv 3)) de_int) dar_nil)))) (dw_or1 (db_not (db_val (de_callD o_is_integer (takes_of rfl rfl rfl rfl) hr (dar_ex (de_ix (de_var (pv 3)) de_int) dar_nil))))))))
  (dss_one (ds_ret de_bl))
  dss_nil)
  (dss_one (ds_ret (de_and (de_chain op_le s2_le op_lt s2_lt (de_neg de_int) (de_ix (de_var (pv 3)) de_int) (de_var (pv 1))) (de_one (de_callD o_is_needs (takes_of rfl rfl rfl rfl) hr (dar_ex (de_ix (de_var (pv 3)) de_int) (dar_ex (de_var (pv 1)) (dar_ex de_int dar_nil)))))))))
  dss_nil)
  (dss_one (ds_ret (de_and (de_cmp (op_eqP hr.units) s2_eq (de_var (pv 2)) de_str (by with_unfolding_all rfl)) (de_one (de_cmp (op_eqP hr.units) s2_eq (de_len T.z_len (de_var (pv 3))) de_int (by with_unfolding_all rfl)))))))))))))
theorem sc_is_parts : FnScope ["thing", "part", "row"] ["thing"] (defScope st_is_parts) := ⟨rfl, rfl, rfl, by decide +kernel, rfl, by decide +kernel, by decide +kernel⟩
theorem ok_is_parts (T : Txt K mg) (o_is_row : DefOk PySem.Challenge.pw_leanbundle_k83_programs_written w K mg base 5 "is_row" ["thing", "count"] [] F_is_row) : DefOk PySem.Challenge.pw_leanbundle_k83_programs_written w K mg base 6 "is_parts" ["thing"] [] F_is_parts :=
  okDef (k := 5) T.d_is_parts sc_is_parts rfl [] d_is_parts (by decide) (fun _ _ F => F.binds (ps := ["thing"]) fun _ _ _ _ _ _ us hl => match us, hl with | [_], _ => rfl) fun cdv A outer s H E vs fa hr =>
  (dss_cons (ds_if (db_w (dw_or (db_not (db_val (de_isi T.z_isinstance T.z_tuple bb_tuple (by decide) (de_var (pv 0))))) (dw_or1 (db_not (db_chain op_le s2_le op_le s2_le de_int (de_len T.z_len (de_var (pv 0))) (de_glob T.c_MOST_PARTS))))))
  (dss_one (ds_ret de_bl))
  dss_nil)
  (dss_cons (ds_if (db_not (db_val (de_all rfl T.z_all (de_lc (own := [("part", 1)]) rfl sc_is_parts.nd (di_seq (de_var (pv 0))) (by exact (show BlkOk ["thing", "part", "row"] (defScope st_is_parts) _ [("part", 1)] from ⟨rfl, by decide +kernel, by decide +kernel, by decide +kernel, by decide +kernel⟩)) (fun _ _ _ _ _ => (dg_name (i := 1) sc_is_parts.nd rfl (by first | exact Or.inl rfl | exact Or.inr rfl))) (fun _ _ _ _ _ => dpts_nil) (fun _ _ _ _ _ => (de_and (de_isi T.z_isinstance T.z_tuple bb_tuple (by decide) (de_var (pv 1))) (de_one (de_cmp op_le s2_le (de_len T.z_len (de_var (pv 1))) (de_glob T.c_MOST_ROWS) (by with_unfolding_all rfl)))))))))
  (dss_one (ds_ret de_bl))
  dss_nil)
  (dss_cons (ds_if (db_cmp op_gt s2_gt (de_sum rfl T.z_sum (de_lc (own := [("part", 1)]) rfl sc_is_parts.nd (di_seq (de_var (pv 0))) (by exact (show BlkOk ["thing", "part", "row"] (defScope st_is_parts) _ [("part", 1)] from ⟨rfl, by decide +kernel, by decide +kernel, by decide +kernel, by decide +kernel⟩)) (fun _ _ _ _ _ => (dg_name (i := 1) sc_is_parts.nd rfl (by first | exact Or.inl rfl | exact Or.inr rfl))) (fun _ _ _ _ _ => dpts_nil) (fun _ _ _ _ _ => (de_len T.z_len (de_var (pv 1)))))) (de_glob T.c_MOST_ROWS_IN_ALL) (by with_unfolding_all rfl))
  (dss_one (ds_ret de_bl))
  dss_nil)
  (dss_cons (ds_for (passes_of rfl) rfl (di_seq (de_var (pv 0))) (dg_name (i := 1) sc_is_parts.nd rfl (by first | exact Or.inl rfl | exact Or.inr rfl))
  (dss_one (ds_if (db_not (db_val (de_all rfl T.z_all (de_lc (own := [("row", 2)]) rfl sc_is_parts.nd (di_seq (de_var (pv 1))) (by exact (show BlkOk ["thing", "part", "row"] (defScope st_is_parts) _ [("row", 2)] from ⟨rfl, by decide +kernel, by decide +kernel, by decide +kernel, by decide +kernel⟩)) (fun _ _ _ _ _ => (dg_name (i := 2) sc_is_parts.nd rfl (by first | exact Or.inl rfl | exact Or.inr rfl))) (fun _ _ _ _ _ => dpts_nil) (fun _ _ _ _ _ => (de_callD o_is_row takes0 hr (dar_ex (de_var (pv 2)) (dar_ex (de_len T.z_len (de_var (pv 0))) dar_nil))))))))
  (dss_one (ds_ret de_bl))
  dss_nil)))
  (dss_one (ds_ret (de_cmp op_le s2_le (de_len T.z_len (de_lc2 (own := [("part", 1), ("row", 2)]) (vs1 := [2]) rfl sc_is_parts.nd (di_seq (de_var (pv 0))) (by exact (show BlkOk ["thing", "part", "row"] (defScope st_is_parts) _ [("part", 1), ("row", 2)] from ⟨rfl, by decide +kernel, by decide +kernel, by decide +kernel, by decide +kernel⟩)) (by decide) (fun _ _ _ _ _ => (dg_name (i := 1) sc_is_parts.nd rfl (by first | exact Or.inl rfl | exact Or.inr rfl))) (fun _ _ _ _ _ => dpts_nil) (fun _ _ _ _ _ => (di_seq (de_var (pv 1)))) (fun _ _ _ _ _ => (dg_name (i := 2) sc_is_parts.nd rfl (by first | exact Or.inl rfl | exact Or.inr rfl))) (fun _ _ _ _ _ => (dpts_one (db_cmp (op_eqP hr.units) s2_eq (de_ix (de_var (pv 2)) de_int) de_str (by with_unfolding_all rfl)))) (fun _ _ _ _ _ => (de_var (pv 2))))) (de_glob T.c_MOST_OUTS) (by with_unfolding_all rfl))))))))
theorem sc_is_program : FnScope ["thing", "parts", "marks", "entries", "opens", "count"] ["thing"] (defScope st_is_program) := ⟨rfl, rfl, rfl, by decide +kernel, rfl, by decide +kernel, by decide +kernel⟩
theorem ok_is_program (T : Txt K mg) (o_is_entries : DefOk PySem.Challenge.pw_leanbundle_k83_programs_written w K mg base 3 "is_entries" ["thing", "count"] [] F_is_entries) (o_is_marks : DefOk PySem.Challenge.pw_leanbundle_k83_programs_written w K mg base 2 "is_marks" ["thing", "count"] [] F_is_marks) (o_is_opens : DefOk PySem.Challenge.pw_leanbundle_k83_programs_written w K mg base 4 "is_opens" ["thing", "count"] [] F_is_opens) (o_is_parts : DefOk PySem.Challenge.pw_leanbundle_k83_programs_written w K mg base 6 "is_parts" ["thing"] [] F_is_parts) : DefOk PySem.Challenge.pw_leanbundle_k83_programs_written w K mg base 7 "is_program" ["thing"] [] F_is_program :=
  okDef (k := 6) T.d_is_program sc_is_program rfl [] d_is_program (by decide) (fun _ _ F => F.binds (ps := ["thing"]) fun _ _ _ _ _ _ us hl => match us, hl with | [_], _ => rfl) fun cdv A outer s H E vs fa hr =>
  (dss_cons (ds_if (db_w (dw_or (db_not (db_val (de_isi T.z_isinstance T.z_tuple bb_tuple (by decide) (de_var (pv 0))))) (dw_or1 (db_cmp (op_neP hr.units) s2_ne (de_len T.z_len (de_var (pv 0))) de_int (by with_unfolding_all rfl)))))
  (dss_one (ds_ret de_bl))
  dss_nil)
  (dss_cons (ds_asg (de_var (pv 0)) (dg_tup rfl (dgs_cons (dg_name (i := 1) sc_is_program.nd rfl (by first | exact Or.inl rfl | exact Or.inr rfl)) (dgs_cons (dg_name (i := 2) sc_is_program.nd rfl (by first | exact Or.inl rfl | exact Or.inr rfl)) (dgs_cons (dg_name (i := 3) sc_is_program.nd rfl (by first | exact Or.inl rfl | exact Or.inr rfl)) (dgs_cons (dg_name (i := 4) sc_is_program.nd rfl (by first | exact Or.inl rfl | exact Or.inr rfl)) dgs_nil))))))
  (dss_cons (ds_if (db_not (db_val (de_callD o_is_parts (takes_of rfl rfl rfl rfl) hr (dar_ex (de_var (pv 1)) dar_nil))))
  (dss_one (ds_ret de_bl))
  dss_nil)
  (dss_cons (ds_set (i := 5) sc_is_program.nd rfl (by first | exact Or.inl rfl | exact Or.inr rfl) (de_len T.z_len (de_var (pv 1))))
  (dss_one (ds_ret (de_and (de_callD o_is_marks (takes_of rfl rfl rfl rfl) hr (dar_ex (de_var (pv 2)) (dar_ex (de_var (pv 5)) dar_nil))) (de_and (de_callD o_is_entries (takes_of rfl rfl rfl rfl) hr (dar_ex (de_var (pv 3)) (dar_ex (de_var (pv 5)) dar_nil))) (de_one (de_callD o_is_opens (takes_of rfl rfl rfl rfl) hr (dar_ex (de_var (pv 4)) (dar_ex (de_var (pv 5)) dar_nil))))))))))))
theorem sc_need_program : FnScope ["program"] ["program"] (defScope st_need_program) := ⟨rfl, rfl, rfl, by decide +kernel, rfl, by decide +kernel, by decide +kernel⟩
theorem ok_need_program (T : Txt K mg) (o_is_program : DefOk PySem.Challenge.pw_leanbundle_k83_programs_written w K mg base 7 "is_program" ["thing"] [] F_is_program) : DefOk PySem.Challenge.pw_leanbundle_k83_programs_written w K mg base 8 "need_program" ["program"] [] F_need_program :=
  okDef (k := 7) T.d_need_program sc_need_program rfl [] d_need_program (by decide) (fun _ _ F => F.binds (ps := ["program"]) fun _ _ _ _ _ _ us hl => match us, hl with | [_], _ => rfl) fun cdv A outer s H E vs fa hr =>
  (dss_one (ds_if (db_not (db_val (de_callD o_is_program (takes_of rfl rfl rfl rfl) hr (dar_ex (de_var (pv 0)) dar_nil))))
  (dss_one ds_no)
  dss_nil))
theorem sc_written_name : FnScope ["name"] ["name"] (defScope st_written_name) := ⟨rfl, rfl, rfl, by decide +kernel, rfl, by decide +kernel, by decide +kernel⟩
theorem ok_written_name (T : Txt K mg) : DefOk PySem.Challenge.pw_leanbundle_k83_programs_written w K mg base 1 "written_name" ["name"] [] F_written_name :=
  okDef (k := 0) T.d_written_name sc_written_name rfl [] d_written_name (by decide) (fun _ _ F => F.binds (ps := ["name"]) fun _ _ _ _ _ _ us hl => match us, hl with | [_], _ => rfl) fun cdv A outer s H E vs fa hr =>
  (dss_one (ds_ret (de_joined (.cons (de_fmt (de_ix (de_var (pv 0)) de_int)) (.cons de_str (.cons (de_fmt (de_ix (de_var (pv 0)) de_int)) .nil))))))
theorem sc_written_names : FnScope ["names", "name"] ["names"] (defScope st_written_names) := ⟨rfl, rfl, rfl, by decide +kernel, rfl, by decide +kernel, by decide +kernel⟩
theorem ok_written_names (T : Txt K mg) (o_written_name : DefOk PySem.Challenge.pw_leanbundle_k83_programs_written w K mg base 1 "written_name" ["name"] [] F_written_name) : DefOk PySem.Challenge.pw_leanbundle_k83_programs_written w K mg base 2 "written_names" ["names"] [] F_written_names :=
  okDef (k := 1) T.d_written_names sc_written_names rfl [] d_written_names (by decide) (fun _ _ F => F.binds (ps := ["names"]) fun _ _ _ _ _ _ us hl => match us, hl with | [_], _ => rfl) fun cdv A outer s H E vs fa hr =>
  (dss_one (ds_ret (de_if (db_cmp op_gt s2_gt (de_len T.z_len (de_var (pv 0))) de_int (by with_unfolding_all rfl)) (de_join (de_lc (own := [("name", 1)]) rfl sc_written_names.nd (di_seq (de_var (pv 0))) (by exact (show BlkOk ["names", "name"] (defScope st_written_names) _ [("name", 1)] from ⟨rfl, by decide +kernel, by decide +kernel, by decide +kernel, by decide +kernel⟩)) (fun _ _ _ _ _ => (dg_name (i := 1) sc_written_names.nd rfl (by first | exact Or.inl rfl | exact Or.inr rfl))) (fun _ _ _ _ _ => dpts_nil) (fun _ _ _ _ _ => (de_callD o_written_name takes0 hr (dar_ex (de_var (pv 1)) dar_nil))))) de_str)))
theorem sc_written_row : FnScope ["row", "word", "rest", "risk", "target"] ["row"] (defScope st_written_row) := ⟨rfl, rfl, rfl, by decide +kernel, rfl, by decide +kernel, by decide +kernel⟩
theorem ok_written_row (T : Txt K mg) (o_written_names : DefOk PySem.Challenge.pw_leanbundle_k83_programs_written w K mg base 2 "written_names" ["names"] [] F_written_names) : DefOk PySem.Challenge.pw_leanbundle_k83_programs_written w K mg base 3 "written_row" ["row"] [] F_written_row :=
  okDef (k := 2) T.d_written_row sc_written_row rfl [] d_written_row (by decide) (fun _ _ F => F.binds (ps := ["row"]) fun _ _ _ _ _ _ us hl => match us, hl with | [_], _ => rfl) fun cdv A outer s H E vs fa hr =>
  (dss_cons (ds_asg (de_var (pv 0)) (dg_star rfl (dgs_cons (dg_name (i := 1) sc_written_row.nd rfl (by first | exact Or.inl rfl | exact Or.inr rfl)) (dgs_star (dg_name (i := 2) sc_written_row.nd rfl (by first | exact Or.inl rfl | exact Or.inr rfl)) dgs_nil))))
  (dss_cons (ds_if (db_cmp (op_eqP hr.units) s2_eq (de_var (pv 1)) de_str (by with_unfolding_all rfl))
  (dss_one (ds_ret (de_joined (.cons de_str (.cons (de_fmt (de_ix (de_var (pv 2)) de_int)) .nil)))))
  dss_nil)
  (dss_cons (ds_if (db_cmp (op_eqP hr.units) s2_eq (de_var (pv 1)) de_str (by with_unfolding_all rfl))
  (dss_one (ds_ret (de_joined (.cons de_str (.cons (de_fmt (de_ix (de_var (pv 2)) de_int)) (.cons de_str (.cons (de_fmt (de_ix (de_var (pv 2)) de_int)) (.cons de_str (.cons (de_fmt (de_ix (de_var (pv 2)) de_int)) .nil)))))))))
  dss_nil)
  (dss_cons (ds_if (db_cmp (op_eqP hr.units) s2_eq (de_var (pv 1)) de_str (by with_unfolding_all rfl))
  (dss_cons (ds_set (i := 4) sc_written_row.nd rfl (by first | exact Or.inl rfl | exact Or.inr rfl) (de_frz (de_if (db_cmp op_lt s2_lt (de_ix (de_var (pv 2)) de_int) de_int (by with_unfolding_all rfl)) de_str (de_strc T.z_str (de_ix (de_var (pv 2)) de_int)))))
  (dss_one (ds_ret (de_joined (.cons de_str (.cons (de_fmt (de_ix (de_var (pv 2)) de_int)) (.cons de_str (.cons (de_fmt (de_var (pv 4))) (.cons de_str (.cons (de_fmt (de_callD o_written_names (takes_of rfl rfl rfl rfl) hr (dar_ex (de_ix (de_var (pv 2)) de_int) dar_nil))) .nil))))))))))
  dss_nil)
  (dss_cons (ds_if (db_cmp (op_eqP hr.units) s2_eq (de_var (pv 1)) de_str (by with_unfolding_all rfl))
  (dss_one (ds_ret (de_var (pv 1))))
  dss_nil)
  (dss_cons (ds_set (i := 3) sc_written_row.nd rfl (by first | exact Or.inl rfl | exact Or.inr rfl) (de_frz (de_if (db_tru (de_ix (de_var (pv 2)) (de_neg de_int))) de_str de_str)))
  (dss_cons (ds_if (db_cmp (op_eqP hr.units) s2_eq (de_var (pv 1)) de_str (by with_unfolding_all rfl))
  (dss_one (ds_ret (de_joined (.cons de_str (.cons (de_fmt (de_ix (de_var (pv 2)) de_int)) (.cons de_str (.cons (de_fmt (de_callD o_written_names (takes_of rfl rfl rfl rfl) hr (dar_ex (de_ix (de_var (pv 2)) de_int) dar_nil))) (.cons (de_fmt (de_var (pv 3))) .nil))))))))
  dss_nil)
  (dss_one (ds_ret (de_joined (.cons de_str (.cons (de_fmt (de_callD o_written_names (takes_of rfl rfl rfl rfl) hr (dar_ex (de_ix (de_var (pv 2)) de_int) dar_nil))) (.cons (de_fmt (de_var (pv 3))) .nil)))))))))))))
theorem sc_show_program : FnScope ["program", "parts", "marks", "entries", "opens", "lines", "rows", "mark", "row", "part"] ["program"] (defScope st_show_program) := ⟨rfl, rfl, rfl, by decide +kernel, rfl, by decide +kernel, by decide +kernel⟩
theorem ok_show_program (T : Txt K mg) (o_need_program : DefOk PySem.Challenge.pw_leanbundle_k83_programs_written w K mg base 8 "need_program" ["program"] [] F_need_program) (o_written_names : DefOk PySem.Challenge.pw_leanbundle_k83_programs_written w K mg base 2 "written_names" ["names"] [] F_written_names) (o_written_row : DefOk PySem.Challenge.pw_leanbundle_k83_programs_written w K mg base 3 "written_row" ["row"] [] F_written_row) : DefOk PySem.Challenge.pw_leanbundle_k83_programs_written w K mg base 9 "show_program" ["program"] [] F_show_program :=
  okDef (k := 8) T.d_show_program sc_show_program rfl [] d_show_program (by decide) (fun _ _ F => F.binds (ps := ["program"]) fun _ _ _ _ _ _ us hl => match us, hl with | [_], _ => rfl) fun cdv A outer s H E vs fa hr =>
  (dss_cons (ds_expr (de_callD o_need_program (takes_of rfl rfl rfl rfl) hr (dar_ex (de_var (pv 0)) dar_nil)))
  (dss_cons (ds_asg (de_var (pv 0)) (dg_tup rfl (dgs_cons (dg_name (i := 1) sc_show_program.nd rfl (by first | exact Or.inl rfl | exact Or.inr rfl)) (dgs_cons (dg_name (i := 2) sc_show_program.nd rfl (by first | exact Or.inl rfl | exact Or.inr rfl)) (dgs_cons (dg_name (i := 3) sc_show_program.nd rfl (by first | exact Or.inl rfl | exact Or.inr rfl)) (dgs_cons (dg_name (i := 4) sc_show_program.nd rfl (by first | exact Or.inl rfl | exact Or.inr rfl)) dgs_nil))))))
  (dss_cons (ds_set (i := 5) sc_show_program.nd rfl (by first | exact Or.inl rfl | exact Or.inr rfl) (de_lstF (da_cons (de_op op_addG s2_add' de_str (de_join (de_lc (own := [("part", 9)]) rfl sc_show_program.nd (di_seq (de_var (pv 3))) (by exact (show BlkOk ["program", "parts", "marks", "entries", "opens", "lines", "rows", "mark", "row", "part"] (defScope st_show_program) _ [("part", 9)] from ⟨rfl, by decide +kernel, by decide +kernel, by decide +kernel, by decide +kernel⟩)) (fun _ _ _ _ _ => (dg_name (i := 9) sc_show_program.nd rfl (by first | exact Or.inl rfl | exact Or.inr rfl))) (fun _ _ _ _ _ => dpts_nil) (fun _ _ _ _ _ => (de_strc T.z_str (de_var (pv 9))))))) (da_cons (de_op op_addG s2_add' de_str (de_callD o_written_names (takes_of rfl rfl rfl rfl) hr (dar_ex (de_var (pv 4)) dar_nil))) da_nil))))
  (dss_cons (ds_for (passes_of rfl) rfl (di_zip T.z_zip (de_var (pv 1)) (de_var (pv 2))) (dg_tup rfl (dgs_cons (dg_name (i := 6) sc_show_program.nd rfl (by first | exact Or.inl rfl | exact Or.inr rfl)) (dgs_cons (dg_name (i := 7) sc_show_program.nd rfl (by first | exact Or.inl rfl | exact Or.inr rfl)) dgs_nil)))
  (dss_cons (ds_expr (de_app (pv 5) (de_if (db_tru (de_var (pv 7))) de_str de_str)))
  (dss_one (ds_expr (de_ext (pv 5) (de_lc (own := [("row", 8)]) rfl sc_show_program.nd (di_seq (de_var (pv 6))) (by exact (show BlkOk ["program", "parts", "marks", "entries", "opens", "lines", "rows", "mark", "row", "part"] (defScope st_show_program) _ [("row", 8)] from ⟨rfl, by decide +kernel, by decide +kernel, by decide +kernel, by decide +kernel⟩)) (fun _ _ _ _ _ => (dg_name (i := 8) sc_show_program.nd rfl (by first | exact Or.inl rfl | exact Or.inr rfl))) (fun _ _ _ _ _ => dpts_nil) (fun _ _ _ _ _ => (de_callD o_written_row takes0 hr (dar_ex (de_var (pv 8)) dar_nil)))))))))
  (dss_one (ds_ret (de_join (de_var (pv 5)))))))))
theorem sc_law : FnScope ["script", "pool", "program", "other", "one", "told"] ["script"] (defScope st_law) := ⟨rfl, rfl, rfl, by decide +kernel, rfl, by decide +kernel, by decide +kernel⟩
theorem ok_law (T : Txt K mg) (o__law_lines : DefOk PySem.Challenge.pw_leanbundle_k83_programs_written w K mg base 3 "_law_lines" ["program"] [] F__law_lines) (o__law_pool : DefOk PySem.Challenge.pw_leanbundle_k83_programs_written w K mg base 1 "_law_pool" ["script"] [] F__law_pool) (o__law_program : DefOk PySem.Challenge.pw_leanbundle_k83_programs_written w K mg base 5 "_law_program" ["pool", "most_parts", "most_rows", "most_outs", "most_entries", "most_opens"] [0] F__law_program) (o_show_program : DefOk PySem.Challenge.pw_leanbundle_k83_programs_written w K mg base 9 "show_program" ["program"] [] F_show_program) : DefOk PySem.Challenge.pw_leanbundle_k83_programs_written w K mg base 10 "law" ["script"] [] F_law :=
  okDef (k := 9) T.d_law sc_law rfl [] d_law (by decide) (fun _ _ F => F.binds (ps := ["script"]) fun _ _ _ _ _ _ us hl => match us, hl with | [_], _ => rfl) fun cdv A outer s H E vs fa hr =>
  (dss_cons (ds_set (i := 1) sc_law.nd rfl (by first | exact Or.inl rfl | exact Or.inr rfl) (de_callD o__law_pool (takes_of rfl rfl rfl rfl) hr (dar_ex (de_var (pv 0)) dar_nil)))
  (dss_cons (ds_set (i := 2) sc_law.nd rfl (by first | exact Or.inl rfl | exact Or.inr rfl) (de_frz (de_callD o__law_program (takes_of rfl rfl rfl rfl) hr (dar_io (pv 1) (dar_ex de_int (dar_ex de_int (dar_ex de_int (dar_ex de_int (dar_ex de_int dar_nil)))))))))
  (dss_cons (ds_set (i := 3) sc_law.nd rfl (by first | exact Or.inl rfl | exact Or.inr rfl) (de_frz (de_callD o__law_program (takes_of rfl rfl rfl rfl) hr (dar_io (pv 1) (dar_ex de_int (dar_ex de_int (dar_ex de_int (dar_ex de_int (dar_ex de_int dar_nil)))))))))
  (dss_cons (ds_for (passes_of rfl) rfl (di_seq (de_lstF (da_cons (de_var (pv 2)) (da_cons (de_var (pv 3)) (da_cons (de_var (pv 2)) da_nil))))) (dg_name (i := 4) sc_law.nd rfl (by first | exact Or.inl rfl | exact Or.inr rfl))
  (dss_cons (ds_set (i := 5) sc_law.nd rfl (by first | exact Or.inl rfl | exact Or.inr rfl) (de_frz (de_callD o_show_program (takes_of rfl rfl rfl rfl) hr (dar_ex (de_var (pv 4)) dar_nil))))
  (dss_one (ds_if (db_w (dw_or (db_not (db_val (de_isi T.z_isinstance T.z_str bb_str (by decide) (de_var (pv 5))))) (dw_or1 (db_cmp (op_neP hr.units) s2_ne (de_var (pv 5)) (de_join (de_callD o__law_lines (takes_of rfl rfl rfl rfl) hr (dar_ex (de_var (pv 4)) dar_nil))) (by with_unfolding_all rfl)))))
  (dss_one (ds_ret de_bl))
  dss_nil))))
  (dss_one (ds_ret de_bl))))))
/-- the law -/
theorem ok_all (T : Txt K mg) : DefOk PySem.Challenge.pw_leanbundle_k83_programs_written w K mg base 10 "law" ["script"] [] F_law := by
  have o__law_names_text : DefOk PySem.Challenge.pw_leanbundle_k83_programs_written w K mg base 1 "_law_names_text" ["names"] [] F__law_names_text := ok__law_names_text T
  have o__law_line : DefOk PySem.Challenge.pw_leanbundle_k83_programs_written w K mg base 2 "_law_line" ["row"] [] F__law_line := ok__law_line T o__law_names_text
  have o__law_lines : DefOk PySem.Challenge.pw_leanbundle_k83_programs_written w K mg base 3 "_law_lines" ["program"] [] F__law_lines := ok__law_lines T o__law_line o__law_names_text
  have o__law_pool : DefOk PySem.Challenge.pw_leanbundle_k83_programs_written w K mg base 1 "_law_pool" ["script"] [] F__law_pool := ok__law_pool T
  have o__law_draw : DefOk PySem.Challenge.pw_leanbundle_k83_programs_written w K mg base 1 "_law_draw" ["pool", "limit"] [0] F__law_draw := ok__law_draw T
  have o__law_need : DefOk PySem.Challenge.pw_leanbundle_k83_programs_written w K mg base 2 "_law_need" ["pool", "count", "given"] [0] F__law_need := ok__law_need T o__law_draw
  have o__law_needs : DefOk PySem.Challenge.pw_leanbundle_k83_programs_written w K mg base 3 "_law_needs" ["pool", "count", "given", "most"] [0] F__law_needs := ok__law_needs T o__law_draw o__law_need
  have o__law_row : DefOk PySem.Challenge.pw_leanbundle_k83_programs_written w K mg base 4 "_law_row" ["pool", "word", "name", "count", "given"] [0] F__law_row := ok__law_row T o__law_draw o__law_need o__law_needs
  have o__law_subset : DefOk PySem.Challenge.pw_leanbundle_k83_programs_written w K mg base 2 "_law_subset" ["pool", "items", "most"] [0] F__law_subset := ok__law_subset T o__law_draw
  have o__law_with_show : DefOk PySem.Challenge.pw_leanbundle_k83_programs_written w K mg base 1 "_law_with_show" ["words"] [] F__law_with_show := ok__law_with_show T
  have o__law_words : DefOk PySem.Challenge.pw_leanbundle_k83_programs_written w K mg base 2 "_law_words" ["pool", "count", "most_rows", "most_outs"] [0] F__law_words := ok__law_words T o__law_draw
  have o__law_program : DefOk PySem.Challenge.pw_leanbundle_k83_programs_written w K mg base 5 "_law_program" ["pool", "most_parts", "most_rows", "most_outs", "most_entries", "most_opens"] [0] F__law_program := ok__law_program T o__law_draw o__law_row o__law_subset o__law_with_show o__law_words
  have o_is_ascending : DefOk PySem.Challenge.pw_leanbundle_k83_programs_written w K mg base 1 "is_ascending" ["items"] [] F_is_ascending := ok_is_ascending T
  have o_is_integer : DefOk PySem.Challenge.pw_leanbundle_k83_programs_written w K mg base 1 "is_integer" ["thing"] [] F_is_integer := ok_is_integer T
  have o_is_number : DefOk PySem.Challenge.pw_leanbundle_k83_programs_written w K mg base 2 "is_number" ["thing", "count"] [] F_is_number := ok_is_number T o_is_integer
  have o_is_entries : DefOk PySem.Challenge.pw_leanbundle_k83_programs_written w K mg base 3 "is_entries" ["thing", "count"] [] F_is_entries := ok_is_entries T o_is_ascending o_is_number
  have o_is_flag : DefOk PySem.Challenge.pw_leanbundle_k83_programs_written w K mg base 1 "is_flag" ["thing"] [] F_is_flag := ok_is_flag T
  have o_is_marks : DefOk PySem.Challenge.pw_leanbundle_k83_programs_written w K mg base 2 "is_marks" ["thing", "count"] [] F_is_marks := ok_is_marks T o_is_flag
  have o_is_name : DefOk PySem.Challenge.pw_leanbundle_k83_programs_written w K mg base 1 "is_name" ["thing"] [] F_is_name := ok_is_name T
  have o_is_named : DefOk PySem.Challenge.pw_leanbundle_k83_programs_written w K mg base 3 "is_named" ["thing", "count"] [] F_is_named := ok_is_named T o_is_name o_is_number
  have o_is_opens : DefOk PySem.Challenge.pw_leanbundle_k83_programs_written w K mg base 4 "is_opens" ["thing", "count"] [] F_is_opens := ok_is_opens T o_is_ascending o_is_named
  have o_is_needs : DefOk PySem.Challenge.pw_leanbundle_k83_programs_written w K mg base 4 "is_needs" ["thing", "count", "most"] [] F_is_needs := ok_is_needs T o_is_named
  have o_is_row : DefOk PySem.Challenge.pw_leanbundle_k83_programs_written w K mg base 5 "is_row" ["thing", "count"] [] F_is_row := ok_is_row T o_is_flag o_is_integer o_is_name o_is_needs o_is_number
  have o_is_parts : DefOk PySem.Challenge.pw_leanbundle_k83_programs_written w K mg base 6 "is_parts" ["thing"] [] F_is_parts := ok_is_parts T o_is_row
  have o_is_program : DefOk PySem.Challenge.pw_leanbundle_k83_programs_written w K mg base 7 "is_program" ["thing"] [] F_is_program := ok_is_program T o_is_entries o_is_marks o_is_opens o_is_parts
  have o_need_program : DefOk PySem.Challenge.pw_leanbundle_k83_programs_written w K mg base 8 "need_program" ["program"] [] F_need_program := ok_need_program T o_is_program
  have o_written_name : DefOk PySem.Challenge.pw_leanbundle_k83_programs_written w K mg base 1 "written_name" ["name"] [] F_written_name := ok_written_name T
  have o_written_names : DefOk PySem.Challenge.pw_leanbundle_k83_programs_written w K mg base 2 "written_names" ["names"] [] F_written_names := ok_written_names T o_written_name
  have o_written_row : DefOk PySem.Challenge.pw_leanbundle_k83_programs_written w K mg base 3 "written_row" ["row"] [] F_written_row := ok_written_row T o_written_names
  have o_show_program : DefOk PySem.Challenge.pw_leanbundle_k83_programs_written w K mg base 9 "show_program" ["program"] [] F_show_program := ok_show_program T o_need_program o_written_names o_written_row
  have o_law : DefOk PySem.Challenge.pw_leanbundle_k83_programs_written w K mg base 10 "law" ["script"] [] F_law := ok_law T o__law_lines o__law_pool o__law_program o_show_program
  exact o_law
end
/-! ### what the top has written -/
theorem txt_mk {K : PySem.W.Frag} {h : Heap} {mg : Str → Option Value} (X : K.In h) (G : h.Ns mainGlobals mg)
    {od0 an0 : Option Addr} {sl0 : Array (Option Value)} {f0 : Addr} {oc0 kV0 dc0 pm0 cd0 ct0 : Value}
    (a0 : PySem.W.nsIn K mainGlobals "_law_names_text" = some (some (.ref f0))) (l0 : K.lookup f0 = some ⟨oc0, od0, .func (PySem.W.fnOf "_law_names_text" "_law_names_text" (defArgs st__law_names_text) (defBody st__law_names_text) (defScope st__law_names_text) .none kV0 dc0 pm0 an0 cd0 ct0), sl0⟩) (c0 : PySem.W.codeIn K cd0 "_law_names_text" = true) (k0 : PySem.W.keepIn K (.ref f0) = true)
    {od1 an1 : Option Addr} {sl1 : Array (Option Value)} {f1 : Addr} {oc1 kV1 dc1 pm1 cd1 ct1 : Value}
    (a1 : PySem.W.nsIn K mainGlobals "_law_line" = some (some (.ref f1))) (l1 : K.lookup f1 = some ⟨oc1, od1, .func (PySem.W.fnOf "_law_line" "_law_line" (defArgs st__law_line) (defBody st__law_line) (defScope st__law_line) .none kV1 dc1 pm1 an1 cd1 ct1), sl1⟩) (c1 : PySem.W.codeIn K cd1 "_law_line" = true) (k1 : PySem.W.keepIn K (.ref f1) = true)
    {od2 an2 : Option Addr} {sl2 : Array (Option Value)} {f2 : Addr} {oc2 kV2 dc2 pm2 cd2 ct2 : Value}
    (a2 : PySem.W.nsIn K mainGlobals "_law_lines" = some (some (.ref f2))) (l2 : K.lookup f2 = some ⟨oc2, od2, .func (PySem.W.fnOf "_law_lines" "_law_lines" (defArgs st__law_lines) (defBody st__law_lines) (defScope st__law_lines) .none kV2 dc2 pm2 an2 cd2 ct2), sl2⟩) (c2 : PySem.W.codeIn K cd2 "_law_lines" = true) (k2 : PySem.W.keepIn K (.ref f2) = true)
    {od3 an3 : Option Addr} {sl3 : Array (Option Value)} {f3 : Addr} {oc3 kV3 dc3 pm3 cd3 ct3 : Value}
    (a3 : PySem.W.nsIn K mainGlobals "_law_pool" = some (some (.ref f3))) (l3 : K.lookup f3 = some ⟨oc3, od3, .func (PySem.W.fnOf "_law_pool" "_law_pool" (defArgs st__law_pool) (defBody st__law_pool) (defScope st__law_pool) .none kV3 dc3 pm3 an3 cd3 ct3), sl3⟩) (c3 : PySem.W.codeIn K cd3 "_law_pool" = true) (k3 : PySem.W.keepIn K (.ref f3) = true)
    {od4 an4 : Option Addr} {sl4 : Array (Option Value)} {f4 : Addr} {oc4 kV4 dc4 pm4 cd4 ct4 : Value}
    (a4 : PySem.W.nsIn K mainGlobals "_law_draw" = some (some (.ref f4))) (l4 : K.lookup f4 = some ⟨oc4, od4, .func (PySem.W.fnOf "_law_draw" "_law_draw" (defArgs st__law_draw) (defBody st__law_draw) (defScope st__law_draw) .none kV4 dc4 pm4 an4 cd4 ct4), sl4⟩) (c4 : PySem.W.codeIn K cd4 "_law_draw" = true) (k4 : PySem.W.keepIn K (.ref f4) = true)
    {od5 an5 : Option Addr} {sl5 : Array (Option Value)} {f5 : Addr} {oc5 kV5 dc5 pm5 cd5 ct5 : Value}
    (a5 : PySem.W.nsIn K mainGlobals "_law_need" = some (some (.ref f5))) (l5 : K.lookup f5 = some ⟨oc5, od5, .func (PySem.W.fnOf "_law_need" "_law_need" (defArgs st__law_need) (defBody st__law_need) (defScope st__law_need) .none kV5 dc5 pm5 an5 cd5 ct5), sl5⟩) (c5 : PySem.W.codeIn K cd5 "_law_need" = true) (k5 : PySem.W.keepIn K (.ref f5) = true)
    {od6 an6 : Option Addr} {sl6 : Array (Option Value)} {f6 : Addr} {oc6 kV6 dc6 pm6 cd6 ct6 : Value}
    (a6 : PySem.W.nsIn K mainGlobals "_law_needs" = some (some (.ref f6))) (l6 : K.lookup f6 = some ⟨oc6, od6, .func (PySem.W.fnOf "_law_needs" "_law_needs" (defArgs st__law_needs) (defBody st__law_needs) (defScope st__law_needs) .none kV6 dc6 pm6 an6 cd6 ct6), sl6⟩) (c6 : PySem.W.codeIn K cd6 "_law_needs" = true) (k6 : PySem.W.keepIn K (.ref f6) = true)
    {od7 an7 : Option Addr} {sl7 : Array (Option Value)} {f7 : Addr} {oc7 kV7 dc7 pm7 cd7 ct7 : Value}
    (a7 : PySem.W.nsIn K mainGlobals "_law_row" = some (some (.ref f7))) (l7 : K.lookup f7 = some ⟨oc7, od7, .func (PySem.W.fnOf "_law_row" "_law_row" (defArgs st__law_row) (defBody st__law_row) (defScope st__law_row) .none kV7 dc7 pm7 an7 cd7 ct7), sl7⟩) (c7 : PySem.W.codeIn K cd7 "_law_row" = true) (k7 : PySem.W.keepIn K (.ref f7) = true)
    {od8 an8 : Option Addr} {sl8 : Array (Option Value)} {f8 : Addr} {oc8 kV8 dc8 pm8 cd8 ct8 : Value}
    (a8 : PySem.W.nsIn K mainGlobals "_law_subset" = some (some (.ref f8))) (l8 : K.lookup f8 = some ⟨oc8, od8, .func (PySem.W.fnOf "_law_subset" "_law_subset" (defArgs st__law_subset) (defBody st__law_subset) (defScope st__law_subset) .none kV8 dc8 pm8 an8 cd8 ct8), sl8⟩) (c8 : PySem.W.codeIn K cd8 "_law_subset" = true) (k8 : PySem.W.keepIn K (.ref f8) = true)
    {od9 an9 : Option Addr} {sl9 : Array (Option Value)} {f9 : Addr} {oc9 kV9 dc9 pm9 cd9 ct9 : Value}
    (a9 : PySem.W.nsIn K mainGlobals "_law_with_show" = some (some (.ref f9))) (l9 : K.lookup f9 = some ⟨oc9, od9, .func (PySem.W.fnOf "_law_with_show" "_law_with_show" (defArgs st__law_with_show) (defBody st__law_with_show) (defScope st__law_with_show) .none kV9 dc9 pm9 an9 cd9 ct9), sl9⟩) (c9 : PySem.W.codeIn K cd9 "_law_with_show" = true) (k9 : PySem.W.keepIn K (.ref f9) = true)
    {od10 an10 : Option Addr} {sl10 : Array (Option Value)} {f10 : Addr} {oc10 kV10 dc10 pm10 cd10 ct10 : Value}
    (a10 : PySem.W.nsIn K mainGlobals "_law_words" = some (some (.ref f10))) (l10 : K.lookup f10 = some ⟨oc10, od10, .func (PySem.W.fnOf "_law_words" "_law_words" (defArgs st__law_words) (defBody st__law_words) (defScope st__law_words) .none kV10 dc10 pm10 an10 cd10 ct10), sl10⟩) (c10 : PySem.W.codeIn K cd10 "_law_words" = true) (k10 : PySem.W.keepIn K (.ref f10) = true)
    {od11 an11 : Option Addr} {sl11 : Array (Option Value)} {f11 : Addr} {oc11 kV11 dc11 pm11 cd11 ct11 : Value}
    (a11 : PySem.W.nsIn K mainGlobals "_law_program" = some (some (.ref f11))) (l11 : K.lookup f11 = some ⟨oc11, od11, .func (PySem.W.fnOf "_law_program" "_law_program" (defArgs st__law_program) (defBody st__law_program) (defScope st__law_program) .none kV11 dc11 pm11 an11 cd11 ct11), sl11⟩) (c11 : PySem.W.codeIn K cd11 "_law_program" = true) (k11 : PySem.W.keepIn K (.ref f11) = true)
    {od12 an12 : Option Addr} {sl12 : Array (Option Value)} {f12 : Addr} {oc12 kV12 dc12 pm12 cd12 ct12 : Value}
    (a12 : PySem.W.nsIn K mainGlobals "is_ascending" = some (some (.ref f12))) (l12 : K.lookup f12 = some ⟨oc12, od12, .func (PySem.W.fnOf "is_ascending" "is_ascending" (defArgs st_is_ascending) (defBody st_is_ascending) (defScope st_is_ascending) .none kV12 dc12 pm12 an12 cd12 ct12), sl12⟩) (c12 : PySem.W.codeIn K cd12 "is_ascending" = true) (k12 : PySem.W.keepIn K (.ref f12) = true)
    {od13 an13 : Option Addr} {sl13 : Array (Option Value)} {f13 : Addr} {oc13 kV13 dc13 pm13 cd13 ct13 : Value}
    (a13 : PySem.W.nsIn K mainGlobals "is_integer" = some (some (.ref f13))) (l13 : K.lookup f13 = some ⟨oc13, od13, .func (PySem.W.fnOf "is_integer" "is_integer" (defArgs st_is_integer) (defBody st_is_integer) (defScope st_is_integer) .none kV13 dc13 pm13 an13 cd13 ct13), sl13⟩) (c13 : PySem.W.codeIn K cd13 "is_integer" = true) (k13 : PySem.W.keepIn K (.ref f13) = true)
    {od14 an14 : Option Addr} {sl14 : Array (Option Value)} {f14 : Addr} {oc14 kV14 dc14 pm14 cd14 ct14 : Value}
    (a14 : PySem.W.nsIn K mainGlobals "is_number" = some (some (.ref f14))) (l14 : K.lookup f14 = some ⟨oc14, od14, .func (PySem.W.fnOf "is_number" "is_number" (defArgs st_is_number) (defBody st_is_number) (defScope st_is_number) .none kV14 dc14 pm14 an14 cd14 ct14), sl14⟩) (c14 : PySem.W.codeIn K cd14 "is_number" = true) (k14 : PySem.W.keepIn K (.ref f14) = true)
    {od15 an15 : Option Addr} {sl15 : Array (Option Value)} {f15 : Addr} {oc15 kV15 dc15 pm15 cd15 ct15 : Value}
    (a15 : PySem.W.nsIn K mainGlobals "is_entries" = some (some (.ref f15))) (l15 : K.lookup f15 = some ⟨oc15, od15, .func (PySem.W.fnOf "is_entries" "is_entries" (defArgs st_is_entries) (defBody st_is_entries) (defScope st_is_entries) .none kV15 dc15 pm15 an15 cd15 ct15), sl15⟩) (c15 : PySem.W.codeIn K cd15 "is_entries" = true) (k15 : PySem.W.keepIn K (.ref f15) = true)
    {od16 an16 : Option Addr} {sl16 : Array (Option Value)} {f16 : Addr} {oc16 kV16 dc16 pm16 cd16 ct16 : Value}
    (a16 : PySem.W.nsIn K mainGlobals "is_flag" = some (some (.ref f16))) (l16 : K.lookup f16 = some ⟨oc16, od16, .func (PySem.W.fnOf "is_flag" "is_flag" (defArgs st_is_flag) (defBody st_is_flag) (defScope st_is_flag) .none kV16 dc16 pm16 an16 cd16 ct16), sl16⟩) (c16 : PySem.W.codeIn K cd16 "is_flag" = true) (k16 : PySem.W.keepIn K (.ref f16) = true)
    {od17 an17 : Option Addr} {sl17 : Array (Option Value)} {f17 : Addr} {oc17 kV17 dc17 pm17 cd17 ct17 : Value}
    (a17 : PySem.W.nsIn K mainGlobals "is_marks" = some (some (.ref f17))) (l17 : K.lookup f17 = some ⟨oc17, od17, .func (PySem.W.fnOf "is_marks" "is_marks" (defArgs st_is_marks) (defBody st_is_marks) (defScope st_is_marks) .none kV17 dc17 pm17 an17 cd17 ct17), sl17⟩) (c17 : PySem.W.codeIn K cd17 "is_marks" = true) (k17 : PySem.W.keepIn K (.ref f17) = true)
    {od18 an18 : Option Addr} {sl18 : Array (Option Value)} {f18 : Addr} {oc18 kV18 dc18 pm18 cd18 ct18 : Value}
    (a18 : PySem.W.nsIn K mainGlobals "is_name" = some (some (.ref f18))) (l18 : K.lookup f18 = some ⟨oc18, od18, .func (PySem.W.fnOf "is_name" "is_name" (defArgs st_is_name) (defBody st_is_name) (defScope st_is_name) .none kV18 dc18 pm18 an18 cd18 ct18), sl18⟩) (c18 : PySem.W.codeIn K cd18 "is_name" = true) (k18 : PySem.W.keepIn K (.ref f18) = true)
    {od19 an19 : Option Addr} {sl19 : Array (Option Value)} {f19 : Addr} {oc19 kV19 dc19 pm19 cd19 ct19 : Value}
    (a19 : PySem.W.nsIn K mainGlobals "is_named" = some (some (.ref f19))) (l19 : K.lookup f19 = some ⟨oc19, od19, .func (PySem.W.fnOf "is_named" "is_named" (defArgs st_is_named) (defBody st_is_named) (defScope st_is_named) .none kV19 dc19 pm19 an19 cd19 ct19), sl19⟩) (c19 : PySem.W.codeIn K cd19 "is_named" = true) (k19 : PySem.W.keepIn K (.ref f19) = true)
    {od20 an20 : Option Addr} {sl20 : Array (Option Value)} {f20 : Addr} {oc20 kV20 dc20 pm20 cd20 ct20 : Value}
    (a20 : PySem.W.nsIn K mainGlobals "is_opens" = some (some (.ref f20))) (l20 : K.lookup f20 = some ⟨oc20, od20, .func (PySem.W.fnOf "is_opens" "is_opens" (defArgs st_is_opens) (defBody st_is_opens) (defScope st_is_opens) .none kV20 dc20 pm20 an20 cd20 ct20), sl20⟩) (c20 : PySem.W.codeIn K cd20 "is_opens" = true) (k20 : PySem.W.keepIn K (.ref f20) = true)
    {od21 an21 : Option Addr} {sl21 : Array (Option Value)} {f21 : Addr} {oc21 kV21 dc21 pm21 cd21 ct21 : Value}
    (a21 : PySem.W.nsIn K mainGlobals "is_needs" = some (some (.ref f21))) (l21 : K.lookup f21 = some ⟨oc21, od21, .func (PySem.W.fnOf "is_needs" "is_needs" (defArgs st_is_needs) (defBody st_is_needs) (defScope st_is_needs) .none kV21 dc21 pm21 an21 cd21 ct21), sl21⟩) (c21 : PySem.W.codeIn K cd21 "is_needs" = true) (k21 : PySem.W.keepIn K (.ref f21) = true)
    {od22 an22 : Option Addr} {sl22 : Array (Option Value)} {f22 : Addr} {oc22 kV22 dc22 pm22 cd22 ct22 : Value}
    (a22 : PySem.W.nsIn K mainGlobals "is_row" = some (some (.ref f22))) (l22 : K.lookup f22 = some ⟨oc22, od22, .func (PySem.W.fnOf "is_row" "is_row" (defArgs st_is_row) (defBody st_is_row) (defScope st_is_row) .none kV22 dc22 pm22 an22 cd22 ct22), sl22⟩) (c22 : PySem.W.codeIn K cd22 "is_row" = true) (k22 : PySem.W.keepIn K (.ref f22) = true)
    {od23 an23 : Option Addr} {sl23 : Array (Option Value)} {f23 : Addr} {oc23 kV23 dc23 pm23 cd23 ct23 : Value}
    (a23 : PySem.W.nsIn K mainGlobals "is_parts" = some (some (.ref f23))) (l23 : K.lookup f23 = some ⟨oc23, od23, .func (PySem.W.fnOf "is_parts" "is_parts" (defArgs st_is_parts) (defBody st_is_parts) (defScope st_is_parts) .none kV23 dc23 pm23 an23 cd23 ct23), sl23⟩) (c23 : PySem.W.codeIn K cd23 "is_parts" = true) (k23 : PySem.W.keepIn K (.ref f23) = true)
    {od24 an24 : Option Addr} {sl24 : Array (Option Value)} {f24 : Addr} {oc24 kV24 dc24 pm24 cd24 ct24 : Value}
    (a24 : PySem.W.nsIn K mainGlobals "is_program" = some (some (.ref f24))) (l24 : K.lookup f24 = some ⟨oc24, od24, .func (PySem.W.fnOf "is_program" "is_program" (defArgs st_is_program) (defBody st_is_program) (defScope st_is_program) .none kV24 dc24 pm24 an24 cd24 ct24), sl24⟩) (c24 : PySem.W.codeIn K cd24 "is_program" = true) (k24 : PySem.W.keepIn K (.ref f24) = true)
    {od25 an25 : Option Addr} {sl25 : Array (Option Value)} {f25 : Addr} {oc25 kV25 dc25 pm25 cd25 ct25 : Value}
    (a25 : PySem.W.nsIn K mainGlobals "need_program" = some (some (.ref f25))) (l25 : K.lookup f25 = some ⟨oc25, od25, .func (PySem.W.fnOf "need_program" "need_program" (defArgs st_need_program) (defBody st_need_program) (defScope st_need_program) .none kV25 dc25 pm25 an25 cd25 ct25), sl25⟩) (c25 : PySem.W.codeIn K cd25 "need_program" = true) (k25 : PySem.W.keepIn K (.ref f25) = true)
    {od26 an26 : Option Addr} {sl26 : Array (Option Value)} {f26 : Addr} {oc26 kV26 dc26 pm26 cd26 ct26 : Value}
    (a26 : PySem.W.nsIn K mainGlobals "written_name" = some (some (.ref f26))) (l26 : K.lookup f26 = some ⟨oc26, od26, .func (PySem.W.fnOf "written_name" "written_name" (defArgs st_written_name) (defBody st_written_name) (defScope st_written_name) .none kV26 dc26 pm26 an26 cd26 ct26), sl26⟩) (c26 : PySem.W.codeIn K cd26 "written_name" = true) (k26 : PySem.W.keepIn K (.ref f26) = true)
    {od27 an27 : Option Addr} {sl27 : Array (Option Value)} {f27 : Addr} {oc27 kV27 dc27 pm27 cd27 ct27 : Value}
    (a27 : PySem.W.nsIn K mainGlobals "written_names" = some (some (.ref f27))) (l27 : K.lookup f27 = some ⟨oc27, od27, .func (PySem.W.fnOf "written_names" "written_names" (defArgs st_written_names) (defBody st_written_names) (defScope st_written_names) .none kV27 dc27 pm27 an27 cd27 ct27), sl27⟩) (c27 : PySem.W.codeIn K cd27 "written_names" = true) (k27 : PySem.W.keepIn K (.ref f27) = true)
    {od28 an28 : Option Addr} {sl28 : Array (Option Value)} {f28 : Addr} {oc28 kV28 dc28 pm28 cd28 ct28 : Value}
    (a28 : PySem.W.nsIn K mainGlobals "written_row" = some (some (.ref f28))) (l28 : K.lookup f28 = some ⟨oc28, od28, .func (PySem.W.fnOf "written_row" "written_row" (defArgs st_written_row) (defBody st_written_row) (defScope st_written_row) .none kV28 dc28 pm28 an28 cd28 ct28), sl28⟩) (c28 : PySem.W.codeIn K cd28 "written_row" = true) (k28 : PySem.W.keepIn K (.ref f28) = true)
    {od29 an29 : Option Addr} {sl29 : Array (Option Value)} {f29 : Addr} {oc29 kV29 dc29 pm29 cd29 ct29 : Value}
    (a29 : PySem.W.nsIn K mainGlobals "show_program" = some (some (.ref f29))) (l29 : K.lookup f29 = some ⟨oc29, od29, .func (PySem.W.fnOf "show_program" "show_program" (defArgs st_show_program) (defBody st_show_program) (defScope st_show_program) .none kV29 dc29 pm29 an29 cd29 ct29), sl29⟩) (c29 : PySem.W.codeIn K cd29 "show_program" = true) (k29 : PySem.W.keepIn K (.ref f29) = true)
    {od30 an30 : Option Addr} {sl30 : Array (Option Value)} {f30 : Addr} {oc30 kV30 dc30 pm30 cd30 ct30 : Value}
    (a30 : PySem.W.nsIn K mainGlobals "law" = some (some (.ref f30))) (l30 : K.lookup f30 = some ⟨oc30, od30, .func (PySem.W.fnOf "law" "law" (defArgs st_law) (defBody st_law) (defScope st_law) .none kV30 dc30 pm30 an30 cd30 ct30), sl30⟩) (c30 : PySem.W.codeIn K cd30 "law" = true) (k30 : PySem.W.keepIn K (.ref f30) = true)
    {v0 : Value} (g0 : PySem.W.nsIn K mainGlobals "MOST_ENTRIES" = some (some v0)) (h0 : kDat K 12 v0 = some c_MOST_ENTRIES)
    {v1 : Value} (g1 : PySem.W.nsIn K mainGlobals "MOST_OPENS" = some (some v1)) (h1 : kDat K 12 v1 = some c_MOST_OPENS)
    {v2 : Value} (g2 : PySem.W.nsIn K mainGlobals "MOST_OUTS" = some (some v2)) (h2 : kDat K 12 v2 = some c_MOST_OUTS)
    {v3 : Value} (g3 : PySem.W.nsIn K mainGlobals "MOST_PARTS" = some (some v3)) (h3 : kDat K 12 v3 = some c_MOST_PARTS)
    {v4 : Value} (g4 : PySem.W.nsIn K mainGlobals "MOST_ROWS" = some (some v4)) (h4 : kDat K 12 v4 = some c_MOST_ROWS)
    {v5 : Value} (g5 : PySem.W.nsIn K mainGlobals "MOST_ROWS_IN_ALL" = some (some v5)) (h5 : kDat K 12 v5 = some c_MOST_ROWS_IN_ALL)
    {v6 : Value} (g6 : PySem.W.nsIn K mainGlobals "NAMES" = some (some v6)) (h6 : kDat K 12 v6 = some c_NAMES)
    (z0 : PySem.W.nsIn K mainGlobals "all" = some none)
    (z1 : PySem.W.nsIn K mainGlobals "bool" = some none)
    (z2 : PySem.W.nsIn K mainGlobals "enumerate" = some none)
    (z3 : PySem.W.nsIn K mainGlobals "int" = some none)
    (z4 : PySem.W.nsIn K mainGlobals "isinstance" = some none)
    (z5 : PySem.W.nsIn K mainGlobals "len" = some none)
    (z6 : PySem.W.nsIn K mainGlobals "list" = some none)
    (z7 : PySem.W.nsIn K mainGlobals "min" = some none)
    (z8 : PySem.W.nsIn K mainGlobals "range" = some none)
    (z9 : PySem.W.nsIn K mainGlobals "set" = some none)
    (z10 : PySem.W.nsIn K mainGlobals "sorted" = some none)
    (z11 : PySem.W.nsIn K mainGlobals "str" = some none)
    (z12 : PySem.W.nsIn K mainGlobals "sum" = some none)
    (z13 : PySem.W.nsIn K mainGlobals "tuple" = some none)
    (z14 : PySem.W.nsIn K mainGlobals "zip" = some none) : Txt K mg :=
  { d__law_names_text := has_def (st := st__law_names_text) X G a0 l0 c0 k0,
    d__law_line := has_def (st := st__law_line) X G a1 l1 c1 k1,
    d__law_lines := has_def (st := st__law_lines) X G a2 l2 c2 k2,
    d__law_pool := has_def (st := st__law_pool) X G a3 l3 c3 k3,
    d__law_draw := has_def (st := st__law_draw) X G a4 l4 c4 k4,
    d__law_need := has_def (st := st__law_need) X G a5 l5 c5 k5,
    d__law_needs := has_def (st := st__law_needs) X G a6 l6 c6 k6,
    d__law_row := has_def (st := st__law_row) X G a7 l7 c7 k7,
    d__law_subset := has_def (st := st__law_subset) X G a8 l8 c8 k8,
    d__law_with_show := has_def (st := st__law_with_show) X G a9 l9 c9 k9,
    d__law_words := has_def (st := st__law_words) X G a10 l10 c10 k10,
    d__law_program := has_def (st := st__law_program) X G a11 l11 c11 k11,
    d_is_ascending := has_def (st := st_is_ascending) X G a12 l12 c12 k12,
    d_is_integer := has_def (st := st_is_integer) X G a13 l13 c13 k13,
    d_is_number := has_def (st := st_is_number) X G a14 l14 c14 k14,
    d_is_entries := has_def (st := st_is_entries) X G a15 l15 c15 k15,
    d_is_flag := has_def (st := st_is_flag) X G a16 l16 c16 k16,
    d_is_marks := has_def (st := st_is_marks) X G a17 l17 c17 k17,
    d_is_name := has_def (st := st_is_name) X G a18 l18 c18 k18,
    d_is_named := has_def (st := st_is_named) X G a19 l19 c19 k19,
    d_is_opens := has_def (st := st_is_opens) X G a20 l20 c20 k20,
    d_is_needs := has_def (st := st_is_needs) X G a21 l21 c21 k21,
    d_is_row := has_def (st := st_is_row) X G a22 l22 c22 k22,
    d_is_parts := has_def (st := st_is_parts) X G a23 l23 c23 k23,
    d_is_program := has_def (st := st_is_program) X G a24 l24 c24 k24,
    d_need_program := has_def (st := st_need_program) X G a25 l25 c25 k25,
    d_written_name := has_def (st := st_written_name) X G a26 l26 c26 k26,
    d_written_names := has_def (st := st_written_names) X G a27 l27 c27 k27,
    d_written_row := has_def (st := st_written_row) X G a28 l28 c28 k28,
    d_show_program := has_def (st := st_show_program) X G a29 l29 c29 k29,
    d_law := has_def (st := st_law) X G a30 l30 c30 k30,
    c_MOST_ENTRIES := glob_dat X G g0 h0,
    c_MOST_OPENS := glob_dat X G g1 h1,
    c_MOST_OUTS := glob_dat X G g2 h2,
    c_MOST_PARTS := glob_dat X G g3 h3,
    c_MOST_ROWS := glob_dat X G g4 h4,
    c_MOST_ROWS_IN_ALL := glob_dat X G g5 h5,
    c_NAMES := glob_dat X G g6 h6,
    z_all := PySem.W.mg_none_of X G z0,
    z_bool := PySem.W.mg_none_of X G z1,
    z_enumerate := PySem.W.mg_none_of X G z2,
    z_int := PySem.W.mg_none_of X G z3,
    z_isinstance := PySem.W.mg_none_of X G z4,
    z_len := PySem.W.mg_none_of X G z5,
    z_list := PySem.W.mg_none_of X G z6,
    z_min := PySem.W.mg_none_of X G z7,
    z_range := PySem.W.mg_none_of X G z8,
    z_set := PySem.W.mg_none_of X G z9,
    z_sorted := PySem.W.mg_none_of X G z10,
    z_str := PySem.W.mg_none_of X G z11,
    z_sum := PySem.W.mg_none_of X G z12,
    z_tuple := PySem.W.mg_none_of X G z13,
    z_zip := PySem.W.mg_none_of X G z14 }
end G

namespace G
open PySem PySem.Spec L2 DL
def p__law_names_text (a_names : Dt) : PM (Dt) :=
 pB (pC eqD a_names (.tuple [])) fun b_1 =>
 if b_1 = true then
 pR (.str "-")
 else
 pB (pIt a_names) fun ds_2 =>
 pB (pMap ds_2 fun d_3 =>
 pT2 d_3 fun part_5 name_6 =>
 pB (pV (strcD [part_5])) fun v_7 =>
 pB (pV (addD v_7 (.str "."))) fun v_8 =>
 pB (pV (addD v_8 name_6)) fun v_9 =>
 pR v_9) fun ys_10 =>
 pB (pV (joinD (.str ",") (.list ys_10))) fun v_11 =>
 pR v_11
theorem pf__law_names_text (a_names : Dt) : FOk F__law_names_text [.val a_names] (p__law_names_text a_names) (fun (b : (Dt)) => .val b) (fun _ => []) 0 := by
 refine bk_fun (dd := d__law_names_text) (S := [.dat a_names, .any, .any]) (X := [.any, .any, .any]) (So := (fun (b : (Dt)) => [.any, .any, .any])) ?_ rfl (.cons (⟨_, rfl, frz_val _⟩) (.cons (trivial) (.cons (trivial) .nil))) (fun _ _ _ => outs0) (fun _ _ => ⟨[], outs0, rfl⟩)
 unfold p__law_names_text
 exact (bk_sif (bk_cmp (bk_v (c := a_names) 0 (bk_tup (bk_nil (bk_tupL frzL_nil rfl (bk_cmpV (frz_val _) (frz_val _) fun b_1 => (bk_ite (bk_sret (bk_c (bk_rt (.any (.any (.any .nil)))))) (bk_skip (bk_last (bk_sret (bk_join (bk_lc (bk_it (bk_v (c := a_names) 0 (bk_itX (frz_val _) fun ds_2 => (bk_lcM_V (Sw := [.dat a_names, .any, .any]) (.same (.any (.any .nil))) ⟨.inl rfl, .inl rfl, trivial⟩ (fun d_3 => (bk_t2 fun part_5 name_6 => (bk_tN (bk_tN (bk_2 (bk_2 (bk_cb (bk_cons (bk_v (c := part_5) 1 (bk_nil (bk_cbV (frzL_cons (frz_val _) frzL_nil) fun v_7 => (bk_c (bk_o2V (frz_val _) (frz_val _) fun v_8 => (bk_v (c := name_6) 2 (bk_o2V (frz_val _) (frz_val _) fun v_9 => (bk_elV (.same (.any (.any .nil))))))))))))))))))) (fun ys_10 => (bk_o1V (frz_lst ys_10) fun v_11 => (bk_rt (.any (.any (.any .nil)))))))))))))))))))))))
def p__law_line (a_row : Dt) : PM (Dt) :=
 pB (pV (ixD a_row (.int 0))) fun v_1 =>
 pB (pC eqD v_1 (.str "load")) fun b_2 =>
 if b_2 = true then
 pB (pV (ixD a_row (.int 1))) fun v_3 =>
 pB (pV (strcD [v_3])) fun v_4 =>
 pB (pV (addD (.str "load ") v_4)) fun v_5 =>
 pR v_5
 else
 pB (pV (ixD a_row (.int 0))) fun v_6 =>
 pB (pC eqD v_6 (.str "pass")) fun b_7 =>
 if b_7 = true then
 pB (pV (ixD a_row (.int 1))) fun v_8 =>
 pB (pV (addD (.str "pass ") v_8)) fun v_9 =>
 pB (pV (addD v_9 (.str " "))) fun v_10 =>
 pB (pV (ixD a_row (.int 2))) fun v_11 =>
 pB (pV (strcD [v_11])) fun v_12 =>
 pB (pV (addD v_10 v_12)) fun v_13 =>
 pB (pV (addD v_13 (.str "."))) fun v_14 =>
 pB (pV (ixD a_row (.int 3))) fun v_15 =>
 pB (pV (addD v_14 v_15)) fun v_16 =>
 pR v_16
 else
 pB (pV (ixD a_row (.int 0))) fun v_17 =>
 pB (pC eqD v_17 (.str "late")) fun b_18 =>
 if b_18 = true then
 pB (pV (ixD a_row (.int 1))) fun v_19 =>
 pB (pV (addD (.str "late ") v_19)) fun v_20 =>
 pB (pV (addD v_20 (.str " "))) fun v_21 =>
 pB (
 pB (pV (ixD a_row (.int 2))) fun v_23 =>
 pB (pNeg (.int 1)) fun v_24 =>
 pB (pC eqD v_23 v_24) fun b_25 =>
 if b_25 = true then
 pR (.str "-")
 else
 pB (pV (ixD a_row (.int 2))) fun v_26 =>
 pB (pV (strcD [v_26])) fun v_27 =>
 pR v_27) fun z_22 =>
 pB (pV (addD v_21 z_22)) fun v_28 =>
 pB (pV (addD v_28 (.str " "))) fun v_29 =>
 pB (pV (ixD a_row (.int 3))) fun v_30 =>
 pB (p__law_names_text v_30) fun r_31 =>
 pB (pV (addD v_29 r_31)) fun v_32 =>
 pR v_32
 else
 pB (pV (ixD a_row (.int 0))) fun v_33 =>
 pB (pC eqD v_33 (.str "out")) fun b_34 =>
 if b_34 = true then
 pR (.str "out")
 else
 pB (
 pB (pNeg (.int 1)) fun v_36 =>
 pB (pV (ixD a_row v_36)) fun v_37 =>
 pB (pO (truD v_37)) fun b_38 =>
 if b_38 = true then
 pR (.str " !")
 else
 pR (.str "")) fun z_35 =>
 pB (pV (ixD a_row (.int 0))) fun v_39 =>
 pB (pC eqD v_39 (.str "give")) fun b_40 =>
 if b_40 = true then
 pB (pV (ixD a_row (.int 1))) fun v_41 =>
 pB (pV (addD (.str "give ") v_41)) fun v_42 =>
 pB (pV (addD v_42 (.str " "))) fun v_43 =>
 pB (pV (ixD a_row (.int 2))) fun v_44 =>
 pB (p__law_names_text v_44) fun r_45 =>
 pB (pV (addD v_43 r_45)) fun v_46 =>
 pB (pV (addD v_46 z_35)) fun v_47 =>
 pR v_47
 else
 pB (pV (ixD a_row (.int 1))) fun v_48 =>
 pB (p__law_names_text v_48) fun r_49 =>
 pB (pV (addD (.str "show ") r_49)) fun v_50 =>
 pB (pV (addD v_50 z_35)) fun v_51 =>
 pR v_51
theorem pf__law_line (a_row : Dt) : FOk F__law_line [.val a_row] (p__law_line a_row) (fun (b : (Dt)) => .val b) (fun _ => []) 0 := by
 refine bk_fun (dd := d__law_line) (S := [.dat a_row, .any]) (X := [.any, .any]) (So := (fun (b : (Dt)) => [.any, .any])) ?_ rfl (.cons (⟨_, rfl, frz_val _⟩) (.cons (trivial) .nil)) (fun _ _ _ => outs0) (fun _ _ => ⟨[], outs0, rfl⟩)
 unfold p__law_line
 exact (bk_sif (bk_cmp (bk_2 (bk_v (c := a_row) 0 (bk_c (bk_o2V (frz_val _) (frz_val _) fun v_1 => (bk_c (bk_cmpV (frz_val _) (frz_val _) fun b_2 => (bk_ite (bk_sret (bk_2 (bk_c (bk_cb (bk_cons (bk_2 (bk_v (c := a_row) 0 (bk_c (bk_o2V (frz_val _) (frz_val _) fun v_3 => (bk_nil (bk_cbV (frzL_cons (frz_val _) frzL_nil) fun v_4 => (bk_o2V (frz_val _) (frz_val _) fun v_5 => (bk_rt (.any (.any .nil))))))))))))))) (bk_skip (bk_sif (bk_cmp (bk_2 (bk_v (c := a_row) 0 (bk_c (bk_o2V (frz_val _) (frz_val _) fun v_6 => (bk_c (bk_cmpV (frz_val _) (frz_val _) fun b_7 => (bk_ite (bk_sret (bk_2 (bk_2 (bk_2 (bk_2 (bk_2 (bk_c (bk_2 (bk_v (c := a_row) 0 (bk_c (bk_o2V (frz_val _) (frz_val _) fun v_8 => (bk_o2V (frz_val _) (frz_val _) fun v_9 => (bk_c (bk_o2V (frz_val _) (frz_val _) fun v_10 => (bk_cb (bk_cons (bk_2 (bk_v (c := a_row) 0 (bk_c (bk_o2V (frz_val _) (frz_val _) fun v_11 => (bk_nil (bk_cbV (frzL_cons (frz_val _) frzL_nil) fun v_12 => (bk_o2V (frz_val _) (frz_val _) fun v_13 => (bk_c (bk_o2V (frz_val _) (frz_val _) fun v_14 => (bk_2 (bk_v (c := a_row) 0 (bk_c (bk_o2V (frz_val _) (frz_val _) fun v_15 => (bk_o2V (frz_val _) (frz_val _) fun v_16 => (bk_rt (.any (.any .nil))))))))))))))))))))))))))))))))) (bk_skip (bk_sif (bk_cmp (bk_2 (bk_v (c := a_row) 0 (bk_c (bk_o2V (frz_val _) (frz_val _) fun v_17 => (bk_c (bk_cmpV (frz_val _) (frz_val _) fun b_18 => (bk_ite (bk_sret (bk_2 (bk_2 (bk_2 (bk_2 (bk_2 (bk_c (bk_2 (bk_v (c := a_row) 0 (bk_c (bk_o2V (frz_val _) (frz_val _) fun v_19 => (bk_o2V (frz_val _) (frz_val _) fun v_20 => (bk_c (bk_o2V (frz_val _) (frz_val _) fun v_21 => (bk_part (v := fun (z_22 : (Dt)) => .val z_22) (S1 := fun (z_22 : (Dt)) => [.dat a_row, .any]) (bk_sub (bk_if (bk_cmp (bk_2 (bk_v (c := a_row) 0 (bk_c (bk_o2V (frz_val _) (frz_val _) fun v_23 => (bk_neg (bk_c (bk_negV fun v_24 => (bk_cmpV (frz_val _) (frz_val _) fun b_25 => (bk_ite (bk_c (bk_ret (.same (.any .nil)))) (bk_cb (bk_cons (bk_2 (bk_v (c := a_row) 0 (bk_c (bk_o2V (frz_val _) (frz_val _) fun v_26 => (bk_nil (bk_cbV (frzL_cons (frz_val _) frzL_nil) fun v_27 => (bk_ret (.same (.any .nil))))))))))))))))))))))) fun z_22 => by exact (bk_o2V (frz_val _) (frz_val _) fun v_28 => (bk_c (bk_o2V (frz_val _) (frz_val _) fun v_29 => (bk_call (bk_ae (bk_2 (bk_v (c := a_row) 0 (bk_c (bk_o2V (frz_val _) (frz_val _) fun v_30 => (bk_an (bk_call0 (pf__law_names_text v_30) (fun _ => rfl) (fun _ => rfl) (.any (.any .nil)) fun r_31 => (bk_o2V (frz_val _) (frz_val _) fun v_32 => (bk_rt (.any (.any .nil)))))))))))))))))))))))))))))) (bk_skip (bk_sif (bk_cmp (bk_2 (bk_v (c := a_row) 0 (bk_c (bk_o2V (frz_val _) (frz_val _) fun v_33 => (bk_c (bk_cmpV (frz_val _) (frz_val _) fun b_34 => (bk_ite (bk_sret (bk_c (bk_rt (.any (.any .nil))))) (bk_skip (bk_set (bk_F (bk_part (v := fun (z_35 : (Dt)) => .val z_35) (S1 := fun (z_35 : (Dt)) => [.dat a_row, .any]) (bk_sub (bk_if (bk_tru (bk_2 (bk_v (c := a_row) 0 (bk_neg (bk_c (bk_negV fun v_36 => (bk_o2V (frz_val _) (frz_val _) fun v_37 => (bk_truV (frz_val _) fun b_38 => (bk_ite (bk_c (bk_ret (.same (.any .nil)))) (bk_c (bk_ret (.same (.any .nil))))))))))))))) fun z_35 => by exact (bk_F' (frz_val _) (bk_setX (frz_val _) (bk_S (T := [.dat a_row, .dat z_35]) (bk_sif (bk_cmp (bk_2 (bk_v (c := a_row) 0 (bk_c (bk_o2V (frz_val _) (frz_val _) fun v_39 => (bk_c (bk_cmpV (frz_val _) (frz_val _) fun b_40 => (bk_ite (bk_sret (bk_2 (bk_2 (bk_2 (bk_2 (bk_c (bk_2 (bk_v (c := a_row) 0 (bk_c (bk_o2V (frz_val _) (frz_val _) fun v_41 => (bk_o2V (frz_val _) (frz_val _) fun v_42 => (bk_c (bk_o2V (frz_val _) (frz_val _) fun v_43 => (bk_call (bk_ae (bk_2 (bk_v (c := a_row) 0 (bk_c (bk_o2V (frz_val _) (frz_val _) fun v_44 => (bk_an (bk_call0 (pf__law_names_text v_44) (fun _ => rfl) (fun _ => rfl) (.any (.any .nil)) fun r_45 => (bk_o2V (frz_val _) (frz_val _) fun v_46 => (bk_v (c := z_35) 1 (bk_o2V (frz_val _) (frz_val _) fun v_47 => (bk_rt (.any (.any .nil))))))))))))))))))))))))))) (bk_skip (bk_last (bk_sret (bk_2 (bk_2 (bk_c (bk_call (bk_ae (bk_2 (bk_v (c := a_row) 0 (bk_c (bk_o2V (frz_val _) (frz_val _) fun v_48 => (bk_an (bk_call0 (pf__law_names_text v_48) (fun _ => rfl) (fun _ => rfl) (.any (.any .nil)) fun r_49 => (bk_o2V (frz_val _) (frz_val _) fun v_50 => (bk_v (c := z_35) 1 (bk_o2V (frz_val _) (frz_val _) fun v_51 => (bk_rt (.any (.any .nil)))))))))))))))))))))))))))))))))))))))))))))))))))))))))))))))))))))))))))
def p__law_lines (a_program : Dt) : PM (List Dt) :=
 pB (pV (ixD a_program (.int 2))) fun v_2 =>
 pB (pIt v_2) fun ds_1 =>
 pB (pMap ds_1 fun part_3 =>
 pB (pV (strcD [part_3])) fun v_5 =>
 pR v_5) fun ys_6 =>
 pB (pV (joinD (.str "") (.list ys_6))) fun v_7 =>
 pB (pV (addD (.str "entries ") v_7)) fun v_8 =>
 pB (pV (ixD a_program (.int 3))) fun v_9 =>
 pB (p__law_names_text v_9) fun r_10 =>
 pB (pV (addD (.str "open ") r_10)) fun v_11 =>
 pB (pV (ixD a_program (.int 0))) fun v_13 =>
 pB (pV (lenD [v_13])) fun v_14 =>
 pB (pRng1 v_14) fun ds_12 =>
 pB (pFor ds_12 [v_8, v_11] fun part_15 s_16 =>
 pB (
 pB (pV (ixD a_program (.int 1))) fun v_18 =>
 pB (pV (ixD v_18 part_15)) fun v_19 =>
 pB (pO (truD v_19)) fun b_20 =>
 if b_20 = true then
 pR (.str "part plain")
 else
 pR (.str "part")) fun z_17 =>
 pB (pApp s_16 z_17) fun lines_21 =>
 pB (pV (ixD a_program (.int 0))) fun v_23 =>
 pB (pV (ixD v_23 part_15)) fun v_24 =>
 pB (pIt v_24) fun ds_22 =>
 pB (pMap ds_22 fun row_25 =>
 pB (p__law_line row_25) fun r_27 =>
 pR r_27) fun ys_28 =>
 pB (pL (addD (.list lines_21) (.list ys_28))) fun v_29 =>
 pR v_29) fun s_16 =>
 pR s_16
theorem pf__law_lines (a_program : Dt) : FOk F__law_lines [.val a_program] (p__law_lines a_program) (fun (b : (List Dt)) => .lst (b.map .val)) (fun _ => []) 0 := by
 refine bk_fun (dd := d__law_lines) (S := [.dat a_program, .any, .any, .any]) (X := [.any, .any, .any, .any]) (So := (fun (b : (List Dt)) => [.any, .any, .any, .any])) ?_ rfl (.cons (⟨_, rfl, frz_val _⟩) (.cons (trivial) (.cons (trivial) (.cons (trivial) .nil)))) (fun _ _ _ => outs0) (fun _ _ => ⟨[], outs0, rfl⟩)
 unfold p__law_lines
 exact (bk_set (bk_lstF (bk_cons (bk_2 (bk_c (bk_join (bk_lc (bk_it (bk_2 (bk_v (c := a_program) 0 (bk_c (bk_o2V (frz_val _) (frz_val _) fun v_2 => (bk_itX (frz_val _) fun ds_1 => (bk_lcM_V (Sw := [.dat a_program, .any, .any, .any]) (.same (.any (.any (.any .nil)))) ⟨.inl rfl, trivial⟩ (fun part_3 => (bk_tN (bk_cb (bk_cons (bk_v (c := part_3) 2 (bk_nil (bk_cbV (frzL_cons (frz_val _) frzL_nil) fun v_5 => (bk_elV (.same (.any (.any (.any .nil)))))))))))) (fun ys_6 => (bk_o1V (frz_lst ys_6) fun v_7 => (bk_o2V (frz_val _) (frz_val _) fun v_8 => (bk_cons (bk_2 (bk_c (bk_call (bk_ae (bk_2 (bk_v (c := a_program) 0 (bk_c (bk_o2V (frz_val _) (frz_val _) fun v_9 => (bk_an (bk_call0 (pf__law_names_text v_9) (fun _ => rfl) (fun _ => rfl) (.any (.any (.any (.any .nil)))) fun r_10 => (bk_o2V (frz_val _) (frz_val _) fun v_11 => (bk_nil (bk_lstL (ds := [v_8, v_11]) (frzL_cons (frz_val _) (frzL_cons (frz_val _) frzL_nil)) rfl (bk_setO (ds := [v_8, v_11]) (bk_S (T := [.dat a_program, .own [v_8, v_11], .any, .any]) (bk_for (bk_rng1 (bk_cb (bk_cons (bk_2 (bk_v (c := a_program) 0 (bk_c (bk_o2V (frz_val _) (frz_val _) fun v_13 => (bk_nil (bk_cbV (frzL_cons (frz_val _) frzL_nil) fun v_14 => (bk_rng1V fun ds_12 => (bk_loopS (Sn := fun (s_16 : (List Dt)) => [.dat a_program, .own s_16, .any, .any]) [v_8, v_11] (.same (.same (.any (.any .nil)))) (fun part_15 s_16 => (bk_tN (bk_expr (bk_app (ds := s_16) 1 (bk_part (v := fun (z_17 : (Dt)) => .val z_17) (S1 := fun (z_17 : (Dt)) => [.dat a_program, .own s_16, .dat part_15, .any]) (bk_sub (bk_if (bk_tru (bk_2 (bk_2 (bk_v (c := a_program) 0 (bk_c (bk_o2V (frz_val _) (frz_val _) fun v_18 => (bk_v (c := part_15) 2 (bk_o2V (frz_val _) (frz_val _) fun v_19 => (bk_truV (frz_val _) fun b_20 => (bk_ite (bk_c (bk_ret (.same (.same (.same (.any .nil)))))) (bk_c (bk_ret (.same (.same (.same (.any .nil)))))))))))))))))) fun z_17 => by exact (bk_appV (ds := s_16) 1 fun lines_21 => (bk_last (bk_set (bk_2 (bk_vO (ds := lines_21) 1 (bk_lc (bk_it (bk_2 (bk_2 (bk_v (c := a_program) 0 (bk_c (bk_o2V (frz_val _) (frz_val _) fun v_23 => (bk_v (c := part_15) 2 (bk_o2V (frz_val _) (frz_val _) fun v_24 => (bk_itX (frz_val _) fun ds_22 => (bk_lcM_V (Sw := [.dat a_program, .dat (.list lines_21), .dat part_15, .any]) (.same (.same (.same (.any .nil)))) ⟨.inl rfl, trivial⟩ (fun row_25 => (bk_tN (bk_call (bk_ae (bk_v (c := row_25) 3 (bk_an (bk_call0 (pf__law_line row_25) (fun _ => rfl) (fun _ => rfl) (.any (.any (.any (.any .nil)))) fun r_27 => (bk_elV (.same (.same (.same (.any .nil)))))))))))) (fun ys_28 => (bk_o2L (frz_val _) (frz_lst ys_28) fun v_29 => (bk_setO (ds := v_29) (bk_S (T := [.dat a_program, .own v_29, .dat part_15, .any]) (bk_nx (.same (.same (.any (.any .nil)))))))))))))))))))))))))))))) (fun s_16 => (bk_last (bk_sret (bk_mvO (ds := s_16) 1 (bk_rt (.any (.any (.any (.any .nil))))))))))))))))))))))))))))))))))))))))))))))))))))))
def p__law_pool (a_script : Dt) : PM (List Dt) :=
 pB (pIt a_script) fun ds_1 =>
 pB (pMap ds_1 fun cell_2 =>
 pB (pV (intD [cell_2])) fun v_4 =>
 pR v_4) fun ys_5 =>
 pB (pF (addD (.list [(.int 0)]) (.list ys_5))) fun v_6 =>
 pB (pV (lenD [a_script])) fun v_9 =>
 pB (pV (eqD v_9 (.int 0))) fun v_10 =>
 pB (pV (intD [v_10])) fun v_11 =>
 pB (pRepL [(.int 0)] v_11) fun v_12 =>
 pB (pL (addD v_6 (.list v_12))) fun v_13 =>
 pR v_13
theorem pf__law_pool (a_script : Dt) : FOk F__law_pool [.val a_script] (p__law_pool a_script) (fun (b : (List Dt)) => .lst (b.map .val)) (fun _ => []) 0 := by
 refine bk_fun (dd := d__law_pool) (S := [.dat a_script, .any]) (X := [.any, .any]) (So := (fun (b : (List Dt)) => [.any, .any])) ?_ rfl (.cons (⟨_, rfl, frz_val _⟩) (.cons (trivial) .nil)) (fun _ _ _ => outs0) (fun _ _ => ⟨[], outs0, rfl⟩)
 unfold p__law_pool
 exact (bk_last (bk_sret (bk_2 (bk_2 (bk_lstF (bk_cons (bk_c (bk_nil (bk_lstL (ds := [(.int 0)]) (frzL_cons (frz_val _) frzL_nil) rfl (bk_lc (bk_it (bk_v (c := a_script) 0 (bk_itX (frz_val _) fun ds_1 => (bk_lcM_V (Sw := [.dat a_script, .any]) (.same (.any .nil)) ⟨.inl rfl, trivial⟩ (fun cell_2 => (bk_tN (bk_cb (bk_cons (bk_v (c := cell_2) 1 (bk_nil (bk_cbV (frzL_cons (frz_val _) frzL_nil) fun v_4 => (bk_elV (.same (.any .nil)))))))))) (fun ys_5 => (bk_o2X (frz_lst [(.int 0)]) (frz_lst ys_5) fun y_7 v_6 h_8 => (bk_repL (bk_lstF (bk_cons (bk_c (bk_nil (bk_lstL (ds := [(.int 0)]) (frzL_cons (frz_val _) frzL_nil) rfl (bk_cb (bk_cons (bk_2 (bk_cb (bk_cons (bk_v (c := a_script) 0 (bk_nil (bk_cbV (frzL_cons (frz_val _) frzL_nil) fun v_9 => (bk_c (bk_o2V (frz_val _) (frz_val _) fun v_10 => (bk_nil (bk_cbV (frzL_cons (frz_val _) frzL_nil) fun v_11 => (bk_repLV (ds := [(.int 0)]) fun v_12 => (bk_o2L h_8 (frz_lst v_12) fun v_13 => (bk_rt (.any (.any .nil)))))))))))))))))))))))))))))))))))))))
def p__law_draw (a_pool : List Dt) (a_limit : Dt) : PM (Dt × List Dt) :=
 pB (pIxL a_pool (.int 0)) fun v_1 =>
 pB (pV (addD v_1 (.int 1))) fun v_2 =>
 pB (pSetIx a_pool (.int 0) v_2) fun pool_3 =>
 pB (pV (intD [v_1])) fun v_4 =>
 pB (pV (subI (.int pool_3.length) (.int 1))) fun v_5 =>
 pB (pV (modI v_4 v_5)) fun v_6 =>
 pB (pV (addD (.int 1) v_6)) fun v_7 =>
 pB (pIxL pool_3 v_7) fun v_8 =>
 pB (pV (powI (.int 10) (.int 18))) fun v_9 =>
 pB (pC geI v_8 v_9) fun b_10 =>
 if b_10 = true then
 pB (pV (divI v_8 a_limit)) fun v_11 =>
 pB (pSetIx pool_3 v_7 v_11) fun pool_12 =>
 pB (pV (intD [v_8])) fun v_13 =>
 pB (pV (modI v_13 a_limit)) fun v_14 =>
 pR (v_14, pool_12)
 else
 pB (pV (intD [v_8])) fun v_15 =>
 pB (pV (modI v_15 (.int 1000003))) fun v_16 =>
 pB (pV (addD v_16 (.int 5))) fun v_17 =>
 pB (pV (mulI v_17 v_17)) fun v_18 =>
 pB (pV (addD v_1 (.int 7))) fun v_19 =>
 pB (pV (mulI v_18 v_19)) fun v_20 =>
 pB (pV (mulI v_1 v_1)) fun v_21 =>
 pB (pV (addD v_21 (.int 13))) fun v_22 =>
 pB (pV (mulI v_17 v_22)) fun v_23 =>
 pB (pV (addD v_20 v_23)) fun v_24 =>
 pB (pV (addD v_1 (.int 11))) fun v_25 =>
 pB (pV (powI v_25 (.int 3))) fun v_26 =>
 pB (pV (addD v_24 v_26)) fun v_27 =>
 pB (pV (intD [v_1])) fun v_28 =>
 pB (pV (modI v_28 (.int 5))) fun v_29 =>
 pB (pV (ixD (.list [(.int 999979), (.int 999961), (.int 999953), (.int 999931), (.int 999917)]) v_29)) fun v_30 =>
 pB (pV (mulI v_27 v_27)) fun v_31 =>
 pB (pV (divI v_31 (.int 1009))) fun v_32 =>
 pB (pV (intD [v_32])) fun v_33 =>
 pB (pV (modI v_33 v_30)) fun v_34 =>
 pB (pV (modI v_34 a_limit)) fun v_35 =>
 pR (v_35, pool_3)
theorem pf__law_draw (a_pool : List Dt) (a_limit : Dt) : FOk F__law_draw [.lst (a_pool.map .val), .val a_limit] (p__law_draw a_pool a_limit) (fun (b : (Dt × List Dt)) => .val b.1) (fun b => [.lst (b.2.map .val)]) 1 := by
 refine bk_fun (dd := d__law_draw) (S := [.own a_pool, .dat a_limit, .any, .any, .any, .any, .any, .any]) (X := [.som, .any, .any, .any, .any, .any, .any, .any]) (So := (fun (b : (Dt × List Dt)) => [.own b.2, .any, .any, .any, .any, .any, .any, .any])) ?_ rfl (.cons (rfl) (.cons (⟨_, rfl, frz_val _⟩) (.cons (trivial) (.cons (trivial) (.cons (trivial) (.cons (trivial) (.cons (trivial) (.cons (trivial) .nil)))))))) (fun _ _ h => outs1 h) (fun _ h => outsX1 h)
 unfold p__law_draw
 exact (bk_set (bk_F (bk_ixO (ds := a_pool) 0 (bk_c (bk_ixOV (ds := a_pool) 0 fun v_1 => (bk_F' (frz_val _) (bk_setX (frz_val _) (bk_S (T := [.own a_pool, .dat a_limit, .dat v_1, .any, .any, .any, .any, .any]) (bk_setIx (bk_2 (bk_v (c := v_1) 2 (bk_c (bk_o2V (frz_val _) (frz_val _) fun v_2 => (bk_chk (ds := a_pool) 0 (bk_c (bk_setIxV (ds := a_pool) 0 fun pool_3 => (bk_set (bk_2 (bk_c (bk_2 (bk_cb (bk_cons (bk_v (c := v_1) 2 (bk_nil (bk_cbV (frzL_cons (frz_val _) frzL_nil) fun v_4 => (bk_2 (bk_lenO (ds := pool_3) 0 (bk_c (bk_o2V (frz_val _) (frz_val _) fun v_5 => (bk_o2V (frz_val _) (frz_val _) fun v_6 => (bk_o2V (frz_val _) (frz_val _) fun v_7 => (bk_setX (frz_val _) (bk_S (T := [.own pool_3, .dat a_limit, .dat v_1, .dat v_7, .any, .any, .any, .any]) (bk_set (bk_F (bk_ixO (ds := pool_3) 0 (bk_v (c := v_7) 3 (bk_ixOV (ds := pool_3) 0 fun v_8 => (bk_F' (frz_val _) (bk_setX (frz_val _) (bk_S (T := [.own pool_3, .dat a_limit, .dat v_1, .dat v_7, .dat v_8, .any, .any, .any]) (bk_sif (bk_cmp (bk_v (c := v_8) 4 (bk_2 (bk_c (bk_c (bk_o2V (frz_val _) (frz_val _) fun v_9 => (bk_cmpV (frz_val _) (frz_val _) fun b_10 => (bk_ite (bk_seq (bk_setIx (bk_2 (bk_v (c := v_8) 4 (bk_v (c := a_limit) 1 (bk_o2V (frz_val _) (frz_val _) fun v_11 => (bk_chk (ds := pool_3) 0 (bk_v (c := v_7) 3 (bk_setIxV (ds := pool_3) 0 fun pool_12 => (bk_sret (bk_2 (bk_cb (bk_cons (bk_v (c := v_8) 4 (bk_nil (bk_cbV (frzL_cons (frz_val _) frzL_nil) fun v_13 => (bk_v (c := a_limit) 1 (bk_o2V (frz_val _) (frz_val _) fun v_14 => (bk_rt (.same (.any (.any (.any (.any (.any (.any (.any .nil))))))))))))))))))))))))))) (bk_skip (bk_set (bk_2 (bk_2 (bk_cb (bk_cons (bk_v (c := v_8) 4 (bk_nil (bk_cbV (frzL_cons (frz_val _) frzL_nil) fun v_15 => (bk_c (bk_o2V (frz_val _) (frz_val _) fun v_16 => (bk_c (bk_o2V (frz_val _) (frz_val _) fun v_17 => (bk_setX (frz_val _) (bk_S (T := [.own pool_3, .dat a_limit, .dat v_1, .dat v_7, .dat v_8, .dat v_17, .any, .any]) (bk_set (bk_2 (bk_2 (bk_2 (bk_2 (bk_v (c := v_17) 5 (bk_v (c := v_17) 5 (bk_o2V (frz_val _) (frz_val _) fun v_18 => (bk_2 (bk_v (c := v_1) 2 (bk_c (bk_o2V (frz_val _) (frz_val _) fun v_19 => (bk_o2V (frz_val _) (frz_val _) fun v_20 => (bk_2 (bk_v (c := v_17) 5 (bk_2 (bk_2 (bk_v (c := v_1) 2 (bk_v (c := v_1) 2 (bk_o2V (frz_val _) (frz_val _) fun v_21 => (bk_c (bk_o2V (frz_val _) (frz_val _) fun v_22 => (bk_o2V (frz_val _) (frz_val _) fun v_23 => (bk_o2V (frz_val _) (frz_val _) fun v_24 => (bk_2 (bk_2 (bk_v (c := v_1) 2 (bk_c (bk_o2V (frz_val _) (frz_val _) fun v_25 => (bk_c (bk_o2V (frz_val _) (frz_val _) fun v_26 => (bk_o2V (frz_val _) (frz_val _) fun v_27 => (bk_setX (frz_val _) (bk_S (T := [.own pool_3, .dat a_limit, .dat v_1, .dat v_7, .dat v_8, .dat v_17, .dat v_27, .any]) (bk_set (bk_F (bk_2 (bk_lstF (bk_cons (bk_c (bk_cons (bk_c (bk_cons (bk_c (bk_cons (bk_c (bk_cons (bk_c (bk_nil (bk_lstL (ds := [(.int 999979), (.int 999961), (.int 999953), (.int 999931), (.int 999917)]) (frzL_cons (frz_val _) (frzL_cons (frz_val _) (frzL_cons (frz_val _) (frzL_cons (frz_val _) (frzL_cons (frz_val _) frzL_nil))))) rfl (bk_2 (bk_cb (bk_cons (bk_v (c := v_1) 2 (bk_nil (bk_cbV (frzL_cons (frz_val _) frzL_nil) fun v_28 => (bk_c (bk_o2V (frz_val _) (frz_val _) fun v_29 => (bk_o2V (frz_lst [(.int 999979), (.int 999961), (.int 999953), (.int 999931), (.int 999917)]) (frz_val _) fun v_30 => (bk_F' (frz_val _) (bk_setX (frz_val _) (bk_S (T := [.own pool_3, .dat a_limit, .dat v_1, .dat v_7, .dat v_8, .dat v_17, .dat v_27, .dat v_30]) (bk_last (bk_sret (bk_2 (bk_2 (bk_cb (bk_cons (bk_2 (bk_2 (bk_v (c := v_27) 6 (bk_v (c := v_27) 6 (bk_o2V (frz_val _) (frz_val _) fun v_31 => (bk_c (bk_o2V (frz_val _) (frz_val _) fun v_32 => (bk_nil (bk_cbV (frzL_cons (frz_val _) frzL_nil) fun v_33 => (bk_v (c := v_30) 7 (bk_o2V (frz_val _) (frz_val _) fun v_34 => (bk_v (c := a_limit) 1 (bk_o2V (frz_val _) (frz_val _) fun v_35 => (bk_rt (.same (.any (.any (.any (.any (.any (.any (.any .nil)))))))))))))))))))))))))))))))))))))))))))))))))))))))))))))))))))))))))))))))))))))))))))))))))))))))))))))))))))))))))))))))))))))))))))))))))))))))))))
def p__law_need (a_pool : List Dt) (a_count : Dt) (a_given : Dt) : PM (Dt × List Dt) :=
 pB (
 pB (pC neD a_given (.list [])) fun b_2 =>
 if b_2 = true then
 pB (p__law_draw a_pool (.int 6)) fun r_3 =>
 pB (pC gtI r_3.1 (.int 0)) fun b_4 =>
 pR (b_4, r_3.2)
 else
 pR (false, a_pool)) fun b_1 =>
 if b_1.1 = true then
 pB (pV (lenD [a_given])) fun v_5 =>
 pB (p__law_draw b_1.2 v_5) fun r_6 =>
 pB (pV (ixD a_given r_6.1)) fun v_7 =>
 pR (v_7, r_6.2)
 else
 pB (p__law_draw b_1.2 a_count) fun r_8 =>
 pB (p__law_draw r_8.2 (.int 4)) fun r_9 =>
 pB (pV (ixD (.str "abcd") r_9.1)) fun v_10 =>
 pR ((.tuple [r_8.1, v_10]), r_9.2)
theorem pf__law_need (a_pool : List Dt) (a_count : Dt) (a_given : Dt) : FOk F__law_need [.lst (a_pool.map .val), .val a_count, .val a_given] (p__law_need a_pool a_count a_given) (fun (b : (Dt × List Dt)) => .val b.1) (fun b => [.lst (b.2.map .val)]) 1 := by
 refine bk_fun (dd := d__law_need) (S := [.own a_pool, .dat a_count, .dat a_given]) (X := [.som, .any, .any]) (So := (fun (b : (Dt × List Dt)) => [.own b.2, .any, .any])) ?_ rfl (.cons (rfl) (.cons (⟨_, rfl, frz_val _⟩) (.cons (⟨_, rfl, frz_val _⟩) .nil))) (fun _ _ h => outs1 h) (fun _ h => outsX1 h)
 unfold p__law_need
 exact (bk_sif (bk_part (v := fun (b_1 : (Bool × List Dt)) => b_1.1) (S1 := fun (b_1 : (Bool × List Dt)) => [.own b_1.2, .dat a_count, .dat a_given]) (bk_sub (bk_and (bk_cmp (bk_v (c := a_given) 2 (bk_lstF (bk_nil (bk_lstL (ds := []) frzL_nil rfl (bk_cmpV (frz_val _) (frz_lst []) fun b_2 => (bk_ite (bk_cmp (bk_call (bk_ai (ds := a_pool) (bk_ae (bk_c (bk_an (bk_call1 (i := 0) (ds := a_pool) (pf__law_draw a_pool (.int 6)) (fun env h => by simp [takeSa, h]) (fun _ _ => rfl) (.same (.any (.any .nil))) fun r_3 => (bk_c (bk_cmpV (frz_val _) (frz_val _) fun b_4 => (bk_ret (.same (.same (.same .nil))))))))))))) (bk_ret (.same (.same (.same .nil))))))))))))) fun b_1 => by exact (bk_ite (bk_sret (bk_2 (bk_v (c := a_given) 2 (bk_call (bk_ai (ds := b_1.2) (bk_ae (bk_cb (bk_cons (bk_v (c := a_given) 2 (bk_nil (bk_cbV (frzL_cons (frz_val _) frzL_nil) fun v_5 => (bk_an (bk_call1 (i := 0) (ds := b_1.2) (pf__law_draw b_1.2 v_5) (fun env h => by simp [takeSa, h]) (fun _ _ => rfl) (.same (.any (.any .nil))) fun r_6 => (bk_o2V (frz_val _) (frz_val _) fun v_7 => (bk_rt (.same (.any (.any .nil)))))))))))))))))) (bk_skip (bk_last (bk_sret (bk_tup (bk_cons (bk_call (bk_ai (ds := b_1.2) (bk_ae (bk_v (c := a_count) 1 (bk_an (bk_call1 (i := 0) (ds := b_1.2) (pf__law_draw b_1.2 a_count) (fun env h => by simp [takeSa, h]) (fun _ _ => rfl) (.same (.any (.any .nil))) fun r_8 => (bk_cons (bk_2 (bk_c (bk_call (bk_ai (ds := r_8.2) (bk_ae (bk_c (bk_an (bk_call1 (i := 0) (ds := r_8.2) (pf__law_draw r_8.2 (.int 4)) (fun env h => by simp [takeSa, h]) (fun _ _ => rfl) (.same (.any (.any .nil))) fun r_9 => (bk_o2V (frz_val _) (frz_val _) fun v_10 => (bk_nil (bk_tupL (frzL_cons (frz_val _) (frzL_cons (frz_val _) frzL_nil)) rfl (bk_rt (.same (.any (.any .nil))))))))))))))))))))))))))))))
def p__law_needs (a_pool : List Dt) (a_count : Dt) (a_given : Dt) (a_most : Dt) : PM (Dt × List Dt) :=
 pB (pV (addD a_most (.int 1))) fun v_2 =>
 pB (p__law_draw a_pool v_2) fun r_3 =>
 pB (pRng1 r_3.1) fun ds_1 =>
 pB (pMapS ds_1 r_3.2 fun k_4 s_5 =>
 pB (p__law_need s_5 a_count a_given) fun r_6 =>
 pR (r_6.1, r_6.2)) fun z_8 =>
 pB (pV (tupleD [(.list z_8.1)])) fun v_9 =>
 pR (v_9, z_8.2)
theorem pf__law_needs (a_pool : List Dt) (a_count : Dt) (a_given : Dt) (a_most : Dt) : FOk F__law_needs [.lst (a_pool.map .val), .val a_count, .val a_given, .val a_most] (p__law_needs a_pool a_count a_given a_most) (fun (b : (Dt × List Dt)) => .val b.1) (fun b => [.lst (b.2.map .val)]) 1 := by
 refine bk_fun (dd := d__law_needs) (S := [.own a_pool, .dat a_count, .dat a_given, .dat a_most, .any]) (X := [.som, .any, .any, .any, .any]) (So := (fun (b : (Dt × List Dt)) => [.own b.2, .any, .any, .any, .any])) ?_ rfl (.cons (rfl) (.cons (⟨_, rfl, frz_val _⟩) (.cons (⟨_, rfl, frz_val _⟩) (.cons (⟨_, rfl, frz_val _⟩) (.cons (trivial) .nil))))) (fun _ _ h => outs1 h) (fun _ h => outsX1 h)
 unfold p__law_needs
 exact (bk_last (bk_sret (bk_cb (bk_cons (bk_lc (bk_rng1 (bk_call (bk_ai (ds := a_pool) (bk_ae (bk_2 (bk_v (c := a_most) 3 (bk_c (bk_o2V (frz_val _) (frz_val _) fun v_2 => (bk_an (bk_call1 (i := 0) (ds := a_pool) (pf__law_draw a_pool v_2) (fun env h => by simp [takeSa, h]) (fun _ _ => rfl) (.same (.any (.any (.any (.any .nil))))) fun r_3 => (bk_rng1V fun ds_1 => (bk_lcMS_V (Sw := fun (s_5 : (List Dt)) => [.own s_5, .dat a_count, .dat a_given, .dat a_most, .any]) r_3.2 (.same (.same (.same (.same (.any .nil))))) (fun _ => ⟨.inl rfl, trivial⟩) (fun _ _ => rfl) (fun k_4 s_5 => (bk_tN (bk_call (bk_ai (ds := s_5) (bk_ae (bk_v (c := a_count) 1 (bk_ae (bk_v (c := a_given) 2 (bk_an (bk_call1 (i := 0) (ds := s_5) (pf__law_need s_5 a_count a_given) (fun env h => by simp [takeSa, h]) (fun _ _ => rfl) (.same (.any (.any (.any (.any .nil))))) fun r_6 => (bk_elV (.same (.same (.same (.same (.any .nil)))))))))))))))) (fun z_8_a z_8_b => (bk_nil (bk_cbV (frzL_cons (frz_lst z_8_a) frzL_nil) fun v_9 => (bk_rt (.same (.any (.any (.any (.any .nil))))))))))))))))))))))))))
def p__law_row (a_pool : List Dt) (a_word : Dt) (a_name : Dt) (a_count : Dt) (a_given : Dt) : PM (Dt × List Dt) :=
 pB (pC eqD a_word (.str "load")) fun b_1 =>
 if b_1 = true then
 pB (p__law_draw a_pool a_count) fun r_2 =>
 pR ((.tuple [a_word, r_2.1]), r_2.2)
 else
 pB (pC eqD a_word (.str "give")) fun b_3 =>
 if b_3 = true then
 pB (p__law_needs a_pool a_count a_given (.int 1)) fun r_4 =>
 pB (p__law_draw r_4.2 (.int 4)) fun r_5 =>
 pB (pV (eqD r_5.1 (.int 0))) fun v_6 =>
 pR ((.tuple [a_word, a_name, r_4.1, v_6]), r_5.2)
 else
 pB (pC eqD a_word (.str "pass")) fun b_7 =>
 if b_7 = true then
 pB (p__law_need a_pool a_count a_given) fun r_8 =>
 pB (pV (addD (.tuple [a_word, a_name]) r_8.1)) fun v_9 =>
 pR (v_9, r_8.2)
 else
 pB (pC eqD a_word (.str "show")) fun b_10 =>
 if b_10 = true then
 pB (p__law_needs a_pool a_count a_given (.int 2)) fun r_11 =>
 pB (p__law_draw r_11.2 (.int 4)) fun r_12 =>
 pB (pV (eqD r_12.1 (.int 0))) fun v_13 =>
 pR ((.tuple [a_word, r_11.1, v_13]), r_12.2)
 else
 pB (pC eqD a_word (.str "late")) fun b_14 =>
 if b_14 = true then
 pB (pV (addD a_count (.int 1))) fun v_15 =>
 pB (p__law_draw a_pool v_15) fun r_16 =>
 pB (pV (subI r_16.1 (.int 1))) fun v_17 =>
 pB (p__law_needs r_16.2 a_count a_given (.int 2)) fun r_18 =>
 pR ((.tuple [a_word, a_name, v_17, r_18.1]), r_18.2)
 else
 pR ((.tuple [a_word]), a_pool)
theorem pf__law_row (a_pool : List Dt) (a_word : Dt) (a_name : Dt) (a_count : Dt) (a_given : Dt) : FOk F__law_row [.lst (a_pool.map .val), .val a_word, .val a_name, .val a_count, .val a_given] (p__law_row a_pool a_word a_name a_count a_given) (fun (b : (Dt × List Dt)) => .val b.1) (fun b => [.lst (b.2.map .val)]) 1 := by
 refine bk_fun (dd := d__law_row) (S := [.own a_pool, .dat a_word, .dat a_name, .dat a_count, .dat a_given]) (X := [.som, .any, .any, .any, .any]) (So := (fun (b : (Dt × List Dt)) => [.own b.2, .any, .any, .any, .any])) ?_ rfl (.cons (rfl) (.cons (⟨_, rfl, frz_val _⟩) (.cons (⟨_, rfl, frz_val _⟩) (.cons (⟨_, rfl, frz_val _⟩) (.cons (⟨_, rfl, frz_val _⟩) .nil))))) (fun _ _ h => outs1 h) (fun _ h => outsX1 h)
 unfold p__law_row
 exact (bk_sif (bk_cmp (bk_v (c := a_word) 1 (bk_c (bk_cmpV (frz_val _) (frz_val _) fun b_1 => (bk_ite (bk_sret (bk_tup (bk_cons (bk_v (c := a_word) 1 (bk_cons (bk_call (bk_ai (ds := a_pool) (bk_ae (bk_v (c := a_count) 3 (bk_an (bk_call1 (i := 0) (ds := a_pool) (pf__law_draw a_pool a_count) (fun env h => by simp [takeSa, h]) (fun _ _ => rfl) (.same (.any (.any (.any (.any .nil))))) fun r_2 => (bk_nil (bk_tupL (frzL_cons (frz_val _) (frzL_cons (frz_val _) frzL_nil)) rfl (bk_rt (.same (.any (.any (.any (.any .nil))))))))))))))))))) (bk_skip (bk_sif (bk_cmp (bk_v (c := a_word) 1 (bk_c (bk_cmpV (frz_val _) (frz_val _) fun b_3 => (bk_ite (bk_sret (bk_tup (bk_cons (bk_v (c := a_word) 1 (bk_cons (bk_v (c := a_name) 2 (bk_cons (bk_call (bk_ai (ds := a_pool) (bk_ae (bk_v (c := a_count) 3 (bk_ae (bk_v (c := a_given) 4 (bk_ae (bk_c (bk_an (bk_call1 (i := 0) (ds := a_pool) (pf__law_needs a_pool a_count a_given (.int 1)) (fun env h => by simp [takeSa, h]) (fun _ _ => rfl) (.same (.any (.any (.any (.any .nil))))) fun r_4 => (bk_cons (bk_2 (bk_call (bk_ai (ds := r_4.2) (bk_ae (bk_c (bk_an (bk_call1 (i := 0) (ds := r_4.2) (pf__law_draw r_4.2 (.int 4)) (fun env h => by simp [takeSa, h]) (fun _ _ => rfl) (.same (.any (.any (.any (.any .nil))))) fun r_5 => (bk_c (bk_o2V (frz_val _) (frz_val _) fun v_6 => (bk_nil (bk_tupL (frzL_cons (frz_val _) (frzL_cons (frz_val _) (frzL_cons (frz_val _) (frzL_cons (frz_val _) frzL_nil)))) rfl (bk_rt (.same (.any (.any (.any (.any .nil))))))))))))))))))))))))))))))))))) (bk_skip (bk_sif (bk_cmp (bk_v (c := a_word) 1 (bk_c (bk_cmpV (frz_val _) (frz_val _) fun b_7 => (bk_ite (bk_sret (bk_2 (bk_tup (bk_cons (bk_v (c := a_word) 1 (bk_cons (bk_v (c := a_name) 2 (bk_nil (bk_tupL (frzL_cons (frz_val _) (frzL_cons (frz_val _) frzL_nil)) rfl (bk_call (bk_ai (ds := a_pool) (bk_ae (bk_v (c := a_count) 3 (bk_ae (bk_v (c := a_given) 4 (bk_an (bk_call1 (i := 0) (ds := a_pool) (pf__law_need a_pool a_count a_given) (fun env h => by simp [takeSa, h]) (fun _ _ => rfl) (.same (.any (.any (.any (.any .nil))))) fun r_8 => (bk_o2V (frz_val _) (frz_val _) fun v_9 => (bk_rt (.same (.any (.any (.any (.any .nil)))))))))))))))))))))))) (bk_skip (bk_sif (bk_cmp (bk_v (c := a_word) 1 (bk_c (bk_cmpV (frz_val _) (frz_val _) fun b_10 => (bk_ite (bk_sret (bk_tup (bk_cons (bk_v (c := a_word) 1 (bk_cons (bk_call (bk_ai (ds := a_pool) (bk_ae (bk_v (c := a_count) 3 (bk_ae (bk_v (c := a_given) 4 (bk_ae (bk_c (bk_an (bk_call1 (i := 0) (ds := a_pool) (pf__law_needs a_pool a_count a_given (.int 2)) (fun env h => by simp [takeSa, h]) (fun _ _ => rfl) (.same (.any (.any (.any (.any .nil))))) fun r_11 => (bk_cons (bk_2 (bk_call (bk_ai (ds := r_11.2) (bk_ae (bk_c (bk_an (bk_call1 (i := 0) (ds := r_11.2) (pf__law_draw r_11.2 (.int 4)) (fun env h => by simp [takeSa, h]) (fun _ _ => rfl) (.same (.any (.any (.any (.any .nil))))) fun r_12 => (bk_c (bk_o2V (frz_val _) (frz_val _) fun v_13 => (bk_nil (bk_tupL (frzL_cons (frz_val _) (frzL_cons (frz_val _) (frzL_cons (frz_val _) frzL_nil))) rfl (bk_rt (.same (.any (.any (.any (.any .nil))))))))))))))))))))))))))))))))) (bk_skip (bk_sif (bk_cmp (bk_v (c := a_word) 1 (bk_c (bk_cmpV (frz_val _) (frz_val _) fun b_14 => (bk_ite (bk_sret (bk_tup (bk_cons (bk_v (c := a_word) 1 (bk_cons (bk_v (c := a_name) 2 (bk_cons (bk_2 (bk_call (bk_ai (ds := a_pool) (bk_ae (bk_2 (bk_v (c := a_count) 3 (bk_c (bk_o2V (frz_val _) (frz_val _) fun v_15 => (bk_an (bk_call1 (i := 0) (ds := a_pool) (pf__law_draw a_pool v_15) (fun env h => by simp [takeSa, h]) (fun _ _ => rfl) (.same (.any (.any (.any (.any .nil))))) fun r_16 => (bk_c (bk_o2V (frz_val _) (frz_val _) fun v_17 => (bk_cons (bk_call (bk_ai (ds := r_16.2) (bk_ae (bk_v (c := a_count) 3 (bk_ae (bk_v (c := a_given) 4 (bk_ae (bk_c (bk_an (bk_call1 (i := 0) (ds := r_16.2) (pf__law_needs r_16.2 a_count a_given (.int 2)) (fun env h => by simp [takeSa, h]) (fun _ _ => rfl) (.same (.any (.any (.any (.any .nil))))) fun r_18 => (bk_nil (bk_tupL (frzL_cons (frz_val _) (frzL_cons (frz_val _) (frzL_cons (frz_val _) (frzL_cons (frz_val _) frzL_nil)))) rfl (bk_rt (.same (.any (.any (.any (.any .nil)))))))))))))))))))))))))))))))))))))) (bk_skip (bk_last (bk_sret (bk_tup (bk_cons (bk_v (c := a_word) 1 (bk_nil (bk_tupL (frzL_cons (frz_val _) frzL_nil) rfl (bk_rt (.same (.any (.any (.any (.any .nil))))))))))))))))))))))))))))))))))))))))))))))))
def p__law_subset (a_pool : List Dt) (a_items : Dt) (a_most : Dt) : PM (List Dt × List Dt) :=
 pB (pIt a_items) fun ds_1 =>
 pB (pFor ds_1 ([], a_pool) fun item_2 s_3 =>
 pB (
 pB (pC ltI (.int s_3.1.length) a_most) fun b_5 =>
 if b_5 = true then
 pB (p__law_draw s_3.2 (.int 2)) fun r_6 =>
 pB (pC eqD r_6.1 (.int 1)) fun b_7 =>
 pR (b_7, r_6.2)
 else
 pR (false, s_3.2)) fun b_4 =>
 if b_4.1 = true then
 pB (pApp s_3.1 item_2) fun kept_8 =>
 pR (kept_8, b_4.2)
 else
 pR (s_3.1, b_4.2)) fun s_3 =>
 pR (s_3.1, s_3.2)
theorem pf__law_subset (a_pool : List Dt) (a_items : Dt) (a_most : Dt) : FOk F__law_subset [.lst (a_pool.map .val), .val a_items, .val a_most] (p__law_subset a_pool a_items a_most) (fun (b : (List Dt × List Dt)) => .lst (b.1.map .val)) (fun b => [.lst (b.2.map .val)]) 1 := by
 refine bk_fun (dd := d__law_subset) (S := [.own a_pool, .dat a_items, .dat a_most, .any, .any]) (X := [.som, .any, .any, .any, .any]) (So := (fun (b : (List Dt × List Dt)) => [.own b.2, .any, .any, .any, .any])) ?_ rfl (.cons (rfl) (.cons (⟨_, rfl, frz_val _⟩) (.cons (⟨_, rfl, frz_val _⟩) (.cons (trivial) (.cons (trivial) .nil))))) (fun _ _ h => outs1 h) (fun _ h => outsX1 h)
 unfold p__law_subset
 exact (bk_set (bk_lstF (bk_nil (bk_lstL (ds := []) frzL_nil rfl (bk_setO (ds := []) (bk_S (T := [.own a_pool, .dat a_items, .dat a_most, .own [], .any]) (bk_for (bk_it (bk_v (c := a_items) 1 (bk_itX (frz_val _) fun ds_1 => (bk_loopS (Sn := fun (s_3 : (List Dt × List Dt)) => [.own s_3.2, .dat a_items, .dat a_most, .own s_3.1, .any]) ([], a_pool) (.same (.same (.same (.same (.any .nil))))) (fun item_2 s_3 => (bk_tN (bk_last (bk_sif (bk_part (v := fun (b_4 : (Bool × List Dt)) => b_4.1) (S1 := fun (b_4 : (Bool × List Dt)) => [.own b_4.2, .dat a_items, .dat a_most, .own s_3.1, .dat item_2]) (bk_sub (bk_and (bk_cmp (bk_lenO (ds := s_3.1) 3 (bk_v (c := a_most) 2 (bk_cmpV (frz_val _) (frz_val _) fun b_5 => (bk_ite (bk_cmp (bk_call (bk_ai (ds := s_3.2) (bk_ae (bk_c (bk_an (bk_call1 (i := 0) (ds := s_3.2) (pf__law_draw s_3.2 (.int 2)) (fun env h => by simp [takeSa, h]) (fun _ _ => rfl) (.same (.any (.any (.any (.any .nil))))) fun r_6 => (bk_c (bk_cmpV (frz_val _) (frz_val _) fun b_7 => (bk_ret (.same (.same (.same (.same (.same .nil))))))))))))))) (bk_ret (.same (.same (.same (.same (.same .nil))))))))))))) fun b_4 => by exact (bk_ite (bk_expr (bk_app (ds := s_3.1) 3 (bk_v (c := item_2) 4 (bk_appV (ds := s_3.1) 3 fun kept_8 => (bk_nx (.same (.same (.same (.same (.any .nil)))))))))) (bk_skip (bk_nx (.same (.same (.same (.same (.any .nil))))))))))))) (fun s_3 => (bk_last (bk_sret (bk_mvO (ds := s_3.1) 3 (bk_rt (.same (.any (.any (.any (.any .nil)))))))))))))))))))))
def p__law_with_show (a_words : Dt) : PM (Dt) :=
 pB (pIt a_words) fun ds_1 =>
 pB (pForL (γ := (Dt)) ds_1 () fun row_2 s_3 =>
 pB (pIt row_2) fun ds_4 =>
 pB (pForL (γ := (Dt)) ds_4 () fun d_5 s_6 =>
 pT2 d_5 fun word_7 name_8 =>
 pB (
 pB (pC eqD word_7 (.str "give")) fun b_10 =>
 if b_10 = true then
 pR true
 else
 pB (pC eqD word_7 (.str "show")) fun b_11 =>
 pR b_11) fun b_9 =>
 if b_9 = true then
 pR (.rt a_words)
 else
 pR (.go ())) fun l_s_6 => pLp l_s_6 (fun s_6 =>
 pR (.go ())) fun c => pR (.rt c)) fun l_s_3 => pLp l_s_3 (fun s_3 =>
 pB (pV (lenD [a_words])) fun v_13 =>
 pB (pRng1 v_13) fun ds_12 =>
 pB (pFil ds_12 fun k_14 =>
 pB (pV (ixD a_words k_14)) fun v_16 =>
 pB (pC neD v_16 (.list [])) fun b_17 =>
 if b_17 = true then
 pR (some k_14)
 else
 pR none) fun ys_18 =>
 pB (pF (addD (.list ys_18) (.list [(.int 0)]))) fun v_19 =>
 pB (pV (ixD v_19 (.int 0))) fun v_22 =>
 pB (pEnum a_words) fun ds_23 =>
 pB (pMap ds_23 fun d_24 =>
 pT2 d_24 fun k_26 row_27 =>
 pB (pC eqD k_26 v_22) fun b_28 =>
 if b_28 = true then
 pB (pNeg (.int 1)) fun v_29 =>
 pB (pO (int? v_29)) fun i_30 =>
 pB (pF (slD row_27 none (some i_30))) fun v_31 =>
 pB (pF (addD v_31 (.list [(.tuple [(.str "show"), (.str "a")])]))) fun v_34 =>
 pR v_34
 else
 pR row_27) fun ys_37 =>
 pR (.list ys_37)) fun c => pR c
theorem pf__law_with_show (a_words : Dt) : FOk F__law_with_show [.val a_words] (p__law_with_show a_words) (fun (b : (Dt)) => .val b) (fun _ => []) 0 := by
 refine bk_fun (dd := d__law_with_show) (S := [.dat a_words, .any, .any, .any, .any, .any, .any]) (X := [.any, .any, .any, .any, .any, .any, .any]) (So := (fun (b : (Dt)) => [.any, .any, .any, .any, .any, .any, .any])) ?_ rfl (.cons (⟨_, rfl, frz_val _⟩) (.cons (trivial) (.cons (trivial) (.cons (trivial) (.cons (trivial) (.cons (trivial) (.cons (trivial) .nil))))))) (fun _ _ _ => outs0) (fun _ _ => ⟨[], outs0, rfl⟩)
 unfold p__law_with_show
 exact (bk_for (bk_it (bk_v (c := a_words) 0 (bk_itX (frz_val _) fun ds_1 => (bk_lloopS (Sn := fun (s_3 : Unit) => [.dat a_words, .any, .any, .any, .any, .any, .any]) (Qr := Qf (fun (b : (Dt)) => .val b) (fun (b : (Dt)) => [.any, .any, .any, .any, .any, .any, .any])) () (.same (.any (.any (.any (.any (.any (.any .nil))))))) (fun row_2 s_3 => (bk_tN (bk_last (bk_for (bk_it (bk_v (c := row_2) 1 (bk_itX (frz_val _) fun ds_4 => (bk_lloopS (Sn := fun (s_6 : Unit) => [.dat a_words, .dat row_2, .any, .any, .any, .any, .any]) (Qr := Qf (fun (b : (Dt)) => .val b) (fun (b : (Dt)) => [.any, .any, .any, .any, .any, .any, .any])) () (.same (.same (.any (.any (.any (.any (.any .nil))))))) (fun d_5 s_6 => (bk_t2 fun word_7 name_8 => (bk_tN (bk_tN (bk_last (bk_sif (bk_part (v := fun (b_9 : (Bool)) => b_9) (S1 := fun (b_9 : (Bool)) => [.dat a_words, .dat row_2, .any, .any, .dat word_7, .dat name_8, .any]) (bk_sub (bk_or (bk_cmp (bk_v (c := word_7) 4 (bk_c (bk_cmpV (frz_val _) (frz_val _) fun b_10 => (bk_ite (bk_ret (.same (.same (.any (.any (.same (.same (.any .nil)))))))) (bk_cmp (bk_v (c := word_7) 4 (bk_c (bk_cmpV (frz_val _) (frz_val _) fun b_11 => (bk_ret (.same (.same (.any (.any (.same (.same (.any .nil))))))))))))))))))) fun b_9 => by exact (bk_ite (bk_sret (bk_v (c := a_words) 0 (bk_rtL (.any (.any (.any (.any (.any (.any (.any .nil)))))))))) (bk_skip (bk_nxL (.same (.same (.any (.any (.any (.any (.any .nil))))))))))))))))) ql_rt (fun s_6 => (bk_nxL (.same (.any (.any (.any (.any (.any (.any .nil))))))))))))))))) (fun _ _ _ h => h) (fun s_3 => (bk_set (bk_F (bk_lc (bk_rng1 (bk_cb (bk_cons (bk_v (c := a_words) 0 (bk_nil (bk_cbV (frzL_cons (frz_val _) frzL_nil) fun v_13 => (bk_rng1V fun ds_12 => (bk_lcF_V (Sw := [.dat a_words, .any, .any, .any, .any, .any, .any]) (.same (.any (.any (.any (.any (.any (.any .nil))))))) ⟨.inl rfl, trivial⟩ (fun k_14 => (bk_tN (bk_cmp (bk_2 (bk_v (c := a_words) 0 (bk_v (c := k_14) 6 (bk_o2V (frz_val _) (frz_val _) fun v_16 => (bk_lstF (bk_nil (bk_lstL (ds := []) frzL_nil rfl (bk_cmpV (frz_val _) (frz_lst []) fun b_17 => (bk_ite (bk_v (c := k_14) 6 (bk_elV (.same (.any (.any (.any (.any (.any (.any .nil))))))))) (bk_elN (.same (.any (.any (.any (.any (.any (.any .nil)))))))))))))))))))) (fun ys_18 => (bk_F' (frz_lst ys_18) (bk_setX (frz_val _) (bk_S (T := [.dat a_words, .any, .dat (.list ys_18), .any, .any, .any, .any]) (bk_set (bk_F (bk_2 (bk_2 (bk_v (c := (.list ys_18)) 2 (bk_lstF (bk_cons (bk_c (bk_nil (bk_lstL (ds := [(.int 0)]) (frzL_cons (frz_val _) frzL_nil) rfl (bk_o2X (frz_val _) (frz_lst [(.int 0)]) fun y_20 v_19 h_21 => (bk_c (bk_o2V h_21 (frz_val _) fun v_22 => (bk_F' (frz_val _) (bk_setX (frz_val _) (bk_S (T := [.dat a_words, .any, .dat (.list ys_18), .dat v_22, .any, .any, .any]) (bk_last (bk_sret (bk_F (bk_lc (bk_enum (bk_v (c := a_words) 0 (bk_enumX (frz_val _) fun ds_23 => (bk_lcM_F (Sw := [.dat a_words, .any, .dat (.list ys_18), .dat v_22, .any, .any, .any]) (.same (.any (.same (.same (.any (.any (.any .nil))))))) ⟨.inl rfl, .inl rfl, trivial⟩ (fun d_24 => (bk_t2 fun k_26 row_27 => (bk_tN (bk_tN (bk_if (bk_cmp (bk_v (c := k_26) 6 (bk_v (c := v_22) 3 (bk_cmpV (frz_val _) (frz_val _) fun b_28 => (bk_ite (bk_2 (bk_sl (bk_v (c := row_27) 1 (bk_noP (bk_P (bk_neg (bk_c (bk_negV fun v_29 => (bk_PV fun i_30 => (bk_slX (frz_val _) fun y_32 v_31 h_33 => (bk_lstF (bk_cons (bk_tup (bk_cons (bk_c (bk_cons (bk_c (bk_nil (bk_tupL (frzL_cons (frz_val _) (frzL_cons (frz_val _) frzL_nil)) rfl (bk_nil (bk_lstL (ds := [(.tuple [(.str "show"), (.str "a")])]) (frzL_cons (frz_val _) frzL_nil) rfl (bk_o2X h_33 (frz_lst [(.tuple [(.str "show"), (.str "a")])]) fun y_35 v_34 h_36 => (bk_elF h_36 (.same (.any (.same (.same (.any (.any (.any .nil)))))))))))))))))))))))))))))) (bk_v (c := row_27) 1 (bk_elF (frz_val _) (.same (.any (.same (.same (.any (.any (.any .nil))))))))))))))))))) (fun ys_37 y_38 h_39 => (bk_F' h_39 (bk_rt (.any (.any (.any (.any (.any (.any (.any .nil)))))))))))))))))))))))))))))))))))))))))))))))))))))))
def p__law_words (a_pool : List Dt) (a_count : Dt) (a_most_rows : Dt) (a_most_outs : Dt) : PM (List Dt × List Dt) :=
 pB (pRng1 a_count) fun ds_1 =>
 pB (pFor ds_1 (a_most_outs, a_pool, a_most_rows, []) fun part_2 s_3 =>
 pB (p__law_draw s_3.2.1 (.int 6)) fun r_5 =>
 pB (pV (min2D [s_3.2.2.1, r_5.1])) fun v_6 =>
 pB (pRng1 v_6) fun ds_4 =>
 pB (pFor ds_4 (r_5.2, s_3.1, []) fun k_7 s_8 =>
 pB (p__law_draw s_8.1 (.int 8)) fun r_9 =>
 pB (pV (ixD (.list [(.str "load"), (.str "give"), (.str "pass"), (.str "show"), (.str "late"), (.str "give"), (.str "load"), (.str "out")]) r_9.1)) fun v_10 =>
 pB (
 pB (
 pB (pC eqD v_10 (.str "out")) fun b_13 =>
 if b_13 = true then
 pB (pC eqD s_8.2.1 (.int 0)) fun b_14 =>
 pR b_14
 else
 pR false) fun b_12 =>
 if b_12 = true then
 pR (.str "give")
 else
 pR v_10) fun j_11 =>
 pB (pV (eqD j_11 (.str "out"))) fun v_15 =>
 pB (pV (intD [v_15])) fun v_16 =>
 pB (pV (subI s_8.2.1 v_16)) fun v_17 =>
 pB (p__law_draw r_9.2 (.int 4)) fun r_18 =>
 pB (pV (ixD (.str "abcd") r_18.1)) fun v_19 =>
 pB (pApp s_8.2.2 (.tuple [j_11, v_19])) fun row_20 =>
 pR (r_18.2, v_17, row_20)) fun s_8 =>
 pB (pV (subI s_3.2.2.1 (.int s_8.2.2.length))) fun v_21 =>
 pB (pApp s_3.2.2.2 (.list s_8.2.2)) fun words_22 =>
 pR (s_8.2.1, s_8.1, v_21, words_22)) fun s_3 =>
 pR (s_3.2.2.2, s_3.2.1)
theorem pf__law_words (a_pool : List Dt) (a_count : Dt) (a_most_rows : Dt) (a_most_outs : Dt) : FOk F__law_words [.lst (a_pool.map .val), .val a_count, .val a_most_rows, .val a_most_outs] (p__law_words a_pool a_count a_most_rows a_most_outs) (fun (b : (List Dt × List Dt)) => .lst (b.1.map .val)) (fun b => [.lst (b.2.map .val)]) 1 := by
 refine bk_fun (dd := d__law_words) (S := [.own a_pool, .dat a_count, .dat a_most_rows, .dat a_most_outs, .any, .any, .any, .any, .any, .any, .any]) (X := [.som, .any, .any, .any, .any, .any, .any, .any, .any, .any, .any]) (So := (fun (b : (List Dt × List Dt)) => [.own b.2, .any, .any, .any, .any, .any, .any, .any, .any, .any, .any])) ?_ rfl (.cons (rfl) (.cons (⟨_, rfl, frz_val _⟩) (.cons (⟨_, rfl, frz_val _⟩) (.cons (⟨_, rfl, frz_val _⟩) (.cons (trivial) (.cons (trivial) (.cons (trivial) (.cons (trivial) (.cons (trivial) (.cons (trivial) (.cons (trivial) .nil))))))))))) (fun _ _ h => outs1 h) (fun _ h => outsX1 h)
 unfold p__law_words
 exact (bk_set (bk_lstF (bk_nil (bk_lstL (ds := []) frzL_nil rfl (bk_setO (ds := []) (bk_S (T := [.own a_pool, .dat a_count, .dat a_most_rows, .dat a_most_outs, .own [], .any, .any, .any, .any, .any, .any]) (bk_set (bk_F (bk_v (c := a_most_rows) 2 (bk_F' (frz_val _) (bk_setX (frz_val _) (bk_S (T := [.own a_pool, .dat a_count, .dat a_most_rows, .dat a_most_outs, .own [], .dat a_most_rows, .any, .any, .any, .any, .any]) (bk_set (bk_F (bk_v (c := a_most_outs) 3 (bk_F' (frz_val _) (bk_setX (frz_val _) (bk_S (T := [.own a_pool, .dat a_count, .dat a_most_rows, .dat a_most_outs, .own [], .dat a_most_rows, .dat a_most_outs, .any, .any, .any, .any]) (bk_for (bk_rng1 (bk_v (c := a_count) 1 (bk_rng1V fun ds_1 => (bk_loopS (Sn := fun (s_3 : (Dt × List Dt × Dt × List Dt)) => [.own s_3.2.1, .dat a_count, .dat a_most_rows, .dat a_most_outs, .own s_3.2.2.2, .dat s_3.2.2.1, .dat s_3.1, .any, .any, .any, .any]) (a_most_outs, a_pool, a_most_rows, []) (.same (.same (.same (.same (.same (.same (.same (.any (.any (.any (.any .nil))))))))))) (fun part_2 s_3 => (bk_tN (bk_set (bk_lstF (bk_nil (bk_lstL (ds := []) frzL_nil rfl (bk_setO (ds := []) (bk_S (T := [.own s_3.2.1, .dat a_count, .dat a_most_rows, .dat a_most_outs, .own s_3.2.2.2, .dat s_3.2.2.1, .dat s_3.1, .dat part_2, .own [], .any, .any]) (bk_for (bk_rng1 (bk_cb (bk_cons (bk_v (c := s_3.2.2.1) 5 (bk_cons (bk_call (bk_ai (ds := s_3.2.1) (bk_ae (bk_c (bk_an (bk_call1 (i := 0) (ds := s_3.2.1) (pf__law_draw s_3.2.1 (.int 6)) (fun env h => by simp [takeSa, h]) (fun _ _ => rfl) (.same (.any (.any (.any (.any (.any (.any (.any (.any (.any (.any .nil))))))))))) fun r_5 => (bk_nil (bk_cbV (frzL_cons (frz_val _) (frzL_cons (frz_val _) frzL_nil)) fun v_6 => (bk_rng1V fun ds_4 => (bk_loopS (Sn := fun (s_8 : (List Dt × Dt × List Dt)) => [.own s_8.1, .dat a_count, .dat a_most_rows, .dat a_most_outs, .own s_3.2.2.2, .dat s_3.2.2.1, .dat s_8.2.1, .dat part_2, .own s_8.2.2, .any, .any]) (r_5.2, s_3.1, []) (.same (.same (.same (.same (.same (.same (.same (.same (.same (.any (.any .nil))))))))))) (fun k_7 s_8 => (bk_tN (bk_set (bk_F (bk_2 (bk_lstF (bk_cons (bk_c (bk_cons (bk_c (bk_cons (bk_c (bk_cons (bk_c (bk_cons (bk_c (bk_cons (bk_c (bk_cons (bk_c (bk_cons (bk_c (bk_nil (bk_lstL (ds := [(.str "load"), (.str "give"), (.str "pass"), (.str "show"), (.str "late"), (.str "give"), (.str "load"), (.str "out")]) (frzL_cons (frz_val _) (frzL_cons (frz_val _) (frzL_cons (frz_val _) (frzL_cons (frz_val _) (frzL_cons (frz_val _) (frzL_cons (frz_val _) (frzL_cons (frz_val _) (frzL_cons (frz_val _) frzL_nil)))))))) rfl (bk_call (bk_ai (ds := s_8.1) (bk_ae (bk_c (bk_an (bk_call1 (i := 0) (ds := s_8.1) (pf__law_draw s_8.1 (.int 8)) (fun env h => by simp [takeSa, h]) (fun _ _ => rfl) (.same (.any (.any (.any (.any (.any (.any (.any (.any (.any (.any .nil))))))))))) fun r_9 => (bk_o2V (frz_lst [(.str "load"), (.str "give"), (.str "pass"), (.str "show"), (.str "late"), (.str "give"), (.str "load"), (.str "out")]) (frz_val _) fun v_10 => (bk_F' (frz_val _) (bk_setX (frz_val _) (bk_S (T := [.own r_9.2, .dat a_count, .dat a_most_rows, .dat a_most_outs, .own s_3.2.2.2, .dat s_3.2.2.1, .dat s_8.2.1, .dat part_2, .own s_8.2.2, .dat k_7, .dat v_10]) (bk_sifJ (Sj := fun (j_11 : (Dt)) => [.own r_9.2, .dat a_count, .dat a_most_rows, .dat a_most_outs, .own s_3.2.2.2, .dat s_3.2.2.1, .dat s_8.2.1, .dat part_2, .own s_8.2.2, .dat k_7, .dat j_11]) (bk_part (v := fun (b_12 : (Bool)) => b_12) (S1 := fun (b_12 : (Bool)) => [.own r_9.2, .dat a_count, .dat a_most_rows, .dat a_most_outs, .own s_3.2.2.2, .dat s_3.2.2.1, .dat s_8.2.1, .dat part_2, .own s_8.2.2, .dat k_7, .dat v_10]) (bk_sub (bk_and (bk_cmp (bk_v (c := v_10) 10 (bk_c (bk_cmpV (frz_val _) (frz_val _) fun b_13 => (bk_ite (bk_cmp (bk_v (c := s_8.2.1) 6 (bk_c (bk_cmpV (frz_val _) (frz_val _) fun b_14 => (bk_ret (.same (.same (.same (.same (.same (.same (.same (.same (.same (.same (.same .nil)))))))))))))))) (bk_ret (.same (.same (.same (.same (.same (.same (.same (.same (.same (.same (.same .nil))))))))))))))))))) fun b_12 => by exact (bk_ite (bk_last (bk_set (bk_c (bk_setX (frz_val _) (bk_S (T := [.own r_9.2, .dat a_count, .dat a_most_rows, .dat a_most_outs, .own s_3.2.2.2, .dat s_3.2.2.1, .dat s_8.2.1, .dat part_2, .own s_8.2.2, .dat k_7, .dat (.str "give")]) (bk_nxJ (Sj := fun (j_11 : (Dt)) => [.own r_9.2, .dat a_count, .dat a_most_rows, .dat a_most_outs, .own s_3.2.2.2, .dat s_3.2.2.1, .dat s_8.2.1, .dat part_2, .own s_8.2.2, .dat k_7, .dat j_11]) (.same (.same (.same (.same (.same (.same (.same (.same (.same (.same (.same .nil))))))))))))))))) (bk_nxJ (Sj := fun (j_11 : (Dt)) => [.own r_9.2, .dat a_count, .dat a_most_rows, .dat a_most_outs, .own s_3.2.2.2, .dat s_3.2.2.1, .dat s_8.2.1, .dat part_2, .own s_8.2.2, .dat k_7, .dat j_11]) (.same (.same (.same (.same (.same (.same (.same (.same (.same (.same (.same .nil)))))))))))))) fun j_11 => (bk_set (bk_2 (bk_v (c := s_8.2.1) 6 (bk_cb (bk_cons (bk_2 (bk_v (c := j_11) 10 (bk_c (bk_o2V (frz_val _) (frz_val _) fun v_15 => (bk_nil (bk_cbV (frzL_cons (frz_val _) frzL_nil) fun v_16 => (bk_o2V (frz_val _) (frz_val _) fun v_17 => (bk_setX (frz_val _) (bk_S (T := [.own r_9.2, .dat a_count, .dat a_most_rows, .dat a_most_outs, .own s_3.2.2.2, .dat s_3.2.2.1, .dat v_17, .dat part_2, .own s_8.2.2, .dat k_7, .dat j_11]) (bk_last (bk_expr (bk_app (ds := s_8.2.2) 8 (bk_tup (bk_cons (bk_v (c := j_11) 10 (bk_cons (bk_2 (bk_c (bk_call (bk_ai (ds := r_9.2) (bk_ae (bk_c (bk_an (bk_call1 (i := 0) (ds := r_9.2) (pf__law_draw r_9.2 (.int 4)) (fun env h => by simp [takeSa, h]) (fun _ _ => rfl) (.same (.any (.any (.any (.any (.any (.any (.any (.any (.any (.any .nil))))))))))) fun r_18 => (bk_o2V (frz_val _) (frz_val _) fun v_19 => (bk_nil (bk_tupL (frzL_cons (frz_val _) (frzL_cons (frz_val _) frzL_nil)) rfl (bk_appV (ds := s_8.2.2) 8 fun row_20 => (bk_nx (.same (.same (.same (.same (.same (.same (.same (.same (.same (.any (.any .nil)))))))))))))))))))))))))))))))))))))))))))))))))))))))))))))))))))))))))))))))) (fun s_8 => (bk_set (bk_2 (bk_v (c := s_3.2.2.1) 5 (bk_lenO (ds := s_8.2.2) 8 (bk_o2V (frz_val _) (frz_val _) fun v_21 => (bk_setX (frz_val _) (bk_S (T := [.own s_8.1, .dat a_count, .dat a_most_rows, .dat a_most_outs, .own s_3.2.2.2, .dat v_21, .dat s_8.2.1, .dat part_2, .own s_8.2.2, .any, .any]) (bk_last (bk_expr (bk_app (ds := s_3.2.2.2) 4 (bk_vO (ds := s_8.2.2) 8 (bk_appV (ds := s_3.2.2.2) 4 fun words_22 => (bk_nx (.same (.same (.same (.same (.same (.same (.same (.any (.any (.any (.any .nil))))))))))))))))))))))))))))))))))))))))))))))))) (fun s_3 => (bk_last (bk_sret (bk_mvO (ds := s_3.2.2.2) 4 (bk_rt (.same (.any (.any (.any (.any (.any (.any (.any (.any (.any (.any .nil)))))))))))))))))))))))))))))))))))))))
def p__law_program (a_pool : List Dt) (a_most_parts : Dt) (a_most_rows : Dt) (a_most_outs : Dt) (a_most_entries : Dt) (a_most_opens : Dt) : PM (Dt × List Dt) :=
 pB (p__law_draw a_pool a_most_parts) fun r_1 =>
 pB (pV (addD (.int 1) r_1.1)) fun v_2 =>
 pB (pLRg v_2) fun v_3 =>
 pB (p__law_subset r_1.2 (.list v_3) a_most_entries) fun r_4 =>
 pB (
 pB (pC eqD (.list r_4.1) (.list [])) fun b_6 =>
 if b_6 = true then
 pB (p__law_draw r_4.2 v_2) fun r_7 =>
 pR ((.list [r_7.1]), r_7.2)
 else
 pR ((.list r_4.1), r_4.2)) fun j_5 =>
 pB (p__law_words j_5.2 v_2 a_most_rows a_most_outs) fun r_8 =>
 pB (p__law_with_show (.list r_8.1)) fun r_9 =>
 pB (pRng1 v_2) fun ds_10 =>
 pB (pFor ds_10 (.list []) fun part_11 s_12 =>
 pB (pV (ixD r_9 part_11)) fun v_14 =>
 pB (pIt v_14) fun ds_13 =>
 pB (pFil ds_13 fun d_15 =>
 pT2 d_15 fun word_17 name_18 =>
 pB (pC inD word_17 (.list [(.str "give"), (.str "pass"), (.str "late")])) fun b_19 =>
 if b_19 = true then
 pR (some (.tuple [part_11, name_18]))
 else
 pR none) fun ys_20 =>
 pB (pF (addD s_12 (.list ys_20))) fun v_21 =>
 pR v_21) fun s_12 =>
 pB (pL (sortSetD s_12)) fun v_24 =>
 pB (p__law_draw r_8.2 v_2) fun r_25 =>
 pB (p__law_draw r_25.2 (.int 4)) fun r_26 =>
 pB (pV (ixD (.str "abcd") r_26.1)) fun v_27 =>
 pB (pF (addD (.list v_24) (.list [(.tuple [r_25.1, v_27])]))) fun v_28 =>
 pB (pL (sortSetD v_28)) fun v_31 =>
 pB (p__law_subset r_26.2 (.list v_31) a_most_opens) fun r_32 =>
 pB (pRng1 v_2) fun ds_33 =>
 pB (pMapS ds_33 r_32.2 fun part_34 s_35 =>
 pB (p__law_draw s_35 (.int 2)) fun r_36 =>
 pB (pV (eqD r_36.1 (.int 1))) fun v_37 =>
 pR (v_37, r_36.2)) fun z_39 =>
 pB (pV (tupleD [(.list z_39.1)])) fun v_40 =>
 pB (pIt r_9) fun ds_41 =>
 pB (pFor ds_41 ([], z_39.2) fun row_42 s_43 =>
 pB (pIt row_42) fun ds_44 =>
 pB (pMapS ds_44 s_43.2 fun d_45 s_46 =>
 pT2 d_45 fun word_47 name_48 =>
 pB (p__law_row s_46 word_47 name_48 v_2 (.list v_24)) fun r_49 =>
 pR (r_49.1, r_49.2)) fun z_51 =>
 pB (pV (tupleD [(.list z_51.1)])) fun v_52 =>
 pB (pApp s_43.1 v_52) fun parts_53 =>
 pR (parts_53, z_51.2)) fun s_43 =>
 pB (pV (tupleD [(.list s_43.1)])) fun v_54 =>
 pB (pV (tupleD [j_5.1])) fun v_55 =>
 pB (pV (tupleD [(.list r_32.1)])) fun v_56 =>
 pR ((.tuple [v_54, v_40, v_55, v_56]), s_43.2)
theorem pf__law_program (a_pool : List Dt) (a_most_parts : Dt) (a_most_rows : Dt) (a_most_outs : Dt) (a_most_entries : Dt) (a_most_opens : Dt) : FOk F__law_program [.lst (a_pool.map .val), .val a_most_parts, .val a_most_rows, .val a_most_outs, .val a_most_entries, .val a_most_opens] (p__law_program a_pool a_most_parts a_most_rows a_most_outs a_most_entries a_most_opens) (fun (b : (Dt × List Dt)) => .val b.1) (fun b => [.lst (b.2.map .val)]) 1 := by
 refine bk_fun (dd := d__law_program) (S := [.own a_pool, .dat a_most_parts, .dat a_most_rows, .dat a_most_outs, .dat a_most_entries, .dat a_most_opens, .any, .any, .any, .any, .any, .any, .any, .any, .any, .any, .any, .any]) (X := [.som, .any, .any, .any, .any, .any, .any, .any, .any, .any, .any, .any, .any, .any, .any, .any, .any, .any]) (So := (fun (b : (Dt × List Dt)) => [.own b.2, .any, .any, .any, .any, .any, .any, .any, .any, .any, .any, .any, .any, .any, .any, .any, .any, .any])) ?_ rfl (.cons (rfl) (.cons (⟨_, rfl, frz_val _⟩) (.cons (⟨_, rfl, frz_val _⟩) (.cons (⟨_, rfl, frz_val _⟩) (.cons (⟨_, rfl, frz_val _⟩) (.cons (⟨_, rfl, frz_val _⟩) (.cons (trivial) (.cons (trivial) (.cons (trivial) (.cons (trivial) (.cons (trivial) (.cons (trivial) (.cons (trivial) (.cons (trivial) (.cons (trivial) (.cons (trivial) (.cons (trivial) (.cons (trivial) .nil)))))))))))))))))) (fun _ _ h => outs1 h) (fun _ h => outsX1 h)
 unfold p__law_program
 exact (bk_set (bk_2 (bk_c (bk_call (bk_ai (ds := a_pool) (bk_ae (bk_v (c := a_most_parts) 1 (bk_an (bk_call1 (i := 0) (ds := a_pool) (pf__law_draw a_pool a_most_parts) (fun env h => by simp [takeSa, h]) (fun _ _ => rfl) (.same (.any (.any (.any (.any (.any (.any (.any (.any (.any (.any (.any (.any (.any (.any (.any (.any (.any .nil)))))))))))))))))) fun r_1 => (bk_o2V (frz_val _) (frz_val _) fun v_2 => (bk_setX (frz_val _) (bk_S (T := [.own r_1.2, .dat a_most_parts, .dat a_most_rows, .dat a_most_outs, .dat a_most_entries, .dat a_most_opens, .dat v_2, .any, .any, .any, .any, .any, .any, .any, .any, .any, .any, .any]) (bk_set (bk_F (bk_call (bk_ai (ds := r_1.2) (bk_ae (bk_F (bk_lRg (bk_v (c := v_2) 6 (bk_lRgV fun v_3 => (bk_F' (frz_lst v_3) (bk_ae (bk_v (c := a_most_entries) 4 (bk_an (bk_call1 (i := 0) (ds := r_1.2) (pf__law_subset r_1.2 (.list v_3) a_most_entries) (fun env h => by simp [takeSa, h]) (fun _ _ => rfl) (.same (.any (.any (.any (.any (.any (.any (.any (.any (.any (.any (.any (.any (.any (.any (.any (.any (.any .nil)))))))))))))))))) fun r_4 => (bk_F' (frz_lst r_4.1) (bk_setX (frz_val _) (bk_S (T := [.own r_4.2, .dat a_most_parts, .dat a_most_rows, .dat a_most_outs, .dat a_most_entries, .dat a_most_opens, .dat v_2, .dat (.list r_4.1), .any, .any, .any, .any, .any, .any, .any, .any, .any, .any]) (bk_sifJ (Sj := fun (j_5 : (Dt × List Dt)) => [.own j_5.2, .dat a_most_parts, .dat a_most_rows, .dat a_most_outs, .dat a_most_entries, .dat a_most_opens, .dat v_2, .dat j_5.1, .any, .any, .any, .any, .any, .any, .any, .any, .any, .any]) (bk_cmp (bk_v (c := (.list r_4.1)) 7 (bk_lstF (bk_nil (bk_lstL (ds := []) frzL_nil rfl (bk_cmpV (frz_val _) (frz_lst []) fun b_6 => (bk_ite (bk_last (bk_set (bk_F (bk_lstF (bk_cons (bk_call (bk_ai (ds := r_4.2) (bk_ae (bk_v (c := v_2) 6 (bk_an (bk_call1 (i := 0) (ds := r_4.2) (pf__law_draw r_4.2 v_2) (fun env h => by simp [takeSa, h]) (fun _ _ => rfl) (.same (.any (.any (.any (.any (.any (.any (.any (.any (.any (.any (.any (.any (.any (.any (.any (.any (.any .nil)))))))))))))))))) fun r_7 => (bk_nil (bk_lstL (ds := [r_7.1]) (frzL_cons (frz_val _) frzL_nil) rfl (bk_F' (frz_lst [r_7.1]) (bk_setX (frz_val _) (bk_S (T := [.own r_7.2, .dat a_most_parts, .dat a_most_rows, .dat a_most_outs, .dat a_most_entries, .dat a_most_opens, .dat v_2, .dat (.list [r_7.1]), .any, .any, .any, .any, .any, .any, .any, .any, .any, .any]) (bk_nxJ (Sj := fun (j_5 : (Dt × List Dt)) => [.own j_5.2, .dat a_most_parts, .dat a_most_rows, .dat a_most_outs, .dat a_most_entries, .dat a_most_opens, .dat v_2, .dat j_5.1, .any, .any, .any, .any, .any, .any, .any, .any, .any, .any]) (.same (.same (.same (.same (.same (.same (.same (.same (.any (.any (.any (.any (.any (.any (.any (.any (.any (.any .nil))))))))))))))))))))))))))))))))))) (bk_nxJ (Sj := fun (j_5 : (Dt × List Dt)) => [.own j_5.2, .dat a_most_parts, .dat a_most_rows, .dat a_most_outs, .dat a_most_entries, .dat a_most_opens, .dat v_2, .dat j_5.1, .any, .any, .any, .any, .any, .any, .any, .any, .any, .any]) (.same (.same (.same (.same (.same (.same (.same (.same (.any (.any (.any (.any (.any (.any (.any (.any (.any (.any .nil)))))))))))))))))))))))))) fun j_5 => (bk_set (bk_F (bk_call (bk_ae (bk_F (bk_call (bk_ai (ds := j_5.2) (bk_ae (bk_v (c := v_2) 6 (bk_ae (bk_v (c := a_most_rows) 2 (bk_ae (bk_v (c := a_most_outs) 3 (bk_an (bk_call1 (i := 0) (ds := j_5.2) (pf__law_words j_5.2 v_2 a_most_rows a_most_outs) (fun env h => by simp [takeSa, h]) (fun _ _ => rfl) (.same (.any (.any (.any (.any (.any (.any (.any (.any (.any (.any (.any (.any (.any (.any (.any (.any (.any .nil)))))))))))))))))) fun r_8 => (bk_F' (frz_lst r_8.1) (bk_an (bk_call0 (pf__law_with_show (.list r_8.1)) (fun _ => rfl) (fun _ => rfl) (.somO (.any (.any (.any (.any (.any (.any (.any (.any (.any (.any (.any (.any (.any (.any (.any (.any (.any .nil)))))))))))))))))) fun r_9 => (bk_F' (frz_val _) (bk_setX (frz_val _) (bk_S (T := [.own r_8.2, .dat a_most_parts, .dat a_most_rows, .dat a_most_outs, .dat a_most_entries, .dat a_most_opens, .dat v_2, .dat j_5.1, .dat r_9, .any, .any, .any, .any, .any, .any, .any, .any, .any]) (bk_set (bk_F (bk_lstF (bk_nil (bk_lstL (ds := []) frzL_nil rfl (bk_F' (frz_lst []) (bk_setX (frz_val _) (bk_S (T := [.own r_8.2, .dat a_most_parts, .dat a_most_rows, .dat a_most_outs, .dat a_most_entries, .dat a_most_opens, .dat v_2, .dat j_5.1, .dat r_9, .dat (.list []), .any, .any, .any, .any, .any, .any, .any, .any]) (bk_for (bk_rng1 (bk_v (c := v_2) 6 (bk_rng1V fun ds_10 => (bk_loopS (Sn := fun (s_12 : (Dt)) => [.own r_8.2, .dat a_most_parts, .dat a_most_rows, .dat a_most_outs, .dat a_most_entries, .dat a_most_opens, .dat v_2, .dat j_5.1, .dat r_9, .dat s_12, .any, .any, .any, .any, .any, .any, .any, .any]) (.list []) (.same (.same (.same (.same (.same (.same (.same (.same (.same (.same (.any (.any (.any (.any (.any (.any (.any (.any .nil)))))))))))))))))) (fun part_11 s_12 => (bk_tN (bk_last (bk_set (bk_F (bk_2 (bk_v (c := s_12) 9 (bk_lc (bk_it (bk_2 (bk_v (c := r_9) 8 (bk_v (c := part_11) 10 (bk_o2V (frz_val _) (frz_val _) fun v_14 => (bk_itX (frz_val _) fun ds_13 => (bk_lcF_V (Sw := [.own r_8.2, .dat a_most_parts, .dat a_most_rows, .dat a_most_outs, .dat a_most_entries, .dat a_most_opens, .dat v_2, .dat j_5.1, .dat r_9, .dat s_12, .dat part_11, .any, .any, .any, .any, .any, .any, .any]) (.same (.same (.same (.same (.same (.same (.same (.same (.same (.same (.same (.any (.any (.any (.any (.any (.any (.any .nil)))))))))))))))))) ⟨.inl rfl, .inl rfl, trivial⟩ (fun d_15 => (bk_t2 fun word_17 name_18 => (bk_tN (bk_tN (bk_cmp (bk_v (c := word_17) 16 (bk_lstF (bk_cons (bk_c (bk_cons (bk_c (bk_cons (bk_c (bk_nil (bk_lstL (ds := [(.str "give"), (.str "pass"), (.str "late")]) (frzL_cons (frz_val _) (frzL_cons (frz_val _) (frzL_cons (frz_val _) frzL_nil))) rfl (bk_cmpV (frz_val _) (frz_lst [(.str "give"), (.str "pass"), (.str "late")]) fun b_19 => (bk_ite (bk_tup (bk_cons (bk_v (c := part_11) 10 (bk_cons (bk_v (c := name_18) 17 (bk_nil (bk_tupL (frzL_cons (frz_val _) (frzL_cons (frz_val _) frzL_nil)) rfl (bk_elV (.same (.same (.same (.same (.same (.same (.same (.same (.same (.same (.same (.any (.any (.any (.any (.any (.any (.any .nil)))))))))))))))))))))))))) (bk_elN (.same (.same (.same (.same (.same (.same (.same (.same (.same (.same (.same (.any (.any (.any (.any (.any (.any (.any .nil)))))))))))))))))))))))))))))))))))) (fun ys_20 => (bk_o2X (frz_val _) (frz_lst ys_20) fun y_22 v_21 h_23 => (bk_F' h_23 (bk_setX (frz_val _) (bk_S (T := [.own r_8.2, .dat a_most_parts, .dat a_most_rows, .dat a_most_outs, .dat a_most_entries, .dat a_most_opens, .dat v_2, .dat j_5.1, .dat r_9, .dat v_21, .dat part_11, .any, .any, .any, .any, .any, .any, .any]) (bk_nx (.same (.same (.same (.same (.same (.same (.same (.same (.same (.same (.any (.any (.any (.any (.any (.any (.any (.any .nil))))))))))))))))))))))))))))))))))))))) (fun s_12 => (bk_set (bk_F (bk_sortSet (bk_v (c := s_12) 9 (bk_o1L (frz_val _) fun v_24 => (bk_F' (frz_lst v_24) (bk_setX (frz_val _) (bk_S (T := [.own r_8.2, .dat a_most_parts, .dat a_most_rows, .dat a_most_outs, .dat a_most_entries, .dat a_most_opens, .dat v_2, .dat j_5.1, .dat r_9, .dat (.list v_24), .any, .any, .any, .any, .any, .any, .any, .any]) (bk_set (bk_tup (bk_cons (bk_call (bk_ai (ds := r_8.2) (bk_ae (bk_v (c := v_2) 6 (bk_an (bk_call1 (i := 0) (ds := r_8.2) (pf__law_draw r_8.2 v_2) (fun env h => by simp [takeSa, h]) (fun _ _ => rfl) (.same (.any (.any (.any (.any (.any (.any (.any (.any (.any (.any (.any (.any (.any (.any (.any (.any (.any .nil)))))))))))))))))) fun r_25 => (bk_cons (bk_2 (bk_c (bk_call (bk_ai (ds := r_25.2) (bk_ae (bk_c (bk_an (bk_call1 (i := 0) (ds := r_25.2) (pf__law_draw r_25.2 (.int 4)) (fun env h => by simp [takeSa, h]) (fun _ _ => rfl) (.same (.any (.any (.any (.any (.any (.any (.any (.any (.any (.any (.any (.any (.any (.any (.any (.any (.any .nil)))))))))))))))))) fun r_26 => (bk_o2V (frz_val _) (frz_val _) fun v_27 => (bk_nil (bk_tupL (frzL_cons (frz_val _) (frzL_cons (frz_val _) frzL_nil)) rfl (bk_setX (frz_val _) (bk_S (T := [.own r_26.2, .dat a_most_parts, .dat a_most_rows, .dat a_most_outs, .dat a_most_entries, .dat a_most_opens, .dat v_2, .dat j_5.1, .dat r_9, .dat (.list v_24), .any, .dat (.tuple [r_25.1, v_27]), .any, .any, .any, .any, .any, .any]) (bk_set (bk_F (bk_call (bk_ai (ds := r_26.2) (bk_ae (bk_F (bk_sortSet (bk_2 (bk_v (c := (.list v_24)) 9 (bk_lstF (bk_cons (bk_v (c := (.tuple [r_25.1, v_27])) 11 (bk_nil (bk_lstL (ds := [(.tuple [r_25.1, v_27])]) (frzL_cons (frz_val _) frzL_nil) rfl (bk_o2X (frz_val _) (frz_lst [(.tuple [r_25.1, v_27])]) fun y_29 v_28 h_30 => (bk_o1L h_30 fun v_31 => (bk_F' (frz_lst v_31) (bk_ae (bk_v (c := a_most_opens) 5 (bk_an (bk_call1 (i := 0) (ds := r_26.2) (pf__law_subset r_26.2 (.list v_31) a_most_opens) (fun env h => by simp [takeSa, h]) (fun _ _ => rfl) (.same (.any (.any (.any (.any (.any (.any (.any (.any (.any (.any (.any (.any (.any (.any (.any (.any (.any .nil)))))))))))))))))) fun r_32 => (bk_F' (frz_lst r_32.1) (bk_setX (frz_val _) (bk_S (T := [.own r_32.2, .dat a_most_parts, .dat a_most_rows, .dat a_most_outs, .dat a_most_entries, .dat a_most_opens, .dat v_2, .dat j_5.1, .dat r_9, .dat (.list v_24), .any, .dat (.tuple [r_25.1, v_27]), .dat (.list r_32.1), .any, .any, .any, .any, .any]) (bk_set (bk_cb (bk_cons (bk_lc (bk_rng1 (bk_v (c := v_2) 6 (bk_rng1V fun ds_33 => (bk_lcMS_V (Sw := fun (s_35 : (List Dt)) => [.own s_35, .dat a_most_parts, .dat a_most_rows, .dat a_most_outs, .dat a_most_entries, .dat a_most_opens, .dat v_2, .dat j_5.1, .dat r_9, .dat (.list v_24), .any, .dat (.tuple [r_25.1, v_27]), .dat (.list r_32.1), .any, .any, .any, .any, .any]) r_32.2 (.same (.same (.same (.same (.same (.same (.same (.same (.same (.same (.any (.same (.same (.any (.any (.any (.any (.any .nil)))))))))))))))))) (fun _ => ⟨.inl rfl, trivial⟩) (fun _ _ => rfl) (fun part_34 s_35 => (bk_tN (bk_2 (bk_call (bk_ai (ds := s_35) (bk_ae (bk_c (bk_an (bk_call1 (i := 0) (ds := s_35) (pf__law_draw s_35 (.int 2)) (fun env h => by simp [takeSa, h]) (fun _ _ => rfl) (.same (.any (.any (.any (.any (.any (.any (.any (.any (.any (.any (.any (.any (.any (.any (.any (.any (.any .nil)))))))))))))))))) fun r_36 => (bk_c (bk_o2V (frz_val _) (frz_val _) fun v_37 => (bk_elV (.same (.same (.same (.same (.same (.same (.same (.same (.same (.same (.any (.same (.same (.any (.any (.any (.any (.any .nil)))))))))))))))))))))))))))))) (fun z_39_a z_39_b => (bk_nil (bk_cbV (frzL_cons (frz_lst z_39_a) frzL_nil) fun v_40 => (bk_setX (frz_val _) (bk_S (T := [.own z_39_b, .dat a_most_parts, .dat a_most_rows, .dat a_most_outs, .dat a_most_entries, .dat a_most_opens, .dat v_2, .dat j_5.1, .dat r_9, .dat (.list v_24), .any, .dat (.tuple [r_25.1, v_27]), .dat (.list r_32.1), .dat v_40, .any, .any, .any, .any]) (bk_set (bk_lstF (bk_nil (bk_lstL (ds := []) frzL_nil rfl (bk_setO (ds := []) (bk_S (T := [.own z_39_b, .dat a_most_parts, .dat a_most_rows, .dat a_most_outs, .dat a_most_entries, .dat a_most_opens, .dat v_2, .dat j_5.1, .dat r_9, .dat (.list v_24), .any, .dat (.tuple [r_25.1, v_27]), .dat (.list r_32.1), .dat v_40, .own [], .any, .any, .any]) (bk_for (bk_it (bk_v (c := r_9) 8 (bk_itX (frz_val _) fun ds_41 => (bk_loopS (Sn := fun (s_43 : (List Dt × List Dt)) => [.own s_43.2, .dat a_most_parts, .dat a_most_rows, .dat a_most_outs, .dat a_most_entries, .dat a_most_opens, .dat v_2, .dat j_5.1, .dat r_9, .dat (.list v_24), .any, .dat (.tuple [r_25.1, v_27]), .dat (.list r_32.1), .dat v_40, .own s_43.1, .any, .any, .any]) ([], z_39_b) (.same (.same (.same (.same (.same (.same (.same (.same (.same (.same (.any (.same (.same (.same (.same (.any (.any (.any .nil)))))))))))))))))) (fun row_42 s_43 => (bk_tN (bk_last (bk_expr (bk_app (ds := s_43.1) 14 (bk_cb (bk_cons (bk_lc (bk_it (bk_v (c := row_42) 15 (bk_itX (frz_val _) fun ds_44 => (bk_lcMS_V (Sw := fun (s_46 : (List Dt)) => [.own s_46, .dat a_most_parts, .dat a_most_rows, .dat a_most_outs, .dat a_most_entries, .dat a_most_opens, .dat v_2, .dat j_5.1, .dat r_9, .dat (.list v_24), .any, .dat (.tuple [r_25.1, v_27]), .dat (.list r_32.1), .dat v_40, .own s_43.1, .dat row_42, .any, .any]) s_43.2 (.same (.same (.same (.same (.same (.same (.same (.same (.same (.same (.any (.same (.same (.same (.same (.same (.any (.any .nil)))))))))))))))))) (fun _ => ⟨.inl rfl, .inl rfl, trivial⟩) (fun _ _ => rfl) (fun d_45 s_46 => (bk_t2 fun word_47 name_48 => (bk_tN (bk_tN (bk_call (bk_ai (ds := s_46) (bk_ae (bk_v (c := word_47) 16 (bk_ae (bk_v (c := name_48) 17 (bk_ae (bk_v (c := v_2) 6 (bk_ae (bk_v (c := (.list v_24)) 9 (bk_an (bk_call1 (i := 0) (ds := s_46) (pf__law_row s_46 word_47 name_48 v_2 (.list v_24)) (fun env h => by simp [takeSa, h]) (fun _ _ => rfl) (.same (.any (.any (.any (.any (.any (.any (.any (.any (.any (.any (.any (.any (.any (.any (.any (.any (.any .nil)))))))))))))))))) fun r_49 => (bk_elV (.same (.same (.same (.same (.same (.same (.same (.same (.same (.same (.any (.same (.same (.same (.same (.same (.any (.any .nil))))))))))))))))))))))))))))))))))) (fun z_51_a z_51_b => (bk_nil (bk_cbV (frzL_cons (frz_lst z_51_a) frzL_nil) fun v_52 => (bk_appV (ds := s_43.1) 14 fun parts_53 => (bk_nx (.same (.same (.same (.same (.same (.same (.same (.same (.same (.same (.any (.same (.same (.same (.same (.any (.any (.any .nil))))))))))))))))))))))))))))))))))) (fun s_43 => (bk_last (bk_sret (bk_tup (bk_cons (bk_cb (bk_cons (bk_vO (ds := s_43.1) 14 (bk_nil (bk_cbV (frzL_cons (frz_val _) frzL_nil) fun v_54 => (bk_cons (bk_v (c := v_40) 13 (bk_cons (bk_cb (bk_cons (bk_v (c := j_5.1) 7 (bk_nil (bk_cbV (frzL_cons (frz_val _) frzL_nil) fun v_55 => (bk_cons (bk_cb (bk_cons (bk_v (c := (.list r_32.1)) 12 (bk_nil (bk_cbV (frzL_cons (frz_val _) frzL_nil) fun v_56 => (bk_nil (bk_tupL (frzL_cons (frz_val _) (frzL_cons (frz_val _) (frzL_cons (frz_val _) (frzL_cons (frz_val _) frzL_nil)))) rfl (bk_rt (.same (.any (.any (.any (.any (.any (.any (.any (.any (.any (.any (.any (.any (.any (.any (.any (.any (.any .nil)))))))))))))))))))))))))))))))))))))))))))))))))))))))))))))))))))))))))))))))))))))))))))))))))))))))))))))))))))))))))))))))))))))))))))))))))))))))))))))))))))))))))))))))))))))))))))))
def p_is_ascending (a_items : Dt) : PM (Dt) :=
 pB (pV (lenD [a_items])) fun v_2 =>
 pB (pV (subI v_2 (.int 1))) fun v_3 =>
 pB (pRng1 v_3) fun ds_1 =>
 pB (pMap ds_1 fun k_4 =>
 pB (pV (ixD a_items k_4)) fun v_6 =>
 pB (pV (addD k_4 (.int 1))) fun v_7 =>
 pB (pV (ixD a_items v_7)) fun v_8 =>
 pB (pV (ltD v_6 v_8)) fun v_9 =>
 pR v_9) fun ys_10 =>
 pB (pV (allD [(.list ys_10)])) fun v_11 =>
 pR v_11
theorem pf_is_ascending (a_items : Dt) : FOk F_is_ascending [.val a_items] (p_is_ascending a_items) (fun (b : (Dt)) => .val b) (fun _ => []) 0 := by
 refine bk_fun (dd := d_is_ascending) (S := [.dat a_items, .any]) (X := [.any, .any]) (So := (fun (b : (Dt)) => [.any, .any])) ?_ rfl (.cons (⟨_, rfl, frz_val _⟩) (.cons (trivial) .nil)) (fun _ _ _ => outs0) (fun _ _ => ⟨[], outs0, rfl⟩)
 unfold p_is_ascending
 exact (bk_last (bk_sret (bk_cb (bk_cons (bk_lc (bk_rng1 (bk_2 (bk_cb (bk_cons (bk_v (c := a_items) 0 (bk_nil (bk_cbV (frzL_cons (frz_val _) frzL_nil) fun v_2 => (bk_c (bk_o2V (frz_val _) (frz_val _) fun v_3 => (bk_rng1V fun ds_1 => (bk_lcM_V (Sw := [.dat a_items, .any]) (.same (.any .nil)) ⟨.inl rfl, trivial⟩ (fun k_4 => (bk_tN (bk_2 (bk_2 (bk_v (c := a_items) 0 (bk_v (c := k_4) 1 (bk_o2V (frz_val _) (frz_val _) fun v_6 => (bk_2 (bk_v (c := a_items) 0 (bk_2 (bk_v (c := k_4) 1 (bk_c (bk_o2V (frz_val _) (frz_val _) fun v_7 => (bk_o2V (frz_val _) (frz_val _) fun v_8 => (bk_o2V (frz_val _) (frz_val _) fun v_9 => (bk_elV (.same (.any .nil)))))))))))))))))) (fun ys_10 => (bk_nil (bk_cbV (frzL_cons (frz_lst ys_10) frzL_nil) fun v_11 => (bk_rt (.any (.any .nil))))))))))))))))))))))
def p_is_integer (a_thing : Dt) : PM (Dt) :=
 pB (
 pB (pIs "int" a_thing) fun b_2 =>
 if b_2 = true then
 pB (pIs "bool" a_thing) fun b_3 =>
 pR (.bool !b_3)
 else
 pR (.bool false)) fun z_1 =>
 pR z_1
theorem pf_is_integer (a_thing : Dt) : FOk F_is_integer [.val a_thing] (p_is_integer a_thing) (fun (b : (Dt)) => .val b) (fun _ => []) 0 := by
 refine bk_fun (dd := d_is_integer) (S := [.dat a_thing]) (X := [.any]) (So := (fun (b : (Dt)) => [.any])) ?_ rfl (.cons (⟨_, rfl, frz_val _⟩) .nil) (fun _ _ _ => outs0) (fun _ _ => ⟨[], outs0, rfl⟩)
 unfold p_is_integer
 exact (bk_last (bk_sret (bk_part (v := fun (z_1 : (Dt)) => .val z_1) (S1 := fun (z_1 : (Dt)) => [.dat a_thing]) (bk_sub (bk_andV (bk_isi2 (bk_v (c := a_thing) 0 (bk_is2V (frz_val _) fun b_2 => (bk_ite (bk_notV (bk_isi2 (bk_v (c := a_thing) 0 (bk_is2V (frz_val _) fun b_3 => (bk_ret (.same .nil)))))) (bk_ret (.same .nil)))))))) fun z_1 => by exact (bk_rt (.any .nil)))))
def p_is_number (a_thing : Dt) (a_count : Dt) : PM (Dt) :=
 pB (
 pB (p_is_integer a_thing) fun r_2 =>
 pB (pO (bool? r_2)) fun b_3 =>
 if b_3 = true then
 pB (pV (leI (.int 0) a_thing)) fun v_4 =>
 pB (pO (bool? v_4)) fun c_5 =>
 if c_5 = true then
 pB (pV (ltI a_thing a_count)) fun v_6 =>
 pR v_6
 else
 pR (.bool false)
 else
 pR (.bool false)) fun z_1 =>
 pR z_1
theorem pf_is_number (a_thing : Dt) (a_count : Dt) : FOk F_is_number [.val a_thing, .val a_count] (p_is_number a_thing a_count) (fun (b : (Dt)) => .val b) (fun _ => []) 0 := by
 refine bk_fun (dd := d_is_number) (S := [.dat a_thing, .dat a_count]) (X := [.any, .any]) (So := (fun (b : (Dt)) => [.any, .any])) ?_ rfl (.cons (⟨_, rfl, frz_val _⟩) (.cons (⟨_, rfl, frz_val _⟩) .nil)) (fun _ _ _ => outs0) (fun _ _ => ⟨[], outs0, rfl⟩)
 unfold p_is_number
 exact (bk_last (bk_sret (bk_part (v := fun (z_1 : (Dt)) => .val z_1) (S1 := fun (z_1 : (Dt)) => [.dat a_thing, .dat a_count]) (bk_sub (bk_andV (bk_bl (bk_call (bk_ae (bk_v (c := a_thing) 0 (bk_an (bk_call0 (pf_is_integer a_thing) (fun _ => rfl) (fun _ => rfl) (.any (.any .nil)) fun r_2 => (bk_blV fun b_3 => (bk_ite (bk_chain (bk_c (bk_v (c := a_thing) 0 (bk_o2V (frz_val _) (frz_val _) fun v_4 => bk_blV fun c_5 => bk_ite (bk_v (c := a_count) 1 (bk_o2V (frz_val _) (frz_val _) fun v_6 => (bk_ret (.same (.same .nil))))) (bk_ret (.same (.same .nil))))))) (bk_ret (.same (.same .nil))))))))))))) fun z_1 => by exact (bk_rt (.any (.any .nil))))))
def p_is_entries (a_thing : Dt) (a_count : Dt) : PM (Dt) :=
 pB (
 pB (pIs "tuple" a_thing) fun b_2 =>
 if (!b_2) = true then
 pR true
 else
 pB (
 pB (pV (lenD [a_thing])) fun v_4 =>
 pB (pV (leI (.int 1) v_4)) fun v_5 =>
 pB (pO (bool? v_5)) fun c_6 =>
 if c_6 = true then
 pB (pV (leI v_4 c_MOST_ENTRIES)) fun v_7 =>
 pR v_7
 else
 pR (.bool false)) fun z_3 =>
 pB (pO (bool? z_3)) fun b_8 =>
 pR (!b_8)) fun b_1 =>
 if b_1 = true then
 pR (.bool false)
 else
 pB (
 pB (pIt a_thing) fun ds_10 =>
 pB (pMap ds_10 fun part_11 =>
 pB (p_is_number part_11 a_count) fun r_13 =>
 pR r_13) fun ys_14 =>
 pB (pV (allD [(.list ys_14)])) fun v_15 =>
 pB (pO (bool? v_15)) fun b_16 =>
 if b_16 = true then
 pB (p_is_ascending a_thing) fun r_17 =>
 pR r_17
 else
 pR (.bool false)) fun z_9 =>
 pR z_9
theorem pf_is_entries (a_thing : Dt) (a_count : Dt) : FOk F_is_entries [.val a_thing, .val a_count] (p_is_entries a_thing a_count) (fun (b : (Dt)) => .val b) (fun _ => []) 0 := by
 refine bk_fun (dd := d_is_entries) (S := [.dat a_thing, .dat a_count, .any]) (X := [.any, .any, .any]) (So := (fun (b : (Dt)) => [.any, .any, .any])) ?_ rfl (.cons (⟨_, rfl, frz_val _⟩) (.cons (⟨_, rfl, frz_val _⟩) (.cons (trivial) .nil))) (fun _ _ _ => outs0) (fun _ _ => ⟨[], outs0, rfl⟩)
 unfold p_is_entries
 exact (bk_sif (bk_part (v := fun (b_1 : (Bool)) => b_1) (S1 := fun (b_1 : (Bool)) => [.dat a_thing, .dat a_count, .any]) (bk_sub (bk_or (bk_not (bk_isi2 (bk_v (c := a_thing) 0 (bk_is2V (frz_val _) fun b_2 => (bk_ite (bk_ret (.same (.same (.any .nil)))) (bk_not (bk_bl (bk_part (v := fun (z_3 : (Dt)) => .val z_3) (S1 := fun (z_3 : (Dt)) => [.dat a_thing, .dat a_count, .any]) (bk_sub (bk_chain (bk_c (bk_cb (bk_cons (bk_v (c := a_thing) 0 (bk_nil (bk_cbV (frzL_cons (frz_val _) frzL_nil) fun v_4 => (bk_o2V (frz_val _) (frz_val _) fun v_5 => bk_blV fun c_6 => bk_ite (bk_c (bk_o2V (frz_val _) (frz_val _) fun v_7 => (bk_ret (.same (.same (.any .nil)))))) (bk_ret (.same (.same (.any .nil))))))))))))) fun z_3 => by exact (bk_blV fun b_8 => (bk_ret (.same (.same (.any .nil))))))))))))))) fun b_1 => by exact (bk_ite (bk_sret (bk_c (bk_rt (.any (.any (.any .nil)))))) (bk_skip (bk_last (bk_sret (bk_part (v := fun (z_9 : (Dt)) => .val z_9) (S1 := fun (z_9 : (Dt)) => [.dat a_thing, .dat a_count, .any]) (bk_sub (bk_andV (bk_bl (bk_cb (bk_cons (bk_lc (bk_it (bk_v (c := a_thing) 0 (bk_itX (frz_val _) fun ds_10 => (bk_lcM_V (Sw := [.dat a_thing, .dat a_count, .any]) (.same (.same (.any .nil))) ⟨.inl rfl, trivial⟩ (fun part_11 => (bk_tN (bk_call (bk_ae (bk_v (c := part_11) 2 (bk_ae (bk_v (c := a_count) 1 (bk_an (bk_call0 (pf_is_number part_11 a_count) (fun _ => rfl) (fun _ => rfl) (.any (.any (.any .nil))) fun r_13 => (bk_elV (.same (.same (.any .nil))))))))))))) (fun ys_14 => (bk_nil (bk_cbV (frzL_cons (frz_lst ys_14) frzL_nil) fun v_15 => (bk_blV fun b_16 => (bk_ite (bk_call (bk_ae (bk_v (c := a_thing) 0 (bk_an (bk_call0 (pf_is_ascending a_thing) (fun _ => rfl) (fun _ => rfl) (.any (.any (.any .nil))) fun r_17 => (bk_ret (.same (.same (.any .nil))))))))) (bk_ret (.same (.same (.any .nil))))))))))))))))))) fun z_9 => by exact (bk_rt (.any (.any (.any .nil)))))))))))
def p_is_flag (a_thing : Dt) : PM (Dt) :=
 pB (
 pB (pC isBD a_thing (.bool true)) fun b_2 =>
 if b_2 = true then
 pR (.bool true)
 else
 pB (pV (isBD a_thing (.bool false))) fun v_3 =>
 pR v_3) fun z_1 =>
 pR z_1
theorem pf_is_flag (a_thing : Dt) : FOk F_is_flag [.val a_thing] (p_is_flag a_thing) (fun (b : (Dt)) => .val b) (fun _ => []) 0 := by
 refine bk_fun (dd := d_is_flag) (S := [.dat a_thing]) (X := [.any]) (So := (fun (b : (Dt)) => [.any])) ?_ rfl (.cons (⟨_, rfl, frz_val _⟩) .nil) (fun _ _ _ => outs0) (fun _ _ => ⟨[], outs0, rfl⟩)
 unfold p_is_flag
 exact (bk_last (bk_sret (bk_part (v := fun (z_1 : (Dt)) => .val z_1) (S1 := fun (z_1 : (Dt)) => [.dat a_thing]) (bk_sub (bk_orV (bk_cmp (bk_v (c := a_thing) 0 (bk_c (bk_cmpV (frz_val _) (frz_val _) fun b_2 => (bk_ite (bk_ret (.same .nil)) (bk_2 (bk_v (c := a_thing) 0 (bk_c (bk_o2V (frz_val _) (frz_val _) fun v_3 => (bk_ret (.same .nil))))))))))))) fun z_1 => by exact (bk_rt (.any .nil)))))
def p_is_marks (a_thing : Dt) (a_count : Dt) : PM (Dt) :=
 pB (
 pB (pIs "tuple" a_thing) fun b_2 =>
 if b_2 = true then
 pB (pV (lenD [a_thing])) fun v_3 =>
 pB (pC eqD v_3 a_count) fun b_4 =>
 if b_4 = true then
 pB (pIt a_thing) fun ds_5 =>
 pB (pMap ds_5 fun mark_6 =>
 pB (p_is_flag mark_6) fun r_8 =>
 pR r_8) fun ys_9 =>
 pB (pV (allD [(.list ys_9)])) fun v_10 =>
 pR v_10
 else
 pR (.bool false)
 else
 pR (.bool false)) fun z_1 =>
 pR z_1
theorem pf_is_marks (a_thing : Dt) (a_count : Dt) : FOk F_is_marks [.val a_thing, .val a_count] (p_is_marks a_thing a_count) (fun (b : (Dt)) => .val b) (fun _ => []) 0 := by
 refine bk_fun (dd := d_is_marks) (S := [.dat a_thing, .dat a_count, .any]) (X := [.any, .any, .any]) (So := (fun (b : (Dt)) => [.any, .any, .any])) ?_ rfl (.cons (⟨_, rfl, frz_val _⟩) (.cons (⟨_, rfl, frz_val _⟩) (.cons (trivial) .nil))) (fun _ _ _ => outs0) (fun _ _ => ⟨[], outs0, rfl⟩)
 unfold p_is_marks
 exact (bk_last (bk_sret (bk_part (v := fun (z_1 : (Dt)) => .val z_1) (S1 := fun (z_1 : (Dt)) => [.dat a_thing, .dat a_count, .any]) (bk_sub (bk_andV (bk_isi2 (bk_v (c := a_thing) 0 (bk_is2V (frz_val _) fun b_2 => (bk_ite (bk_andV (bk_cmp (bk_cb (bk_cons (bk_v (c := a_thing) 0 (bk_nil (bk_cbV (frzL_cons (frz_val _) frzL_nil) fun v_3 => (bk_v (c := a_count) 1 (bk_cmpV (frz_val _) (frz_val _) fun b_4 => (bk_ite (bk_cb (bk_cons (bk_lc (bk_it (bk_v (c := a_thing) 0 (bk_itX (frz_val _) fun ds_5 => (bk_lcM_V (Sw := [.dat a_thing, .dat a_count, .any]) (.same (.same (.any .nil))) ⟨.inl rfl, trivial⟩ (fun mark_6 => (bk_tN (bk_call (bk_ae (bk_v (c := mark_6) 2 (bk_an (bk_call0 (pf_is_flag mark_6) (fun _ => rfl) (fun _ => rfl) (.any (.any (.any .nil))) fun r_8 => (bk_elV (.same (.same (.any .nil))))))))))) (fun ys_9 => (bk_nil (bk_cbV (frzL_cons (frz_lst ys_9) frzL_nil) fun v_10 => (bk_ret (.same (.same (.any .nil)))))))))))))) (bk_ret (.same (.same (.any .nil)))))))))))))) (bk_ret (.same (.same (.any .nil)))))))))) fun z_1 => by exact (bk_rt (.any (.any (.any .nil)))))))
def p_is_name (a_thing : Dt) : PM (Dt) :=
 pB (
 pB (pIs "str" a_thing) fun b_2 =>
 if b_2 = true then
 pB (pV (inD a_thing c_NAMES)) fun v_3 =>
 pR v_3
 else
 pR (.bool false)) fun z_1 =>
 pR z_1
theorem pf_is_name (a_thing : Dt) : FOk F_is_name [.val a_thing] (p_is_name a_thing) (fun (b : (Dt)) => .val b) (fun _ => []) 0 := by
 refine bk_fun (dd := d_is_name) (S := [.dat a_thing]) (X := [.any]) (So := (fun (b : (Dt)) => [.any])) ?_ rfl (.cons (⟨_, rfl, frz_val _⟩) .nil) (fun _ _ _ => outs0) (fun _ _ => ⟨[], outs0, rfl⟩)
 unfold p_is_name
 exact (bk_last (bk_sret (bk_part (v := fun (z_1 : (Dt)) => .val z_1) (S1 := fun (z_1 : (Dt)) => [.dat a_thing]) (bk_sub (bk_andV (bk_isi2 (bk_v (c := a_thing) 0 (bk_is2V (frz_val _) fun b_2 => (bk_ite (bk_2 (bk_v (c := a_thing) 0 (bk_c (bk_o2V (frz_val _) (frz_val _) fun v_3 => (bk_ret (.same .nil)))))) (bk_ret (.same .nil)))))))) fun z_1 => by exact (bk_rt (.any .nil)))))
def p_is_named (a_thing : Dt) (a_count : Dt) : PM (Dt) :=
 pB (
 pB (pIs "tuple" a_thing) fun b_2 =>
 if b_2 = true then
 pB (pV (lenD [a_thing])) fun v_3 =>
 pB (pC eqD v_3 (.int 2)) fun b_4 =>
 if b_4 = true then
 pB (pV (ixD a_thing (.int 0))) fun v_5 =>
 pB (p_is_number v_5 a_count) fun r_6 =>
 pB (pO (bool? r_6)) fun b_7 =>
 if b_7 = true then
 pB (pV (ixD a_thing (.int 1))) fun v_8 =>
 pB (p_is_name v_8) fun r_9 =>
 pR r_9
 else
 pR (.bool false)
 else
 pR (.bool false)
 else
 pR (.bool false)) fun z_1 =>
 pR z_1
theorem pf_is_named (a_thing : Dt) (a_count : Dt) : FOk F_is_named [.val a_thing, .val a_count] (p_is_named a_thing a_count) (fun (b : (Dt)) => .val b) (fun _ => []) 0 := by
 refine bk_fun (dd := d_is_named) (S := [.dat a_thing, .dat a_count]) (X := [.any, .any]) (So := (fun (b : (Dt)) => [.any, .any])) ?_ rfl (.cons (⟨_, rfl, frz_val _⟩) (.cons (⟨_, rfl, frz_val _⟩) .nil)) (fun _ _ _ => outs0) (fun _ _ => ⟨[], outs0, rfl⟩)
 unfold p_is_named
 exact (bk_last (bk_sret (bk_part (v := fun (z_1 : (Dt)) => .val z_1) (S1 := fun (z_1 : (Dt)) => [.dat a_thing, .dat a_count]) (bk_sub (bk_andV (bk_isi2 (bk_v (c := a_thing) 0 (bk_is2V (frz_val _) fun b_2 => (bk_ite (bk_andV (bk_cmp (bk_cb (bk_cons (bk_v (c := a_thing) 0 (bk_nil (bk_cbV (frzL_cons (frz_val _) frzL_nil) fun v_3 => (bk_c (bk_cmpV (frz_val _) (frz_val _) fun b_4 => (bk_ite (bk_andV (bk_bl (bk_call (bk_ae (bk_2 (bk_v (c := a_thing) 0 (bk_c (bk_o2V (frz_val _) (frz_val _) fun v_5 => (bk_ae (bk_v (c := a_count) 1 (bk_an (bk_call0 (pf_is_number v_5 a_count) (fun _ => rfl) (fun _ => rfl) (.any (.any .nil)) fun r_6 => (bk_blV fun b_7 => (bk_ite (bk_call (bk_ae (bk_2 (bk_v (c := a_thing) 0 (bk_c (bk_o2V (frz_val _) (frz_val _) fun v_8 => (bk_an (bk_call0 (pf_is_name v_8) (fun _ => rfl) (fun _ => rfl) (.any (.any .nil)) fun r_9 => (bk_ret (.same (.same .nil))))))))))) (bk_ret (.same (.same .nil))))))))))))))))) (bk_ret (.same (.same .nil))))))))))))) (bk_ret (.same (.same .nil))))))))) fun z_1 => by exact (bk_rt (.any (.any .nil))))))
def p_is_opens (a_thing : Dt) (a_count : Dt) : PM (Dt) :=
 pB (
 pB (pIs "tuple" a_thing) fun b_2 =>
 if (!b_2) = true then
 pR true
 else
 pB (pV (lenD [a_thing])) fun v_3 =>
 pB (pC gtI v_3 c_MOST_OPENS) fun b_4 =>
 pR b_4) fun b_1 =>
 if b_1 = true then
 pR (.bool false)
 else
 pB (
 pB (pIt a_thing) fun ds_6 =>
 pB (pMap ds_6 fun name_7 =>
 pB (p_is_named name_7 a_count) fun r_9 =>
 pR r_9) fun ys_10 =>
 pB (pV (allD [(.list ys_10)])) fun v_11 =>
 pB (pO (bool? v_11)) fun b_12 =>
 if b_12 = true then
 pB (p_is_ascending a_thing) fun r_13 =>
 pR r_13
 else
 pR (.bool false)) fun z_5 =>
 pR z_5
theorem pf_is_opens (a_thing : Dt) (a_count : Dt) : FOk F_is_opens [.val a_thing, .val a_count] (p_is_opens a_thing a_count) (fun (b : (Dt)) => .val b) (fun _ => []) 0 := by
 refine bk_fun (dd := d_is_opens) (S := [.dat a_thing, .dat a_count, .any]) (X := [.any, .any, .any]) (So := (fun (b : (Dt)) => [.any, .any, .any])) ?_ rfl (.cons (⟨_, rfl, frz_val _⟩) (.cons (⟨_, rfl, frz_val _⟩) (.cons (trivial) .nil))) (fun _ _ _ => outs0) (fun _ _ => ⟨[], outs0, rfl⟩)
 unfold p_is_opens
 exact (bk_sif (bk_part (v := fun (b_1 : (Bool)) => b_1) (S1 := fun (b_1 : (Bool)) => [.dat a_thing, .dat a_count, .any]) (bk_sub (bk_or (bk_not (bk_isi2 (bk_v (c := a_thing) 0 (bk_is2V (frz_val _) fun b_2 => (bk_ite (bk_ret (.same (.same (.any .nil)))) (bk_cmp (bk_cb (bk_cons (bk_v (c := a_thing) 0 (bk_nil (bk_cbV (frzL_cons (frz_val _) frzL_nil) fun v_3 => (bk_c (bk_cmpV (frz_val _) (frz_val _) fun b_4 => (bk_ret (.same (.same (.any .nil))))))))))))))))))) fun b_1 => by exact (bk_ite (bk_sret (bk_c (bk_rt (.any (.any (.any .nil)))))) (bk_skip (bk_last (bk_sret (bk_part (v := fun (z_5 : (Dt)) => .val z_5) (S1 := fun (z_5 : (Dt)) => [.dat a_thing, .dat a_count, .any]) (bk_sub (bk_andV (bk_bl (bk_cb (bk_cons (bk_lc (bk_it (bk_v (c := a_thing) 0 (bk_itX (frz_val _) fun ds_6 => (bk_lcM_V (Sw := [.dat a_thing, .dat a_count, .any]) (.same (.same (.any .nil))) ⟨.inl rfl, trivial⟩ (fun name_7 => (bk_tN (bk_call (bk_ae (bk_v (c := name_7) 2 (bk_ae (bk_v (c := a_count) 1 (bk_an (bk_call0 (pf_is_named name_7 a_count) (fun _ => rfl) (fun _ => rfl) (.any (.any (.any .nil))) fun r_9 => (bk_elV (.same (.same (.any .nil))))))))))))) (fun ys_10 => (bk_nil (bk_cbV (frzL_cons (frz_lst ys_10) frzL_nil) fun v_11 => (bk_blV fun b_12 => (bk_ite (bk_call (bk_ae (bk_v (c := a_thing) 0 (bk_an (bk_call0 (pf_is_ascending a_thing) (fun _ => rfl) (fun _ => rfl) (.any (.any (.any .nil))) fun r_13 => (bk_ret (.same (.same (.any .nil))))))))) (bk_ret (.same (.same (.any .nil))))))))))))))))))) fun z_5 => by exact (bk_rt (.any (.any (.any .nil)))))))))))
def p_is_needs (a_thing : Dt) (a_count : Dt) (a_most : Dt) : PM (Dt) :=
 pB (
 pB (pIs "tuple" a_thing) fun b_2 =>
 if b_2 = true then
 pB (pV (lenD [a_thing])) fun v_3 =>
 pB (pC leI v_3 a_most) fun b_4 =>
 if b_4 = true then
 pB (pIt a_thing) fun ds_5 =>
 pB (pMap ds_5 fun need_6 =>
 pB (p_is_named need_6 a_count) fun r_8 =>
 pR r_8) fun ys_9 =>
 pB (pV (allD [(.list ys_9)])) fun v_10 =>
 pR v_10
 else
 pR (.bool false)
 else
 pR (.bool false)) fun z_1 =>
 pR z_1
theorem pf_is_needs (a_thing : Dt) (a_count : Dt) (a_most : Dt) : FOk F_is_needs [.val a_thing, .val a_count, .val a_most] (p_is_needs a_thing a_count a_most) (fun (b : (Dt)) => .val b) (fun _ => []) 0 := by
 refine bk_fun (dd := d_is_needs) (S := [.dat a_thing, .dat a_count, .dat a_most, .any]) (X := [.any, .any, .any, .any]) (So := (fun (b : (Dt)) => [.any, .any, .any, .any])) ?_ rfl (.cons (⟨_, rfl, frz_val _⟩) (.cons (⟨_, rfl, frz_val _⟩) (.cons (⟨_, rfl, frz_val _⟩) (.cons (trivial) .nil)))) (fun _ _ _ => outs0) (fun _ _ => ⟨[], outs0, rfl⟩)
 unfold p_is_needs
 exact (bk_last (bk_sret (bk_part (v := fun (z_1 : (Dt)) => .val z_1) (S1 := fun (z_1 : (Dt)) => [.dat a_thing, .dat a_count, .dat a_most, .any]) (bk_sub (bk_andV (bk_isi2 (bk_v (c := a_thing) 0 (bk_is2V (frz_val _) fun b_2 => (bk_ite (bk_andV (bk_cmp (bk_cb (bk_cons (bk_v (c := a_thing) 0 (bk_nil (bk_cbV (frzL_cons (frz_val _) frzL_nil) fun v_3 => (bk_v (c := a_most) 2 (bk_cmpV (frz_val _) (frz_val _) fun b_4 => (bk_ite (bk_cb (bk_cons (bk_lc (bk_it (bk_v (c := a_thing) 0 (bk_itX (frz_val _) fun ds_5 => (bk_lcM_V (Sw := [.dat a_thing, .dat a_count, .dat a_most, .any]) (.same (.same (.same (.any .nil)))) ⟨.inl rfl, trivial⟩ (fun need_6 => (bk_tN (bk_call (bk_ae (bk_v (c := need_6) 3 (bk_ae (bk_v (c := a_count) 1 (bk_an (bk_call0 (pf_is_named need_6 a_count) (fun _ => rfl) (fun _ => rfl) (.any (.any (.any (.any .nil)))) fun r_8 => (bk_elV (.same (.same (.same (.any .nil)))))))))))))) (fun ys_9 => (bk_nil (bk_cbV (frzL_cons (frz_lst ys_9) frzL_nil) fun v_10 => (bk_ret (.same (.same (.same (.any .nil))))))))))))))) (bk_ret (.same (.same (.same (.any .nil))))))))))))))) (bk_ret (.same (.same (.same (.any .nil))))))))))) fun z_1 => by exact (bk_rt (.any (.any (.any (.any .nil))))))))
def p_is_row (a_thing : Dt) (a_count : Dt) : PM (Dt) :=
 pB (
 pB (pIs "tuple" a_thing) fun b_2 =>
 if (!b_2) = true then
 pR true
 else
 pB (pV (lenD [a_thing])) fun v_3 =>
 pB (pC eqD v_3 (.int 0)) fun b_4 =>
 if b_4 = true then
 pR true
 else
 pB (pV (ixD a_thing (.int 0))) fun v_5 =>
 pB (pIs "str" v_5) fun b_6 =>
 pR (!b_6)) fun b_1 =>
 if b_1 = true then
 pR (.bool false)
 else
 pS21 a_thing fun word_7 rest_8 =>
 pB (pC eqD word_7 (.str "load")) fun b_9 =>
 if b_9 = true then
 pB (
 pB (pV (lenD [rest_8])) fun v_11 =>
 pB (pC eqD v_11 (.int 1)) fun b_12 =>
 if b_12 = true then
 pB (pV (ixD rest_8 (.int 0))) fun v_13 =>
 pB (p_is_number v_13 a_count) fun r_14 =>
 pR r_14
 else
 pR (.bool false)) fun z_10 =>
 pR z_10
 else
 pB (pC eqD word_7 (.str "give")) fun b_15 =>
 if b_15 = true then
 pB (
 pB (pV (lenD [rest_8])) fun v_17 =>
 pB (pC eqD v_17 (.int 3)) fun b_18 =>
 if b_18 = true then
 pB (pV (ixD rest_8 (.int 0))) fun v_19 =>
 pB (p_is_name v_19) fun r_20 =>
 pB (pO (bool? r_20)) fun b_21 =>
 if b_21 = true then
 pB (pV (ixD rest_8 (.int 1))) fun v_22 =>
 pB (p_is_needs v_22 a_count (.int 1)) fun r_23 =>
 pB (pO (bool? r_23)) fun b_24 =>
 if b_24 = true then
 pB (pV (ixD rest_8 (.int 2))) fun v_25 =>
 pB (p_is_flag v_25) fun r_26 =>
 pR r_26
 else
 pR (.bool false)
 else
 pR (.bool false)
 else
 pR (.bool false)) fun z_16 =>
 pR z_16
 else
 pB (pC eqD word_7 (.str "pass")) fun b_27 =>
 if b_27 = true then
 pB (
 pB (pV (lenD [rest_8])) fun v_29 =>
 pB (pC eqD v_29 (.int 3)) fun b_30 =>
 if b_30 = true then
 pB (pV (ixD rest_8 (.int 0))) fun v_31 =>
 pB (p_is_name v_31) fun r_32 =>
 pB (pO (bool? r_32)) fun b_33 =>
 if b_33 = true then
 pB (pV (ixD rest_8 (.int 1))) fun v_34 =>
 pB (p_is_number v_34 a_count) fun r_35 =>
 pB (pO (bool? r_35)) fun b_36 =>
 if b_36 = true then
 pB (pV (ixD rest_8 (.int 2))) fun v_37 =>
 pB (p_is_name v_37) fun r_38 =>
 pR r_38
 else
 pR (.bool false)
 else
 pR (.bool false)
 else
 pR (.bool false)) fun z_28 =>
 pR z_28
 else
 pB (pC eqD word_7 (.str "show")) fun b_39 =>
 if b_39 = true then
 pB (
 pB (pV (lenD [rest_8])) fun v_41 =>
 pB (pC eqD v_41 (.int 2)) fun b_42 =>
 if b_42 = true then
 pB (pV (ixD rest_8 (.int 0))) fun v_43 =>
 pB (p_is_needs v_43 a_count (.int 2)) fun r_44 =>
 pB (pO (bool? r_44)) fun b_45 =>
 if b_45 = true then
 pB (pV (ixD rest_8 (.int 1))) fun v_46 =>
 pB (p_is_flag v_46) fun r_47 =>
 pR r_47
 else
 pR (.bool false)
 else
 pR (.bool false)) fun z_40 =>
 pR z_40
 else
 pB (pC eqD word_7 (.str "late")) fun b_48 =>
 if b_48 = true then
 pB (
 pB (pV (lenD [rest_8])) fun v_50 =>
 pB (pC neD v_50 (.int 3)) fun b_51 =>
 if b_51 = true then
 pR true
 else
 pB (pV (ixD rest_8 (.int 0))) fun v_52 =>
 pB (p_is_name v_52) fun r_53 =>
 pB (pO (bool? r_53)) fun b_54 =>
 if (!b_54) = true then
 pR true
 else
 pB (pV (ixD rest_8 (.int 1))) fun v_55 =>
 pB (p_is_integer v_55) fun r_56 =>
 pB (pO (bool? r_56)) fun b_57 =>
 pR (!b_57)) fun b_49 =>
 if b_49 = true then
 pR (.bool false)
 else
 pB (
 pB (
 pB (pNeg (.int 1)) fun v_60 =>
 pB (pV (ixD rest_8 (.int 1))) fun v_61 =>
 pB (pV (leI v_60 v_61)) fun v_62 =>
 pB (pO (bool? v_62)) fun c_63 =>
 if c_63 = true then
 pB (pV (ltI v_61 a_count)) fun v_64 =>
 pR v_64
 else
 pR (.bool false)) fun z_59 =>
 pB (pO (bool? z_59)) fun b_65 =>
 if b_65 = true then
 pB (pV (ixD rest_8 (.int 2))) fun v_66 =>
 pB (p_is_needs v_66 a_count (.int 2)) fun r_67 =>
 pR r_67
 else
 pR (.bool false)) fun z_58 =>
 pR z_58
 else
 pB (
 pB (pC eqD word_7 (.str "out")) fun b_69 =>
 if b_69 = true then
 pB (pV (lenD [rest_8])) fun v_70 =>
 pB (pV (eqD v_70 (.int 0))) fun v_71 =>
 pR v_71
 else
 pR (.bool false)) fun z_68 =>
 pR z_68
theorem pf_is_row (a_thing : Dt) (a_count : Dt) : FOk F_is_row [.val a_thing, .val a_count] (p_is_row a_thing a_count) (fun (b : (Dt)) => .val b) (fun _ => []) 0 := by
 refine bk_fun (dd := d_is_row) (S := [.dat a_thing, .dat a_count, .any, .any]) (X := [.any, .any, .any, .any]) (So := (fun (b : (Dt)) => [.any, .any, .any, .any])) ?_ rfl (.cons (⟨_, rfl, frz_val _⟩) (.cons (⟨_, rfl, frz_val _⟩) (.cons (trivial) (.cons (trivial) .nil)))) (fun _ _ _ => outs0) (fun _ _ => ⟨[], outs0, rfl⟩)
 unfold p_is_row
 exact (bk_sif (bk_part (v := fun (b_1 : (Bool)) => b_1) (S1 := fun (b_1 : (Bool)) => [.dat a_thing, .dat a_count, .any, .any]) (bk_sub (bk_or (bk_not (bk_isi2 (bk_v (c := a_thing) 0 (bk_is2V (frz_val _) fun b_2 => (bk_ite (bk_ret (.same (.same (.any (.any .nil))))) (bk_or (bk_cmp (bk_cb (bk_cons (bk_v (c := a_thing) 0 (bk_nil (bk_cbV (frzL_cons (frz_val _) frzL_nil) fun v_3 => (bk_c (bk_cmpV (frz_val _) (frz_val _) fun b_4 => (bk_ite (bk_ret (.same (.same (.any (.any .nil))))) (bk_not (bk_isi2 (bk_2 (bk_v (c := a_thing) 0 (bk_c (bk_o2V (frz_val _) (frz_val _) fun v_5 => (bk_is2V (frz_val _) fun b_6 => (bk_ret (.same (.same (.any (.any .nil))))))))))))))))))))))))))))) fun b_1 => by exact (bk_ite (bk_sret (bk_c (bk_rt (.any (.any (.any (.any .nil))))))) (bk_skip (bk_asg (bk_v (c := a_thing) 0 (bk_asgX (frz_val _) (bk_s21 fun word_7 rest_8 => (bk_tN (bk_tN (bk_sif (bk_cmp (bk_v (c := word_7) 2 (bk_c (bk_cmpV (frz_val _) (frz_val _) fun b_9 => (bk_ite (bk_sret (bk_part (v := fun (z_10 : (Dt)) => .val z_10) (S1 := fun (z_10 : (Dt)) => [.dat a_thing, .dat a_count, .dat word_7, .dat rest_8]) (bk_sub (bk_andV (bk_cmp (bk_cb (bk_cons (bk_v (c := rest_8) 3 (bk_nil (bk_cbV (frzL_cons (frz_val _) frzL_nil) fun v_11 => (bk_c (bk_cmpV (frz_val _) (frz_val _) fun b_12 => (bk_ite (bk_call (bk_ae (bk_2 (bk_v (c := rest_8) 3 (bk_c (bk_o2V (frz_val _) (frz_val _) fun v_13 => (bk_ae (bk_v (c := a_count) 1 (bk_an (bk_call0 (pf_is_number v_13 a_count) (fun _ => rfl) (fun _ => rfl) (.any (.any (.any (.any .nil)))) fun r_14 => (bk_ret (.same (.same (.same (.same .nil))))))))))))))) (bk_ret (.same (.same (.same (.same .nil)))))))))))))))) fun z_10 => by exact (bk_rt (.any (.any (.any (.any .nil))))))) (bk_skip (bk_sif (bk_cmp (bk_v (c := word_7) 2 (bk_c (bk_cmpV (frz_val _) (frz_val _) fun b_15 => (bk_ite (bk_sret (bk_part (v := fun (z_16 : (Dt)) => .val z_16) (S1 := fun (z_16 : (Dt)) => [.dat a_thing, .dat a_count, .dat word_7, .dat rest_8]) (bk_sub (bk_andV (bk_cmp (bk_cb (bk_cons (bk_v (c := rest_8) 3 (bk_nil (bk_cbV (frzL_cons (frz_val _) frzL_nil) fun v_17 => (bk_c (bk_cmpV (frz_val _) (frz_val _) fun b_18 => (bk_ite (bk_andV (bk_bl (bk_call (bk_ae (bk_2 (bk_v (c := rest_8) 3 (bk_c (bk_o2V (frz_val _) (frz_val _) fun v_19 => (bk_an (bk_call0 (pf_is_name v_19) (fun _ => rfl) (fun _ => rfl) (.any (.any (.any (.any .nil)))) fun r_20 => (bk_blV fun b_21 => (bk_ite (bk_andV (bk_bl (bk_call (bk_ae (bk_2 (bk_v (c := rest_8) 3 (bk_c (bk_o2V (frz_val _) (frz_val _) fun v_22 => (bk_ae (bk_v (c := a_count) 1 (bk_ae (bk_c (bk_an (bk_call0 (pf_is_needs v_22 a_count (.int 1)) (fun _ => rfl) (fun _ => rfl) (.any (.any (.any (.any .nil)))) fun r_23 => (bk_blV fun b_24 => (bk_ite (bk_call (bk_ae (bk_2 (bk_v (c := rest_8) 3 (bk_c (bk_o2V (frz_val _) (frz_val _) fun v_25 => (bk_an (bk_call0 (pf_is_flag v_25) (fun _ => rfl) (fun _ => rfl) (.any (.any (.any (.any .nil)))) fun r_26 => (bk_ret (.same (.same (.same (.same .nil))))))))))))) (bk_ret (.same (.same (.same (.same .nil))))))))))))))))))))) (bk_ret (.same (.same (.same (.same .nil))))))))))))))))) (bk_ret (.same (.same (.same (.same .nil)))))))))))))))) fun z_16 => by exact (bk_rt (.any (.any (.any (.any .nil))))))) (bk_skip (bk_sif (bk_cmp (bk_v (c := word_7) 2 (bk_c (bk_cmpV (frz_val _) (frz_val _) fun b_27 => (bk_ite (bk_sret (bk_part (v := fun (z_28 : (Dt)) => .val z_28) (S1 := fun (z_28 : (Dt)) => [.dat a_thing, .dat a_count, .dat word_7, .dat rest_8]) (bk_sub (bk_andV (bk_cmp (bk_cb (bk_cons (bk_v (c := rest_8) 3 (bk_nil (bk_cbV (frzL_cons (frz_val _) frzL_nil) fun v_29 => (bk_c (bk_cmpV (frz_val _) (frz_val _) fun b_30 => (bk_ite (bk_andV (bk_bl (bk_call (bk_ae (bk_2 (bk_v (c := rest_8) 3 (bk_c (bk_o2V (frz_val _) (frz_val _) fun v_31 => (bk_an (bk_call0 (pf_is_name v_31) (fun _ => rfl) (fun _ => rfl) (.any (.any (.any (.any .nil)))) fun r_32 => (bk_blV fun b_33 => (bk_ite (bk_andV (bk_bl (bk_call (bk_ae (bk_2 (bk_v (c := rest_8) 3 (bk_c (bk_o2V (frz_val _) (frz_val _) fun v_34 => (bk_ae (bk_v (c := a_count) 1 (bk_an (bk_call0 (pf_is_number v_34 a_count) (fun _ => rfl) (fun _ => rfl) (.any (.any (.any (.any .nil)))) fun r_35 => (bk_blV fun b_36 => (bk_ite (bk_call (bk_ae (bk_2 (bk_v (c := rest_8) 3 (bk_c (bk_o2V (frz_val _) (frz_val _) fun v_37 => (bk_an (bk_call0 (pf_is_name v_37) (fun _ => rfl) (fun _ => rfl) (.any (.any (.any (.any .nil)))) fun r_38 => (bk_ret (.same (.same (.same (.same .nil))))))))))))) (bk_ret (.same (.same (.same (.same .nil))))))))))))))))))) (bk_ret (.same (.same (.same (.same .nil))))))))))))))))) (bk_ret (.same (.same (.same (.same .nil)))))))))))))))) fun z_28 => by exact (bk_rt (.any (.any (.any (.any .nil))))))) (bk_skip (bk_sif (bk_cmp (bk_v (c := word_7) 2 (bk_c (bk_cmpV (frz_val _) (frz_val _) fun b_39 => (bk_ite (bk_sret (bk_part (v := fun (z_40 : (Dt)) => .val z_40) (S1 := fun (z_40 : (Dt)) => [.dat a_thing, .dat a_count, .dat word_7, .dat rest_8]) (bk_sub (bk_andV (bk_cmp (bk_cb (bk_cons (bk_v (c := rest_8) 3 (bk_nil (bk_cbV (frzL_cons (frz_val _) frzL_nil) fun v_41 => (bk_c (bk_cmpV (frz_val _) (frz_val _) fun b_42 => (bk_ite (bk_andV (bk_bl (bk_call (bk_ae (bk_2 (bk_v (c := rest_8) 3 (bk_c (bk_o2V (frz_val _) (frz_val _) fun v_43 => (bk_ae (bk_v (c := a_count) 1 (bk_ae (bk_c (bk_an (bk_call0 (pf_is_needs v_43 a_count (.int 2)) (fun _ => rfl) (fun _ => rfl) (.any (.any (.any (.any .nil)))) fun r_44 => (bk_blV fun b_45 => (bk_ite (bk_call (bk_ae (bk_2 (bk_v (c := rest_8) 3 (bk_c (bk_o2V (frz_val _) (frz_val _) fun v_46 => (bk_an (bk_call0 (pf_is_flag v_46) (fun _ => rfl) (fun _ => rfl) (.any (.any (.any (.any .nil)))) fun r_47 => (bk_ret (.same (.same (.same (.same .nil))))))))))))) (bk_ret (.same (.same (.same (.same .nil))))))))))))))))))))) (bk_ret (.same (.same (.same (.same .nil)))))))))))))))) fun z_40 => by exact (bk_rt (.any (.any (.any (.any .nil))))))) (bk_skip (bk_sif (bk_cmp (bk_v (c := word_7) 2 (bk_c (bk_cmpV (frz_val _) (frz_val _) fun b_48 => (bk_ite (bk_seq (bk_sif (bk_part (v := fun (b_49 : (Bool)) => b_49) (S1 := fun (b_49 : (Bool)) => [.dat a_thing, .dat a_count, .dat word_7, .dat rest_8]) (bk_sub (bk_or (bk_cmp (bk_cb (bk_cons (bk_v (c := rest_8) 3 (bk_nil (bk_cbV (frzL_cons (frz_val _) frzL_nil) fun v_50 => (bk_c (bk_cmpV (frz_val _) (frz_val _) fun b_51 => (bk_ite (bk_ret (.same (.same (.same (.same .nil))))) (bk_or (bk_not (bk_bl (bk_call (bk_ae (bk_2 (bk_v (c := rest_8) 3 (bk_c (bk_o2V (frz_val _) (frz_val _) fun v_52 => (bk_an (bk_call0 (pf_is_name v_52) (fun _ => rfl) (fun _ => rfl) (.any (.any (.any (.any .nil)))) fun r_53 => (bk_blV fun b_54 => (bk_ite (bk_ret (.same (.same (.same (.same .nil))))) (bk_not (bk_bl (bk_call (bk_ae (bk_2 (bk_v (c := rest_8) 3 (bk_c (bk_o2V (frz_val _) (frz_val _) fun v_55 => (bk_an (bk_call0 (pf_is_integer v_55) (fun _ => rfl) (fun _ => rfl) (.any (.any (.any (.any .nil)))) fun r_56 => (bk_blV fun b_57 => (bk_ret (.same (.same (.same (.same .nil)))))))))))))))))))))))))))))))))))))))) fun b_49 => by exact (bk_ite (bk_sret (bk_c (bk_rt (.any (.any (.any (.any .nil))))))) (bk_skip (bk_sret (bk_part (v := fun (z_58 : (Dt)) => .val z_58) (S1 := fun (z_58 : (Dt)) => [.dat a_thing, .dat a_count, .dat word_7, .dat rest_8]) (bk_sub (bk_andV (bk_bl (bk_part (v := fun (z_59 : (Dt)) => .val z_59) (S1 := fun (z_59 : (Dt)) => [.dat a_thing, .dat a_count, .dat word_7, .dat rest_8]) (bk_sub (bk_chain (bk_neg (bk_c (bk_negV fun v_60 => (bk_2 (bk_v (c := rest_8) 3 (bk_c (bk_o2V (frz_val _) (frz_val _) fun v_61 => (bk_o2V (frz_val _) (frz_val _) fun v_62 => bk_blV fun c_63 => bk_ite (bk_v (c := a_count) 1 (bk_o2V (frz_val _) (frz_val _) fun v_64 => (bk_ret (.same (.same (.same (.same .nil))))))) (bk_ret (.same (.same (.same (.same .nil))))))))))))))) fun z_59 => by exact (bk_blV fun b_65 => (bk_ite (bk_call (bk_ae (bk_2 (bk_v (c := rest_8) 3 (bk_c (bk_o2V (frz_val _) (frz_val _) fun v_66 => (bk_ae (bk_v (c := a_count) 1 (bk_ae (bk_c (bk_an (bk_call0 (pf_is_needs v_66 a_count (.int 2)) (fun _ => rfl) (fun _ => rfl) (.any (.any (.any (.any .nil)))) fun r_67 => (bk_ret (.same (.same (.same (.same .nil))))))))))))))))) (bk_ret (.same (.same (.same (.same .nil))))))))))) fun z_58 => by exact (bk_rt (.any (.any (.any (.any .nil)))))))))))) (bk_skip (bk_last (bk_sret (bk_part (v := fun (z_68 : (Dt)) => .val z_68) (S1 := fun (z_68 : (Dt)) => [.dat a_thing, .dat a_count, .dat word_7, .dat rest_8]) (bk_sub (bk_andV (bk_cmp (bk_v (c := word_7) 2 (bk_c (bk_cmpV (frz_val _) (frz_val _) fun b_69 => (bk_ite (bk_2 (bk_cb (bk_cons (bk_v (c := rest_8) 3 (bk_nil (bk_cbV (frzL_cons (frz_val _) frzL_nil) fun v_70 => (bk_c (bk_o2V (frz_val _) (frz_val _) fun v_71 => (bk_ret (.same (.same (.same (.same .nil))))))))))))) (bk_ret (.same (.same (.same (.same .nil)))))))))))) fun z_68 => by exact (bk_rt (.any (.any (.any (.any .nil)))))))))))))))))))))))))))))))))))))))))))))))))))))
def p_is_parts (a_thing : Dt) : PM (Dt) :=
 pB (
 pB (pIs "tuple" a_thing) fun b_2 =>
 if (!b_2) = true then
 pR true
 else
 pB (
 pB (pV (lenD [a_thing])) fun v_4 =>
 pB (pV (leI (.int 1) v_4)) fun v_5 =>
 pB (pO (bool? v_5)) fun c_6 =>
 if c_6 = true then
 pB (pV (leI v_4 c_MOST_PARTS)) fun v_7 =>
 pR v_7
 else
 pR (.bool false)) fun z_3 =>
 pB (pO (bool? z_3)) fun b_8 =>
 pR (!b_8)) fun b_1 =>
 if b_1 = true then
 pR (.bool false)
 else
 pB (pIt a_thing) fun ds_9 =>
 pB (pMap ds_9 fun part_10 =>
 pB (
 pB (pIs "tuple" part_10) fun b_13 =>
 if b_13 = true then
 pB (pV (lenD [part_10])) fun v_14 =>
 pB (pV (leI v_14 c_MOST_ROWS)) fun v_15 =>
 pR v_15
 else
 pR (.bool false)) fun z_12 =>
 pR z_12) fun ys_16 =>
 pB (pV (allD [(.list ys_16)])) fun v_17 =>
 pB (pO (bool? v_17)) fun b_18 =>
 if (!b_18) = true then
 pR (.bool false)
 else
 pB (pIt a_thing) fun ds_19 =>
 pB (pMap ds_19 fun part_20 =>
 pB (pV (lenD [part_20])) fun v_22 =>
 pR v_22) fun ys_23 =>
 pB (pV (sumD [(.list ys_23)])) fun v_24 =>
 pB (pC gtI v_24 c_MOST_ROWS_IN_ALL) fun b_25 =>
 if b_25 = true then
 pR (.bool false)
 else
 pB (pIt a_thing) fun ds_26 =>
 pB (pForL (γ := (Dt)) ds_26 () fun part_27 s_28 =>
 pB (pIt part_27) fun ds_29 =>
 pB (pMap ds_29 fun row_30 =>
 pB (pV (lenD [a_thing])) fun v_32 =>
 pB (p_is_row row_30 v_32) fun r_33 =>
 pR r_33) fun ys_34 =>
 pB (pV (allD [(.list ys_34)])) fun v_35 =>
 pB (pO (bool? v_35)) fun b_36 =>
 if (!b_36) = true then
 pR (.rt (.bool false))
 else
 pR (.go ())) fun l_s_28 => pLp l_s_28 (fun s_28 =>
 pB (pIt a_thing) fun ds_37 =>
 pB (pMap2 ds_37 fun part_38 =>
 pB (pIt part_38) fun ds_40 =>
 pFil ds_40 fun row_39 =>
 pB (pV (ixD row_39 (.int 0))) fun v_41 =>
 pB (pC eqD v_41 (.str "out")) fun b_42 =>
 if b_42 = true then
 pR (some row_39)
 else
 pR none) fun ys_43 =>
 pB (pV (lenD [(.list ys_43)])) fun v_44 =>
 pB (pV (leI v_44 c_MOST_OUTS)) fun v_45 =>
 pR v_45) fun c => pR c
theorem pf_is_parts (a_thing : Dt) : FOk F_is_parts [.val a_thing] (p_is_parts a_thing) (fun (b : (Dt)) => .val b) (fun _ => []) 0 := by
 refine bk_fun (dd := d_is_parts) (S := [.dat a_thing, .any, .any]) (X := [.any, .any, .any]) (So := (fun (b : (Dt)) => [.any, .any, .any])) ?_ rfl (.cons (⟨_, rfl, frz_val _⟩) (.cons (trivial) (.cons (trivial) .nil))) (fun _ _ _ => outs0) (fun _ _ => ⟨[], outs0, rfl⟩)
 unfold p_is_parts
 exact (bk_sif (bk_part (v := fun (b_1 : (Bool)) => b_1) (S1 := fun (b_1 : (Bool)) => [.dat a_thing, .any, .any]) (bk_sub (bk_or (bk_not (bk_isi2 (bk_v (c := a_thing) 0 (bk_is2V (frz_val _) fun b_2 => (bk_ite (bk_ret (.same (.any (.any .nil)))) (bk_not (bk_bl (bk_part (v := fun (z_3 : (Dt)) => .val z_3) (S1 := fun (z_3 : (Dt)) => [.dat a_thing, .any, .any]) (bk_sub (bk_chain (bk_c (bk_cb (bk_cons (bk_v (c := a_thing) 0 (bk_nil (bk_cbV (frzL_cons (frz_val _) frzL_nil) fun v_4 => (bk_o2V (frz_val _) (frz_val _) fun v_5 => bk_blV fun c_6 => bk_ite (bk_c (bk_o2V (frz_val _) (frz_val _) fun v_7 => (bk_ret (.same (.any (.any .nil)))))) (bk_ret (.same (.any (.any .nil))))))))))))) fun z_3 => by exact (bk_blV fun b_8 => (bk_ret (.same (.any (.any .nil))))))))))))))) fun b_1 => by exact (bk_ite (bk_sret (bk_c (bk_rt (.any (.any (.any .nil)))))) (bk_skip (bk_sif (bk_not (bk_bl (bk_cb (bk_cons (bk_lc (bk_it (bk_v (c := a_thing) 0 (bk_itX (frz_val _) fun ds_9 => (bk_lcM_V (Sw := [.dat a_thing, .any, .any]) (.same (.any (.any .nil))) ⟨.inl rfl, trivial⟩ (fun part_10 => (bk_tN (bk_part (v := fun (z_12 : (Dt)) => .val z_12) (S1 := fun (z_12 : (Dt)) => [.dat a_thing, .dat part_10, .any]) (bk_sub (bk_andV (bk_isi2 (bk_v (c := part_10) 1 (bk_is2V (frz_val _) fun b_13 => (bk_ite (bk_2 (bk_cb (bk_cons (bk_v (c := part_10) 1 (bk_nil (bk_cbV (frzL_cons (frz_val _) frzL_nil) fun v_14 => (bk_c (bk_o2V (frz_val _) (frz_val _) fun v_15 => (bk_ret (.same (.same (.any .nil)))))))))))) (bk_ret (.same (.same (.any .nil)))))))))) fun z_12 => by exact (bk_elV (.same (.any (.any .nil))))))) (fun ys_16 => (bk_nil (bk_cbV (frzL_cons (frz_lst ys_16) frzL_nil) fun v_17 => (bk_blV fun b_18 => (bk_ite (bk_sret (bk_c (bk_rt (.any (.any (.any .nil)))))) (bk_skip (bk_sif (bk_cmp (bk_cb (bk_cons (bk_lc (bk_it (bk_v (c := a_thing) 0 (bk_itX (frz_val _) fun ds_19 => (bk_lcM_V (Sw := [.dat a_thing, .any, .any]) (.same (.any (.any .nil))) ⟨.inl rfl, trivial⟩ (fun part_20 => (bk_tN (bk_cb (bk_cons (bk_v (c := part_20) 1 (bk_nil (bk_cbV (frzL_cons (frz_val _) frzL_nil) fun v_22 => (bk_elV (.same (.any (.any .nil))))))))))) (fun ys_23 => (bk_nil (bk_cbV (frzL_cons (frz_lst ys_23) frzL_nil) fun v_24 => (bk_c (bk_cmpV (frz_val _) (frz_val _) fun b_25 => (bk_ite (bk_sret (bk_c (bk_rt (.any (.any (.any .nil)))))) (bk_skip (bk_for (bk_it (bk_v (c := a_thing) 0 (bk_itX (frz_val _) fun ds_26 => (bk_lloopS (Sn := fun (s_28 : Unit) => [.dat a_thing, .any, .any]) (Qr := Qf (fun (b : (Dt)) => .val b) (fun (b : (Dt)) => [.any, .any, .any])) () (.same (.any (.any .nil))) (fun part_27 s_28 => (bk_tN (bk_last (bk_sif (bk_not (bk_bl (bk_cb (bk_cons (bk_lc (bk_it (bk_v (c := part_27) 1 (bk_itX (frz_val _) fun ds_29 => (bk_lcM_V (Sw := [.dat a_thing, .dat part_27, .any]) (.same (.same (.any .nil))) ⟨.inl rfl, trivial⟩ (fun row_30 => (bk_tN (bk_call (bk_ae (bk_v (c := row_30) 2 (bk_ae (bk_cb (bk_cons (bk_v (c := a_thing) 0 (bk_nil (bk_cbV (frzL_cons (frz_val _) frzL_nil) fun v_32 => (bk_an (bk_call0 (pf_is_row row_30 v_32) (fun _ => rfl) (fun _ => rfl) (.any (.any (.any .nil))) fun r_33 => (bk_elV (.same (.same (.any .nil))))))))))))))))) (fun ys_34 => (bk_nil (bk_cbV (frzL_cons (frz_lst ys_34) frzL_nil) fun v_35 => (bk_blV fun b_36 => (bk_ite (bk_sret (bk_c (bk_rtL (.any (.any (.any .nil)))))) (bk_skip (bk_nxL (.same (.any (.any .nil))))))))))))))))))))))) (fun _ _ _ h => h) (fun s_28 => (bk_last (bk_sret (bk_2 (bk_cb (bk_cons (bk_lc2 (bk_it (bk_v (c := a_thing) 0 (bk_itX (frz_val _) fun ds_37 => (bk_lc2M_V (Sw := [.dat a_thing, .any, .any]) (.same (.any (.any .nil))) ⟨.inl rfl, .inl rfl, trivial⟩ (fun part_38 => (bk_tN (bk_it (bk_v (c := part_38) 1 (bk_itX (frz_val _) fun ds_40 => (bk_lcIF (Sw1 := [.dat a_thing, .dat part_38, .any]) (.same (.same (.any .nil))) ⟨.inl rfl, trivial⟩ (fun row_39 => (bk_tN (bk_cmp (bk_2 (bk_v (c := row_39) 2 (bk_c (bk_o2V (frz_val _) (frz_val _) fun v_41 => (bk_c (bk_cmpV (frz_val _) (frz_val _) fun b_42 => (bk_ite (bk_v (c := row_39) 2 (bk_elV (.same (.same (.any .nil))))) (bk_elN (.same (.same (.any .nil)))))))))))))) (.same (.any (.any .nil))))))))) (fun ys_43 => (bk_nil (bk_cbV (frzL_cons (frz_lst ys_43) frzL_nil) fun v_44 => (bk_c (bk_o2V (frz_val _) (frz_val _) fun v_45 => (bk_rt (.any (.any (.any .nil)))))))))))))))))))))))))))))))))))))))))))))))))))))))))))))
def p_is_program (a_thing : Dt) : PM (Dt) :=
 pB (
 pB (pIs "tuple" a_thing) fun b_2 =>
 if (!b_2) = true then
 pR true
 else
 pB (pV (lenD [a_thing])) fun v_3 =>
 pB (pC neD v_3 (.int 4)) fun b_4 =>
 pR b_4) fun b_1 =>
 if b_1 = true then
 pR (.bool false)
 else
 pT4 a_thing fun parts_5 marks_6 entries_7 opens_8 =>
 pB (p_is_parts parts_5) fun r_9 =>
 pB (pO (bool? r_9)) fun b_10 =>
 if (!b_10) = true then
 pR (.bool false)
 else
 pB (pV (lenD [parts_5])) fun v_11 =>
 pB (
 pB (p_is_marks marks_6 v_11) fun r_13 =>
 pB (pO (bool? r_13)) fun b_14 =>
 if b_14 = true then
 pB (p_is_entries entries_7 v_11) fun r_15 =>
 pB (pO (bool? r_15)) fun b_16 =>
 if b_16 = true then
 pB (p_is_opens opens_8 v_11) fun r_17 =>
 pR r_17
 else
 pR (.bool false)
 else
 pR (.bool false)) fun z_12 =>
 pR z_12
theorem pf_is_program (a_thing : Dt) : FOk F_is_program [.val a_thing] (p_is_program a_thing) (fun (b : (Dt)) => .val b) (fun _ => []) 0 := by
 refine bk_fun (dd := d_is_program) (S := [.dat a_thing, .any, .any, .any, .any, .any]) (X := [.any, .any, .any, .any, .any, .any]) (So := (fun (b : (Dt)) => [.any, .any, .any, .any, .any, .any])) ?_ rfl (.cons (⟨_, rfl, frz_val _⟩) (.cons (trivial) (.cons (trivial) (.cons (trivial) (.cons (trivial) (.cons (trivial) .nil)))))) (fun _ _ _ => outs0) (fun _ _ => ⟨[], outs0, rfl⟩)
 unfold p_is_program
 exact (bk_sif (bk_part (v := fun (b_1 : (Bool)) => b_1) (S1 := fun (b_1 : (Bool)) => [.dat a_thing, .any, .any, .any, .any, .any]) (bk_sub (bk_or (bk_not (bk_isi2 (bk_v (c := a_thing) 0 (bk_is2V (frz_val _) fun b_2 => (bk_ite (bk_ret (.same (.any (.any (.any (.any (.any .nil))))))) (bk_cmp (bk_cb (bk_cons (bk_v (c := a_thing) 0 (bk_nil (bk_cbV (frzL_cons (frz_val _) frzL_nil) fun v_3 => (bk_c (bk_cmpV (frz_val _) (frz_val _) fun b_4 => (bk_ret (.same (.any (.any (.any (.any (.any .nil)))))))))))))))))))))) fun b_1 => by exact (bk_ite (bk_sret (bk_c (bk_rt (.any (.any (.any (.any (.any (.any .nil))))))))) (bk_skip (bk_asg (bk_v (c := a_thing) 0 (bk_asgX (frz_val _) (bk_t4 fun parts_5 marks_6 entries_7 opens_8 => (bk_tN (bk_tN (bk_tN (bk_tN (bk_sif (bk_not (bk_bl (bk_call (bk_ae (bk_v (c := parts_5) 1 (bk_an (bk_call0 (pf_is_parts parts_5) (fun _ => rfl) (fun _ => rfl) (.any (.any (.any (.any (.any (.any .nil)))))) fun r_9 => (bk_blV fun b_10 => (bk_ite (bk_sret (bk_c (bk_rt (.any (.any (.any (.any (.any (.any .nil))))))))) (bk_skip (bk_set (bk_cb (bk_cons (bk_v (c := parts_5) 1 (bk_nil (bk_cbV (frzL_cons (frz_val _) frzL_nil) fun v_11 => (bk_setX (frz_val _) (bk_S (T := [.dat a_thing, .dat parts_5, .dat marks_6, .dat entries_7, .dat opens_8, .dat v_11]) (bk_last (bk_sret (bk_part (v := fun (z_12 : (Dt)) => .val z_12) (S1 := fun (z_12 : (Dt)) => [.dat a_thing, .dat parts_5, .dat marks_6, .dat entries_7, .dat opens_8, .dat v_11]) (bk_sub (bk_andV (bk_bl (bk_call (bk_ae (bk_v (c := marks_6) 2 (bk_ae (bk_v (c := v_11) 5 (bk_an (bk_call0 (pf_is_marks marks_6 v_11) (fun _ => rfl) (fun _ => rfl) (.any (.any (.any (.any (.any (.any .nil)))))) fun r_13 => (bk_blV fun b_14 => (bk_ite (bk_andV (bk_bl (bk_call (bk_ae (bk_v (c := entries_7) 3 (bk_ae (bk_v (c := v_11) 5 (bk_an (bk_call0 (pf_is_entries entries_7 v_11) (fun _ => rfl) (fun _ => rfl) (.any (.any (.any (.any (.any (.any .nil)))))) fun r_15 => (bk_blV fun b_16 => (bk_ite (bk_call (bk_ae (bk_v (c := opens_8) 4 (bk_ae (bk_v (c := v_11) 5 (bk_an (bk_call0 (pf_is_opens opens_8 v_11) (fun _ => rfl) (fun _ => rfl) (.any (.any (.any (.any (.any (.any .nil)))))) fun r_17 => (bk_ret (.same (.same (.same (.same (.same (.same .nil)))))))))))))) (bk_ret (.same (.same (.same (.same (.same (.same .nil)))))))))))))))))) (bk_ret (.same (.same (.same (.same (.same (.same .nil))))))))))))))))))) fun z_12 => by exact (bk_rt (.any (.any (.any (.any (.any (.any .nil)))))))))))))))))))))))))))))))))))))))))
def p_need_program (a_program : Dt) : PM (Dt) :=
 pB (p_is_program a_program) fun r_1 =>
 pB (pO (bool? r_1)) fun b_2 =>
 if (!b_2) = true then
 none
 else
 pR .none
theorem pf_need_program (a_program : Dt) : FOk F_need_program [.val a_program] (p_need_program a_program) (fun (b : (Dt)) => .val b) (fun _ => []) 0 := by
 refine bk_fun (dd := d_need_program) (S := [.dat a_program]) (X := [.any]) (So := (fun (b : (Dt)) => [.any])) ?_ rfl (.cons (⟨_, rfl, frz_val _⟩) .nil) (fun _ _ _ => outs0) (fun _ _ => ⟨[], outs0, rfl⟩)
 unfold p_need_program
 exact (bk_last (bk_sif (bk_not (bk_bl (bk_call (bk_ae (bk_v (c := a_program) 0 (bk_an (bk_call0 (pf_is_program a_program) (fun _ => rfl) (fun _ => rfl) (.any .nil) fun r_1 => (bk_blV fun b_2 => (bk_ite Bk.none (bk_skip (bk_end (.any .nil))))))))))))))
def p_written_name (a_name : Dt) : PM (Dt) :=
 pB (pV (ixD a_name (.int 0))) fun v_2 =>
 pB (pFmt v_2) fun y_3 =>
 pB (pCat Str.empty y_3) fun t_1 =>
 pB (pCat t_1 ".") fun t_4 =>
 pB (pV (ixD a_name (.int 1))) fun v_6 =>
 pB (pFmt v_6) fun y_7 =>
 pB (pCat t_4 y_7) fun t_5 =>
 pR (.str t_5)
theorem pf_written_name (a_name : Dt) : FOk F_written_name [.val a_name] (p_written_name a_name) (fun (b : (Dt)) => .val b) (fun _ => []) 0 := by
 refine bk_fun (dd := d_written_name) (S := [.dat a_name]) (X := [.any]) (So := (fun (b : (Dt)) => [.any])) ?_ rfl (.cons (⟨_, rfl, frz_val _⟩) .nil) (fun _ _ _ => outs0) (fun _ _ => ⟨[], outs0, rfl⟩)
 unfold p_written_name
 exact (bk_last (bk_sret (bk_jd (bk_jsF (bk_2 (bk_v (c := a_name) 0 (bk_c (bk_o2V (frz_val _) (frz_val _) fun v_2 => (bk_jsFV fun t_1 => (bk_jsC fun t_4 => (bk_jsF (bk_2 (bk_v (c := a_name) 0 (bk_c (bk_o2V (frz_val _) (frz_val _) fun v_6 => (bk_jsFV fun t_5 => (bk_jsE (bk_rt (.any .nil)))))))))))))))))))
def p_written_names (a_names : Dt) : PM (Dt) :=
 pB (
 pB (pV (lenD [a_names])) fun v_2 =>
 pB (pC gtI v_2 (.int 0)) fun b_3 =>
 if b_3 = true then
 pB (pIt a_names) fun ds_4 =>
 pB (pMap ds_4 fun name_5 =>
 pB (p_written_name name_5) fun r_7 =>
 pR r_7) fun ys_8 =>
 pB (pV (joinD (.str ",") (.list ys_8))) fun v_9 =>
 pR v_9
 else
 pR (.str "-")) fun z_1 =>
 pR z_1
theorem pf_written_names (a_names : Dt) : FOk F_written_names [.val a_names] (p_written_names a_names) (fun (b : (Dt)) => .val b) (fun _ => []) 0 := by
 refine bk_fun (dd := d_written_names) (S := [.dat a_names, .any]) (X := [.any, .any]) (So := (fun (b : (Dt)) => [.any, .any])) ?_ rfl (.cons (⟨_, rfl, frz_val _⟩) (.cons (trivial) .nil)) (fun _ _ _ => outs0) (fun _ _ => ⟨[], outs0, rfl⟩)
 unfold p_written_names
 exact (bk_last (bk_sret (bk_part (v := fun (z_1 : (Dt)) => .val z_1) (S1 := fun (z_1 : (Dt)) => [.dat a_names, .any]) (bk_sub (bk_if (bk_cmp (bk_cb (bk_cons (bk_v (c := a_names) 0 (bk_nil (bk_cbV (frzL_cons (frz_val _) frzL_nil) fun v_2 => (bk_c (bk_cmpV (frz_val _) (frz_val _) fun b_3 => (bk_ite (bk_join (bk_lc (bk_it (bk_v (c := a_names) 0 (bk_itX (frz_val _) fun ds_4 => (bk_lcM_V (Sw := [.dat a_names, .any]) (.same (.any .nil)) ⟨.inl rfl, trivial⟩ (fun name_5 => (bk_tN (bk_call (bk_ae (bk_v (c := name_5) 1 (bk_an (bk_call0 (pf_written_name name_5) (fun _ => rfl) (fun _ => rfl) (.any (.any .nil)) fun r_7 => (bk_elV (.same (.any .nil)))))))))) (fun ys_8 => (bk_o1V (frz_lst ys_8) fun v_9 => (bk_ret (.same (.any .nil))))))))))) (bk_c (bk_ret (.same (.any .nil))))))))))))))) fun z_1 => by exact (bk_rt (.any (.any .nil))))))
def p_written_row (a_row : Dt) : PM (Dt) :=
 pS21 a_row fun word_1 rest_2 =>
 pB (pC eqD word_1 (.str "load")) fun b_3 =>
 if b_3 = true then
 pB (pCat Str.empty "load ") fun t_4 =>
 pB (pV (ixD rest_2 (.int 0))) fun v_6 =>
 pB (pFmt v_6) fun y_7 =>
 pB (pCat t_4 y_7) fun t_5 =>
 pR (.str t_5)
 else
 pB (pC eqD word_1 (.str "pass")) fun b_8 =>
 if b_8 = true then
 pB (pCat Str.empty "pass ") fun t_9 =>
 pB (pV (ixD rest_2 (.int 0))) fun v_11 =>
 pB (pFmt v_11) fun y_12 =>
 pB (pCat t_9 y_12) fun t_10 =>
 pB (pCat t_10 " ") fun t_13 =>
 pB (pV (ixD rest_2 (.int 1))) fun v_15 =>
 pB (pFmt v_15) fun y_16 =>
 pB (pCat t_13 y_16) fun t_14 =>
 pB (pCat t_14 ".") fun t_17 =>
 pB (pV (ixD rest_2 (.int 2))) fun v_19 =>
 pB (pFmt v_19) fun y_20 =>
 pB (pCat t_17 y_20) fun t_18 =>
 pR (.str t_18)
 else
 pB (pC eqD word_1 (.str "late")) fun b_21 =>
 if b_21 = true then
 pB (
 pB (pV (ixD rest_2 (.int 1))) fun v_23 =>
 pB (pC ltI v_23 (.int 0)) fun b_24 =>
 if b_24 = true then
 pR (.str "-")
 else
 pB (pV (ixD rest_2 (.int 1))) fun v_25 =>
 pB (pV (strcD [v_25])) fun v_26 =>
 pR v_26) fun z_22 =>
 pB (pCat Str.empty "late ") fun t_27 =>
 pB (pV (ixD rest_2 (.int 0))) fun v_29 =>
 pB (pFmt v_29) fun y_30 =>
 pB (pCat t_27 y_30) fun t_28 =>
 pB (pCat t_28 " ") fun t_31 =>
 pB (pFmt z_22) fun y_33 =>
 pB (pCat t_31 y_33) fun t_32 =>
 pB (pCat t_32 " ") fun t_34 =>
 pB (pV (ixD rest_2 (.int 2))) fun v_36 =>
 pB (p_written_names v_36) fun r_37 =>
 pB (pFmt r_37) fun y_38 =>
 pB (pCat t_34 y_38) fun t_35 =>
 pR (.str t_35)
 else
 pB (pC eqD word_1 (.str "out")) fun b_39 =>
 if b_39 = true then
 pR word_1
 else
 pB (
 pB (pNeg (.int 1)) fun v_41 =>
 pB (pV (ixD rest_2 v_41)) fun v_42 =>
 pB (pO (truD v_42)) fun b_43 =>
 if b_43 = true then
 pR (.str " !")
 else
 pR (.str "")) fun z_40 =>
 pB (pC eqD word_1 (.str "give")) fun b_44 =>
 if b_44 = true then
 pB (pCat Str.empty "give ") fun t_45 =>
 pB (pV (ixD rest_2 (.int 0))) fun v_47 =>
 pB (pFmt v_47) fun y_48 =>
 pB (pCat t_45 y_48) fun t_46 =>
 pB (pCat t_46 " ") fun t_49 =>
 pB (pV (ixD rest_2 (.int 1))) fun v_51 =>
 pB (p_written_names v_51) fun r_52 =>
 pB (pFmt r_52) fun y_53 =>
 pB (pCat t_49 y_53) fun t_50 =>
 pB (pFmt z_40) fun y_55 =>
 pB (pCat t_50 y_55) fun t_54 =>
 pR (.str t_54)
 else
 pB (pCat Str.empty "show ") fun t_56 =>
 pB (pV (ixD rest_2 (.int 0))) fun v_58 =>
 pB (p_written_names v_58) fun r_59 =>
 pB (pFmt r_59) fun y_60 =>
 pB (pCat t_56 y_60) fun t_57 =>
 pB (pFmt z_40) fun y_62 =>
 pB (pCat t_57 y_62) fun t_61 =>
 pR (.str t_61)
theorem pf_written_row (a_row : Dt) : FOk F_written_row [.val a_row] (p_written_row a_row) (fun (b : (Dt)) => .val b) (fun _ => []) 0 := by
 refine bk_fun (dd := d_written_row) (S := [.dat a_row, .any, .any, .any, .any]) (X := [.any, .any, .any, .any, .any]) (So := (fun (b : (Dt)) => [.any, .any, .any, .any, .any])) ?_ rfl (.cons (⟨_, rfl, frz_val _⟩) (.cons (trivial) (.cons (trivial) (.cons (trivial) (.cons (trivial) .nil))))) (fun _ _ _ => outs0) (fun _ _ => ⟨[], outs0, rfl⟩)
 unfold p_written_row
 exact (bk_asg (bk_v (c := a_row) 0 (bk_asgX (frz_val _) (bk_s21 fun word_1 rest_2 => (bk_tN (bk_tN (bk_sif (bk_cmp (bk_v (c := word_1) 1 (bk_c (bk_cmpV (frz_val _) (frz_val _) fun b_3 => (bk_ite (bk_sret (bk_jd (bk_jsC fun t_4 => (bk_jsF (bk_2 (bk_v (c := rest_2) 2 (bk_c (bk_o2V (frz_val _) (frz_val _) fun v_6 => (bk_jsFV fun t_5 => (bk_jsE (bk_rt (.any (.any (.any (.any (.any .nil)))))))))))))))) (bk_skip (bk_sif (bk_cmp (bk_v (c := word_1) 1 (bk_c (bk_cmpV (frz_val _) (frz_val _) fun b_8 => (bk_ite (bk_sret (bk_jd (bk_jsC fun t_9 => (bk_jsF (bk_2 (bk_v (c := rest_2) 2 (bk_c (bk_o2V (frz_val _) (frz_val _) fun v_11 => (bk_jsFV fun t_10 => (bk_jsC fun t_13 => (bk_jsF (bk_2 (bk_v (c := rest_2) 2 (bk_c (bk_o2V (frz_val _) (frz_val _) fun v_15 => (bk_jsFV fun t_14 => (bk_jsC fun t_17 => (bk_jsF (bk_2 (bk_v (c := rest_2) 2 (bk_c (bk_o2V (frz_val _) (frz_val _) fun v_19 => (bk_jsFV fun t_18 => (bk_jsE (bk_rt (.any (.any (.any (.any (.any .nil)))))))))))))))))))))))))))))) (bk_skip (bk_sif (bk_cmp (bk_v (c := word_1) 1 (bk_c (bk_cmpV (frz_val _) (frz_val _) fun b_21 => (bk_ite (bk_seq (bk_set (bk_F (bk_part (v := fun (z_22 : (Dt)) => .val z_22) (S1 := fun (z_22 : (Dt)) => [.dat a_row, .dat word_1, .dat rest_2, .any, .any]) (bk_sub (bk_if (bk_cmp (bk_2 (bk_v (c := rest_2) 2 (bk_c (bk_o2V (frz_val _) (frz_val _) fun v_23 => (bk_c (bk_cmpV (frz_val _) (frz_val _) fun b_24 => (bk_ite (bk_c (bk_ret (.same (.same (.same (.any (.any .nil))))))) (bk_cb (bk_cons (bk_2 (bk_v (c := rest_2) 2 (bk_c (bk_o2V (frz_val _) (frz_val _) fun v_25 => (bk_nil (bk_cbV (frzL_cons (frz_val _) frzL_nil) fun v_26 => (bk_ret (.same (.same (.same (.any (.any .nil)))))))))))))))))))))))) fun z_22 => by exact (bk_F' (frz_val _) (bk_setX (frz_val _) (bk_S (T := [.dat a_row, .dat word_1, .dat rest_2, .any, .dat z_22]) (bk_sret (bk_jd (bk_jsC fun t_27 => (bk_jsF (bk_2 (bk_v (c := rest_2) 2 (bk_c (bk_o2V (frz_val _) (frz_val _) fun v_29 => (bk_jsFV fun t_28 => (bk_jsC fun t_31 => (bk_jsF (bk_v (c := z_22) 4 (bk_jsFV fun t_32 => (bk_jsC fun t_34 => (bk_jsF (bk_call (bk_ae (bk_2 (bk_v (c := rest_2) 2 (bk_c (bk_o2V (frz_val _) (frz_val _) fun v_36 => (bk_an (bk_call0 (pf_written_names v_36) (fun _ => rfl) (fun _ => rfl) (.any (.any (.any (.any (.any .nil))))) fun r_37 => (bk_jsFV fun t_35 => (bk_jsE (bk_rt (.any (.any (.any (.any (.any .nil)))))))))))))))))))))))))))))))))))))) (bk_skip (bk_sif (bk_cmp (bk_v (c := word_1) 1 (bk_c (bk_cmpV (frz_val _) (frz_val _) fun b_39 => (bk_ite (bk_sret (bk_v (c := word_1) 1 (bk_rt (.any (.any (.any (.any (.any .nil)))))))) (bk_skip (bk_set (bk_F (bk_part (v := fun (z_40 : (Dt)) => .val z_40) (S1 := fun (z_40 : (Dt)) => [.dat a_row, .dat word_1, .dat rest_2, .any, .any]) (bk_sub (bk_if (bk_tru (bk_2 (bk_v (c := rest_2) 2 (bk_neg (bk_c (bk_negV fun v_41 => (bk_o2V (frz_val _) (frz_val _) fun v_42 => (bk_truV (frz_val _) fun b_43 => (bk_ite (bk_c (bk_ret (.same (.same (.same (.any (.any .nil))))))) (bk_c (bk_ret (.same (.same (.same (.any (.any .nil)))))))))))))))))) fun z_40 => by exact (bk_F' (frz_val _) (bk_setX (frz_val _) (bk_S (T := [.dat a_row, .dat word_1, .dat rest_2, .dat z_40, .any]) (bk_sif (bk_cmp (bk_v (c := word_1) 1 (bk_c (bk_cmpV (frz_val _) (frz_val _) fun b_44 => (bk_ite (bk_sret (bk_jd (bk_jsC fun t_45 => (bk_jsF (bk_2 (bk_v (c := rest_2) 2 (bk_c (bk_o2V (frz_val _) (frz_val _) fun v_47 => (bk_jsFV fun t_46 => (bk_jsC fun t_49 => (bk_jsF (bk_call (bk_ae (bk_2 (bk_v (c := rest_2) 2 (bk_c (bk_o2V (frz_val _) (frz_val _) fun v_51 => (bk_an (bk_call0 (pf_written_names v_51) (fun _ => rfl) (fun _ => rfl) (.any (.any (.any (.any (.any .nil))))) fun r_52 => (bk_jsFV fun t_50 => (bk_jsF (bk_v (c := z_40) 3 (bk_jsFV fun t_54 => (bk_jsE (bk_rt (.any (.any (.any (.any (.any .nil)))))))))))))))))))))))))))))) (bk_skip (bk_last (bk_sret (bk_jd (bk_jsC fun t_56 => (bk_jsF (bk_call (bk_ae (bk_2 (bk_v (c := rest_2) 2 (bk_c (bk_o2V (frz_val _) (frz_val _) fun v_58 => (bk_an (bk_call0 (pf_written_names v_58) (fun _ => rfl) (fun _ => rfl) (.any (.any (.any (.any (.any .nil))))) fun r_59 => (bk_jsFV fun t_57 => (bk_jsF (bk_v (c := z_40) 3 (bk_jsFV fun t_61 => (bk_jsE (bk_rt (.any (.any (.any (.any (.any .nil)))))))))))))))))))))))))))))))))))))))))))))))))))))))))))))))))))))))
def p_show_program (a_program : Dt) : PM (Dt) :=
 pB (p_need_program a_program) fun r_1 =>
 pT4 a_program fun parts_2 marks_3 entries_4 opens_5 =>
 pB (pIt entries_4) fun ds_6 =>
 pB (pMap ds_6 fun part_7 =>
 pB (pV (strcD [part_7])) fun v_9 =>
 pR v_9) fun ys_10 =>
 pB (pV (joinD (.str "") (.list ys_10))) fun v_11 =>
 pB (pV (addD (.str "entries ") v_11)) fun v_12 =>
 pB (p_written_names opens_5) fun r_13 =>
 pB (pV (addD (.str "open ") r_13)) fun v_14 =>
 pB (pZip parts_2 marks_3) fun ds_15 =>
 pB (pFor ds_15 [v_12, v_14] fun d_16 s_17 =>
 pT2 d_16 fun rows_18 mark_19 =>
 pB (
 pB (pO (truD mark_19)) fun b_21 =>
 if b_21 = true then
 pR (.str "part plain")
 else
 pR (.str "part")) fun z_20 =>
 pB (pApp s_17 z_20) fun lines_22 =>
 pB (pIt rows_18) fun ds_23 =>
 pB (pMap ds_23 fun row_24 =>
 pB (p_written_row row_24) fun r_26 =>
 pR r_26) fun ys_27 =>
 pB (pExt lines_22 ys_27) fun lines_28 =>
 pR lines_28) fun s_17 =>
 pB (pV (joinD (.str "\n") (.list s_17))) fun v_29 =>
 pR v_29
theorem pf_show_program (a_program : Dt) : FOk F_show_program [.val a_program] (p_show_program a_program) (fun (b : (Dt)) => .val b) (fun _ => []) 0 := by
 refine bk_fun (dd := d_show_program) (S := [.dat a_program, .any, .any, .any, .any, .any, .any, .any, .any, .any]) (X := [.any, .any, .any, .any, .any, .any, .any, .any, .any, .any]) (So := (fun (b : (Dt)) => [.any, .any, .any, .any, .any, .any, .any, .any, .any, .any])) ?_ rfl (.cons (⟨_, rfl, frz_val _⟩) (.cons (trivial) (.cons (trivial) (.cons (trivial) (.cons (trivial) (.cons (trivial) (.cons (trivial) (.cons (trivial) (.cons (trivial) (.cons (trivial) .nil)))))))))) (fun _ _ _ => outs0) (fun _ _ => ⟨[], outs0, rfl⟩)
 unfold p_show_program
 exact (bk_expr (bk_call (bk_ae (bk_v (c := a_program) 0 (bk_an (bk_call0 (pf_need_program a_program) (fun _ => rfl) (fun _ => rfl) (.any (.any (.any (.any (.any (.any (.any (.any (.any (.any .nil)))))))))) fun r_1 => (bk_asg (bk_v (c := a_program) 0 (bk_asgX (frz_val _) (bk_t4 fun parts_2 marks_3 entries_4 opens_5 => (bk_tN (bk_tN (bk_tN (bk_tN (bk_set (bk_lstF (bk_cons (bk_2 (bk_c (bk_join (bk_lc (bk_it (bk_v (c := entries_4) 3 (bk_itX (frz_val _) fun ds_6 => (bk_lcM_V (Sw := [.dat a_program, .dat parts_2, .dat marks_3, .dat entries_4, .dat opens_5, .any, .any, .any, .any, .any]) (.same (.same (.same (.same (.same (.any (.any (.any (.any (.any .nil)))))))))) ⟨.inl rfl, trivial⟩ (fun part_7 => (bk_tN (bk_cb (bk_cons (bk_v (c := part_7) 9 (bk_nil (bk_cbV (frzL_cons (frz_val _) frzL_nil) fun v_9 => (bk_elV (.same (.same (.same (.same (.same (.any (.any (.any (.any (.any .nil)))))))))))))))))) (fun ys_10 => (bk_o1V (frz_lst ys_10) fun v_11 => (bk_o2V (frz_val _) (frz_val _) fun v_12 => (bk_cons (bk_2 (bk_c (bk_call (bk_ae (bk_v (c := opens_5) 4 (bk_an (bk_call0 (pf_written_names opens_5) (fun _ => rfl) (fun _ => rfl) (.any (.any (.any (.any (.any (.any (.any (.any (.any (.any .nil)))))))))) fun r_13 => (bk_o2V (frz_val _) (frz_val _) fun v_14 => (bk_nil (bk_lstL (ds := [v_12, v_14]) (frzL_cons (frz_val _) (frzL_cons (frz_val _) frzL_nil)) rfl (bk_setO (ds := [v_12, v_14]) (bk_S (T := [.dat a_program, .dat parts_2, .dat marks_3, .dat entries_4, .dat opens_5, .own [v_12, v_14], .any, .any, .any, .any]) (bk_for (bk_zip (bk_v (c := parts_2) 1 (bk_v (c := marks_3) 2 (bk_zipX (frz_val _) (frz_val _) fun ds_15 => (bk_loopS (Sn := fun (s_17 : (List Dt)) => [.dat a_program, .dat parts_2, .dat marks_3, .dat entries_4, .dat opens_5, .own s_17, .any, .any, .any, .any]) [v_12, v_14] (.same (.same (.same (.same (.same (.same (.any (.any (.any (.any .nil)))))))))) (fun d_16 s_17 => (bk_t2 fun rows_18 mark_19 => (bk_tN (bk_tN (bk_expr (bk_app (ds := s_17) 5 (bk_part (v := fun (z_20 : (Dt)) => .val z_20) (S1 := fun (z_20 : (Dt)) => [.dat a_program, .dat parts_2, .dat marks_3, .dat entries_4, .dat opens_5, .own s_17, .dat rows_18, .dat mark_19, .any, .any]) (bk_sub (bk_if (bk_tru (bk_v (c := mark_19) 7 (bk_truV (frz_val _) fun b_21 => (bk_ite (bk_c (bk_ret (.same (.same (.same (.same (.same (.same (.same (.same (.any (.any .nil)))))))))))) (bk_c (bk_ret (.same (.same (.same (.same (.same (.same (.same (.same (.any (.any .nil)))))))))))))))))) fun z_20 => by exact (bk_appV (ds := s_17) 5 fun lines_22 => (bk_last (bk_expr (bk_ext (ds := lines_22) 5 (bk_lc (bk_it (bk_v (c := rows_18) 6 (bk_itX (frz_val _) fun ds_23 => (bk_lcM_V (Sw := [.dat a_program, .dat parts_2, .dat marks_3, .dat entries_4, .dat opens_5, .own lines_22, .dat rows_18, .dat mark_19, .any, .any]) (.same (.same (.same (.same (.same (.same (.same (.same (.any (.any .nil)))))))))) ⟨.inl rfl, trivial⟩ (fun row_24 => (bk_tN (bk_call (bk_ae (bk_v (c := row_24) 8 (bk_an (bk_call0 (pf_written_row row_24) (fun _ => rfl) (fun _ => rfl) (.any (.any (.any (.any (.any (.any (.any (.any (.any (.any .nil)))))))))) fun r_26 => (bk_elV (.same (.same (.same (.same (.same (.same (.same (.same (.any (.any .nil)))))))))))))))))) (fun ys_27 => (bk_extL (ds := lines_22) 5 fun lines_28 => (bk_nx (.same (.same (.same (.same (.same (.same (.any (.any (.any (.any .nil))))))))))))))))))))))))))))) (fun s_17 => (bk_last (bk_sret (bk_join (bk_vO (ds := s_17) 5 (bk_o1V (frz_val _) fun v_29 => (bk_rt (.any (.any (.any (.any (.any (.any (.any (.any (.any (.any .nil))))))))))))))))))))))))))))))))))))))))))))))))))))))))))))))))
def p_law (a_script : Dt) : PM (Dt) :=
 pB (p__law_pool a_script) fun r_1 =>
 pB (p__law_program r_1 (.int 4) (.int 12) (.int 2) (.int 3) (.int 4)) fun r_2 =>
 pB (p__law_program r_2.2 (.int 4) (.int 12) (.int 2) (.int 3) (.int 4)) fun r_3 =>
 pB (pIt (.list [r_2.1, r_3.1, r_2.1])) fun ds_4 =>
 pB (pForL (γ := (Dt)) ds_4 () fun one_5 s_6 =>
 pB (p_show_program one_5) fun r_7 =>
 pB (
 pB (pIs "str" r_7) fun b_9 =>
 if (!b_9) = true then
 pR true
 else
 pB (p__law_lines one_5) fun r_10 =>
 pB (pV (joinD (.str "\n") (.list r_10))) fun v_11 =>
 pB (pC neD r_7 v_11) fun b_12 =>
 pR b_12) fun b_8 =>
 if b_8 = true then
 pR (.rt (.bool false))
 else
 pR (.go ())) fun l_s_6 => pLp l_s_6 (fun s_6 =>
 pR (.bool true)) fun c => pR c
theorem pf_law (a_script : Dt) : FOk F_law [.val a_script] (p_law a_script) (fun (b : (Dt)) => .val b) (fun _ => []) 0 := by
 refine bk_fun (dd := d_law) (S := [.dat a_script, .any, .any, .any, .any, .any]) (X := [.any, .any, .any, .any, .any, .any]) (So := (fun (b : (Dt)) => [.any, .any, .any, .any, .any, .any])) ?_ rfl (.cons (⟨_, rfl, frz_val _⟩) (.cons (trivial) (.cons (trivial) (.cons (trivial) (.cons (trivial) (.cons (trivial) .nil)))))) (fun _ _ _ => outs0) (fun _ _ => ⟨[], outs0, rfl⟩)
 unfold p_law
 exact (bk_set (bk_call (bk_ae (bk_v (c := a_script) 0 (bk_an (bk_call0 (pf__law_pool a_script) (fun _ => rfl) (fun _ => rfl) (.any (.any (.any (.any (.any (.any .nil)))))) fun r_1 => (bk_setO (ds := r_1) (bk_S (T := [.dat a_script, .own r_1, .any, .any, .any, .any]) (bk_set (bk_F (bk_call (bk_ai (ds := r_1) (bk_ae (bk_c (bk_ae (bk_c (bk_ae (bk_c (bk_ae (bk_c (bk_ae (bk_c (bk_an (bk_call1 (i := 1) (ds := r_1) (pf__law_program r_1 (.int 4) (.int 12) (.int 2) (.int 3) (.int 4)) (fun env h => by simp [takeSa, h]) (fun _ _ => rfl) (.any (.any (.any (.any (.any (.any .nil)))))) fun r_2 => (bk_F' (frz_val _) (bk_setX (frz_val _) (bk_S (T := [.dat a_script, .own r_2.2, .dat r_2.1, .any, .any, .any]) (bk_set (bk_F (bk_call (bk_ai (ds := r_2.2) (bk_ae (bk_c (bk_ae (bk_c (bk_ae (bk_c (bk_ae (bk_c (bk_ae (bk_c (bk_an (bk_call1 (i := 1) (ds := r_2.2) (pf__law_program r_2.2 (.int 4) (.int 12) (.int 2) (.int 3) (.int 4)) (fun env h => by simp [takeSa, h]) (fun _ _ => rfl) (.any (.any (.any (.any (.any (.any .nil)))))) fun r_3 => (bk_F' (frz_val _) (bk_setX (frz_val _) (bk_S (T := [.dat a_script, .own r_3.2, .dat r_2.1, .dat r_3.1, .any, .any]) (bk_for (bk_it (bk_lstF (bk_cons (bk_v (c := r_2.1) 2 (bk_cons (bk_v (c := r_3.1) 3 (bk_cons (bk_v (c := r_2.1) 2 (bk_nil (bk_lstL (ds := [r_2.1, r_3.1, r_2.1]) (frzL_cons (frz_val _) (frzL_cons (frz_val _) (frzL_cons (frz_val _) frzL_nil))) rfl (bk_itX (frz_lst [r_2.1, r_3.1, r_2.1]) fun ds_4 => (bk_lloopS (Sn := fun (s_6 : Unit) => [.dat a_script, .own r_3.2, .dat r_2.1, .dat r_3.1, .any, .any]) (Qr := Qf (fun (b : (Dt)) => .val b) (fun (b : (Dt)) => [.any, .any, .any, .any, .any, .any])) () (.same (.same (.same (.same (.any (.any .nil)))))) (fun one_5 s_6 => (bk_tN (bk_set (bk_F (bk_call (bk_ae (bk_v (c := one_5) 4 (bk_an (bk_call0 (pf_show_program one_5) (fun _ => rfl) (fun _ => rfl) (.any (.any (.any (.any (.any (.any .nil)))))) fun r_7 => (bk_F' (frz_val _) (bk_setX (frz_val _) (bk_S (T := [.dat a_script, .own r_3.2, .dat r_2.1, .dat r_3.1, .dat one_5, .dat r_7]) (bk_last (bk_sif (bk_part (v := fun (b_8 : (Bool)) => b_8) (S1 := fun (b_8 : (Bool)) => [.dat a_script, .own r_3.2, .dat r_2.1, .dat r_3.1, .dat one_5, .dat r_7]) (bk_sub (bk_or (bk_not (bk_isi2 (bk_v (c := r_7) 5 (bk_is2V (frz_val _) fun b_9 => (bk_ite (bk_ret (.same (.same (.same (.same (.same (.same .nil))))))) (bk_cmp (bk_v (c := r_7) 5 (bk_join (bk_call (bk_ae (bk_v (c := one_5) 4 (bk_an (bk_call0 (pf__law_lines one_5) (fun _ => rfl) (fun _ => rfl) (.any (.any (.any (.any (.any (.any .nil)))))) fun r_10 => (bk_o1V (frz_lst r_10) fun v_11 => (bk_cmpV (frz_val _) (frz_val _) fun b_12 => (bk_ret (.same (.same (.same (.same (.same (.same .nil)))))))))))))))))))))))) fun b_8 => by exact (bk_ite (bk_sret (bk_c (bk_rtL (.any (.any (.any (.any (.any (.any .nil))))))))) (bk_skip (bk_nxL (.same (.same (.same (.same (.any (.any .nil)))))))))))))))))))))))) (fun _ _ _ h => h) (fun s_6 => (bk_last (bk_sret (bk_c (bk_rt (.any (.any (.any (.any (.any (.any .nil))))))))))))))))))))))))))))))))))))))))))))))))))))))))))))))))))))))
end G

/-! the second kind of drawn programs: draws from a pool -/
namespace DL
open PySem PySem.Spec L2
theorem pIxL_nat {ds : List Dt} {n : Nat} (h : n < ds.length) : pIxL ds (.int n) = pR ds[n] := by rw [pIxL_i, atI_nat h]; rfl
theorem pSetIx_nat {ds : List Dt} {n : Nat} (h : n < ds.length) (d : Dt) : pSetIx ds (.int n) d = pR (ds.set n d) := by
  rw [pSetIx_i]
  have e : ixN ds.length (n : Int) = some n := by unfold ixN; simp [h]
  rw [e]
  rfl
end DL
namespace G
open PySem PySem.Spec L2 DL
section
variable {β : Type} {Q : β → Prop}
def pool (k : Nat) (ns : List Int) : List Dt := .int k :: ns.map .int
def PoolOk (n : Nat) (s : List Dt) : Prop := ∃ k ns, s = pool k ns ∧ k ≤ n ∧ 0 < ns.length
theorem PoolOk.mono {n m : Nat} {s : List Dt} (h : PoolOk n s) (l : n ≤ m) : PoolOk m s := by
  obtain ⟨k, ns, e, h1, h2⟩ := h
  exact ⟨k, ns, e, by omega, h2⟩
theorem pow18 : pV (powI (.int 10) (.int 18)) = pR (.int 1000000000000000000) := by
  have h : powC 10 18 = true := by decide +kernel
  simp [gI, h]
theorem pow3 {k : Nat} (h : k ≤ 1000000) : pV (powI (.int ((k : Int) + 11)) (.int 3)) = pR (.int (((k : Int) + 11) ^ 3)) := by
  have hb := intBits_le_64 (k := (k : Int) + 11) (by omega) (by omega)
  have hc : powC ((k : Int) + 11) 3 = true := by
    unfold powC
    have h1 : (2 : Int) ≤ k + 11 := by omega
    have h2 : ¬ (((Builtin.Int.intBits ((k : Int) + 11) : Nat) : Int) * 3 > (bitsLine : Nat)) := by
      have : (bitsLine : Nat) = 134217728 := by decide
      rw [this]
      omega
    simp only [h1, Builtin.Int.intTooBig, h2, decide_true, decide_false, Bool.not_false, Bool.and_true]
    decide
  simp [gI, hc]
theorem prime_ok {r : Nat} (h : r < 5) : ∃ p : Int, 0 < p ∧ pV (ixD (.list [(.int 999979), (.int 999961), (.int 999953), (.int 999931), (.int 999917)]) (.int r)) = pR (.int p) := by
  have : r = 0 ∨ r = 1 ∨ r = 2 ∨ r = 3 ∨ r = 4 := by omega
  rcases this with rfl | rfl | rfl | rfl | rfl
  · exact ⟨999979, by decide, rfl⟩
  · exact ⟨999961, by decide, rfl⟩
  · exact ⟨999953, by decide, rfl⟩
  · exact ⟨999931, by decide, rfl⟩
  · exact ⟨999917, by decide, rfl⟩
theorem pdraw_ok {n : Nat} {s : List Dt} {L : Int} (hs : PoolOk n s) (hn : n ≤ 900000) (h0 : 0 < L) (h1 : L < 1073741824) : ∃ (d : Nat) (s' : List Dt), p__law_draw s (.int L) = pR (.int d, s') ∧ (d : Int) < L ∧ PoolOk (n + 1) s' := by
  obtain ⟨k, ns, rfl, hk, hl⟩ := hs
  have ml : ∀ z : Int, ∃ d : Nat, z % L = d ∧ (d : Int) < L := fun z => ⟨(z % L).toNat, by have := Int.emod_nonneg z (show L ≠ 0 by omega); omega, by have := Int.emod_nonneg z (show L ≠ 0 by omega); have := Int.emod_lt_of_pos z h0; omega⟩
  have hmod := fun z => pV_mod z L h0
  have hdiv := fun z => pV_div z L h0 h1
  unfold p__law_draw pool
  have e0 : pIxL (PyData.int (k : Int) :: ns.map .int) (.int 0) = pR (.int k) := pIxL_nat (n := 0) (by simp)
  have el : ((((PyData.int ((k : Int) + 1) :: ns.map .int).length : Nat) : Int) - 1) = (ns.length : Nat) := by simp
  have hml : k % ns.length < ns.length := Nat.mod_lt _ hl
  have em : pV (modI (.int (k : Int)) (.int (ns.length : Nat))) = pR (.int ((k % ns.length : Nat) : Int)) := by
    rw [pV_mod _ _ (by omega)]
    rfl
  have e1 : (1 : Int) + ((k % ns.length : Nat) : Int) = ((k % ns.length + 1 : Nat) : Int) := by omega
  generalize hm : k % ns.length = m at hml em e1
  have hix : pIxL (PyData.int ((k : Int) + 1) :: ns.map .int) (.int ((m + 1 : Nat) : Int)) = pR (.int ns[m]) := by
    rw [pIxL_nat (by simpa using hml)]
    simp
  simp only [e0, pB_R, pV_addi, pSetIx_0, pV_inti, pV_sub, el, em, e1, hix, pow18, pC_ge]
  by_cases hc : (1000000000000000000 : Int) ≤ ns[m]
  · obtain ⟨d, ed, hd⟩ := ml ns[m]
    simp only [hc, decide_true, if_true, hdiv, pB_R, hmod, ed]
    rw [pSetIx_nat (by simpa using hml), pB_R]
    refine ⟨d, _, rfl, hd, k + 1, ns.set m (ns[m] / L), ?_, by omega, by simpa using hl⟩
    simp [pool, List.map_set]
  · simp only [hc, decide_false, Bool.false_eq_true, if_false, pV_mod _ (1000003 : Int) (by decide), pB_R, pV_addi]
    have n1 := Int.emod_nonneg ns[m] (show (1000003 : Int) ≠ 0 by decide)
    have n2 := Int.emod_lt_of_pos ns[m] (show (0 : Int) < 1000003 by decide)
    generalize hz : ns[m] % 1000003 + 5 = z
    have z1 : 0 ≤ z := by omega
    have z2 : z ≤ 1000007 := by omega
    have k1 : (0 : Int) ≤ k := by omega
    have k2 : (k : Int) ≤ 900000 := by omega
    generalize hkk : (k : Int) = kk at k1 k2
    have b1 : z * z ≤ 1000007 * 1000007 := Int.mul_le_mul z2 z2 z1 (by decide)
    have b1' : 0 ≤ z * z := Int.mul_nonneg z1 z1
    have b2 : z * z * (kk + 7) ≤ 1000007 * 1000007 * 900007 := Int.mul_le_mul b1 (by omega) (by omega) (by decide)
    have b2' : 0 ≤ z * z * (kk + 7) := Int.mul_nonneg b1' (by omega)
    have b3 : kk * kk ≤ 900000 * 900000 := Int.mul_le_mul k2 k2 k1 (by decide)
    have b3' : 0 ≤ kk * kk := Int.mul_nonneg k1 k1
    have b4 : z * (kk * kk + 13) ≤ 1000007 * (900000 * 900000 + 13) := Int.mul_le_mul z2 (by omega) (by omega) (by decide)
    have b4' : 0 ≤ z * (kk * kk + 13) := Int.mul_nonneg z1 (by omega)
    have b5 : (kk + 11) * (kk + 11) ≤ 900011 * 900011 := Int.mul_le_mul (by omega) (by omega) (by omega) (by decide)
    have b5' : 0 ≤ (kk + 11) * (kk + 11) := Int.mul_nonneg (by omega) (by omega)
    have e3 : (kk + 11) ^ 3 = (kk + 11) * (kk + 11) * (kk + 11) := by rw [Int.pow_succ, Int.pow_succ, Int.pow_succ, Int.pow_zero, Int.one_mul]
    have b6 : (kk + 11) ^ 3 ≤ 900011 * 900011 * 900011 := by rw [e3]; exact Int.mul_le_mul b5 (by omega) (by omega) (by decide)
    have b6' : 0 ≤ (kk + 11) ^ 3 := by rw [e3]; exact Int.mul_nonneg b5' (by omega)
    have c1 : mulC z z = true := by simp [mulC]; omega
    have c2 : mulC (z * z) (kk + 7) = true := by simp [mulC]; omega
    have c3 : mulC kk kk = true := by simp [mulC]; omega
    have c4 : mulC z (kk * kk + 13) = true := by simp [mulC]; omega
    have p3 : pV (powI (.int (kk + 11)) (.int 3)) = pR (.int ((kk + 11) ^ 3)) := by rw [← hkk]; exact pow3 (by omega)
    have c5 : mulC (z * z * (kk + 7) + z * (kk * kk + 13) + (kk + 11) ^ 3) (z * z * (kk + 7) + z * (kk * kk + 13) + (kk + 11) ^ 3) = true := by
      generalize z * z * (kk + 7) = u1 at b2 b2'
      generalize z * (kk * kk + 13) = u2 at b4 b4'
      generalize (kk + 11) ^ 3 = u3 at b6 b6'
      simp [mulC]
      omega
    obtain ⟨p, hp, ep⟩ := prime_ok (r := k % 5) (Nat.mod_lt _ (by decide))
    have e5 : pV (modI (.int kk) (.int 5)) = pR (.int ((k % 5 : Nat) : Int)) := by
      rw [pV_mod _ _ (by decide), ← hkk]
      rfl
    simp only [pV_mul _ _ c1, pV_mul _ _ c2, pV_mul _ _ c3, pV_mul _ _ c4, pV_mul _ _ c5, pB_R, pV_addi, p3, pV_inti, e5, ep, pV_div _ (1009 : Int) (by decide) (by decide), pV_mod _ p hp, hmod]
    obtain ⟨d, ed, hd⟩ := ml ((z * z * (kk + 7) + z * (kk * kk + 13) + (kk + 11) ^ 3) * (z * z * (kk + 7) + z * (kk * kk + 13) + (kk + 11) ^ 3) / 1009 % p)
    rw [ed]
    refine ⟨d, _, rfl, hd, k + 1, ns, ?_, by omega, hl⟩
    simp [pool, ← hkk]
theorem wp_draw {n : Nat} {s : List Dt} {L : Int} {k : Dt × List Dt → PM β} (hs : PoolOk n s) (hn : n ≤ 900000) (h0 : 0 < L) (h1 : L < 1073741824) (h : ∀ (d : Nat) s', (d : Int) < L → PoolOk (n + 1) s' → Wp (k (.int d, s')) Q) : Wp (pB (p__law_draw s (.int L)) k) Q := by
  obtain ⟨d, s', e, hd, hs'⟩ := pdraw_ok hs hn h0 h1
  rw [e]
  exact h d s' hd hs'
theorem pool_ok (ns : List Int) (hl : ns.length ≤ 63) : ∃ s, p__law_pool (.list (ns.map .int)) = pR s ∧ PoolOk 0 s := by
  unfold p__law_pool
  have e1 : pMap (ns.map PyData.int) (fun cell_2 => pB (pV (intD [cell_2])) fun v_4 => pR v_4) = pR (ns.map .int) := by
    rw [pMap_ok id (fun d hd => by
      obtain ⟨i, _, rfl⟩ := List.mem_map.mp hd
      rfl) (by simp; omega), List.map_id]
  have e3 : ∀ b : Bool, pV (intD [.bool b]) = pR (.int (if b = true then 1 else 0)) := fun b => rfl
  simp only [pIt_l, pB_R, e1]
  rw [pF_addl _ _ (by simp; omega), pB_R, pV_lenl, pB_R, pV_eqi, pB_R, eqv_ii, e3, pB_R]
  by_cases h : ns = []
  · subst h
    exact ⟨pool 0 [0], rfl, 0, [0], rfl, Nat.le_refl _, by decide⟩
  · have hp : 0 < ns.length := List.length_pos_iff.mpr h
    have h2 : ¬ (((ns.map PyData.int).length : Nat) : Int) = 0 := by simp; exact h
    have er : pRepL [.int 0] (.int 0) = pR [] := rfl
    simp only [h2, decide_false, Bool.false_eq_true, if_false, er, pB_R]
    rw [pL_addl _ _ (by simp; omega), pB_R]
    exact ⟨_, rfl, 0, ns, by simp [pool], Nat.le_refl _, hp⟩
end
end G

/-! the second kind of drawn programs: needs, rows, words -/
namespace DL
open PySem PySem.Spec L2
abbrev Wd := Str × Str
def WDS : List Str := ["load", "give", "pass", "show", "late", "out"]
theorem wds_cases {w : Str} (h : w ∈ WDS) : w = "load" ∨ w = "give" ∨ w = "pass" ∨ w = "show" ∨ w = "late" ∨ w = "out" := by simpa [WDS] using h
def wdE (x : Wd) : Dt := .tuple [.str x.1, .str x.2]
def WdOk (x : Wd) : Prop := x.1 ∈ WDS ∧ x.2 ∈ nm
def rowW (l : List Wd) : Dt := .list (l.map wdE)
def wOut (l : List Wd) : Nat := (l.filter fun x : Wd => x.1 == ("out" : Str)).length
def wOuts (ls : List (List Wd)) : Nat := (ls.map wOut).sum
theorem wOut_snoc (ls : List Wd) (l : Wd) : wOut (ls ++ [l]) = wOut ls + if (l.1 == ("out" : Str)) = true then 1 else 0 := by
  unfold wOut
  rw [List.filter_append, List.length_append]
  by_cases h : (l.1 == ("out" : Str)) = true <;> simp [h]
theorem wOuts_snoc (ls : List (List Wd)) (l : List Wd) : wOuts (ls ++ [l]) = wOuts ls + wOut l := by simp [wOuts]
theorem nOut_snoc (ls : List PRow) (l : PRow) : nOut (ls ++ [l]) = nOut ls + if l.isOut = true then 1 else 0 := by
  unfold nOut
  rw [List.filter_append, List.length_append]
  by_cases h : l.isOut = true <;> simp [h]
theorem sum_set {α : Type} (g : α → Nat) : ∀ (ls : List α) (a : Nat) (h : a < ls.length) (r : α), ((ls.set a r).map g).sum + g ls[a] = (ls.map g).sum + g r
  | [], _, h, _ => by cases h
  | l :: ls, 0, _, r => by simp; omega
  | l :: ls, a + 1, h, r => by
    have := sum_set g ls a (by simpa using h) r
    simp at this ⊢
    omega
theorem in3 (w : Str) : pC inD (.str w) (.list [(.str "give"), (.str "pass"), (.str "late")]) = pR ((("give" : Str) == w) || ((("pass" : Str) == w) || (("late" : Str) == w))) := by
  have : lowD (.list [(.str "give"), (.str "pass"), (.str "late")]) (.str w) = true := lowD_r (by simp)
  simp [pC, inD, this, oB, bl?]
theorem pC_neN (ds : List Dt) : pC neD (.list ds) (.list []) = pR (!ds.isEmpty) := by
  rw [pC_ne (.inr (by simp [PyData.depth, PyData.depthAll])), eqv_ll]
  cases ds <;> simp
theorem pC_eqN (ds : List Dt) : pC eqD (.list ds) (.list []) = pR ds.isEmpty := by
  rw [pC_eq (.inr (by simp [PyData.depth, PyData.depthAll])), eqv_ll]
  cases ds <;> simp
end DL
namespace G
open PySem PySem.Spec L2 DL
section
variable {β : Type} {Q : β → Prop}
theorem abcd_ok {k : Nat} (h : (k : Int) < 4) : ∃ s ∈ nm, pV (ixD (.str "abcd") (.int k)) = pR (.str s) := by
  have : k = 0 ∨ k = 1 ∨ k = 2 ∨ k = 3 := by omega
  rcases this with rfl | rfl | rfl | rfl
  · exact ⟨"a", by decide, rfl⟩
  · exact ⟨"b", by decide, rfl⟩
  · exact ⟨"c", by decide, rfl⟩
  · exact ⟨"d", by decide, rfl⟩
theorem wp_need {n : Nat} {s : List Dt} {c : Nat} {gs : List Nd} {k : Dt × List Dt → PM β} (hs : PoolOk n s) (hn : n ≤ 800000) (hg : NdsOk c gs) (hl : gs.length < 1000000) (c0 : 0 < c) (c4 : c ≤ 4) (h : ∀ x s', NdOk c x → PoolOk (n + 3) s' → Wp (k (nd x, s')) Q) : Wp (pB (p__law_need s (.int c) (.list (gs.map nd))) k) Q := by
  refine Wp.bind ?_
  unfold p__law_need
  have fresh : ∀ m s, m ≤ n + 1 → PoolOk m s → Wp (pB (p__law_draw s (.int c)) fun r_9 => pB (p__law_draw r_9.2 (.int 4)) fun r_10 => pB (pV (ixD (.str "abcd") r_10.1)) fun v_11 => pR ((PyData.tuple [r_9.1, v_11]), r_10.2)) fun a => Wp (k a) Q := fun m s hm hs => by
    refine wp_draw hs (by omega) (by omega) (by omega) fun p s1 hp hs1 => ?_
    refine wp_draw hs1 (by omega) (by decide) (by decide) fun j s2 hj hs2 => ?_
    obtain ⟨z, hz, ez⟩ := abcd_ok hj
    simp only [ez, pB_R]
    exact .ret (h (p, z) s2 ⟨by simpa using hp, hz⟩ (hs2.mono (by omega)))
  rw [pC_neN]
  by_cases lp : 0 < gs.length
  · have : (gs.map nd).isEmpty = false := by cases gs <;> simp_all
    simp only [this, Bool.not_false, pB_R, if_true, pB_B]
    refine wp_draw hs (by omega) (by decide) (by decide) fun j s1 hj hs1 => ?_
    simp only [pC_gt, pB_R, pV_lenl, List.length_map]
    refine .ite (fun _ => ?_) fun _ => fresh _ s1 (by omega) hs1
    refine wp_draw hs1 (by omega) (by omega) (by omega) fun j s2 hj hs2 => ?_
    rw [pV_ixl (by simp; omega), pB_R]
    simp only [List.getElem_map]
    exact .ret (h _ _ (hg _ (List.getElem_mem _)) (hs2.mono (by omega)))
  · have : (gs.map nd).isEmpty = true := by cases gs <;> simp_all
    simp only [this, Bool.not_true, pB_R, Bool.false_eq_true, if_false]
    exact fresh _ s (by omega) hs
theorem wp_needs {n : Nat} {s : List Dt} {c : Nat} {most : Int} {gs : List Nd} {k : Dt × List Dt → PM β} (hs : PoolOk n s) (hn : n ≤ 700000) (hg : NdsOk c gs) (hl : gs.length < 1000000) (c0 : 0 < c) (c4 : c ≤ 4) (m0 : 0 ≤ most) (m2 : most ≤ 2) (h : ∀ ns s', NdsOk c ns → (ns.length : Int) ≤ most → PoolOk (n + 7) s' → Wp (k (.tuple (ns.map nd), s')) Q) : Wp (pB (p__law_needs s (.int c) (.list (gs.map nd)) (.int most)) k) Q := by
  refine Wp.bind ?_
  unfold p__law_needs
  simp only [pV_addi, pB_R]
  refine wp_draw hs (by omega) (by omega) (by omega) fun m s1 hm hs1 => ?_
  simp only
  rw [pRng1_ok m (by omega), pB_R]
  refine Wp.mapS (fun done ys s => ys.length = done.length ∧ PoolOk (n + 1 + 3 * done.length) s ∧ ∃ ns, ys = ns.map nd ∧ NdsOk c ns) ⟨rfl, hs1, [], rfl, fun _ hx => by cases hx⟩ (fun done d rest ys s hd ⟨hy, hs, ns, en, hn'⟩ => ?_) (fun ys s ⟨hy, _⟩ => by rw [hy, rng_len]; omega) fun ys s ⟨hy, hs, ns, en, hn'⟩ => ?_
  · have hdl : done.length < m := by
      have := congrArg List.length hd
      simp only [rng_len, List.length_append, List.length_cons] at this
      omega
    refine wp_need hs (by omega) hg hl c0 c4 fun x s2 hx hs2 => .ret ⟨by simp [hy], hs2.mono (by simp; omega), ns ++ [x], by simp [en], fun y hy => ?_⟩
    rcases List.mem_append.mp hy with hy | hy
    · exact hn' y hy
    · rw [List.mem_singleton.mp hy]; exact hx
  · subst en
    simp only [pV_tupl, pB_R]
    rw [rng_len] at hy hs
    exact .ret (h ns s hn' (by rw [List.length_map] at hy; omega) (hs.mono (by omega)))
theorem wp_row {n : Nat} {s : List Dt} {c : Nat} {gs : List Nd} {x : Wd} {k : Dt × List Dt → PM β} (hs : PoolOk n s) (hn : n ≤ 600000) (hx : WdOk x) (hg : NdsOk c gs) (hl : gs.length < 1000000) (c0 : 0 < c) (c4 : c ≤ 4) (h : ∀ (r : PRow) s', r.Ok c → r.isOut = (x.1 == ("out" : Str)) → PoolOk (n + 10) s' → Wp (k (r.enc, s')) Q) : Wp (pB (p__law_row s (.str x.1) (.str x.2) (.int c) (.list (gs.map nd))) k) Q := by
  refine Wp.bind ?_
  obtain ⟨w, nm'⟩ := x
  obtain ⟨hw, hnm⟩ := hx
  simp only at hw hnm h ⊢
  unfold p__law_row
  rcases wds_cases hw with rfl | rfl | rfl | rfl | rfl | rfl
  · simp only [pC_eqs, eqv_ss, pB_R, w_load_load, if_true]
    refine wp_draw hs (by omega) (by omega) (by omega) fun p s1 hp hs1 => .ret (h (.load p) s1 (show p < c by omega) rfl (hs1.mono (by omega)))
  · simp only [pC_eqs, eqv_ss, pB_R, w_give_load, w_give_give, Bool.false_eq_true, if_false, if_true]
    refine wp_needs hs (by omega) hg hl c0 c4 (by decide) (by decide) fun ns s1 hns hl1 hs1 => ?_
    refine wp_draw hs1 (by omega) (by decide) (by decide) fun d s2 hd hs2 => ?_
    simp only [pV_eqi, eqv_ii, pB_R]
    exact .ret (h (.give nm' ns _) s2 ⟨hnm, hns, by omega⟩ rfl (hs2.mono (by omega)))
  · simp only [pC_eqs, eqv_ss, pB_R, w_pass_load, w_pass_give, w_pass_pass, Bool.false_eq_true, if_false, if_true]
    refine wp_need hs (by omega) hg hl c0 c4 fun y s1 hy hs1 => ?_
    obtain ⟨p, o⟩ := y
    simp only [nd_mk]
    rw [pV_addt _ _ (by simp), pB_R]
    exact .ret (h (.pass nm' p o) s1 ⟨hnm, hy.1, hy.2⟩ rfl (hs1.mono (by omega)))
  · simp only [pC_eqs, eqv_ss, pB_R, w_show_load, w_show_give, w_show_pass, w_show_show, Bool.false_eq_true, if_false, if_true]
    refine wp_needs hs (by omega) hg hl c0 c4 (by decide) (by decide) fun ns s1 hns hl1 hs1 => ?_
    refine wp_draw hs1 (by omega) (by decide) (by decide) fun d s2 hd hs2 => ?_
    simp only [pV_eqi, eqv_ii, pB_R]
    exact .ret (h (.shw ns _) s2 ⟨hns, by omega⟩ rfl (hs2.mono (by omega)))
  · simp only [pC_eqs, eqv_ss, pB_R, w_late_load, w_late_give, w_late_pass, w_late_show, w_late_late, Bool.false_eq_true, if_false, if_true, pV_addi]
    refine wp_draw hs (by omega) (by omega) (by omega) fun d s1 hd hs1 => ?_
    simp only [pV_sub, pB_R]
    refine wp_needs hs1 (by omega) hg hl c0 c4 (by decide) (by decide) fun ns s2 hns hl1 hs2 => ?_
    exact .ret (h (.late nm' _ ns) s2 ⟨hnm, by omega, by omega, hns, by omega⟩ rfl (hs2.mono (by omega)))
  · simp only [pC_eqs, eqv_ss, pB_R, w_out_load, w_out_give, w_out_pass, w_out_show, w_out_late, Bool.false_eq_true, if_false, if_true]
    exact .ret (h .out s trivial rfl (hs.mono (by omega)))
theorem wp_subset {α : Type} {f : α → Dt} {n : Nat} {s : List Dt} {items : List α} {most : Nat} {k : List Dt × List Dt → PM β} (hs : PoolOk n s) (hl : items.length ≤ 1000) (hn : n ≤ 800000) (h : ∀ (l : List α) s', l.Sublist items → l.length ≤ most → PoolOk (n + items.length) s' → Wp (k (l.map f, s')) Q) : Wp (pB (p__law_subset s (.list (items.map f)) (.int most)) k) Q := by
  refine Wp.bind ?_
  unfold p__law_subset
  rw [pIt_l, pB_R]
  refine Wp.for (fun done rest st => ∃ ld lr l : List α, done = ld.map f ∧ rest = lr.map f ∧ items = ld ++ lr ∧ st.1 = l.map f ∧ l.Sublist ld ∧ l.length ≤ most ∧ PoolOk (n + ld.length) st.2) ⟨[], items, [], rfl, rfl, rfl, rfl, .slnil, Nat.zero_le _, hs⟩ (fun done d rest st hd ⟨ld, lr, l, e1, e2, e3, e4, hsub, hm, hs⟩ => ?_) fun st ⟨ld, lr, l, e1, e2, e3, e4, hsub, hm, hs⟩ => ?_
  · obtain ⟨l0, s0⟩ := st
    simp only at e4 hs
    subst e4
    cases lr with
    | nil => cases e2
    | cons x lr =>
      rw [List.map_cons, List.cons.injEq] at e2
      obtain ⟨rfl, rfl⟩ := e2
      have hdl : ld.length < 1000 := by
        have := congrArg List.length e3
        simp at this
        omega
      have hll := hsub.length_le
      have keep : ∀ s2, PoolOk (n + ld.length + 1) s2 → ∃ ld' lr' l' : List α, ld.map f ++ [f x] = ld'.map f ∧ lr.map f = lr'.map f ∧ items = ld' ++ lr' ∧ l.map f = l'.map f ∧ l'.Sublist ld' ∧ l'.length ≤ most ∧ PoolOk (n + ld'.length) s2 := fun s2 h2 => ⟨ld ++ [x], lr, l, by simp, rfl, by rw [e3]; simp, rfl, hsub.trans (List.sublist_append_left _ _), hm, h2.mono (by simp; omega)⟩
      subst e1
      simp only [pC_lt, pB_R, List.length_map]
      by_cases hlt : (l.length : Int) < (most : Nat)
      · simp only [hlt, decide_true, if_true, pB_B]
        refine wp_draw hs (by omega) (by decide) (by decide) fun j s2 hj hs2 => ?_
        simp only [pC_eqi, eqv_ii, pB_R]
        refine .ite (fun _ => ?_) fun _ => .ret (keep s2 hs2)
        rw [pApp_ok (by simp; omega), pB_R]
        exact .ret ⟨ld ++ [x], lr, l ++ [x], by simp, rfl, by rw [e3]; simp, by simp, hsub.append (List.Sublist.refl _), by simp; omega, hs2.mono (by simp; omega)⟩
      · simp only [hlt, decide_false, Bool.false_eq_true, if_false, pB_R]
        exact .ret (keep s0 (hs.mono (by omega)))
  · obtain ⟨l0, s0⟩ := st
    simp only at e4 hs
    subst e4
    have : lr = [] := by cases lr with
      | nil => rfl
      | cons _ _ => cases e2
    subst this
    rw [List.append_nil] at e3
    subst e3
    exact .ret (h l s0 hsub hm hs)
end
end G

/-! which objects are programs: what the looks return for any data -/
namespace DL
open PySem PySem.Spec L2
mutual
/-- data without dicts, no list longer than an unpacking lets it be -/
def ndD : Dt → Bool
  | .dict _ => false
  | .list xs => decide (xs.length ≤ 16384) && ndDs xs
  | .tuple xs => decide (xs.length ≤ 16384) && ndDs xs
  | _ => true
def ndDs : List Dt → Bool
  | [] => true
  | x :: xs => ndD x && ndDs xs
end
theorem ndDs_mem : ∀ {xs : List Dt}, ndDs xs = true → ∀ x ∈ xs, ndD x = true
  | [], _, _, h => by cases h
  | y :: ys, e, x, h => by
    rw [ndDs, Bool.and_eq_true] at e
    rcases List.mem_cons.mp h with rfl | h
    · exact e.1
    · exact ndDs_mem e.2 x h
theorem ndD_t {xs : List Dt} (h : ndD (.tuple xs) = true) : ∀ x ∈ xs, ndD x = true := by
  rw [ndD, Bool.and_eq_true] at h
  exact ndDs_mem h.2
theorem ndD_len {xs : List Dt} (h : ndD (.tuple xs) = true) : xs.length ≤ 16384 := by
  rw [ndD, Bool.and_eq_true] at h
  exact of_decide_eq_true h.1
theorem ndDs_of : ∀ {xs : List Dt}, (∀ x ∈ xs, ndD x = true) → ndDs xs = true
  | [], _ => by rw [ndDs]
  | y :: ys, h => by
    rw [ndDs, h y List.mem_cons_self, ndDs_of fun x hx => h x (List.mem_cons_of_mem _ hx)]
    rfl
theorem ndD_t' {xs : List Dt} (h : ∀ x ∈ xs, ndD x = true) (hl : xs.length ≤ 16384) : ndD (.tuple xs) = true := by rw [ndD, ndDs_of h, decide_eq_true hl]; rfl
theorem ndD_l' {xs : List Dt} (h : ∀ x ∈ xs, ndD x = true) (hl : xs.length ≤ 16384) : ndD (.list xs) = true := by rw [ndD, ndDs_of h, decide_eq_true hl]; rfl
@[simp] theorem ndD_i (i : Int) : ndD (.int i) = true := by simp [ndD]
@[simp] theorem ndD_s (i : Str) : ndD (.str i) = true := by simp [ndD]
@[simp] theorem ndD_b (i : Bool) : ndD (.bool i) = true := by simp [ndD]
@[simp] theorem ndD_n : ndD .none = true := by simp [ndD]
def isNum (c : Int) : Dt → Bool
  | .int i => decide (0 ≤ i) && decide (i < c)
  | _ => false
def isName : Dt → Bool
  | .str s => decide (s ∈ nm)
  | _ => false
def isFlag : Dt → Bool
  | .bool _ => true
  | _ => false
def isNamed (c : Int) : Dt → Bool
  | .tuple [a, b] => isNum c a && isName b
  | _ => false
def isNeeds (c most : Int) : Dt → Bool
  | .tuple ds => decide ((ds.length : Int) ≤ most) && ds.all (isNamed c)
  | _ => false
def isLate (c : Int) : Dt → Dt → Dt → Bool
  | n, .int p, ns => isName n && (decide (-1 ≤ p) && decide (p < c)) && isNeeds c 2 ns
  | _, _, _ => false
def isRowW (c : Int) (w : Str) (rest : List Dt) : Bool :=
  if (w == "load") = true then match rest with
    | [a] => isNum c a
    | _ => false
  else if (w == "give") = true then match rest with
    | [n, ns, r] => isName n && (isNeeds c 1 ns && isFlag r)
    | _ => false
  else if (w == "pass") = true then match rest with
    | [n, p, o] => isName n && (isNum c p && isName o)
    | _ => false
  else if (w == "show") = true then match rest with
    | [ns, r] => isNeeds c 2 ns && isFlag r
    | _ => false
  else if (w == "late") = true then match rest with
    | [n, p, ns] => isLate c n p ns
    | _ => false
  else w == "out" && rest.isEmpty
def isRow (c : Int) : Dt → Bool
  | .tuple (.str w :: rest) => isRowW c w rest
  | _ => false
def isOutD : Dt → Bool
  | .tuple (.str w :: _) => w == "out"
  | _ => false
def rwsOf : Dt → List Dt
  | .tuple rs => rs
  | _ => []
def isPart : Dt → Bool
  | .tuple rs => decide (rs.length ≤ 5)
  | _ => false
def isParts : Dt → Bool
  | .tuple ps => (decide (1 ≤ ps.length) && decide (ps.length ≤ 4)) && (ps.all isPart && (decide ((ps.map fun p => (rwsOf p).length).sum ≤ 12) && (ps.all (fun p => (rwsOf p).all (isRow ps.length)) && decide (((ps.flatMap rwsOf).filter isOutD).length ≤ 2))))
  | _ => false
def isMarks (c : Int) : Dt → Bool
  | .tuple ds => decide ((ds.length : Int) = c) && ds.all isFlag
  | _ => false
def ascD : List Dt → Bool
  | a :: b :: r => PySem.W.dataLt a b && ascD (b :: r)
  | _ => true
def isEntries (c : Int) : Dt → Bool
  | .tuple ds => (decide (1 ≤ ds.length) && decide (ds.length ≤ 3)) && (ds.all (isNum c) && ascD ds)
  | _ => false
def isOpens (c : Int) : Dt → Bool
  | .tuple ds => decide (ds.length ≤ 4) && (ds.all (isNamed c) && ascD ds)
  | _ => false
def nParts : Dt → Nat
  | .tuple ps => ps.length
  | _ => 0
def isProg : Dt → Bool
  | .tuple [ps, ms, es, os] => isParts ps && (isMarks (nParts ps) ms && (isEntries (nParts ps) es && isOpens (nParts ps) os))
  | _ => false
/-- all of a list of truths -/
theorem blsD_map : ∀ bs : List Bool, blsD (bs.map .bool) = some bs
  | [] => rfl
  | b :: bs => by rw [List.map_cons, blsD, blsD_map bs]; rfl
theorem pV_all (bs : List Bool) : pV (allD [.list (bs.map .bool)]) = pR (.bool (bs.all id)) := by simp [allD, listArg, blsD_map]
theorem pV_any (bs : List Bool) : pV (anyD [.list (bs.map .bool)]) = pR (.bool (bs.any id)) := by simp [anyD, listArg, blsD_map]
theorem pV_sum (ns : List Int) : pV (sumD [.list (ns.map .int)]) = pR (.int ns.sum) := by simp [sumD, listArg, intsD_map]
theorem pMap_b {ds : List Dt} {f : Dt → PM Dt} (h : Dt → Bool) (hd : ∀ d ∈ ds, f d = pR (.bool (h d))) (hz : ds.length ≤ 16777216) : pMap ds f = pR ((ds.map h).map .bool) := by
  rw [pMap_ok (fun d => .bool (h d)) hd hz, List.map_map]
  rfl
theorem all_map_id {α : Type} (f : α → Bool) (l : List α) : (l.map f).all id = l.all f := by simp [List.all_map]
/-- all([f(x) for x in ds]) -/
theorem pAll_b {β : Type} {ds : List Dt} {f : Dt → PM Dt} {k : Dt → PM β} (h : Dt → Bool) (hd : ∀ d ∈ ds, f d = pR (.bool (h d))) (hz : ds.length ≤ 16777216) : (pB (pMap ds f) fun ys => pB (pV (allD [.list ys])) k) = k (.bool (ds.all h)) := by
  rw [pMap_b h hd hz, pB_R, pV_all, pB_R, all_map_id]
end DL
namespace G
open PySem PySem.Spec L2 DL
theorem is_integer_eq {d : Dt} (hd : ndD d = true) : p_is_integer d = pR (.bool (match d with
  | .int _ => true
  | _ => false)) := by
  unfold p_is_integer
  cases d <;> first | (simp [ndD] at hd; done) | simp
theorem is_number_eq {d : Dt} (c : Int) (hd : ndD d = true) : p_is_number d (.int c) = pR (.bool (isNum c d)) := by
  unfold p_is_number
  rw [is_integer_eq hd]
  cases d <;> simp [isNum]
  rename_i i
  by_cases h : 0 ≤ i <;> simp [h]
theorem c_names : c_NAMES = .tuple [.str "a", .str "b", .str "c", .str "d"] := rfl
theorem in_names (s : Str) : pV (inD (.str s) c_NAMES) = pR (.bool (decide (s ∈ nm))) := by
  have : lowD c_NAMES (.str s) = true := lowD_r (by simp)
  rw [c_names] at this ⊢
  simp only [inD, this, if_true, pV_oB]
  congr 2
  simp [nm, PyData.eqv]
  by_cases h1 : s = "a"
  · subst h1; decide
  by_cases h2 : s = "b"
  · subst h2; decide
  by_cases h3 : s = "c"
  · subst h3; decide
  by_cases h4 : s = "d"
  · subst h4; decide
  simp [h1, h2, h3, h4, eq_comm (b := s)]
theorem is_name_eq {d : Dt} (hd : ndD d = true) : p_is_name d = pR (.bool (isName d)) := by
  unfold p_is_name
  cases d <;> first | (simp [ndD] at hd; done) | simp [isName, in_names]
theorem is_flag_eq {d : Dt} : p_is_flag d = pR (.bool (isFlag d)) := by
  unfold p_is_flag
  cases d with
  | bool b => cases b <;> simp [isFlag, pC, isBD, isB, oB, bl?, pV]
  | _ => simp [isFlag, pC, isBD, isB, oB, bl?, pV]
theorem is_named_eq {d : Dt} (c : Int) (hd : ndD d = true) : p_is_named d (.int c) = pR (.bool (isNamed c d)) := by
  unfold p_is_named
  cases d with
  | tuple ds =>
    have hm := ndD_t hd
    match ds with
    | [] => simp [isNamed]
    | [a] => simp [isNamed]
    | [a, b] =>
      have e1 := is_number_eq c (hm a (by simp))
      have e2 := is_name_eq (hm b (by simp))
      simp [isNamed, e1, e2]
      cases isNum c a <;> simp
    | a :: b :: e :: r =>
      have : ¬ ((r.length : Int) + 1 + 1 + 1 = 2) := by omega
      simp [isNamed, this]
  | dict _ => simp [ndD] at hd
  | _ => simp [isNamed]
theorem is_needs_eq {d : Dt} (c most : Int) (hm : most ≤ 1000) (hd : ndD d = true) : p_is_needs d (.int c) (.int most) = pR (.bool (isNeeds c most d)) := by
  unfold p_is_needs
  cases d with
  | tuple ds =>
    simp only [pIs_tuple_tuple, pB_R, if_true, pV_lent, pC_le]
    by_cases h : (ds.length : Int) ≤ most
    · simp only [h, decide_true, if_true, pIt_t, pB_R]
      have := pAll_b (k := fun v => pR v) (ds := ds) (f := fun need_6 => pB (p_is_named need_6 (.int c)) fun r_8 => pR r_8) (isNamed c) (fun d hdm => by rw [is_named_eq c (ndD_t hd d hdm)]; rfl) (by omega)
      rw [this, pB_R]
      simp [isNeeds, h]
    · simp [isNeeds, h]
  | dict _ => simp [ndD] at hd
  | _ => simp [isNeeds]
end G

namespace G
open PySem PySem.Spec L2 DL
theorem isLate_i (c : Int) (n ns : Dt) (p : Int) : isLate c n (.int p) ns = (isName n && (decide (-1 ≤ p) && decide (p < c)) && isNeeds c 2 ns) := rfl
theorem is_late_eq {n p ns : Dt} (c : Int) (h1 : ndD n = true) (h2 : ndD p = true) (h3 : ndD ns = true) :
    (pB (pB (p_is_name n) fun r_53 => pB (pO (bool? r_53)) fun b_54 => if (!b_54) = true then pR true else pB (p_is_integer p) fun r_56 => pB (pO (bool? r_56)) fun b_57 => pR (!b_57)) fun b_49 =>
      if b_49 = true then pR (PyData.bool false) else
      pB (pB (pB (pV (leI (.int (-1)) p)) fun v_62 => pB (pO (bool? v_62)) fun c_63 => if c_63 = true then pB (pV (ltI p (.int c))) fun v_64 => pR v_64 else pR (PyData.bool false)) fun z_59 => pB (pO (bool? z_59)) fun b_65 => if b_65 = true then pB (p_is_needs ns (.int c) (.int 2)) fun r_67 => pR r_67 else pR (PyData.bool false)) fun z_58 => pR z_58) = pR (.bool (isLate c n p ns)) := by
  rw [is_name_eq h1, is_integer_eq h2, is_needs_eq c 2 (by decide) h3]
  cases p with
  | int i =>
    rw [isLate_i]
    generalize isName n = N
    generalize isNeeds c 2 ns = M
    by_cases a : -1 ≤ i
    · by_cases b : i < c <;> cases N <;> cases M <;> simp [a, b]
    · cases N <;> cases M <;> simp [a]
  | _ =>
    unfold isLate
    generalize isName n = N
    cases N <;> simp
theorem is_row_eq {d : Dt} (c : Int) (hd : ndD d = true) : p_is_row d (.int c) = pR (.bool (isRow c d)) := by
  unfold p_is_row
  cases d with
  | tuple ds =>
    have hm := ndD_t hd
    match ds with
    | [] => simp [isRow]
    | w :: rest =>
      have hlr : rest.length + 1 ≤ 16384 := ndD_len hd
      have h0 : ¬ ((rest.length : Int) + 1 = 0) := by omega
      cases w with
      | str w =>
        have h0' : ¬ (((PyData.str w :: rest).length : Int) = 0) := by rw [List.length_cons]; omega
        simp only [pIs_tuple_tuple, pB_R, Bool.not_true, Bool.false_eq_true, if_false, pV_lent, pC_eqi, eqv_ii, h0', decide_false, pV_ix0, pIs_str_str, pS21_t _ _ _ hlr, pC_eqs, eqv_ss, isRow]
        have hr : ∀ x ∈ rest, ndD x = true := fun x hx => hm x (List.mem_cons_of_mem _ hx)
        unfold isRowW
        by_cases e1 : w = "load"
        · subst e1
          simp only [w_load_load, w_give_load, w_give_give, w_pass_load, w_pass_give, w_pass_pass, w_show_load, w_show_give, w_show_pass, w_show_show, w_late_load, w_late_give, w_late_pass, w_late_show, w_late_late, w_out_load, w_out_give, w_out_pass, w_out_show, w_out_late, w_out_out, Bool.false_eq_true, if_false, if_true]
          match rest, hr with
          | [], _ => simp
          | [a], hr => simp [is_number_eq c (hr a (by simp))]
          | a :: b :: r, _ =>
            have : ¬ ((r.length : Int) + 1 + 1 = 1) := by omega
            simp [this]
        have b1 : (w == ("load" : Str)) = false := beq_eq_false_iff_ne.mpr e1
        simp only [b1, Bool.false_eq_true, if_false]
        by_cases e2 : w = "give"
        · subst e2
          simp only [w_load_load, w_give_load, w_give_give, w_pass_load, w_pass_give, w_pass_pass, w_show_load, w_show_give, w_show_pass, w_show_show, w_late_load, w_late_give, w_late_pass, w_late_show, w_late_late, w_out_load, w_out_give, w_out_pass, w_out_show, w_out_late, w_out_out, Bool.false_eq_true, if_false, if_true]
          match rest, hr with
          | [], _ => simp
          | [a], _ => simp
          | [a, b], _ => simp
          | [n, ns, r], hr =>
            simp [is_name_eq (hr n (by simp)), is_needs_eq c 1 (by decide) (hr ns (by simp)), is_flag_eq]
            cases isName n <;> cases isNeeds c 1 ns <;> simp
          | a :: b :: e :: f :: r, _ =>
            have : ¬ ((r.length : Int) + 1 + 1 + 1 + 1 = 3) := by omega
            simp [this]
        have b2 : (w == ("give" : Str)) = false := beq_eq_false_iff_ne.mpr e2
        simp only [b2, Bool.false_eq_true, if_false]
        by_cases e3 : w = "pass"
        · subst e3
          simp only [w_load_load, w_give_load, w_give_give, w_pass_load, w_pass_give, w_pass_pass, w_show_load, w_show_give, w_show_pass, w_show_show, w_late_load, w_late_give, w_late_pass, w_late_show, w_late_late, w_out_load, w_out_give, w_out_pass, w_out_show, w_out_late, w_out_out, Bool.false_eq_true, if_false, if_true]
          match rest, hr with
          | [], _ => simp
          | [a], _ => simp
          | [a, b], _ => simp
          | [n, q, o], hr =>
            simp [is_name_eq (hr n (by simp)), is_number_eq c (hr q (by simp)), is_name_eq (hr o (by simp))]
            cases isName n <;> cases isNum c q <;> simp
          | a :: b :: e :: f :: r, _ =>
            have : ¬ ((r.length : Int) + 1 + 1 + 1 + 1 = 3) := by omega
            simp [this]
        have b3 : (w == ("pass" : Str)) = false := beq_eq_false_iff_ne.mpr e3
        simp only [b3, Bool.false_eq_true, if_false]
        by_cases e4 : w = "show"
        · subst e4
          simp only [w_load_load, w_give_load, w_give_give, w_pass_load, w_pass_give, w_pass_pass, w_show_load, w_show_give, w_show_pass, w_show_show, w_late_load, w_late_give, w_late_pass, w_late_show, w_late_late, w_out_load, w_out_give, w_out_pass, w_out_show, w_out_late, w_out_out, Bool.false_eq_true, if_false, if_true]
          match rest, hr with
          | [], _ => simp
          | [a], _ => simp
          | [ns, r], hr =>
            simp [is_needs_eq c 2 (by decide) (hr ns (by simp)), is_flag_eq]
            cases isNeeds c 2 ns <;> simp
          | a :: b :: e :: r, _ =>
            have : ¬ ((r.length : Int) + 1 + 1 + 1 = 2) := by omega
            simp [this]
        have b4 : (w == ("show" : Str)) = false := beq_eq_false_iff_ne.mpr e4
        simp only [b4, Bool.false_eq_true, if_false]
        by_cases e5 : w = "late"
        · subst e5
          simp only [w_load_load, w_give_load, w_give_give, w_pass_load, w_pass_give, w_pass_pass, w_show_load, w_show_give, w_show_pass, w_show_show, w_late_load, w_late_give, w_late_pass, w_late_show, w_late_late, w_out_load, w_out_give, w_out_pass, w_out_show, w_out_late, w_out_out, Bool.false_eq_true, if_false, if_true]
          match rest, hr with
          | [], _ => simp
          | [a], _ => simp
          | [a, b], _ => simp
          | [n, q, ns], hr =>
            have := is_late_eq c (hr n (by simp)) (hr q (by simp)) (hr ns (by simp))
            simp only [pB_B] at this
            simpa using this
          | a :: b :: e :: f :: r, _ =>
            have : ¬ ((r.length : Int) + 1 + 1 + 1 + 1 = 3) := by omega
            simp [this]
        have b5 : (w == ("late" : Str)) = false := beq_eq_false_iff_ne.mpr e5
        simp only [b5, Bool.false_eq_true, if_false]
        by_cases e6 : w = "out"
        · subst e6
          simp only [w_load_load, w_give_load, w_give_give, w_pass_load, w_pass_give, w_pass_pass, w_show_load, w_show_give, w_show_pass, w_show_show, w_late_load, w_late_give, w_late_pass, w_late_show, w_late_late, w_out_load, w_out_give, w_out_pass, w_out_show, w_out_late, w_out_out, Bool.false_eq_true, if_false, if_true]
          cases rest with
          | nil => simp
          | cons a r =>
            have : ¬ ((r.length : Int) + 1 = 0) := by omega
            simp [this]
        · have b6 : (w == ("out" : Str)) = false := beq_eq_false_iff_ne.mpr e6
          simp [b6, e6]
      | dict _ => have := hm _ List.mem_cons_self; simp [ndD] at this
      | _ => simp [h0, isRow]
  | dict _ => simp [ndD] at hd
  | _ => simp [isRow]
theorem is_marks_eq {d : Dt} (c : Int) (hc : c ≤ 1000) (hd : ndD d = true) : p_is_marks d (.int c) = pR (.bool (isMarks c d)) := by
  unfold p_is_marks
  cases d with
  | tuple ds =>
    simp only [pIs_tuple_tuple, pB_R, if_true, pV_lent, pC_eqi, eqv_ii]
    by_cases h : (ds.length : Int) = c
    · simp only [h, decide_true, if_true, pIt_t, pB_R]
      have := pAll_b (k := fun v => pR v) (ds := ds) (f := fun need_6 => pB (p_is_flag need_6) fun r_8 => pR r_8) isFlag (fun d hdm => by rw [is_flag_eq]; rfl) (by omega)
      rw [this, pB_R]
      simp [isMarks, h]
    · simp [isMarks, h]
  | dict _ => simp [ndD] at hd
  | _ => simp [isMarks]
/-! order -/
def gtD (a b : Dt) : Bool := PySem.W.alike a b && !isNo a && lowD a b
theorem ltD_ok {a b : Dt} (h : gtD a b = true) : pV (ltD a b) = pR (.bool (PySem.W.dataLt a b)) := by
  unfold gtD at h
  unfold ltD
  rw [if_pos h]
  rfl
theorem asc_range : ∀ ds : List Dt, ascD ds = ((List.range (ds.length - 1)).map fun k => PySem.W.dataLt (ds.getD k .none) (ds.getD (k + 1) .none)).all id
  | [] => rfl
  | [_] => rfl
  | a :: b :: r => by
    have ih := asc_range (b :: r)
    rw [ascD, ih]
    simp only [List.length_cons, Nat.add_sub_cancel]
    rw [List.range_succ_eq_map]
    simp only [List.map_cons, List.all_cons, List.map_map]
    rfl
theorem is_ascending_eq {ds : List Dt} (hl : ds.length ≤ 100000) (h : ∀ x ∈ ds, ∀ y ∈ ds, gtD x y = true) : p_is_ascending (.tuple ds) = pR (.bool (ascD ds)) := by
  unfold p_is_ascending
  simp only [pV_lent, pB_R, pV_sub]
  rw [pRng1_I (by omega) (by omega), pB_R]
  have e1 : ((ds.length : Int) - 1).toNat = ds.length - 1 := by omega
  have := pAll_b (k := fun v => pR v) (ds := rngD 0 (ds.length - 1)) (f := fun k_4 => pB (pV (ixD (.tuple ds) k_4)) fun v_6 => pB (pV (addD k_4 (.int 1))) fun v_7 => pB (pV (ixD (.tuple ds) v_7)) fun v_8 => pB (pV (ltD v_6 v_8)) fun v_9 => pR v_9)
    (fun k => match k with
      | .int i => PySem.W.dataLt (ds.getD i.toNat .none) (ds.getD (i.toNat + 1) .none)
      | _ => false) (fun d hd => by
    obtain ⟨j, rfl, hj⟩ := rng_mem hd
    have h0 : j < ds.length := by omega
    have h1 : j + 1 < ds.length := by omega
    have i1 := pV_ixt h1
    rw [Int.natCast_add] at i1
    simp only [pV_ixt h0, pB_R, pV_addi]
    have i1' : pV (ixD (.tuple ds) (.int ((j : Int) + 1))) = pR ds[j + 1] := i1
    rw [i1', pB_R, ltD_ok (h _ (List.getElem_mem h0) _ (List.getElem_mem h1)), pB_R]
    simp [h0, h1]) (by rw [rng_len]; omega)
  rw [e1]
  refine this.trans ?_
  rw [asc_range, rng_map]
  congr 2
  rw [List.all_map, List.all_map]
  rfl
theorem gtD_int (a b : Int) : gtD (.int a) (.int b) = true := by simp [gtD, PySem.W.alike, isNo, lowD]
theorem gtD_nd (a b : Nd) : gtD (nd a) (nd b) = true := by
  have h := lowD_l (x := nd a) (y := nd b) (by have := dep_nd a; omega)
  unfold gtD
  rw [alike_nd, h]
  rfl
theorem isNum_int {c : Int} {d : Dt} (h : isNum c d = true) : ∃ n : Nat, d = .int n ∧ (n : Int) < c := by
  cases d with
  | int i =>
    simp [isNum] at h
    exact ⟨i.toNat, by congr 1; omega, by omega⟩
  | _ => simp [isNum] at h
theorem isNamed_nd {c : Int} {d : Dt} (h : isNamed c d = true) : ∃ x : Nd, d = nd x ∧ (x.1 : Int) < c ∧ x.2 ∈ nm := by
  unfold isNamed at h
  split at h
  · rename_i a b
    rw [Bool.and_eq_true] at h
    obtain ⟨n, rfl, hn⟩ := isNum_int h.1
    cases b with
    | str s =>
      have h2 := h.2
      simp [isName] at h2
      exact ⟨(n, s), rfl, hn, h2⟩
    | _ => have h2 := h.2; simp [isName] at h2
  · cases h
theorem is_entries_eq {d : Dt} (c : Int) (hd : ndD d = true) : p_is_entries d (.int c) = pR (.bool (isEntries c d)) := by
  unfold p_is_entries
  cases d with
  | tuple ds =>
    have hm := ndD_t hd
    have cM : c_MOST_ENTRIES = .int 3 := rfl
    simp only [pIs_tuple_tuple, pB_R, Bool.not_true, Bool.false_eq_true, if_false, pV_lent, pV_le, cM, bool?_bb]
    by_cases h1 : (1 : Int) ≤ ds.length
    · have h1' : 1 ≤ ds.length := by omega
      by_cases h3 : (ds.length : Int) ≤ 3
      · have h3' : ds.length ≤ 3 := by omega
        have := pAll_b (k := fun v_15 => pB (pO (bool? v_15)) fun b_16 => if b_16 = true then pB (p_is_ascending (.tuple ds)) fun r_17 => pR r_17 else pR (.bool false)) (ds := ds) (f := fun part_11 => pB (p_is_number part_11 (.int c)) fun r_13 => pR r_13) (isNum c) (fun d hdm => by rw [is_number_eq c (hm d hdm)]; rfl) (by omega)
        simp only [h1, h3, decide_true, if_true, pB_R, bool?_bb, Bool.not_true, Bool.false_eq_true, if_false, pIt_t, this]
        cases e : ds.all (isNum c) with
        | true =>
          have ha := is_ascending_eq (ds := ds) (by omega) fun x hx y hy => by
            obtain ⟨i, rfl, _⟩ := isNum_int (List.all_eq_true.mp e x hx)
            obtain ⟨j, rfl, _⟩ := isNum_int (List.all_eq_true.mp e y hy)
            exact gtD_int _ _
          simp [ha, isEntries, h1', h3', e]
        | false => simp [isEntries, e]
      · have h3' : ¬ ds.length ≤ 3 := by omega
        simp [h1, h3, isEntries, h1', h3']
    · have h1' : ¬ 1 ≤ ds.length := by omega
      simp [h1, isEntries, h1']
  | dict _ => simp [ndD] at hd
  | _ => simp [isEntries]
theorem is_opens_eq {d : Dt} (c : Int) (hd : ndD d = true) : p_is_opens d (.int c) = pR (.bool (isOpens c d)) := by
  unfold p_is_opens
  cases d with
  | tuple ds =>
    have hm := ndD_t hd
    have cM : c_MOST_OPENS = .int 4 := rfl
    simp only [pIs_tuple_tuple, pB_R, Bool.not_true, Bool.false_eq_true, if_false, pV_lent, pC_gt, cM]
    by_cases h4 : (4 : Int) < ds.length
    · have h4' : ¬ ds.length ≤ 4 := by omega
      simp [h4, isOpens, h4']
    · have h4' : ds.length ≤ 4 := by omega
      have := pAll_b (k := fun v_15 => pB (pO (bool? v_15)) fun b_16 => if b_16 = true then pB (p_is_ascending (.tuple ds)) fun r_17 => pR r_17 else pR (.bool false)) (ds := ds) (f := fun part_11 => pB (p_is_named part_11 (.int c)) fun r_13 => pR r_13) (isNamed c) (fun d hdm => by rw [is_named_eq c (hm d hdm)]; rfl) (by omega)
      simp only [h4, decide_false, Bool.false_eq_true, if_false, pIt_t, pB_R, this, bool?_bb]
      cases e : ds.all (isNamed c) with
      | true =>
        have ha := is_ascending_eq (ds := ds) (by omega) fun x hx y hy => by
          obtain ⟨i, rfl, _⟩ := isNamed_nd (List.all_eq_true.mp e x hx)
          obtain ⟨j, rfl, _⟩ := isNamed_nd (List.all_eq_true.mp e y hy)
          exact gtD_nd _ _
        simp [ha, isOpens, h4', e]
      | false => simp [isOpens, e]
  | dict _ => simp [ndD] at hd
  | _ => simp [isOpens]
end G

namespace DL
open PySem PySem.Spec L2
theorem pForL_all {γ : Type} {r : γ} {f : Dt → Unit → PM (Lp γ Unit)} (h : Dt → Bool) : ∀ {ds : List Dt}, (∀ d ∈ ds, f d () = pR (if h d = true then .go () else .rt r)) → pForL ds () f = pR (if ds.all h = true then .go () else .rt r)
  | [], _ => rfl
  | d :: ds, hd => by
    have ih := pForL_all h (ds := ds) fun x hx => hd x (List.mem_cons_of_mem _ hx)
    rw [pForL_cons, hd d List.mem_cons_self, pB_R, List.all_cons]
    cases e : h d with
    | true =>
      simp only [if_true, Bool.true_and]
      exact ih
    | false => simp
theorem ite_lp {b : Bool} {γ : Type} {r : γ} : (if (!b) = true then pR (Lp.rt (σ := Unit) r) else pR (Lp.go ())) = pR (if b = true then Lp.go () else .rt r) := by cases b <;> rfl
theorem ite_some {b : Bool} {α : Type} {x : α} : (if b = true then pR (some x) else pR none) = pR (if b = true then some x else none) := by cases b <;> rfl
end DL
namespace G
open PySem PySem.Spec L2 DL
theorem isRow_str {c : Int} {d : Dt} (h : isRow c d = true) : ∃ w rest, d = .tuple (.str w :: rest) := by
  unfold isRow at h
  split at h
  · exact ⟨_, _, rfl⟩
  · cases h
theorem is_parts_eq {d : Dt} (hd : ndD d = true) : p_is_parts d = pR (.bool (isParts d)) := by
  unfold p_is_parts
  cases d with
  | tuple ps =>
    have hm := ndD_t hd
    have c1 : c_MOST_PARTS = .int 4 := rfl
    have c2 : c_MOST_ROWS = .int 5 := rfl
    have c3 : c_MOST_ROWS_IN_ALL = .int 12 := rfl
    have c4 : c_MOST_OUTS = .int 2 := rfl
    simp only [pIs_tuple_tuple, pB_R, Bool.not_true, Bool.false_eq_true, if_false, pV_lent, pV_le, c1, bool?_bb, pIt_t]
    by_cases h1 : (1 : Int) ≤ ps.length
    · have h1' : 1 ≤ ps.length := by omega
      by_cases h4 : (ps.length : Int) ≤ 4
      · have h4' : ps.length ≤ 4 := by omega
        simp only [h1, h4, decide_true, if_true, pB_R, bool?_bb, Bool.not_true, Bool.false_eq_true, if_false]
        have a1 := pMap_b (ds := ps) (f := fun part_10 => pB (pB (pIs "tuple" part_10) fun b_13 => if b_13 = true then pB (pV (lenD [part_10])) fun v_14 => pB (pV (leI v_14 c_MOST_ROWS)) fun v_15 => pR v_15 else pR (.bool false)) fun z_12 => pR z_12) isPart (fun d hdm => by
          have := hm d hdm
          cases d with
          | tuple rs =>
            simp only [pIs_tuple_tuple, pB_R, if_true, pV_lent, c2, pV_le, isPart]
            congr 2
            exact decide_eq_decide.mpr (by omega)
          | dict _ => simp [ndD] at this
          | _ => simp [isPart]) (by omega)
        rw [a1, pB_R, pV_all, pB_R, all_map_id, bool?_bb, pB_R]
        cases e1 : ps.all isPart with
        | false => simp [isParts, e1]
        | true =>
          have ht : ∀ p ∈ ps, ∃ rs, p = .tuple rs ∧ rs.length ≤ 5 := fun p hp => by
            have := List.all_eq_true.mp e1 p hp
            unfold isPart at this
            split at this
            · exact ⟨_, rfl, of_decide_eq_true this⟩
            · cases this
          simp only [Bool.not_true, Bool.false_eq_true, if_false]
          have a2 := pMap_ok (ds := ps) (f := fun part_20 => pB (pV (lenD [part_20])) fun v_22 => pR v_22) (fun p => .int ((rwsOf p).length : Int)) (fun d hdm => by
            obtain ⟨rs, rfl, _⟩ := ht d hdm
            simp [rwsOf]) (by omega)
          have e2 : (ps.map fun p => PyData.int ((rwsOf p).length : Int)) = (ps.map fun p => ((rwsOf p).length : Int)).map .int := by rw [List.map_map]; rfl
          have e3 : (ps.map fun p => ((rwsOf p).length : Int)).sum = (((ps.map fun p => (rwsOf p).length).sum : Nat) : Int) := by
            clear a1 a2 e2 ht e1 h4' h4 h1' h1 hm hd
            induction ps with
            | nil => rfl
            | cons p ps ih => simp only [List.map_cons, List.sum_cons, Int.natCast_add, ih]
          rw [a2, pB_R, e2, pV_sum, pB_R, e3, c3, pC_gt, pB_R]
          by_cases h12 : (12 : Int) < ((ps.map fun p => (rwsOf p).length).sum : Nat)
          · have h12' : ¬ (ps.map fun p => (rwsOf p).length).sum ≤ 12 := by omega
            simp only [h12, decide_true, if_true]
            simp [isParts, h12']
          · have h12' : (ps.map fun p => (rwsOf p).length).sum ≤ 12 := by omega
            simp only [h12, decide_false, Bool.false_eq_true, if_false]
            have a3 := pForL_all (γ := Dt) (r := .bool false) (ds := ps) (f := fun part_27 s_28 => pB (pIt part_27) fun ds_29 => pB (pMap ds_29 fun row_30 => pB (p_is_row row_30 (.int ps.length)) fun r_33 => pR r_33) fun ys_34 => pB (pV (allD [(.list ys_34)])) fun v_35 => pB (pO (bool? v_35)) fun b_36 => if (!b_36) = true then pR (.rt (.bool false)) else pR (.go ())) (fun p => (rwsOf p).all (isRow ps.length)) (fun d hdm => by
              obtain ⟨rs, rfl, hrl⟩ := ht d hdm
              have := pAll_b (k := fun v_35 => pB (pO (bool? v_35)) fun b_36 => if (!b_36) = true then pR (Lp.rt (σ := Unit) (PyData.bool false)) else pR (.go ())) (ds := rs) (f := fun row_30 => pB (p_is_row row_30 (.int ps.length)) fun r_33 => pR r_33) (isRow ps.length) (fun x hx => by rw [is_row_eq _ (ndD_t (hm _ hdm) x hx)]; rfl) (by omega)
              simp only [pIt_t, pB_R, this, bool?_bb, rwsOf]
              exact ite_lp)
            rw [a3, pB_R]
            cases e4 : ps.all (fun p => (rwsOf p).all (isRow ps.length)) with
            | false => simp [isParts, e4]
            | true =>
              simp only [if_true, pLp_go]
              have a4 := pMap2_ok (ds := ps) (f := fun part_38 => pB (pIt part_38) fun ds_40 => pFil ds_40 fun row_39 => pB (pV (ixD row_39 (.int 0))) fun v_41 => pB (pC eqD v_41 (.str "out")) fun b_42 => if b_42 = true then pR (some row_39) else pR none) (fun p => (rwsOf p).filter isOutD) (fun d hdm => by
                obtain ⟨rs, rfl, hrl⟩ := ht d hdm
                have hr := List.all_eq_true.mp (List.all_eq_true.mp e4 _ hdm)
                rw [pIt_t, pB_R, pFil_ok (fun d => if isOutD d = true then some d else none) (fun x hx => by
                  obtain ⟨w, rest, rfl⟩ := isRow_str (hr x hx)
                  simp only [pV_ix0, pB_R, pC_eqs, eqv_ss, isOutD]
                  exact ite_some) (by omega)]
                congr 1
                show rs.filterMap _ = rs.filter isOutD
                rw [← List.filterMap_eq_filter]
                rfl) (by
                have : (ps.flatMap fun p => (rwsOf p).filter isOutD).length ≤ 5 * ps.length := by
                  clear a1 a2 a3 e2 e3 e4 h12 h12' h1 h1' h4 h4' hm hd e1
                  induction ps with
                  | nil => simp
                  | cons p ps ih =>
                    obtain ⟨rs, rfl, hr⟩ := ht p List.mem_cons_self
                    have := ih fun q hq => ht q (List.mem_cons_of_mem _ hq)
                    have := List.length_filter_le isOutD rs
                    rw [List.flatMap_cons, List.length_append, List.length_cons]
                    show (rs.filter isOutD).length + _ ≤ _
                    omega
                omega)
              have e5 : (ps.flatMap fun p => (rwsOf p).filter isOutD) = (ps.flatMap rwsOf).filter isOutD := by
                rw [List.filter_flatMap]
              rw [a4, pB_R, pV_lenl, pB_R, c4, pV_le, pB_R, e5]
              simp [isParts, e1, h12', e4, h1', h4']
              omega
      · have h4' : ¬ ps.length ≤ 4 := by omega
        simp [h1, h4, isParts, h4']
    · have h1' : ¬ 1 ≤ ps.length := by omega
      simp [h1, isParts, h1']
  | dict _ => simp [ndD] at hd
  | _ => simp [isParts]
theorem is_program_eq {d : Dt} (hd : ndD d = true) : p_is_program d = pR (.bool (isProg d)) := by
  unfold p_is_program
  cases d with
  | tuple ds =>
    have hm := ndD_t hd
    match ds, hm with
    | [], _ => simp [isProg]
    | [_], _ => simp [isProg]
    | [_, _], _ => simp [isProg]
    | [_, _, _], _ => simp [isProg]
    | [ps, ms, es, os], hm =>
      have e1 := is_parts_eq (hm ps (by simp))
      simp only [pIs_tuple_tuple, pB_R, Bool.not_true, Bool.false_eq_true, if_false, pV_lent, pC_nei, eqv_ii, List.length_cons, List.length_nil, pT4_t, e1, bool?_bb, isProg]
      cases e : isParts ps with
      | false => simp
      | true =>
        have : ∃ xs, ps = .tuple xs ∧ xs.length ≤ 4 := by
          unfold isParts at e
          split at e
          · simp only [Bool.and_eq_true, decide_eq_true_eq] at e
            exact ⟨_, rfl, e.1.2⟩
          · cases e
        obtain ⟨xs, rfl, hx⟩ := this
        have e2 := is_marks_eq (d := ms) xs.length (by omega) (hm ms (by simp))
        have e3 := is_entries_eq (d := es) xs.length (hm es (by simp))
        have e4 := is_opens_eq (d := os) xs.length (hm os (by simp))
        simp [e2, e3, e4, nParts]
        cases isMarks xs.length ms <;> cases isEntries xs.length es <;> simp
    | a :: b :: c :: d :: e :: r, _ =>
      have : ¬ ((r.length : Int) + 1 + 1 + 1 + 1 + 1 = 4) := by omega
      simp [isProg, this]
  | dict _ => simp [ndD] at hd
  | _ => simp [isProg]
end G

/-! the second kind of drawn programs: the words, the program -/
namespace DL
open PySem PySem.Spec L2
theorem cut_last {α : Type} (ds : List α) : cutD ds none (some (-1)) = ds.dropLast := by
  have e1 : HT.sIx ds.length ds.length (some (-1)) = ds.length - 1 := by
    show (if (-1 : Int) < 0 then ((-1 : Int) + (ds.length : Int)).toNat else min (-1 : Int).toNat ds.length) = _
    rw [if_pos (by decide)]
    omega
  have e2 : HT.sIx ds.length 0 none = 0 := rfl
  unfold cutD
  rw [e1, e2, List.dropLast_eq_take]
  simp
theorem pF_last (ds : List Dt) : pF (slD (.list ds) none (some (-1))) = pR (.list ds.dropLast) := by
  show pF (some (.lst ((cutD ds none (some (-1))).map .val))) = _
  rw [cut_last, pF_lst]
def wHas : Dt → Bool
  | .tuple [.str w, _] => !((w == ("give" : Str)) || (w == ("show" : Str)))
  | _ => true
structure WOk (c : Nat) (mr mo : Nat) (ls : List (List Wd)) : Prop where
  len : ls.length = c
  ok : ∀ l ∈ ls, (∀ x ∈ l, WdOk x) ∧ l.length ≤ 5
  tot : tot ls ≤ mr
  outs : wOuts ls ≤ mo
theorem tot_sum {α : Type} (ls : List (List α)) : tot ls = (ls.map List.length).sum := rfl
theorem mem_set' {α : Type} {ls : List α} {a : Nat} {r x : α} (h : x ∈ ls.set a r) : x ∈ ls ∨ x = r := List.mem_or_eq_of_mem_set h
def shw (l : List Wd) : List Wd := l.dropLast ++ [(("show" : Str), ("a" : Str))]
theorem shw_ok {l : List Wd} (h : (∀ x ∈ l, WdOk x) ∧ l.length ≤ 5) : (∀ x ∈ shw l, WdOk x) ∧ (shw l).length ≤ 5 := by
  refine ⟨fun x hx => ?_, ?_⟩
  · unfold shw at hx
    rcases List.mem_append.mp hx with hx | hx
    · exact h.1 x (List.dropLast_subset _ hx)
    · rw [List.mem_singleton.mp hx]; exact ⟨by decide, by decide⟩
  · have := h.2
    simp [shw]
    omega
theorem shw_out (l : List Wd) : wOut (shw l) ≤ wOut l := by
  unfold shw
  rw [wOut_snoc]
  have e : (("show" : Str) == ("out" : Str)) = false := by decide
  simp only [e, Bool.false_eq_true, if_false, Nat.add_zero]
  unfold wOut
  exact ((List.dropLast_sublist l).filter _).length_le
theorem WOk.set {c mr mo : Nat} {ls : List (List Wd)} (h : WOk c mr mo ls) {a : Nat} (ha : a < ls.length) (hm : ls[a] ≠ [] ∨ (∀ l ∈ ls, l = []) ∧ 1 ≤ mr) : WOk c mr mo (ls.set a (shw ls[a])) where
  len := by simpa using h.len
  ok := fun l hl => by
    rcases mem_set' hl with hl | rfl
    · exact h.ok l hl
    · exact shw_ok (h.ok _ (List.getElem_mem ha))
  tot := by
    have e := sum_set List.length ls a ha (shw ls[a])
    have ht := h.tot
    rw [tot_sum] at ht ⊢
    rcases hm with hm | ⟨hm, h1⟩
    · have : (shw ls[a]).length = ls[a].length := by
        have := List.length_pos_iff.mpr hm
        simp [shw]
        omega
      omega
    · have e1 : (ls.map List.length).sum = 0 := by
        rw [List.sum_eq_zero_iff_forall_eq_nat]
        intro n hn
        obtain ⟨l, hl, rfl⟩ := List.mem_map.mp hn
        rw [hm l hl]
        rfl
      have e2 := hm _ (List.getElem_mem ha)
      rw [e2] at e ⊢
      simp [shw] at e
      simp [shw]
      omega
  outs := by
    have e := sum_set wOut ls a ha (shw ls[a])
    have := shw_out ls[a]
    have ho := h.outs
    unfold wOuts at ho ⊢
    omega
end DL
namespace G
open PySem PySem.Spec L2 DL
section
variable {β : Type} {Q : β → Prop}
theorem word_ok {j : Nat} (h : (j : Int) < 8) : ∃ w ∈ WDS, pV (ixD (.list [(.str "load"), (.str "give"), (.str "pass"), (.str "show"), (.str "late"), (.str "give"), (.str "load"), (.str "out")]) (.int j)) = pR (.str w) := by
  have : j = 0 ∨ j = 1 ∨ j = 2 ∨ j = 3 ∨ j = 4 ∨ j = 5 ∨ j = 6 ∨ j = 7 := by omega
  rcases this with rfl | rfl | rfl | rfl | rfl | rfl | rfl | rfl
  · exact ⟨"load", by decide, rfl⟩
  · exact ⟨"give", by decide, rfl⟩
  · exact ⟨"pass", by decide, rfl⟩
  · exact ⟨"show", by decide, rfl⟩
  · exact ⟨"late", by decide, rfl⟩
  · exact ⟨"give", by decide, rfl⟩
  · exact ⟨"load", by decide, rfl⟩
  · exact ⟨"out", by decide, rfl⟩
theorem wp_words {n : Nat} {s : List Dt} {c mr mo : Nat} {k : List Dt × List Dt → PM β} (hs : PoolOk n s) (hn : n ≤ 500000) (c4 : c ≤ 4) (hr : mr ≤ 12) (ho : mo ≤ 12) (h : ∀ (ls : List (List Wd)) s', WOk c mr mo ls → PoolOk (n + 44) s' → Wp (k (ls.map rowW, s')) Q) : Wp (pB (p__law_words s (.int c) (.int mr) (.int mo)) k) Q := by
  refine Wp.bind ?_
  unfold p__law_words
  rw [pRng1_ok c (by omega), pB_R]
  refine Wp.for (fun done rest st => ∃ (o left : Nat) (s : List Dt) (ls : List (List Wd)), st = (.int o, s, .int left, ls.map rowW) ∧ PoolOk (n + 11 * done.length) s ∧ left + tot ls = mr ∧ o + wOuts ls = mo ∧ ls.length = done.length ∧ ∀ l ∈ ls, (∀ x ∈ l, WdOk x) ∧ l.length ≤ 5)
    ⟨mo, mr, s, [], rfl, hs, by simp [tot], by simp [wOuts], rfl, fun _ hx => by cases hx⟩ (fun done d rest st hd ⟨o, left, s, ls, est, hs, hl, hoo, hlen, hok⟩ => ?_) fun st ⟨o, left, s, ls, est, hs, hl, hoo, hlen, hok⟩ => ?_
  · subst est
    have hdl : done.length < c := by
      have := congrArg List.length hd
      simp only [rng_len, List.length_append, List.length_cons] at this
      omega
    simp only
    refine wp_draw hs (by omega) (by decide) (by decide) fun m s2 hm hs2 => ?_
    simp only [pV_mini, pB_R]
    have hmm : ∃ u : Nat, (if (m : Int) < (left : Nat) then (m : Int) else (left : Nat)) = u ∧ u ≤ 5 ∧ u ≤ left := ⟨(if (m : Int) < (left : Nat) then (m : Int) else (left : Nat)).toNat, by split <;> omega, by split <;> omega, by split <;> omega⟩
    obtain ⟨u, eu, u5, ul⟩ := hmm
    rw [eu, pRng1_ok u (by omega), pB_R]
    refine Wp.for (fun dn rest st => ∃ (s : List Dt) (o : Nat) (L : List Wd), st = (s, .int o, L.map wdE) ∧ PoolOk (n + 11 * done.length + 1 + 2 * dn.length) s ∧ o + wOuts ls + wOut L = mo ∧ (∀ x ∈ L, WdOk x) ∧ L.length = dn.length)
      ⟨s2, o, [], rfl, hs2.mono (by simp), by simp [wOut]; omega, fun _ hx => (by cases hx), rfl⟩ (fun dn d rest st hd2 ⟨s, o, L, est, hs, h2, hok2, hlen2⟩ => ?_) fun st ⟨s, o, L, est, hs, h2, hok2, hlen2⟩ => ?_
    · subst est
      have hdn : dn.length < u := by
        have := congrArg List.length hd2
        simp only [rng_len, List.length_append, List.length_cons] at this
        omega
      simp only
      refine wp_draw hs (by omega) (by decide) (by decide) fun j s3 hj hs3 => ?_
      obtain ⟨w, hw, ew⟩ := word_ok hj
      simp only [ew, pB_R, pC_eqs, eqv_ss]
      have key : ∃ (w' : Str) (o' : Nat), w' ∈ WDS ∧ o' + wOuts ls + (wOut L + if (w' == ("out" : Str)) = true then 1 else 0) = mo ∧ (o : Int) - (if (w' == ("out" : Str)) = true then 1 else 0) = o' ∧
          (pB (if (w == ("out" : Str)) = true then pB (pC eqD (.int (o : Int)) (.int 0)) fun b_14 => pR b_14 else pR false) fun b_12 => if b_12 = true then pR (PyData.str "give") else pR (.str w)) = pR (.str w') := by
        by_cases hb : w = "out"
        · subst hb
          by_cases h0 : o = 0
          · subst h0
            refine ⟨"give", 0, by decide, by simpa using h2, by simp, by simp⟩
          · refine ⟨"out", o - 1, by decide, by simp; omega, by simp; omega, ?_⟩
            have : ¬ ((o : Int) = 0) := by omega
            simp [this, h0]
        · have hbf : (w == ("out" : Str)) = false := beq_eq_false_iff_ne.mpr hb
          exact ⟨w, o, hw, by simpa [hb] using h2, by simp [hb], by simp [hbf]⟩
      obtain ⟨w', o', hw', ho', hoe, ek⟩ := key
      have e3 : ∀ b : Bool, pV (intD [.bool b]) = pR (.int (if b = true then 1 else 0)) := fun b => rfl
      rw [ek, pB_R, pV_eqs, pB_R, eqv_ss, e3, pB_R, pV_sub, pB_R, hoe]
      refine wp_draw hs3 (by omega) (by decide) (by decide) fun q s4 hq hs4 => ?_
      obtain ⟨z, hz, ez⟩ := abcd_ok hq
      simp only [ez, pB_R]
      rw [pApp_ok (by simp; omega), pB_R]
      refine .ret ⟨s4, o', L ++ [(w', z)], by simp [wdE], hs4.mono (by simp; omega), by rw [wOut_snoc]; omega, fun x hx => ?_, by simp [hlen2]⟩
      rcases List.mem_append.mp hx with hx | hx
      · exact hok2 x hx
      · rw [List.mem_singleton.mp hx]; exact ⟨hw', hz⟩
    · subst est
      rw [rng_len] at hlen2 hs
      simp only [pV_sub, pB_R, List.length_map]
      rw [pApp_ok (by simp; omega), pB_R]
      refine .ret ⟨o, left - L.length, s, ls ++ [L], ?_, hs.mono (by simp; omega), by rw [tot_snoc]; omega, by rw [wOuts_snoc]; omega, by simp [hlen], fun l hl => ?_⟩
      · have : ((left : Int) - (L.length : Nat)) = ((left - L.length : Nat) : Int) := by omega
        rw [this]
        simp [rowW]
      · rcases List.mem_append.mp hl with hl | hl
        · exact hok l hl
        · rw [List.mem_singleton.mp hl]; exact ⟨hok2, by omega⟩
  · subst est
    rw [rng_len] at hlen hs
    exact .ret (h ls s ⟨hlen, hok, by omega, by omega⟩ (hs.mono (by omega)))
theorem with_show {c mr mo : Nat} {ls : List (List Wd)} (hw : WOk c mr mo ls) (c0 : 0 < c) (c4 : c ≤ 4) (hr : 1 ≤ mr) : ∃ ls', WOk c mr mo ls' ∧ p__law_with_show (.list (ls.map rowW)) = pR (.list (ls'.map rowW)) := by
  unfold p__law_with_show
  have hl4 := hw.len
  have h1 : ∀ l : List Wd, pForL (γ := Dt) (l.map wdE) () (fun d_5 s_6 =>
     pT2 d_5 fun word_7 name_8 =>
     pB (
     pB (pC eqD word_7 (.str "give")) fun b_10 =>
     if b_10 = true then
     pR true
     else
     pB (pC eqD word_7 (.str "show")) fun b_11 =>
     pR b_11) fun b_9 =>
     if b_9 = true then
     pR (.rt (.list (ls.map rowW)))
     else
     pR (.go ())) = pR (if (l.map wdE).all wHas = true then .go () else .rt (.list (ls.map rowW))) := fun l => pForL_all wHas fun d hd => by
    obtain ⟨⟨w, z⟩, _, rfl⟩ := List.mem_map.mp hd
    simp only [wdE, pT2_t, pC_eqs, eqv_ss, pB_R, wHas]
    by_cases h1 : w = "give" <;> by_cases h2 : w = "show" <;> simp [h1, h2]
  have h2 := pForL_all (γ := Dt) (r := .list (ls.map rowW)) (ds := ls.map rowW) (f := fun row_2 s_3 =>
     pB (pIt row_2) fun ds_4 =>
     pB (pForL (γ := Dt) ds_4 () fun d_5 s_6 =>
     pT2 d_5 fun word_7 name_8 =>
     pB (
     pB (pC eqD word_7 (.str "give")) fun b_10 =>
     if b_10 = true then
     pR true
     else
     pB (pC eqD word_7 (.str "show")) fun b_11 =>
     pR b_11) fun b_9 =>
     if b_9 = true then
     pR (.rt (.list (ls.map rowW)))
     else
     pR (.go ())) fun l_s_6 => pLp l_s_6 (fun s_6 =>
     pR (.go ())) fun c => pR (.rt c)) (fun d => match d with
      | .list xs => xs.all wHas
      | _ => true) (fun d hd => by
    obtain ⟨l, _, rfl⟩ := List.mem_map.mp hd
    simp only [rowW, pIt_l, pB_R, h1]
    by_cases h : (l.map wdE).all wHas = true <;> simp only [h, if_true, Bool.false_eq_true, if_false, pLp_go] <;> rfl)
  rw [pIt_l, pB_R, h2, pB_R]
  generalize ((ls.map rowW).all fun d => match d with
      | .list xs => xs.all wHas
      | _ => true) = bb
  cases bb with
  | false => exact ⟨ls, hw, rfl⟩
  | true =>
    simp only [if_true, pLp_go, pV_lenl, pB_R, List.length_map]
    rw [pRng1_ok _ (by omega), pB_R]
    have hfil := pFil_ok (ds := rngD 0 ls.length) (f := fun k_14 =>
       pB (pV (ixD (.list (ls.map rowW)) k_14)) fun v_16 =>
       pB (pC neD v_16 (.list [])) fun b_17 =>
       if b_17 = true then
       pR (some k_14)
       else
       pR none) (fun d => match d with
        | .int i => if (ls.getD i.toNat []) = [] then none else some (.int i)
        | _ => none) (fun d hd => by
      obtain ⟨i, rfl, hi⟩ := rng_mem hd
      rw [pV_ixl (by simpa using hi), pB_R]
      simp only [List.getElem_map, rowW, pC_neN, pB_R]
      simp only [Int.toNat_natCast, List.getD_eq_getElem?_getD, List.getElem?_eq_getElem hi, Option.getD_some]
      cases ls[i] <;> simp) (by rw [rng_len]; omega)
    rw [hfil, pB_R]
    -- the row that is changed
    have key : ∃ a : Nat, ∃ ha : a < ls.length, (ls[a] ≠ [] ∨ (∀ l ∈ ls, l = []) ∧ 1 ≤ mr) ∧ (pB (pF (addD (.list ((rngD 0 ls.length).filterMap fun d => match d with
        | .int i => if (ls.getD i.toNat []) = [] then none else some (PyData.int i)
        | _ => none)) (.list [(.int 0)]))) fun v_19 => pV (ixD v_19 (.int 0))) = pR (.int (a : Int)) := by
      rw [pF_addl _ _ (by
        have := List.length_filterMap_le (fun d => match d with
        | .int i => if (ls.getD i.toNat []) = [] then none else some (PyData.int i)
        | _ => none) (rngD 0 ls.length)
        rw [rng_len] at this
        simp only [List.length_singleton]
        omega), pB_R]
      generalize hF : ((rngD 0 ls.length).filterMap fun d => match d with
        | .int i => if (ls.getD i.toNat []) = [] then none else some (PyData.int i)
        | _ => none) = F
      cases F with
      | nil =>
        refine ⟨0, by omega, .inr ⟨fun l hl => ?_, hr⟩, by simp⟩
        obtain ⟨i, hi, rfl⟩ := List.getElem_of_mem hl
        rw [List.filterMap_eq_nil_iff] at hF
        have := hF (.int (i : Int)) (by
          rw [rng_map]
          exact List.mem_map.mpr ⟨i, List.mem_range.mpr hi, rfl⟩)
        simp only [Int.toNat_natCast, List.getD_eq_getElem?_getD, List.getElem?_eq_getElem hi, Option.getD_some] at this
        by_cases h : ls[i] = []
        · exact h
        · simp [h] at this
      | cons x F =>
        have hx : x ∈ ((rngD 0 ls.length).filterMap fun d => match d with
          | .int i => if (ls.getD i.toNat []) = [] then none else some (PyData.int i)
          | _ => none) := by rw [hF]; simp
        obtain ⟨d, hd, e⟩ := List.mem_filterMap.mp hx
        obtain ⟨i, rfl, hi⟩ := rng_mem hd
        simp only [Int.toNat_natCast, List.getD_eq_getElem?_getD, List.getElem?_eq_getElem hi, Option.getD_some] at e
        by_cases h : ls[i] = []
        · simp [h] at e
        · simp only [h, if_false, Option.some.injEq] at e
          subst e
          exact ⟨i, hi, .inl h, by simp⟩
    obtain ⟨a, ha, hm, ek⟩ := key
    refine ⟨ls.set a (shw ls[a]), hw.set ha hm, ?_⟩
    have hmap := pMap_ok (ds := enumD (ls.map rowW)) (f := fun d_24 =>
       pT2 d_24 fun k_26 row_27 =>
       pB (pC eqD k_26 (.int (a : Int))) fun b_28 =>
       if b_28 = true then
       pB (pNeg (.int 1)) fun v_29 =>
       pB (pO (int? v_29)) fun i_30 =>
       pB (pF (slD row_27 none (some i_30))) fun v_31 =>
       pB (pF (addD v_31 (.list [(.tuple [(.str "show"), (.str "a")])]))) fun v_34 =>
       pR v_34
       else
       pR row_27) (fun d => match d with
        | .tuple [.int i, .list r] => if i = (a : Int) then .list (r.dropLast ++ [(.tuple [(.str "show"), (.str "a")])]) else .list r
        | d => d) (fun d hd => by
      unfold enumD at hd
      obtain ⟨i, hi, rfl⟩ := List.mem_mapIdx.mp hd
      have hi' : i < ls.length := by simpa using hi
      simp only [List.getElem_map, pT2_t, pC_eqi, eqv_ii, pB_R, rowW]
      by_cases h : (i : Int) = (a : Int)
      · have h5 := (hw.ok _ (List.getElem_mem hi')).2
        simp only [h, decide_true, if_true, pNeg_i, pB_R, pO_int?_i, pF_last]
        rw [pF_addl _ _ (by simp; omega), pB_R]
      · simp only [h, decide_false, Bool.false_eq_true, if_false]) (by simp [enumD]; omega)
    have e2 : ((enumD (ls.map rowW)).map fun d => match d with
        | .tuple [.int i, .list r] => if i = (a : Int) then .list (r.dropLast ++ [(.tuple [(.str "show"), (.str "a")])]) else .list r
        | d => d) = (ls.set a (shw ls[a])).map rowW := by
      refine List.ext_getElem (by simp [enumD]) fun i h1 h2 => ?_
      have hi : i < ls.length := by simpa [enumD] using h1
      simp only [enumD, List.getElem_map, List.getElem_mapIdx, rowW, List.getElem_set]
      by_cases h : a = i
      · subst h
        simp only [if_true]
        simp [shw, wdE, List.map_dropLast]
      · have : ¬ ((i : Int) = (a : Int)) := by omega
        simp only [this, h, if_false]
    have hk2 : ∀ {γ : Type} (f : Dt → PM γ), (pB (pF (addD (.list ((rngD 0 ls.length).filterMap fun d => match d with
        | .int i => if (ls.getD i.toNat []) = [] then none else some (PyData.int i)
        | _ => none)) (.list [(.int 0)]))) fun v_19 => pB (pV (ixD v_19 (.int 0))) f) = f (.int (a : Int)) := fun f => by
      rw [← pB_B, ek, pB_R]
    rw [hk2]
    simp only [pEnum, pB_R, hmap, e2]
end
end G

/-! the second kind of drawn programs -/
namespace G
open PySem PySem.Spec L2 DL
section
variable {β : Type} {Q : β → Prop}
def givenAt (j : Nat) (x : Wd) : Option Nd := if (((("give" : Str) == x.1) || ((("pass" : Str) == x.1) || (("late" : Str) == x.1)))) = true then some (j, x.2) else none
def givenD (j : Nat) : Dt → Option Dt
  | .tuple [.str w, .str z] => (givenAt j (w, z)).map nd
  | _ => none
theorem given_row (j : Nat) (l : List Wd) : (l.map wdE).filterMap (givenD j) = (l.filterMap (givenAt j)).map nd := by
  rw [List.filterMap_map, List.map_filterMap]
  congr 1
theorem wp_program {n : Nat} {s : List Dt} {mp mr mo me mop : Nat} {k : Dt × List Dt → PM β} (hs : PoolOk n s) (hn : n ≤ 100000) (hp0 : 1 ≤ mp) (hp4 : mp ≤ 4) (hr1 : 1 ≤ mr) (hr12 : mr ≤ 12) (ho2 : mo ≤ 2) (he1 : 1 ≤ me) (he3 : me ≤ 3) (hop : mop ≤ 4)
    (h : ∀ (P : Prog) s', P.Ok → PoolOk (n + 400) s' → Wp (k (P.enc, s')) Q) : Wp (pB (p__law_program s (.int mp) (.int mr) (.int mo) (.int me) (.int mop)) k) Q := by
  refine Wp.bind ?_
  unfold p__law_program
  refine wp_draw hs (by omega) (by omega) (by omega) fun k1 s1 hk1 hs1 => ?_
  obtain ⟨c, hc, c0, c4⟩ : ∃ c : Nat, 1 + (k1 : Int) = c ∧ 0 < c ∧ c ≤ 4 := ⟨1 + k1, by omega, by omega, by omega⟩
  simp only [pV_addi, pB_R, hc]
  rw [pLRg_ok c (by omega), pB_R]
  refine wp_subset hs1 (by simp; omega) (by omega) fun es s2 hsub hel hs2 => ?_
  rw [List.length_range] at hs2
  have hes : ∀ e ∈ es, e < c := fun e he => List.mem_range.mp (hsub.subset he)
  have hasc : es.Pairwise (· < ·) := List.Pairwise.sublist hsub List.pairwise_lt_range
  simp only
  rw [pC_eqN, pB_R]
  refine Wp.bind (Wp.mono (P := fun j => ∃ (es : List Nat) (s : List Dt), j = (.list (es.map fun (i : Nat) => .int i), s) ∧ (∀ e ∈ es, e < c) ∧ es.Pairwise (· < ·) ∧ 1 ≤ es.length ∧ es.length ≤ me ∧ PoolOk (n + 6) s) ?_ ?_)
  · cases es with
    | nil =>
      simp only [List.map_nil, List.isEmpty_nil, if_true]
      refine wp_draw hs2 (by omega) (by omega) (by omega) fun e s3 he hs3 => ?_
      exact .ret ⟨[e], s3, rfl, fun x hx => by rw [List.mem_singleton.mp hx]; omega, List.pairwise_singleton _ _, by simp, by simpa using he1, hs3.mono (by omega)⟩
    | cons e es =>
      simp only [List.map_cons, List.isEmpty_cons, Bool.false_eq_true, if_false]
      exact .ret ⟨e :: es, s2, by simp, hes, hasc, by simp, hel, hs2.mono (by omega)⟩
  clear hes hasc hel hsub hs2
  rintro _ ⟨es, s3, rfl, hes, hasc, hel1, hel, hs3⟩
  simp only
  refine wp_words hs3 (by omega) c4 hr12 (by omega) fun ls0 s4 hw0 hs4 => ?_
  obtain ⟨ls, hw, ew⟩ := with_show hw0 c0 c4 hr1
  have hlc := hw.len
  have hok := hw.ok
  simp only [ew, pB_R, pRng1_ok c (by omega)]
  -- what is given
  refine Wp.for (fun done rest st => ∃ gs : List Nd, st = .list (gs.map nd) ∧ NdsOk c gs ∧ gs.length ≤ 5 * done.length) ⟨[], rfl, fun _ hx => (by cases hx), by simp⟩ (fun done d rest st hd ⟨gs, est, hg, hgl⟩ => ?_) fun st ⟨gs, est, hg, hgl⟩ => ?_
  · subst est
    have hm : d ∈ rngD 0 c := by rw [hd]; simp
    obtain ⟨j, rfl, hj⟩ := rng_mem hm
    have hdl : done.length < 4 := by
      have := congrArg List.length hd
      simp only [rng_len, List.length_append, List.length_cons] at this
      omega
    rw [pV_ixl (by simpa [hlc] using hj), pB_R]
    simp only [List.getElem_map]
    have hlm := hok _ (List.getElem_mem (l := ls) (n := j) (by omega))
    unfold rowW
    rw [pIt_l, pB_R]
    have hf := pFil_ok (ds := (ls[j]'(by omega)).map wdE) (f := fun d_15 =>
       pT2 d_15 fun word_17 name_18 =>
       pB (pC inD word_17 (.list [(.str "give"), (.str "pass"), (.str "late")])) fun b_19 =>
       if b_19 = true then
       pR (some (.tuple [(.int (j : Int)), name_18]))
       else
       pR none) (givenD j) (fun d hd => by
      obtain ⟨⟨w, z⟩, _, rfl⟩ := List.mem_map.mp hd
      simp only [wdE, pT2_t, in3, pB_R, givenD, givenAt]
      by_cases hh : ((("give" : Str) == w) || ((("pass" : Str) == w) || (("late" : Str) == w))) = true
      · simp only [hh, if_true]; rfl
      · simp only [hh, Bool.false_eq_true, if_false]; rfl) (by simp; have := hlm.2; omega)
    rw [hf, pB_R, given_row]
    have hfl := List.length_filterMap_le (givenAt j) (ls[j]'(by omega))
    have h5 := hlm.2
    rw [pF_addl _ _ (by simp only [List.length_map]; omega), pB_R]
    refine .ret ⟨gs ++ (ls[j]'(by omega)).filterMap (givenAt j), by simp, fun x hx => ?_, by rw [List.length_append, List.length_append, List.length_singleton]; omega⟩
    rcases List.mem_append.mp hx with hx | hx
    · exact hg x hx
    · obtain ⟨⟨w, z⟩, hwz, e⟩ := List.mem_filterMap.mp hx
      unfold givenAt at e
      split at e
      · cases e
        exact ⟨hj, (hlm.1 _ hwz).2⟩
      · cases e
  · subst est
    rw [rng_len] at hgl
    obtain ⟨g1, e1, m1, _, l1⟩ := sortNds_ok gs (by omega)
    have hg1 : NdsOk c g1 := fun x hx => hg x ((m1 x).mp hx)
    simp only [e1, pB_R]
    refine wp_draw hs4 (by omega) (by omega) (by omega) fun p s5 hp hs5 => ?_
    refine wp_draw hs5 (by omega) (by decide) (by decide) fun q s6 hq hs6 => ?_
    obtain ⟨z, hz, ez⟩ := abcd_ok hq
    simp only [ez, pB_R]
    rw [pF_addl _ _ (by simp; omega), pB_R]
    have e2 : g1.map nd ++ [PyData.tuple [.int (p : Int), .str z]] = (g1 ++ [(p, z)]).map nd := by simp
    rw [e2]
    obtain ⟨g2, e3, m2, a2, l2⟩ := sortNds_ok (g1 ++ [(p, z)]) (by simp; omega)
    have hg2 : NdsOk c g2 := fun x hx => by
      rcases List.mem_append.mp ((m2 x).mp hx) with hx | hx
      · exact hg1 x hx
      · rw [List.mem_singleton.mp hx]; exact ⟨by omega, hz⟩
    have l2' : g2.length ≤ 21 := by simp at l2; omega
    rw [e3, pB_R]
    refine wp_subset hs6 (by omega) (by omega) fun os s7 hsub hol hs7 => ?_
    have hos : NdsOk c os := fun x hx => hg2 x (hsub.subset hx)
    have hosA : os.Pairwise ndLt := List.Pairwise.sublist hsub a2
    simp only [pRng1_ok c (by omega), pB_R]
    -- the marks
    refine Wp.mapS (fun dn ys s => ∃ bs : List Bool, ys = bs.map .bool ∧ PoolOk (n + 80 + dn.length) s ∧ bs.length = dn.length) ⟨[], rfl, hs7.mono (by simp; omega), rfl⟩ (fun dn d rest2 ys s hd2 ⟨bs, ey, hs, hbl⟩ => ?_) (fun ys s ⟨bs, ey, hs, hbl⟩ => by rw [ey, List.length_map, hbl, rng_len]; omega) fun ys s ⟨bs, ey, hs, hbl⟩ => ?_
    · subst ey
      have hdl : dn.length < c := by
        have := congrArg List.length hd2
        simp only [rng_len, List.length_append, List.length_cons] at this
        omega
      refine wp_draw hs (by omega) (by decide) (by decide) fun j s3 hj hs3 => ?_
      simp only [pV_eqi, eqv_ii, pB_R]
      exact .ret ⟨bs ++ [decide ((j : Int) = 1)], by simp, hs3.mono (by simp; omega), by simp [hbl]⟩
    · subst ey
      rw [rng_len] at hbl hs
      simp only [pV_tupl, pB_R, pIt_l]
      -- the rows
      refine Wp.for (fun done rest st => ∃ (ps : List (List PRow)) (lsd lsr : List (List Wd)) (s : List Dt), st = (ps.map rowsE, s) ∧ PoolOk (n + 84 + 50 * lsd.length) s ∧ ls = lsd ++ lsr ∧ rest = lsr.map rowW ∧ ps.length = lsd.length ∧ tot ps = tot lsd ∧ outs ps = wOuts lsd ∧ ∀ rs ∈ ps, (∀ r ∈ rs, r.Ok c) ∧ rs.length ≤ 5)
        ⟨[], [], ls, s, rfl, hs.mono (by simp; omega), rfl, rfl, rfl, rfl, rfl, fun _ hx => by cases hx⟩ (fun done d rest st hd ⟨ps, lsd, lsr, s, est, hs, el, er, hlen, htt, hoo, hrr⟩ => ?_) fun st ⟨ps, lsd, lsr, s, est, hs, el, er, hlen, htt, hoo, hrr⟩ => ?_
      · subst est
        cases lsr with
        | nil => cases er
        | cons l lsr =>
          rw [List.map_cons, List.cons.injEq] at er
          obtain ⟨rfl, rfl⟩ := er
          have hlm := hok l (by rw [el]; simp)
          have hps : lsd.length < 4 := by
            have := congrArg List.length el
            simp at this
            omega
          unfold rowW
          simp only [pIt_l, pB_R]
          refine Wp.mapS (fun dn ys s => ∃ (rs : List PRow) (ld lr : List Wd), ys = rs.map PRow.enc ∧ PoolOk (n + 84 + 50 * lsd.length + 10 * ld.length) s ∧ l = ld ++ lr ∧ dn = ld.map wdE ∧ rs.length = ld.length ∧ nOut rs = wOut ld ∧ ∀ r ∈ rs, r.Ok c)
            ⟨[], [], l, rfl, hs, rfl, rfl, rfl, rfl, fun _ hx => by cases hx⟩ (fun dn d rest2 ys s hd2 ⟨rs, ld, lr, ey, hs, f1, f2, hl1, ho1, hr1⟩ => ?_) (fun ys s ⟨rs, ld, lr, ey, hs, f1, f2, hl1, ho1, hr1⟩ => ?_) fun ys s ⟨rs, ld, lr, ey, hs, f1, f2, hl1, ho1, hr1⟩ => ?_
          · subst ey f2
            have f3 : (ld ++ lr).map wdE = ld.map wdE ++ d :: rest2 := by rw [← f1]; exact hd2
            rw [List.map_append, List.append_cancel_left_eq] at f3
            cases lr with
            | nil => cases f3
            | cons x lr =>
              rw [List.map_cons, List.cons.injEq] at f3
              obtain ⟨rfl, rfl⟩ := f3
              have hld : ld.length < 5 := by
                have := congrArg List.length f1
                have := hlm.2
                simp at *
                omega
              have hxm : x ∈ l := by rw [f1]; simp
              obtain ⟨w, zz⟩ := x
              simp only [wdE, pT2_t]
              refine wp_row (x := (w, zz)) hs (by omega) (hlm.1 _ hxm) hg1 (by omega) c0 c4 fun r s3 hr hro hs3 => .ret ⟨rs ++ [r], ld ++ [(w, zz)], lr, by simp, hs3.mono (by simp; omega), by rw [f1]; simp, by simp [wdE], by simp [hl1], by rw [nOut_snoc, wOut_snoc, ho1, hro], fun y hy => ?_⟩
              rcases List.mem_append.mp hy with hy | hy
              · exact hr1 y hy
              · rw [List.mem_singleton.mp hy]; exact hr
          · subst ey
            have f3 := congrArg List.length f2
            have := hlm.2
            simp at f3 ⊢
            omega
          · subst ey
            have f3 : lr = [] := by
              have h1 := congrArg List.length f2
              have h2 := congrArg List.length f1
              simp at h1 h2
              exact List.length_eq_zero_iff.mp (by omega)
            subst f3
            rw [List.append_nil] at f1
            subst f1
            have h5 := hlm.2
            rw [pApp_ok (by simp; omega), pB_R]
            refine .ret ⟨ps ++ [rs], lsd ++ [l], lsr, s, by simp [rowsE], hs.mono (by simp; omega), by rw [el]; simp, rfl, by simp [hlen], by rw [tot_snoc, tot_snoc, htt, hl1], by rw [outs_snoc, wOuts_snoc, hoo, ho1], fun y hy => ?_⟩
            rcases List.mem_append.mp hy with hy | hy
            · exact hrr y hy
            · rw [List.mem_singleton.mp hy]; exact ⟨hr1, by omega⟩
      · subst est
        have f3 : lsr = [] := by
          cases lsr with
          | nil => rfl
          | cons _ _ => cases er
        subst f3
        rw [List.append_nil] at el
        subst el
        simp only [pV_tupl, pB_R]
        have hpl : ps.length = c := by rw [hlen]; exact hlc
        have ht := hw.tot
        have hou := hw.outs
        refine .ret (h ⟨ps, bs, es, os⟩ s ⟨?_, ?_, ?_, ?_, ?_, ?_, ?_, hasc, ?_, ?_, ?_, hosA, ?_⟩ (hs.mono (by omega)))
        · show 0 < ps.length; omega
        · show ps.length ≤ 4; omega
        · show ∀ rs ∈ ps, (∀ r ∈ rs, r.Ok ps.length) ∧ rs.length ≤ 5
          rw [hpl]; exact hrr
        · show tot ps ≤ 12; omega
        · show outs ps ≤ 2; omega
        · show bs.length = ps.length; omega
        · show ∀ e ∈ es, e < ps.length
          rw [hpl]; exact hes
        · show 1 ≤ es.length; omega
        · show es.length ≤ 3; omega
        · show NdsOk ps.length os
          rw [hpl]; exact hos
        · show os.length ≤ 4; omega
end
end G

/-! drawn programs are programs; places, lots -/
namespace DL
open PySem PySem.Spec L2
theorem isNum_nat {c n : Nat} (h : n < c) : isNum c (.int n) = true := by simp [isNum]; omega
theorem isName_str {s : Str} (h : s ∈ nm) : isName (.str s) = true := by simp [isName, h]
theorem isNamed_ok {c : Nat} {x : Nd} (h : NdOk c x) : isNamed c (nd x) = true := by
  obtain ⟨p, s⟩ := x
  simp only [nd_mk, isNamed, isNum_nat h.1, isName_str h.2, Bool.and_self]
theorem named_all {c : Nat} {ns : List Nd} (h : NdsOk c ns) : (ns.map nd).all (isNamed c) = true := by
  rw [List.all_map, List.all_eq_true]
  exact fun x hx => isNamed_ok (h x hx)
theorem isNeeds_ok {c : Nat} {most : Int} {ns : List Nd} (h : NdsOk c ns) (hl : (ns.length : Int) ≤ most) : isNeeds c most (.tuple (ns.map nd)) = true := by
  simp [isNeeds, hl, List.all_map] ; exact fun a b hx => isNamed_ok (h (a, b) hx)
theorem isRow_ok {c : Nat} {r : PRow} (h : r.Ok c) : isRow c r.enc = true := by
  cases r with
  | load p => simp [PRow.enc, isRow, isRowW, isNum_nat h]
  | give n ns b =>
    have := isNeeds_ok (most := 1) h.2.1 (by have := h.2.2; omega)
    simp [PRow.enc, isRow, isRowW, isName_str h.1, this, isFlag]
  | pass n p o => simp [PRow.enc, isRow, isRowW, isName_str h.1, isNum_nat h.2.1, isName_str h.2.2]
  | shw ns b =>
    have := isNeeds_ok (most := 2) h.1 (by have := h.2; omega)
    simp [PRow.enc, isRow, isRowW, this, isFlag]
  | late n p ns =>
    obtain ⟨h1, h2, h3, h4, h5⟩ := h
    have := isNeeds_ok (most := 2) h4 (by omega)
    simp [PRow.enc, isRow, isRowW, isLate, isName_str h1, h2, h3, this]
  | out => simp [PRow.enc, isRow, isRowW]
theorem isOut_enc (r : PRow) : isOutD r.enc = r.isOut := by
  cases r <;> simp [PRow.enc, isOutD, PRow.isOut]
theorem ascD_of {α : Type} {R : α → α → Prop} {f : α → Dt} (h : ∀ a b, R a b → PySem.W.dataLt (f a) (f b) = true) : ∀ {l : List α}, l.Pairwise R → ascD (l.map f) = true
  | [], _ => rfl
  | [_], _ => rfl
  | a :: b :: r, p => by
    rw [List.pairwise_cons] at p
    simp only [List.map_cons, ascD, h a b (p.1 b List.mem_cons_self), Bool.true_and]
    exact ascD_of h p.2
theorem sum_len (ps : List (List PRow)) : ((ps.map rowsE).map fun p => (rwsOf p).length).sum = tot ps := by
  unfold tot
  induction ps with
  | nil => rfl
  | cons p ps ih => simp only [List.map_cons, List.sum_cons, ih]; simp [rowsE, rwsOf]
theorem outs_len (ps : List (List PRow)) : (((ps.map rowsE).flatMap rwsOf).filter isOutD).length = outs ps := by
  unfold outs
  induction ps with
  | nil => rfl
  | cons p ps ih =>
    rw [List.map_cons, List.flatMap_cons, List.filter_append, List.length_append, ih, List.map_cons, List.sum_cons]
    congr 1
    show ((p.map PRow.enc).filter isOutD).length = nOut p
    unfold nOut
    rw [List.filter_map, List.length_map]
    congr 2
    funext r
    exact isOut_enc r
theorem isProg_ok {P : Prog} (h : P.Ok) : isProg P.enc = true := by
  have hc := h.c4
  have hc0 := h.c0
  have e1 : isParts (partsE P.parts) = true := by
    unfold partsE isParts
    have a1 : (P.parts.map rowsE).all isPart = true := by
      rw [List.all_map, List.all_eq_true]
      intro rs hr
      simpa [rowsE, isPart] using (h.rows rs hr).2
    have a2 : ((P.parts.map rowsE).all fun p => (rwsOf p).all (isRow ((P.parts.map rowsE).length : Nat))) = true := by
      rw [List.all_map, List.all_eq_true]
      intro rs hr
      simp only [Function.comp, rowsE, rwsOf, List.all_map, List.all_eq_true, List.length_map]
      exact fun r hrm => isRow_ok ((h.rows rs hr).1 r hrm)
    simp only [List.length_map] at a2
    simp only [a1, a2, sum_len, outs_len, List.length_map, h.tot12, h.outs2, hc, decide_true, Bool.and_true, Bool.and_self, show 1 ≤ P.parts.length from hc0]
  have en : nParts (partsE P.parts) = P.parts.length := by simp [partsE, nParts]
  have e2 : isMarks P.parts.length (.tuple (P.marks.map .bool)) = true := by
    simp only [isMarks, List.length_map, h.ml, decide_true, Bool.true_and, List.all_map]
    exact List.all_eq_true.mpr fun _ _ => rfl
  have e3 : isEntries P.parts.length (.tuple (P.entries.map fun (e : Nat) => .int e)) = true := by
    have a := ascD_of (f := fun (e : Nat) => PyData.int e) (fun a b (r : a < b) => by rw [PySem.W.dataLt_int]; simpa using r) h.entA
    simp only [isEntries, List.length_map, h.ent1, h.ent3, decide_true, Bool.true_and, List.all_map, a, Bool.and_true]
    exact List.all_eq_true.mpr fun e he => isNum_nat (h.ent e he)
  have e4 : isOpens P.parts.length (.tuple (P.opens.map nd)) = true := by
    have a := ascD_of (f := nd) (fun a b r => r) h.opnA
    simp only [isOpens, List.length_map, h.opn4, decide_true, Bool.true_and, named_all h.opn, a, Bool.and_true]
  simp only [Prog.enc, isProg, e1, en, e2, e3, e4, Bool.and_self]
theorem ndD_nd (x : Nd) : ndD (nd x) = true := by simp [nd, ndD, ndDs]
theorem ndD_nds {ns : List Nd} (h : ns.length ≤ 16384) : ndD (.tuple (ns.map nd)) = true := ndD_t' (fun x hx => by
  obtain ⟨y, _, rfl⟩ := List.mem_map.mp hx
  exact ndD_nd y) (by simpa using h)
theorem ndD_row {c : Nat} {r : PRow} (h : r.Ok c) : ndD r.enc = true := by
  cases r with
  | load p => simp [PRow.enc, ndD, ndDs]
  | give n ns b =>
    have := ndD_nds (ns := ns) (by have := h.2.2; omega)
    exact ndD_t' (by simp [this]) (by simp)
  | pass n p o => simp [PRow.enc, ndD, ndDs]
  | shw ns b =>
    have := ndD_nds (ns := ns) (by have := h.2; omega)
    exact ndD_t' (by simp [this]) (by simp)
  | late n p ns =>
    have := ndD_nds (ns := ns) (by have := h.2.2.2.2; omega)
    exact ndD_t' (by simp [this]) (by simp)
  | out => simp [PRow.enc, ndD, ndDs]
theorem ndD_rows {c : Nat} {rs : List PRow} (h : ∀ r ∈ rs, r.Ok c) (hl : rs.length ≤ 16384) : ndD (rowsE rs) = true := ndD_t' (fun x hx => by
  obtain ⟨r, hr, rfl⟩ := List.mem_map.mp hx
  exact ndD_row (h r hr)) (by simpa using hl)
theorem ndD_parts {P : Prog} (h : P.Ok) : ndD (partsE P.parts) = true := ndD_t' (fun x hx => by
  obtain ⟨rs, hr, rfl⟩ := List.mem_map.mp hx
  have := (h.rows rs hr).2
  exact ndD_rows (h.rows rs hr).1 (by omega)) (by have := h.c4; simp; omega)
theorem ndD_prog {P : Prog} (h : P.Ok) : ndD P.enc = true := by
  have a1 := ndD_parts h
  have a2 : ndD (.tuple (P.marks.map .bool)) = true := ndD_t' (fun x hx => by
    obtain ⟨b, _, rfl⟩ := List.mem_map.mp hx
    simp) (by have := h.ml; have := h.c4; simp; omega)
  have a3 : ndD (.tuple (P.entries.map fun (e : Nat) => .int e)) = true := ndD_t' (fun x hx => by
    obtain ⟨b, _, rfl⟩ := List.mem_map.mp hx
    simp) (by have := h.ent3; simp; omega)
  have a4 := ndD_nds (ns := P.opens) (by have := h.opn4; omega)
  exact ndD_t' (by simp [a1, a2, a3, a4]) (by simp)
/-! places -/
abbrev Pl := Nat × Nat
def pl (x : Pl) : Dt := .tuple [.int x.1, .int x.2]
@[simp] theorem pl_mk (p i : Nat) : pl (p, i) = .tuple [.int p, .int i] := rfl
def plsAt (p n : Nat) : List Pl := (List.range n).map fun i => (p, i)
def pls (P : Prog) : List Pl := (List.range P.parts.length).flatMap fun p => plsAt p (P.parts.getD p []).length
def Prog.Has (P : Prog) (x : Pl) : Prop := ∃ h : x.1 < P.parts.length, x.2 < P.parts[x.1].length
theorem mem_pls {P : Prog} {x : Pl} : x ∈ pls P ↔ P.Has x := by
  obtain ⟨p, i⟩ := x
  unfold pls plsAt Prog.Has
  simp only [List.mem_flatMap, List.mem_range, List.mem_map, Prod.mk.injEq]
  constructor
  · rintro ⟨q, hq, j, hj, rfl, rfl⟩
    refine ⟨hq, ?_⟩
    simpa [hq] using hj
  · rintro ⟨h1, h2⟩
    exact ⟨p, h1, i, by simpa [h1] using h2, rfl, rfl⟩
def plLt (a b : Pl) : Prop := a.1 < b.1 ∨ a.1 = b.1 ∧ a.2 < b.2
instance (a b : Pl) : Decidable (plLt a b) := by unfold plLt; exact inferInstance
theorem plLt_data (a b : Pl) : PySem.W.dataLt (pl a) (pl b) = decide (plLt a b) := by
  obtain ⟨p, i⟩ := a
  obtain ⟨q, j⟩ := b
  rw [pl_mk, pl_mk, PySem.W.dataLt_ii]
  apply decide_eq_decide.mpr
  unfold plLt
  simp only
  omega
theorem pls_asc (P : Prog) : (pls P).Pairwise plLt := by
  unfold pls
  rw [List.flatMap_def, List.pairwise_flatten]
  constructor
  · intro l hl
    obtain ⟨p, _, rfl⟩ := List.mem_map.mp hl
    unfold plsAt
    rw [List.pairwise_map]
    exact List.pairwise_lt_range.imp fun h => .inr ⟨rfl, h⟩
  · rw [List.pairwise_map]
    refine List.pairwise_lt_range.imp fun {a b} h x hx y hy => ?_
    unfold plsAt at hx hy
    obtain ⟨i, _, rfl⟩ := List.mem_map.mp hx
    obtain ⟨j, _, rfl⟩ := List.mem_map.mp hy
    exact .inl h
def isPlace (P : Prog) : Dt → Bool
  | .tuple [.int p, i] => (decide (0 ≤ p) && decide (p < P.parts.length)) && isNum ((P.parts.getD p.toNat []).length : Nat) i
  | _ => false
theorem isPlace_pl {P : Prog} {x : Pl} (h : P.Has x) : isPlace P (pl x) = true := by
  obtain ⟨p, i⟩ := x
  obtain ⟨h1, h2⟩ := h
  simp only at h1 h2
  simp [isPlace, isNum, h1, h2]
theorem isNum_nat' {c : Int} {d : Dt} (h : isNum c d = true) : ∃ n : Nat, d = .int n ∧ (n : Int) < c := by
  cases d with
  | int i =>
    simp [isNum] at h
    exact ⟨i.toNat, by congr 1; omega, by omega⟩
  | _ => simp [isNum] at h
theorem isPlace_has {P : Prog} {d : Dt} (h : isPlace P d = true) : ∃ x, d = pl x ∧ P.Has x := by
  unfold isPlace at h
  split at h
  · rename_i p i
    simp only [Bool.and_eq_true, decide_eq_true_eq] at h
    obtain ⟨⟨h0, h1⟩, h2⟩ := h
    obtain ⟨n, rfl, hn⟩ := isNum_nat' h2
    have hp : p.toNat < P.parts.length := by omega
    refine ⟨(p.toNat, n), ?_, hp, ?_⟩
    · simp; omega
    · simp [hp] at hn; omega
  · cases h
def isLot (P : Prog) : Dt → Bool
  | .tuple ds => ds.all (isPlace P) && ascD ds
  | _ => false
theorem cut_drop {α : Type} (ds : List α) (n : Nat) (h : n ≤ ds.length) : cutD ds (some (n : Int)) none = ds.drop n := by
  have e1 : HT.sIx ds.length 0 (some (n : Int)) = n := by
    rw [HT.sIx_nat]
    omega
  have e2 : HT.sIx ds.length ds.length none = ds.length := rfl
  unfold cutD
  rw [e1, e2]
  apply List.take_of_length_le
  simp
theorem cut_take {α : Type} (ds : List α) (n : Nat) (h : n ≤ ds.length) : cutD ds none (some (n : Int)) = ds.take n := by
  have e1 : HT.sIx ds.length ds.length (some (n : Int)) = n := by
    rw [HT.sIx_nat]
    omega
  have e2 : HT.sIx ds.length 0 none = 0 := rfl
  unfold cutD
  rw [e1, e2]
  simp
theorem pF_drop (ds : List Dt) (n : Nat) (h : n ≤ ds.length) : pF (slD (.list ds) (some (n : Int)) none) = pR (.list (ds.drop n)) := by
  show pF (some (.lst ((cutD ds (some (n : Int)) none).map .val))) = _
  rw [cut_drop ds n h, pF_lst]
theorem pF_take (ds : List Dt) (n : Nat) (h : n ≤ ds.length) : pF (slD (.list ds) none (some (n : Int))) = pR (.list (ds.take n)) := by
  show pF (some (.lst ((cutD ds none (some (n : Int))).map .val))) = _
  rw [cut_take ds n h, pF_lst]
end DL
namespace G
open PySem PySem.Spec L2 DL
theorem need_program_ok {P : Prog} (h : P.Ok) : p_need_program P.enc = pR .none := by
  unfold p_need_program
  rw [is_program_eq (ndD_prog h), isProg_ok h]
  rfl
end G

/-! programs as texts -/
namespace DL
open PySem PySem.Spec L2
theorem txI_len {n : Nat} (h : n < 10) : (txI n).length ≤ 1 := PyProof.Rows.toString_length_le (v := (n : Int)) (by omega) (by decide) (by omega)
theorem logI {n : Nat} (h : n < 1000) : decide (((n : Int)).natAbs.log2 < 1920) = true := by
  have := Nat.log2_le_self n
  exact decide_eq_true (by simp; omega)
theorem strc_ok {n : Nat} (h : n < 1000) : pV (strcD [.int (n : Int)]) = pR (.str (txI n)) := by
  unfold strcD
  simp only [logI h, if_true]
  rfl
theorem fmt_i {n : Nat} (h : n < 1000) : pFmt (.int (n : Int)) = pR (txI n) := by
  unfold pFmt
  simp only [logI h, if_true]
theorem fmt_s {s : Str} (h : s.length ≤ 10000) : pFmt (.str s) = pR s := by
  have : decide (s.length ≤ sizeLine) = true := decide_eq_true (by rw [sizeLine_eq]; omega)
  unfold pFmt
  simp only [this, if_true]
theorem cat_ok {a y : Str} (h : a.length + y.length ≤ 10000) : pCat a y = pR (a ++ y) := by
  have : decide ((a ++ y).length ≤ sizeLine) = true := decide_eq_true (by rw [sizeLine_eq, Str.length_append]; omega)
  unfold pCat
  simp only [this, if_true]
theorem cat_0 {y : Str} (h : y.length ≤ 10000) : pCat Str.empty y = pR y := by
  have e : Str.empty.length = 0 := rfl
  rw [cat_ok (by omega), Str.empty_append]
theorem adds_ok {a y : Str} (h : a.length + y.length ≤ 10000) : pV (addD (.str a) (.str y)) = pR (.str (a ++ y)) := by
  have : sz (a.length + y.length) = true := by simp [sz]; omega
  simp [addD, this]
/-! joins -/
theorem fold_size (g : Array Nat) : ∀ (l : List Str) (acc : Array Nat), (l.foldl (fun acc p => acc ++ g ++ p.cps) acc).size = acc.size + (l.map (·.length)).sum + l.length * g.size
  | [], acc => by simp
  | p :: l, acc => by
    rw [List.foldl_cons, fold_size g l]
    simp only [Array.size_append, List.map_cons, List.sum_cons, List.length_cons, Nat.succ_mul]
    show _ + g.size + p.length + _ + _ = _
    omega
theorem join_len (a : Str) (ys : List Str) : (Txt.join a ys).length ≤ (ys.map (·.length)).sum + ys.length * a.length := by
  show (Builtin.Str.glued a ys).length ≤ _
  unfold Builtin.Str.glued
  cases ys with
  | nil => show Str.empty.length ≤ _; exact Nat.zero_le _
  | cons y r =>
    show ((r.foldl (fun acc p => acc ++ a.cps ++ p.cps) y.cps).size) ≤ _
    rw [fold_size]
    simp only [List.map_cons, List.sum_cons, List.length_cons, Nat.succ_mul]
    show y.length + _ + r.length * a.length ≤ _
    omega
theorem sum_le {B : Nat} : ∀ {ys : List Str}, (∀ y ∈ ys, y.length ≤ B) → (ys.map (·.length)).sum ≤ ys.length * B
  | [], _ => by simp
  | y :: ys, h => by
    have := sum_le fun z hz => h z (List.mem_cons_of_mem _ hz)
    have := h y List.mem_cons_self
    simp only [List.map_cons, List.sum_cons, List.length_cons, Nat.succ_mul]
    omega
theorem strsD_map : ∀ ys : List Str, strsD (ys.map .str) = some ys
  | [] => rfl
  | y :: ys => by rw [List.map_cons, strsD, strsD_map ys]; rfl
theorem join_ok {a : Str} {ys : List Str} {B : Nat} (h : ∀ y ∈ ys, y.length ≤ B) (hl : ys.length ≤ 100) (hB : B ≤ 1000) (ha : a.length ≤ 1) : pV (joinD (.str a) (.list (ys.map .str))) = pR (.str (Txt.join a ys)) := by
  have h1 := sum_le h
  have h2 : ys.length * B ≤ 100 * 1000 := Nat.mul_le_mul hl hB
  have h3 : ys.length * a.length ≤ 100 * 1 := Nat.mul_le_mul hl ha
  have : joinOk a ys = true := decide_eq_true (by omega)
  simp [joinD, strsD_map, this]
theorem join_le {a : Str} {ys : List Str} {B : Nat} (h : ∀ y ∈ ys, y.length ≤ B) (ha : a.length ≤ 1) : (Txt.join a ys).length ≤ ys.length * (B + 1) := by
  have h1 := join_len a ys
  have h2 := sum_le h
  have h3 : ys.length * a.length ≤ ys.length * 1 := Nat.mul_le_mul_left _ ha
  rw [Nat.mul_add]
  omega
/-! the texts -/
def nmT (x : Nd) : Str := txI x.1 ++ "." ++ x.2
def nmsT (ns : List Nd) : Str := if ns = [] then "-" else Txt.join "," (ns.map nmT)
def lateT (p : Int) : Str := if p < 0 then "-" else txI p
def riskT (b : Bool) : Str := if b = true then " !" else ""
def rowT : PRow → Str
  | .load p => "load " ++ txI p
  | .give n ns r => "give " ++ n ++ " " ++ nmsT ns ++ riskT r
  | .pass n p o => "pass " ++ n ++ " " ++ txI p ++ "." ++ o
  | .shw ns r => "show " ++ nmsT ns ++ riskT r
  | .late n p ns => "late " ++ n ++ " " ++ lateT p ++ " " ++ nmsT ns
  | .out => "out"
@[simp] theorem l_dot : (("." : Str)).length = 1 := by decide +kernel
@[simp] theorem l_com : (("," : Str)).length = 1 := by decide +kernel
@[simp] theorem l_min : (("-" : Str)).length = 1 := by decide +kernel
@[simp] theorem l_sp : ((" " : Str)).length = 1 := by decide +kernel
@[simp] theorem l_em : (("" : Str)).length = 0 := by decide +kernel
@[simp] theorem l_nl : (("\n" : Str)).length = 1 := by decide +kernel
@[simp] theorem l_ri : ((" !" : Str)).length = 2 := by decide +kernel
@[simp] theorem l_load : (("load " : Str)).length = 5 := by decide +kernel
@[simp] theorem l_give : (("give " : Str)).length = 5 := by decide +kernel
@[simp] theorem l_pass : (("pass " : Str)).length = 5 := by decide +kernel
@[simp] theorem l_show : (("show " : Str)).length = 5 := by decide +kernel
@[simp] theorem l_late : (("late " : Str)).length = 5 := by decide +kernel
@[simp] theorem l_out : (("out" : Str)).length = 3 := by decide +kernel
@[simp] theorem l_ent : (("entries " : Str)).length = 8 := by decide +kernel
@[simp] theorem l_open : (("open " : Str)).length = 5 := by decide +kernel
@[simp] theorem l_part : (("part" : Str)).length = 4 := by decide +kernel
@[simp] theorem l_plain : (("part plain" : Str)).length = 10 := by decide +kernel
theorem nm_len {s : Str} (h : s ∈ nm) : s.length = 1 := by
  rcases nm_cases h with rfl | rfl | rfl | rfl <;> decide +kernel
theorem nmT_len {c : Nat} {x : Nd} (h : NdOk c x) (c4 : c ≤ 9) : (nmT x).length ≤ 3 := by
  have h1 := txI_len (n := x.1) (by have := h.1; omega)
  have h2 := nm_len h.2
  simp only [nmT, Str.length_append, l_dot]
  omega
theorem nmsT_len {c : Nat} {ns : List Nd} (h : NdsOk c ns) (c4 : c ≤ 9) (hl : ns.length ≤ 10) : (nmsT ns).length ≤ 40 := by
  unfold nmsT
  split
  · simp
  · have := join_le (a := ",") (ys := ns.map nmT) (B := 3) (fun y hy => by
      obtain ⟨x, hx, rfl⟩ := List.mem_map.mp hy
      exact nmT_len (h x hx) c4) (by simp)
    simp only [List.length_map] at this
    omega
theorem lateT_len {p : Int} (h : p < 9) : (lateT p).length ≤ 1 := by
  unfold lateT
  split
  · simp
  · have := txI_len (n := p.toNat) (by omega)
    rw [Int.toNat_of_nonneg (by omega)] at this
    exact this
theorem riskT_len (b : Bool) : (riskT b).length ≤ 2 := by cases b <;> simp [riskT]
theorem rowT_len {c : Nat} {r : PRow} (h : r.Ok c) (c4 : c ≤ 4) : (rowT r).length ≤ 100 := by
  cases r with
  | load p =>
    have := txI_len (n := p) (by have : p < c := h; omega)
    simp only [rowT, Str.length_append, l_load]
    omega
  | give n ns r =>
    have h1 := nm_len h.1
    have h2 := nmsT_len h.2.1 (by omega) (by have := h.2.2; omega)
    have h3 := riskT_len r
    simp only [rowT, Str.length_append, l_give, l_sp]
    omega
  | pass n p o =>
    have h1 := nm_len h.1
    have h2 := txI_len (n := p) (by have := h.2.1; omega)
    have h3 := nm_len h.2.2
    simp only [rowT, Str.length_append, l_pass, l_sp, l_dot]
    omega
  | shw ns r =>
    have h2 := nmsT_len h.1 (by omega) (by have := h.2; omega)
    have h3 := riskT_len r
    simp only [rowT, Str.length_append, l_show]
    omega
  | late n p ns =>
    obtain ⟨h1, h2, h3, h4, h5⟩ := h
    have h1 := nm_len h1
    have h2 := nmsT_len h4 (by omega) (by omega)
    have h3 := lateT_len (p := p) (by omega)
    simp only [rowT, Str.length_append, l_late, l_sp]
    omega
  | out => simp [rowT]
def ptT (x : List PRow × Bool) : List Str := (if x.2 = true then "part plain" else "part") :: x.1.map rowT
def Prog.hdr (P : Prog) : List Str := ["entries " ++ Txt.join "" (P.entries.map fun (e : Nat) => txI e), "open " ++ nmsT P.opens]
def Prog.lines (P : Prog) : List Str := P.hdr ++ (P.parts.zip P.marks).flatMap ptT
theorem mem_zipP {P : Prog} {x : List PRow × Bool} (h : x ∈ P.parts.zip P.marks) : x.1 ∈ P.parts := (List.of_mem_zip h).1
theorem ptT_len {P : Prog} (h : P.Ok) {x : List PRow × Bool} (hx : x ∈ P.parts.zip P.marks) : (ptT x).length ≤ 6 ∧ ∀ y ∈ ptT x, y.length ≤ 100 := by
  have hr := h.rows _ (mem_zipP hx)
  refine ⟨by simp [ptT]; exact hr.2, fun y hy => ?_⟩
  unfold ptT at hy
  rcases List.mem_cons.mp hy with rfl | hy
  · split <;> simp
  · obtain ⟨r, hrm, rfl⟩ := List.mem_map.mp hy
    exact rowT_len (hr.1 r hrm) h.c4
theorem hdr_len {P : Prog} (h : P.Ok) : ∀ y ∈ P.hdr, y.length ≤ 100 := by
  have hc := h.c4
  intro y hy
  simp only [Prog.hdr, List.mem_cons, List.not_mem_nil, or_false] at hy
  rcases hy with rfl | rfl
  · have := join_le (a := "") (ys := P.entries.map fun (e : Nat) => txI e) (B := 1) (fun y hy => by
      obtain ⟨e, he, rfl⟩ := List.mem_map.mp hy
      exact txI_len (by have := h.ent e he; omega)) (by simp)
    have h3 := h.ent3
    simp only [Str.length_append, l_ent, List.length_map] at this ⊢
    omega
  · have := nmsT_len h.opn (by omega) (by have := h.opn4; omega)
    simp only [Str.length_append, l_open]
    omega
theorem flat_len {α β : Type} {B : Nat} (f : α → List β) : ∀ (l : List α), (∀ x ∈ l, (f x).length ≤ B) → (l.flatMap f).length ≤ B * l.length
  | [], _ => by simp
  | x :: l, h => by
    have := flat_len f l fun y hy => h y (List.mem_cons_of_mem _ hy)
    have := h x List.mem_cons_self
    rw [List.flatMap_cons, List.length_append, List.length_cons, Nat.mul_succ]
    omega
theorem lines_len {P : Prog} (h : P.Ok) : P.lines.length ≤ 26 ∧ ∀ y ∈ P.lines, y.length ≤ 100 := by
  have hc := h.c4
  have hz : (P.parts.zip P.marks).length ≤ 4 := by rw [List.length_zip]; omega
  refine ⟨?_, fun y hy => ?_⟩
  · have := flat_len (B := 6) ptT (P.parts.zip P.marks) fun x hx => (ptT_len h hx).1
    simp only [Prog.lines, Prog.hdr, List.length_append, List.length_cons, List.length_nil]
    omega
  · rcases List.mem_append.mp hy with hy | hy
    · exact hdr_len h y hy
    · obtain ⟨x, hx, hy⟩ := List.mem_flatMap.mp hy
      exact (ptT_len h hx).2 y hy
def Prog.text (P : Prog) : Str := Txt.join "\n" P.lines
theorem lines_join {P : Prog} (h : P.Ok) : pV (joinD (.str "\n") (.list (P.lines.map .str))) = pR (.str P.text) := join_ok (lines_len h).2 (by have := (lines_len h).1; omega) (by decide) (by simp)
theorem ix_last2 (a b : Dt) : pV (ixD (.list [a, b]) (.int (-1))) = pR b := by simp [ixD, atI, ixN]
theorem ix_last3 (a b c : Dt) : pV (ixD (.list [a, b, c]) (.int (-1))) = pR c := by simp [ixD, atI, ixN]
theorem ixt_last3 (a b c : Dt) : pV (ixD (.tuple [a, b, c]) (.int (-1))) = pR c := by simp [ixD, atI, ixN]
theorem ixt_last4 (a b c d : Dt) : pV (ixD (.tuple [a, b, c, d]) (.int (-1))) = pR d := by simp [ixD, atI, ixN]
theorem truD_b (b : Bool) : pO (truD (.bool b)) = pR b := rfl
end DL

/-! show_program and what the law writes -/
namespace G
open PySem PySem.Spec L2 DL
def nmtD : Dt → Dt
  | .tuple [.int p, .str s] => .str (txI p ++ "." ++ s)
  | _ => .none
theorem nmt_map (ns : List Nd) : (ns.map nd).map nmtD = (ns.map nmT).map .str := by
  rw [List.map_map, List.map_map]
  rfl
theorem written_name_eq {c : Nat} {x : Nd} (h : NdOk c x) (c4 : c ≤ 4) : p_written_name (nd x) = pR (.str (nmT x)) := by
  obtain ⟨p, s⟩ := x
  have h1 := txI_len (n := p) (by have : p < c := h.1; omega)
  have h2 := nm_len (s := s) h.2
  have hp : p < c := h.1
  unfold p_written_name
  rw [nd_mk, pV_ix0, pB_R, fmt_i (by omega), pB_R, cat_0 (by omega), pB_R, cat_ok (by simp; omega), pB_R, pV_ix1, pB_R, fmt_s (by omega), pB_R, cat_ok (by simp only [Str.length_append, l_dot]; omega), pB_R]
  rfl
theorem written_names_eq {c : Nat} {ns : List Nd} (h : NdsOk c ns) (c4 : c ≤ 4) (hl : ns.length ≤ 10) : p_written_names (.tuple (ns.map nd)) = pR (.str (nmsT ns)) := by
  unfold p_written_names nmsT
  rw [pV_lent, pB_R, List.length_map]
  by_cases h0 : ns = []
  · subst h0
    simp
  · have hp : (0 : Int) < (ns.length : Nat) := by have := List.length_pos_iff.mpr h0; omega
    have hm := pMap_ok (ds := ns.map nd) (f := fun name_5 => pB (p_written_name name_5) fun r_7 => pR r_7) nmtD (fun d hd => by
      obtain ⟨x, hx, rfl⟩ := List.mem_map.mp hd
      rw [written_name_eq (h x hx) c4]
      rfl) (by simp; omega)
    simp only [pC_gt, hp, decide_true, pB_R, if_true, pIt_t, hm, nmt_map, h0, if_false]
    rw [join_ok (B := 3) (fun y hy => by
      obtain ⟨x, hx, rfl⟩ := List.mem_map.mp hy
      exact nmT_len (h x hx) (by omega)) (by simp; omega) (by decide) (by simp), pB_R, pB_R]
theorem names_text_eq {c : Nat} {ns : List Nd} (h : NdsOk c ns) (c4 : c ≤ 4) (hl : ns.length ≤ 10) : p__law_names_text (.tuple (ns.map nd)) = pR (.str (nmsT ns)) := by
  unfold p__law_names_text nmsT
  rw [pC_eq (.inr (by simp [PyData.depth, PyData.depthAll])), eqv_tt, pB_R]
  by_cases h0 : ns = []
  · subst h0
    simp
  · have he : PyData.eqvAll (ns.map nd) [] = false := by
      cases ns with
      | nil => exact absurd rfl h0
      | cons a b => simp
    have hm := pMap_ok (ds := ns.map nd) (f := fun d_3 =>
       pT2 d_3 fun part_5 name_6 =>
       pB (pV (strcD [part_5])) fun v_7 =>
       pB (pV (addD v_7 (.str "."))) fun v_8 =>
       pB (pV (addD v_8 name_6)) fun v_9 =>
       pR v_9) nmtD (fun d hd => by
      obtain ⟨⟨p, s⟩, hx, rfl⟩ := List.mem_map.mp hd
      have hp : p < c := (h _ hx).1
      have h1 := txI_len (n := p) (by omega)
      have h2 := nm_len (s := s) (h _ hx).2
      rw [nd_mk, pT2_t, strc_ok (by omega), pB_R, adds_ok (by simp; omega), pB_R, adds_ok (by simp only [Str.length_append, l_dot]; omega), pB_R]
      rfl) (by simp; omega)
    simp only [he, Bool.false_eq_true, if_false, pIt_t, pB_R, hm, nmt_map, h0]
    rw [join_ok (B := 3) (fun y hy => by
      obtain ⟨x, hx, rfl⟩ := List.mem_map.mp hy
      exact nmT_len (h x hx) (by omega)) (by simp; omega) (by decide) (by simp), pB_R]
theorem risk_eq (b : Bool) : (if b = true then pR (PyData.str " !") else pR (.str "")) = pR (.str (riskT b)) := by cases b <;> rfl
theorem written_row_eq {c : Nat} {r : PRow} (h : r.Ok c) (c4 : c ≤ 4) : p_written_row r.enc = pR (.str (rowT r)) := by
  unfold p_written_row
  cases r with
  | load p =>
    have hp : p < c := h
    have h1 := txI_len (n := p) (by omega)
    rw [PRow.enc, pS21_t _ _ _ (by simp)]
    simp only [pC_eqs, eqv_ss, pB_R, w_load_load, if_true]
    rw [cat_0 (by simp), pB_R, pV_ix0l, pB_R, fmt_i (by omega), pB_R, cat_ok (by simp only [l_load]; omega), pB_R]
    rfl
  | give n ns b =>
    have h1 := nm_len h.1
    have h2 := nmsT_len h.2.1 (by omega) (by have := h.2.2; omega)
    have h3 := riskT_len b
    have e := written_names_eq h.2.1 c4 (by have := h.2.2; omega)
    rw [PRow.enc, pS21_t _ _ _ (by simp)]
    simp only [pC_eqs, eqv_ss, pB_R, w_give_load, w_give_pass, w_give_late, w_give_out, w_give_give, Bool.false_eq_true, if_false, if_true, pNeg_i, ix_last3, truD_b, risk_eq]
    rw [cat_0 (by simp), pB_R, pV_ix0l, pB_R, fmt_s (by omega), pB_R, cat_ok (by simp only [l_give]; omega), pB_R, cat_ok (by simp only [Str.length_append, l_give, l_sp]; omega), pB_R, pV_ix1l, pB_R, e, pB_R, fmt_s (by omega), pB_R,
      cat_ok (by simp only [Str.length_append, l_give, l_sp]; omega), pB_R, fmt_s (by omega), pB_R, cat_ok (by simp only [Str.length_append, l_give, l_sp]; omega), pB_R]
    rfl
  | pass n p o =>
    obtain ⟨g1, g2, g3⟩ := h
    have h1 := nm_len g1
    have h2 := txI_len (n := p) (by omega)
    have h3 := nm_len g3
    rw [PRow.enc, pS21_t _ _ _ (by simp)]
    simp only [pC_eqs, eqv_ss, pB_R, w_pass_load, w_pass_pass, Bool.false_eq_true, if_false, if_true]
    rw [cat_0 (by simp), pB_R, pV_ix0l, pB_R, fmt_s (by omega), pB_R, cat_ok (by simp only [l_pass]; omega), pB_R, cat_ok (by simp only [Str.length_append, l_pass, l_sp]; omega), pB_R, pV_ix1l, pB_R, fmt_i (by omega), pB_R,
      cat_ok (by simp only [Str.length_append, l_pass, l_sp]; omega), pB_R, cat_ok (by simp only [Str.length_append, l_pass, l_sp, l_dot]; omega), pB_R, pV_ix2l, pB_R, fmt_s (by omega), pB_R, cat_ok (by simp only [Str.length_append, l_pass, l_sp, l_dot]; omega), pB_R]
    rfl
  | shw ns b =>
    have h2 := nmsT_len h.1 (by omega) (by have := h.2; omega)
    have h3 := riskT_len b
    have e := written_names_eq h.1 c4 (by have := h.2; omega)
    rw [PRow.enc, pS21_t _ _ _ (by simp)]
    simp only [pC_eqs, eqv_ss, pB_R, w_show_load, w_show_pass, w_show_late, w_show_out, w_show_give, Bool.false_eq_true, if_false, if_true, pNeg_i, ix_last2, truD_b, risk_eq]
    rw [cat_0 (by simp), pB_R, pV_ix0l, pB_R, e, pB_R, fmt_s (by omega), pB_R, cat_ok (by simp only [l_show]; omega), pB_R, fmt_s (by omega), pB_R, cat_ok (by simp only [Str.length_append, l_show]; omega), pB_R]
    rfl
  | late n p ns =>
    obtain ⟨g1, g2, g3, g4, g5⟩ := h
    have h1 := nm_len g1
    have h2 := nmsT_len g4 (by omega) (by omega)
    have h3 := lateT_len (p := p) (by omega)
    have e := written_names_eq g4 c4 (by omega)
    have el : (pB (pC ltI (.int p) (.int 0)) fun b_24 => if b_24 = true then pR (PyData.str "-") else pB (pR (PyData.int p)) fun v_25 => pB (pV (strcD [v_25])) fun v_26 => pR v_26) = pR (.str (lateT p)) := by
      unfold lateT
      by_cases h0 : p < 0
      · simp [h0]
      · obtain ⟨q, rfl⟩ : ∃ q : Nat, p = q := ⟨p.toNat, by omega⟩
        simp [h0, strc_ok (n := q) (by omega)]
    rw [PRow.enc, pS21_t _ _ _ (by simp)]
    simp only [pC_eqs, eqv_ss, pB_R, w_late_load, w_late_pass, w_late_late, Bool.false_eq_true, if_false, if_true]
    rw [pV_ix1l, pB_R, el, pB_R, cat_0 (by simp), pB_R, pV_ix0l, pB_R, fmt_s (by omega), pB_R, cat_ok (by simp only [l_late]; omega), pB_R, cat_ok (by simp only [Str.length_append, l_late, l_sp]; omega), pB_R, fmt_s (by omega), pB_R,
      cat_ok (by simp only [Str.length_append, l_late, l_sp]; omega), pB_R, cat_ok (by simp only [Str.length_append, l_late, l_sp]; omega), pB_R, pV_ix2l, pB_R, e, pB_R, fmt_s (by omega), pB_R, cat_ok (by simp only [Str.length_append, l_late, l_sp]; omega), pB_R]
    rfl
  | out =>
    rw [PRow.enc, pS21_t _ _ _ (by simp)]
    simp only [pC_eqs, eqv_ss, pB_R, w_out_load, w_out_pass, w_out_late, w_out_out, Bool.false_eq_true, if_false, if_true]
    rfl
theorem law_line_eq {c : Nat} {r : PRow} (h : r.Ok c) (c4 : c ≤ 4) : p__law_line r.enc = pR (.str (rowT r)) := by
  unfold p__law_line
  cases r with
  | load p =>
    have hp : p < c := h
    have h1 := txI_len (n := p) (by omega)
    simp only [PRow.enc, pV_ix0, pV_ix1, pC_eqs, eqv_ss, pB_R, w_load_load, if_true]
    rw [strc_ok (by omega), pB_R, adds_ok (by simp only [l_load]; omega), pB_R]
    rfl
  | give n ns b =>
    have h1 := nm_len h.1
    have h2 := nmsT_len h.2.1 (by omega) (by have := h.2.2; omega)
    have h3 := riskT_len b
    have e := names_text_eq h.2.1 c4 (by have := h.2.2; omega)
    simp only [PRow.enc, pV_ix0, pV_ix1, pV_ix2, pC_eqs, eqv_ss, pB_R, w_give_load, w_give_pass, w_give_late, w_give_out, w_give_give, Bool.false_eq_true, if_false, if_true, pNeg_i, ixt_last4, truD_b, risk_eq]
    rw [adds_ok (by simp only [l_give]; omega), pB_R, adds_ok (by simp only [Str.length_append, l_give, l_sp]; omega), pB_R, e, pB_R, adds_ok (by simp only [Str.length_append, l_give, l_sp]; omega), pB_R, adds_ok (by simp only [Str.length_append, l_give, l_sp]; omega), pB_R]
    rfl
  | pass n p o =>
    obtain ⟨g1, g2, g3⟩ := h
    have h1 := nm_len g1
    have h2 := txI_len (n := p) (by omega)
    have h3 := nm_len g3
    simp only [PRow.enc, pV_ix0, pV_ix1, pV_ix2, pV_ix3, pC_eqs, eqv_ss, pB_R, w_pass_load, w_pass_pass, Bool.false_eq_true, if_false, if_true]
    rw [adds_ok (by simp only [l_pass]; omega), pB_R, adds_ok (by simp only [Str.length_append, l_pass, l_sp]; omega), pB_R, strc_ok (by omega), pB_R, adds_ok (by simp only [Str.length_append, l_pass, l_sp]; omega), pB_R,
      adds_ok (by simp only [Str.length_append, l_pass, l_sp, l_dot]; omega), pB_R, adds_ok (by simp only [Str.length_append, l_pass, l_sp, l_dot]; omega), pB_R]
    rfl
  | shw ns b =>
    have h2 := nmsT_len h.1 (by omega) (by have := h.2; omega)
    have h3 := riskT_len b
    have e := names_text_eq h.1 c4 (by have := h.2; omega)
    simp only [PRow.enc, pV_ix0, pV_ix1, pC_eqs, eqv_ss, pB_R, w_show_load, w_show_pass, w_show_late, w_show_out, w_show_give, Bool.false_eq_true, if_false, if_true, pNeg_i, ixt_last3, truD_b, risk_eq]
    rw [e, pB_R, adds_ok (by simp only [l_show]; omega), pB_R, adds_ok (by simp only [Str.length_append, l_show]; omega), pB_R]
    rfl
  | late n p ns =>
    obtain ⟨g1, g2, g3, g4, g5⟩ := h
    have h1 := nm_len g1
    have h2 := nmsT_len g4 (by omega) (by omega)
    have h3 := lateT_len (p := p) (by omega)
    have e := names_text_eq g4 c4 (by omega)
    have el : (pB (pC eqD (.int p) (.int (-1))) fun b_25 => if b_25 = true then pR (PyData.str "-") else pB (pR (PyData.int p)) fun v_26 => pB (pV (strcD [v_26])) fun v_27 => pR v_27) = pR (.str (lateT p)) := by
      unfold lateT
      by_cases h0 : p < 0
      · have : p = -1 := by omega
        subst this
        simp
      · obtain ⟨q, rfl⟩ : ∃ q : Nat, p = q := ⟨p.toNat, by omega⟩
        have : ¬ ((q : Int) = -1) := by omega
        simp [h0, this, strc_ok (n := q) (by omega)]
    simp only [PRow.enc, pV_ix0, pV_ix1, pC_eqs, eqv_ss, pB_R, w_late_load, w_late_pass, w_late_late, Bool.false_eq_true, if_false, if_true, pNeg_i]
    rw [adds_ok (by simp only [l_late]; omega), pB_R, adds_ok (by simp only [Str.length_append, l_late, l_sp]; omega), pB_R, pV_ix2, pB_R, el, pB_R, adds_ok (by simp only [Str.length_append, l_late, l_sp]; omega), pB_R, adds_ok (by simp only [Str.length_append, l_late, l_sp]; omega), pB_R, pV_ix3, pB_R, e, pB_R, adds_ok (by simp only [Str.length_append, l_late, l_sp]; omega), pB_R]
    rfl
  | out =>
    simp only [PRow.enc, pV_ix0, pC_eqs, eqv_ss, pB_R, w_out_load, w_out_pass, w_out_late, w_out_out, Bool.false_eq_true, if_false, if_true]
    rfl
theorem zipP (P : Prog) : pZip (partsE P.parts) (.tuple (P.marks.map .bool)) = pR ((P.parts.zip P.marks).map fun x => .tuple [rowsE x.1, .bool x.2]) := by
  show pR (((P.parts.map rowsE).zip (P.marks.map PyData.bool)).map fun x => PyData.tuple [x.1, x.2]) = _
  rw [List.zip_map, List.map_map]
  rfl
theorem ents_eq {P : Prog} (h : P.Ok) : pMap (P.entries.map fun (e : Nat) => PyData.int e) (fun part_7 => pB (pV (strcD [part_7])) fun v_9 => pR v_9) = pR ((P.entries.map fun (e : Nat) => txI e).map .str) := by
  have hc := h.c4
  rw [pMap_ok (fun d => match d with
    | .int i => .str (txI i)
    | _ => .none) (fun d hd => by
    obtain ⟨e, he, rfl⟩ := List.mem_map.mp hd
    rw [strc_ok (by have := h.ent e he; omega)]
    rfl) (by have := h.ent3; simp; omega), List.map_map, List.map_map]
  rfl
theorem head_ok {P : Prog} (h : P.Ok) : pV (joinD (.str "") (.list ((P.entries.map fun (e : Nat) => txI e).map .str))) = pR (.str (Txt.join "" (P.entries.map fun (e : Nat) => txI e))) ∧ pV (addD (.str "entries ") (.str (Txt.join "" (P.entries.map fun (e : Nat) => txI e)))) = pR (.str ("entries " ++ Txt.join "" (P.entries.map fun (e : Nat) => txI e))) ∧ pV (addD (.str "open ") (.str (nmsT P.opens))) = pR (.str ("open " ++ nmsT P.opens)) := by
  have hc := h.c4
  have h3 := h.ent3
  have hB : ∀ y ∈ P.entries.map fun (e : Nat) => txI e, y.length ≤ 1 := fun y hy => by
    obtain ⟨e, he, rfl⟩ := List.mem_map.mp hy
    exact txI_len (by have := h.ent e he; omega)
  refine ⟨join_ok hB (by simp; omega) (by decide) (by simp), adds_ok ?_, adds_ok ?_⟩
  · have := join_le (a := "") hB (by simp)
    simp only [l_ent, List.length_map] at this ⊢
    omega
  · have := nmsT_len h.opn (by omega) (by have := h.opn4; omega)
    simp only [l_open]
    omega
theorem mark_eq (b : Bool) : (if b = true then pR (PyData.str "part plain") else pR (.str "part")) = pR (.str (if b = true then "part plain" else "part")) := by cases b <;> rfl
theorem flat_pre {P : Prog} (h : P.Ok) {a b : List (List PRow × Bool)} (e : P.parts.zip P.marks = a ++ b) : (P.hdr ++ a.flatMap ptT).length ≤ 26 := by
  have hc := h.c4
  have hz : (P.parts.zip P.marks).length ≤ 4 := by rw [List.length_zip]; omega
  have hal : a.length ≤ 4 := by
    have := congrArg List.length e
    rw [List.length_append] at this
    omega
  have := flat_len (B := 6) ptT a fun x hx => (ptT_len h (by rw [e]; exact List.mem_append_left _ hx)).1
  simp only [Prog.hdr, List.length_append, List.length_cons, List.length_nil]
  omega
theorem show_program_eq {P : Prog} (h : P.Ok) : p_show_program P.enc = pR (.str P.text) := by
  have hc := h.c4
  obtain ⟨j1, j2, j3⟩ := head_ok h
  suffices w : Wp (p_show_program P.enc) fun r => r = .str P.text by
    obtain ⟨_, e, rfl⟩ := w
    exact e
  unfold p_show_program
  rw [need_program_ok h, pB_R]
  unfold Prog.enc
  rw [pT4_t, pIt_t, pB_R, ents_eq h, pB_R, j1, pB_R, j2, pB_R, written_names_eq h.opn hc (by have := h.opn4; omega), pB_R, j3, pB_R, zipP, pB_R]
  refine Wp.for (fun done rest st => ∃ a b : List (List PRow × Bool), done = a.map (fun x => .tuple [rowsE x.1, .bool x.2]) ∧ rest = b.map (fun x => .tuple [rowsE x.1, .bool x.2]) ∧ P.parts.zip P.marks = a ++ b ∧ st = (P.hdr ++ a.flatMap ptT).map .str) ⟨[], _, rfl, rfl, rfl, by simp [Prog.hdr]⟩ (fun done d rest st hd ⟨a, b, e1, e2, e3, e4⟩ => ?_) fun st ⟨a, b, e1, e2, e3, e4⟩ => ?_
  · subst e1 e4
    cases b with
    | nil => cases e2
    | cons x b =>
      rw [List.map_cons, List.cons.injEq] at e2
      obtain ⟨rfl, rfl⟩ := e2
      have hx : x ∈ P.parts.zip P.marks := by rw [e3]; simp
      have hr := h.rows _ (mem_zipP hx)
      have h26 := flat_pre h e3
      obtain ⟨rs, m⟩ := x
      simp only at hr
      have hm := pMap_ok (ds := rs.map PRow.enc) (f := fun row_24 => pB (p_written_row row_24) fun r_26 => pR r_26) (fun d => match p_written_row d with
        | some (.ok y) => y
        | _ => .none) (fun d hd => by
        obtain ⟨r, hrm, rfl⟩ := List.mem_map.mp hd
        rw [written_row_eq (hr.1 r hrm) hc]
        rfl) (by simp; omega)
      have em : ((rs.map PRow.enc).map fun d => match p_written_row d with
        | some (.ok y) => y
        | _ => .none) = (rs.map rowT).map .str := by
        rw [List.map_map, List.map_map]
        refine List.map_congr_left fun r hrm => ?_
        simp only [Function.comp]
        rw [written_row_eq (hr.1 r hrm) hc]
        rfl
      rw [pT2_t, truD_b, pB_R, mark_eq, pB_R, pApp_ok (by rw [List.length_map]; omega), pB_R]
      unfold rowsE
      rw [pIt_t, pB_R, hm, pB_R, em]
      have hz : sz (((P.hdr ++ a.flatMap ptT).map PyData.str ++ [PyData.str (if m = true then "part plain" else "part")]).length + ((rs.map rowT).map PyData.str).length) = true := by
        simp only [sz, List.length_append, List.length_map, List.length_singleton] at h26 ⊢
        exact decide_eq_true (by omega)
      unfold pExt
      rw [if_pos hz, pB_R]
      exact .ret ⟨a ++ [(rs, m)], b, by simp, by simp, by rw [e3]; simp, by simp [ptT]⟩
  · have : b = [] := by cases b with
      | nil => rfl
      | cons _ _ => cases e2
    subst this
    rw [List.append_nil] at e3
    subst e4
    have e5 : P.hdr ++ a.flatMap ptT = P.lines := by rw [Prog.lines, e3]
    rw [e5, lines_join h, pB_R]
    exact .ret rfl
theorem law_lines_eq {P : Prog} (h : P.Ok) : p__law_lines P.enc = pR (P.lines.map .str) := by
  have hc := h.c4
  have hml := h.ml
  obtain ⟨j1, j2, j3⟩ := head_ok h
  suffices w : Wp (p__law_lines P.enc) fun r => r = P.lines.map .str by
    obtain ⟨_, e, rfl⟩ := w
    exact e
  unfold p__law_lines
  have i0 : pV (ixD P.enc (.int 0)) = pR (partsE P.parts) := by unfold Prog.enc; simp
  have i1 : pV (ixD P.enc (.int 1)) = pR (.tuple (P.marks.map .bool)) := by unfold Prog.enc; simp
  have i2 : pV (ixD P.enc (.int 2)) = pR (.tuple (P.entries.map fun (e : Nat) => .int e)) := by unfold Prog.enc; simp
  have i3 : pV (ixD P.enc (.int 3)) = pR (.tuple (P.opens.map nd)) := by unfold Prog.enc; simp
  have il : pV (lenD [partsE P.parts]) = pR (.int (P.parts.length : Nat)) := by simp [partsE]
  rw [i2, pB_R, pIt_t, pB_R, ents_eq h, pB_R, j1, pB_R, j2, pB_R, i3, pB_R, names_text_eq h.opn hc (by have := h.opn4; omega), pB_R, j3, pB_R, i0, pB_R, il, pB_R, pRng1_ok _ (by omega), pB_R]
  refine Wp.for (fun done rest st => ∃ m : Nat, done = rngD 0 m ∧ m ≤ P.parts.length ∧ st = (P.hdr ++ ((P.parts.zip P.marks).take m).flatMap ptT).map .str) ⟨0, rfl, Nat.zero_le _, by simp [Prog.hdr]⟩ (fun done d rest st hd ⟨m, e1, e2, e4⟩ => ?_) fun st ⟨m, e1, e2, e4⟩ => ?_
  · subst e1 e4
    have hm : m < P.parts.length := by
      have := congrArg List.length hd
      simp only [rng_len, List.length_append, List.length_cons] at this
      omega
    have ed : d = .int m := by
      have e1 := congrArg (fun l : List Dt => l[m]?) hd
      simp [rngD, hm] at e1
      exact e1.symm
    subst ed
    have hz : m < (P.parts.zip P.marks).length := by rw [List.length_zip]; omega
    have h26 := flat_pre h (List.take_append_drop m (P.parts.zip P.marks)).symm
    have hr := h.rows _ (List.getElem_mem hm)
    have k1 : pV (ixD (.tuple (P.marks.map .bool)) (.int (m : Int))) = pR (.bool (P.marks[m]'(by omega))) := by
      rw [pV_ixt (by simp; omega)]
      simp
    have k0 : pV (ixD (partsE P.parts) (.int (m : Int))) = pR (rowsE P.parts[m]) := by
      unfold partsE
      rw [pV_ixt (by simpa using hm)]
      simp
    have hmp := pMap_ok (ds := P.parts[m].map PRow.enc) (f := fun row_25 => pB (p__law_line row_25) fun r_27 => pR r_27) (fun d => match p__law_line d with
        | some (.ok y) => y
        | _ => .none) (fun d hd => by
        obtain ⟨r, hrm, rfl⟩ := List.mem_map.mp hd
        rw [law_line_eq (hr.1 r hrm) hc]
        rfl) (by simp; omega)
    have em : ((P.parts[m].map PRow.enc).map fun d => match p__law_line d with
        | some (.ok y) => y
        | _ => .none) = (P.parts[m].map rowT).map .str := by
        rw [List.map_map, List.map_map]
        refine List.map_congr_left fun r hrm => ?_
        simp only [Function.comp]
        rw [law_line_eq (hr.1 r hrm) hc]
        rfl
    rw [i1, pB_R, k1, pB_R, truD_b, pB_R, mark_eq, pB_R, pApp_ok (by rw [List.length_map]; omega), pB_R, pB_R, k0, pB_R]
    unfold rowsE
    rw [pIt_t, pB_R, hmp, pB_R, em, pL_addl _ _ (by
      simp only [List.length_append, List.length_map, List.length_singleton] at h26 ⊢
      omega), pB_R]
    refine .ret ⟨m + 1, by simp [rngD, List.range_succ], by omega, ?_⟩
    rw [List.take_succ_eq_append_getElem hz, List.flatMap_append]
    simp [ptT]
  · have en : m = P.parts.length := by
      have := congrArg List.length e1
      simp only [rng_len] at this
      omega
    subst en e4
    rw [List.take_of_length_le (by rw [List.length_zip]; omega)]
    exact .ret rfl
theorem law_wp (ns : List Int) (hl : ns.length ≤ 63) : Wp (p_law (.list (ns.map .int))) fun r => r = .bool true := by
  unfold p_law
  obtain ⟨s0, e0, hs0⟩ := pool_ok ns hl
  rw [e0, pB_R]
  refine wp_program (mp := 4) (mr := 12) (mo := 2) (me := 3) (mop := 4) hs0 (by omega) (by decide) (by decide) (by decide) (by decide) (by decide) (by decide) (by decide) (by decide) fun P s1 hP hs1 => ?_
  refine wp_program (mp := 4) (mr := 12) (mo := 2) (me := 3) (mop := 4) hs1 (by omega) (by decide) (by decide) (by decide) (by decide) (by decide) (by decide) (by decide) (by decide) fun P2 s2 hP2 hs2 => ?_
  simp only [pIt_l, pB_R]
  have one : ∀ P : Prog, P.Ok → (pB (p_show_program P.enc) fun r_7 =>
     pB (
     pB (pIs "str" r_7) fun b_9 =>
     if (!b_9) = true then
     pR true
     else
     pB (p__law_lines P.enc) fun r_10 =>
     pB (pV (joinD (.str "\n") (.list r_10))) fun v_11 =>
     pB (pC neD r_7 v_11) fun b_12 =>
     pR b_12) fun b_8 =>
     if b_8 = true then
     pR (Lp.rt (σ := Unit) (PyData.bool false))
     else
     pR (.go ())) = pR (.go ()) := fun P hP => by
    rw [show_program_eq hP, pB_R, pIs_str_str, pB_R, law_lines_eq hP]
    simp only [Bool.not_true, Bool.false_eq_true, if_false, pB_R, lines_join hP, pC_nes, eqv_ss]
    simp
  have hf := pForL_all (γ := Dt) (r := .bool false) (ds := [P.enc, P2.enc, P.enc]) (f := fun one_5 s_6 =>
     pB (p_show_program one_5) fun r_7 =>
     pB (
     pB (pIs "str" r_7) fun b_9 =>
     if (!b_9) = true then
     pR true
     else
     pB (p__law_lines one_5) fun r_10 =>
     pB (pV (joinD (.str "\n") (.list r_10))) fun v_11 =>
     pB (pC neD r_7 v_11) fun b_12 =>
     pR b_12) fun b_8 =>
     if b_8 = true then
     pR (.rt (.bool false))
     else
     pR (.go ())) (fun _ => true) (fun d hd => by
    simp only [List.mem_cons, List.not_mem_nil, or_false] at hd
    rcases hd with rfl | rfl | rfl
    · exact one P hP
    · exact one P2 hP2
    · exact one P hP)
  rw [hf]
  exact .ret rfl
theorem law_ok (ns : List Int) (hl : ns.length ≤ 63) : F_law [.val (.list (ns.map .int))] = some (.rt (.val (.bool true)) []) := by
  obtain ⟨_, e, rfl⟩ := law_wp ns hl
  have h := pf_law (.list (ns.map .int))
  rw [e] at h
  exact h
end G

namespace G
open PySem PySem.Spec L2 DL
section
variable {w : World} {K : PySem.W.Frag} {mg : Str → Option Value} {base : Heap}
theorem okF_law (T : Txt K mg) {fa : Addr} {fd : FuncData} (F : Fun K "law" "law" st_law fa fd) : FnOk PySem.Challenge.pw_leanbundle_k83_programs_written w K mg base (L2.CX PySem.Challenge.pw_leanbundle_k83_programs_written w) 10 fa fd ["script"] (dSp K mg [] 1 F_law) := by
  have o__law_names_text : DefOk PySem.Challenge.pw_leanbundle_k83_programs_written w K mg base 1 "_law_names_text" ["names"] [] F__law_names_text := ok__law_names_text T
  have o__law_line : DefOk PySem.Challenge.pw_leanbundle_k83_programs_written w K mg base 2 "_law_line" ["row"] [] F__law_line := ok__law_line T o__law_names_text
  have o__law_lines : DefOk PySem.Challenge.pw_leanbundle_k83_programs_written w K mg base 3 "_law_lines" ["program"] [] F__law_lines := ok__law_lines T o__law_line o__law_names_text
  have o__law_pool : DefOk PySem.Challenge.pw_leanbundle_k83_programs_written w K mg base 1 "_law_pool" ["script"] [] F__law_pool := ok__law_pool T
  have o__law_draw : DefOk PySem.Challenge.pw_leanbundle_k83_programs_written w K mg base 1 "_law_draw" ["pool", "limit"] [0] F__law_draw := ok__law_draw T
  have o__law_need : DefOk PySem.Challenge.pw_leanbundle_k83_programs_written w K mg base 2 "_law_need" ["pool", "count", "given"] [0] F__law_need := ok__law_need T o__law_draw
  have o__law_needs : DefOk PySem.Challenge.pw_leanbundle_k83_programs_written w K mg base 3 "_law_needs" ["pool", "count", "given", "most"] [0] F__law_needs := ok__law_needs T o__law_draw o__law_need
  have o__law_row : DefOk PySem.Challenge.pw_leanbundle_k83_programs_written w K mg base 4 "_law_row" ["pool", "word", "name", "count", "given"] [0] F__law_row := ok__law_row T o__law_draw o__law_need o__law_needs
  have o__law_subset : DefOk PySem.Challenge.pw_leanbundle_k83_programs_written w K mg base 2 "_law_subset" ["pool", "items", "most"] [0] F__law_subset := ok__law_subset T o__law_draw
  have o__law_with_show : DefOk PySem.Challenge.pw_leanbundle_k83_programs_written w K mg base 1 "_law_with_show" ["words"] [] F__law_with_show := ok__law_with_show T
  have o__law_words : DefOk PySem.Challenge.pw_leanbundle_k83_programs_written w K mg base 2 "_law_words" ["pool", "count", "most_rows", "most_outs"] [0] F__law_words := ok__law_words T o__law_draw
  have o__law_program : DefOk PySem.Challenge.pw_leanbundle_k83_programs_written w K mg base 5 "_law_program" ["pool", "most_parts", "most_rows", "most_outs", "most_entries", "most_opens"] [0] F__law_program := ok__law_program T o__law_draw o__law_row o__law_subset o__law_with_show o__law_words
  have o_is_ascending : DefOk PySem.Challenge.pw_leanbundle_k83_programs_written w K mg base 1 "is_ascending" ["items"] [] F_is_ascending := ok_is_ascending T
  have o_is_integer : DefOk PySem.Challenge.pw_leanbundle_k83_programs_written w K mg base 1 "is_integer" ["thing"] [] F_is_integer := ok_is_integer T
  have o_is_number : DefOk PySem.Challenge.pw_leanbundle_k83_programs_written w K mg base 2 "is_number" ["thing", "count"] [] F_is_number := ok_is_number T o_is_integer
  have o_is_entries : DefOk PySem.Challenge.pw_leanbundle_k83_programs_written w K mg base 3 "is_entries" ["thing", "count"] [] F_is_entries := ok_is_entries T o_is_ascending o_is_number
  have o_is_flag : DefOk PySem.Challenge.pw_leanbundle_k83_programs_written w K mg base 1 "is_flag" ["thing"] [] F_is_flag := ok_is_flag T
  have o_is_marks : DefOk PySem.Challenge.pw_leanbundle_k83_programs_written w K mg base 2 "is_marks" ["thing", "count"] [] F_is_marks := ok_is_marks T o_is_flag
  have o_is_name : DefOk PySem.Challenge.pw_leanbundle_k83_programs_written w K mg base 1 "is_name" ["thing"] [] F_is_name := ok_is_name T
  have o_is_named : DefOk PySem.Challenge.pw_leanbundle_k83_programs_written w K mg base 3 "is_named" ["thing", "count"] [] F_is_named := ok_is_named T o_is_name o_is_number
  have o_is_opens : DefOk PySem.Challenge.pw_leanbundle_k83_programs_written w K mg base 4 "is_opens" ["thing", "count"] [] F_is_opens := ok_is_opens T o_is_ascending o_is_named
  have o_is_needs : DefOk PySem.Challenge.pw_leanbundle_k83_programs_written w K mg base 4 "is_needs" ["thing", "count", "most"] [] F_is_needs := ok_is_needs T o_is_named
  have o_is_row : DefOk PySem.Challenge.pw_leanbundle_k83_programs_written w K mg base 5 "is_row" ["thing", "count"] [] F_is_row := ok_is_row T o_is_flag o_is_integer o_is_name o_is_needs o_is_number
  have o_is_parts : DefOk PySem.Challenge.pw_leanbundle_k83_programs_written w K mg base 6 "is_parts" ["thing"] [] F_is_parts := ok_is_parts T o_is_row
  have o_is_program : DefOk PySem.Challenge.pw_leanbundle_k83_programs_written w K mg base 7 "is_program" ["thing"] [] F_is_program := ok_is_program T o_is_entries o_is_marks o_is_opens o_is_parts
  have o_need_program : DefOk PySem.Challenge.pw_leanbundle_k83_programs_written w K mg base 8 "need_program" ["program"] [] F_need_program := ok_need_program T o_is_program
  have o_written_name : DefOk PySem.Challenge.pw_leanbundle_k83_programs_written w K mg base 1 "written_name" ["name"] [] F_written_name := ok_written_name T
  have o_written_names : DefOk PySem.Challenge.pw_leanbundle_k83_programs_written w K mg base 2 "written_names" ["names"] [] F_written_names := ok_written_names T o_written_name
  have o_written_row : DefOk PySem.Challenge.pw_leanbundle_k83_programs_written w K mg base 3 "written_row" ["row"] [] F_written_row := ok_written_row T o_written_names
  have o_show_program : DefOk PySem.Challenge.pw_leanbundle_k83_programs_written w K mg base 9 "show_program" ["program"] [] F_show_program := ok_show_program T o_need_program o_written_names o_written_row
  exact okD (k := 9) F sc_law [] d_law (by decide) fun cdv A outer s H E vs hr =>
  (dss_cons (ds_set (i := 1) sc_law.nd rfl (by first | exact Or.inl rfl | exact Or.inr rfl) (de_callD o__law_pool (takes_of rfl rfl rfl rfl) hr (dar_ex (de_var (pv 0)) dar_nil)))
  (dss_cons (ds_set (i := 2) sc_law.nd rfl (by first | exact Or.inl rfl | exact Or.inr rfl) (de_frz (de_callD o__law_program (takes_of rfl rfl rfl rfl) hr (dar_io (pv 1) (dar_ex de_int (dar_ex de_int (dar_ex de_int (dar_ex de_int (dar_ex de_int dar_nil)))))))))
  (dss_cons (ds_set (i := 3) sc_law.nd rfl (by first | exact Or.inl rfl | exact Or.inr rfl) (de_frz (de_callD o__law_program (takes_of rfl rfl rfl rfl) hr (dar_io (pv 1) (dar_ex de_int (dar_ex de_int (dar_ex de_int (dar_ex de_int (dar_ex de_int dar_nil)))))))))
  (dss_cons (ds_for (passes_of rfl) rfl (di_seq (de_lstF (da_cons (de_var (pv 2)) (da_cons (de_var (pv 3)) (da_cons (de_var (pv 2)) da_nil))))) (dg_name (i := 4) sc_law.nd rfl (by first | exact Or.inl rfl | exact Or.inr rfl))
  (dss_cons (ds_set (i := 5) sc_law.nd rfl (by first | exact Or.inl rfl | exact Or.inr rfl) (de_frz (de_callD o_show_program (takes_of rfl rfl rfl rfl) hr (dar_ex (de_var (pv 4)) dar_nil))))
  (dss_one (ds_if (db_w (dw_or (db_not (db_val (de_isi T.z_isinstance T.z_str bb_str (by decide) (de_var (pv 5))))) (dw_or1 (db_cmp (op_neP hr.units) s2_ne (de_var (pv 5)) (de_join (de_callD o__law_lines (takes_of rfl rfl rfl rfl) hr (dar_ex (de_var (pv 4)) dar_nil))) (by with_unfolding_all rfl)))))
  (dss_one (ds_ret de_bl))
  dss_nil))))
  (dss_one (ds_ret de_bl))))))
end
theorem cx_no {P : Program} {w : World} {H : Hp} {s : Shared} {e : Value} {s' : Shared} (h : L2.CX P w [] H s (fun _ _ _ => False) e s') : False := by
  obtain ⟨_, _, _, _, _, _, _, _, _, _, _, _, z⟩ := h
  exact z
/-- what the law promises, whatever the module's names -/
def lawSp (K : PySem.W.Frag) : Sp := fun vs H Q _ => ∃ (a : Addr) (ns : List Int), vs = [.ref a] ∧ SqL K H a (ns.map V.int) ∧ ns.length ≤ 63 ∧ (∀ z ∈ ns, Builtin.Int.intBits z ≤ 1048576) ∧ ∀ H', Q (.bl true) H'
theorem law_imp {K : PySem.W.Frag} {mg : Str → Option Value} {vs : List V} {H : Hp} {Q : VK} {E : XK} (h : lawSp K vs H Q E) : dSp K mg [] 1 F_law vs H Q E := by
  obtain ⟨a, ns, rfl, hS, hl, hb, hQ⟩ := h
  have dps : ∀ ns : List Int, DpAll K H (ns.map V.int) (ns.map .int) := fun ns => by
    induction ns with
    | nil => exact .nil
    | cons n ns ih => exact .cons (.int n) ih
  refine ⟨[.val (.list (ns.map .int))], [], _, rfl, rfl, ⟨[], by simp, ?_⟩, law_ok ns hl, fun x outs e v H' r => ?_, fun e outs q => nomatch q⟩
  · exact .cons (fp := []) (.val (by rw [List.nil_append, hid_nil]; exact .lst hS (dps ns))) .nil
  · cases e
    have d := R.dp r
    cases d
    exact hQ H'
theorem all_mk {w : World} {K : PySem.W.Frag} {h : Heap} {mg : Str → Option Value} {fa : Addr} (X : K.In h) (G : h.Ns mainGlobals mg) (hfa : mg "law" = some (.ref fa)) (T : Txt K mg) :
    ∃ fd : FuncData, (∀ (s : Shared) (v : Value), BindsTo s fd ⟨[v], []⟩ [("script", v)]) ∧ ∀ base : Heap, K.In base → base.Ns mainGlobals mg → FnOk PySem.Challenge.pw_leanbundle_k83_programs_written w K mg base (L2.CX PySem.Challenge.pw_leanbundle_k83_programs_written w) 10 fa fd ["script"] (lawSp K) := by
  obtain ⟨a, fd, h1, h2, F⟩ := T.d_law
  have e := hfa.symm.trans h1
  cases e
  have b := F.binds (ps := ["script"]) fun _ _ _ _ _ _ us hl => match us, hl with | [_], _ => rfl
  refine ⟨fd, fun s v => ?_, fun base _ _ => (okF_law T F).imp fun vs H Q E q => law_imp q⟩
  obtain ⟨oc, od, kV, doc, pm, an, cdv, ct, osl, rfl, _, _⟩ := F.ex
  exact .of_eq rfl
end G
open PySem PySem.W PyProof.Rows
set_option maxHeartbeats 0 in
theorem PySem.Challenge.cw_leanbundle_k83_programs_written_holds : PySem.Challenge.rw_leanbundle_k83_programs_written.Holds := by
  w_on; o_law; k_head; (case hw => w_witness2)
  k_fill
  refine L2.walk_ofB (l := PySem.Challenge.rw_leanbundle_k83_programs_written) (n := 63) (k := 10) (x := "script") (CX := fun w => L2.CX PySem.Challenge.pw_leanbundle_k83_programs_written w) (sp := fun w => G.lawSp _) rfl (by decide) rfl ⟨rfl, by decide, by decide⟩ (fun w h Y => PySem.W.kIn_of Y) ?F (fun w H a ns hl hb _ hS => ⟨a, ns, rfl, hS, hl, hb, fun _ => rfl⟩) (fun _ _ _ _ _ h => G.cx_no h)
  case F =>
    intro w mg fa h KX G hmg
    refine _root_.G.all_mk KX G hmg ?T
    refine' _root_.G.txt_mk KX G ?pa0 ?pl0 ?pc0 ?pk0 ?pa1 ?pl1 ?pc1 ?pk1 ?pa2 ?pl2 ?pc2 ?pk2 ?pa3 ?pl3 ?pc3 ?pk3 ?pa4 ?pl4 ?pc4 ?pk4 ?pa5 ?pl5 ?pc5 ?pk5 ?pa6 ?pl6 ?pc6 ?pk6 ?pa7 ?pl7 ?pc7 ?pk7 ?pa8 ?pl8 ?pc8 ?pk8 ?pa9 ?pl9 ?pc9 ?pk9 ?pa10 ?pl10 ?pc10 ?pk10 ?pa11 ?pl11 ?pc11 ?pk11 ?pa12 ?pl12 ?pc12 ?pk12 ?pa13 ?pl13 ?pc13 ?pk13 ?pa14 ?pl14 ?pc14 ?pk14 ?pa15 ?pl15 ?pc15 ?pk15 ?pa16 ?pl16 ?pc16 ?pk16 ?pa17 ?pl17 ?pc17 ?pk17 ?pa18 ?pl18 ?pc18 ?pk18 ?pa19 ?pl19 ?pc19 ?pk19 ?pa20 ?pl20 ?pc20 ?pk20 ?pa21 ?pl21 ?pc21 ?pk21 ?pa22 ?pl22 ?pc22 ?pk22 ?pa23 ?pl23 ?pc23 ?pk23 ?pa24 ?pl24 ?pc24 ?pk24 ?pa25 ?pl25 ?pc25 ?pk25 ?pa26 ?pl26 ?pc26 ?pk26 ?pa27 ?pl27 ?pc27 ?pk27 ?pa28 ?pl28 ?pc28 ?pk28 ?pa29 ?pl29 ?pc29 ?pk29 ?pa30 ?pl30 ?pc30 ?pk30 ?pg0 ?ph0 ?pg1 ?ph1 ?pg2 ?ph2 ?pg3 ?ph3 ?pg4 ?ph4 ?pg5 ?ph5 ?pg6 ?ph6 ?pz0 ?pz1 ?pz2 ?pz3 ?pz4 ?pz5 ?pz6 ?pz7 ?pz8 ?pz9 ?pz10 ?pz11 ?pz12 ?pz13 ?pz14
    (case pa0 => first | k_is | kernel_rfl)
    (case pl0 => first | k_is | kernel_rfl)
    (case pc0 => first | k_is | kernel_rfl)
    (case pk0 => first | k_is | kernel_rfl)
    (case pa1 => first | k_is | kernel_rfl)
    (case pl1 => first | k_is | kernel_rfl)
    (case pc1 => first | k_is | kernel_rfl)
    (case pk1 => first | k_is | kernel_rfl)
    (case pa2 => first | k_is | kernel_rfl)
    (case pl2 => first | k_is | kernel_rfl)
    (case pc2 => first | k_is | kernel_rfl)
    (case pk2 => first | k_is | kernel_rfl)
    (case pa3 => first | k_is | kernel_rfl)
    (case pl3 => first | k_is | kernel_rfl)
    (case pc3 => first | k_is | kernel_rfl)
    (case pk3 => first | k_is | kernel_rfl)
    (case pa4 => first | k_is | kernel_rfl)
    (case pl4 => first | k_is | kernel_rfl)
    (case pc4 => first | k_is | kernel_rfl)
    (case pk4 => first | k_is | kernel_rfl)
    (case pa5 => first | k_is | kernel_rfl)
    (case pl5 => first | k_is | kernel_rfl)
    (case pc5 => first | k_is | kernel_rfl)
    (case pk5 => first | k_is | kernel_rfl)
    (case pa6 => first | k_is | kernel_rfl)
    (case pl6 => first | k_is | kernel_rfl)
    (case pc6 => first | k_is | kernel_rfl)
    (case pk6 => first | k_is | kernel_rfl)
    (case pa7 => first | k_is | kernel_rfl)
    (case pl7 => first | k_is | kernel_rfl)
    (case pc7 => first | k_is | kernel_rfl)
    (case pk7 => first | k_is | kernel_rfl)
    (case pa8 => first | k_is | kernel_rfl)
    (case pl8 => first | k_is | kernel_rfl)
    (case pc8 => first | k_is | kernel_rfl)
    (case pk8 => first | k_is | kernel_rfl)
    (case pa9 => first | k_is | kernel_rfl)
    (case pl9 => first | k_is | kernel_rfl)
    (case pc9 => first | k_is | kernel_rfl)
    (case pk9 => first | k_is | kernel_rfl)
    (case pa10 => first | k_is | kernel_rfl)
    (case pl10 => first | k_is | kernel_rfl)
    (case pc10 => first | k_is | kernel_rfl)
    (case pk10 => first | k_is | kernel_rfl)
    (case pa11 => first | k_is | kernel_rfl)
    (case pl11 => first | k_is | kernel_rfl)
    (case pc11 => first | k_is | kernel_rfl)
    (case pk11 => first | k_is | kernel_rfl)
    (case pa12 => first | k_is | kernel_rfl)
    (case pl12 => first | k_is | kernel_rfl)
    (case pc12 => first | k_is | kernel_rfl)
    (case pk12 => first | k_is | kernel_rfl)
    (case pa13 => first | k_is | kernel_rfl)
    (case pl13 => first | k_is | kernel_rfl)
    (case pc13 => first | k_is | kernel_rfl)
    (case pk13 => first | k_is | kernel_rfl)
    (case pa14 => first | k_is | kernel_rfl)
    (case pl14 => first | k_is | kernel_rfl)
    (case pc14 => first | k_is | kernel_rfl)
    (case pk14 => first | k_is | kernel_rfl)
    (case pa15 => first | k_is | kernel_rfl)
    (case pl15 => first | k_is | kernel_rfl)
    (case pc15 => first | k_is | kernel_rfl)
    (case pk15 => first | k_is | kernel_rfl)
    (case pa16 => first | k_is | kernel_rfl)
    (case pl16 => first | k_is | kernel_rfl)
    (case pc16 => first | k_is | kernel_rfl)
    (case pk16 => first | k_is | kernel_rfl)
    (case pa17 => first | k_is | kernel_rfl)
    (case pl17 => first | k_is | kernel_rfl)
    (case pc17 => first | k_is | kernel_rfl)
    (case pk17 => first | k_is | kernel_rfl)
    (case pa18 => first | k_is | kernel_rfl)
    (case pl18 => first | k_is | kernel_rfl)
    (case pc18 => first | k_is | kernel_rfl)
    (case pk18 => first | k_is | kernel_rfl)
    (case pa19 => first | k_is | kernel_rfl)
    (case pl19 => first | k_is | kernel_rfl)
    (case pc19 => first | k_is | kernel_rfl)
    (case pk19 => first | k_is | kernel_rfl)
    (case pa20 => first | k_is | kernel_rfl)
    (case pl20 => first | k_is | kernel_rfl)
    (case pc20 => first | k_is | kernel_rfl)
    (case pk20 => first | k_is | kernel_rfl)
    (case pa21 => first | k_is | kernel_rfl)
    (case pl21 => first | k_is | kernel_rfl)
    (case pc21 => first | k_is | kernel_rfl)
    (case pk21 => first | k_is | kernel_rfl)
    (case pa22 => first | k_is | kernel_rfl)
    (case pl22 => first | k_is | kernel_rfl)
    (case pc22 => first | k_is | kernel_rfl)
    (case pk22 => first | k_is | kernel_rfl)
    (case pa23 => first | k_is | kernel_rfl)
    (case pl23 => first | k_is | kernel_rfl)
    (case pc23 => first | k_is | kernel_rfl)
    (case pk23 => first | k_is | kernel_rfl)
    (case pa24 => first | k_is | kernel_rfl)
    (case pl24 => first | k_is | kernel_rfl)
    (case pc24 => first | k_is | kernel_rfl)
    (case pk24 => first | k_is | kernel_rfl)
    (case pa25 => first | k_is | kernel_rfl)
    (case pl25 => first | k_is | kernel_rfl)
    (case pc25 => first | k_is | kernel_rfl)
    (case pk25 => first | k_is | kernel_rfl)
    (case pa26 => first | k_is | kernel_rfl)
    (case pl26 => first | k_is | kernel_rfl)
    (case pc26 => first | k_is | kernel_rfl)
    (case pk26 => first | k_is | kernel_rfl)
    (case pa27 => first | k_is | kernel_rfl)
    (case pl27 => first | k_is | kernel_rfl)
    (case pc27 => first | k_is | kernel_rfl)
    (case pk27 => first | k_is | kernel_rfl)
    (case pa28 => first | k_is | kernel_rfl)
    (case pl28 => first | k_is | kernel_rfl)
    (case pc28 => first | k_is | kernel_rfl)
    (case pk28 => first | k_is | kernel_rfl)
    (case pa29 => first | k_is | kernel_rfl)
    (case pl29 => first | k_is | kernel_rfl)
    (case pc29 => first | k_is | kernel_rfl)
    (case pk29 => first | k_is | kernel_rfl)
    (case pa30 => first | k_is | kernel_rfl)
    (case pl30 => first | k_is | kernel_rfl)
    (case pc30 => first | k_is | kernel_rfl)
    (case pk30 => first | k_is | kernel_rfl)
    (case pg0 => first | k_is | kernel_rfl)
    (case ph0 => first | k_is | kernel_rfl)
    (case pg1 => first | k_is | kernel_rfl)
    (case ph1 => first | k_is | kernel_rfl)
    (case pg2 => first | k_is | kernel_rfl)
    (case ph2 => first | k_is | kernel_rfl)
    (case pg3 => first | k_is | kernel_rfl)
    (case ph3 => first | k_is | kernel_rfl)
    (case pg4 => first | k_is | kernel_rfl)
    (case ph4 => first | k_is | kernel_rfl)
    (case pg5 => first | k_is | kernel_rfl)
    (case ph5 => first | k_is | kernel_rfl)
    (case pg6 => first | k_is | kernel_rfl)
    (case ph6 => first | k_is | kernel_rfl)
    (case pz0 => first | k_is | kernel_rfl)
    (case pz1 => first | k_is | kernel_rfl)
    (case pz2 => first | k_is | kernel_rfl)
    (case pz3 => first | k_is | kernel_rfl)
    (case pz4 => first | k_is | kernel_rfl)
    (case pz5 => first | k_is | kernel_rfl)
    (case pz6 => first | k_is | kernel_rfl)
    (case pz7 => first | k_is | kernel_rfl)
    (case pz8 => first | k_is | kernel_rfl)
    (case pz9 => first | k_is | kernel_rfl)
    (case pz10 => first | k_is | kernel_rfl)
    (case pz11 => first | k_is | kernel_rfl)
    (case pz12 => first | k_is | kernel_rfl)
    (case pz13 => first | k_is | kernel_rfl)
    (case pz14 => first | k_is | kernel_rfl)
