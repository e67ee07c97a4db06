import PyProof.Rows.All
import Wide.All
import OpenK.AllK
import Wide.FinOn
import HandS.ForMost
import HandS.ForExc
import HandS.TryOnly
import HandS.Style
import HandS.IsInst
import HandS.Deep
import HandS.Wide
import KE.DataEq
import KE.LtData
import HandS.TupAny
import HandS.TupSets
import KE.KeyNested
import KE.SortData
import HandS.Strs
import KE.KUnpackStar
import HandS.EndBits
import PySem.Challenge.RW_leanbundle_k02_doors
set_option Elab.async false
set_option linter.all false
set_option maxRecDepth 100000
set_option maxHeartbeats 4000000
namespace DL
open PySem PySem.Spec L2

abbrev Dt := PyData
/-- what a slot may hold: frozen data, an owned list, anything by its value -/
inductive OV where
  | val (d : Dt)
  | lst (xs : List OV)
  | raw (v : V)
  | sub (fp : List Addr) (h0 F0 : Hp)

/-- the heap without some addresses -/
def hid (H : Hp) (Z : List Addr) : Hp := fun b => if b ∈ Z then none else H b
theorem hid_in {H : Hp} {Z : List Addr} {b : Addr} (h : b ∈ Z) : hid H Z b = none := if_pos h
theorem hid_out {H : Hp} {Z : List Addr} {b : Addr} (h : b ∉ Z) : hid H Z b = H b := if_neg h
theorem hid_le {H : Hp} {Z : List Addr} : Same (hid H Z) H := fun b o e => by
  by_cases h : b ∈ Z
  · rw [hid_in h] at e; cases e
  · rw [hid_out h] at e; exact e
theorem hid_sub {H : Hp} {Z Z' : List Addr} (s : ∀ a ∈ Z', a ∈ Z) : Same (hid H Z) (hid H Z') := fun b o e => by
  by_cases h : b ∈ Z
  · rw [hid_in h] at e; cases e
  · rw [hid_out h] at e
    rw [hid_out fun q => h (s b q)]
    exact e
theorem hid_same {H H' : Hp} {Z : List Addr} (s : Same H H') : Same (hid H Z) (hid H' Z) := fun b o e => by
  by_cases h : b ∈ Z
  · rw [hid_in h] at e; cases e
  · rw [hid_out h] at e
    rw [hid_out h]
    exact s _ _ e
theorem hid_nil {H : Hp} : hid H [] = H := by
  funext b
  exact hid_out (by simp)

theorem SqT.same {K : PySem.W.Frag} {H H' : Hp} {a : Addr} {xs : List V} (e : Same H H') (h : SqT K H a xs) : SqT K H' a xs := by
  rcases h with (h | ⟨o, h⟩) | h
  · exact .inl (.inl (e _ _ h))
  · exact .inl (.inr ⟨o, e _ _ h⟩)
  · exact .inr h
mutual
theorem Dp.same {K : PySem.W.Frag} {H H' : Hp} (e : Same H H') : ∀ {d : Dt} {v : V}, Dp K H v d → Dp K H' v d
  | _, _, .non => .non
  | _, _, .bl b => .bl b
  | _, _, .int i => .int i
  | _, _, .str x => .str x
  | _, _, .lst h t => .lst (e.seq h) (DpAll.same e t)
  | _, _, .tup h t => .tup (SqT.same e h) (DpAll.same e t)
theorem DpAll.same {K : PySem.W.Frag} {H H' : Hp} (e : Same H H') : ∀ {ds : List Dt} {vs : List V}, DpAll K H vs ds → DpAll K H' vs ds
  | _, _, .nil => .nil
  | _, _, .cons h t => .cons (Dp.same e h) (DpAll.same e t)
end
end DL
namespace L2
open PySem PySem.Spec
theorem DpAll.length {K : PySem.W.Frag} {H : Hp} : ∀ {ds : List PyData} {vs : List V}, DpAll K H vs ds → vs.length = ds.length
  | _, _, .nil => rfl
  | _, _, .cons _ t => by rw [List.length_cons, List.length_cons, DpAll.length t]
theorem DpAll.get {K : PySem.W.Frag} {H : Hp} : ∀ {ds : List PyData} {vs : List V} {i : Nat} {d : PyData}, DpAll K H vs ds → ds[i]? = some d → ∃ v, vs[i]? = some v ∧ Dp K H v d
  | _, _, _, _, .nil, e => by simp at e
  | _, _, 0, _, .cons h _, e => by
    simp at e
    subst e
    exact ⟨_, rfl, h⟩
  | _, _, i + 1, _, .cons _ t, e => by
    obtain ⟨v, e1, e2⟩ := DpAll.get t (i := i) (by simpa using e)
    exact ⟨v, by simpa using e1, e2⟩
theorem DpAll.getV {K : PySem.W.Frag} {H : Hp} : ∀ {ds : List PyData} {vs : List V} {i : Nat} {v : V}, DpAll K H vs ds → vs[i]? = some v → ∃ d, ds[i]? = some d ∧ Dp K H v d
  | _, _, _, _, .nil, e => by simp at e
  | _, _, 0, _, .cons h _, e => by
    simp at e
    subst e
    exact ⟨_, rfl, h⟩
  | _, _, i + 1, _, .cons _ t, e => by
    obtain ⟨v, e1, e2⟩ := DpAll.getV t (i := i) (by simpa using e)
    exact ⟨v, by simpa using e1, e2⟩
theorem DpAll.append {K : PySem.W.Frag} {H : Hp} : ∀ {ds es : List PyData} {vs ws : List V}, DpAll K H vs ds → DpAll K H ws es → DpAll K H (vs ++ ws) (ds ++ es)
  | _, _, _, _, .nil, s => s
  | _, _, _, _, .cons h t, s => .cons h (DpAll.append t s)
theorem DpAll.take {K : PySem.W.Frag} {H : Hp} : ∀ {ds : List PyData} {vs : List V} (n : Nat), DpAll K H vs ds → DpAll K H (vs.take n) (ds.take n)
  | _, _, 0, _ => .nil
  | _, _, _ + 1, .nil => .nil
  | _, _, n + 1, .cons h t => .cons h (DpAll.take n t)
theorem DpAll.drop {K : PySem.W.Frag} {H : Hp} : ∀ {ds : List PyData} {vs : List V} (n : Nat), DpAll K H vs ds → DpAll K H (vs.drop n) (ds.drop n)
  | _, _, 0, h => h
  | _, _, _ + 1, .nil => .nil
  | _, _, n + 1, .cons _ t => DpAll.drop n t

end L2
namespace DL
open PySem PySem.Spec L2
mutual
/-- the value v holds x: fp the owned addresses, F the heap of what is frozen -/
inductive Own (K : PySem.W.Frag) (H F : Hp) : V → OV → List Addr → Prop
  | val {v : V} {d : Dt} : Dp K F v d → Own K H F v (.val d) []
  | lst {a : Addr} {vs : List V} {xs : List OV} {fp : List Addr} : H a = some (.lst vs) → OwnL K H F vs xs fp → Own K H F (.ref a) (.lst xs) (a :: fp)
  | raw {v : V} : Own K H F v (.raw v) []
  | sub {v : V} {fp : List Addr} {h0 F0 : Hp} : (∀ a ∈ fp, H a = h0 a ∧ ∃ o, h0 a = some o) → Same F0 F → Own K H F v (.sub fp h0 F0) fp
inductive OwnL (K : PySem.W.Frag) (H F : Hp) : List V → List OV → List Addr → Prop
  | nil : OwnL K H F [] [] []
  | cons {v : V} {x : OV} {vs : List V} {xs : List OV} {fp gp : List Addr} : Own K H F v x fp → OwnL K H F vs xs gp → OwnL K H F (v :: vs) (x :: xs) (fp ++ gp)
end
section
variable {K : PySem.W.Frag} {H H' F F' : Hp}
mutual
theorem Own.mono (hF : Same F F') : ∀ {v : V} {x : OV} {fp : List Addr}, Own K H F v x fp → (∀ a ∈ fp, H' a = H a) → Own K H' F' v x fp
  | _, _, _, .val h, _ => .val (Dp.same hF h)
  | _, _, _, .lst h t, k => .lst (by rw [k _ List.mem_cons_self]; exact h) (OwnL.mono hF t fun a ha => k a (List.mem_cons_of_mem _ ha))
  | _, _, _, .raw, _ => .raw
  | _, _, _, .sub h s, k => .sub (fun a ha => ⟨(k a ha).trans (h a ha).1, (h a ha).2⟩) fun b o e => hF b o (s b o e)
theorem OwnL.mono (hF : Same F F') : ∀ {vs : List V} {xs : List OV} {fp : List Addr}, OwnL K H F vs xs fp → (∀ a ∈ fp, H' a = H a) → OwnL K H' F' vs xs fp
  | _, _, _, .nil, _ => .nil
  | _, _, _, .cons h t, k => .cons (Own.mono hF h fun a ha => k a (List.mem_append_left _ ha)) (OwnL.mono hF t fun a ha => k a (List.mem_append_right _ ha))
end
mutual
theorem Own.there : ∀ {v : V} {x : OV} {fp : List Addr}, Own K H F v x fp → ∀ a ∈ fp, ∃ o, H a = some o
  | _, _, _, .val _, _, ha => by cases ha
  | _, _, _, .lst h t, a, ha => by
    rcases List.mem_cons.mp ha with rfl | ha
    · exact ⟨_, h⟩
    · exact OwnL.there t a ha
  | _, _, _, .raw, _, ha => by cases ha
  | _, _, _, .sub h s, a, ha => by
    obtain ⟨e, o, q⟩ := h a ha
    exact ⟨o, e.trans q⟩
theorem OwnL.there : ∀ {vs : List V} {xs : List OV} {fp : List Addr}, OwnL K H F vs xs fp → ∀ a ∈ fp, ∃ o, H a = some o
  | _, _, _, .nil, _, ha => by cases ha
  | _, _, _, .cons h t, a, ha => by
    rcases List.mem_append.mp ha with ha | ha
    · exact Own.there h a ha
    · exact OwnL.there t a ha
end
theorem OwnL.length : ∀ {vs : List V} {xs : List OV} {fp : List Addr}, OwnL K H F vs xs fp → vs.length = xs.length
  | _, _, _, .nil => rfl
  | _, _, _, .cons _ t => by rw [List.length_cons, List.length_cons, OwnL.length t]
theorem OwnL.append : ∀ {vs ws : List V} {xs ys : List OV} {fp gp : List Addr}, OwnL K H F vs xs fp → OwnL K H F ws ys gp → OwnL K H F (vs ++ ws) (xs ++ ys) (fp ++ gp)
  | _, _, _, _, _, _, .nil, s => s
  | _, _, _, _, _, _, .cons h t, s => by
    have q := OwnL.cons h (OwnL.append t s)
    rw [List.append_assoc]
    exact q
theorem OwnL.split : ∀ {vs ws : List V} {xs ys : List OV} {fp : List Addr}, vs.length = xs.length → OwnL K H F (vs ++ ws) (xs ++ ys) fp → ∃ fp1 fp2, fp = fp1 ++ fp2 ∧ OwnL K H F vs xs fp1 ∧ OwnL K H F ws ys fp2
  | [], _, [], _, _, _, h => ⟨[], _, rfl, .nil, h⟩
  | [], _, _ :: _, _, _, e, _ => by simp at e
  | _ :: _, _, [], _, _, e, _ => by simp at e
  | v :: vs, ws, x :: xs, ys, _, e, h => by
    cases h with
    | cons h t =>
      obtain ⟨f1, f2, rfl, a, b⟩ := OwnL.split (vs := vs) (xs := xs) (by simpa using e) t
      exact ⟨_, f2, (List.append_assoc _ _ _).symm, .cons h a, b⟩
theorem OwnL.get : ∀ {vs : List V} {xs : List OV} {fp : List Addr} {i : Nat} {x : OV}, OwnL K H F vs xs fp → xs[i]? = some x → ∃ v gp, vs[i]? = some v ∧ Own K H F v x gp ∧ ∀ a ∈ gp, a ∈ fp
  | _, _, _, _, _, .nil, e => by simp at e
  | _, _, _, 0, _, .cons h _, e => by
    simp at e
    subst e
    exact ⟨_, _, rfl, h, fun a ha => List.mem_append_left _ ha⟩
  | _, _, _, i + 1, _, .cons _ t, e => by
    obtain ⟨v, gp, e1, e2, e3⟩ := OwnL.get t (i := i) (by simpa using e)
    exact ⟨v, gp, by simpa using e1, e2, fun a ha => List.mem_append_right _ (e3 a ha)⟩
theorem OwnL.vals : ∀ {vs : List V} {ds : List Dt} {fp : List Addr}, OwnL K H F vs (ds.map .val) fp → DpAll K F vs ds ∧ fp = []
  | _, [], _, h => by
    cases h
    exact ⟨.nil, rfl⟩
  | _, d :: ds, _, h => by
    cases h with
    | cons h t =>
      cases h with
      | val h =>
        obtain ⟨q, rfl⟩ := OwnL.vals t
        exact ⟨.cons h q, rfl⟩
theorem OwnL.of_vals : ∀ {vs : List V} {ds : List Dt}, DpAll K F vs ds → OwnL K H F vs (ds.map .val) []
  | _, _, .nil => .nil
  | _, _, .cons h t => .cons (fp := []) (gp := []) (.val h) (OwnL.of_vals t)
end

/-- a bag of values and what they hold, apart from one another and from the addresses A -/
abbrev Bag := List (V × OV)
def R (K : PySem.W.Frag) (A : List Addr) (H : Hp) (ps : Bag) : Prop := ∃ Z : List Addr, (A ++ Z).Nodup ∧ OwnL K H (hid H (A ++ Z)) (ps.map (·.1)) (ps.map (·.2)) Z
section
variable {K : PySem.W.Frag} {A : List Addr} {H H' : Hp} {ps qs : Bag} {v w : V} {x y : OV} {d : Dt} {p : V × OV}
theorem OwnL.perm {F : Hp} (h : ps.Perm qs) : ∀ {Z : List Addr}, OwnL K H F (ps.map (·.1)) (ps.map (·.2)) Z → ∃ Z', Z.Perm Z' ∧ OwnL K H F (qs.map (·.1)) (qs.map (·.2)) Z' := by
  induction h with
  | nil => intro Z h; exact ⟨Z, .refl _, h⟩
  | cons x _ ih =>
    intro Z h
    cases h with
    | cons h t =>
      obtain ⟨Z', p, q⟩ := ih t
      exact ⟨_, p.append_left _, .cons h q⟩
  | swap x y l =>
    intro Z h
    cases h with
    | cons h t =>
      cases t with
      | cons h2 t =>
        refine ⟨_, ?_, .cons h2 (.cons h t)⟩
        rw [← List.append_assoc, ← List.append_assoc]
        exact List.Perm.append_right _ List.perm_append_comm
  | trans _ _ ih1 ih2 =>
    intro Z h
    obtain ⟨Z1, p1, q1⟩ := ih1 h
    obtain ⟨Z2, p2, q2⟩ := ih2 q1
    exact ⟨Z2, p1.trans p2, q2⟩
theorem R.perm (h : ps.Perm qs) (r : R K A H ps) : R K A H qs := by
  obtain ⟨Z, nd, o⟩ := r
  obtain ⟨Z', p, q⟩ := OwnL.perm h o
  refine ⟨Z', (List.Perm.nodup_iff (p.append_left A)).mp nd, OwnL.mono (hid_sub fun a ha => (p.append_left A).mem_iff.mpr ha) q fun _ _ => rfl⟩
theorem R.drop (r : R K A H (p :: ps)) : R K A H ps := by
  obtain ⟨Z, nd, o⟩ := r
  cases o with
  | @cons _ _ _ _ fp gp h t =>
    have s : ∀ a ∈ A ++ gp, a ∈ A ++ (fp ++ gp) := fun a ha => by
      rcases List.mem_append.mp ha with z | z
      · exact List.mem_append_left _ z
      · exact List.mem_append_right _ (List.mem_append_right _ z)
    refine ⟨gp, ?_, OwnL.mono (hid_sub s) t fun _ _ => rfl⟩
    rw [List.nodup_append] at nd ⊢
    obtain ⟨n1, n2, n3⟩ := nd
    exact ⟨n1, (List.nodup_append.mp n2).2.1, fun a ha b hb => n3 a ha b (List.mem_append_right _ hb)⟩
theorem R.mono (s : Same H H') (r : R K A H ps) : R K A H' ps := by
  obtain ⟨Z, nd, o⟩ := r
  exact ⟨Z, nd, OwnL.mono (hid_same s) o fun a ha => by
    obtain ⟨ob, e⟩ := OwnL.there o a ha
    rw [e]
    exact s _ _ e⟩
theorem R.dp (r : R K A H ((v, .val d) :: ps)) : Dp K H v d := by
  obtain ⟨Z, nd, o⟩ := r
  cases o with
  | cons h t =>
    cases h with
    | val h => exact Dp.same hid_le h
theorem R.dup (r : R K A H ((v, .val d) :: ps)) : R K A H ((v, .val d) :: (v, .val d) :: ps) := by
  obtain ⟨Z, nd, o⟩ := r
  cases o with
  | cons h t =>
    cases h with
    | val h => exact ⟨_, nd, .cons (fp := []) (.val h) (.cons (.val h) t)⟩
theorem R.add (h : ∀ F : Hp, Dp K F v d) (r : R K A H ps) : R K A H ((v, .val d) :: ps) := by
  obtain ⟨Z, nd, o⟩ := r
  exact ⟨Z, nd, .cons (fp := []) (.val (h _)) o⟩
/-- frozen data that was read off frozen data -/
theorem R.map {e : Dt} (f : ∀ F : Hp, Same F H → Dp K F v d → Dp K F w e) (r : R K A H ((v, .val d) :: ps)) : R K A H ((w, .val e) :: ps) := by
  obtain ⟨Z, nd, o⟩ := r
  cases o with
  | cons h t =>
    cases h with
    | val h => exact ⟨_, nd, .cons (fp := []) (.val (f _ hid_le h)) t⟩
end
end DL

namespace DL
open PySem PySem.Spec L2

section
variable {K : PySem.W.Frag} {A : List Addr} {H H' : Hp} {ps qs : Bag} {v w : V} {x y : OV} {d : Dt} {p : V × OV}
theorem zip_fst {α β : Type} : ∀ {as : List α} {bs : List β}, as.length = bs.length → (as.zip bs).map (·.1) = as
  | [], [], _ => rfl
  | [], _ :: _, e => by simp at e
  | _ :: _, [], e => by simp at e
  | a :: as, b :: bs, e => by
    show a :: (as.zip bs).map (·.1) = _
    rw [zip_fst (by simpa using e)]
theorem zip_snd {α β : Type} : ∀ {as : List α} {bs : List β}, as.length = bs.length → (as.zip bs).map (·.2) = bs
  | [], [], _ => rfl
  | [], _ :: _, e => by simp at e
  | _ :: _, [], e => by simp at e
  | a :: as, b :: bs, e => by
    show b :: (as.zip bs).map (·.2) = _
    rw [zip_snd (by simpa using e)]
theorem R.dropL : ∀ {qs : Bag}, R K A H (qs ++ ps) → R K A H ps
  | [], r => r
  | _ :: _, r => R.dropL r.drop
theorem R.nil : R K [] H [] := ⟨[], by simp, .nil⟩
/-- a list taken apart -/
theorem R.open {xs : List OV} (r : R K A H ((v, .lst xs) :: ps)) : ∃ a vs, v = .ref a ∧ H a = some (.lst vs) ∧ vs.length = xs.length ∧ R K (a :: A) H (vs.zip xs ++ ps) := by
  obtain ⟨Z, nd, o⟩ := r
  cases o with
  | cons h t =>
    cases h with
    | @lst a vs _ fp h hl =>
      have le := hl.length
      rename_i gp
      have pm : (A ++ (a :: fp ++ gp)).Perm (a :: A ++ (fp ++ gp)) := by
        simp only [List.cons_append]
        exact List.perm_middle
      refine ⟨a, vs, rfl, h, le, fp ++ gp, pm.nodup_iff.mp nd, ?_⟩
      rw [List.map_append, List.map_append, zip_fst le, zip_snd le]
      refine OwnL.mono (hid_sub fun b hb => pm.mem_iff.mpr hb) (OwnL.append hl t) fun _ _ => rfl
/-- .. and put together again, changed -/
theorem R.close {a : Addr} {ws : List V} {ys : List OV} (r : R K (a :: A) H (ws.zip ys ++ ps)) (le : ws.length = ys.length) : R K A (upd H a (.lst ws)) ((.ref a, .lst ys) :: ps) := by
  obtain ⟨Z, nd, o⟩ := r
  rw [List.map_append, List.map_append, zip_fst le, zip_snd le] at o
  obtain ⟨fp, gp, rfl, o1, o2⟩ := OwnL.split le o
  have pm : (a :: A ++ (fp ++ gp)).Perm (A ++ (a :: fp ++ gp)) := by
    simp only [List.cons_append]
    exact List.perm_middle.symm
  have na : a ∉ A ++ (fp ++ gp) := by
    rw [List.cons_append, List.nodup_cons] at nd
    exact nd.1
  have hF : Same (hid H (a :: A ++ (fp ++ gp))) (hid (upd H a (.lst ws)) (A ++ (a :: fp ++ gp))) := fun b o e => by
    by_cases hb : b ∈ a :: A ++ (fp ++ gp)
    · rw [hid_in hb] at e; cases e
    · rw [hid_out hb] at e
      rw [hid_out fun q => hb (pm.mem_iff.mpr q), upd_ne fun z => hb (by rw [z]; exact List.mem_cons_self)]
      exact e
  have keep : ∀ b ∈ fp ++ gp, upd H a (.lst ws) b = H b := fun b hb => upd_ne fun z => na (List.mem_append_right _ (z ▸ hb))
  refine ⟨a :: fp ++ gp, pm.nodup_iff.mp nd, ?_⟩
  exact .cons (.lst upd_same (OwnL.mono hF o1 fun b hb => keep b (List.mem_append_left _ hb))) (OwnL.mono hF o2 fun b hb => keep b (List.mem_append_right _ hb))
/-- a new list -/
theorem R.newL {a : Addr} {ws : List V} {ys : List OV} (r : R K [] H (ws.zip ys ++ ps)) (le : ws.length = ys.length) (hn : H a = none) : R K [] (upd H a (.lst ws)) ((.ref a, .lst ys) :: ps) := by
  refine R.close ?_ le
  obtain ⟨Z, nd, o⟩ := r
  have na : a ∉ Z := fun h => by
    obtain ⟨ob, e⟩ := OwnL.there o a h
    rw [hn] at e; cases e
  refine ⟨Z, ?_, OwnL.mono (fun b o e => ?_) o fun _ _ => rfl⟩
  · exact List.nodup_cons.mpr ⟨na, nd⟩
  · by_cases hb : b ∈ [] ++ Z
    · rw [hid_in hb] at e; cases e
    · rw [hid_out hb] at e
      rw [hid_out]
      · exact e
      · intro q
        rcases List.mem_cons.mp q with rfl | q
        · rw [hn] at e; cases e
        · exact hb q
theorem OwnL.dps {F : Hp} : ∀ {ws : List V} {ds : List Dt} {vs : List V} {xs : List OV} {fp : List Addr}, ws.length = ds.length → OwnL K H F (ws ++ vs) (ds.map .val ++ xs) fp → DpAll K F ws ds ∧ OwnL K H F vs xs fp
  | [], [], _, _, _, _, h => ⟨.nil, h⟩
  | [], _ :: _, _, _, _, e, _ => by simp at e
  | _ :: _, [], _, _, _, e, _ => by simp at e
  | w :: ws, d :: ds, _, _, _, e, h => by
    cases h with
    | cons h t =>
      cases h with
      | val h =>
        obtain ⟨a, b⟩ := OwnL.dps (ws := ws) (ds := ds) (by simpa using e) t
        exact ⟨.cons h a, b⟩
theorem R.dps {ws : List V} {ds : List Dt} (le : ws.length = ds.length) (r : R K A H (ws.zip (ds.map .val) ++ ps)) : ∃ Z, (A ++ Z).Nodup ∧ DpAll K (hid H (A ++ Z)) ws ds ∧ OwnL K H (hid H (A ++ Z)) (ps.map (·.1)) (ps.map (·.2)) Z := by
  obtain ⟨Z, nd, o⟩ := r
  rw [List.map_append, List.map_append, zip_fst (by simpa using le), zip_snd (by simpa using le)] at o
  obtain ⟨a, b⟩ := OwnL.dps le o
  exact ⟨Z, nd, a, b⟩
/-- a new tuple -/
theorem R.newT {a : Addr} {ws : List V} {ds : List Dt} (r : R K [] H (ws.zip (ds.map .val) ++ ps)) (le : ws.length = ds.length) (hn : H a = none) : R K [] (upd H a (.tup ws)) ((.ref a, .val (.tuple ds)) :: ps) := by
  obtain ⟨Z, nd, o1, o2⟩ := R.dps le r
  have na : ∀ b ∈ Z, b ≠ a := fun b h z => by
    obtain ⟨ob, e⟩ := OwnL.there o2 b h
    rw [z, hn] at e; cases e
  have hF : Same (hid H ([] ++ Z)) (hid (upd H a (.tup ws)) ([] ++ Z)) := hid_same fun b o e => by rw [upd_ne (ne_of_none e hn)]; exact e
  refine ⟨Z, nd, .cons (fp := []) (.val (.tup (.inl (.inl ?_)) (DpAll.same hF o1))) (OwnL.mono hF o2 fun b hb => upd_ne (na b hb))⟩
  rw [hid_out]
  · exact upd_same
  · exact fun h => na a h rfl
/-- an owned list of frozen things is frozen -/
theorem R.freeze {ds : List Dt} (r : R K A H ((v, .lst (ds.map .val)) :: ps)) : R K A H ((v, .val (.list ds)) :: ps) := by
  obtain ⟨Z, nd, o⟩ := r
  cases o with
  | cons h t =>
    cases h with
    | @lst a vs _ fp h hl =>
      rename_i gp
      obtain ⟨q, rfl⟩ := OwnL.vals hl
      have s : ∀ b ∈ A ++ gp, b ∈ A ++ ([a] ++ gp) := fun b hb => by
        rcases List.mem_append.mp hb with z | z
        · exact List.mem_append_left _ z
        · exact List.mem_append_right _ (List.mem_append_right _ z)
      have nd' : (A ++ (a :: gp)).Nodup := nd
      have na : a ∉ A ++ gp := (List.nodup_cons.mp (List.perm_middle.nodup_iff.mp nd')).1
      refine ⟨gp, (List.nodup_cons.mp (List.perm_middle.nodup_iff.mp nd')).2, .cons (fp := []) (.val (.lst (.inl (.inl ?_)) (DpAll.same (hid_sub s) q))) (OwnL.mono (hid_sub s) t fun _ _ => rfl)⟩
      rw [hid_out na]
      exact h
theorem R.front {p : V × OV} (r : R K A H (ps ++ p :: qs)) : R K A H (p :: (ps ++ qs)) := r.perm List.perm_middle
theorem R.unfront {p : V × OV} (r : R K A H (p :: (ps ++ qs))) : R K A H (ps ++ p :: qs) := r.perm List.perm_middle.symm
/-- what is in the bag, changed -/
theorem R.under {q1 q2 : Bag} {H' : Hp} {A' : List Addr} (f : ∀ ps, R K A H (q1 ++ ps) → R K A' H' (q2 ++ ps)) (r : R K A H (ps ++ (q1 ++ qs))) : R K A' H' (ps ++ (q2 ++ qs)) := by
  have p1 : (ps ++ (q1 ++ qs)).Perm (q1 ++ (ps ++ qs)) := by
    rw [← List.append_assoc, ← List.append_assoc]
    exact List.Perm.append_right _ List.perm_append_comm
  have p2 : (q2 ++ (ps ++ qs)).Perm (ps ++ (q2 ++ qs)) := by
    rw [← List.append_assoc, ← List.append_assoc]
    exact List.Perm.append_right _ List.perm_append_comm
  exact (f _ (r.perm p1)).perm p2
end

/-! ### slots -/
abbrev Env := List (Option OV)
inductive Slots : St → Env → Bag → Prop
  | nil : Slots [] [] []
  | no {o : Option V} {σ : St} {env : Env} {ps : Bag} : Slots σ env ps → Slots (o :: σ) (none :: env) ps
  | yes {v : V} {x : OV} {σ : St} {env : Env} {ps : Bag} : Slots σ env ps → Slots (some v :: σ) (some x :: env) ((v, x) :: ps)
theorem Slots.length {σ : St} {env : Env} {ps : Bag} (h : Slots σ env ps) : σ.length = env.length := by
  induction h with
  | nil => rfl
  | no _ ih => simp [ih]
  | yes _ ih => simp [ih]
/-- a slot's thing is taken out -/
theorem Slots.take {σ : St} {env : Env} {ps : Bag} {i : Nat} {x : OV} (h : Slots σ env ps) (e : env[i]? = some (some x)) : ∃ v qs, σ[i]? = some (some v) ∧ ps.Perm ((v, x) :: qs) ∧ Slots σ (env.set i none) qs := by
  induction h generalizing i with
  | nil => simp at e
  | no h ih =>
    cases i with
    | zero => simp at e
    | succ i =>
      obtain ⟨v, qs, e1, e2, e3⟩ := ih (by simpa using e)
      exact ⟨v, qs, by simpa using e1, e2, .no e3⟩
  | yes h ih =>
    cases i with
    | zero =>
      simp at e
      subst e
      exact ⟨_, _, rfl, .refl _, .no h⟩
    | succ i =>
      obtain ⟨v, qs, e1, e2, e3⟩ := ih (by simpa using e)
      exact ⟨v, _ :: qs, by simpa using e1, (e2.cons _).trans (.swap _ _ _), .yes e3⟩
/-- a slot is filled: what stood there goes -/
theorem Slots.putP {σ : St} {env : Env} {ps : Bag} {i : Nat} (h : Slots σ env ps) (hi : i < σ.length) (v : V) (x : OV) : ∃ qs, Slots (σ.set i (some v)) (env.set i (some x)) qs ∧ ∃ rs us, ps.Perm (rs ++ us) ∧ qs.Perm ((v, x) :: us) := by
  induction h generalizing i with
  | nil => simp at hi
  | @no o σ env ps h ih =>
    cases i with
    | zero => exact ⟨_, .yes h, [], _, .refl _, .refl _⟩
    | succ i =>
      obtain ⟨qs, q1, rs, us, q2, q3⟩ := ih (i := i) (by simpa using hi)
      exact ⟨_, .no q1, rs, us, q2, q3⟩
  | @yes w y σ env ps h ih =>
    cases i with
    | zero => exact ⟨_, .yes h, [(w, y)], ps, .refl _, .refl _⟩
    | succ i =>
      obtain ⟨qs, q1, rs, us, q2, q3⟩ := ih (i := i) (by simpa using hi)
      refine ⟨_, .yes q1, rs, (w, y) :: us, ?_, ?_⟩
      · exact (q2.cons _).trans List.perm_middle.symm
      · exact (q3.cons _).trans (.swap _ _ _)
/-- names of a block forgotten -/
def wipeE (env : Env) : List Nat → Env
  | [] => env
  | i :: r => (wipeE env r).set i none
theorem Slots.forget {σ : St} {env : Env} {ps : Bag} (i : Nat) (o : Option V) (h : Slots σ env ps) : ∃ rs qs, ps.Perm (rs ++ qs) ∧ Slots (σ.set i o) (env.set i none) qs := by
  induction h generalizing i with
  | nil => exact ⟨[], [], .refl _, .nil⟩
  | no h ih =>
    cases i with
    | zero => exact ⟨[], _, .refl _, .no h⟩
    | succ i =>
      obtain ⟨rs, qs, e1, e2⟩ := ih i
      exact ⟨rs, qs, e1, .no e2⟩
  | @yes w y σ env ps h ih =>
    cases i with
    | zero => exact ⟨[(w, y)], _, .refl _, .no h⟩
    | succ i =>
      obtain ⟨rs, qs, e1, e2⟩ := ih i
      exact ⟨rs, _ :: qs, (e1.cons _).trans List.perm_middle.symm, .yes e2⟩

abbrev Pins := List (Nat × V)
/-- the slots hold env, and beside them the bag ws -/
structure Rl (K : PySem.W.Frag) (pin : Pins) (σ : St) (env : Env) (ws : Bag) (H : Hp) : Prop where
  ex : ∃ ps, Slots σ env ps ∧ R K [] H (ps ++ ws)
  pn : ∀ p ∈ pin, σ[p.1]? = some (some p.2)
section
variable {K : PySem.W.Frag} {H H' : Hp} {pin : Pins} {σ : St} {env : Env} {ws qs q1 q2 : Bag} {v w : V} {x y : OV} {d : Dt} {i : Nat}
theorem Rl.under (f : ∀ ps, R K [] H (q1 ++ ps) → R K [] H' (q2 ++ ps)) (r : Rl K pin σ env (q1 ++ ws) H) : Rl K pin σ env (q2 ++ ws) H' := by
  obtain ⟨⟨ps, s, r⟩, pn⟩ := r
  exact ⟨⟨ps, s, R.under f r⟩, pn⟩
theorem Rl.get (r : Rl K pin σ env (q1 ++ ws) H) : ∃ ps, R K [] H (q1 ++ ps) := by
  obtain ⟨⟨ps, s, r⟩, pn⟩ := r
  refine ⟨ps ++ ws, r.perm ?_⟩
  rw [← List.append_assoc, ← List.append_assoc]
  exact List.Perm.append_right _ List.perm_append_comm
/-- the bag opened at its front, for good -/
theorem Rl.fix (r : Rl K pin σ env (q1 ++ ws) H) : ∃ ps, R K [] H (q1 ++ ps) ∧ ∀ H' q2, R K [] H' (q2 ++ ps) → Rl K pin σ env (q2 ++ ws) H' := by
  obtain ⟨⟨ps, s, r⟩, pn⟩ := r
  refine ⟨ps ++ ws, r.perm ?_, fun H' q2 r2 => ⟨⟨ps, s, r2.perm ?_⟩, pn⟩⟩
  · rw [← List.append_assoc, ← List.append_assoc]
    exact List.Perm.append_right _ List.perm_append_comm
  · rw [← List.append_assoc, ← List.append_assoc]
    exact List.Perm.append_right _ List.perm_append_comm
theorem Rl.drop (r : Rl K pin σ env ((v, x) :: ws) H) : Rl K pin σ env ws H := Rl.under (q1 := [(v, x)]) (q2 := []) (fun _ r => R.drop r) r
theorem Rl.mono (s : Same H H') (r : Rl K pin σ env ws H) : Rl K pin σ env ws H' := Rl.under (q1 := []) (q2 := []) (fun _ r => R.mono s r) r
theorem Rl.dup (r : Rl K pin σ env ((v, .val d) :: ws) H) : Rl K pin σ env ((v, .val d) :: (v, .val d) :: ws) H := Rl.under (q1 := [(v, .val d)]) (q2 := [(v, .val d), (v, .val d)]) (fun _ r => R.dup r) r
theorem Rl.dp (r : Rl K pin σ env ((v, .val d) :: ws) H) : Dp K H v d := by
  obtain ⟨ps, r⟩ := Rl.get (q1 := [(v, .val d)]) r
  exact R.dp r
theorem Rl.add (h : ∀ F : Hp, Dp K F v d) (r : Rl K pin σ env ws H) : Rl K pin σ env ((v, .val d) :: ws) H := Rl.under (q1 := []) (q2 := [(v, .val d)]) (fun _ r => R.add h r) r
/-- out of a slot, by a copy -/
theorem Rl.var (e : env[i]? = some (some (.val d))) (r : Rl K pin σ env ws H) : ∃ v, σ[i]? = some (some v) ∧ Rl K pin σ env ((v, .val d) :: ws) H := by
  obtain ⟨⟨ps, s, r⟩, pn⟩ := r
  obtain ⟨v, qs, e1, e2, _⟩ := s.take e
  refine ⟨v, e1, ⟨ps, s, ?_⟩, pn⟩
  have p1 : (ps ++ ws).Perm ((v, .val d) :: (qs ++ ws)) := List.Perm.append_right ws e2
  have r2 := R.dup (r.perm p1)
  exact r2.perm ((p1.symm.cons _).trans List.perm_middle.symm)
/-- out of a slot, moved -/
theorem Rl.take (e : env[i]? = some (some x)) (r : Rl K pin σ env ws H) : ∃ v, σ[i]? = some (some v) ∧ Rl K pin σ (env.set i none) ((v, x) :: ws) H := by
  obtain ⟨⟨ps, s, r⟩, pn⟩ := r
  obtain ⟨v, qs, e1, e2, e3⟩ := s.take e
  refine ⟨v, e1, ⟨qs, e3, ?_⟩, pn⟩
  exact r.perm ((List.Perm.append_right ws e2).trans List.perm_middle.symm)
/-- into a slot -/
theorem Rl.put (hi : i < σ.length) (hp : i ∉ pin.map (·.1)) (r : Rl K pin σ env ((v, x) :: ws) H) : Rl K pin (σ.set i (some v)) (env.set i (some x)) ws H := by
  obtain ⟨⟨ps, s, r⟩, pn⟩ := r
  obtain ⟨qs, s', rs, us, e1, e2⟩ := s.putP hi v x
  refine ⟨⟨qs, s', ?_⟩, fun p h => ?_⟩
  · have p1 : (ps ++ (v, x) :: ws).Perm (rs ++ (us ++ (v, x) :: ws)) := by
      rw [← List.append_assoc]
      exact List.Perm.append_right _ e1
    have r2 := R.dropL (r.perm p1)
    refine r2.perm (List.perm_middle.trans ?_)
    exact (List.Perm.append_right ws e2).symm
  · rw [List.getElem?_set_ne]
    · exact pn p h
    · rintro rfl
      exact hp (List.mem_map.mpr ⟨p, h, rfl⟩)
/-- back into the slot from which it came -/
theorem Rl.back (e : σ[i]? = some (some v)) (r : Rl K pin σ env ((v, x) :: ws) H) : Rl K pin σ (env.set i (some x)) ws H := by
  obtain ⟨hi, e'⟩ := List.getElem?_eq_some_iff.mp e
  obtain ⟨⟨ps, s, r⟩, pn⟩ := r
  have es : σ.set i (some v) = σ := by
    rw [← e']
    exact List.set_getElem_self hi
  obtain ⟨qs, s', rs, us, e1, e2⟩ := s.putP hi v x
  rw [es] at s'
  refine ⟨⟨qs, s', ?_⟩, pn⟩
  have p1 : (ps ++ (v, x) :: ws).Perm (rs ++ (us ++ (v, x) :: ws)) := by
    rw [← List.append_assoc]
    exact List.Perm.append_right _ e1
  have r2 := R.dropL (r.perm p1)
  refine r2.perm (List.perm_middle.trans ?_)
  exact (List.Perm.append_right ws e2).symm
theorem Rl.forget (i : Nat) (r : Rl K pin σ env ws H) (o : Option V) (hp : i ∉ pin.map (·.1)) : Rl K pin (σ.set i o) (env.set i none) ws H := by
  obtain ⟨⟨ps, s, r⟩, pn⟩ := r
  obtain ⟨rs, qs, e1, e2⟩ := s.forget i o
  refine ⟨⟨qs, e2, ?_⟩, fun p h => ?_⟩
  · refine R.dropL (qs := rs) (r.perm ?_)
    rw [← List.append_assoc]
    exact List.Perm.append_right _ e1
  · rw [List.getElem?_set_ne]
    · exact pn p h
    · rintro rfl
      exact hp (List.mem_map.mpr ⟨p, h, rfl⟩)
theorem Rl.len (r : Rl K pin σ env ws H) : σ.length = env.length := by
  obtain ⟨⟨ps, s, _⟩, _⟩ := r
  exact s.length
end
end DL

namespace DL
open PySem PySem.Spec L2

mutual
/-- as frozen data -/
def OV.frz : OV → Option Dt
  | .val d => some d
  | .lst xs => (OV.frzL xs).map .list
  | .raw _ => none
  | .sub _ _ _ => none
def OV.frzL : List OV → Option (List Dt)
  | [] => some []
  | x :: xs => match OV.frz x, OV.frzL xs with
    | some d, some ds => some (d :: ds)
    | _, _ => none
end
section
variable {K : PySem.W.Frag} {H F F' : Hp} {A : List Addr} {ps ws : Bag}
mutual
theorem Own.frz (hF : Same F F') : ∀ {v : V} {x : OV} {fp : List Addr} {d : Dt}, Own K H F v x fp → x.frz = some d → (∀ a ∈ fp, F' a = H a) → Dp K F' v d
  | _, .val d, _, e, .val h, q, _ => by
    rw [OV.frz] at q
    cases q
    exact Dp.same hF h
  | _, .lst xs, _, e, .lst h t, q, k => by
    rw [OV.frz] at q
    cases q' : OV.frzL xs with
    | none => rw [q'] at q; cases q
    | some ds =>
      rw [q'] at q
      cases q
      exact .lst (.inl (.inl (by rw [k _ List.mem_cons_self]; exact h))) (OwnL.frz hF t q' fun a ha => k a (List.mem_cons_of_mem _ ha))
  | _, .raw _, _, _, .raw, q, _ => by
    rw [OV.frz] at q
    cases q
  | _, .sub _ _ _, _, _, .sub _ _, q, _ => by
    rw [OV.frz] at q
    cases q
theorem OwnL.frz (hF : Same F F') : ∀ {vs : List V} {xs : List OV} {fp : List Addr} {ds : List Dt}, OwnL K H F vs xs fp → OV.frzL xs = some ds → (∀ a ∈ fp, F' a = H a) → DpAll K F' vs ds
  | _, [], _, _, .nil, q, _ => by
    rw [OV.frzL] at q
    cases q
    exact .nil
  | _, x :: xs, _, _, .cons h t, q, k => by
    rw [OV.frzL] at q
    cases q1 : x.frz with
    | none => rw [q1] at q; cases q
    | some d =>
      cases q2 : OV.frzL xs with
      | none => rw [q1, q2] at q; cases q
      | some ds =>
        rw [q1, q2] at q
        cases q
        exact .cons (Own.frz hF h q1 fun a ha => k a (List.mem_append_left _ ha)) (OwnL.frz hF t q2 fun a ha => k a (List.mem_append_right _ ha))
end
theorem R.frz {v : V} {x : OV} {d : Dt} (q : x.frz = some d) (r : R K A H ((v, x) :: ps)) : R K A H ((v, .val d) :: ps) := by
  obtain ⟨Z, nd, o⟩ := r
  cases o with
  | @cons _ _ _ _ fp gp h t =>
    have s : ∀ b ∈ A ++ gp, b ∈ A ++ (fp ++ gp) := fun b hb => by
      rcases List.mem_append.mp hb with z | z
      · exact List.mem_append_left _ z
      · exact List.mem_append_right _ (List.mem_append_right _ z)
    have nd2 := List.nodup_append.mp nd
    have nd3 := List.nodup_append.mp nd2.2.1
    refine ⟨gp, ?_, .cons (fp := []) (.val (Own.frz (hid_sub s) h q fun a ha => hid_out fun z => ?_)) (OwnL.mono (hid_sub s) t fun _ _ => rfl)⟩
    · exact List.nodup_append.mpr ⟨nd2.1, nd3.2.1, fun a ha b hb => nd2.2.2 a ha b (List.mem_append_right _ hb)⟩
    · rcases List.mem_append.mp z with z | z
      · exact nd2.2.2 a z a (List.mem_append_left _ ha) rfl
      · exact nd3.2.2 a ha a z rfl
theorem frzL_len : ∀ {xs : List OV} {ds : List Dt}, OV.frzL xs = some ds → xs.length = ds.length
  | [], _, q => by
    rw [OV.frzL] at q
    cases q
    rfl
  | x :: xs, _, q => by
    rw [OV.frzL] at q
    cases q1 : x.frz with
    | none => rw [q1] at q; cases q
    | some d =>
      cases q2 : OV.frzL xs with
      | none => rw [q1, q2] at q; cases q
      | some ds =>
        rw [q1, q2] at q
        cases q
        rw [List.length_cons, List.length_cons, frzL_len q2]
theorem R.frzL : ∀ {vs : List V} {xs : List OV} {ds : List Dt} {ps : Bag}, vs.length = xs.length → OV.frzL xs = some ds → R K A H (vs.zip xs ++ ps) → R K A H (vs.zip (ds.map .val) ++ ps)
  | [], [], _, _, _, q, r => by
    rw [OV.frzL] at q
    cases q
    exact r
  | [], _ :: _, _, _, e, _, _ => by simp at e
  | _ :: _, [], _, _, e, _, _ => by simp at e
  | v :: vs, x :: xs, _, ps, e, q, r => by
    rw [OV.frzL] at q
    cases q1 : x.frz with
    | none => rw [q1] at q; cases q
    | some d =>
      cases q2 : OV.frzL xs with
      | none => rw [q1, q2] at q; cases q
      | some ds =>
        rw [q1, q2] at q
        cases q
        have r1 := R.unfront (R.frz q1 r)
        have r2 := R.frzL (vs := vs) (xs := xs) (ds := ds) (ps := (v, .val d) :: ps) (by simpa using e) q2 r1
        exact R.front r2
end
@[simp] theorem frzL_map : ∀ ds : List Dt, OV.frzL (ds.map .val) = some ds
  | [] => by simp [OV.frzL]
  | d :: ds => by simp [OV.frzL, OV.frz, frzL_map ds]
@[simp] theorem frz_val (d : Dt) : (OV.val d).frz = some d := by simp [OV.frz]
@[simp] theorem frz_lst (ds : List Dt) : (OV.lst (ds.map .val)).frz = some (.list ds) := by simp [OV.frz]

/-! ### what a piece of the program does with the slots -/
structure Exn where
  cls : Str
  fld : Option (Str × Dt) := none
inductive Er (α : Type) where
  | ok (a : α) (env : Env)
  | ex (e : Exn) (env : Env)
abbrev M (α : Type) := Env → Option (Er α)
def mR {α : Type} (a : α) : M α := fun env => some (.ok a env)
def mO {α : Type} (o : Option α) : M α := fun env => match o with
  | some a => some (.ok a env)
  | none => none
def mB {α β : Type} (f : M α) (g : α → M β) : M β := fun env => match f env with
  | some (.ok a env') => g a env'
  | some (.ex e env') => some (.ex e env')
  | none => none
theorem mB_cases {α β : Type} {f : M α} {g : α → M β} {env : Env} {r : Er β} (h : mB f g env = some r) :
    (∃ a env1, f env = some (.ok a env1) ∧ g a env1 = some r) ∨ ∃ e env1, f env = some (.ex e env1) ∧ r = .ex e env1 := by
  unfold mB at h
  split at h
  · exact .inl ⟨_, _, by assumption, h⟩
  · cases h
    exact .inr ⟨_, _, by assumption, rfl⟩
  · cases h
theorem mO_some {α : Type} {o : Option α} {env : Env} {r : Er α} (h : mO o env = some r) : ∃ a, o = some a ∧ r = .ok a env := by
  unfold mO at h
  split at h
  · cases h
    exact ⟨_, rfl, rfl⟩
  · cases h

/-- an exception is as told -/
def ExIs (K : PySem.W.Frag) (mg : Str → Option Value) (e : Exn) (cls : Value) (d : Option Addr) (H : Hp) : Prop :=
  ∃ C, mg e.cls = some (.ref C) ∧ cls = .ref C ∧ match e.fld with
    | none => True
    | some (f, x) => ∃ dd v, d = some dd ∧ H dd = some (.xd [(f, v)]) ∧ Dp K H v x

section
variable (K : PySem.W.Frag) (mg : Str → Option Value) (pin : Pins) (W : WX)
/-- what is wanted of an exception -/
def Xp (ws : Bag) (σ : St) {α : Type} (r : Er α) : Prop := ∀ e env', r = .ex e env' → ∀ cls d H', ExIs K mg e cls d H' → Rl K pin σ env' ws H' → W cls d σ H'
def dE (f : M OV) : TE := fun σ H Q => ∃ env ws r, Rl K pin σ env ws H ∧ f env = some r ∧ Xp K mg pin W ws σ r ∧
  ∀ x env', r = .ok x env' → ∀ v H', Rl K pin σ env' ((v, x) :: ws) H' → Q v H'
def dT (f : M Bool) : TT := fun σ H Q => ∃ env ws r, Rl K pin σ env ws H ∧ f env = some r ∧ Xp K mg pin W ws σ r ∧
  ∀ b env', r = .ok b env' → ∀ H', Rl K pin σ env' ws H' → Q b H'
def dA (f : M (List OV)) : TA := fun σ H Q => ∃ env ws r, Rl K pin σ env ws H ∧ f env = some r ∧ Xp K mg pin W ws σ r ∧
  ∀ xs env', r = .ok xs env' → ∀ vs H', vs.length = xs.length → Rl K pin σ env' (vs.zip xs ++ ws) H' → Q vs H'
end
section
variable {K : PySem.W.Frag} {mg : Str → Option Value} {pin : Pins} {W : WX} {ws qs : Bag} {σ : St} {H : Hp} {env : Env} {v : V} {x : OV}
theorem Xp.drop {α : Type} {r : Er α} (h : Xp K mg pin W ws σ r) : Xp K mg pin W ((v, x) :: ws) σ r := fun e env' q cls d H' i R => h e env' q cls d H' i R.drop
theorem Xp.dropL {α : Type} {r : Er α} : ∀ {qs : Bag}, Xp K mg pin W ws σ r → Xp K mg pin W (qs ++ ws) σ r
  | [], h => h
  | _ :: _, h => Xp.drop (Xp.dropL h)
theorem Xp.ok {α : Type} {a : α} {env' : Env} : Xp K mg pin W ws σ (.ok a env') := fun _ _ q => nomatch q
theorem Xp.of {α β : Type} {r : Er α} {e : Exn} {env1 : Env} (h : Xp K mg pin W ws σ r) (q : r = .ex e env1) : Xp K mg pin W ws σ (Er.ex (α := β) e env1) := fun e' env' q' => by
  cases q'
  exact h _ _ q
/-- the first of two -/
theorem dE_bind {β : Type} {f : M OV} {g : OV → M β} {r : Er β} {P : VK} (hR : Rl K pin σ env ws H) (he : mB f g env = some r) (hx : Xp K mg pin W ws σ r)
    (k : ∀ x env1 v H1, Rl K pin σ env1 ((v, x) :: ws) H1 → g x env1 = some r → P v H1) : dE K mg pin W f σ H P := by
  rcases mB_cases he with ⟨x, env1, e1, e2⟩ | ⟨e, env1, e1, e2⟩
  · exact ⟨env, ws, _, hR, e1, .ok, fun x' env' q v H1 R1 => by cases q; exact k _ _ v H1 R1 e2⟩
  · exact ⟨env, ws, _, hR, e1, hx.of e2, fun x' env' q => nomatch q⟩
theorem dA_bind {β : Type} {f : M (List OV)} {g : List OV → M β} {r : Er β} {P : List V → Hp → Prop} (hR : Rl K pin σ env ws H) (he : mB f g env = some r) (hx : Xp K mg pin W ws σ r)
    (k : ∀ xs env1 vs H1, vs.length = xs.length → Rl K pin σ env1 (vs.zip xs ++ ws) H1 → g xs env1 = some r → P vs H1) : dA K mg pin W f σ H P := by
  rcases mB_cases he with ⟨x, env1, e1, e2⟩ | ⟨e, env1, e1, e2⟩
  · exact ⟨env, ws, _, hR, e1, .ok, fun x' env' q v H1 l R1 => by cases q; exact k _ _ v H1 l R1 e2⟩
  · exact ⟨env, ws, _, hR, e1, hx.of e2, fun x' env' q => nomatch q⟩
theorem dT_bind {β : Type} {f : M Bool} {g : Bool → M β} {r : Er β} {P : Bool → Hp → Prop} (hR : Rl K pin σ env ws H) (he : mB f g env = some r) (hx : Xp K mg pin W ws σ r)
    (k : ∀ b env1 H1, Rl K pin σ env1 ws H1 → g b env1 = some r → P b H1) : dT K mg pin W f σ H P := by
  rcases mB_cases he with ⟨x, env1, e1, e2⟩ | ⟨e, env1, e1, e2⟩
  · exact ⟨env, ws, _, hR, e1, .ok, fun x' env' q H1 R1 => by cases q; exact k _ _ H1 R1 e2⟩
  · exact ⟨env, ws, _, hR, e1, hx.of e2, fun x' env' q => nomatch q⟩
end

section
variable {X : Cx} {e : Expr} {es : List Expr}
theorem _root_.L2.PE.imp {t t' : TE} (h : PE X e t) (k : ∀ σ H Q, t' σ H Q → t σ H Q) : PE X e t' := ⟨fun pins s σ H Q I q => h.run pins s σ H Q I (k _ _ _ q)⟩
theorem _root_.L2.PT.imp {t t' : TT} (h : PT X e t) (k : ∀ σ H Q, t' σ H Q → t σ H Q) : PT X e t' := ⟨fun pins s σ H Q I q => h.run pins s σ H Q I (k _ _ _ q)⟩
theorem _root_.L2.PW.imp {t t' : TT} (h : PW X e t) (k : ∀ σ H Q, t' σ H Q → t σ H Q) : PW X e t' := ⟨fun wh pins s σ H Q I q => h.run wh pins s σ H Q I (k _ _ _ q)⟩
theorem _root_.L2.PA.imp {t t' : TA} (h : PA X es t) (k : ∀ σ H Q, t' σ H Q → t σ H Q) : PA X es t' := ⟨fun pos pins s σ H Q I q => h.run pos pins s σ H Q I (k _ _ _ q)⟩
theorem _root_.L2.PS.imp {st : Stmt} {t t' : TS} (h : PS X st t) (k : ∀ D σ H, t' D σ H → t D σ H) : PS X st t' := ⟨fun pins s σ H D I q => h.run pins s σ H D I (k _ _ _ q)⟩
theorem _root_.L2.PSs.imp {st : List Stmt} {t t' : TS} (h : PSs X st t) (k : ∀ D σ H, t' D σ H → t D σ H) : PSs X st t' := ⟨fun pins s σ H D I q => h.run pins s σ H D I (k _ _ _ q)⟩
end

abbrev De (X : Cx) (pin : Pins) (W : WX) (e : Expr) (f : M OV) : Prop := PE X e (dE X.K X.mg pin W f)
abbrev Db (X : Cx) (pin : Pins) (W : WX) (e : Expr) (f : M Bool) : Prop := PT X e (dT X.K X.mg pin W f)
abbrev Da (X : Cx) (pin : Pins) (W : WX) (es : List Expr) (f : M (List OV)) : Prop := PA X es (dA X.K X.mg pin W f)

section
variable {X : Cx} {pin : Pins} {W : WX} {a b c e : Expr} {es : List Expr} {pos : Pos} {f g h : M OV} {fa fb : M Bool} {fs : M (List OV)}

/-! ### constants, names -/
def mC (d : Dt) : M OV := mR (.val d)
theorem de_c {v : V} {d : Dt} (hv : ∀ F : Hp, Dp X.K F v d) (h : PE X e (tC v)) : De X pin W e (mC d) := h.imp fun σ H Q ⟨env, ws, r, hR, he, hx, k⟩ => by
  cases he
  exact k _ _ rfl v H (hR.add hv)
theorem de_int {i : Int} {j : Nat} : De X pin W (.Constant (.int i) j pos) (mC (.int i)) := de_c (fun _ => .int i) pe_int
theorem de_bl {b : Bool} {j : Nat} : De X pin W (.Constant (.bool b) j pos) (mC (.bool b)) := de_c (fun _ => .bl b) pe_bl
theorem de_non {j : Nat} : De X pin W (.Constant .none j pos) (mC .none) := de_c (fun _ => .non) pe_non
theorem de_str {x : Str} {j : Nat} : De X pin W (.Constant (.str x) j pos) (mC (.str x)) := de_c (fun _ => .str x) pe_str
/-- a name of the module that holds data -/
def GlobD (K : PySem.W.Frag) (mg : Str → Option Value) (x : Str) (d : Dt) : Prop := ∃ v u, mg x = some u ∧ RelV v u ∧ ∀ F : Hp, Dp K F v d
theorem de_glob {x : Str} {d : Dt} (hg : GlobD X.K X.mg x d) (g : Gl X x := by rfl) (hd : (x == ("__debug__" : Str)) = false := by decide) : De X pin W (.Name x pos) (mC d) := by
  obtain ⟨v, u, hm, r, hv⟩ := hg
  exact de_c hv (pe_glob g hm r hd)
/-- a slot's name: frozen when it is read -/
def mV (i : Nat) : M OV := fun env => match env[i]? with
  | some (some (.val d)) => some (.ok (.val d) env)
  | some (some x) => match x.frz with
    | some d => some (.ok (.val d) (env.set i (some (.val d))))
    | none => none
  | _ => none
theorem de_var {i : Nat} (h : PE X e (tVar i)) : De X pin W e (mV i) := h.imp fun σ H Q ⟨env, ws, r, hR, he, hx, k⟩ => by
  unfold mV at he
  split at he
  · rename_i d q
    cases he
    obtain ⟨v, e1, R1⟩ := hR.var q
    exact ⟨v, e1, k _ _ rfl v H R1⟩
  · rename_i x nv q
    split at he
    · rename_i d q2
      cases he
      obtain ⟨v, e1, R1⟩ := hR.take q
      have R2 := Rl.under (q1 := [(v, x)]) (q2 := [(v, .val d)]) (fun _ r => R.frz q2 r) R1
      have R3 := R2.dup
      have e2 : (env.set i none).set i (some (OV.val d)) = env.set i (some (OV.val d)) := List.set_set _
      have R4 := Rl.back e1 R3
      rw [e2] at R4
      exact ⟨v, e1, k _ _ rfl v H R4⟩
    · cases he
  · cases he
/-- .. moved out of its slot -/
def mMv (i : Nat) : M OV := fun env => match env[i]? with
  | some (some x) => some (.ok x (env.set i none))
  | _ => none
theorem de_mv {i : Nat} (h : PE X e (tVar i)) : De X pin W e (mMv i) := h.imp fun σ H Q ⟨env, ws, r, hR, he, hx, k⟩ => by
  unfold mMv at he
  split at he
  · rename_i x q
    cases he
    obtain ⟨v, e1, R1⟩ := hR.take q
    exact ⟨v, e1, k _ _ rfl v H R1⟩
  · cases he

/-! ### argument lists -/
def mNil : M (List OV) := mR []
def mCons (f : M OV) (fs : M (List OV)) : M (List OV) := mB f fun x => mB fs fun xs => mR (x :: xs)
theorem da_nil : Da X pin W [] mNil := pa_nil.imp fun σ H Q ⟨env, ws, r, hR, he, hx, k⟩ => by
  cases he
  exact k _ _ rfl [] H rfl hR
theorem da_cons (he : De X pin W e f) (hes : Da X pin W es fs) (hs : starEach (e :: es) X.env = (false, eval e X.env) :: starEach es X.env := by rfl) : Da X pin W (e :: es) (mCons f fs) :=
  (pa_cons he hes hs).imp fun σ H Q ⟨env, ws, r, hR, he, hx, k⟩ => by
    refine dE_bind hR he hx fun x env1 v H1 R1 he1 => ?_
    refine dA_bind R1 he1 hx.drop fun xs env2 vs H2 l R2 he2 => ?_
    cases he2
    refine k _ _ rfl (v :: vs) H2 (by simp [l]) ?_
    obtain ⟨⟨ps, s, r⟩, pn⟩ := R2
    refine ⟨⟨ps, s, r.perm (List.Perm.append_left _ ?_)⟩, pn⟩
    exact List.perm_middle

/-! ### operators -/
/-- an operator of two: from frozen data to what is handed back -/
def Sound2 (K : PySem.W.Frag) (r : R2) (g : Dt → Dt → Option OV) : Prop := ∀ (H : Hp) (v w : V) (x y : Dt) (z : OV) (Q : VK) (ps : Bag), g x y = some z → R K [] H ((w, .val y) :: (v, .val x) :: ps) →
  (∀ v' H', R K [] H' ((v', z) :: ps) → Q v' H') → r v w H Q
def g2 (g : Dt → Dt → Option OV) (x y : OV) : Option OV := match x.frz, y.frz with
  | some d, some e => g d e
  | _, _ => none
theorem g2_some {g : Dt → Dt → Option OV} {x y z : OV} (h : g2 g x y = some z) : ∃ d e, x.frz = some d ∧ y.frz = some e ∧ g d e = some z := by
  unfold g2 at h
  split at h
  · exact ⟨_, _, by assumption, by assumption, h⟩
  · cases h
def m2 (g : Dt → Dt → Option OV) (f h : M OV) : M OV := mB f fun x => mB h fun y => mO (g2 g x y)
theorem sound2_use {K : PySem.W.Frag} {mg : Str → Option Value} {r : R2} {gg : Dt → Dt → Option OV} (hs : Sound2 K r gg) {σ : St} {H : Hp} {Q : VK} {env : Env} {ws : Bag} {rr : Er OV} (hR : Rl K pin σ env ws H) (he : m2 gg f h env = some rr) (hx : Xp K mg pin W ws σ rr)
    (k : ∀ x env', rr = .ok x env' → ∀ v H', Rl K pin σ env' ((v, x) :: ws) H' → Q v H') : tOp r (dE K mg pin W f) (dE K mg pin W h) σ H Q := by
  refine dE_bind hR he hx fun x env1 v H1 R1 he1 => ?_
  refine dE_bind R1 he1 hx.drop fun y env2 w H2 R2 he2 => ?_
  obtain ⟨z, e3, rfl⟩ := mO_some he2
  obtain ⟨dx, dy, ex, ey, e4⟩ := g2_some e3
  have R3 := Rl.under (q1 := [(w, y), (v, x)]) (q2 := [(w, .val dy), (v, .val dx)]) (fun _ r => by
    have r1 := R.frz ey r
    have r2 := R.frz ex (r1.perm (.swap _ _ _))
    exact r2.perm (.swap _ _ _)) R2
  obtain ⟨ps, r0, back⟩ := Rl.fix (q1 := [(w, .val dy), (v, .val dx)]) R3
  refine hs H2 v w dx dy z Q ps e4 r0 fun v' H' r1 => ?_
  exact k _ _ rfl v' H' (back H' [(v', z)] r1)
theorem de_op {op : Operator} {r : R2} {gg : Dt → Dt → Option OV} (ho : OpR X (binaryOp op) r) (hs : Sound2 X.K r gg) (ha : De X pin W a f) (hb : De X pin W b h) : De X pin W (.BinOp a op b pos) (m2 gg f h) :=
  (pe_op ho ha hb).imp fun σ H Q ⟨env, ws, rr, hR, he, hx, k⟩ => sound2_use hs hR he hx k
theorem de_cmp {op : CmpOp} {r : R2} {gg : Dt → Dt → Option OV} (ho : OpR X (compareOp op) r) (hs : Sound2 X.K r gg) (ha : De X pin W a f) (hb : De X pin W b h) (hm : behindInMarks op b = false) : De X pin W (.Compare a [op] [b] pos) (m2 gg f h) :=
  (pe_cmpR ho ha hb hm).imp fun σ H Q ⟨env, ws, rr, hR, he, hx, k⟩ => sound2_use hs hR he hx k
/-- a value that is a bool -/
def bl? : OV → Option Bool
  | .val (.bool b) => some b
  | _ => none
def mBl (f : M OV) : M Bool := mB f fun x => mO (bl? x)
theorem bl?_some {x : OV} {b : Bool} (h : bl? x = some b) : x = .val (.bool b) := by
  unfold bl? at h
  split at h
  · cases h
    rfl
  · cases h
theorem dT_of {K : PySem.W.Frag} {mg : Str → Option Value} {σ : St} {H : Hp} {Q : Bool → Hp → Prop} (q : dT K mg pin W (mBl f) σ H Q) : dE K mg pin W f σ H fun x H1 => ∃ c, x = .bl c ∧ Q c H1 := by
  obtain ⟨env, ws, rr, hR, he, hx, k⟩ := q
  refine dE_bind hR he hx fun x env1 v H1 R1 he1 => ?_
  obtain ⟨b, e3, rfl⟩ := mO_some he1
  cases bl?_some e3
  have d := R1.dp
  cases d
  exact ⟨b, rfl, k _ _ rfl H1 R1.drop⟩
theorem db_cmp {op : CmpOp} {r : R2} {gg : Dt → Dt → Option OV} (ho : OpR X (compareOp op) r) (hs : Sound2 X.K r gg) (ha : De X pin W a f) (hb : De X pin W b h) (hm : behindInMarks op b = false) : Db X pin W (.Compare a [op] [b] pos) (mBl (m2 gg f h)) :=
  (pt_cmpR ho ha hb hm).imp fun σ H Q q => by
    obtain ⟨env, ws, rr, hR, he, hx, k⟩ := dT_of q
    exact sound2_use hs hR he hx k
theorem db_val (h : De X pin W e f) (he : ∀ whole, isTrue e X.env whole = (do let v ← whole; standAt e.pos; holding [v] (truthy v)) := by intro _; rfl) : Db X pin W e (mBl f) :=
  (pt_val h he).imp fun σ H Q q => dT_of q

/-! ### and, or, not -/
def mIf {α : Type} (c : M Bool) (f g : M α) : M α := mB c fun b => if b = true then f else g
theorem dT_use {K : PySem.W.Frag} {mg : Str → Option Value} {σ : St} {H : Hp} {env : Env} {ws : Bag} {r : Er Bool} {P : Bool → Hp → Prop} (hR : Rl K pin σ env ws H) (he : fa env = some r) (hx : Xp K mg pin W ws σ r)
    (k : ∀ b env', r = .ok b env' → ∀ H', Rl K pin σ env' ws H' → P b H') : dT K mg pin W fa σ H P := ⟨env, ws, r, hR, he, hx, k⟩
abbrev Dw (X : Cx) (pin : Pins) (W : WX) (e : Expr) (f : M Bool) : Prop := PW X e (dT X.K X.mg pin W f)
def mAnd (f g : M Bool) : M Bool := mIf f g (mR false)
def mOr (f g : M Bool) : M Bool := mIf f (mR true) g
def mNot (f : M Bool) : M Bool := mB f fun b => mR (!b)
theorem dw_and1 (ha : Db X pin W a fa) : Dw X pin W (.BoolOp .And [a] pos) fa := pw_and1 ha
theorem dw_or1 (ha : Db X pin W a fa) : Dw X pin W (.BoolOp .Or [a] pos) fa := pw_or1 ha
theorem dw_and {rest : List Expr} (ha : Db X pin W a fa) (hb : Dw X pin W (.BoolOp .And (b :: rest) pos) fb) : Dw X pin W (.BoolOp .And (a :: b :: rest) pos) (mAnd fa fb) :=
  (pw_and ha hb).imp fun σ H Q ⟨env, ws, rr, hR, he, hx, k⟩ => by
    refine dT_bind hR he hx fun b env1 H1 R1 he1 => ?_
    cases b with
    | true => exact ⟨env1, ws, rr, R1, he1, hx, k⟩
    | false =>
      cases he1
      exact k _ _ rfl H1 R1
theorem dw_or {rest : List Expr} (ha : Db X pin W a fa) (hb : Dw X pin W (.BoolOp .Or (b :: rest) pos) fb) : Dw X pin W (.BoolOp .Or (a :: b :: rest) pos) (mOr fa fb) :=
  (pw_or ha hb).imp fun σ H Q ⟨env, ws, rr, hR, he, hx, k⟩ => by
    refine dT_bind hR he hx fun b env1 H1 R1 he1 => ?_
    cases b with
    | false => exact ⟨env1, ws, rr, R1, he1, hx, k⟩
    | true =>
      cases he1
      exact k _ _ rfl H1 R1
theorem db_w (h : Dw X pin W e fa) : Db X pin W e fa := h.pt
theorem db_not (ha : Db X pin W a fa) : Db X pin W (.UnaryOp .Not a pos) (mNot fa) :=
  (pt_not ha).imp fun σ H Q ⟨env, ws, rr, hR, he, hx, k⟩ => by
    refine dT_bind hR he hx fun b env1 H1 R1 he1 => ?_
    cases he1
    exact k _ _ rfl H1 R1
/-- .. as values: each but the last a bool -/
def mAndV (f g : M OV) : M OV := mIf (mBl f) g (mC (.bool false))
def mOrV (f g : M OV) : M OV := mIf (mBl f) (mC (.bool true)) g
def mNotV (f : M OV) : M OV := mB (mBl f) fun b => mC (.bool (!b))
theorem mBl_seq {K : PySem.W.Frag} {mg : Str → Option Value} {σ : St} {H : Hp} {env : Env} {ws : Bag} {α : Type} {r : Er α} {gg : Bool → M α} {P : VK} (hR : Rl K pin σ env ws H) (he : mB (mBl f) gg env = some r) (hx : Xp K mg pin W ws σ r)
    (k : ∀ c env1 H1, Rl K pin σ env1 ws H1 → gg c env1 = some r → P (.bl c) H1) : dE K mg pin W f σ H P := by
  have q : dT K mg pin W (mBl f) σ H fun b H1 => P (.bl b) H1 := dT_bind hR he hx fun b env1 H1 R1 he1 => k b env1 H1 R1 he1
  obtain ⟨env2, ws2, r2, a1, a2, a3, a4⟩ := dT_of q
  exact ⟨env2, ws2, r2, a1, a2, a3, fun x env' e v H' R' => by
    obtain ⟨c, e1, e2⟩ := a4 x env' e v H' R'
    rw [e1]
    exact e2⟩
theorem de_one {op : BoolOp} (ha : De X pin W a f) : De X pin W (.BoolOp op [a] pos) f := pe_one ha
theorem de_and {rest : List Expr} (ha : De X pin W a f) (hb : De X pin W (.BoolOp .And (b :: rest) pos) g) : De X pin W (.BoolOp .And (a :: b :: rest) pos) (mAndV f g) :=
  (pe_and ha hb).imp fun σ H Q ⟨env, ws, rr, hR, he, hx, k⟩ => by
    refine mBl_seq hR he hx fun c env1 H1 R1 he1 => ?_
    refine ⟨c, rfl, ?_⟩
    cases c with
    | true => exact iteT ⟨env1, ws, rr, R1, he1, hx, k⟩
    | false =>
      cases he1
      exact iteF (k _ _ rfl _ H1 (R1.add fun _ => .bl _))
theorem de_or {rest : List Expr} (ha : De X pin W a f) (hb : De X pin W (.BoolOp .Or (b :: rest) pos) g) : De X pin W (.BoolOp .Or (a :: b :: rest) pos) (mOrV f g) :=
  (pe_or ha hb).imp fun σ H Q ⟨env, ws, rr, hR, he, hx, k⟩ => by
    refine mBl_seq hR he hx fun c env1 H1 R1 he1 => ?_
    refine ⟨c, rfl, ?_⟩
    cases c with
    | false => exact iteF ⟨env1, ws, rr, R1, he1, hx, k⟩
    | true =>
      cases he1
      exact iteT (k _ _ rfl _ H1 (R1.add fun _ => .bl _))
theorem de_not (ha : De X pin W a f) : De X pin W (.UnaryOp .Not a pos) (mNotV f) :=
  (pe_not ha).imp fun σ H Q ⟨env, ws, rr, hR, he, hx, k⟩ => by
    refine mBl_seq hR he hx fun c env1 H1 R1 he1 => ?_
    cases he1
    exact ⟨c, rfl, k _ _ rfl _ H1 (R1.add fun _ => .bl _)⟩
/-- f if c else g -/
theorem de_if (hc : Db X pin W c fa) (ha : De X pin W a f) (hb : De X pin W b g) : De X pin W (.IfExp c a b pos) (mIf fa f g) :=
  (pe_ifExp hc ha hb).imp fun σ H Q ⟨env, ws, rr, hR, he, hx, k⟩ => by
    refine dT_bind hR he hx fun b env1 H1 R1 he1 => ?_
    cases b with
    | true => exact iteT ⟨env1, ws, rr, R1, he1, hx, k⟩
    | false => exact iteF ⟨env1, ws, rr, R1, he1, hx, k⟩
end
end DL

namespace DL
open PySem PySem.Spec L2

/-! ### statements -/
inductive Sr where
  | nx (env : Env)
  | rt (x : OV) (env : Env)
  | bk (env : Env)
  | ct (env : Env)
  | ex (e : Exn) (env : Env)
abbrev MS := Env → Option Sr
def pinOk (pin : Pins) (i : Nat) : Bool := pin.all fun p => p.1 != i
theorem pinOk_not {pin : Pins} {i : Nat} (h : pinOk pin i = true) : i ∉ pin.map (·.1) := fun q => by
  obtain ⟨p, hp, e⟩ := List.mem_map.mp q
  unfold pinOk at h
  have z := List.all_eq_true.mp h p hp
  simp [e] at z
section
variable (K : PySem.W.Frag) (mg : Str → Option Value) (pin : Pins) (W : WX)
structure Ps (ws : Bag) (D : Ends) (r : Sr) : Prop where
  nx : ∀ env', r = .nx env' → ∀ σ' H', Rl K pin σ' env' ws H' → D.nx σ' H'
  rt : ∀ x env', r = .rt x env' → ∀ v σ' H', Rl K pin σ' env' ((v, x) :: ws) H' → D.rt v H'
  bk : ∀ env', r = .bk env' → ∀ σ' H', Rl K pin σ' env' ws H' → D.bk σ' H'
  ct : ∀ env', r = .ct env' → ∀ σ' H', Rl K pin σ' env' ws H' → D.ct σ' H'
  ex : ∀ e env', r = .ex e env' → ∀ cls d σ' H', ExIs K mg e cls d H' → Rl K pin σ' env' ws H' → W cls d σ' H'
def dS (f : MS) : TS := fun D σ H => ∃ env ws r, Rl K pin σ env ws H ∧ f env = some r ∧ Ps K mg pin W ws D r
end
abbrev Ds (X : Cx) (pin : Pins) (W : WX) (st : Stmt) (f : MS) : Prop := PS X st (dS X.K X.mg pin W f)
abbrev Dss (X : Cx) (pin : Pins) (W : WX) (st : List Stmt) (f : MS) : Prop := PSs X st (dS X.K X.mg pin W f)
/-- first an expression, then a statement's end -/
def sB {α : Type} (f : M α) (g : α → MS) : MS := fun env => match f env with
  | some (.ok a env') => g a env'
  | some (.ex e env') => some (.ex e env')
  | none => none
theorem sB_cases {α : Type} {f : M α} {g : α → MS} {env : Env} {r : Sr} (h : sB f g env = some r) :
    (∃ a env1, f env = some (.ok a env1) ∧ g a env1 = some r) ∨ ∃ e env1, f env = some (.ex e env1) ∧ r = .ex e env1 := by
  unfold sB at h
  split at h
  · exact .inl ⟨_, _, by assumption, h⟩
  · cases h
    exact .inr ⟨_, _, by assumption, rfl⟩
  · cases h
section
variable {K : PySem.W.Frag} {mg : Str → Option Value} {pin : Pins} {W : WX} {ws qs : Bag} {σ : St} {H : Hp} {env : Env} {v : V} {x : OV} {D : Ends} {r : Sr}
theorem Ps.xp {α : Type} (h : Ps K mg pin W ws D r) {e : Exn} {env1 : Env} (q : r = .ex e env1) : Xp K mg pin W ws σ (Er.ex (α := α) e env1) := fun e' env' q' => by
  cases q'
  exact fun cls d H' i R => h.ex _ _ q cls d σ H' i R
theorem sB_E {f : M OV} {g : OV → MS} {P : VK} (hR : Rl K pin σ env ws H) (he : sB f g env = some r) (hx : Ps K mg pin W ws D r)
    (k : ∀ x env1 v H1, Rl K pin σ env1 ((v, x) :: ws) H1 → g x env1 = some r → P v H1) : dE K mg pin W f σ H P := by
  rcases sB_cases he with ⟨x, env1, e1, e2⟩ | ⟨e, env1, e1, e2⟩
  · exact ⟨env, ws, _, hR, e1, .ok, fun x' env' q v H1 R1 => by cases q; exact k _ _ v H1 R1 e2⟩
  · exact ⟨env, ws, _, hR, e1, hx.xp e2, fun x' env' q => nomatch q⟩
theorem sB_T {f : M Bool} {g : Bool → MS} {P : Bool → Hp → Prop} (hR : Rl K pin σ env ws H) (he : sB f g env = some r) (hx : Ps K mg pin W ws D r)
    (k : ∀ b env1 H1, Rl K pin σ env1 ws H1 → g b env1 = some r → P b H1) : dT K mg pin W f σ H P := by
  rcases sB_cases he with ⟨x, env1, e1, e2⟩ | ⟨e, env1, e1, e2⟩
  · exact ⟨env, ws, _, hR, e1, .ok, fun x' env' q H1 R1 => by cases q; exact k _ _ H1 R1 e2⟩
  · exact ⟨env, ws, _, hR, e1, hx.xp e2, fun x' env' q => nomatch q⟩
end
def sNext : MS := fun env => some (.nx env)
def sSeq (f g : MS) : MS := fun env => match f env with
  | some (.nx env') => g env'
  | r => r
section
variable {X : Cx} {pin : Pins} {W : WX} {a b c e : Expr} {es : List Expr} {st : Stmt} {sts : List Stmt} {pos : Pos} {f g h : M OV} {fa fb : M Bool} {fs : M (List OV)} {s t u : MS}
theorem dss_nil : Dss X pin W [] sNext := pss_nil.imp fun D σ H ⟨env, ws, r, hR, he, hp⟩ => by
  cases he
  exact hp.nx _ rfl _ _ hR
theorem dss_cons (h1 : Ds X pin W st s) (h2 : Dss X pin W sts t) : Dss X pin W (st :: sts) (sSeq s t) := (pss_cons h1 h2).imp fun D σ H ⟨env, ws, r, hR, he, hp⟩ => by
  unfold sSeq at he
  split at he
  · rename_i env1 e1
    refine ⟨env, ws, _, hR, e1, ⟨fun env' q σ' H' R' => ?_, fun x env' q => (nomatch q), fun env' q => (nomatch q), fun env' q => (nomatch q), fun e env' q => (nomatch q)⟩⟩
    cases q
    exact ⟨env1, ws, r, R', he, hp⟩
  · rename_i nx
    refine ⟨env, ws, r, hR, he, ⟨fun env' q σ' H' R' => ?_, hp.rt, hp.bk, hp.ct, hp.ex⟩⟩
    subst q
    exact absurd he (nx env')
theorem dss_one (h1 : Ds X pin W st s) : Dss X pin W [st] s := pss_one h1
theorem ds_pass : Ds X pin W (.Pass pos) sNext := ps_pass.imp fun D σ H ⟨env, ws, r, hR, he, hp⟩ => by
  cases he
  exact hp.nx _ rfl _ _ hR
def sBrk : MS := fun env => some (.bk env)
def sCt : MS := fun env => some (.ct env)
theorem ds_break : Ds X pin W (.Break pos) sBrk := ps_break.imp fun D σ H ⟨env, ws, r, hR, he, hp⟩ => by
  cases he
  exact hp.bk _ rfl _ _ hR
theorem ds_continue : Ds X pin W (.Continue pos) sCt := ps_continue.imp fun D σ H ⟨env, ws, r, hR, he, hp⟩ => by
  cases he
  exact hp.ct _ rfl _ _ hR
def sExpr (f : M OV) : MS := sB f fun _ => sNext
theorem ds_expr (h : De X pin W e f) (hs : swapsWith e none pos.line X.env = pure false := by rfl) : Ds X pin W (.Expr e pos) (sExpr f) := (ps_expr h hs).imp fun D σ H ⟨env, ws, r, hR, he, hp⟩ => by
  refine sB_E hR he hp fun x env1 v H1 R1 e1 => ?_
  cases e1
  exact hp.nx _ rfl _ _ R1.drop
def sRet (f : M OV) : MS := sB f fun x env => some (.rt x env)
theorem ds_ret (h : De X pin W e f) : Ds X pin W (.Return (some e) pos) (sRet f) := (ps_ret h).imp fun D σ H ⟨env, ws, r, hR, he, hp⟩ => by
  refine sB_E hR he hp fun x env1 v H1 R1 e1 => ?_
  cases e1
  exact hp.rt _ _ rfl _ _ _ R1
def sRetN : MS := fun env => some (.rt (.val .none) env)
theorem ds_retN : Ds X pin W (.Return none pos) sRetN := ps_retN.imp fun D σ H ⟨env, ws, r, hR, he, hp⟩ => by
  cases he
  exact hp.rt _ _ rfl .non _ _ (hR.add fun _ => .non)
def sIf (c : M Bool) (s t : MS) : MS := sB c fun b => if b = true then s else t
theorem ds_if {A B : List Stmt} (hc : Db X pin W c fa) (ha : Dss X pin W A s) (hb : Dss X pin W B t) : Ds X pin W (.If c A B pos) (sIf fa s t) := (ps_if hc ha hb).imp fun D σ H ⟨env, ws, r, hR, he, hp⟩ => by
  refine sB_T hR he hp fun b env1 H1 R1 e1 => ?_
  cases b with
  | true => exact iteT ⟨env1, ws, r, R1, e1, hp⟩
  | false => exact iteF ⟨env1, ws, r, R1, e1, hp⟩
/-- what a target does with an item -/
def putE (env : Env) (i : Nat) (x : OV) : Option Env := if i < env.length then some (env.set i (some x)) else none
theorem putE_some {env env' : Env} {i : Nat} {x : OV} (h : putE env i x = some env') : i < env.length ∧ env' = env.set i (some x) := by
  unfold putE at h
  split at h
  · cases h
    exact ⟨by assumption, rfl⟩
  · cases h
def sSet (i : Nat) (f : M OV) : MS := sB f fun x env => (putE env i x).map .nx
theorem ds_set {i : Nat} {x : Str} {pos' : Pos} (hN : X.N.Nodup) (hi : X.N[i]? = some x) (hx : Loc X.env.scope x) (h : De X pin W e f) (hp : pinOk pin i = true := by rfl)
    (hs : swapsWith e (some (.Name x pos')) pos.line X.env = pure false := by rfl) (hf : X.fn x = true ∨ X.env.scope.names.lookup x = some .local := by first | exact .inl rfl | exact .inr rfl | assumption) :
    Ds X pin W (.Assign [.Name x pos'] e pos) (sSet i f) := (ps_set hN hi hx h hs hf).imp fun D σ H ⟨env, ws, r, hR, he, hp'⟩ => by
  refine sB_E hR he hp' fun y env1 v H1 R1 e1 => ?_
  cases q : putE env1 i y with
  | none => rw [q] at e1; cases e1
  | some env2 =>
    rw [q] at e1
    cases e1
    obtain ⟨l, rfl⟩ := putE_some q
    exact hp'.nx _ rfl _ _ (R1.put (by rw [R1.len]; exact l) (pinOk_not hp))

/-! ### targets -/
def SameSt (is : List Nat) (σ σ' : St) : Prop := σ'.length = σ.length ∧ ∀ j, j ∉ is → σ'[j]? = σ[j]?
def dG (K : PySem.W.Frag) (pin : Pins) (is : List Nat) (g : Dt → Env → Option Env) : TG := fun v σ H Q => ∃ env ws d env', Rl K pin σ env ((v, .val d) :: ws) H ∧ g d env = some env' ∧ ∀ σ' H', SameSt is σ σ' → Rl K pin σ' env' ws H' → Q σ' H'
abbrev Dg (X : Cx) (pin : Pins) (is : List Nat) (tg : Expr) (g : Dt → Env → Option Env) : Prop := PG X tg (dG X.K pin is g)
theorem _root_.L2.PG.imp {tg : Expr} {t t' : TG} (h : PG X tg t) (k : ∀ v σ H Q, t' v σ H Q → t v σ H Q) : PG X tg t' := ⟨fun pins s σ H v u Q I r q => h.run pins s σ H v u Q I r (k _ _ _ _ q)⟩
theorem _root_.L2.PGs.imp {tg : List Expr} {t t' : TGs} (h : PGs X tg t) (k : ∀ v σ H Q, t' v σ H Q → t v σ H Q) : PGs X tg t' := ⟨fun pins s σ H v u Q I r q => h.run pins s σ H v u Q I r (k _ _ _ _ q)⟩
def gN (i : Nat) : Dt → Env → Option Env := fun d env => putE env i (.val d)
theorem dg_name {i : Nat} {x : Str} (hN : X.N.Nodup) (hi : X.N[i]? = some x) (hx : Loc X.env.scope x) (hp : pinOk pin i = true := by rfl) (hf : X.fn x = true ∨ X.env.scope.names.lookup x = some .local := by first | exact .inl rfl | exact .inr rfl | assumption) :
    Dg X pin [i] (.Name x pos) (gN i) := (pg_name hN hi hx hf).imp fun v σ H Q ⟨env, ws, d, env', hR, he, k⟩ => by
  obtain ⟨l, rfl⟩ := putE_some he
  exact k _ _ ⟨by simp, fun j hj => List.getElem?_set_ne (by simpa using Ne.symm (by simpa using hj))⟩ (hR.put (by rw [hR.len]; exact l) (pinOk_not hp))
/-- targets one by one -/
def gAll : List (Dt → Env → Option Env) → List Dt → Env → Option Env
  | [], [], env => some env
  | g :: gs, d :: ds, env => (g d env).bind fun env' => gAll gs ds env'
  | _, _, _ => none
def dGs (K : PySem.W.Frag) (pin : Pins) (is : List Nat) (gs : List (Dt → Env → Option Env)) : TGs := fun vs σ H Q => ∃ env ws ds env', vs.length = ds.length ∧ Rl K pin σ env (vs.zip (ds.map .val) ++ ws) H ∧ gAll gs ds env = some env' ∧ ∀ σ' H', SameSt is σ σ' → Rl K pin σ' env' ws H' → Q σ' H'
theorem SameSt.refl {σ : St} {is : List Nat} : SameSt is σ σ := ⟨rfl, fun _ _ => rfl⟩
theorem SameSt.app {σ σ1 σ2 : St} {is js : List Nat} (a : SameSt is σ σ1) (b : SameSt js σ1 σ2) : SameSt (is ++ js) σ σ2 := ⟨b.1.trans a.1, fun j hj => by
  rw [List.mem_append, not_or] at hj
  exact (b.2 j hj.2).trans (a.2 j hj.1)⟩
theorem dgs_nil : PGs X [] (dGs X.K pin [] []) := pgs_nil.imp fun vs σ H Q ⟨env, ws, ds, env', l, hR, he, k⟩ => by
  cases ds with
  | nil =>
    cases vs with
    | nil =>
      cases he
      exact ⟨rfl, k _ _ .refl hR⟩
    | cons _ _ => simp at l
  | cons _ _ => cases he
theorem dgs_cons {is js : List Nat} {g : Dt → Env → Option Env} {gs : List (Dt → Env → Option Env)} (h1 : Dg X pin is e g) (h2 : PGs X es (dGs X.K pin js gs))
    (hs : (assignEach (e :: es) X.env).map (·.2) = assign e X.env :: (assignEach es X.env).map (·.2) := by rfl) : PGs X (e :: es) (dGs X.K pin (is ++ js) (g :: gs)) := (pgs_cons h1 h2 hs).imp fun vs σ H Q ⟨env, ws, ds, env', l, hR, he, k⟩ => by
  cases ds with
  | nil => cases he
  | cons d ds =>
    cases vs with
    | nil => simp at l
    | cons v vs =>
      unfold gAll at he
      cases q : g d env with
      | none => rw [q] at he; cases he
      | some env1 =>
        rw [q] at he
        refine ⟨v, vs, rfl, env, vs.zip (ds.map .val) ++ ws, d, env1, ?_, q, fun σ1 H1 s1 R1 => ⟨env1, ws, ds, env', by simpa using l, R1, he, fun σ2 H2 s2 R2 => k _ _ (s1.app s2) R2⟩⟩
        exact hR
def gT (gs : List (Dt → Env → Option Env)) : Dt → Env → Option Env := fun d env => match d with
  | .tuple ds => gAll gs ds env
  | _ => none
theorem gAll_len : ∀ {gs : List (Dt → Env → Option Env)} {ds : List Dt} {env env' : Env}, gAll gs ds env = some env' → ds.length = gs.length
  | [], [], _, _, _ => rfl
  | [], _ :: _, _, _, h => by cases h
  | _ :: _, [], _, _, h => by cases h
  | g :: gs, d :: ds, env, env', h => by
    unfold gAll at h
    cases q : g d env with
    | none => rw [q] at h; cases h
    | some env1 =>
      rw [q] at h
      rw [List.length_cons, List.length_cons, gAll_len h]
theorem R.untup {K : PySem.W.Frag} {A : List Addr} {H : Hp} {a : Addr} {ds : List Dt} {ps : Bag} (r : R K A H ((.ref a, .val (.tuple ds)) :: ps)) : ∃ xs, SqT K H a xs ∧ xs.length = ds.length ∧ R K A H (xs.zip (ds.map .val) ++ (.ref a, .val (.tuple ds)) :: ps) := by
  obtain ⟨Z, nd, o⟩ := r
  cases o with
  | cons h t =>
    cases h with
    | val h =>
      cases h with
      | @tup _ xs _ hs ha =>
        have l := ha.length
        refine ⟨xs, SqT.same hid_le hs, l, ⟨_, nd, ?_⟩⟩
        rw [List.map_append, List.map_append, zip_fst (by simpa using l), zip_snd (by simpa using l)]
        exact OwnL.append (OwnL.of_vals ha) (.cons (.val (.tup hs ha)) t)
theorem dg_tup {is : List Nat} {gs : List (Dt → Env → Option Env)} {k : Nat} (hc : X.calm = true) (h : PGs X es (dGs X.K pin is gs)) (hl : (assignEach es X.env).length = gs.length := by rfl) (hst : (assignEach es X.env).findIdx? (·.1) = none := by rfl) :
    Dg X pin is (.Tuple es k pos) (gT gs) := (pg_tup (n := gs.length) hc h hl hst).imp fun v σ H Q ⟨env, ws, d, env', hR, he, kk⟩ => by
  unfold gT at he
  split at he
  · rename_i ds
    have q := hR.dp
    cases q with
    | @tup a xs0 _ hs0 ha0 =>
      obtain ⟨⟨ps, s, r⟩, pn⟩ := hR
      obtain ⟨xs, hs, l, r2⟩ := R.untup (r.perm List.perm_middle)
      refine ⟨a, xs, rfl, hs, by rw [l]; exact gAll_len he, env, ws, ds, env', l, ⟨⟨ps, s, ?_⟩, pn⟩, he, kk⟩
      have r3 : R X.K [] H (xs.zip (ds.map .val) ++ (ps ++ ws)) := R.drop (r2.perm List.perm_middle)
      refine r3.perm ?_
      rw [← List.append_assoc, ← List.append_assoc]
      exact List.Perm.append_right _ List.perm_append_comm
  · cases he
/-- a, b = e -/
def sAsg (f : M OV) (g : Dt → Env → Option Env) : MS := sB f fun x env => match x.frz with
  | some d => (g d env).map .nx
  | none => none
theorem ds_asg {tg : Expr} {is : List Nat} {g : Dt → Env → Option Env} (h : De X pin W e f) (hg : Dg X pin is tg g) (hs : swapsWithSole [tg] e pos.line X.env = pure false := by rfl) (hw : swappedStores [tg] e X.env = pure none := by rfl)
    (h1 : (assignEach [tg] X.env).map (·.2) = [assign tg X.env] := by rfl) : Ds X pin W (.Assign [tg] e pos) (sAsg f g) := (ps_asg h hg hs hw h1).imp fun D σ H ⟨env, ws, r, hR, he, hp⟩ => by
  refine sB_E hR he hp fun y env1 v H1 R1 e1 => ?_
  split at e1
  · rename_i d q
    cases q2 : g d env1 with
    | none => rw [q2] at e1; cases e1
    | some env2 =>
      rw [q2] at e1
      cases e1
      exact ⟨env1, ws, d, env2, Rl.under (q1 := [(v, y)]) (q2 := [(v, .val d)]) (fun _ r => R.frz q r) R1, q2, fun σ' H' _ R' => hp.nx _ rfl _ _ R'⟩
  · cases e1
end

/-! ### what a loop walks -/
structure WalkD (K : PySem.W.Frag) (src : V × OV) (ds : List Dt) (J : It) : Prop where
  go : ∀ i H ps, i < ds.length → R K [] H (src :: ps) → J.go i H
  yld : ∀ i H x H' d, J.yld i H x H' → ds[i]? = some d → ∀ ps, R K [] H (src :: ps) → R K [] H' ((x, .val d) :: src :: ps)
  stop : ∀ i H ps, ds.length ≤ i → R K [] H (src :: ps) → J.stop i H
def dI (K : PySem.W.Frag) (mg : Str → Option Value) (pin : Pins) (W : WX) (f : M (List Dt)) : TI := fun σ H Q => ∃ env ws r, Rl K pin σ env ws H ∧ f env = some r ∧ Xp K mg pin W ws σ r ∧
  ∀ ds env', r = .ok ds env' → ∀ src J H', WalkD K src ds J → Rl K pin σ env' (src :: ws) H' → Q J H'
abbrev Di (X : Cx) (pin : Pins) (W : WX) (tg it : Expr) (f : M (List Dt)) : Prop := PI X tg it (dI X.K X.mg pin W f)
def items? : OV → Option (List Dt) := fun x => match x.frz with
  | some (.list ds) => some ds
  | some (.tuple ds) => some ds
  | _ => none
def mIt (f : M OV) : M (List Dt) := mB f fun x => mO (items? x)
theorem SqL.same {K : PySem.W.Frag} {H H' : Hp} {a : Addr} {xs : List V} (e : Same H H') (h : SqL K H a xs) : SqL K H' a xs := e.seq h
theorem R.unlst {K : PySem.W.Frag} {A : List Addr} {H : Hp} {a : Addr} {ds : List Dt} {ps : Bag} (r : R K A H ((.ref a, .val (.list ds)) :: ps)) : ∃ xs, SqL K H a xs ∧ xs.length = ds.length ∧ R K A H (xs.zip (ds.map .val) ++ (.ref a, .val (.list ds)) :: ps) := by
  obtain ⟨Z, nd, o⟩ := r
  cases o with
  | cons h t =>
    cases h with
    | val h =>
      cases h with
      | @lst _ xs _ hs ha =>
        have l := ha.length
        refine ⟨xs, hid_le.seq hs, l, ⟨_, nd, ?_⟩⟩
        rw [List.map_append, List.map_append, zip_fst (by simpa using l), zip_snd (by simpa using l)]
        exact OwnL.append (OwnL.of_vals ha) (.cons (.val (.lst hs ha)) t)
theorem R.pick {K : PySem.W.Frag} {A : List Addr} {H : Hp} {xs : List V} {ds : List Dt} {ps : Bag} {i : Nat} {d : Dt} (l : xs.length = ds.length) (e : ds[i]? = some d) (r : R K A H (xs.zip (ds.map .val) ++ ps)) : ∃ x, xs[i]? = some x ∧ R K A H ((x, .val d) :: ps) := by
  obtain ⟨Z, nd, o1, o2⟩ := R.dps l r
  obtain ⟨x, e1, e2⟩ := o1.get e
  exact ⟨x, e1, ⟨Z, nd, .cons (fp := []) (.val e2) o2⟩⟩
theorem walk_list {K : PySem.W.Frag} {a : Addr} {ds : List Dt} : WalkD K (.ref a, .val (.list ds)) ds (Itl K a) where
  go := fun i H ps hi r => by
    obtain ⟨xs, hs, l, r2⟩ := R.unlst r
    exact ⟨xs, xs[i]'(by omega), hs, List.getElem?_eq_getElem (by omega)⟩
  yld := fun i H x H' d y e ps r => by
    obtain ⟨xs, hs, l, r2⟩ := R.unlst r
    obtain ⟨rfl, y⟩ := y
    obtain ⟨x', e1, r3⟩ := R.pick l e r2
    rw [y xs hs] at e1
    cases e1
    exact r3
  stop := fun i H ps hi r => by
    obtain ⟨xs, hs, l, r2⟩ := R.unlst r
    exact ⟨xs, hs, by omega⟩
theorem walk_tup {K : PySem.W.Frag} {a : Addr} {ds : List Dt} : WalkD K (.ref a, .val (.tuple ds)) ds (Itt K a) where
  go := fun i H ps hi r => by
    obtain ⟨xs, hs, l, r2⟩ := R.untup r
    exact ⟨xs, xs[i]'(by omega), hs, List.getElem?_eq_getElem (by omega)⟩
  yld := fun i H x H' d y e ps r => by
    obtain ⟨xs, hs, l, r2⟩ := R.untup r
    obtain ⟨rfl, y⟩ := y
    obtain ⟨x', e1, r3⟩ := R.pick l e r2
    rw [y xs hs] at e1
    cases e1
    exact r3
  stop := fun i H ps hi r => by
    obtain ⟨xs, hs, l, r2⟩ := R.untup r
    exact ⟨xs, hs, by omega⟩
def rngD (lo : Int) (n : Nat) : List Dt := (List.range n).map fun (i : Nat) => PyData.int (lo + i)
theorem walk_rng {K : PySem.W.Frag} {lo : Int} {n : Nat} : WalkD K (.non, .val .none) (rngD lo n) (Itr lo n) where
  go := fun i H ps hi r => by
    have h : i < n := by simpa [rngD] using hi
    exact h
  yld := fun i H x H' d y e ps r => by
    obtain ⟨rfl, rfl⟩ := y
    have q : d = .int (lo + i) := by
      unfold rngD at e
      rw [List.getElem?_map] at e
      by_cases h : i < n
      · rw [List.getElem?_range h] at e
        exact (Option.some.inj e).symm
      · rw [List.getElem?_eq_none (by simpa using h)] at e
        cases e
    subst q
    exact R.add (fun _ => .int _) r
  stop := fun i H ps hi r => by
    have h : n ≤ i := by simpa [rngD] using hi
    exact h
theorem _root_.L2.PI.imp {X : Cx} {tg it : Expr} {t t' : TI} (h : PI X tg it t) (k : ∀ σ H R, t' σ H R → t σ H R) : PI X tg it t' := ⟨fun pins s σ H R I q => h.run pins s σ H R I (k _ _ _ q)⟩
section
variable {X : Cx} {pin : Pins} {W : WX} {a b c e tg : Expr} {es : List Expr} {pos p : Pos} {f g : M OV} {fs : M (List OV)}
/-- a list or a tuple, walked -/
theorem di_seq (h : De X pin W e f) : Di X pin W tg e (mIt f) := by
  have hl := pi_list (tg := tg) h
  have ht := pi_tup (tg := tg) h
  refine ⟨fun pins s σ H R I q => ?_⟩
  obtain ⟨env, ws, r, hR, he, hx, k⟩ := q
  rcases mB_cases he with ⟨x, env1, e1, e2⟩ | ⟨ex, env1, e1, e2⟩
  · obtain ⟨ds, e3, rfl⟩ := mO_some e2
    unfold items? at e3
    split at e3
    · rename_i ds' q
      cases e3
      refine hl.run pins s σ H R I ⟨env, ws, _, hR, e1, .ok, fun x' env' z v H' R' => ?_⟩
      cases z
      have R2 := Rl.under (q1 := [(v, x)]) (q2 := [(v, .val (.list ds))]) (fun _ r => DL.R.frz q r) R'
      have dp := R2.dp
      cases dp with
      | @lst a xs _ hs ha => exact ⟨a, rfl, ⟨xs, hs⟩, k _ _ rfl _ _ _ walk_list R2⟩
    · rename_i ds' q
      cases e3
      refine ht.run pins s σ H R I ⟨env, ws, _, hR, e1, .ok, fun x' env' z v H' R' => ?_⟩
      cases z
      have R2 := Rl.under (q1 := [(v, x)]) (q2 := [(v, .val (.tuple ds))]) (fun _ r => DL.R.frz q r) R'
      have dp := R2.dp
      cases dp with
      | @tup a xs _ hs ha => exact ⟨a, rfl, ⟨xs, hs⟩, k _ _ rfl _ _ _ walk_tup R2⟩
    · cases e3
  · exact hl.run pins s σ H R I ⟨env, ws, _, hR, e1, hx.of e2, fun x' env' q => nomatch q⟩
def int1 : List OV → Option Int
  | [.val (.int i)] => some i
  | _ => none
def int2 : List OV → Option (Int × Int)
  | [.val (.int i), .val (.int j)] => some (i, j)
  | _ => none
def mRng1 (f : M OV) : M (List Dt) := mB f fun x => mO (match x with
  | .val (.int j) => if -(2 ^ 62) ≤ j ∧ j < 2 ^ 62 then some (rngD 0 j.toNat) else none
  | _ => none)
theorem one_zip {v : V} {vs : List V} {x : OV} {H : Hp} {K : PySem.W.Frag} : True := trivial
theorem di_range1 (hm : X.mg "range" = none) (h : De X pin W a f) (hg : Gl X "range" := by rfl) (hs : starEach [a] X.env = [(false, eval a X.env)] := by rfl) (hs1 : starEach (a :: []) X.env = (false, eval a X.env) :: starEach [] X.env := by rfl) :
    Di X pin W tg (.Call (.Name "range" p) [a] [] pos) (mRng1 f) := (pi_range1 hg hm (pa_cons h pa_nil hs1) hs).imp fun σ H R ⟨env, ws, r, hR, he, hx, k⟩ => by
  refine dE_bind hR he hx fun x env1 v H1 R1 he1 => ?_
  obtain ⟨ds, e3, rfl⟩ := mO_some he1
  split at e3
  · rename_i j
    split at e3
    · rename_i b
      cases e3
      have dp := R1.dp
      cases dp
      refine ⟨j, rfl, b.1, b.2, k _ _ rfl _ _ _ walk_rng (R1.drop.add fun _ => .non)⟩
    · cases e3
  · cases e3
def mRng2 (f g : M OV) : M (List Dt) := mB f fun x => mB g fun y => mO (match x, y with
  | .val (.int i), .val (.int j) => if -(2 ^ 62) ≤ i ∧ i < 2 ^ 62 ∧ -(2 ^ 62) ≤ j ∧ j < 2 ^ 62 then some (rngD i (j - i).toNat) else none
  | _, _ => none)
theorem di_range2 (hm : X.mg "range" = none) (h : De X pin W a f) (h2 : De X pin W b g) (hg : Gl X "range" := by rfl) (hs : starEach [a, b] X.env = [(false, eval a X.env), (false, eval b X.env)] := by rfl) (hs2 : starEach [b] X.env = [(false, eval b X.env)] := by rfl)
    (hs1 : starEach (a :: [b]) X.env = (false, eval a X.env) :: starEach [b] X.env := by rfl) (hs3 : starEach (b :: []) X.env = (false, eval b X.env) :: starEach [] X.env := by rfl) :
    Di X pin W tg (.Call (.Name "range" p) [a, b] [] pos) (mRng2 f g) := (pi_range2 hg hm (pa_cons h (pa_cons h2 pa_nil hs3) hs1) hs hs2).imp fun σ H R ⟨env, ws, r, hR, he, hx, k⟩ => by
  refine dE_bind hR he hx fun x env1 v H1 R1 he1 => ?_
  refine dE_bind R1 he1 hx.drop fun y env2 w H2 R2 he2 => ?_
  obtain ⟨ds, e3, rfl⟩ := mO_some he2
  split at e3
  · rename_i i j
    split at e3
    · rename_i b
      cases e3
      have dp := R2.dp
      cases dp
      have R3 := R2.drop
      have dp := R3.dp
      cases dp
      exact ⟨i, j, rfl, b, k _ _ rfl _ _ _ walk_rng (R3.drop.add fun _ => .non)⟩
    · cases e3
  · cases e3

/-! ### for -/
def loopS (g : Dt → Env → Option Env) (body : MS) : List Dt → MS
  | [] => sNext
  | d :: ds => fun env => (g d env).bind fun env1 => match body env1 with
    | some (.nx env2) => loopS g body ds env2
    | some (.ct env2) => loopS g body ds env2
    | some (.bk env2) => some (.nx env2)
    | some (.rt x env2) => some (.rt x env2)
    | some (.ex e env2) => some (.ex e env2)
    | none => none
def sFor (its : M (List Dt)) (g : Dt → Env → Option Env) (body : MS) : MS := sB its fun ds => loopS g body ds
theorem ds_for {it : Expr} {body : List Stmt} {is : List Nat} {its : M (List Dt)} {g : Dt → Env → Option Env} {s : MS} (hp : PassesOwn (model X.prog X.w) X.A X.env X.xe) (hc : X.calm = true) (hi : Di X pin W tg it its) (hg : Dg X pin is tg g) (hb : Dss X pin W body s)
    (hs : ∀ x, foldedSetIterable it X.env x = pure x := by intro _; rfl) : Ds X pin W (.For tg it body [] pos) (sFor its g s) := (ps_for hp hc hi hg hb hs).imp fun D σ H ⟨env, ws, r, hR, he, hp⟩ => by
  rcases sB_cases he with ⟨ds, env1, e1, e2⟩ | ⟨ex, env1, e1, e2⟩
  · refine ⟨env, ws, _, hR, e1, .ok, fun ds' env' q src J H1 wk R1 => ?_⟩
    cases q
    refine ⟨fun i m σ' H' => i ≤ ds.length ∧ m = ds.length - i ∧ ∃ env', Rl X.K pin σ' env' (src :: ws) H' ∧ loopS g s (ds.drop i) env' = some r, ⟨ds.length, Nat.zero_le _, rfl, env1, R1, by simpa using e2⟩, ?_⟩
    rintro i m σ2 H2 ⟨hi, rfl, env2, R2, e3⟩
    obtain ⟨ps, rr⟩ := Rl.get (q1 := [src]) R2
    by_cases hlt : i < ds.length
    · refine .inr ⟨wk.go i H2 ps hlt rr, fun σ' H' => ∃ env', Rl X.K pin σ' env' (src :: ws) H' ∧ loopS g s (ds.drop (i + 1)) env' = some r, fun σ' H' h => ⟨ds.length - (i + 1), by omega, hlt, rfl, h⟩, fun x H3 y => ?_⟩
      have ed : ds[i]? = some ds[i] := List.getElem?_eq_getElem hlt
      have R3 := Rl.under (q1 := [src]) (q2 := [(x, .val ds[i]), src]) (fun ps r => wk.yld i H2 x H3 _ y ed ps r) R2
      rw [List.drop_eq_getElem_cons hlt] at e3
      unfold loopS at e3
      cases q1 : g ds[i] env2 with
      | none => rw [q1] at e3; cases e3
      | some env3 =>
        rw [q1] at e3
        refine ⟨env2, src :: ws, ds[i], env3, R3, q1, fun σ4 H4 _ R4 => ?_⟩
        have e4 : (match s env3 with
          | some (.nx env2) => loopS g s (ds.drop (i + 1)) env2
          | some (.ct env2) => loopS g s (ds.drop (i + 1)) env2
          | some (.bk env2) => some (.nx env2)
          | some (.rt x env2) => some (.rt x env2)
          | some (.ex e env2) => some (.ex e env2)
          | none => none) = some r := e3
        cases q2 : s env3 with
        | none => rw [q2] at e4; cases e4
        | some r2 =>
          rw [q2] at e4
          refine ⟨env3, src :: ws, r2, R4, q2, ⟨fun env' z σ' H' R' => ?_, fun x env' z v σ' H' R' => ?_, fun env' z σ' H' R' => ?_, fun env' z σ' H' R' => ?_, fun ex env' z cls d σ' H' ie R' => ?_⟩⟩
          · subst z; exact ⟨env', R', e4⟩
          · subst z; cases e4
            refine hp.rt _ _ rfl v σ' H' ?_
            exact Rl.under (q1 := [(v, x), src]) (q2 := [(v, x)]) (fun _ r => R.drop (r.perm (.swap _ _ _))) R'
          · subst z; cases e4; exact hp.nx _ rfl σ' H' R'.drop
          · subst z; exact ⟨env', R', e4⟩
          · subst z; cases e4; exact hp.ex _ _ rfl cls d σ' H' ie R'.drop
    · have hl : i = ds.length := by omega
      subst hl
      rw [List.drop_length] at e3
      cases e3
      exact .inl ⟨wk.stop _ H2 ps (Nat.le_refl _) rr, hp.nx _ rfl σ2 H2 R2.drop⟩
  · exact ⟨env, ws, _, hR, e1, hp.xp e2, fun x' env' q => nomatch q⟩
end
end DL

namespace DL
open PySem PySem.Spec L2

/-! ### a def -/
inductive Fo where
  | rt (x : OV) (outs : List OV)
  | ex (e : Exn) (outs : List OV)
abbrev Fn := List OV → Option Fo
/-- the arguments that the def changes, by their places -/
def ioV (io : List Nat) (vs : List V) : List V := io.map fun i => vs.getD i .non
def dSp (K : PySem.W.Frag) (mg : Str → Option Value) (io : List Nat) (n : Nat) (F : Fn) : Sp := fun vs H Q E => ∃ (args : List OV) (ws : Bag) (r : Fo), vs.length = n ∧ args.length = n ∧ R K [] H (vs.zip args ++ ws) ∧ F args = some r ∧
  (∀ x outs, r = .rt x outs → ∀ v H', R K [] H' ((v, x) :: ((ioV io vs).zip outs ++ ws)) → Q v H') ∧
  (∀ e outs, r = .ex e outs → ∀ cls d H', ExIs K mg e cls d H' → R K [] H' ((ioV io vs).zip outs ++ ws) → E cls d H')
/-- what stands in these slots -/
def outsE (env : Env) : List Nat → Option (List OV)
  | [] => some []
  | i :: is => match env[i]? with
    | some (some x) => (outsE (env.set i none) is).map (x :: ·)
    | _ => none
def runDef (N np : Nat) (io : List Nat) (b : MS) : Fn := fun args => if args.length = np then match b (args.map some ++ List.replicate (N - np) none) with
  | some (.nx env) => (outsE env io).map (.rt (.val .none))
  | some (.rt x env) => (outsE env io).map (.rt x)
  | some (.ex e env) => (outsE env io).map (.ex e)
  | _ => none else none
def pinsOf (io : List Nat) (vs : List V) : Pins := io.map fun i => (i, vs.getD i .non)
theorem start_rel {K : PySem.W.Frag} {H : Hp} {ws : Bag} : ∀ {vs : List V} {args : List OV} (n : Nat), vs.length = args.length → ∃ ps, Slots (vs.map some ++ List.replicate n none) (args.map some ++ List.replicate n none) ps ∧ ps = vs.zip args
  | [], [], 0, _ => ⟨[], .nil, rfl⟩
  | [], [], n + 1, _ => by
    obtain ⟨ps, h, e⟩ := start_rel (K := K) (H := H) (ws := ws) (vs := []) (args := []) n rfl
    exact ⟨ps, .no h, e⟩
  | [], _ :: _, _, e => by simp at e
  | _ :: _, [], _, e => by simp at e
  | v :: vs, x :: args, n, e => by
    obtain ⟨ps, h, e'⟩ := start_rel (K := K) (H := H) (ws := ws) (vs := vs) (args := args) n (by simpa using e)
    exact ⟨_, .yes h, by rw [e']; rfl⟩
/-- the changed arguments out of their slots -/
theorem outs_rel {K : PySem.W.Frag} {H : Hp} {σ : St} : ∀ {io : List Nat} {env : Env} {ws : Bag} {outs : List OV} {pin : Pins} (vs : List V), (∀ i ∈ io, σ[i]? = some (some (vs.getD i .non))) → Rl K pin σ env ws H → outsE env io = some outs → R K [] H ((ioV io vs).zip outs ++ ws)
  | [], env, ws, outs, pin, vs, hp, hR, e => by
    cases e
    obtain ⟨⟨ps, s, r⟩, pn⟩ := hR
    exact R.dropL r
  | i :: io, env, ws, outs, pin, vs, hp, hR, e => by
    unfold outsE at e
    split at e
    · rename_i x q
      cases q2 : outsE (env.set i none) io with
      | none => rw [q2] at e; cases e
      | some os =>
        rw [q2] at e
        cases e
        obtain ⟨v, e1, R1⟩ := hR.take q
        have ev : v = vs.getD i .non := by
          have := hp i List.mem_cons_self
          rw [e1] at this
          exact Option.some.inj (Option.some.inj this)
        subst ev
        have r := outs_rel (io := io) (ws := (vs.getD i .non, x) :: ws) vs (fun j hj => hp j (List.mem_cons_of_mem _ hj)) R1 q2
        exact r.perm List.perm_middle
    · cases e
theorem ioV_pin {io : List Nat} {vs : List V} {σ : St} (h : ∀ p ∈ pinsOf io vs, σ[p.1]? = some (some p.2)) : ∀ i ∈ io, σ[i]? = some (some (vs.getD i .non)) := fun i hi => h (i, vs.getD i .non) (List.mem_map.mpr ⟨i, hi, rfl⟩)
section
variable {P : Program} {w : World} {K : PySem.W.Frag} {mg : Str → Option Value} {base : Heap}
theorem okD {x qual : Str} {st : Stmt} {f : Addr} {fd : FuncData} {N ps : List Str} {k : Nat} (F : Fun K x qual st f fd) (S : FnScope N ps (defScope st)) (io : List Nat) (b : MS) (hio : (io.all fun i => decide (i < ps.length)) = true)
    (hbody : ∀ (cdv : Value) (A : Around) (outer : List PySem.Env) (s : Shared) (H : Hp) (E : XK) (vs : List V), Room k (A.deeper (PyProof.Rows.envOfC qual (defScope st) s.heap.objs.size f cdv)) →
      PSs (cxOf (L2.CX P w) P w K mg base N qual (defScope st) f cdv A outer s H E) (defBody st) (dS K mg (pinsOf io vs) (fun cls d _ H' => E cls d H') b)) :
    FnOk P w K mg base (L2.CX P w) (k + 1) f fd ps (dSp K mg io ps.length (runDef N.length ps.length io b)) := by
  refine F.okX S (fun vs H Q E h => ?_) (fun cdv A outer s H vs Q E hr h => ⟨_, hbody cdv A outer s H E vs hr, ?_⟩)
  · obtain ⟨_, _, _, l, _⟩ := h
    exact l
  · obtain ⟨args, ws, r, l, la, hR, he, hrt, hex⟩ := h
    unfold runDef at he
    rw [if_pos la] at he
    obtain ⟨bag, sl, rfl⟩ := start_rel (K := K) (H := H) (ws := ws) (vs := vs) (args := args) (N.length - vs.length) (l.trans la.symm)
    have hst : Rl K (pinsOf io vs) (L2.start N vs) (args.map some ++ List.replicate (N.length - vs.length) none) ws H := by
      refine ⟨⟨_, sl, hR⟩, fun p hp => ?_⟩
      obtain ⟨i, hi, rfl⟩ := List.mem_map.mp hp
      have hlt : i < vs.length := by
        rw [l]
        exact of_decide_eq_true (List.all_eq_true.mp hio i hi)
      unfold L2.start
      show (List.map some vs ++ _)[i]? = _
      rw [List.getElem?_append_left (by simpa using hlt), List.getElem?_map, List.getElem?_eq_getElem hlt, List.getD_eq_getElem?_getD, List.getElem?_eq_getElem hlt]
      rfl
    rw [l] at hst
    cases q : b (args.map some ++ List.replicate (N.length - ps.length) none) with
    | none => rw [q] at he; cases he
    | some r2 =>
      rw [q] at he
      refine ⟨_, ws, r2, hst, q, ?_⟩
      have fin : ∀ {env' : Env} {outs : List OV} {σ' : St} {H' : Hp} {v : V} {x : OV}, outsE env' io = some outs → Rl K (pinsOf io vs) σ' env' ((v, x) :: ws) H' → R K [] H' ((v, x) :: ((ioV io vs).zip outs ++ ws)) := fun {env' outs σ' H' v x} e R' =>
        (outs_rel vs (ioV_pin R'.pn) R' e).perm List.perm_middle
      refine ⟨fun env' z σ' H' R' => ?_, fun x env' z v σ' H' R' => ?_, fun env' z σ' H' R' => ?_, fun env' z σ' H' R' => ?_, fun e env' z cls d σ' H' ie R' => ?_⟩
      · subst z
        cases q3 : outsE env' io with
        | none => simp [q3] at he
        | some outs =>
          simp [q3] at he
          exact hrt _ _ he.symm .non H' (fin q3 (R'.add fun _ => .non))
      · subst z
        cases q3 : outsE env' io with
        | none => simp [q3] at he
        | some outs =>
          simp [q3] at he
          exact hrt _ _ he.symm v H' (fin q3 R')
      · subst z
        cases he
      · subst z
        cases he
      · subst z
        cases q3 : outsE env' io with
        | none => simp [q3] at he
        | some outs =>
          simp [q3] at he
          exact hex _ _ he.symm cls d H' ie (outs_rel vs (ioV_pin R'.pn) R' q3)
end

/-! ### a call of a def -/
/-- an argument: by its value, or a slot's thing that the callee changes -/
inductive Ar where
  | ex (f : M OV)
  | io (i : Nat)
inductive Sa where
  | ex (x : OV)
  | io (i : Nat)
def mArs : List Ar → M (List Sa)
  | [] => mR []
  | .ex f :: r => mB f fun x => mB (mArs r) fun xs => mR (.ex x :: xs)
  | .io i :: r => fun env => match env[i]? with
    | some (some _) => mB (mArs r) (fun xs => mR (.io i :: xs)) env
    | _ => none
/-- the values that stand beside the slots -/
def bagSa : List V → List Sa → Bag
  | v :: vs, .ex x :: r => (v, x) :: bagSa vs r
  | _ :: vs, .io _ :: r => bagSa vs r
  | _, _ => []
def ioSa (σ : St) : List V → List Sa → Prop
  | _ :: vs, .ex _ :: r => ioSa σ vs r
  | v :: vs, .io i :: r => σ[i]? = some (some v) ∧ ioSa σ vs r
  | [], [] => True
  | _, _ => False
def dArs (K : PySem.W.Frag) (mg : Str → Option Value) (pin : Pins) (W : WX) (as : List Ar) : TA := fun σ H Q => ∃ env ws r, Rl K pin σ env ws H ∧ mArs as env = some r ∧ Xp K mg pin W ws σ r ∧
  ∀ xs env', r = .ok xs env' → ∀ vs H', vs.length = xs.length → ioSa σ vs xs → Rl K pin σ env' (bagSa vs xs ++ ws) H' → Q vs H'
/-- the callee's arguments -/
def takeSa : List Sa → Env → Option (List OV × Env)
  | [], env => some ([], env)
  | .ex x :: r, env => (takeSa r env).map fun p => (x :: p.1, p.2)
  | .io i :: r, env => match env[i]? with
    | some (some x) => (takeSa r (env.set i none)).map fun p => (x :: p.1, p.2)
    | _ => none
def putSa : List Sa → List OV → Env → Option Env
  | [], [], env => some env
  | .ex _ :: r, outs, env => putSa r outs env
  | .io i :: r, x :: outs, env => putSa r outs (env.set i (some x))
  | _, _, _ => none
def ioPos (n : Nat) : List Ar → List Nat
  | [] => []
  | .ex _ :: r => ioPos (n + 1) r
  | .io _ :: r => n :: ioPos (n + 1) r
def ioPosS (n : Nat) : List Sa → List Nat
  | [] => []
  | .ex _ :: r => ioPosS (n + 1) r
  | .io _ :: r => n :: ioPosS (n + 1) r
def mCall (F : Fn) (as : List Ar) : M OV := mB (mArs as) fun sas env => match takeSa sas env with
  | some (args, env1) => match F args with
    | some (.rt x outs) => (putSa sas outs env1).map (.ok x)
    | some (.ex e outs) => (putSa sas outs env1).map (.ex e)
    | none => none
  | none => none
section
variable {K : PySem.W.Frag} {mg : Str → Option Value} {pin : Pins} {W : WX} {σ : St} {H : Hp} {ws : Bag}
theorem ioSa_len : ∀ {vs : List V} {xs : List Sa}, ioSa σ vs xs → vs.length = xs.length
  | [], [], _ => rfl
  | [], .ex _ :: _, h => h.elim
  | [], .io _ :: _, h => h.elim
  | _ :: _, [], h => h.elim
  | _ :: vs, .ex _ :: r, h => by rw [List.length_cons, List.length_cons, ioSa_len (vs := vs) (xs := r) h]
  | _ :: vs, .io _ :: r, h => by rw [List.length_cons, List.length_cons, ioSa_len (vs := vs) (xs := r) h.2]
theorem take_rel : ∀ {vs : List V} {xs : List Sa} {env env1 : Env} {args : List OV} {ws : Bag}, ioSa σ vs xs → Rl K pin σ env (bagSa vs xs ++ ws) H → takeSa xs env = some (args, env1) → args.length = vs.length ∧ Rl K pin σ env1 (vs.zip args ++ ws) H
  | [], [], env, env1, args, ws, _, hR, e => by
    cases e
    exact ⟨rfl, hR⟩
  | [], .ex _ :: _, _, _, _, _, h, _, _ => h.elim
  | [], .io _ :: _, _, _, _, _, h, _, _ => h.elim
  | _ :: _, [], _, _, _, _, h, _, _ => h.elim
  | v :: vs, .ex x :: r, env, env1, args, ws, h, hR, e => by
    unfold takeSa at e
    cases q : takeSa r env with
    | none => rw [q] at e; cases e
    | some p =>
      rw [q] at e
      cases e
      have hR2 : Rl K pin σ env (bagSa vs r ++ (v, x) :: ws) H := by
        obtain ⟨⟨ps, s, rr⟩, pn⟩ := hR
        exact ⟨⟨ps, s, rr.perm (List.Perm.append_left _ List.perm_middle.symm)⟩, pn⟩
      obtain ⟨l, R1⟩ := take_rel (vs := vs) (xs := r) h hR2 q
      refine ⟨by simp [l], ?_⟩
      obtain ⟨⟨ps, s, rr⟩, pn⟩ := R1
      exact ⟨⟨ps, s, rr.perm (List.Perm.append_left _ List.perm_middle)⟩, pn⟩
  | v :: vs, .io i :: r, env, env1, args, ws, h, hR, e => by
    unfold takeSa at e
    split at e
    · rename_i x q0
      cases q : takeSa r (env.set i none) with
      | none => rw [q] at e; cases e
      | some p =>
        rw [q] at e
        cases e
        obtain ⟨v', e1, R1⟩ := hR.take q0
        have ev : v' = v := Option.some.inj (Option.some.inj (e1.symm.trans h.1))
        subst ev
        have hR2 : Rl K pin σ (env.set i none) (bagSa vs r ++ (v', x) :: ws) H := by
          obtain ⟨⟨ps, s, rr⟩, pn⟩ := R1
          exact ⟨⟨ps, s, rr.perm (List.Perm.append_left _ List.perm_middle.symm)⟩, pn⟩
        obtain ⟨l, R2⟩ := take_rel (vs := vs) (xs := r) h.2 hR2 q
        refine ⟨by simp [l], ?_⟩
        obtain ⟨⟨ps, s, rr⟩, pn⟩ := R2
        exact ⟨⟨ps, s, rr.perm (List.Perm.append_left _ List.perm_middle)⟩, pn⟩
    · cases e
/-- the values of the changed arguments -/
def ioVs : List V → List Sa → List V
  | _ :: vs, .ex _ :: r => ioVs vs r
  | v :: vs, .io _ :: r => v :: ioVs vs r
  | _, _ => []
theorem ioV_Sa : ∀ (pre vs : List V) (xs : List Sa), vs.length = xs.length → ioV (ioPosS pre.length xs) (pre ++ vs) = ioVs vs xs
  | pre, [], [], _ => rfl
  | pre, [], _ :: _, h => by simp at h
  | pre, _ :: _, [], h => by simp at h
  | pre, v :: vs, .ex _ :: r, h => by
    have ih := ioV_Sa (pre ++ [v]) vs r (by simpa using h)
    rw [List.length_append, List.append_assoc] at ih
    exact ih
  | pre, v :: vs, .io _ :: r, h => by
    have ih := ioV_Sa (pre ++ [v]) vs r (by simpa using h)
    rw [List.length_append, List.append_assoc] at ih
    unfold ioPosS ioVs ioV
    rw [List.map_cons]
    congr 1
    simp
theorem put_rel : ∀ {vs : List V} {xs : List Sa} {outs : List OV} {env env1 : Env} {ws : Bag}, ioSa σ vs xs → Rl K pin σ env ((ioVs vs xs).zip outs ++ ws) H → putSa xs outs env = some env1 → Rl K pin σ env1 ws H
  | [], [], outs, env, env1, ws, _, hR, e => by
    cases outs with
    | nil =>
      cases e
      exact hR
    | cons _ _ => cases e
  | [], .ex _ :: _, _, _, _, _, h, _, _ => h.elim
  | [], .io _ :: _, _, _, _, _, h, _, _ => h.elim
  | _ :: _, [], _, _, _, _, h, _, _ => h.elim
  | v :: vs, .ex x :: r, outs, env, env1, ws, h, hR, e => put_rel (vs := vs) (xs := r) h hR (by cases outs <;> exact e)
  | v :: vs, .io i :: r, outs, env, env1, ws, h, hR, e => by
    cases outs with
    | nil => cases e
    | cons x outs =>
      have R1 : Rl K pin σ (env.set i (some x)) ((ioVs vs r).zip outs ++ ws) H := Rl.back h.1 hR
      exact put_rel (vs := vs) (xs := r) h.2 R1 e
end
section
variable {X : Cx} {pin : Pins} {W : WX} {a b c e tg : Expr} {es : List Expr} {pos p : Pos} {f g : M OV} {fs : M (List OV)} {as : List Ar}
abbrev Dar (X : Cx) (pin : Pins) (W : WX) (es : List Expr) (as : List Ar) : Prop := PA X es (dArs X.K X.mg pin W as)
theorem dar_nil : Dar X pin W [] [] := pa_nil.imp fun σ H Q ⟨env, ws, r, hR, he, hx, k⟩ => by
  cases he
  exact k _ _ rfl [] H rfl trivial hR
theorem dar_ex (h : De X pin W e f) (hr : Dar X pin W es as) (hs : starEach (e :: es) X.env = (false, eval e X.env) :: starEach es X.env := by rfl) : Dar X pin W (e :: es) (.ex f :: as) := (pa_cons h hr hs).imp fun σ H Q ⟨env, ws, r, hR, he, hx, k⟩ => by
  unfold mArs at he
  refine dE_bind hR he hx fun x env1 v H1 R1 he1 => ?_
  rcases mB_cases he1 with ⟨xs, env2, e1, e2⟩ | ⟨ex, env2, e1, e2⟩
  · refine ⟨env1, _, _, R1, e1, .ok, fun xs' env' z vs H' l io R' => ?_⟩
    cases z
    cases e2
    refine k _ _ rfl (v :: vs) H' (by simp [l]) io ?_
    obtain ⟨⟨ps, s, rr⟩, pn⟩ := R'
    exact ⟨⟨ps, s, rr.perm (List.Perm.append_left _ List.perm_middle)⟩, pn⟩
  · exact ⟨env1, _, _, R1, e1, (hx.drop).of e2, fun x' env' q => nomatch q⟩
theorem dar_io {i : Nat} (h : PE X e (tVar i)) (hr : Dar X pin W es as) (hs : starEach (e :: es) X.env = (false, eval e X.env) :: starEach es X.env := by rfl) : Dar X pin W (e :: es) (.io i :: as) := (pa_cons h hr hs).imp fun σ H Q ⟨env, ws, r, hR, he, hx, k⟩ => by
  unfold mArs at he
  split at he
  · rename_i x0 q0
    obtain ⟨v, e0, _⟩ := hR.take q0
    refine ⟨v, e0, ?_⟩
    rcases mB_cases he with ⟨xs, env2, e1, e2⟩ | ⟨ex, env2, e1, e2⟩
    · refine ⟨env, _, _, hR, e1, .ok, fun xs' env' z vs H' l io R' => ?_⟩
      cases z
      cases e2
      exact k _ _ rfl (v :: vs) H' (by simp [l]) ⟨e0, io⟩ R'
    · exact ⟨env, _, _, hR, e1, hx.of e2, fun x' env' q => nomatch q⟩
  · cases he
theorem mArs_pos : ∀ {as : List Ar} {env env' : Env} {xs : List Sa} (n : Nat), mArs as env = some (.ok xs env') → ioPosS n xs = ioPos n as
  | [], env, env', xs, n, h => by
    cases h
    rfl
  | .ex f :: as, env, env', xs, n, h => by
    unfold mArs at h
    rcases mB_cases h with ⟨x, env1, e1, e2⟩ | ⟨ex, env1, e1, e2⟩
    · rcases mB_cases e2 with ⟨ys, env2, e3, e4⟩ | ⟨ex, env2, e3, e4⟩
      · cases e4
        exact mArs_pos (as := as) (n + 1) e3
      · cases e4
    · cases e2
  | .io i :: as, env, env', xs, n, h => by
    unfold mArs at h
    split at h
    · rcases mB_cases h with ⟨ys, env2, e3, e4⟩ | ⟨ex, env2, e3, e4⟩
      · cases e4
        have ih := mArs_pos (as := as) (n + 1) e3
        show n :: ioPosS (n + 1) ys = n :: ioPos (n + 1) as
        rw [ih]
      · cases e4
    · cases h
theorem mArs_len : ∀ {as : List Ar} {env env' : Env} {xs : List Sa}, mArs as env = some (.ok xs env') → xs.length = as.length
  | [], env, env', xs, h => by
    cases h
    rfl
  | .ex f :: as, env, env', xs, h => by
    unfold mArs at h
    rcases mB_cases h with ⟨x, env1, e1, e2⟩ | ⟨ex, env1, e1, e2⟩
    · rcases mB_cases e2 with ⟨ys, env2, e3, e4⟩ | ⟨ex, env2, e3, e4⟩
      · cases e4
        have ih := mArs_len (as := as) e3
        simp [ih]
      · cases e4
    · cases e2
  | .io i :: as, env, env', xs, h => by
    unfold mArs at h
    split at h
    · rcases mB_cases h with ⟨ys, env2, e3, e4⟩ | ⟨ex, env2, e3, e4⟩
      · cases e4
        have ih := mArs_len (as := as) e3
        simp [ih]
      · cases e4
    · cases h
/-- what a call's reading wants -/
theorem call_use {io : List Nat} {F : Fn} {σ : St} {H : Hp} {Q : VK} (hio : ioPos 0 as = io) (q : dE X.K X.mg pin W (mCall F as) σ H Q) : dArs X.K X.mg pin W as σ H fun vs H1 => dSp X.K X.mg io as.length F vs H1 Q (WE W σ) := by
  obtain ⟨env, ws, r, hR, he, hx, k⟩ := q
  rcases mB_cases he with ⟨sas, env1, e1, e2⟩ | ⟨ex, env1, e1, e2⟩
  · refine ⟨env, ws, _, hR, e1, .ok, fun xs env' z vs H1 l hio2 R1 => ?_⟩
    cases z
    split at e2
    · rename_i args env2 q1
      obtain ⟨la, R2⟩ := take_rel hio2 R1 q1
      obtain ⟨⟨bag, sl, rr⟩, pn⟩ := R2
      have rr2 : R X.K [] H1 (vs.zip args ++ (bag ++ ws)) := rr.perm (by
        rw [← List.append_assoc, ← List.append_assoc]
        exact List.Perm.append_right _ List.perm_append_comm)
      have ev : ioV io vs = ioVs vs sas := by
        rw [← hio, ← mArs_pos 0 e1]
        exact ioV_Sa [] vs sas l
      have len := mArs_len e1
      cases q2 : F args with
      | none => rw [q2] at e2; cases e2
      | some fo =>
        rw [q2] at e2
        refine ⟨args, bag ++ ws, fo, by omega, by omega, rr2, q2, fun x outs z v H2 r3 => ?_, fun e outs z cls d H2 ie r3 => ?_⟩
        · subst z
          cases q3 : putSa sas outs env2 with
          | none => simp [q3] at e2
          | some env3 =>
            simp [q3] at e2
            refine k _ _ e2.symm v H2 (put_rel hio2 (outs := outs) (env := env2) ⟨⟨bag, sl, ?_⟩, pn⟩ q3)
            rw [ev] at r3
            refine r3.perm ?_
            have p1 : ((ioVs vs sas).zip outs ++ (bag ++ ws)).Perm (bag ++ ((ioVs vs sas).zip outs ++ ws)) := by
              rw [← List.append_assoc, ← List.append_assoc]
              exact List.Perm.append_right _ List.perm_append_comm
            refine (p1.cons _).trans ?_
            refine List.perm_middle.symm.trans (List.Perm.append_left _ ?_)
            exact List.perm_middle.symm
        · subst z
          cases q3 : putSa sas outs env2 with
          | none => simp [q3] at e2
          | some env3 =>
            simp [q3] at e2
            refine hx _ _ e2.symm cls d H2 ie (put_rel hio2 (outs := outs) (env := env2) ⟨⟨bag, sl, ?_⟩, pn⟩ q3)
            rw [ev] at r3
            refine r3.perm ?_
            rw [← List.append_assoc, ← List.append_assoc]
            exact List.Perm.append_right _ List.perm_append_comm
    · cases e2
  · exact ⟨env, ws, _, hR, e1, hx.of e2, fun x' env' q => nomatch q⟩
theorem de_call {io : List Nat} {F : Fn} {k n : Nat} {fa : Addr} {fd : FuncData} {ps : List Str} {x : Str} (tk : Takes X W) (G : FnOk X.prog X.w X.K X.mg X.base (L2.CX X.prog X.w) k fa fd ps (dSp X.K X.mg io n F)) (hr : Room k X.A) (hm : X.mg x = some (.ref fa)) (hk : PySem.W.keepIn X.K (.ref fa) = true) (hb : Binds X.K fd ps [])
    (ha : Dar X pin W (e :: es) as) (hn : as.length = n := by rfl) (hio : ioPos 0 as = io := by rfl) (hg : Gl X x := by rfl) (hdb : (x == ("__debug__" : Str)) = false := by decide) (he : starEach (e :: es) X.env = (false, eval e X.env) :: starEach es X.env := by rfl) (hpl : (backTo pos (starEach es X.env)).any (·.1) = false := by rfl) :
    De X pin W (.Call (.Name x p) (e :: es) [] pos) (mCall F as) := by
  subst hn
  exact (pe_callS G hr hg hm hk hb (fun σ => passAt tk σ) ha hdb he hpl).imp fun σ H Q q => call_use hio q
theorem de_call0 {F : Fn} {k n : Nat} {fa : Addr} {fd : FuncData} {ps : List Str} {x : Str} (tk : Takes X W) : True := trivial
end
end DL

namespace DL
open PySem PySem.Spec L2

def sz (n : Nat) : Bool := decide (n ≤ 16777216)
theorem sz_le {n : Nat} (h : sz n = true) : n ≤ sizeLine := by
  rw [sizeLine_eq]
  exact of_decide_eq_true h

/-! ### built-in functions -/
def SoundC (K : PySem.W.Frag) (r : List V → Hp → VK → Prop) (g : List Dt → Option OV) : Prop := ∀ (H : Hp) (vs : List V) (ds : List Dt) (z : OV) (Q : VK) (ps : Bag), g ds = some z → vs.length = ds.length → R K [] H (vs.zip (ds.map .val) ++ ps) →
  (∀ v' H', R K [] H' ((v', z) :: ps) → Q v' H') → r vs H Q
def mCB (g : List Dt → Option OV) (fs : M (List OV)) : M OV := mB fs fun xs => mO ((OV.frzL xs).bind g)
section
variable {K : PySem.W.Frag} {A : List Addr} {H H' : Hp} {ps : Bag}
theorem R.dpAll {ws : List V} {ds : List Dt} (le : ws.length = ds.length) (r : R K A H (ws.zip (ds.map .val) ++ ps)) : DpAll K H ws ds := by
  obtain ⟨Z, nd, a, b⟩ := R.dps le r
  exact DpAll.same hid_le a
theorem soundC_use {mg : Str → Option Value} {pin : Pins} {W : WX} {r : List V → Hp → VK → Prop} {g : List Dt → Option OV} {fs : M (List OV)} (hs : SoundC K r g) {σ : St} {Q : VK} (q : dE K mg pin W (mCB g fs) σ H Q) : dA K mg pin W fs σ H fun vs H1 => r vs H1 Q := by
  obtain ⟨env, ws, rr, hR, he, hx, k⟩ := q
  refine dA_bind hR he hx fun xs env1 vs H1 l R1 he1 => ?_
  obtain ⟨z, e3, rfl⟩ := mO_some he1
  cases q1 : OV.frzL xs with
  | none => rw [q1] at e3; cases e3
  | some ds =>
    rw [q1] at e3
    have R2 := Rl.under (q1 := vs.zip xs) (q2 := vs.zip (ds.map .val)) (fun ps r => R.frzL l q1 r) R1
    have ld : vs.length = ds.length := l.trans (frzL_len q1)
    obtain ⟨bag, rr, back⟩ := Rl.fix (q1 := vs.zip (ds.map .val)) R2
    exact hs H1 vs ds z Q bag e3 ld rr fun v' H' r1 => k _ _ rfl v' H' (back H' [(v', z)] r1)
end
section
variable {X : Cx} {pin : Pins} {W : WX} {a b c e : Expr} {es : List Expr} {pos p : Pos} {f g h : M OV} {fs : M (List OV)} {x : Str} {id T : String}
theorem de_callB {r : List V → Hp → VK → Prop} {gg : List Dt → Option OV} (hc : CallR X (.builtin id) r) (hs : SoundC X.K r gg) (hm : X.mg x = none) (hv : bootBuiltins x = some (.builtin id)) (ha : Da X pin W (e :: es) fs) (hg : Gl X x := by rfl) (hn : x ≠ "__name__" := by decide) (hdb : (x == ("__debug__" : Str)) = false := by decide)
    (he : starEach (e :: es) X.env = (false, eval e X.env) :: starEach es X.env := by rfl) (hpl : (backTo pos (starEach es X.env)).any (·.1) = false := by rfl) : De X pin W (.Call (.Name x p) (e :: es) [] pos) (mCB gg fs) :=
  (pe_callB hc hg hm hv ha hn hdb he hpl).imp fun σ H Q q => soundC_use hs q
theorem de_callTy {r : List V → Hp → VK → Prop} {gg : List Dt → Option OV} (hc : CallR X (.type T) r) (hs : SoundC X.K r gg) (hm : X.mg x = none) (hv : bootBuiltins x = some (.type T)) (ha : Da X pin W (e :: es) fs) (hg : Gl X x := by rfl) (hn : x ≠ "__name__" := by decide) (hdb : (x == ("__debug__" : Str)) = false := by decide)
    (he : starEach (e :: es) X.env = (false, eval e X.env) :: starEach es X.env := by rfl) (hpl : (backTo pos (starEach es X.env)).any (·.1) = false := by rfl) : De X pin W (.Call (.Name x p) (e :: es) [] pos) (mCB gg fs) :=
  (pe_callTy hc hg hm hv ha hn hdb he hpl).imp fun σ H Q q => soundC_use hs q
end
section
variable {K : PySem.W.Frag} {H H' : Hp}
/-- what is handed back is data in any heap -/
theorem SoundC.pure {r : List V → Hp → VK → Prop} {g : List Dt → Option OV} (h : ∀ (H : Hp) (vs : List V) (ds : List Dt) (z : OV) (Q : VK), g ds = some z → DpAll K H vs ds → ∀ k : (∀ v' d, z = .val d → (∀ F, Dp K F v' d) → Q v' H), r vs H Q) : SoundC K r g := fun H vs ds z Q ps e l rr k =>
  h H vs ds z Q e (R.dpAll l rr) fun v' d ez hd => k v' H (by
    subst ez
    exact R.add hd (R.dropL rr))
def oI (i : Int) : OV := .val (.int i)
def oB (b : Bool) : OV := .val (.bool b)
def lenD : List Dt → Option OV
  | [.list ds] => some (oI ds.length)
  | [.tuple ds] => some (oI ds.length)
  | [.str x] => if sz x.length then some (oI x.length) else none
  | _ => none
theorem sc_len : SoundC K (fun xs H Q => ∃ x n, xs = [x] ∧ LenV K x H n ∧ Q (.int n) H) lenD := SoundC.pure fun H vs ds z Q e dp k => by
  unfold lenD at e
  split at e
  · cases e
    cases dp with
    | cons h t =>
      cases t
      cases h with
      | lst hs ha => exact ⟨_, _, rfl, .inl ⟨_, hs, rfl⟩, by rw [ha.length]; exact k _ _ rfl fun _ => .int _⟩
  · cases e
    cases dp with
    | cons h t =>
      cases t
      cases h with
      | tup hs ha => exact ⟨_, _, rfl, .inr ⟨_, hs, rfl⟩, by rw [ha.length]; exact k _ _ rfl fun _ => .int _⟩
  · split at e
    · rename_i q
      cases e
      cases dp with
      | cons h t =>
        cases t
        cases h
        exact ⟨_, _, rfl, ⟨sz_le q, rfl⟩, k _ _ rfl fun _ => .int _⟩
    · cases e
  · cases e
def intsD : List Dt → Option (List Int)
  | [] => some []
  | .int i :: ds => (intsD ds).map (i :: ·)
  | _ => none
def blsD : List Dt → Option (List Bool)
  | [] => some []
  | .bool b :: ds => (blsD ds).map (b :: ·)
  | _ => none
theorem intsD_vs : ∀ {ds : List Dt} {vs : List V} {ns : List Int}, intsD ds = some ns → DpAll K H vs ds → vs = ns.map V.int
  | [], _, ns, e, dp => by
    cases e
    cases dp
    rfl
  | d :: ds, _, ns, e, dp => by
    cases d with
    | int i =>
      cases q : intsD ds with
      | none => simp [intsD, q] at e
      | some ms =>
        simp [intsD, q] at e
        cases dp with
        | cons h t =>
          cases h
          rw [intsD_vs q t, ← e]
          rfl
    | _ => simp [intsD] at e
theorem blsD_vs : ∀ {ds : List Dt} {vs : List V} {ns : List Bool}, blsD ds = some ns → DpAll K H vs ds → vs = ns.map V.bl
  | [], _, ns, e, dp => by
    cases e
    cases dp
    rfl
  | d :: ds, _, ns, e, dp => by
    cases d with
    | bool i =>
      cases q : blsD ds with
      | none => simp [blsD, q] at e
      | some ms =>
        simp [blsD, q] at e
        cases dp with
        | cons h t =>
          cases h
          rw [blsD_vs q t, ← e]
          rfl
    | _ => simp [blsD] at e
def listArg : List Dt → Option (List Dt)
  | [.list ds] => some ds
  | _ => none
theorem listArg_some {ds es : List Dt} (h : listArg ds = some es) : ds = [.list es] := by
  unfold listArg at h
  split at h
  · cases h
    rfl
  · cases h
theorem listArg_dp {vs : List V} {ds es : List Dt} (h : listArg ds = some es) (dp : DpAll K H vs ds) : ∃ a xs, vs = [.ref a] ∧ SqL K H a xs ∧ DpAll K H xs es := by
  cases listArg_some h
  cases dp with
  | cons h t =>
    cases t
    cases h with
    | lst hs ha => exact ⟨_, _, rfl, hs, ha⟩
def sumD (ds : List Dt) : Option OV := (listArg ds).bind fun es => (intsD es).map fun ns => oI ns.sum
theorem sc_sum : SoundC K (rSum K) sumD := SoundC.pure fun H vs ds z Q e dp k => by
  unfold sumD at e
  cases q : listArg ds with
  | none => simp [q] at e
  | some es =>
    cases q2 : intsD es with
    | none => simp [q, q2] at e
    | some ns =>
      simp [q, q2] at e
      obtain ⟨a, xs, rfl, hs, ha⟩ := listArg_dp q dp
      rw [intsD_vs q2 ha] at hs
      subst e
      exact ⟨a, ns, rfl, hs, k _ _ rfl fun _ => .int _⟩
def allD (ds : List Dt) : Option OV := (listArg ds).bind fun es => (blsD es).map fun ns => oB (ns.all id)
def anyD (ds : List Dt) : Option OV := (listArg ds).bind fun es => (blsD es).map fun ns => oB (ns.any id)
theorem sc_all : SoundC K (fun vs H Q => ∃ (a : Addr) (bs : List Bool), vs = [V.ref a] ∧ SqL K H a (bs.map V.bl) ∧ Q (.bl (bs.all id)) H) allD := SoundC.pure fun H vs ds z Q e dp k => by
  unfold allD at e
  cases q : listArg ds with
  | none => simp [q] at e
  | some es =>
    cases q2 : blsD es with
    | none => simp [q, q2] at e
    | some ns =>
      simp [q, q2] at e
      obtain ⟨a, xs, rfl, hs, ha⟩ := listArg_dp q dp
      rw [blsD_vs q2 ha] at hs
      subst e
      exact ⟨a, ns, rfl, hs, k _ _ rfl fun _ => .bl _⟩
theorem sc_any : SoundC K (fun vs H Q => ∃ (a : Addr) (bs : List Bool), vs = [V.ref a] ∧ SqL K H a (bs.map V.bl) ∧ Q (.bl (bs.any id)) H) anyD := SoundC.pure fun H vs ds z Q e dp k => by
  unfold anyD at e
  cases q : listArg ds with
  | none => simp [q] at e
  | some es =>
    cases q2 : blsD es with
    | none => simp [q, q2] at e
    | some ns =>
      simp [q, q2] at e
      obtain ⟨a, xs, rfl, hs, ha⟩ := listArg_dp q dp
      rw [blsD_vs q2 ha] at hs
      subst e
      exact ⟨a, ns, rfl, hs, k _ _ rfl fun _ => .bl _⟩
/-- tuple(xs) -/
def tupleD : List Dt → Option OV
  | [.list ds] => some (.val (.tuple ds))
  | [.tuple ds] => some (.val (.tuple ds))
  | _ => none
theorem soundC_list1 {r : List V → Hp → VK → Prop} {g : List Dt → Option OV} (h : ∀ (H : Hp) (v : V) (d : Dt) (z : OV) (Q : VK) (ps : Bag), g [d] = some z → R K [] H ((v, .val d) :: ps) → (∀ v' H', R K [] H' ((v', z) :: ps) → Q v' H') → r [v] H Q) (one : ∀ ds, (g ds).isSome = true → ds.length = 1) : SoundC K r g := fun H vs ds z Q ps e l rr k => by
  have l1 := one ds (by rw [e]; rfl)
  match ds, vs, l, l1 with
  | [d], [v], _, _ => exact h H v d z Q ps e rr k
theorem sc_tuple : SoundC K (fun xs H Q => ∃ p ys, xs = [.ref p] ∧ ((SqL K H p ys ∧ ∀ l, H l = none → Q (.ref l) (upd H l (.tup ys))) ∨ (SqT K H p ys ∧ Q (.ref p) H))) tupleD := soundC_list1 (fun H v d z Q ps e rr k => by
  unfold tupleD at e
  split at e
  · rename_i ds q
    cases q
    cases e
    have dp := R.dp rr
    cases dp with
    | @lst a _ _ _ _ =>
      obtain ⟨xs, hs, l, r2⟩ := R.unlst rr
      refine ⟨a, xs, rfl, .inl ⟨hs, fun p hp => k _ _ (R.newT ?_ l hp)⟩⟩
      exact R.drop (r2.perm List.perm_middle)
  · rename_i ds q
    cases q
    cases e
    have dp := R.dp rr
    cases dp with
    | @tup a _ _ _ _ =>
      obtain ⟨xs, hs, l, r2⟩ := R.untup rr
      exact ⟨a, xs, rfl, .inr ⟨hs, k _ _ rr⟩⟩
  · cases e) fun ds h => by
    unfold tupleD at h
    split at h
    · rfl
    · rfl
    · cases h
/-- list(xs) -/
def listD : List Dt → Option OV
  | [.list ds] => some (.lst (ds.map .val))
  | [.tuple ds] => some (.lst (ds.map .val))
  | _ => none
theorem sc_list : SoundC K (fun xs H Q => ∃ p ys, xs = [.ref p] ∧ (SqL K H p ys ∨ SqT K H p ys) ∧ ∀ l, H l = none → Q (.ref l) (upd H l (.lst ys))) listD := soundC_list1 (fun H v d z Q ps e rr k => by
  unfold listD at e
  split at e
  · rename_i ds q
    cases q
    cases e
    have dp := R.dp rr
    cases dp with
    | @lst a _ _ _ _ =>
      obtain ⟨xs, hs, l, r2⟩ := R.unlst rr
      refine ⟨a, xs, rfl, .inl hs, fun p hp => k _ _ (R.newL ?_ (by simpa using l) hp)⟩
      exact R.drop (r2.perm List.perm_middle)
  · rename_i ds q
    cases q
    cases e
    have dp := R.dp rr
    cases dp with
    | @tup a _ _ _ _ =>
      obtain ⟨xs, hs, l, r2⟩ := R.untup rr
      refine ⟨a, xs, rfl, .inr hs, fun p hp => k _ _ (R.newL ?_ (by simpa using l) hp)⟩
      exact R.drop (r2.perm List.perm_middle)
  · cases e) fun ds h => by
    unfold listD at h
    split at h
    · rfl
    · rfl
    · cases h
/-- int(x) -/
def intD : List Dt → Option OV
  | [.int i] => some (oI i)
  | [.bool b] => some (oI (if b then 1 else 0))
  | _ => none
theorem sc_int : SoundC K (fun xs H Q => (∃ i, xs = [.int i] ∧ Q (.int i) H) ∨ ∃ k, xs = [.bl k] ∧ Q (.int (if k then 1 else 0)) H) intD := SoundC.pure fun H vs ds z Q e dp k => by
  unfold intD at e
  split at e
  · cases e
    cases dp with
    | cons h t => cases t; cases h; exact .inl ⟨_, rfl, k _ _ rfl fun _ => .int _⟩
  · cases e
    cases dp with
    | cons h t => cases t; cases h; exact .inr ⟨_, rfl, k _ _ rfl fun _ => .int _⟩
  · cases e
def absD : List Dt → Option OV
  | [.int i] => some (oI (if i < 0 then -i else i))
  | _ => none
theorem sc_abs : SoundC K (fun xs H Q => ∃ i, xs = [.int i] ∧ Q (.int (if i < 0 then -i else i)) H) absD := SoundC.pure fun H vs ds z Q e dp k => by
  unfold absD at e
  split at e
  · cases e
    cases dp with
    | cons h t => cases t; cases h; exact ⟨_, rfl, k _ _ rfl fun _ => .int _⟩
  · cases e
def min2D : List Dt → Option OV
  | [.int i, .int j] => some (oI (if j < i then j else i))
  | _ => none
def max2D : List Dt → Option OV
  | [.int i, .int j] => some (oI (if j > i then j else i))
  | _ => none
theorem sc_min2 : SoundC K (fun xs H Q => ∃ i j, xs = [.int i, .int j] ∧ Q (.int (if j < i then j else i)) H) min2D := SoundC.pure fun H vs ds z Q e dp k => by
  unfold min2D at e
  split at e
  · cases e
    cases dp with
    | cons h t => cases h; cases t with | cons h t => cases t; cases h; exact ⟨_, _, rfl, k _ _ rfl fun _ => .int _⟩
  · cases e
theorem sc_max2 : SoundC K (fun xs H Q => ∃ i j, xs = [.int i, .int j] ∧ Q (.int (if j > i then j else i)) H) max2D := SoundC.pure fun H vs ds z Q e dp k => by
  unfold max2D at e
  split at e
  · cases e
    cases dp with
    | cons h t => cases h; cases t with | cons h t => cases t; cases h; exact ⟨_, _, rfl, k _ _ rfl fun _ => .int _⟩
  · cases e
end

/-! ### isinstance with a built-in class -/
def isiD (T : String) : Dt → Option Bool
  | .none => some ("NoneType" == T)
  | .bool _ => some ("bool" == T || T == "int")
  | .int _ => some ("int" == T)
  | .str _ => some ("str" == T)
  | .list _ => some ("list" == T)
  | .tuple _ => some ("tuple" == T)
  | .dict _ => none
def tyD : Dt → String
  | .none => "NoneType"
  | .bool _ => "bool"
  | .int _ => "int"
  | .str _ => "str"
  | .list _ => "list"
  | .tuple _ => "tuple"
  | .dict _ => "dict"
section
variable {K : PySem.W.Frag} {H H' : Hp}
theorem tyX_of {v : V} {d : Dt} (h : Dp K H v d) : TyX K H v (.type (tyD d)) := by
  cases h with
  | non => exact .base .non
  | bl b => exact .base (.bl b)
  | int i => exact .base (.int i)
  | str x => exact .base (.str x)
  | lst hs ha =>
    rcases hs with (hs | ⟨o, hs⟩) | ⟨o, its, n, hk, hc, _⟩
    · exact .base (.lst hs)
    · exact .base (.frz hs)
    · exact .kList hk hc
  | tup hs ha =>
    rcases hs with (hs | ⟨o, hs⟩) | ⟨o, its, n, hk, hc, _⟩
    · exact .base (.tup hs)
    · exact .fTuple hs
    · exact .kTuple hk hc
end
end DL

namespace DL
open PySem PySem.Spec L2

theorem isi_tab : (["NoneType", "bool", "int", "str", "list", "tuple"].all fun a => ["bool", "int", "str", "list", "tuple"].all fun b => kitB a b == some (a == b || (a == "bool" && b == "int"))) = true := by decide +kernel
def isiT : List String := ["bool", "int", "str", "list", "tuple"]
theorem isi_ok {T : String} (hT : T ∈ isiT) {d : Dt} {b : Bool} (h : isiD T d = some b) : kitB (tyD d) T = some b := by
  have t := List.all_eq_true.mp isi_tab
  have key : ∀ a, a ∈ ["NoneType", "bool", "int", "str", "list", "tuple"] → kitB a T = some (a == T || (a == "bool" && T == "int")) := fun a ha => by
    have t2 := List.all_eq_true.mp (t a ha) T hT
    simpa using t2
  cases d with
  | none =>
    simp [isiD] at h
    rw [tyD, key _ (by simp)]
    simp [← h, eq_comm]
  | bool _ =>
    simp [isiD] at h
    rw [tyD, key _ (by simp)]
    simp [← h, eq_comm]
  | int _ =>
    simp [isiD] at h
    rw [tyD, key _ (by simp)]
    simp [← h, eq_comm]
  | str _ =>
    simp [isiD] at h
    rw [tyD, key _ (by simp)]
    simp [← h, eq_comm]
  | list _ =>
    simp [isiD] at h
    rw [tyD, key _ (by simp)]
    simp [← h, eq_comm]
  | tuple _ =>
    simp [isiD] at h
    rw [tyD, key _ (by simp)]
    simp [← h, eq_comm]
  | dict _ => simp [isiD] at h
def mIsi (T : String) (f : M OV) : M OV := mB f fun x => mO ((x.frz).bind fun d => (isiD T d).map oB)
section
variable {X : Cx} {pin : Pins} {W : WX} {a b c e tg : Expr} {es : List Expr} {pos p p2 : Pos} {f g h : M OV} {fa fb : M Bool} {fs : M (List OV)} {x : Str} {id T : String}
theorem de_isi (mi : X.mg "isinstance" = none) (mT : X.mg x = none) (hv : bootBuiltins x = some (.type T)) (hT : T ∈ isiT) (he : De X pin W e f) (hg : Gl X "isinstance" := by rfl) (hgT : Gl X x := by rfl) (hn : x ≠ "__name__" := by decide) (hd : (x == ("__debug__" : Str)) = false := by decide)
    (hs1 : starEach (e :: [.Name x p2]) X.env = (false, eval e X.env) :: starEach [.Name x p2] X.env := by rfl) (hs2 : starEach (Expr.Name x p2 :: []) X.env = (false, eval (.Name x p2) X.env) :: starEach [] X.env := by rfl) (hpl : (backTo pos (starEach [.Name x p2] X.env)).any (·.1) = false := by rfl) :
    De X pin W (.Call (.Name "isinstance" p) [e, .Name x p2] [] pos) (mIsi T f) :=
  (pe_callB call_isi hg mi (by decide +kernel) (pa_cons he (pa_cons (pe_bltn (v := .ty T) hgT mT hv rfl hn hd) pa_nil hs2) hs1) (by decide) (by decide) hs1 hpl).imp fun σ H Q ⟨env, ws, r, hR, he, hx, k⟩ => by
    refine dE_bind hR he hx fun y env1 v H1 R1 he1 => ?_
    obtain ⟨z, e3, rfl⟩ := mO_some he1
    cases q1 : y.frz with
    | none => simp [q1] at e3
    | some d =>
      cases q2 : isiD T d with
      | none => simp [q1, q2] at e3
      | some bb =>
        simp [q1, q2] at e3
        subst e3
        have R2 := Rl.under (q1 := [(v, y)]) (q2 := [(v, .val d)]) (fun _ r => R.frz q1 r) R1
        exact ⟨v, .ty T, .type (tyD d), .type T, bb, rfl, .ty T, tyX_of R2.dp, kit_ty (isi_ok hT q2), k _ _ rfl _ _ (R2.drop.add fun _ => .bl _)⟩

/-! ### displays -/
def mTup (fs : M (List OV)) : M OV := mB fs fun xs => mO (match OV.frzL xs with
  | some ds => if sz ds.length = true then some (.val (.tuple ds)) else none
  | none => none)
theorem de_tup {k : Nat} (h : Da X pin W es fs) : De X pin W (.Tuple es k pos) (mTup fs) := (pe_tup h).imp fun σ H Q ⟨env, ws, r, hR, he, hx, k⟩ => by
  refine dA_bind hR he hx fun xs env1 vs H1 l R1 he1 => ?_
  obtain ⟨z, e3, rfl⟩ := mO_some he1
  split at e3
  · rename_i ds q
    split at e3
    · rename_i hz
      cases e3
      have ld : vs.length = ds.length := l.trans (frzL_len q)
      have R2 := Rl.under (q1 := vs.zip xs) (q2 := vs.zip (ds.map .val)) (fun ps r => R.frzL l q r) R1
      obtain ⟨ps, rr, back⟩ := Rl.fix (q1 := vs.zip (ds.map .val)) R2
      refine ⟨by rw [ld]; exact sz_le hz, fun p hp => k _ _ rfl _ _ (back _ [(.ref p, .val (.tuple ds))] ?_)⟩
      exact R.newT rr ld hp
    · cases e3
  · cases e3
def mLst (fs : M (List OV)) : M OV := mB fs fun xs => mO (if sz xs.length = true then some (.lst xs) else none)
theorem de_lst (h : Da X pin W es fs) : De X pin W (.List es pos) (mLst fs) := (pe_lst h).imp fun σ H Q ⟨env, ws, r, hR, he, hx, k⟩ => by
  refine dA_bind hR he hx fun xs env1 vs H1 l R1 he1 => ?_
  obtain ⟨z, e3, rfl⟩ := mO_some he1
  split at e3
  · rename_i hz
    cases e3
    obtain ⟨ps, rr, back⟩ := Rl.fix (q1 := vs.zip xs) R1
    refine ⟨by rw [l]; exact sz_le hz, fun p hp => k _ _ rfl _ _ (back _ [(.ref p, .lst xs)] ?_)⟩
    exact R.newL rr l hp
  · cases e3

/-! ### subscripts -/
def ixD : Dt → Dt → Option OV
  | .list ds, .int i => (atI ds i).map .val
  | .tuple ds, .int i => (atI ds i).map .val
  | .str z, .int i => if sz z.length = true then (atI z.cps.toList i).map fun c => .val (.str ⟨#[c]⟩) else none
  | _, _ => none
theorem atI_some {α : Type} {xs : List α} {i : Int} {v : α} (h : atI xs i = some v) : ∃ j, ixN xs.length i = some j ∧ xs[j]? = some v := by
  unfold atI at h
  cases q : ixN xs.length i with
  | none => rw [q] at h; cases h
  | some j =>
    rw [q] at h
    exact ⟨j, rfl, h⟩
theorem atI_of {α : Type} {xs : List α} {i : Int} {v : α} {j n : Nat} (h : ixN n i = some j) (l : xs.length = n) (e : xs[j]? = some v) : atI xs i = some v := by
  unfold atI
  rw [l, h]
  exact e
theorem s2_ix {K : PySem.W.Frag} : Sound2 K (rIx K) ixD := fun H v w x y z Q ps e rr k => by
  unfold ixD at e
  split at e
  · rename_i ds i
    have d1 := R.dp rr
    cases d1
    have rr2 := rr.drop
    have d2 := R.dp rr2
    cases d2 with
    | @lst a _ _ _ _ =>
      obtain ⟨xs, hs, l, r3⟩ := R.unlst rr2
      cases q : atI ds i with
      | none => rw [q] at e; cases e
      | some d =>
        rw [q] at e
        cases e
        obtain ⟨j, e1, e2⟩ := atI_some q
        obtain ⟨u, e3, r4⟩ := R.pick l e2 r3
        exact .inl ⟨a, xs, i, u, rfl, rfl, hs, atI_of e1 l e3, k _ _ (R.drop (r4.perm (.swap _ _ _)))⟩
  · rename_i ds i
    have d1 := R.dp rr
    cases d1
    have rr2 := rr.drop
    have d2 := R.dp rr2
    cases d2 with
    | @tup a _ _ _ _ =>
      obtain ⟨xs, hs, l, r3⟩ := R.untup rr2
      cases q : atI ds i with
      | none => rw [q] at e; cases e
      | some d =>
        rw [q] at e
        cases e
        obtain ⟨j, e1, e2⟩ := atI_some q
        obtain ⟨u, e3, r4⟩ := R.pick l e2 r3
        exact .inr (.inl ⟨a, xs, i, u, rfl, rfl, hs, atI_of e1 l e3, k _ _ (R.drop (r4.perm (.swap _ _ _)))⟩)
  · rename_i zz i
    have d1 := R.dp rr
    cases d1
    have d2 := R.dp rr.drop
    cases d2
    split at e
    · rename_i hz
      cases q : atI zz.cps.toList i with
      | none => rw [q] at e; cases e
      | some c =>
        rw [q] at e
        cases e
        exact .inr (.inr ⟨zz, i, c, rfl, rfl, sz_le hz, q, k _ _ (R.add (fun _ => .str _) rr.drop.drop)⟩)
    · cases e
  · cases e
theorem de_ix (ha : De X pin W a f) (hb : De X pin W b h) (hs : PlainIx b := by intro _ _; rfl) : De X pin W (.Subscript a b pos) (m2 ixD f h) :=
  (pe_ix ix_seq ha hb hs).imp fun σ H Q ⟨env, ws, rr, hR, he, hx, k⟩ => sound2_use s2_ix hR he hx k

/-! ### operators on data -/
section
variable {K : PySem.W.Frag}
theorem Sound2.pure {r : R2} {g : Dt → Dt → Option OV} (h : ∀ (H : Hp) (v w : V) (x y : Dt) (z : OV) (Q : VK), g x y = some z → Dp K H v x → Dp K H w y → ∀ k : (∀ v' d, z = .val d → (∀ F, Dp K F v' d) → Q v' H), r v w H Q) : Sound2 K r g := fun H v w x y z Q ps e rr k =>
  h H v w x y z Q e rr.drop.dp rr.dp fun v' d ez hd => k v' H (by
    subst ez
    exact R.add hd rr.drop.drop)
def gI (g : Int → Int → Option OV) : Dt → Dt → Option OV
  | .int i, .int j => g i j
  | _, _ => none
theorem s2_I {F : Int → Int → V} {d : Int → Int → Dt} (hd : ∀ i j (F' : Hp), Dp K F' (F i j) (d i j)) : Sound2 K (rI0 F) (gI fun i j => some (.val (d i j))) := Sound2.pure fun H v w x y z Q e dx dy k => by
  unfold gI at e
  split at e
  · cases e
    cases dx
    cases dy
    exact ⟨_, _, rfl, rfl, k _ _ rfl (hd _ _)⟩
  · cases e
theorem s2_IC {C : Int → Int → Prop} {c : Int → Int → Bool} {F : Int → Int → V} {d : Int → Int → Dt} (hc : ∀ i j, c i j = true → C i j) (hd : ∀ i j (F' : Hp), Dp K F' (F i j) (d i j)) : Sound2 K (rI C F) (gI fun i j => if c i j = true then some (.val (d i j)) else none) := Sound2.pure fun H v w x y z Q e dx dy k => by
  unfold gI at e
  split at e
  · rename_i i j
    dsimp only at e
    split at e
    · rename_i hcc
      cases e
      cases dx
      cases dy
      exact ⟨_, _, rfl, rfl, hc _ _ hcc, k _ _ rfl (hd _ _)⟩
    · cases e
  · cases e
abbrev addI := gI fun i j => some (.val (.int (i + j)))
abbrev subI := gI fun i j => some (.val (.int (i - j)))
def mulC (i j : Int) : Bool := (decide (-(2 ^ 64) < i) && decide (i < 2 ^ 64)) || (decide (-(2 ^ 64) < j) && decide (j < 2 ^ 64))
abbrev mulI := gI fun i j => if mulC i j = true then some (.val (.int (i * j))) else none
abbrev modI := gI fun i j => if decide (0 < j) = true then some (.val (.int (i % j))) else none
abbrev ltI := gI fun i j => some (.val (.bool (decide (i < j))))
abbrev leI := gI fun i j => some (.val (.bool (decide (i ≤ j))))
abbrev gtI := gI fun i j => some (.val (.bool (decide (j < i))))
abbrev geI := gI fun i j => some (.val (.bool (decide (j ≤ i))))
theorem s2_add : Sound2 K (rI0 fun i j => .int (i + j)) addI := s2_I fun _ _ _ => .int _
theorem s2_sub : Sound2 K (rI0 fun i j => .int (i - j)) subI := s2_I fun _ _ _ => .int _
theorem s2_lt : Sound2 K (rI0 fun i j => .bl (decide (i < j))) ltI := s2_I fun _ _ _ => .bl _
theorem s2_le : Sound2 K (rI0 fun i j => .bl (decide (i ≤ j))) leI := s2_I fun _ _ _ => .bl _
theorem s2_gt : Sound2 K (rI0 fun i j => .bl (decide (j < i))) gtI := s2_I fun _ _ _ => .bl _
theorem s2_ge : Sound2 K (rI0 fun i j => .bl (decide (j ≤ i))) geI := s2_I fun _ _ _ => .bl _
theorem s2_mul : Sound2 K (rI CMul fun i j => .int (i * j)) mulI := s2_IC (fun i j h => by
  unfold mulC at h
  rw [Bool.or_eq_true, Bool.and_eq_true, Bool.and_eq_true] at h
  rcases h with h | h
  · exact .inl ⟨of_decide_eq_true h.1, of_decide_eq_true h.2⟩
  · exact .inr ⟨of_decide_eq_true h.1, of_decide_eq_true h.2⟩) fun _ _ _ => .int _
theorem s2_mod : Sound2 K (rI (fun _ j => 0 < j) fun i j => .int (i % j)) modI := s2_IC (fun i j h => of_decide_eq_true h) fun _ _ _ => .int _
/-- is None, is not None -/
def isNo : Dt → Bool
  | .none => true
  | _ => false
theorem isNo_dp {H : Hp} {v : V} {d : Dt} (h : Dp K H v d) : decide (v = .non) = isNo d := by
  cases h <;> simp [isNo]
end
def mIsN (f : M OV) : M OV := mB f fun x => mO (x.frz.map fun d => oB (isNo d))
def mNotN (f : M OV) : M OV := mB f fun x => mO (x.frz.map fun d => oB (!isNo d))
theorem de_isN {j : Nat} (ha : De X pin W a f) : De X pin W (.Compare a [.Is] [.Constant .none j p] pos) (mIsN f) := (pe_cmp (pc_isN ha)).imp fun σ H Q ⟨env, ws, r, hR, he, hx, k⟩ => by
  refine dE_bind hR he hx fun y env1 v H1 R1 he1 => ?_
  obtain ⟨z, e3, rfl⟩ := mO_some he1
  cases q : y.frz with
  | none => simp [q] at e3
  | some d =>
    simp [q] at e3
    subst e3
    have R2 := Rl.under (q1 := [(v, y)]) (q2 := [(v, .val d)]) (fun _ r => R.frz q r) R1
    rw [isNo_dp R2.dp]
    exact k _ _ rfl _ _ (R2.drop.add fun _ => .bl _)
theorem de_notN {j : Nat} (ha : De X pin W a f) : De X pin W (.Compare a [.IsNot] [.Constant .none j p] pos) (mNotN f) := (pe_cmp (pc_notN ha)).imp fun σ H Q ⟨env, ws, r, hR, he, hx, k⟩ => by
  refine dE_bind hR he hx fun y env1 v H1 R1 he1 => ?_
  obtain ⟨z, e3, rfl⟩ := mO_some he1
  cases q : y.frz with
  | none => simp [q] at e3
  | some d =>
    simp [q] at e3
    subst e3
    have R2 := Rl.under (q1 := [(v, y)]) (q2 := [(v, .val d)]) (fun _ r => R.frz q r) R1
    rw [isNo_dp R2.dp]
    exact k _ _ rfl _ _ (R2.drop.add fun _ => .bl _)
theorem db_isN {j : Nat} (ha : De X pin W a f) : Db X pin W (.Compare a [.Is] [.Constant .none j p] pos) (mBl (mIsN f)) := (pt_cmp (pc_isN ha)).imp fun σ H Q q => by
  obtain ⟨env, ws, r, hR, he, hx, k⟩ := dT_of q
  refine dE_bind hR he hx fun y env1 v H1 R1 he1 => ?_
  obtain ⟨z, e3, rfl⟩ := mO_some he1
  cases q : y.frz with
  | none => simp [q] at e3
  | some d =>
    simp [q] at e3
    subst e3
    have R2 := Rl.under (q1 := [(v, y)]) (q2 := [(v, .val d)]) (fun _ r => R.frz q r) R1
    rw [isNo_dp R2.dp]
    exact k _ _ rfl _ _ (R2.drop.add fun _ => .bl _)
theorem db_notN {j : Nat} (ha : De X pin W a f) : Db X pin W (.Compare a [.IsNot] [.Constant .none j p] pos) (mBl (mNotN f)) := (pt_cmp (pc_notN ha)).imp fun σ H Q q => by
  obtain ⟨env, ws, r, hR, he, hx, k⟩ := dT_of q
  refine dE_bind hR he hx fun y env1 v H1 R1 he1 => ?_
  obtain ⟨z, e3, rfl⟩ := mO_some he1
  cases q : y.frz with
  | none => simp [q] at e3
  | some d =>
    simp [q] at e3
    subst e3
    have R2 := Rl.under (q1 := [(v, y)]) (q2 := [(v, .val d)]) (fun _ r => R.frz q r) R1
    rw [isNo_dp R2.dp]
    exact k _ _ rfl _ _ (R2.drop.add fun _ => .bl _)
/-- -x -/
def mNeg (f : M OV) : M OV := mB f fun x => mO (match x with
  | .val (.int i) => some (oI (-i))
  | _ => none)
theorem de_neg (ha : De X pin W a f) : De X pin W (.UnaryOp .USub a pos) (mNeg f) := (pe_un un_neg ha).imp fun σ H Q ⟨env, ws, r, hR, he, hx, k⟩ => by
  refine dE_bind hR he hx fun y env1 v H1 R1 he1 => ?_
  obtain ⟨z, e3, rfl⟩ := mO_some he1
  split at e3
  · rename_i i
    cases e3
    have d := R1.dp
    cases d
    exact ⟨i, rfl, k _ _ rfl _ _ (R1.drop.add fun _ => .int _)⟩
  · cases e3
end
end DL

namespace DL
open PySem PySem.Spec L2

section
variable {K : PySem.W.Frag} {H : Hp}
mutual
theorem Dp.plain : ∀ {d : Dt} {v : V}, Dp K H v d → d.plain = true
  | _, _, .non => rfl
  | _, _, .bl _ => rfl
  | _, _, .int _ => rfl
  | _, _, .str _ => rfl
  | _, _, .lst _ t => by
    unfold PyData.plain
    exact DpAll.plain t
  | _, _, .tup _ t => by
    unfold PyData.plain
    exact DpAll.plain t
theorem DpAll.plain : ∀ {ds : List Dt} {vs : List V}, DpAll K H vs ds → PyData.plainAll ds = true
  | _, _, .nil => rfl
  | _, _, .cons h t => by
    unfold PyData.plainAll
    rw [Dp.plain h, DpAll.plain t]
    rfl
end
end
/-- what lies not too deep -/
def lowD (x y : Dt) : Bool := decide (min x.depth y.depth ≤ 60)
def eqD : Dt → Dt → Option OV := fun x y => if lowD x y = true then some (oB (PyData.eqv x y)) else none
def neD : Dt → Dt → Option OV := fun x y => if lowD x y = true then some (oB (!PyData.eqv x y)) else none
def ltD : Dt → Dt → Option OV := fun x y => if (PySem.W.alike x y && !isNo x && lowD x y) = true then some (oB (PySem.W.dataLt x y)) else none
def inD : Dt → Dt → Option OV := fun x y => match y with
  | .list ds => if lowD y x = true then some (oB (ds.any fun z => PyData.eqv z x)) else none
  | .tuple ds => if lowD y x = true then some (oB (ds.any fun z => PyData.eqv z x)) else none
  | _ => none
def notInD : Dt → Dt → Option OV := fun x y => match y with
  | .list ds => if lowD y x = true then some (oB (!ds.any fun z => PyData.eqv z x)) else none
  | .tuple ds => if lowD y x = true then some (oB (!ds.any fun z => PyData.eqv z x)) else none
  | _ => none
section
variable {X : Cx}
/-- an operator on data by what it returns -/
def rD (K : PySem.W.Frag) (g : Dt → Dt → Option OV) : R2 := fun x y H Q => ∃ d e v z, Dp K H x d ∧ Dp K H y e ∧ g d e = some (.val z) ∧ (∀ F, Dp K F v z) ∧ Q v H
theorem s2_D {K : PySem.W.Frag} {g : Dt → Dt → Option OV} (hg : ∀ x y z, g x y = some z → ∃ v d, z = .val d ∧ ∀ F, Dp K F v d) : Sound2 K (rD K g) g := Sound2.pure fun H v w x y z Q e dx dy k => by
  obtain ⟨u, d, rfl, hd⟩ := hg x y z e
  exact ⟨x, y, u, d, dx, dy, e, hd, k _ _ rfl hd⟩
theorem oB_back {K : PySem.W.Frag} {b : Bool} : ∃ v d, oB b = .val d ∧ ∀ F, Dp K F v d := ⟨.bl b, _, rfl, fun _ => .bl b⟩
theorem s2_eq {K : PySem.W.Frag} : Sound2 K (rD K eqD) eqD := s2_D fun x y z e => by
  unfold eqD at e
  split at e
  · cases e
    exact oB_back
  · cases e
theorem s2_ne {K : PySem.W.Frag} : Sound2 K (rD K neD) neD := s2_D fun x y z e => by
  unfold neD at e
  split at e
  · cases e
    exact oB_back
  · cases e
theorem s2_ltD {K : PySem.W.Frag} : Sound2 K (rD K ltD) ltD := s2_D fun x y z e => by
  unfold ltD at e
  split at e
  · cases e
    exact oB_back
  · cases e
theorem s2_in {K : PySem.W.Frag} : Sound2 K (rD K inD) inD := s2_D fun x y z e => by
  unfold inD at e
  split at e
  · split at e
    · cases e
      exact oB_back
    · cases e
  · split at e
    · cases e
      exact oB_back
    · cases e
  · cases e
theorem s2_notIn {K : PySem.W.Frag} : Sound2 K (rD K notInD) notInD := s2_D fun x y z e => by
  unfold notInD at e
  split at e
  · split at e
    · cases e
      exact oB_back
    · cases e
  · split at e
    · cases e
      exact oB_back
    · cases e
  · cases e
theorem low_room {x y : Dt} {A : Around} {n : Nat} (h : lowD x y = true) (hu : A.units + 64 < cLine) (hn : n ≤ 4) : A.units + n + min x.depth y.depth < cLine := by
  have := of_decide_eq_true h
  omega
theorem bl_end {pins : List (Addr × Obj)} {σ : St} {H : Hp} {s : Shared} {Q : VK} {v : V} {b : Bool} {z : Dt} (I : Inv X pins σ H s) (hz : oB b = OV.val z) (hv : ∀ F, Dp X.K F v z) (q : Q v H) : EP X pins σ Q (.bool b) s := by
  have e : z = .bool b := by
    unfold oB at hz
    cases hz
    rfl
  subst e
  have d := hv H
  cases d
  exact ⟨.bl b, H, I, rfl, q⟩
theorem op_eqP (hu : X.A.units + 64 < cLine) : OpR X (compareOp .Eq) (rD X.K eqD) := by
  intro pins s σ H x y v u Q I rx ry h
  obtain ⟨d, e, w, z, hd, he, hz, hv, q⟩ := h
  obtain ⟨as, r1⟩ := Dp.reads I d x v hd rx
  obtain ⟨bs, r2⟩ := Dp.reads I e y u he ry
  unfold eqD at hz
  split at hz
  · rename_i hl
    have hz' := Option.some.inj hz
    refine SeqAt.eq_plain r1 r2 (Dp.plain hd) (Dp.plain he) (low_room (n := 0) hl hu (by omega)) (bl_end I hz' hv q)
  · cases hz
theorem op_neP (hu : X.A.units + 64 < cLine) : OpR X (compareOp .NotEq) (rD X.K neD) := by
  intro pins s σ H x y v u Q I rx ry h
  obtain ⟨d, e, w, z, hd, he, hz, hv, q⟩ := h
  obtain ⟨as, r1⟩ := Dp.reads I d x v hd rx
  obtain ⟨bs, r2⟩ := Dp.reads I e y u he ry
  unfold neD at hz
  split at hz
  · rename_i hl
    have hz' := Option.some.inj hz
    refine SeqAt.ne_plain r1 r2 (Dp.plain hd) (Dp.plain he) (low_room (n := 0) hl hu (by omega)) (bl_end I hz' hv q)
  · cases hz
theorem op_ltP (hu : X.A.units + 64 < cLine) : OpR X (compareOp .Lt) (rD X.K ltD) := by
  intro pins s σ H x y v u Q I rx ry h
  obtain ⟨d, e, w, z, hd, he, hz, hv, q⟩ := h
  obtain ⟨as, r1⟩ := Dp.reads I d x v hd rx
  obtain ⟨bs, r2⟩ := Dp.reads I e y u he ry
  unfold ltD at hz
  split at hz
  · rename_i hl
    rw [Bool.and_eq_true, Bool.and_eq_true] at hl
    have hz' := Option.some.inj hz
    have hn : d ≠ .none := fun q => by
      subst q
      have z := hl.1.2
      simp [isNo] at z
    exact PySem.W.rcLt_alike d e X.A s v u as bs r1 r2 hl.1.1 hn (low_room (n := 0) hl.2 hu (by omega)) X.prog X.w X.xe _ (bl_end I hz' hv q)
  · cases hz
theorem depth_list (ds : List Dt) : PyData.depthAll ds ≤ PyData.depth (.list ds) := by
  simp only [PyData.depth]
  omega
theorem depth_tuple (ds : List Dt) : PyData.depthAll ds ≤ PyData.depth (.tuple ds) := by
  simp only [PyData.depth]
  omega
theorem plain_list {ds : List Dt} (h : PyData.plain (.list ds) = true) : PyData.plainAll ds = true := by
  unfold PyData.plain at h
  exact h
theorem plain_tuple {ds : List Dt} (h : PyData.plain (.tuple ds) = true) : PyData.plainAll ds = true := by
  unfold PyData.plain at h
  exact h
theorem op_inP (hu : X.A.units + 64 < cLine) : OpR X (compareOp .In) (rD X.K inD) := by
  intro pins s σ H x y v u Q I rx ry h
  obtain ⟨d, e, w, z, hd, he, hz, hv, q⟩ := h
  obtain ⟨as, r1⟩ := Dp.reads I d x v hd rx
  obtain ⟨bs, r2⟩ := Dp.reads I e y u he ry
  unfold inD at hz
  split at hz
  · rename_i ds
    split at hz
    · rename_i hl
      have hz' := Option.some.inj hz
      have a1 := low_room (n := 1) hl hu (by omega)
      have a2 := depth_list ds
      exact SeqAt.in_list_data r2 r1 (plain_list (Dp.plain he)) (Dp.plain hd) (by omega) (bl_end I hz' hv q)
    · cases hz
  · rename_i ds
    split at hz
    · rename_i hl
      have hz' := Option.some.inj hz
      have a1 := low_room (n := 1) hl hu (by omega)
      have a2 := depth_tuple ds
      exact SeqAt.in_tuple_data r2 r1 (plain_tuple (Dp.plain he)) (Dp.plain hd) (by omega) (bl_end I hz' hv q)
    · cases hz
  · cases hz
theorem op_notInP (hu : X.A.units + 64 < cLine) : OpR X (compareOp .NotIn) (rD X.K notInD) := by
  intro pins s σ H x y v u Q I rx ry h
  obtain ⟨d, e, w, z, hd, he, hz, hv, q⟩ := h
  obtain ⟨as, r1⟩ := Dp.reads I d x v hd rx
  obtain ⟨bs, r2⟩ := Dp.reads I e y u he ry
  unfold notInD at hz
  split at hz
  · rename_i ds
    split at hz
    · rename_i hl
      have hz' := Option.some.inj hz
      have a1 := low_room (n := 1) hl hu (by omega)
      have a2 := depth_list ds
      exact SeqAt.notIn_list_data r2 r1 (plain_list (Dp.plain he)) (Dp.plain hd) (by omega) (bl_end I hz' hv q)
    · cases hz
  · rename_i ds
    split at hz
    · rename_i hl
      have hz' := Option.some.inj hz
      have a1 := low_room (n := 1) hl hu (by omega)
      have a2 := depth_tuple ds
      exact SeqAt.notIn_tuple_data r2 r1 (plain_tuple (Dp.plain he)) (Dp.plain hd) (by omega) (bl_end I hz' hv q)
    · cases hz
  · cases hz
end
end DL

namespace DL
open PySem PySem.Spec L2

/-! ### chains of comparisons -/
/-- a < b < c -/
def mChain (g1 g3 : Dt → Dt → Option OV) (f h f3 : M OV) : M OV := mB f fun x => mB h fun y => mB (mO (g2 g1 x y)) fun z => mB (mO (bl? z)) fun b => if b = true then mB f3 fun w => mO (g2 g3 y w) else mC (.bool false)
section
variable {X : Cx} {pin : Pins} {W : WX} {a b c e tg : Expr} {es : List Expr} {pos p p2 : Pos} {f g h f3 : M OV} {fa fb : M Bool} {fs : M (List OV)} {x : Str} {id T : String}
theorem chain_use {r r' : R2} {g1 g3 : Dt → Dt → Option OV} (hs : Sound2 X.K r g1) (hs' : Sound2 X.K r' g3) {σ : St} {H : Hp} {Q : VK} {env : Env} {ws : Bag} {rr : Er OV} (hR : Rl X.K pin σ env ws H) (he : mChain g1 g3 f h f3 env = some rr) (hx : Xp X.K X.mg pin W ws σ rr)
    (k : ∀ x env', rr = .ok x env' → ∀ v H', Rl X.K pin σ env' ((v, x) :: ws) H' → Q v H') : tChain r r' (dE X.K X.mg pin W f) (dE X.K X.mg pin W h) (dE X.K X.mg pin W f3) σ H Q := by
  refine dE_bind hR he hx fun x env1 v H1 R1 he1 => ?_
  refine dE_bind R1 he1 hx.drop fun y env2 w H2 R2 he2 => ?_
  rcases mB_cases he2 with ⟨z, env3, q1, q2⟩ | ⟨e, env3, q1, q2⟩
  · obtain ⟨z', e3, q3⟩ := mO_some q1
    cases q3
    obtain ⟨dx, dy, ex, ey, e4⟩ := g2_some e3
    rcases mB_cases q2 with ⟨bb, env4, q5, q6⟩ | ⟨e, env4, q5, q6⟩
    · obtain ⟨b', e5, q7⟩ := mO_some q5
      cases q7
      cases bl?_some e5
      have R3 := Rl.under (q1 := [(w, y), (v, x)]) (q2 := [(w, .val dy), (w, .val dy), (v, .val dx)]) (fun _ r => by
        have r1 := R.frz ey r
        have r2 := R.frz ex (r1.perm (.swap _ _ _))
        exact R.dup (r2.perm (.swap _ _ _))) R2
      have R4 := Rl.under (q1 := [(w, .val dy), (w, .val dy), (v, .val dx)]) (q2 := [(w, .val dy), (v, .val dx), (w, .val dy)]) (fun _ r => r.perm (.cons _ (.swap _ _ _))) R3
      obtain ⟨ps, r0, back⟩ := Rl.fix (q1 := [(w, .val dy), (v, .val dx)]) (ws := (w, .val dy) :: ws) R4
      refine hs H2 v w dx dy _ _ ps e4 r0 fun v' H' r1 => ?_
      have R5 := back H' [(v', _)] r1
      have d := Rl.dp R5
      cases d
      refine ⟨bb, rfl, ?_⟩
      cases bb with
      | false =>
        cases q6
        exact iteF (k _ _ rfl _ H' (R5.drop.drop.add fun _ => .bl _))
      | true =>
        refine iteT ?_
        have R6 := R5.drop
        rw [if_pos rfl] at q6
        refine dE_bind R6 q6 hx.drop fun w2 env5 v5 H5 R7 he5 => ?_
        obtain ⟨z2, e7, rfl⟩ := mO_some he5
        obtain ⟨dy2, dw, ey2, ew, e8⟩ := g2_some e7
        have ed : dy2 = dy := Option.some.inj (ey2.symm.trans ey)
        subst ed
        have R8 := Rl.under (q1 := [(v5, w2)]) (q2 := [(v5, .val dw)]) (ws := (w, .val dy2) :: ws) (fun _ r => R.frz ew r) R7
        obtain ⟨ps, r0, back⟩ := Rl.fix (q1 := [(v5, .val dw), (w, .val dy2)]) R8
        exact hs' H5 w v5 dy2 dw z2 Q ps e8 r0 fun v' H' r1 => k _ _ rfl v' H' (back H' [(v', z2)] r1)
    · obtain ⟨_, _, q7⟩ := mO_some q5
      cases q7
  · obtain ⟨_, _, q3⟩ := mO_some q1
    cases q3
theorem de_chain {op op' : CmpOp} {r r' : R2} {g1 g3 : Dt → Dt → Option OV} (ho : OpR X (compareOp op) r) (hs : Sound2 X.K r g1) (ho' : OpR X (compareOp op') r') (hs' : Sound2 X.K r' g3) (ha : De X pin W a f) (hb : De X pin W b h) (hc : De X pin W c f3)
    (hm : lastMarks [op, op'] [b, c] = false := by with_unfolding_all rfl) : De X pin W (.Compare a [op, op'] [b, c] pos) (mChain g1 g3 f h f3) :=
  (pe_chain ho ho' ha hb hc hm).imp fun σ H Q ⟨env, ws, rr, hR, he, hx, k⟩ => chain_use hs hs' hR he hx k
theorem db_chain {op op' : CmpOp} {r r' : R2} {g1 g3 : Dt → Dt → Option OV} (ho : OpR X (compareOp op) r) (hs : Sound2 X.K r g1) (ho' : OpR X (compareOp op') r') (hs' : Sound2 X.K r' g3) (ha : De X pin W a f) (hb : De X pin W b h) (hc : De X pin W c f3)
    (hm : lastMarks [op, op'] [b, c] = false := by with_unfolding_all rfl) : Db X pin W (.Compare a [op, op'] [b, c] pos) (mBl (mChain g1 g3 f h f3)) :=
  (pt_chain ho ho' ha hb hc hm).imp fun σ H Q q => by
    obtain ⟨env, ws, rr, hR, he, hx, k⟩ := dT_of q
    exact chain_use hs hs' hR he hx k

/-! ### x is True, x is False, whatever x is -/
def isB (b : Bool) : Dt → Bool
  | .bool c => c == b
  | _ => false
def isBD : Dt → Dt → Option OV := fun x y => match y with
  | .bool b => some (oB (isB b x))
  | _ => none
def notBD : Dt → Dt → Option OV := fun x y => match y with
  | .bool b => some (oB (!isB b x))
  | _ => none
theorem isB_val {H : Hp} {K : PySem.W.Frag} {x : V} {d : Dt} {u : Value} {b : Bool} (h : Dp K H x d) (r : RelV x u) : plainIs u (.bool b) = true ∧ (u == .bool b) = isB b d := by
  cases h with
  | non => cases r; exact ⟨rfl, rfl⟩
  | bl c => cases r; exact ⟨rfl, by cases b <;> cases c <;> rfl⟩
  | int i => obtain ⟨t, rfl⟩ := r; exact ⟨rfl, rfl⟩
  | str i => obtain ⟨t, rfl⟩ := r; exact ⟨rfl, rfl⟩
  | lst _ _ => cases r; exact ⟨rfl, rfl⟩
  | tup _ _ => cases r; exact ⟨rfl, rfl⟩
theorem op_isB : OpR X (compareOp .Is) (rD X.K isBD) := by
  intro pins s σ H x y v u Q I rx ry h
  obtain ⟨d, e, w, z, hd, he, hz, hv, q⟩ := h
  unfold isBD at hz
  split at hz
  · rename_i b
    cases he
    cases (show u = .bool b from ry)
    obtain ⟨h1, h2⟩ := isB_val (b := b) hd rx
    refine wpAny_is_plain h1 ?_
    rw [h2]
    exact bl_end I (Option.some.inj hz) hv q
  · cases hz
theorem op_notB : OpR X (compareOp .IsNot) (rD X.K notBD) := by
  intro pins s σ H x y v u Q I rx ry h
  obtain ⟨d, e, w, z, hd, he, hz, hv, q⟩ := h
  unfold notBD at hz
  split at hz
  · rename_i b
    cases he
    cases (show u = .bool b from ry)
    obtain ⟨h1, h2⟩ := isB_val (b := b) hd rx
    refine wpAny_isNot_plain h1 ?_
    rw [h2]
    exact bl_end I (Option.some.inj hz) hv q
  · cases hz
theorem s2_isB {K : PySem.W.Frag} : Sound2 K (rD K isBD) isBD := s2_D fun x y z e => by
  unfold isBD at e
  split at e
  · cases e
    exact oB_back
  · cases e
theorem s2_notB {K : PySem.W.Frag} : Sound2 K (rD K notBD) notBD := s2_D fun x y z e => by
  unfold notBD at e
  split at e
  · cases e
    exact oB_back
  · cases e

/-! ### + of ints, texts, lists, tuples -/
def rCatL (K : PySem.W.Frag) : R2 := fun x y H Q => ∃ l b xs zs, x = .ref l ∧ y = .ref b ∧ SqL K H l xs ∧ SqL K H b zs ∧ xs.length + zs.length ≤ sizeLine ∧ ∀ p, H p = none → Q (.ref p) (upd H p (.lst (xs ++ zs)))
theorem op_catL : OpR X (binaryOp .Add) (rCatL X.K) := by
  intro pins s σ H x y v u Q I rx ry h
  obtain ⟨l, b, xs, zs, rfl, rfl, hl, hb, hz, q⟩ := h
  cases rx
  cases ry
  obtain ⟨its, r1, ⟨⟨cls, dd, data, sl⟩, n, ho, hc, hdd, hd⟩, _⟩ := I.list hl
  obtain ⟨its2, r2, ⟨⟨cls2, dd2, data2, sl2⟩, n2, ho2, hc2, hdd2, hd2⟩, _⟩ := I.list hb
  simp only at hc hd hc2 hd2
  subst hc hd hc2 hd2
  have l1 := r1.length
  have l2 := r2.length
  have e : its.toArray ++ its2.toArray = (its ++ its2).toArray := by simp
  refine concat_meets ⟨_, ho, rfl⟩ ⟨_, ho2, rfl⟩ noFill_list_add seq_list_add PySem.F.slot_list_add PySem.F.entry_list_add (PySem.F.args_list_add_2 _ _) (PyProof.Rows.list_addW l b its.toArray its2.toArray n n2 dd dd2 sl sl2 (by simp only [List.size_toArray]; omega)) ⟨ho, ho2, ?_⟩
  rw [e]
  exact ⟨.ref _, _, I.lnew (t' := s.toks) (r1.append r2) (by rw [List.length_append]; omega), rfl, q _ I.fresh⟩
def addD : Dt → Dt → Option OV
  | .int i, .int j => some (oI (i + j))
  | .str x, .str y => if sz (x.length + y.length) = true then some (.val (.str (x ++ y))) else none
  | .list xs, .list ys => if sz (xs.length + ys.length) = true then some (.lst ((xs ++ ys).map .val)) else none
  | .tuple xs, .tuple ys => if sz (xs.length + ys.length) = true then some (.val (.tuple (xs ++ ys))) else none
  | _, _ => none
def rAddG (K : PySem.W.Frag) : R2 := fun x y H Q => (∃ i j, x = .int i ∧ y = .int j ∧ Q (.int (i + j)) H) ∨ (∃ i j, x = .str i ∧ y = .str j ∧ i.length + j.length ≤ sizeLine ∧ Q (.str (i ++ j)) H) ∨ rCatL K x y H Q ∨ rCatA K x y H Q
theorem op_addG : OpR X (binaryOp .Add) (rAddG X.K) := op_add.or (op_add_str.or (op_catL.or op_catA))
theorem zip_map_append (xs ys : List V) (ds es : List Dt) (h : xs.length = ds.length) : (xs ++ ys).zip ((ds ++ es).map OV.val) = xs.zip (ds.map .val) ++ ys.zip (es.map .val) := by
  rw [List.map_append]
  exact List.zip_append (by simpa using h)
theorem s2_add' {K : PySem.W.Frag} : Sound2 K (rAddG K) addD := fun H v w x y z Q ps e rr k => by
  unfold addD at e
  split at e
  · cases e
    have d1 := R.dp rr
    cases d1
    have d2 := R.dp rr.drop
    cases d2
    exact .inl ⟨_, _, rfl, rfl, k _ _ (R.add (fun _ => .int _) rr.drop.drop)⟩
  · split at e
    · rename_i hz
      cases e
      have d1 := R.dp rr
      cases d1
      have d2 := R.dp rr.drop
      cases d2
      exact .inr (.inl ⟨_, _, rfl, rfl, sz_le hz, k _ _ (R.add (fun _ => .str _) rr.drop.drop)⟩)
    · cases e
  · rename_i ds es
    split at e
    · rename_i hz
      cases e
      have d1 := R.dp rr
      cases d1 with
      | @lst b _ _ _ _ =>
        have d2 := R.dp rr.drop
        cases d2 with
        | @lst a _ _ _ _ =>
          obtain ⟨ys, hy, ly, r1⟩ := R.unlst rr
          have r2 : R K [] H (((.ref a, .val (.list ds)) :: (ys.zip (es.map .val) ++ ps))) := by
            refine R.drop (p := (.ref b, .val (.list es))) (r1.perm ?_)
            refine List.perm_middle.trans (.cons _ ?_)
            exact List.perm_middle
          obtain ⟨xs, hx, lx, r3⟩ := R.unlst r2
          have r4 : R K [] H (xs.zip (ds.map .val) ++ (ys.zip (es.map .val) ++ ps)) := R.drop (p := (.ref a, .val (.list ds))) (r3.perm List.perm_middle)
          refine .inr (.inr (.inl ⟨a, b, xs, ys, rfl, rfl, hx, hy, by rw [lx, ly]; exact sz_le hz, fun p hp => k _ _ (R.newL ?_ (by simp [lx, ly]) hp)⟩))
          rw [zip_map_append _ _ _ _ lx, List.append_assoc]
          exact r4
    · cases e
  · rename_i ds es
    split at e
    · rename_i hz
      cases e
      have d1 := R.dp rr
      cases d1 with
      | @tup b _ _ _ _ =>
        have d2 := R.dp rr.drop
        cases d2 with
        | @tup a _ _ _ _ =>
          obtain ⟨ys, hy, ly, r1⟩ := R.untup rr
          have r1' : R K [] H ((.ref a, .val (.tuple ds)) :: (ys.zip (es.map .val) ++ (.ref b, .val (.tuple es)) :: ps)) := r1.perm ((List.Perm.append_left _ (.swap _ _ _)).trans List.perm_middle)
          obtain ⟨xs, hx, lx, r3⟩ := R.untup r1'
          refine .inr (.inr (.inr ⟨a, b, xs, ys, rfl, rfl, hx, hy, by rw [lx, ly]; exact sz_le hz, fun h0 => k _ _ ?_, fun h0 h1 => k _ _ ?_, fun h0 h1 p hp => k _ _ (R.newT ?_ (by simp [lx, ly]) hp)⟩))
          · subst h0
            have : ds = [] := List.eq_nil_of_length_eq_zero (by simpa using lx.symm)
            subst this
            have r5 := r3.drop
            exact (R.dropL r5).perm (.refl _) |> fun r => by simpa using r
          · subst h1
            have : es = [] := List.eq_nil_of_length_eq_zero (by simpa using ly.symm)
            subst this
            rw [List.append_nil]
            have r5 : R K [] H ((.ref a, .val (.tuple ds)) :: (([] : List V).zip (([] : List Dt).map .val) ++ (.ref b, .val (.tuple [])) :: ps)) := R.dropL r3
            have r6 : R K [] H ((.ref a, .val (.tuple ds)) :: (.ref b, .val (.tuple [])) :: ps) := r5
            exact R.drop (r6.perm (.swap _ _ _))
          · rw [zip_map_append _ _ _ _ lx, List.append_assoc]
            have r5 : R K [] H (xs.zip (ds.map .val) ++ (ys.zip (es.map .val) ++ (.ref b, .val (.tuple es)) :: ps)) := R.drop (p := (.ref a, .val (.tuple ds))) (r3.perm List.perm_middle)
            refine R.drop (p := (.ref b, .val (.tuple es))) (r5.perm ?_)
            refine (List.Perm.append_left _ List.perm_middle).trans List.perm_middle
    · cases e
  · cases e
/-! ### slices -/
def SoundSl (K : PySem.W.Frag) (r : V → Option Int → Option Int → Hp → VK → Prop) (g : Dt → Option Int → Option Int → Option OV) : Prop := ∀ (H : Hp) (v : V) (d : Dt) (lo hi : Option Int) (z : OV) (Q : VK) (ps : Bag), g d lo hi = some z → R K [] H ((v, .val d) :: ps) →
  (∀ v' H', R K [] H' ((v', z) :: ps) → Q v' H') → r v lo hi H Q
def cutD {α : Type} (xs : List α) (lo hi : Option Int) : List α := (xs.drop (HT.sIx xs.length 0 lo)).take (HT.sIx xs.length xs.length hi - HT.sIx xs.length 0 lo)
def slD : Dt → Option Int → Option Int → Option OV
  | .list ds, lo, hi => some (.lst ((cutD ds lo hi).map .val))
  | .tuple ds, lo, hi => some (.val (.tuple (cutD ds lo hi)))
  | .str z, lo, hi => if sz z.length = true then some (.val (.str (cutS z lo hi))) else none
  | _, _, _ => none
def rSlG (K : PySem.W.Frag) : V → Option Int → Option Int → Hp → VK → Prop := fun x lo hi H Q => rSlL K x lo hi H Q ∨ rSlA K x lo hi H Q ∨ rSlS x lo hi H Q
theorem sl_G : SlR X (rSlG X.K) := sl_list.or (sl_tupA.or sl_str)
theorem cut_zip (xs : List V) (ds : List Dt) (h : xs.length = ds.length) (lo hi : Option Int) : (cutV xs lo hi).length = (cutD ds lo hi).length := by
  unfold cutV cutD
  simp [h]
theorem dpAll_cut {K : PySem.W.Frag} {F : Hp} {xs : List V} {ds : List Dt} (h : DpAll K F xs ds) (lo hi : Option Int) : DpAll K F (cutV xs lo hi) (cutD ds lo hi) := by
  unfold cutV cutD
  rw [h.length]
  exact (h.drop _).take _
theorem R.cut {K : PySem.W.Frag} {H : Hp} {xs : List V} {ds : List Dt} {ps : Bag} (l : xs.length = ds.length) (r : R K [] H (xs.zip (ds.map .val) ++ ps)) (lo hi : Option Int) : R K [] H ((cutV xs lo hi).zip ((cutD ds lo hi).map .val) ++ ps) := by
  obtain ⟨Z, nd, a, b⟩ := R.dps l r
  refine ⟨Z, nd, ?_⟩
  have lc := cut_zip xs ds l lo hi
  rw [List.map_append, List.map_append, zip_fst (by simpa using lc), zip_snd (by simpa using lc)]
  exact OwnL.append (fp := []) (OwnL.of_vals (dpAll_cut a lo hi)) b
theorem ss_G {K : PySem.W.Frag} : SoundSl K (rSlG K) slD := fun H v d lo hi z Q ps e rr k => by
  unfold slD at e
  split at e
  · rename_i ds
    cases e
    have d1 := R.dp rr
    cases d1 with
    | @lst a _ _ _ _ =>
      obtain ⟨xs, hs, l, r2⟩ := R.unlst rr
      refine .inl ⟨a, xs, rfl, hs, fun p hp => k _ _ (R.newL ?_ (by simpa using cut_zip xs ds l lo hi) hp)⟩
      exact R.cut l (R.drop (r2.perm List.perm_middle)) lo hi
  · rename_i ds
    cases e
    have d1 := R.dp rr
    cases d1 with
    | @tup a _ _ _ _ =>
      obtain ⟨xs, hs, l, r2⟩ := R.untup rr
      refine .inr (.inl ⟨a, xs, rfl, hs, fun hw => k _ _ ?_, fun hw p hp => k _ _ (R.newT ?_ (cut_zip xs ds l lo hi) hp)⟩)
      · have ec : cutD ds lo hi = ds := by
          unfold cutD
          rw [← l, hw.1, hw.2, l]
          simp
        rw [ec]
        exact rr
      · exact R.cut l (R.drop (r2.perm List.perm_middle)) lo hi
  · rename_i zz
    split at e
    · rename_i hz
      cases e
      have d1 := R.dp rr
      cases d1
      exact .inr (.inr ⟨zz, rfl, sz_le hz, k _ _ (R.add (fun _ => .str _) rr.drop)⟩)
    · cases e
  · cases e
def dO (K : PySem.W.Frag) (mg : Str → Option Value) (pin : Pins) (W : WX) (f : M (Option Int)) : TO := fun σ H Q => ∃ env ws r, Rl K pin σ env ws H ∧ f env = some r ∧ Xp K mg pin W ws σ r ∧ ∀ o env', r = .ok o env' → ∀ H', Rl K pin σ env' ws H' → Q o H'
def mNoP : M (Option Int) := mR none
def mP (f : M OV) : M (Option Int) := mB f fun x => mO (match x with
  | .val (.int i) => some (some i)
  | _ => none)
theorem do_none : PO X none (dO X.K X.mg pin W mNoP) := ⟨fun pins s σ H Q I ⟨env, ws, r, hR, he, hx, k⟩ => po_none.run pins s σ H Q I (by cases he; exact k _ _ rfl H hR)⟩
theorem do_some (h : De X pin W e f) : PO X (some e) (dO X.K X.mg pin W (mP f)) := ⟨fun pins s σ H Q I ⟨env, ws, r, hR, he, hx, k⟩ => (po_some h).run pins s σ H Q I (by
  refine dE_bind hR he hx fun x env1 v H1 R1 he1 => ?_
  obtain ⟨z, e3, rfl⟩ := mO_some he1
  split at e3
  · cases e3
    have d := R1.dp
    cases d
    exact ⟨_, rfl, k _ _ rfl H1 R1.drop⟩
  · cases e3)⟩
theorem dO_bind {K : PySem.W.Frag} {mg : Str → Option Value} {ws : Bag} {σ : St} {H : Hp} {env : Env} {β : Type} {f : M (Option Int)} {g : Option Int → M β} {r : Er β} {P : Option Int → Hp → Prop} (hR : Rl K pin σ env ws H) (he : mB f g env = some r) (hx : Xp K mg pin W ws σ r)
    (k : ∀ b env1 H1, Rl K pin σ env1 ws H1 → g b env1 = some r → P b H1) : dO K mg pin W f σ H P := by
  rcases mB_cases he with ⟨x, env1, e1, e2⟩ | ⟨e, env1, e1, e2⟩
  · exact ⟨env, ws, _, hR, e1, .ok, fun x' env' q H1 R1 => by cases q; exact k _ _ H1 R1 e2⟩
  · exact ⟨env, ws, _, hR, e1, hx.of e2, fun x' env' q => nomatch q⟩
def mSl (f : M OV) (lo hi : M (Option Int)) : M OV := mB f fun x => mB lo fun l => mB hi fun u => mO (x.frz.bind fun d => slD d l u)
theorem de_slice {lo hi : Option Expr} {fl fh : M (Option Int)} (ha : De X pin W a f) (hl : PO X lo (dO X.K X.mg pin W fl)) (hh : PO X hi (dO X.K X.mg pin W fh)) : De X pin W (.Subscript a (.Slice lo hi none p2) pos) (mSl f fl fh) :=
  (pe_slice sl_G ha hl hh).imp fun σ H Q ⟨env, ws, rr, hR, he, hx, k⟩ => by
    refine dE_bind hR he hx fun x env1 v H1 R1 he1 => ?_
    refine dO_bind R1 he1 hx.drop fun l env2 H2 R2 he2 => ?_
    refine dO_bind R2 he2 hx.drop fun u env3 H3 R3 he3 => ?_
    obtain ⟨z, e3, rfl⟩ := mO_some he3
    cases q : x.frz with
    | none => simp [q] at e3
    | some d =>
      simp [q] at e3
      have R4 := Rl.under (q1 := [(v, x)]) (q2 := [(v, .val d)]) (fun _ r => R.frz q r) R3
      obtain ⟨ps, r0, back⟩ := Rl.fix (q1 := [(v, .val d)]) R4
      exact ss_G H3 v d l u z Q ps e3 r0 fun v' H' r1 => k _ _ rfl v' H' (back H' [(v', z)] r1)

/-! ### truth -/
def truD : Dt → Option Bool
  | .none => some false
  | .bool b => some b
  | .int i => some (i != 0)
  | .str y => if sz y.length = true then some ((y.length : Int) != 0) else none
  | .list xs => some (!xs.isEmpty)
  | .tuple xs => some (!xs.isEmpty)
  | .dict _ => none
theorem truD_ok {K : PySem.W.Frag} {H : Hp} {v : V} {d : Dt} {b : Bool} (h : Dp K H v d) (e : truD d = some b) : TruV K v H b := by
  cases h with
  | non => cases e; exact rfl
  | bl _ => cases e; exact rfl
  | int _ => cases e; exact rfl
  | str y =>
    have e' : (if sz y.length = true then some ((y.length : Int) != 0) else none) = some b := e
    split at e'
    · rename_i hz
      cases e'
      exact ⟨sz_le hz, rfl⟩
    · cases e'
  | lst hs ha =>
    cases e
    refine .inl ⟨_, hs, ?_⟩
    cases ha <;> rfl
  | tup hs ha =>
    cases e
    refine .inr (.inl ⟨_, hs, ?_⟩)
    cases ha <;> rfl
def mTru (f : M OV) : M Bool := mB f fun x => mO (x.frz.bind truD)
theorem db_tru (h : De X pin W e f) (he : ∀ whole, isTrue e X.env whole = (do let v ← whole; standAt e.pos; holding [v] (truthy v)) := by intro _; rfl) : Db X pin W e (mTru f) := (pt_truth h he).imp fun σ H Q ⟨env, ws, rr, hR, he, hx, k⟩ => by
  refine dE_bind hR he hx fun x env1 v H1 R1 he1 => ?_
  obtain ⟨b, e3, rfl⟩ := mO_some he1
  cases q : x.frz with
  | none => simp [q] at e3
  | some d =>
    simp [q] at e3
    have R2 := Rl.under (q1 := [(v, x)]) (q2 := [(v, .val d)]) (fun _ r => R.frz q r) R1
    exact ⟨b, truD_ok R2.dp e3, k _ _ rfl H1 R2.drop⟩
end
end DL

namespace DL
open PySem PySem.Spec L2

/-! ### an owned list in a slot -/
section
variable {K : PySem.W.Frag} {mg : Str → Option Value} {pin : Pins} {W : WX} {ws qs : Bag} {σ : St} {H : Hp} {env : Env} {v : V} {x : OV} {i : Nat}
theorem Rl.slot (e : env[i]? = some (some x)) (r : Rl K pin σ env ws H) : ∃ v, σ[i]? = some (some v) := by
  obtain ⟨v, h, _⟩ := r.take e
  exact ⟨v, h⟩
theorem set_self {α : Type} : ∀ {l : List α} {i : Nat} {x : α}, l[i]? = some x → l.set i x = l
  | [], _, _, h => by simp at h
  | a :: l, 0, x, h => by
    simp at h
    subst h
    rfl
  | a :: l, i + 1, x, h => by
    simp at h
    simp [set_self h]
/-- a look at the list: its object, its items; and a way back, changed -/
theorem Rl.own {xs : List OV} {q1 : Bag} (e : env[i]? = some (some (.lst xs))) (r : Rl K pin σ env (q1 ++ ws) H) : ∃ a vs, σ[i]? = some (some (.ref a)) ∧ H a = some (.lst vs) ∧ vs.length = xs.length ∧
    ∃ ps, R K [a] H (vs.zip xs ++ (q1 ++ ps)) ∧ (∀ us ys qs, us.length = ys.length → R K [a] H (us.zip ys ++ (qs ++ ps)) → Rl K pin σ (env.set i (some (.lst ys))) (qs ++ ws) (upd H a (.lst us))) := by
  obtain ⟨v, e1, R1⟩ := r.take e
  obtain ⟨⟨bag, sl, rr⟩, pn⟩ := R1
  have r2 : R K [] H ((v, .lst xs) :: (bag ++ (q1 ++ ws))) := rr.perm List.perm_middle
  obtain ⟨a, vs, rfl, h1, l, r3⟩ := R.open r2
  have sw : ∀ (A B C : Bag), (A ++ (B ++ C)).Perm (B ++ (A ++ C)) := fun A B C => by
    rw [← List.append_assoc, ← List.append_assoc]
    exact List.Perm.append_right _ List.perm_append_comm
  refine ⟨a, vs, e1, h1, l, bag ++ ws, r3.perm (List.Perm.append_left _ (sw _ _ _)), fun us ys qs lu r4 => ?_⟩
  have r5 := R.close r4 lu
  have R5 : Rl K pin σ (env.set i none) ((.ref a, .lst ys) :: (qs ++ ws)) (upd H a (.lst us)) := by
    refine ⟨⟨bag, sl, r5.perm ?_⟩, pn⟩
    exact (List.Perm.cons _ (sw _ _ _)).trans List.perm_middle.symm
  have R6 := Rl.back e1 R5
  rw [List.set_set] at R6
  exact R6
theorem upd_self {H : Hp} {a : Addr} {o : HO} (h : H a = some o) : upd H a o = H := by
  funext b
  by_cases hb : b = a
  · subst hb
    rw [upd_same, h]
  · rw [upd_ne hb]
end
section
variable {X : Cx} {pin : Pins} {W : WX} {a b c e tg : Expr} {es : List Expr} {pos p p2 apos cpos : Pos} {f g h : M OV} {fa fb : M Bool} {fs : M (List OV)} {x : Str} {id T : String} {i : Nat}
/-- xs[j] of an owned list: a copy of a frozen item -/
def mIxO (i : Nat) (f : M OV) : M OV := fun env => match env[i]? with
  | some (some (.lst _)) => mB f (fun y env1 => match env1[i]?, y with
    | some (some (.lst xs)), .val (.int j) => match atI xs j with
      | some (.val d) => some (.ok (.val d) env1)
      | _ => none
    | _, _ => none) env
  | _ => none
theorem R.copy {K : PySem.W.Frag} {A : List Addr} {H : Hp} {ps : Bag} : ∀ {vs : List V} {xs : List OV} {j : Nat} {d : Dt}, vs.length = xs.length → xs[j]? = some (.val d) → R K A H (vs.zip xs ++ ps) → ∃ w, vs[j]? = some w ∧ R K A H ((w, .val d) :: (vs.zip xs ++ ps))
  | [], [], j, d, _, e, _ => by simp at e
  | [], _ :: _, _, _, l, _, _ => by simp at l
  | _ :: _, [], _, _, l, _, _ => by simp at l
  | v :: vs, x :: xs, 0, d, l, e, r => by
    simp at e
    subst e
    exact ⟨v, rfl, R.dup r⟩
  | v :: vs, x :: xs, j + 1, d, l, e, r => by
    have r1 : R K A H (vs.zip xs ++ ((v, x) :: ps)) := R.unfront r
    obtain ⟨w, e1, r2⟩ := R.copy (vs := vs) (xs := xs) (by simpa using l) (by simpa using e) r1
    exact ⟨w, by simpa using e1, r2.perm (.cons _ List.perm_middle)⟩
theorem de_ixO (ha : PE X a (tVar i)) (hb : De X pin W b f) (hs : PlainIx b := by intro _ _; rfl) : De X pin W (.Subscript a b pos) (mIxO i f) :=
  (pe_ix ix_list ha hb hs).imp fun σ H Q ⟨env, ws, rr, hR, he, hx, k⟩ => by
    unfold mIxO at he
    split at he
    · rename_i xs0 q0
      obtain ⟨v0, e0⟩ := hR.slot q0
      refine ⟨v0, e0, ?_⟩
      refine dE_bind hR he hx fun y env1 w H1 R1 he1 => ?_
      split at he1
      · rename_i xs j q1
        split at he1
        · rename_i d q2
          cases he1
          obtain ⟨a, vs, e1, h1, l, ps, r1, put⟩ := Rl.own (q1 := [(w, .val (.int j))]) (ws := ws) q1 R1
          have ev : v0 = .ref a := Option.some.inj (Option.some.inj (e0.symm.trans e1))
          subst ev
          have dw := R1.dp
          cases dw
          obtain ⟨m, e2, e3⟩ := atI_some q2
          obtain ⟨u, e4, r2⟩ := R.copy l e3 r1
          refine ⟨a, vs, j, u, rfl, rfl, SqL.of h1, atI_of e2 l e4, ?_⟩
          have R4 := put vs xs [(u, .val d)] l (by
            have r5 : R X.K [a] H1 (vs.zip xs ++ ((u, .val d) :: (V.int j, .val (.int j)) :: ps)) := R.unfront r2
            have r6 := r5.perm (qs := (V.int j, OV.val (.int j)) :: (vs.zip xs ++ ((u, .val d) :: ps))) ((List.Perm.append_left _ (.swap _ _ _)).trans List.perm_middle)
            exact r6.drop)
          rw [upd_self h1, set_self q1] at R4
          exact k _ _ rfl u H1 R4
        · cases he1
      · cases he1
    · cases he
/-- len(xs) of an owned list -/
def mLenO (i : Nat) : M OV := fun env => match env[i]? with
  | some (some (.lst xs)) => some (.ok (oI xs.length) env)
  | _ => none
theorem de_lenO (hm : X.mg "len" = none) (ha : PE X a (tVar i)) (hg : Gl X "len" := by rfl) (hs : starEach (a :: []) X.env = (false, eval a X.env) :: starEach [] X.env := by rfl) (hpl : (backTo pos (starEach [] X.env)).any (·.1) = false := by rfl) :
    De X pin W (.Call (.Name "len" p) [a] [] pos) (mLenO i) := (pe_callB call_len hg hm (by decide +kernel) (pa_cons ha pa_nil hs) (by decide) (by decide) hs hpl).imp fun σ H Q ⟨env, ws, rr, hR, he, hx, k⟩ => by
  unfold mLenO at he
  split at he
  · rename_i xs q
    cases he
    obtain ⟨a, vs, e1, h1, l, ps, r1, put⟩ := Rl.own (q1 := []) q hR
    exact ⟨.ref a, e1, .ref a, vs.length, rfl, .inl ⟨vs, SqL.of h1, rfl⟩, by rw [l]; exact k _ _ rfl _ _ (hR.add fun _ => .int _)⟩
  · cases he
/-- if xs: of an owned list -/
def mTruO (i : Nat) : M Bool := fun env => match env[i]? with
  | some (some (.lst xs)) => some (.ok (!xs.isEmpty) env)
  | _ => none
theorem db_truO (h : PE X e (tVar i)) (he : ∀ whole, isTrue e X.env whole = (do let v ← whole; standAt e.pos; holding [v] (truthy v)) := by intro _; rfl) : Db X pin W e (mTruO i) := (pt_truth h he).imp fun σ H Q ⟨env, ws, rr, hR, he, hx, k⟩ => by
  unfold mTruO at he
  split at he
  · rename_i xs q
    cases he
    obtain ⟨a, vs, e1, h1, l, ps, r1, put⟩ := Rl.own (q1 := []) q hR
    refine ⟨.ref a, e1, _, .inl ⟨vs, SqL.of h1, rfl⟩, ?_⟩
    have : (!vs.isEmpty) = !xs.isEmpty := by
      cases vs <;> cases xs <;> first | rfl | simp at l
    rw [this]
    exact k _ _ rfl H hR
  · cases he
/-- xs.append(e) -/
def mApp (i : Nat) (f : M OV) : M OV := fun env => match env[i]? with
  | some (some (.lst _)) => mB f (fun y env1 => match env1[i]? with
    | some (some (.lst xs)) => if sz (xs.length + 1) = true then some (.ok (.val .none) (env1.set i (some (.lst (xs ++ [y]))))) else none
    | _ => none) env
  | _ => none
theorem zip_snoc : ∀ {vs : List V} {xs : List OV} (w : V) (y : OV), vs.length = xs.length → (vs ++ [w]).zip (xs ++ [y]) = vs.zip xs ++ [(w, y)] := fun w y l => List.zip_append l
theorem de_app (ha : PE X a (tVar i)) (hb : De X pin W b f) (hbase : attributeBase a "append" X.env (eval a X.env) = eval a X.env := by rfl)
    (hfew : ((backTo cpos (starEach (b :: []) X.env)).all (fun x => !x.1) && (backToKw cpos (keywordEach [] X.env)).all (fun x => x.1.isSome)
      && decide ((b :: []).length + ([] : List Keyword).length + (if ([] : List Keyword).isEmpty then 0 else 1) < 30)) = true := by rfl)
    (hline : (apos.endLine == cpos.line) = true := by rfl) (hs : starEach (b :: []) X.env = (false, eval b X.env) :: starEach [] X.env := by rfl) (hplain : (backTo cpos (starEach [] X.env)).any (·.1) = false := by rfl) :
    De X pin W (.Call (.Attribute a "append" apos) [b] [] cpos) (mApp i f) :=
  (pe_bm PySem.F.plainAttrs_list PySem.F.slot_list_append PySem.F.type_list_append mt_append ha (pa_cons hb pa_nil hs) hbase hfew hline hs hplain).imp fun σ H Q ⟨env, ws, rr, hR, he, hx, k⟩ => by
    unfold mApp at he
    split at he
    · rename_i xs0 q0
      obtain ⟨a0, vs0, e0, h0, _⟩ := Rl.own (q1 := []) q0 hR
      refine ⟨.ref a0, e0, .inl ⟨rfl, _, SqL.of h0⟩, ?_⟩
      refine dE_bind hR he hx fun y env1 w H1 R1 he1 => ?_
      split at he1
      · rename_i xs q1
        split at he1
        · rename_i hz
          cases he1
          obtain ⟨a, vs, e1, h1, l, ps, r1, put⟩ := Rl.own (q1 := [(w, y)]) (ws := ws) q1 R1
          have ev : (V.ref a0) = .ref a := Option.some.inj (Option.some.inj (e0.symm.trans e1))
          cases ev
          refine ⟨a0, vs, w, rfl, rfl, h1, ?_, ?_⟩
          · have := sz_le hz
            omega
          · refine k _ _ rfl .non _ (Rl.add (fun _ => .non) ?_)
            refine put (vs ++ [w]) (xs ++ [y]) [] (by simp [l]) ?_
            rw [zip_snoc w y l, List.append_assoc]
            exact r1
        · cases he1
      · cases he1
    · cases he
/-- xs[j] = e -/
def sSetIx (i : Nat) (fi f : M OV) : MS := sB f fun y env0 => match env0[i]? with
  | some (some (.lst _)) => sB fi (fun z env1 => match env1[i]?, z with
    | some (some (.lst xs)), .val (.int k) => match ixN xs.length k with
      | some j => some (.nx (env1.set i (some (.lst (xs.set j y)))))
      | none => none
    | _, _ => none) env0
  | _ => none
theorem zip_set : ∀ {vs : List V} {xs : List OV} {j : Nat} (w : V) (y : OV) (ps : Bag) {K : PySem.W.Frag} {A : List Addr} {H : Hp}, vs.length = xs.length → R K A H (vs.zip xs ++ ((w, y) :: ps)) → R K A H ((vs.set j w).zip (xs.set j y) ++ ps)
  | [], [], j, w, y, ps, K, A, H, _, r => R.drop (by simpa using r)
  | [], _ :: _, _, _, _, _, _, _, _, l, _ => by simp at l
  | _ :: _, [], _, _, _, _, _, _, _, l, _ => by simp at l
  | v :: vs, x :: xs, 0, w, y, ps, K, A, H, l, r => by
    have r1 : R K A H ((v, x) :: (w, y) :: (vs.zip xs ++ ps)) := r.perm (.cons _ List.perm_middle)
    exact r1.drop
  | v :: vs, x :: xs, j + 1, w, y, ps, K, A, H, l, r => by
    have r1 : R K A H (vs.zip xs ++ ((w, y) :: (v, x) :: ps)) := by
      have r0 : R K A H ((v, x) :: (vs.zip xs ++ ((w, y) :: ps))) := r
      refine r0.perm (List.perm_middle.symm.trans ?_)
      exact List.Perm.append_left _ (.swap _ _ _)
    have r2 := zip_set (vs := vs) (xs := xs) (j := j) w y ((v, x) :: ps) (by simpa using l) r1
    exact r2.perm List.perm_middle
theorem sB_use {K : PySem.W.Frag} {mg : Str → Option Value} {ws : Bag} {σ : St} {H : Hp} {env : Env} {D : Ends} {r : Sr} {g : OV → MS} {P : VK} (hR : Rl K pin σ env ws H) (he : sB f g env = some r) (hx : ∀ e env', r = .ex e env' → ∀ cls d H', ExIs K mg e cls d H' → Rl K pin σ env' ws H' → W cls d σ H')
    (k : ∀ x env1 v H1, Rl K pin σ env1 ((v, x) :: ws) H1 → g x env1 = some r → P v H1) : dE K mg pin W f σ H P := by
  rcases sB_cases he with ⟨x, env1, e1, e2⟩ | ⟨e, env1, e1, e2⟩
  · exact ⟨env, ws, _, hR, e1, .ok, fun x' env' q v H1 R1 => by cases q; exact k _ _ v H1 R1 e2⟩
  · exact ⟨env, ws, _, hR, e1, fun e' env' q => by cases q; exact hx _ _ e2, fun x' env' q => nomatch q⟩
theorem ds_setIx (ha : PE X a (tVar i)) (hb : De X pin W b g) (he : De X pin W e f) (hass : ∀ v, assign (.Subscript a b p) X.env v = (do
      let ov ← holding [v] (eval a X.env)
      let iv ← holding [v, ov] (eval b X.env)
      standAt p
      holding [v, ov, iv] (setItem ov iv v)
      release [v, ov, iv] []) := by intro _; rfl) (hs : swapsWithSole [.Subscript a b p] e pos.line X.env = pure false := by rfl) (hw : swappedStores [.Subscript a b p] e X.env = pure none := by rfl)
    (h1 : (assignEach [.Subscript a b p] X.env).map (·.2) = [assign (.Subscript a b p) X.env] := by rfl) : Ds X pin W (.Assign [.Subscript a b p] e pos) (sSetIx i g f) :=
  (ps_asg he (pg_sub ha hb set_list hass) hs hw h1).imp fun D σ H ⟨env, ws, rr, hR, hee, hp⟩ => by
    have hx : ∀ ee env', rr = .ex ee env' → ∀ cls d H', ExIs X.K X.mg ee cls d H' → Rl X.K pin σ env' ws H' → W cls d σ H' := fun ee env' q cls d H' ie R' => hp.ex _ _ q cls d σ H' ie R'
    refine sB_use (D := D) hR hee hx fun y env0 w H1 R1 he1 => ?_
    split at he1
    · rename_i xs0 q0
      obtain ⟨v0, e0⟩ := R1.slot q0
      refine ⟨v0, e0, ?_⟩
      refine sB_use (D := D) R1 he1 (fun ee env' q cls d H' ie R' => hx ee env' q cls d H' ie R'.drop) fun z env1 w2 H2 R2 he2 => ?_
      split at he2
      · rename_i xs kk q1
        split at he2
        · rename_i j q2
          cases he2
          have dw := R2.dp
          cases dw
          obtain ⟨a1, vs, e1, h1, l, ps, r1, put⟩ := Rl.own (q1 := [(V.int kk, .val (.int kk)), (w, y)]) (ws := ws) q1 R2
          have ev : v0 = .ref a1 := Option.some.inj (Option.some.inj (e0.symm.trans e1))
          subst ev
          refine ⟨a1, vs, kk, j, rfl, rfl, h1, by rw [l]; exact q2, ?_⟩
          refine hp.nx _ rfl σ _ (put (vs.set j w) (xs.set j y) [] (by simp [l]) ?_)
          refine zip_set w y ps l ?_
          have r2 : R X.K [a1] H2 (vs.zip xs ++ ((V.int kk, .val (.int kk)) :: (w, y) :: ps)) := r1
          exact (r2.perm List.perm_middle).drop
        · cases he2
      · cases he2
    · cases he1
end
/-! ### comprehensions -/
/-- the slots of the block's names: out of the way, and back -/
def restoreE (env0 : Env) : List Nat → Env → Env
  | [], env => env
  | i :: is, env => restoreE env0 is (env.set i (((wipeE env0 is)[i]?).join))
theorem wipeE_length (env : Env) : ∀ is : List Nat, (wipeE env is).length = env.length
  | [] => rfl
  | i :: is => by unfold wipeE; rw [List.length_set, wipeE_length env is]
section
variable {K : PySem.W.Frag} {mg : Str → Option Value} {pin : Pins} {W : WX} {H : Hp} {ws : Bag}
theorem Rl.stash {σ : St} {env : Env} : ∀ (is : List Nat) {ws : Bag} {H : Hp}, (∀ i ∈ is, pinOk pin i = true) → Rl K pin σ env ws H → ∃ qs, Rl K pin (wipe σ is) (wipeE env is) (qs ++ ws) H ∧
    ∀ env' ws' H', env'.length = env.length → Rl K pin (wipe σ is) env' (qs ++ ws') H' → Rl K pin σ (restoreE env is env') ws' H'
  | [], ws, H, _, r => ⟨[], r, fun env' ws' H' _ r => r⟩
  | i :: is, ws, H, hp, r => by
    obtain ⟨qs, r1, back⟩ := Rl.stash is (fun j hj => hp j (List.mem_cons_of_mem _ hj)) r
    have np := pinOk_not (hp i List.mem_cons_self)
    have pnk : ∀ {o : Option V} {τ : St}, (∀ p ∈ pin, τ[p.1]? = some (some p.2)) → ∀ p ∈ pin, (τ.set i o)[p.1]? = some (some p.2) := fun {o τ} h p hp' => by
      rw [List.getElem?_set_ne]
      · exact h p hp'
      · rintro rfl
        exact np (List.mem_map.mpr ⟨p, hp', rfl⟩)
    have el : (wipeE env is).length = env.length := wipeE_length env is
    unfold wipe wipeE
    cases q : (wipeE env is)[i]? with
    | none =>
      have hi : (wipeE env is).length ≤ i := List.getElem?_eq_none_iff.mp q
      have hl := r1.len
      have e1 : (wipe σ is).set i none = wipe σ is := List.set_eq_of_length_le (by omega)
      have e2 : (wipeE env is).set i none = wipeE env is := List.set_eq_of_length_le hi
      rw [e1, e2]
      refine ⟨qs, r1, fun env' ws' H' le r2 => ?_⟩
      unfold restoreE
      rw [List.set_eq_of_length_le (by omega)]
      exact back env' ws' H' le r2
    | some o =>
      cases o with
      | none =>
        refine ⟨qs, r1.forget i none np |> fun z => z, fun env' ws' H' le r2 => ?_⟩
        unfold restoreE
        rw [q]
        have r3 := r2.forget i ((wipe σ is)[i]?.join) np
        have e1 : ((wipe σ is).set i none).set i ((wipe σ is)[i]?.join) = wipe σ is := by
          rw [List.set_set]
          cases q2 : (wipe σ is)[i]? with
          | none => exact List.set_eq_of_length_le (List.getElem?_eq_none_iff.mp q2)
          | some o => exact set_self q2
        rw [e1] at r3
        exact back _ ws' H' (by simp [le]) r3
      | some x =>
        obtain ⟨v, e1, r2⟩ := r1.take q
        have r3 := r2.forget i none np
        rw [List.set_set] at r3
        refine ⟨(v, x) :: qs, r3, fun env' ws' H' le r4 => ?_⟩
        unfold restoreE
        rw [q]
        have hi : i < (wipe σ is).length := (List.getElem?_eq_some_iff.mp e1).1
        have r5 := Rl.put (i := i) (by simpa using hi) np r4
        have e2 : ((wipe σ is).set i none).set i (some v) = wipe σ is := by
          rw [List.set_set]
          exact set_self e1
        rw [e2] at r5
        exact back _ ws' H' (by simp [le]) r5
theorem wipe_idem_get {σ : St} : ∀ {is : List Nat} {j : Nat}, j ∈ is → j < σ.length → (wipe σ is)[j]? = some none
  | [], _, h, _ => by cases h
  | i :: is, j, h, hl => by
    unfold wipe
    by_cases e : j = i
    · subst e
      rw [List.getElem?_set_self (by rw [wipe_length]; exact hl)]
    · rw [List.getElem?_set_ne (Ne.symm e)]
      rcases List.mem_cons.mp h with h | h
      · exact absurd h e
      · exact wipe_idem_get h hl
theorem wipe_out_get {σ : St} : ∀ {is : List Nat} {j : Nat}, j ∉ is → (wipe σ is)[j]? = σ[j]?
  | [], _, _ => rfl
  | i :: is, j, h => by
    rw [List.mem_cons, not_or] at h
    unfold wipe
    rw [List.getElem?_set_ne (Ne.symm h.1)]
    exact wipe_out_get h.2
theorem wipe_same {σ σ' : St} {is js : List Nat} (h : SameSt js (wipe σ is) σ') (hs : ∀ j ∈ js, j ∈ is) : wipe σ' is = wipe σ is := by
  have l : σ'.length = σ.length := by rw [h.1, wipe_length]
  refine List.ext_getElem? fun j => ?_
  by_cases hj : j ∈ is
  · by_cases hl : j < σ.length
    · rw [wipe_idem_get hj hl, wipe_idem_get hj (by omega)]
    · rw [List.getElem?_eq_none (by rw [wipe_length]; omega), List.getElem?_eq_none (by rw [wipe_length]; omega)]
  · rw [wipe_out_get hj, wipe_out_get hj, h.2 j (fun q => hj (hs j q)), wipe_out_get hj]
/-- the slots forgotten in place -/
theorem Rl.wipeE {σ : St} {env : Env} : ∀ (is : List Nat) {ws : Bag} {H : Hp}, (∀ i ∈ is, pinOk pin i = true) → Rl K pin σ env ws H → Rl K pin (wipe σ is) (wipeE env is) ws H
  | [], _, _, _, r => r
  | i :: is, ws, H, hp, r => (Rl.wipeE is (fun j hj => hp j (List.mem_cons_of_mem _ hj)) r).forget i none (pinOk_not (hp i List.mem_cons_self))
theorem R.push {K : PySem.W.Frag} {H : Hp} {D : V} {xs : List OV} {w : V} {y : OV} {ps : Bag} (r : R K [] H ((D, .lst xs) :: (w, y) :: ps)) : ∃ a vs, D = .ref a ∧ H a = some (.lst vs) ∧ vs.length = xs.length ∧ R K [] (upd H a (.lst (vs ++ [w]))) ((.ref a, .lst (xs ++ [y])) :: ps) := by
  obtain ⟨a, vs, rfl, h, l, r1⟩ := R.open r
  refine ⟨a, vs, rfl, h, l, R.close ?_ (by simp [l])⟩
  rw [zip_snoc w y l, List.append_assoc]
  exact r1
end
/-- the turns of a comprehension -/
def lcLoop (vs : List Nat) (g : Dt → Env → Option Env) (c : M Bool) (elt : M OV) : List Dt → List OV → Env → Option (List OV × Env)
  | [], acc, env => some (acc, env)
  | d :: ds, acc, env => (g d env).bind fun env1 => match c env1 with
    | some (.ok true env2) => match elt env2 with
      | some (.ok y env3) => if sz (acc.length + 1) = true then lcLoop vs g c elt ds (acc ++ [y]) (wipeE env3 vs) else none
      | _ => none
    | some (.ok false env2) => lcLoop vs g c elt ds acc (wipeE env2 vs)
    | _ => none
def mLc (vs : List Nat) (its : M (List Dt)) (g : Dt → Env → Option Env) (c : M Bool) (elt : M OV) : M OV := mB its fun ds env => match lcLoop vs g c elt ds [] (wipeE env vs) with
  | some (acc, env2) => if env2.length = env.length then some (.ok (.lst acc) (restoreE env vs env2)) else none
  | none => none
abbrev wF : WX := fun _ _ _ _ => False
section
variable {X : Cx} {pin : Pins} {W : WX} {a b c e tg it elt : Expr} {es ifs : List Expr} {pos p p2 apos cpos : Pos} {f g h : M OV} {fa fb : M Bool} {fs : M (List OV)}
theorem dpts_nil : PTs X [] (dT X.K X.mg pin W (mR true)) := ⟨fun pins s σ H Q I ⟨env, ws, r, hR, he, hx, k⟩ => pts_nil.run pins s σ H Q I (by cases he; exact k _ _ rfl H hR)⟩
theorem dpts_one (h : Db X pin W c fa) : PTs X [c] (dT X.K X.mg pin W fa) := pts_one h
/-- the turns of one loop of a comprehension -/
theorem turns {vs is : List Nat} {gt : Dt → Env → Option Env} {σ : St} {ds : List Dt} {J : It} {src : V × OV} {D : Addr} {rest : Bag} {acc0 acc : List OV} {env0 env2 : Env} {H0 : Hp} {Fin : Hp → Prop} (hp : ∀ i ∈ vs, pinOk pin i = true) (hs : ∀ i ∈ is, i ∈ vs) (wk : WalkD X.K src ds J)
    (R0 : Rl X.K pin (wipe σ vs) env0 ((.ref D, .lst acc0) :: src :: rest) H0) (e3 : lcLoop vs gt fa f ds acc0 env0 = some (acc, env2)) (fin : ∀ H, Rl X.K pin (wipe σ vs) env2 ((.ref D, .lst acc) :: src :: rest) H → Fin H) :
    ∃ W : Nat → Nat → Hp → Prop, (∃ m, W 0 m H0) ∧ ∀ i m H, W i m H →
      (J.stop i H ∧ Fin H) ∨ (J.go i H ∧ ∃ Nx : Hp → Prop, (∀ H', Nx H' → ∃ m', m' < m ∧ W (i + 1) m' H') ∧ ∀ x H', J.yld i H x H' → dG X.K pin is gt x (wipe σ vs) H' fun σ2 H2 => wipe σ2 vs = wipe σ vs ∧ dT X.K X.mg pin wF fa σ2 H2 fun b H3 =>
        if b = true then dE X.K X.mg pin wF f σ2 H3 fun y H4 => ∃ acc, H4 D = some (.lst acc) ∧ acc.length < sizeLine ∧ Nx (upd H4 D (.lst (acc ++ [y]))) else Nx H3) := by
  refine ⟨fun i m H' => i ≤ ds.length ∧ m = ds.length - i ∧ ∃ env' acc', Rl X.K pin (wipe σ vs) env' ((.ref D, .lst acc') :: src :: rest) H' ∧ lcLoop vs gt fa f (ds.drop i) acc' env' = some (acc, env2), ⟨ds.length, Nat.zero_le _, rfl, env0, acc0, R0, by simpa using e3⟩, ?_⟩
  rintro i m H2 ⟨hi, rfl, env3, acc3, R3, e4⟩
  obtain ⟨ps, rr⟩ := Rl.get (q1 := [(.ref D, .lst acc3), src]) R3
  have rr' : R X.K [] H2 (src :: (.ref D, .lst acc3) :: ps) := rr.perm (.swap _ _ _)
  by_cases hlt : i < ds.length
  · refine .inr ⟨wk.go i H2 _ hlt rr', fun H' => ∃ env' acc', Rl X.K pin (wipe σ vs) env' ((.ref D, .lst acc') :: src :: rest) H' ∧ lcLoop vs gt fa f (ds.drop (i + 1)) acc' env' = some (acc, env2), fun H' h => ⟨ds.length - (i + 1), by omega, hlt, rfl, h⟩, fun x H3 y => ?_⟩
    have ed : ds[i]? = some ds[i] := List.getElem?_eq_getElem hlt
    have R4 := Rl.under (q1 := [(V.ref D, OV.lst acc3), src]) (q2 := [(x, .val ds[i]), (.ref D, .lst acc3), src]) (fun ps r => by
      have r1 := wk.yld i H2 x H3 _ y ed _ (r.perm (.swap _ _ _))
      exact r1.perm (.cons _ (.swap _ _ _))) R3
    rw [List.drop_eq_getElem_cons hlt] at e4
    unfold lcLoop at e4
    cases q1 : gt ds[i] env3 with
    | none => rw [q1] at e4; cases e4
    | some env4 =>
      rw [q1] at e4
      refine ⟨env3, (.ref D, .lst acc3) :: src :: rest, ds[i], env4, R4, q1, fun σ5 H5 ss R5 => ⟨wipe_same ss hs, ?_⟩⟩
      have e5 : (match fa env4 with
        | some (.ok true env2) => match f env2 with
          | some (.ok y env3) => if sz (acc3.length + 1) = true then lcLoop vs gt fa f (ds.drop (i + 1)) (acc3 ++ [y]) (wipeE env3 vs) else none
          | _ => none
        | some (.ok false env2) => lcLoop vs gt fa f (ds.drop (i + 1)) acc3 (wipeE env2 vs)
        | _ => none) = some (acc, env2) := e4
      have ew : wipe σ5 vs = wipe σ vs := wipe_same ss hs
      cases q2 : fa env4 with
      | none => rw [q2] at e5; cases e5
      | some rb =>
        rw [q2] at e5
        cases rb with
        | ex _ _ => cases e5
        | ok b env5 =>
          refine ⟨env4, _, _, R5, q2, .ok, fun b' env' z H6 R6 => ?_⟩
          cases z
          cases b with
          | false =>
            refine iteF ⟨_, acc3, ?_, e5⟩
            have R7 := Rl.wipeE vs hp R6
            rw [ew] at R7
            exact R7
          | true =>
            refine iteT ?_
            dsimp only at e5
            cases q3 : f env5 with
            | none => rw [q3] at e5; cases e5
            | some re =>
              rw [q3] at e5
              cases re with
              | ex _ _ => cases e5
              | ok y env6 =>
                refine ⟨env5, _, _, R6, q3, .ok, fun y' env' z w H7 R7 => ?_⟩
                cases z
                dsimp only at e5
                split at e5
                · rename_i hz
                  have R8 := Rl.wipeE vs hp R7
                  rw [ew] at R8
                  obtain ⟨ps, r0, bk⟩ := Rl.fix (q1 := [(w, y), (.ref D, .lst acc3)]) R8
                  obtain ⟨a, us, ea, h1, l, r1⟩ := R.push (r0.perm (.swap _ _ _))
                  cases ea
                  refine ⟨us, h1, ?_, _, _, bk _ [(.ref D, .lst (acc3 ++ [y]))] r1, e5⟩
                  have := sz_le hz
                  omega
                · cases e5
  · have hl2 : i = ds.length := by omega
    subst hl2
    rw [List.drop_length] at e4
    cases e4
    exact .inl ⟨wk.stop _ H2 _ (Nat.le_refl _) rr', fin H2 R3⟩
theorem Rl.swapBag {K : PySem.W.Frag} {σ : St} {env : Env} {ws ws' : Bag} {H : Hp} (h : ws.Perm ws') (r : Rl K pin σ env ws H) : Rl K pin σ env ws' H := by
  obtain ⟨⟨bag, sl, rr⟩, pn⟩ := r
  exact ⟨⟨bag, sl, rr.perm (List.Perm.append_left _ h)⟩, pn⟩
/-- the reading of a comprehension -/
theorem lc_use {vs is : List Nat} {its : M (List Dt)} {gt : Dt → Env → Option Env} {σ : St} {H : Hp} {Q : VK} (hp : ∀ i ∈ vs, pinOk pin i = true) (hs : ∀ i ∈ is, i ∈ vs) (q : dE X.K X.mg pin W (mLc vs its gt fa f) σ H Q) :
    tLc (dI X.K X.mg pin W its) (dG X.K pin is gt) (dT X.K X.mg pin wF fa) (dE X.K X.mg pin wF f) vs σ H Q := by
  obtain ⟨env, ws, r, hR, he, hx, k⟩ := q
  rcases mB_cases he with ⟨ds, env1, e1, e2⟩ | ⟨ex, env1, e1, e2⟩
  · refine ⟨env, ws, _, hR, e1, .ok, fun ds' env' z src J H1 wk R1 => ?_⟩
    cases z
    intro D hD
    obtain ⟨qs, R2, back⟩ := Rl.stash vs hp R1
    split at e2
    · rename_i acc env2 e3
      split at e2
      · rename_i hl
        cases e2
        have R3 : Rl X.K pin (wipe σ vs) (wipeE env1 vs) (src :: (qs ++ ws)) H1 := R2.swapBag List.perm_middle
        obtain ⟨ps, r0, bk⟩ := Rl.fix (q1 := []) R3
        have R4 := bk _ [(.ref D, .lst [])] (R.newL (ws := []) (ys := []) r0 rfl hD)
        refine turns hp hs wk R4 e3 fun H2 R5 => k _ _ rfl _ _ (back env2 ((.ref D, .lst acc) :: ws) H2 hl ?_)
        have R6 : Rl X.K pin (wipe σ vs) env2 (src :: (.ref D, .lst acc) :: (qs ++ ws)) H2 := R5.swapBag (.swap _ _ _)
        exact R6.drop.swapBag List.perm_middle.symm
      · cases e2
    · cases e2
  · exact ⟨env, ws, _, hR, e1, hx.of e2, fun x' env' q => nomatch q⟩
theorem de_lc {own : List (Str × Nat)} {is : List Nat} {scope : Scope} {its : M (List Dt)} {gt : Dt → Env → Option Env} (hc : X.calm = true) (hN : X.N.Nodup) (hi : Di X pin W tg it its) (ok : BlkOk X.N X.env.scope scope own)
    (hg : ∀ (s : Shared) (H : Hp) (C : Addr) (cl : List (Str × Addr)) (fp : List Addr), PG (X.blk s H scope (compEnvC scope cl C X.env) fp) tg (dG X.K pin is gt)) (ht : ∀ (s : Shared) (H : Hp) (C : Addr) (cl : List (Str × Addr)) (fp : List Addr), PTs (X.blk s H scope (compEnvC scope cl C X.env) fp) ifs (dT X.K X.mg pin wF fa))
    (he : ∀ (s : Shared) (H : Hp) (C : Addr) (cl : List (Str × Addr)) (fp : List Addr), PE (X.blk s H scope (compEnvC scope cl C X.env) fp) elt (dE X.K X.mg pin wF f)) (hp : (own.map (·.2)).all (pinOk pin) = true := by rfl) (hs : ∀ i ∈ is, i ∈ own.map (·.2) := by decide) (hfs : ∀ x, foldedSetIterable it X.env x = pure x := by intro _; rfl) :
    De X pin W (.ListComp elt [⟨tg, it, ifs, 0⟩] scope pos) (mLc (own.map (·.2)) its gt fa f) :=
  (pe_lc hc hN hi ok hg ht he hfs).imp fun σ H Q q => lc_use (List.all_eq_true.mp hp) hs q
theorem ds_setLc {own : List (Str × Nat)} {is : List Nat} {i : Nat} {y : Str} {py spos : Pos} {scope : Scope} {its : M (List Dt)} {gt : Dt → Env → Option Env} (hc : X.calm = true) (hN : X.N.Nodup) (hy : X.N[i]? = some y) (hyl : X.env.scope.names.lookup y = some .local)
    (hsw : swapsWith (.ListComp elt [⟨tg, it, ifs, 0⟩] scope pos) (some (.Name y py)) spos.line X.env = pure true) (hi : Di X pin W tg it its) (ok : BlkOk X.N X.env.scope scope own)
    (hg : ∀ (s : Shared) (H : Hp) (C : Addr) (cl : List (Str × Addr)) (fp : List Addr), PG (X.blk s H scope (compEnvC scope cl C X.env) fp) tg (dG X.K pin is gt)) (ht : ∀ (s : Shared) (H : Hp) (C : Addr) (cl : List (Str × Addr)) (fp : List Addr), PTs (X.blk s H scope (compEnvC scope cl C X.env) fp) ifs (dT X.K X.mg pin wF fa))
    (he : ∀ (s : Shared) (H : Hp) (C : Addr) (cl : List (Str × Addr)) (fp : List Addr), PE (X.blk s H scope (compEnvC scope cl C X.env) fp) elt (dE X.K X.mg pin wF f)) (hpy : pinOk pin i = true := by rfl) (hp : (own.map (·.2)).all (pinOk pin) = true := by rfl) (hs : ∀ i ∈ is, i ∈ own.map (·.2) := by decide) (hfs : ∀ x, foldedSetIterable it X.env x = pure x := by intro _; rfl) :
    Ds X pin W (.Assign [.Name y py] (.ListComp elt [⟨tg, it, ifs, 0⟩] scope pos) spos) (sSet i (mLc (own.map (·.2)) its gt fa f)) :=
  (ps_setLc hc hN hy hyl hsw hi ok hg ht he hfs).imp fun D σ H ⟨env, ws, r, hR, he', hp'⟩ => by
    refine lc_use (List.all_eq_true.mp hp) hs ?_
    refine sB_E hR he' hp' fun y env1 v H1 R1 e1 => ?_
    cases q : putE env1 i y with
    | none => rw [q] at e1; cases e1
    | some env2 =>
      rw [q] at e1
      cases e1
      obtain ⟨l, rfl⟩ := putE_some q
      exact hp'.nx _ rfl _ _ (R1.put (by rw [R1.len]; exact l) (pinOk_not hpy))

/-! ### two clauses -/
def lcLoop2 (vs vs1 : List Nat) (g : Dt → Env → Option Env) (c : M Bool) (its1 : M (List Dt)) (g1 : Dt → Env → Option Env) (c1 : M Bool) (elt : M OV) : List Dt → List OV → Env → Option (List OV × Env)
  | [], acc, env => some (acc, env)
  | d :: ds, acc, env => (g d env).bind fun env1 => match c env1 with
    | some (.ok true env2) => match its1 env2 with
      | some (.ok ds1 env3) => match lcLoop vs1 g1 c1 elt ds1 acc (wipeE env3 vs1) with
        | some (acc4, env4) => lcLoop2 vs vs1 g c its1 g1 c1 elt ds acc4 (wipeE env4 vs)
        | none => none
      | _ => none
    | some (.ok false env2) => lcLoop2 vs vs1 g c its1 g1 c1 elt ds acc (wipeE env2 vs)
    | _ => none
def mLc2 (vs vs1 : List Nat) (its : M (List Dt)) (g : Dt → Env → Option Env) (c : M Bool) (its1 : M (List Dt)) (g1 : Dt → Env → Option Env) (c1 : M Bool) (elt : M OV) : M OV := mB its fun ds env => match lcLoop2 vs vs1 g c its1 g1 c1 elt ds [] (wipeE env vs) with
  | some (acc, env2) => if env2.length = env.length then some (.ok (.lst acc) (restoreE env vs env2)) else none
  | none => none
theorem wipe_wipe {σ : St} : ∀ {vs vs1 : List Nat}, (∀ i ∈ vs1, i ∈ vs) → wipe (wipe σ vs1) vs = wipe σ vs := fun {vs vs1} h => by
  refine List.ext_getElem? fun j => ?_
  by_cases hj : j ∈ vs
  · by_cases hl : j < σ.length
    · rw [wipe_idem_get hj (by rw [wipe_length]; exact hl), wipe_idem_get hj hl]
    · rw [List.getElem?_eq_none (by rw [wipe_length, wipe_length]; omega), List.getElem?_eq_none (by rw [wipe_length]; omega)]
  · rw [wipe_out_get hj, wipe_out_get hj, wipe_out_get fun q => hj (h j q)]
theorem lc2_use {vs vs1 is is1 : List Nat} {its its1 : M (List Dt)} {gt gt1 : Dt → Env → Option Env} {fa1 : M Bool} {σ : St} {H : Hp} {Q : VK} (hp : ∀ i ∈ vs, pinOk pin i = true) (hs : ∀ i ∈ is, i ∈ vs) (hs1 : ∀ i ∈ is1, i ∈ vs1) (hv : ∀ i ∈ vs1, i ∈ vs)
    (q : dE X.K X.mg pin W (mLc2 vs vs1 its gt fa its1 gt1 fa1 f) σ H Q) :
    tLc2 (dI X.K X.mg pin W its) (dG X.K pin is gt) (dT X.K X.mg pin wF fa) (dI X.K X.mg pin wF its1) (dG X.K pin is1 gt1) (dT X.K X.mg pin wF fa1) (dE X.K X.mg pin wF f) vs vs1 σ H Q := by
  obtain ⟨env, ws, r, hR, he, hx, k⟩ := q
  rcases mB_cases he with ⟨ds, env1, e1, e2⟩ | ⟨ex, env1, e1, e2⟩
  · refine ⟨env, ws, _, hR, e1, .ok, fun ds' env' z src J H1 wk R1 => ?_⟩
    cases z
    intro D hD
    obtain ⟨qs, R2, back⟩ := Rl.stash vs hp R1
    split at e2
    · rename_i acc env2 e3
      split at e2
      · rename_i hl
        cases e2
        have R3 : Rl X.K pin (wipe σ vs) (wipeE env1 vs) (src :: (qs ++ ws)) H1 := R2.swapBag List.perm_middle
        obtain ⟨ps, r0, bk⟩ := Rl.fix (q1 := []) R3
        have R4 := bk _ [(.ref D, .lst [])] (R.newL (ws := []) (ys := []) r0 rfl hD)
        refine ⟨fun i m H' => i ≤ ds.length ∧ m = ds.length - i ∧ ∃ env' acc', Rl X.K pin (wipe σ vs) env' ((.ref D, .lst acc') :: src :: (qs ++ ws)) H' ∧ lcLoop2 vs vs1 gt fa its1 gt1 fa1 f (ds.drop i) acc' env' = some (acc, env2), ⟨ds.length, Nat.zero_le _, rfl, _, [], R4, by simpa using e3⟩, ?_⟩
        rintro i m H2 ⟨hi, rfl, env3, acc3, R3, e4⟩
        obtain ⟨ps, rr⟩ := Rl.get (q1 := [(.ref D, .lst acc3), src]) R3
        have rr' : R X.K [] H2 (src :: (.ref D, .lst acc3) :: ps) := rr.perm (.swap _ _ _)
        by_cases hlt : i < ds.length
        · refine .inr ⟨wk.go i H2 _ hlt rr', fun H' => ∃ env' acc', Rl X.K pin (wipe σ vs) env' ((.ref D, .lst acc') :: src :: (qs ++ ws)) H' ∧ lcLoop2 vs vs1 gt fa its1 gt1 fa1 f (ds.drop (i + 1)) acc' env' = some (acc, env2), fun H' h => ⟨ds.length - (i + 1), by omega, hlt, rfl, h⟩, fun x H3 y => ?_⟩
          have ed : ds[i]? = some ds[i] := List.getElem?_eq_getElem hlt
          have R4 := Rl.under (q1 := [(V.ref D, OV.lst acc3), src]) (q2 := [(x, .val ds[i]), (.ref D, .lst acc3), src]) (fun ps r => by
            have r1 := wk.yld i H2 x H3 _ y ed _ (r.perm (.swap _ _ _))
            exact r1.perm (.cons _ (.swap _ _ _))) R3
          rw [List.drop_eq_getElem_cons hlt] at e4
          unfold lcLoop2 at e4
          cases q1 : gt ds[i] env3 with
          | none => rw [q1] at e4; cases e4
          | some env4 =>
            rw [q1] at e4
            refine ⟨env3, (.ref D, .lst acc3) :: src :: (qs ++ ws), ds[i], env4, R4, q1, fun σ5 H5 ss R5 => ⟨wipe_same ss hs, ?_⟩⟩
            have ew : wipe σ5 vs = wipe σ vs := wipe_same ss hs
            have e5 : (match fa env4 with
              | some (.ok true env2) => match its1 env2 with
                | some (.ok ds1 env3) => match lcLoop vs1 gt1 fa1 f ds1 acc3 (wipeE env3 vs1) with
                  | some (acc4, env4) => lcLoop2 vs vs1 gt fa its1 gt1 fa1 f (ds.drop (i + 1)) acc4 (wipeE env4 vs)
                  | none => none
                | _ => none
              | some (.ok false env2) => lcLoop2 vs vs1 gt fa its1 gt1 fa1 f (ds.drop (i + 1)) acc3 (wipeE env2 vs)
              | _ => none) = some (acc, env2) := e4
            cases q2 : fa env4 with
            | none => rw [q2] at e5; cases e5
            | some rb =>
              rw [q2] at e5
              cases rb with
              | ex _ _ => cases e5
              | ok b env5 =>
                refine ⟨env4, _, _, R5, q2, .ok, fun b' env' z H6 R6 => ?_⟩
                cases z
                cases b with
                | false =>
                  refine iteF ⟨_, acc3, ?_, e5⟩
                  have R7 := Rl.wipeE vs hp R6
                  rw [ew] at R7
                  exact R7
                | true =>
                  refine iteT ?_
                  dsimp only at e5
                  cases q3 : its1 env5 with
                  | none => rw [q3] at e5; cases e5
                  | some re =>
                    rw [q3] at e5
                    cases re with
                    | ex _ _ => cases e5
                    | ok ds1 env6 =>
                      refine ⟨env5, _, _, R6, q3, .ok, fun ds' env' z src1 J1 H7 wk1 R7 => ?_⟩
                      cases z
                      dsimp only at e5
                      split at e5
                      · rename_i acc4 env7 e6
                        have hp1 : ∀ i ∈ vs1, pinOk pin i = true := fun i hi => hp i (hv i hi)
                        have R8 := Rl.wipeE vs1 hp1 R7
                        have R9 : Rl X.K pin (wipe σ5 vs1) (wipeE env6 vs1) ((.ref D, .lst acc3) :: src1 :: (src :: (qs ++ ws))) H7 := R8.swapBag (.swap _ _ _)
                        refine turns hp1 hs1 wk1 R9 e6 fun H8 RA => ⟨_, acc4, ?_, e5⟩
                        have RB : Rl X.K pin (wipe σ5 vs1) env7 (src1 :: (.ref D, .lst acc4) :: (src :: (qs ++ ws))) H8 := RA.swapBag (.swap _ _ _)
                        have RC := Rl.wipeE vs hp RB.drop
                        rw [wipe_wipe hv, ew] at RC
                        exact RC
                      · cases e5
        · have hl2 : i = ds.length := by omega
          subst hl2
          rw [List.drop_length] at e4
          cases e4
          refine .inl ⟨wk.stop _ H2 _ (Nat.le_refl _) rr', k _ _ rfl _ _ (back env2 ((.ref D, .lst acc) :: ws) H2 hl ?_)⟩
          have R6 : Rl X.K pin (wipe σ vs) env2 (src :: (.ref D, .lst acc) :: (qs ++ ws)) H2 := R3.swapBag (.swap _ _ _)
          exact R6.drop.swapBag List.perm_middle.symm
      · cases e2
    · cases e2
  · exact ⟨env, ws, _, hR, e1, hx.of e2, fun x' env' q => nomatch q⟩
theorem de_lc2 {own : List (Str × Nat)} {is is1 vs1 : List Nat} {scope : Scope} {tg1 it1 : Expr} {ifs1 : List Expr} {fa1 : M Bool} {its its1 : M (List Dt)} {gt gt1 : Dt → Env → Option Env} (hc : X.calm = true) (hN : X.N.Nodup) (hi : Di X pin W tg it its) (ok : BlkOk X.N X.env.scope scope own) (hv : ∀ i ∈ vs1, i ∈ own.map (·.2))
    (hg : ∀ (s : Shared) (H : Hp) (C : Addr) (cl : List (Str × Addr)) (fp : List Addr), PG (X.blk s H scope (compEnvC scope cl C X.env) fp) tg (dG X.K pin is gt)) (ht : ∀ (s : Shared) (H : Hp) (C : Addr) (cl : List (Str × Addr)) (fp : List Addr), PTs (X.blk s H scope (compEnvC scope cl C X.env) fp) ifs (dT X.K X.mg pin wF fa))
    (hi1 : ∀ (s : Shared) (H : Hp) (C : Addr) (cl : List (Str × Addr)) (fp : List Addr), PI (X.blk s H scope (compEnvC scope cl C X.env) fp) tg1 it1 (dI X.K X.mg pin wF its1))
    (hg1 : ∀ (s : Shared) (H : Hp) (C : Addr) (cl : List (Str × Addr)) (fp : List Addr), PG (X.blk s H scope (compEnvC scope cl C X.env) fp) tg1 (dG X.K pin is1 gt1)) (ht1 : ∀ (s : Shared) (H : Hp) (C : Addr) (cl : List (Str × Addr)) (fp : List Addr), PTs (X.blk s H scope (compEnvC scope cl C X.env) fp) ifs1 (dT X.K X.mg pin wF fa1))
    (he : ∀ (s : Shared) (H : Hp) (C : Addr) (cl : List (Str × Addr)) (fp : List Addr), PE (X.blk s H scope (compEnvC scope cl C X.env) fp) elt (dE X.K X.mg pin wF f)) (hp : (own.map (·.2)).all (pinOk pin) = true := by rfl) (hs : ∀ i ∈ is, i ∈ own.map (·.2) := by decide) (hs1 : ∀ i ∈ is1, i ∈ vs1 := by decide) (hfs : ∀ x, foldedSetIterable it X.env x = pure x := by intro _; rfl) (hfs1 : ∀ env x, foldedSetIterable it1 env x = pure x := by intro _ _; rfl) :
    De X pin W (.ListComp elt [⟨tg, it, ifs, 0⟩, ⟨tg1, it1, ifs1, 0⟩] scope pos) (mLc2 (own.map (·.2)) vs1 its gt fa its1 gt1 fa1 f) :=
  (pe_lc2 hc hN hi ok hv hg ht hi1 hg1 ht1 he hfs hfs1).imp fun σ H Q q => lc2_use (List.all_eq_true.mp hp) hs hs1 hv q
end
end DL

namespace DL
open PySem PySem.Spec L2

/-! ### a look that leaves the slots as they are -/
mutual
def noLD : Dt → Bool
  | .none => true
  | .bool _ => true
  | .int _ => true
  | .str _ => true
  | .tuple ds => noLDs ds
  | .list _ => false
  | .dict _ => false
def noLDs : List Dt → Bool
  | [] => true
  | d :: ds => noLD d && noLDs ds
end
mutual
def flatO : OV → Bool
  | .val d => noLD d
  | .lst xs => flatOs xs
  | .raw _ => false
  | .sub _ _ _ => false
def flatOs : List OV → Bool
  | [] => true
  | x :: xs => flatO x && flatOs xs
end
section
variable {K : PySem.W.Frag} {H F F' : Hp}
mutual
theorem Dp.noL (k : ∀ b o, F b = some o → F' b = some o ∨ ∃ vs, o = .lst vs) : ∀ {d : Dt} {v : V}, noLD d = true → Dp K F v d → Dp K F' v d
  | _, _, _, .non => .non
  | _, _, _, .bl _ => .bl _
  | _, _, _, .int _ => .int _
  | _, _, _, .str _ => .str _
  | _, _, h, .lst _ _ => by simp [noLD] at h
  | _, _, h, .tup hs t => by
    rw [noLD] at h
    refine .tup ?_ (DpAll.noL k h t)
    rcases hs with (hs | ⟨o, hs⟩) | hs
    · rcases k _ _ hs with e | ⟨vs, e⟩
      · exact .inl (.inl e)
      · cases e
    · rcases k _ _ hs with e | ⟨vs, e⟩
      · exact .inl (.inr ⟨o, e⟩)
      · cases e
    · exact .inr hs
theorem DpAll.noL (k : ∀ b o, F b = some o → F' b = some o ∨ ∃ vs, o = .lst vs) : ∀ {ds : List Dt} {vs : List V}, noLDs ds = true → DpAll K F vs ds → DpAll K F' vs ds
  | _, _, _, .nil => .nil
  | _, _, h, .cons a t => by
    rw [noLDs, Bool.and_eq_true] at h
    exact .cons (Dp.noL k h.1 a) (DpAll.noL k h.2 t)
end
mutual
theorem Own.noL (k : ∀ b o, F b = some o → F' b = some o ∨ ∃ vs, o = .lst vs) : ∀ {x : OV} {v : V} {fp : List Addr}, flatO x = true → Own K H F v x fp → Own K H F' v x fp
  | _, _, _, h, .val d => by
    rw [flatO] at h
    exact .val (Dp.noL k h d)
  | _, _, _, h, .lst e t => by
    rw [flatO] at h
    exact .lst e (OwnL.noL k h t)
  | _, _, _, h, .raw => by simp [flatO] at h
  | _, _, _, h, .sub _ _ => by simp [flatO] at h
theorem OwnL.noL (k : ∀ b o, F b = some o → F' b = some o ∨ ∃ vs, o = .lst vs) : ∀ {xs : List OV} {vs : List V} {fp : List Addr}, flatOs xs = true → OwnL K H F vs xs fp → OwnL K H F' vs xs fp
  | _, _, _, _, .nil => .nil
  | _, _, _, h, .cons a t => by
    rw [flatOs, Bool.and_eq_true] at h
    exact .cons (Own.noL k h.1 a) (OwnL.noL k h.2 t)
end
mutual
theorem Own.lists : ∀ {x : OV} {v : V} {fp : List Addr} {d : Dt}, x.frz = some d → Own K H F v x fp → ∀ a ∈ fp, ∃ vs, H a = some (.lst vs)
  | _, _, _, _, _, .val _, a, ha => by cases ha
  | .lst xs, _, _, d, e, .lst h t, a, ha => by
    rw [OV.frz] at e
    cases q : OV.frzL xs with
    | none => rw [q] at e; cases e
    | some ds =>
      rcases List.mem_cons.mp ha with rfl | ha
      · exact ⟨_, h⟩
      · exact OwnL.lists q t a ha
  | _, _, _, _, e, .raw, _, ha => by cases ha
  | _, _, _, _, e, .sub _ _, _, _ => by simp [OV.frz] at e
theorem OwnL.lists : ∀ {xs : List OV} {vs : List V} {fp : List Addr} {ds : List Dt}, OV.frzL xs = some ds → OwnL K H F vs xs fp → ∀ a ∈ fp, ∃ vs, H a = some (.lst vs)
  | _, _, _, _, _, .nil, a, ha => by cases ha
  | x :: xs, _, _, _, e, .cons h t, a, ha => by
    rw [OV.frzL] at e
    cases q1 : x.frz with
    | none => rw [q1] at e; cases e
    | some d =>
      cases q2 : OV.frzL xs with
      | none => rw [q1, q2] at e; cases e
      | some ds =>
        rcases List.mem_append.mp ha with ha | ha
        · exact Own.lists q1 h a ha
        · exact OwnL.lists q2 t a ha
end
end
def frzS : Option OV → Option OV
  | some x => x.frz.map .val
  | none => none
def canF (p : V × OV) : Bool := p.2.frz.isSome
def bagF (ps : Bag) : Bag := ps.filterMap fun p => p.2.frz.map fun d => (p.1, .val d)
theorem slots_frz {σ : St} {env : Env} {ps : Bag} (h : Slots σ env ps) : Slots σ (env.map frzS) (bagF ps) := by
  induction h with
  | nil => exact .nil
  | no _ ih => exact .no ih
  | @yes v x σ env ps _ ih =>
    unfold bagF
    cases q : x.frz with
    | none =>
      rw [List.filterMap_cons_none (by simp [q]), List.map_cons]
      have e : frzS (some x) = none := by simp [frzS, q]
      rw [e]
      exact .no ih
    | some d =>
      rw [List.filterMap_cons_some (b := (v, .val d)) (by simp [q]), List.map_cons]
      have e : frzS (some x) = some (.val d) := by simp [frzS, q]
      rw [e]
      exact .yes ih
theorem own_bagF {K : PySem.W.Frag} {H F F' : Hp} (hF : Same F F') : ∀ {ps : Bag} {Z : List Addr}, (∀ p ∈ ps, canF p = true) → OwnL K H F (ps.map (·.1)) (ps.map (·.2)) Z → (∀ a ∈ Z, F' a = H a) → OwnL K H F' ((bagF ps).map (·.1)) ((bagF ps).map (·.2)) [] ∧ ∀ a ∈ Z, ∃ vs, H a = some (.lst vs)
  | [], _, _, h, _ => by
    cases h
    exact ⟨.nil, fun a ha => by cases ha⟩
  | p :: ps, _, hc, h, k => by
    cases h with
    | cons h t =>
      obtain ⟨a1, a2⟩ := own_bagF hF (fun q hq => hc q (List.mem_cons_of_mem _ hq)) t fun a ha => k a (List.mem_append_right _ ha)
      obtain ⟨d, hd⟩ := Option.isSome_iff_exists.mp (hc p List.mem_cons_self)
      refine ⟨?_, fun a ha => ?_⟩
      · unfold bagF
        rw [List.filterMap_cons_some (b := (p.1, .val d)) (by simp [hd])]
        exact .cons (fp := []) (.val (Own.frz hF h hd fun a ha => k a (List.mem_append_left _ ha))) a1
      · rcases List.mem_append.mp ha with ha | ha
        · exact Own.lists hd h a ha
        · exact a2 a ha
theorem bagF_filter (ps : Bag) : bagF (ps.filter canF) = bagF ps := by
  unfold bagF
  induction ps with
  | nil => rfl
  | cons p ps ih =>
    cases q : p.2.frz with
    | none =>
      have e : canF p = false := by simp [canF, q]
      rw [List.filter_cons_of_neg (by simp [e]), List.filterMap_cons_none (by simp [q]), ih]
    | some d =>
      have e : canF p = true := by simp [canF, q]
      rw [List.filter_cons_of_pos e, List.filterMap_cons_some (b := (p.1, .val d)) (by simp [q]), List.filterMap_cons_some (b := (p.1, .val d)) (by simp [q]), ih]
section
variable {K : PySem.W.Frag} {pin : Pins} {σ : St} {env : Env} {ws : Bag} {H : Hp}
theorem Rl.thaw (r : Rl K pin σ env ws H) : ∃ sub : OV, Rl K pin σ (env.map frzS) [(.non, sub)] H ∧
    (∀ env' H', Rl K pin σ env' [(.non, sub)] H' → Rl K pin σ env ws H') ∧
    ∀ env' H' v x, flatO x = true → Rl K pin σ env' [(v, x), (.non, sub)] H' → Rl K pin σ env ((v, x) :: ws) H' := by
  obtain ⟨⟨ps, sl, rr⟩, pn⟩ := r
  have pm : (ps ++ ws).Perm (ps.filter canF ++ (ps.filter (fun p => !canF p) ++ ws)) := by
    rw [← List.append_assoc]
    exact List.Perm.append_right _ (List.filter_append_perm canF ps).symm
  obtain ⟨Z, nd, o⟩ := rr.perm pm
  have o0 := o
  rw [List.map_append (f := fun p : V × OV => p.1) (l₁ := ps.filter canF), List.map_append (f := fun p : V × OV => p.2) (l₁ := ps.filter canF)] at o0
  obtain ⟨Z1, Z2, rfl, o1, o2⟩ := OwnL.split (by rw [List.length_map, List.length_map]) o0
  rw [List.nil_append] at nd o1 o2
  obtain ⟨n1, n2, n3⟩ := List.nodup_append.mp nd
  have hs : Same (hid H (Z1 ++ Z2)) (hid H Z2) := hid_sub fun a ha => List.mem_append_right _ ha
  obtain ⟨b1, b2⟩ := own_bagF (F' := hid H Z2) hs (fun p hp => (List.mem_filter.mp hp).2) o1 fun a ha => hid_out fun z => n3 a ha a z rfl
  rw [bagF_filter] at b1
  have th : ∀ a ∈ Z2, ∃ ob, H a = some ob := fun a ha => OwnL.there o2 a ha
  -- what stays
  have back0 : ∀ (H' : Hp) (gp Zr : List Addr), (gp ++ (Z2 ++ Zr)).Nodup → (∀ a ∈ Z2, H' a = H a) → Same (hid H Z2) (hid H' (gp ++ (Z2 ++ Zr))) →
      (gp ++ (Z1 ++ Z2)).Nodup ∧ OwnL K H' (hid H' (gp ++ (Z1 ++ Z2))) ((ps.filter canF ++ (ps.filter (fun p => !canF p) ++ ws)).map (·.1)) ((ps.filter canF ++ (ps.filter (fun p => !canF p) ++ ws)).map (·.2)) (Z1 ++ Z2) ∧
      ∀ b ob, hid H' (gp ++ (Z2 ++ Zr)) b = some ob → hid H' (gp ++ (Z1 ++ Z2)) b = some ob ∨ ∃ vs, ob = .lst vs := by
    intro H' gp Zr nd' k2 sm
    obtain ⟨m1, m2, m3⟩ := List.nodup_append.mp nd'
    have z1 : ∀ a ∈ Z1, a ∉ gp ++ (Z2 ++ Zr) ∧ H' a = H a := fun a ha => by
      obtain ⟨vs, e⟩ := b2 a ha
      have q := sm a (.lst vs) (by rw [hid_out fun z => n3 a ha a z rfl]; exact e)
      have nm : a ∉ gp ++ (Z2 ++ Zr) := fun z => by rw [hid_in z] at q; cases q
      refine ⟨nm, ?_⟩
      rw [hid_out nm] at q
      rw [q, e]
    refine ⟨List.nodup_append.mpr ⟨m1, nd, fun a ha b hb e => ?_⟩, ?_, fun b ob e => ?_⟩
    · subst e
      rcases List.mem_append.mp hb with hb | hb
      · exact (z1 a hb).1 (List.mem_append_left _ ha)
      · exact m3 a ha a (List.mem_append_left _ hb) rfl
    · refine OwnL.mono (fun b ob e => ?_) o fun a ha => ?_
      · rw [List.nil_append] at e
        have nb : b ∉ Z1 ++ Z2 := fun z => by rw [hid_in z] at e; cases e
        rw [hid_out nb] at e
        have q := sm b ob (by rw [hid_out fun z => nb (List.mem_append_right _ z)]; exact e)
        have nm : b ∉ gp ++ (Z2 ++ Zr) := fun z => by rw [hid_in z] at q; cases q
        rw [hid_out nm] at q
        rw [hid_out]
        · exact q
        · intro z
          rcases List.mem_append.mp z with z | z
          · exact nm (List.mem_append_left _ z)
          · exact nb z
      · rcases List.mem_append.mp ha with ha | ha
        · exact (z1 a ha).2
        · exact k2 a ha
    · have nm : b ∉ gp ++ (Z2 ++ Zr) := fun z => by rw [hid_in z] at e; cases e
      rw [hid_out nm] at e
      by_cases hb : b ∈ Z1
      · obtain ⟨vs, e2⟩ := b2 b hb
        rw [(z1 b hb).2, e2] at e
        exact .inr ⟨vs, (Option.some.inj e).symm⟩
      · left
        rw [hid_out]
        · exact e
        · intro z
          rcases List.mem_append.mp z with z | z
          · exact nm (List.mem_append_left _ z)
          · rcases List.mem_append.mp z with z | z
            · exact hb z
            · exact nm (List.mem_append_right _ (List.mem_append_left _ z))
  refine ⟨.sub Z2 H (hid H Z2), ⟨⟨bagF ps, slots_frz sl, Z2, by rw [List.nil_append]; exact n2, ?_⟩, pn⟩, fun env' H' R' => ?_, fun env' H' v x hx R' => ?_⟩
  · rw [List.map_append, List.map_append, List.nil_append]
    have q : OwnL K H (hid H Z2) [V.non] [OV.sub Z2 H (hid H Z2)] (Z2 ++ []) := .cons (.sub (fun a ha => ⟨rfl, th a ha⟩) fun _ _ e => e) .nil
    rw [List.append_nil] at q
    exact OwnL.append b1 q
  · obtain ⟨⟨ps', sl', r'⟩, pn'⟩ := R'
    obtain ⟨Z', nd', o'⟩ := r'.perm (List.perm_append_comm (l₁ := ps') (l₂ := [(V.non, OV.sub Z2 H (hid H Z2))]))
    cases o' with
    | @cons _ _ _ _ fp gp h t =>
      cases h with
      | sub h sm =>
        rw [List.nil_append] at nd' sm
        obtain ⟨e1, e2, _⟩ := back0 H' [] gp nd' (fun a ha => (h a ha).1) sm
        exact ⟨⟨ps, sl, R.perm pm.symm ⟨Z1 ++ Z2, e1, e2⟩⟩, pn⟩
  · obtain ⟨⟨ps', sl', r'⟩, pn'⟩ := R'
    obtain ⟨Z', nd', o'⟩ := r'.perm (List.perm_append_comm (l₁ := ps') (l₂ := [(v, x), (V.non, OV.sub Z2 H (hid H Z2))]))
    cases o' with
    | @cons _ _ _ _ gp rest hx0 t =>
      cases t with
      | @cons _ _ _ _ fp Zr h t =>
        cases h with
        | sub h sm =>
          rw [List.nil_append] at nd' sm hx0
          obtain ⟨e1, e2, e3⟩ := back0 H' gp Zr nd' (fun a ha => (h a ha).1) sm
          have r2 : R K [] H' ((v, x) :: (ps.filter canF ++ (ps.filter (fun p => !canF p) ++ ws))) := ⟨gp ++ (Z1 ++ Z2), by rw [List.nil_append]; exact e1, .cons (Own.noL e3 hx hx0) (by rw [List.nil_append]; exact e2)⟩
          exact ⟨⟨ps, sl, (r2.perm (pm.symm.cons _)).perm List.perm_middle.symm⟩, pn⟩
end
def mThaw (f : M OV) : M OV := fun env => match f (env.map frzS) with
  | some (.ok x _) => if flatO x = true then some (.ok x env) else none
  | some (.ex e _) => some (.ex e env)
  | none => none
def mThawB (f : M Bool) : M Bool := fun env => match f (env.map frzS) with
  | some (.ok x _) => some (.ok x env)
  | some (.ex e _) => some (.ex e env)
  | none => none
section
variable {X : Cx} {pin : Pins} {W : WX} {e : Expr} {f : M OV} {fb : M Bool}
theorem de_thaw (h : De X pin W e f) : De X pin W e (mThaw f) := h.imp fun σ H Q ⟨env, ws, r, hR, he, hx, k⟩ => by
  obtain ⟨sub, R1, b1, b2⟩ := hR.thaw
  unfold mThaw at he
  split at he
  · rename_i x env' q
    split at he
    · rename_i hf
      cases he
      refine ⟨_, _, _, R1, q, .ok, fun x' env2 z v H' R' => ?_⟩
      cases z
      exact k _ _ rfl v H' (b2 env' H' v x hf R')
    · cases he
  · rename_i ee env' q
    cases he
    refine ⟨_, _, _, R1, q, fun e2 env2 z cls d H' ie R' => ?_, fun x' env2 z => nomatch z⟩
    cases z
    exact hx _ _ rfl cls d H' ie (b1 env' H' R')
  · cases he
theorem db_thaw (h : Db X pin W e fb) : Db X pin W e (mThawB fb) := h.imp fun σ H Q ⟨env, ws, r, hR, he, hx, k⟩ => by
  obtain ⟨sub, R1, b1, b2⟩ := hR.thaw
  unfold mThawB at he
  split at he
  · rename_i x env' q
    cases he
    refine ⟨_, _, _, R1, q, .ok, fun x' env2 z H' R' => ?_⟩
    cases z
    exact k _ _ rfl H' (b1 env' H' R')
  · rename_i ee env' q
    cases he
    refine ⟨_, _, _, R1, q, fun e2 env2 z cls d H' ie R' => ?_, fun x' env2 z => nomatch z⟩
    cases z
    exact hx _ _ rfl cls d H' ie (b1 env' H' R')
  · cases he
end
end DL

/-! sets of tuples of whole numbers, texts and such tuples -/
namespace NS
open PySem PySem.Spec PyProof.Rows L2

section
variable {P : Program} {w : World} {A : Around} {E : Value → Shared → Prop} {s : Shared}
mutual
theorem notClass_key : ∀ (k : NestedKey) (v : Value) (n : Nat) (s : Shared), NestedIs s.heap k v → k.depth ≤ n → ∀ (A : Around) (E : Value → Shared → Prop) (Q : Bool → Shared → Prop), Q false s → wpAny (model P w) A (ofAClassStatement n v) Q E s
  | .none, _, n, s, x, _, A, E, Q, h => by cases x; cases n <;> exact wpAny_pure h
  | .num i, _, n, s, x, _, A, E, Q, h => by cases x <;> cases n <;> exact wpAny_pure h
  | .text y, _, n, s, x, _, A, E, Q, h => by cases x; cases n <;> exact wpAny_pure h
  | .tup ks, _, n, s, x, hn, A, E, Q, h => by
    cases x with
    | @tup b o vs m _ hg hc hd hk =>
      simp only [NestedKey.depth] at hn
      cases n with
      | zero => omega
      | succ n =>
        have hT : s.TypeIs (.ref b) "tuple" := ⟨o, hg, hc⟩
        unfold ofAClassStatement
        refine wpAny_bind (wpAny_typeOf hT ?_)
        dsimp only
        have e : (("tuple" : String) == "tuple") = true := by decide
        simp only [e, if_true, Bool.not_true, Bool.false_eq_true, if_false]
        try refine wpAny_bind (wpAny_pure ?_)
        try simp only [Bool.not_true, Bool.false_eq_true, if_false]
        show wpAny _ _ (seqItems? (.ref b) >>= _) _ _ s
        refine wpAny_bind (wpAny_seqItems hg hd ?_)
        dsimp only
        refine wpAny_bind ?_
        show wpAny _ _ (forIn vs _ _) _ _ s
        rw [← Array.forIn_toList]
        refine wpAny_forIn_list _ (fun rest r s' => r.1 = none ∧ s' = s ∧ ∀ v ∈ rest, ∀ (A : Around) (E : Value → Shared → Prop) (Q : Bool → Shared → Prop), Q false s → wpAny (model P w) A (ofAClassStatement n v) Q E s) _ ?_ ?_ _ _ ⟨rfl, rfl, notClass_keys ks _ n s hk (by omega)⟩
        · rintro v rest r s' ⟨hr, rfl, hall⟩
          refine wpAny_bind (hall v List.mem_cons_self _ _ _ ?_)
          simp only [Bool.false_eq_true, if_false]
          exact wpAny_pure ⟨rfl, rfl, fun u hu' => hall u (List.mem_cons_of_mem _ hu')⟩
        · rintro ⟨r1, r2⟩ s' ⟨hr, rfl, _⟩
          simp only at hr
          subst hr
          exact wpAny_pure h
theorem notClass_keys : ∀ (ks : List NestedKey) (vs : List Value) (n : Nat) (s : Shared), NestedAll s.heap ks vs → NestedKey.depthAll ks ≤ n → ∀ v ∈ vs, ∀ (A : Around) (E : Value → Shared → Prop) (Q : Bool → Shared → Prop), Q false s → wpAny (model P w) A (ofAClassStatement n v) Q E s
  | [], _, n, s, x, _, v, hv => by cases x; cases hv
  | k :: ks, _, n, s, x, hn, v, hv => by
    cases x with
    | cons x1 x2 =>
      simp only [NestedKey.depthAll] at hn
      rcases List.mem_cons.mp hv with e | hv
      · rw [e]; exact notClass_key k _ n s x1 (by omega)
      · exact notClass_keys ks _ n s x2 (by omega) v hv
end
mutual
theorem hashBy_key : ∀ (k : NestedKey) (v : Value) (n : Nat) (s : Shared), NestedIs s.heap k v → ∀ (A : Around) (E : Value → Shared → Prop) (Q : Bool → Shared → Prop), (∀ b, Q b s) → wpAny (model P w) A (hashByValue n v) Q E s
  | .none, _, n, s, x, A, E, Q, h => by cases x; cases n <;> exact wpAny_pure (h _)
  | .num i, _, n, s, x, A, E, Q, h => by cases x <;> cases n <;> exact wpAny_pure (h _)
  | .text y, _, n, s, x, A, E, Q, h => by cases x; cases n <;> exact wpAny_pure (h _)
  | .tup ks, _, n, s, x, A, E, Q, h => by
    cases x with
    | @tup b o vs m _ hg hc hd hk =>
      cases n with
      | zero => exact wpAny_pure (h _)
      | succ n =>
        have hT : s.TypeIs (.ref b) "tuple" := ⟨o, hg, hc⟩
        unfold hashByValue
        refine wpAny_bind (wpAny_specialOf hT F.slot_tuple_hash.lookup ?_)
        show wpAny _ _ (seqItems? (.ref b) >>= _) _ _ s
        refine wpAny_bind (wpAny_seqItems hg hd ?_)
        refine wpAny_bind ?_
        show wpAny _ _ (forIn vs _ _) _ _ s
        rw [← Array.forIn_toList]
        refine wpAny_forIn_list _ (fun rest r s' => r.1 = none ∧ s' = s ∧ ∀ v ∈ rest, ∀ (A : Around) (E : Value → Shared → Prop) (Q : Bool → Shared → Prop), (∀ b, Q b s) → wpAny (model P w) A (hashByValue n v) Q E s)
          _ ?_ ?_ _ _ ⟨rfl, rfl, hashBy_keys ks _ n s hk⟩
        · rintro v rest r s' ⟨hr, rfl, hall⟩
          refine wpAny_bind (hall v List.mem_cons_self _ _ _ fun b => ?_)
          cases b
          · simp only [Bool.not_false, if_true]
            exact wpAny_pure (show wpAny _ _ (pure false) _ _ _ from wpAny_pure (h _))
          · simp only [Bool.not_true, Bool.false_eq_true, if_false]
            exact wpAny_pure ⟨rfl, rfl, fun u hu' => hall u (List.mem_cons_of_mem _ hu')⟩
        · rintro ⟨r1, r2⟩ s' ⟨hr, rfl, _⟩
          simp only at hr
          subst hr
          exact wpAny_pure (h _)
theorem hashBy_keys : ∀ (ks : List NestedKey) (vs : List Value) (n : Nat) (s : Shared), NestedAll s.heap ks vs → ∀ v ∈ vs, ∀ (A : Around) (E : Value → Shared → Prop) (Q : Bool → Shared → Prop), (∀ b, Q b s) → wpAny (model P w) A (hashByValue n v) Q E s
  | [], _, n, s, x, v, hv => by cases x; cases hv
  | k :: ks, _, n, s, x, v, hv => by
    cases x with
    | cons x1 x2 =>
      rcases List.mem_cons.mp hv with e | hv
      · rw [e]; exact hashBy_key k _ n s x1
      · exact hashBy_keys ks _ n s x2 v hv
end
abbrev IsN (P : Program) (w : World) (h : Heap) (k : NestedKey) (a : Addr) : Prop := (nestedKind P w).is h k a
theorem IsN.at {h h' : Heap} {k : NestedKey} {b : Addr} (x : IsN P w h k b) (hk : ∀ a o vs n, h.get? a = some o → o.data = .seq vs n → h'.get? a = some o) : IsN P w h' k b := ⟨NestedIs.at hk _ _ x.1, x.2⟩
theorem IsN.keep {h h' : Heap} {k : NestedKey} {b : Addr} (x : IsN P w h k b) (hk : ∀ c o, h.get? c = some o → h'.get? c = some o) : IsN P w h' k b := x.at fun a o _ _ e _ => hk a o e
/-- a search among such tuples shows nothing -/
theorem seen_key {k : NestedKey} {b : Addr} {Q : Bool → Shared → Prop} (hk : IsN P w s.heap k b) {ys : List Value} (hy : ∀ y ∈ ys, ∃ k' c, y = Value.ref c ∧ IsN P w s.heap k' c) (h : Q false s) :
    wpAny (model P w) A (searchCouldBeSeen (.ref b) ys) Q E s := by
  unfold searchCouldBeSeen
  refine wpAny_bind ?_
  refine wpAny_forIn_list _ (fun rest r s' => r.1 = none ∧ s' = s ∧ ∀ y ∈ rest, ∃ k' c, y = Value.ref c ∧ IsN P w s.heap k' c) _ ?_ ?_ _ _ ⟨rfl, rfl, hy⟩
  · rintro v rest r s' ⟨hr, rfl, hall⟩
    obtain ⟨k', c, rfl, hc⟩ := hall v List.mem_cons_self
    have rest' : ∀ y ∈ rest, ∃ k' c, y = Value.ref c ∧ IsN P w s'.heap k' c := fun u hu' => hall u (List.mem_cons_of_mem _ hu')
    dsimp only
    by_cases hv : (b == c || (carriedByValue (.ref b) && carriedByValue (.ref c))) = true
    · exact wp_if_pos hv (wpAny_pure ⟨rfl, rfl, rest'⟩)
    · refine wp_if_neg hv ?_
      refine wpAny_bind ((nestedKind P w).quiet hk ?_)
      simp only [Bool.not_true, Bool.false_eq_true, if_false]
      refine wpAny_bind ((nestedKind P w).quiet hc ?_)
      simp only [Bool.not_true, Bool.false_eq_true, if_false]
      refine wpAny_bind (notClass_key _ _ 8 _ hk.1 hk.2 _ _ _ ?_)
      simp only [Bool.false_eq_true, if_false]
      refine wpAny_bind (notClass_key _ _ 8 _ hc.1 hc.2 _ _ _ ?_)
      simp only [Bool.false_eq_true, if_false]
      exact wpAny_pure ⟨rfl, rfl, rest'⟩
  · rintro ⟨r1, r2⟩ s' ⟨hr, rfl, _⟩
    simp only at hr
    subst hr
    exact wpAny_pure h
end

/-! ### the set: its rows, its table -/
abbrev Rw := List (Addr × NestedKey)
def rws (w : World) (L : Rw) : List (Int × Value) := L.map fun p => (p.2.hash w, Value.ref p.1)
structure SN (P : Program) (w : World) (h : Heap) (a : Addr) (L : Rw) (es : Array (Int × Value)) (ep : Nat) (t : SetTable) : Prop where
  ob : ∃ o, h.get? a = some o ∧ o.ExactSet ∧ o.data = .set es ep t
  rows : es.toList = rws w L
  tab : TabOk t (L.map fun p => p.2.hash w)
  nd : (L.map (·.2)).Nodup
  key : ∀ p ∈ L, IsN P w h p.2 p.1
  led : w.params.followText "set-order" = true ∨ t.led = true
  room : L.length * 5 < t.mask * 3
  few : L.length < 64
theorem tab_plain {t : SetTable} {hs : List Int} {b : Bool} (T : TabOk t hs) : TabOk { t with plain := b } hs := ⟨T.ris, T.dm, T.sz, T.mok, T.bd, T.reach⟩
theorem rws_len {w : World} {L : Rw} {es : Array (Int × Value)} (r : es.toList = rws w L) : es.size = L.length := by
  have h := congrArg List.length r
  unfold rws at h
  rw [Array.length_toList, List.length_map] at h
  exact h
theorem rws_get {w : World} {L : Rw} {es : Array (Int × Value)} (r : es.toList = rws w L) {i : Nat} {p : Addr × NestedKey} (h : L[i]? = some p) : es[i]? = some (p.2.hash w, Value.ref p.1) := by
  rw [← Array.getElem?_toList, r]
  unfold rws
  rw [List.getElem?_map, h] <;> rfl
section
variable {P : Program} {w : World} {A : Around} {E : Value → Shared → Prop} {s : Shared} {a : Addr} {L : Rw} {es : Array (Int × Value)} {ep : Nat} {t : SetTable}
theorem SN.fits (R : SN P w s.heap a L es ep t) : t.fits es.size = true := by
  have h1 := R.tab.sz
  rw [List.length_map] at h1
  have h2 := rws_len R.rows
  have h3 := R.room
  unfold SetTable.fits SetTable.fill
  rw [R.tab.dm, Bool.and_eq_true, beq_iff_eq, decide_eq_true_eq]
  show t.place.size = es.size ∧ t.place.size + 0 ≤ t.mask
  omega
theorem SN.gw (R : SN P w s.heap a L es ep t) : ¬ t.gaveWay = true := by
  unfold SetTable.gaveWay
  rw [mask_odd R.tab.mok]
  decide
theorem nth_dummy (m : Nat) : ∀ (n : Nat) (p : SetTable.Probe), p.dummy = none → (nth m p n).dummy = none
  | 0, _, h => h
  | n + 1, p, h => nth_dummy m n (adv m p) (by unfold adv; split <;> exact h)
/-- the search, from the c-th step of the way on -/
theorem SN.from (R : SN P w s.heap a L es ep t) {x : Addr} {k : NestedKey} (hx : IsN P w s.heap k x) (hu : A.units + 8 < cLine) {K : Nat} (hKf : K < 10 * SetTable.turns t.mask)
    (hK : way t.mask (k.hash w) K ∉ t.place.toList) (hKb : ∀ c, c < K → way t.mask (k.hash w) c ∈ t.place.toList) {Q : SetFound → Shared → Prop}
    (hin : k ∈ L.map (·.2) → Q (.there none) s) (hout : k ∉ L.map (·.2) → Q (.free (way t.mask (k.hash w) K) false) s) :
    ∀ (f c : Nat) (stand : Option SetTable.Probe), stand.getD (t.probeStart (k.hash w)) = nth t.mask (runAt t.mask (SetTable.bits (k.hash w) % (t.mask + 1)) (SetTable.bits (k.hash w))) c → c ≤ K → K - c < f →
      (∀ (i : Nat) p, L[i]? = some p → p.2 = k → ∃ c', c ≤ c' ∧ c' < K ∧ t.place.toList[i]? = some (way t.mask (k.hash w) c')) →
      wpAny (model P w) A (setSearchFrom a (.ref x) (k.hash w) true f stand) Q E s
  | 0, c, stand, _, _, hf, _ => absurd hf (Nat.not_lt_zero _)
  | f + 1, c, stand, hst, hc, hf, hre => by
    obtain ⟨o, ho, hex, hd⟩ := R.ob
    generalize hq : k.hash w = q at *
    rw [setSearchFrom_succ]
    refine wpAny_bind (wpAny_setState_of ho hd R.fits ?_)
    dsimp only
    refine wp_if_neg R.gw ?_
    try refine wpAny_bind (wpAny_pure ?_)
    generalize hp0 : runAt t.mask (SetTable.bits q % (t.mask + 1)) (SetTable.bits q) = p0 at *
    have wayE : ∀ n, way t.mask q n = (nth t.mask p0 n).j := fun n => by rw [← hp0]
    have hnd : (nth t.mask p0 c).dummy = none := nth_dummy _ _ _ (by rw [← hp0]; rfl)
    have e1 : ∀ n, (nth t.mask (nth t.mask p0 c) n).j = way t.mask q (c + n) := fun n => by rw [wayE, nth_add]
    have hashAt : ∀ (i : Nat) p, L[i]? = some p → (es[i]?.map (·.1)).getD 0 = p.2.hash w := fun i p hp => by rw [rws_get R.rows hp] <;> rfl
    have spec := go_spec t R.tab.ris R.tab.dm (fun i => (es[i]?.map (·.1)).getD 0) q (10 * SetTable.turns t.mask) (K - c) (nth t.mask p0 c) hnd (by omega)
      (fun n hn => by rw [e1]; exact hKb (c + n) (by omega)) (by rw [e1, show c + (K - c) = K by omega]; exact hK)
    have passed : ∀ (i0 : Nat) (p1 : Addr × NestedKey) (c' : Nat), L[i0]? = some p1 → p1.2 = k → t.place.toList[i0]? = some (way t.mask q c') → c ≤ c' → ∀ m : Nat, (∀ k' i' : Nat, k' < m → t.place.toList[i']? = some (nth t.mask (nth t.mask p0 c) k').j → ((es[i']?.map fun e : Int × Value => e.1).getD 0 : Int) ≠ q) → c + m ≤ c' := by
      intro i0 p1 c' h0 hk0 a3 a1 m hno
      rcases Nat.lt_or_ge c' (c + m) with z | z
      · exfalso
        refine hno (c' - c) i0 (by omega) (by rw [e1, show c + (c' - c) = c' by omega]; exact a3) ?_
        rw [hashAt i0 p1 h0, hk0, hq]
      · exact z
    rcases spec with ⟨n, i, hn, hi, hh, hno, hpr⟩ | ⟨hno, hpr⟩
    · have hpr' : t.probe (fun i => (es[i]?.map (·.1)).getD 0) q (stand.getD (t.probeStart q)) = some (.candidate (way t.mask q (c + n)) i (nth t.mask p0 (c + (n + 1)))) := by
        rw [hst, ← e1, nth_add]
        exact hpr
      rw [hpr']
      dsimp only
      rw [e1] at hi
      have hil : i < L.length := by
        have h1 : i < t.place.toList.length := (List.getElem?_eq_some_iff.mp hi).1
        have h2 := R.tab.sz
        rw [List.length_map] at h2
        rw [Array.length_toList] at h1
        omega
      have hp : L[i]? = some L[i] := List.getElem?_eq_getElem hil
      generalize L[i] = p at hp
      have hmem : p ∈ L := List.mem_of_getElem? hp
      have hpt := R.key p hmem
      have rest : wpAny (model P w) A (searchRest a (.ref x) q true f es t (way t.mask q (c + n)) i (nth t.mask p0 (c + (n + 1)))) Q E s := by
        unfold searchRest
        rw [rws_get R.rows hp]
        dsimp only
        refine wpAny_bind (wpAny_holding ((nestedKind P w).eqBool hu hpt hx ?_))
        refine wpAny_bind (wpAny_setState_of ho hd R.fits ?_)
        dsimp only
        by_cases hkk : p.2 = k
        · refine wp_if_pos (by simp [hkk]) ?_
          exact wpAny_pure (hin (List.mem_map.mpr ⟨p, hmem, hkk⟩))
        · refine wp_if_neg (by simp [hkk]) ?_
          try refine wpAny_bind (wpAny_pure ?_)
          rw [sameMem]
          dsimp only
          have hsl : t.slot (way t.mask q (c + n)) = .live i := slot_live R.tab.ris hi
          simp only [if_true, hsl, rws_get R.rows hp]
          refine wpAny_bind (wpAny_isSame_ref_self (wpAny_bind (wpAny_pure ?_)))
          simp only [if_true]
          refine wp_if_neg (by simp [hkk]) ?_
          subst hq
          subst hp0
          refine SN.from R hx hu hKf hK hKb hin hout f (c + (n + 1)) _ rfl (by omega) (by omega) fun i0 p1 h0 hk0 => ?_
          obtain ⟨c', a1, a2, a3⟩ := hre i0 p1 h0 hk0
          refine ⟨c', ?_, a2, a3⟩
          have le := passed i0 p1 c' h0 hk0 a3 a1 n hno
          rcases Nat.eq_or_lt_of_le le with y | y
          · exfalso
            rw [← y] at a3
            have s0 := slot_live R.tab.ris a3
            rw [hsl] at s0
            injection s0 with s0
            rw [← s0, hp] at h0
            exact hkk ((congrArg Prod.snd (Option.some.inj h0)).trans hk0)
          · omega
      by_cases hl : t.led = true
      · refine wp_if_neg (by simp [hl]) ?_
        try refine wpAny_bind (wpAny_pure ?_)
        exact rest
      · refine wp_if_pos (by simp [hl]) ?_
        refine wpAny_bind (seen_key hx (fun y hy => ?_) ?_)
        · obtain ⟨e, he, ee⟩ := List.mem_map.mp hy
          have he1 : e ∈ es ∧ e.1 = q := by simpa using he
          have he2 : e ∈ es.toList := by simpa using he1.1
          rw [R.rows] at he2
          obtain ⟨p2, hp2, e2⟩ := List.mem_map.mp he2
          refine ⟨p2.2, p2.1, ?_, R.key p2 hp2⟩
          rw [← ee, ← e2]
        · refine wp_if_neg (by decide) ?_
          try refine wpAny_bind (wpAny_pure ?_)
          exact rest
    · have hpr' : t.probe (fun i => (es[i]?.map (·.1)).getD 0) q (stand.getD (t.probeStart q)) = some (.empty (way t.mask q K) none) := by
        have e2 : way t.mask q K = (nth t.mask (nth t.mask p0 c) (K - c)).j := by
          rw [e1, show c + (K - c) = K by omega]
        rw [hst, e2]
        exact hpr
      rw [hpr']
      dsimp only
      refine wpAny_pure (hout fun hm => ?_)
      obtain ⟨p1, h0, hk0⟩ := List.mem_map.mp hm
      obtain ⟨i0, hi0, e0⟩ := List.getElem_of_mem h0
      have h00 : L[i0]? = some p1 := by rw [List.getElem?_eq_getElem hi0, e0]
      obtain ⟨c', a1, a2, a3⟩ := hre i0 p1 h00 hk0
      have le := passed i0 p1 c' h00 hk0 a3 a1 (K - c) hno
      omega
theorem SN.search (R : SN P w s.heap a L es ep t) {x : Addr} {k : NestedKey} (hx : IsN P w s.heap k x) (hu : A.units + 8 < cLine) {Q : SetFound → Shared → Prop}
    (hin : k ∈ L.map (·.2) → Q (.there none) s)
    (hout : ∀ K, k ∉ L.map (·.2) → way t.mask (k.hash w) K ∉ t.place.toList → (∀ c, c < K → way t.mask (k.hash w) c ∈ t.place.toList) → Q (.free (way t.mask (k.hash w) K) false) s) :
    wpAny (model P w) A (setSearch a (.ref x) (k.hash w) true) Q E s := by
  have hroom := R.room
  obtain ⟨K, hKf, hK, hKb⟩ := R.tab.first (by rw [List.length_map]; omega) (k.hash w)
  have hbig : K < 100000 := by
    have : 10 * SetTable.turns t.mask ≤ 1420 := by
      unfold SetTable.turns
      rcases R.tab.mok with e | e | e <;> omega
    omega
  unfold setSearch
  refine R.from hx hu hKf hK hKb hin (fun hn => hout K hn hK hKb) 100000 0 none rfl (Nat.zero_le _) (by omega) fun i p hp hk => ?_
  have hi : (L.map fun p => p.2.hash w)[i]? = some (k.hash w) := by rw [List.getElem?_map, hp, ← hk] <;> rfl
  have hil : i < t.place.toList.length := by
    have h1 : i < L.length := (List.getElem?_eq_some_iff.mp hp).1
    have h2 := R.tab.sz
    rw [List.length_map] at h2
    rw [Array.length_toList]
    omega
  have hj := List.getElem?_eq_getElem hil
  obtain ⟨c, hc, e⟩ := R.tab.before hK hi hj
  exact ⟨c, Nat.zero_le _, hc, by rw [hj, e]⟩
/-! ### adding -/
theorem put_perm' {α : Type} (L : List α) (p : Nat) (x : α) : (L.take p ++ x :: L.drop p).Perm (x :: L) := put_perm L p x

theorem rws_order (es : Array (Int × Value)) (order : Array Nat) (hr : es.toList = rws w L) (hp : order.toList.Perm (List.range L.length)) :
    ∃ L2, (order.filterMap (es[·]?)).toList = rws w L2 ∧ L2.Perm L ∧ (L2.map fun p => p.2.hash w) = order.toList.map fun i => (es.map (·.1)).getD i 0 := by
  have hsz := rws_len hr
  have ent : ∀ i (h : i < L.length), es[i]? = some ((L[i]).2.hash w, Value.ref (L[i]).1) := fun i h => rws_get hr (List.getElem?_eq_getElem h)
  have key : ∀ l : List Nat, (∀ i ∈ l, i < L.length) → l.filterMap (fun i => es[i]?) = rws w (l.filterMap fun i => L[i]?) ∧ ((l.filterMap fun i => L[i]?).map fun p => p.2.hash w) = l.map fun i => (es.map (·.1)).getD i 0 := by
    intro l
    induction l with
    | nil => intro _; exact ⟨rfl, rfl⟩
    | cons i l ih =>
      intro hl
      have hi := hl i List.mem_cons_self
      obtain ⟨e1, e3⟩ := ih fun j hj => hl j (List.mem_cons_of_mem _ hj)
      have e5 : (es.map (·.1))[i]? = some ((L[i]).2.hash w) := by rw [Array.getElem?_map, ent i hi] <;> rfl
      rw [List.filterMap_cons_some (ent i hi), List.filterMap_cons_some (List.getElem?_eq_getElem hi), List.map_cons, List.map_cons, e1, e3]
      refine ⟨rfl, ?_⟩
      simp [Array.getD_eq_getD_getElem?, e5]
  obtain ⟨e1, e3⟩ := key order.toList fun i hi => List.mem_range.mp (hp.mem_iff.mp hi)
  refine ⟨_, by first | (rw [Array.toList_filterMap]; exact e1) | simpa using e1, ?_, e3⟩
  have h2 : (List.range L.length).filterMap (fun i => L[i]?) = L := by
    refine List.ext_getElem? fun j => ?_
    have key2 : ∀ n, n ≤ L.length → (List.range n).filterMap (fun i => L[i]?) = L.take n := by
      intro n
      induction n with
      | zero => intro _; rfl
      | succ n ih =>
        intro hn
        have hlt : n < L.length := hn
        rw [List.range_succ, List.filterMap_append, ih (Nat.le_of_lt hlt), List.take_succ, List.getElem?_eq_getElem hlt]
        rw [List.filterMap_cons_some (List.getElem?_eq_getElem hlt)] <;> rfl
    rw [key2 L.length (Nat.le_refl _), List.take_length]
  have h1 := hp.filterMap fun i => L[i]?
  rw [h2] at h1
  exact h1
theorem key_same {h h' : Heap} {k : NestedKey} {b : Addr} {o : Obj} (hb : IsN P w h k b) (ho : h.get? a = some o) (hd : o.data = .set es ep t) (hs : Heap.SameBut a h h') : IsN P w h' k b :=
  hb.at fun c ob vs n hc hq => by
    refine (hs.2 c ?_).trans hc
    rintro rfl
    rw [ho] at hc
    cases hc
    rw [hd] at hq
    cases hq
theorem relay_sn {o : Obj} (ho : s.heap.get? a = some o) (hex : o.ExactSet) (hd : o.data = .set es ep t) (hrows : es.toList = rws w L) (hsz : t.place.size = es.size) (hdm : t.dummies = #[]) (hfl : es.size ≤ t.mask)
    (nd : (L.map (·.2)).Nodup) (ky : ∀ p ∈ L, IsN P w s.heap p.2 p.1) (ld : w.params.followText "set-order" = true ∨ t.led = true) (few : L.length < 64) {wanted M : Nat}
    (hw : SetTable.sizeAbove wanted - 1 = M) (hM : MaskOk M) (hw2 : SetTable.sizeAbove wanted ≤ 128) (hn : L.length * 5 < M * 3) {Q : Unit → Shared → Prop}
    (hQ : ∀ h' L' es' ep' t', Heap.SameBut a s.heap h' → SN P w h' a L' es' ep' t' → L'.Perm L → Q () { s with heap := h' }) : wpAny (model P w) A (setRelay a wanted) Q E s := by
  have hsl := rws_len hrows
  have hfits : t.fits es.size = true := by
    unfold SetTable.fits SetTable.fill
    rw [hdm, Bool.and_eq_true, beq_iff_eq, decide_eq_true_eq]
    show t.place.size = es.size ∧ t.place.size + 0 ≤ t.mask
    omega
  obtain ⟨t', order, e, hp, T, em, el, ep', ed⟩ := relaid_ok t (hs := es.map (·.1)) (wanted := wanted) hw hM (by rw [Array.size_map, hsl]; omega)
  rw [Array.size_map, hsl] at hp
  obtain ⟨L2, r1, r2, r3⟩ := rws_order es order hrows hp
  rw [← r3] at T
  have hs2 : (order.filterMap (es[·]?)).size = es.size := by rw [rws_len r1, r2.length_eq, hsl]
  rw [setRelay_eq]
  refine wpAny_bind (wpAny_setState_of ho hd hfits ?_)
  dsimp only
  refine wp_if_neg (by rw [sizeLine_eq]; omega) ?_
  try refine wpAny_bind (wpAny_pure ?_)
  rw [e]
  dsimp only
  refine wpAny_bind ?_
  refine wp_if_neg (by rw [hs2]; simp) ?_
  try refine wpAny_bind (wpAny_pure ?_)
  refine wpAny_pure ?_
  dsimp only
  refine wpAny_storeSet_of ho hd ?_ (by rw [hs2, hsl, sizeLine_eq]; omega)
  have sb : Heap.SameBut a s.heap (s.heap.update a (Obj.putSet (order.filterMap (es[·]?)) t')) := Heap.SameBut.update ..
  refine hQ _ L2 (order.filterMap (es[·]?)) (ep + 1) t' sb ?_ r2
  refine ⟨⟨_, store_at ho hd, ⟨hex.1, hex.2.1, hex.2.2⟩, rfl⟩, r1, T, (r2.map (·.2)).nodup_iff.mpr nd, fun p hpm => key_same (ky p (r2.mem_iff.mp hpm)) ho hd sb, by rw [el]; exact ld, ?_, by rw [r2.length_eq]; exact few⟩
  rw [r2.length_eq, em]
  exact hn
theorem SN.add (R : SN P w s.heap a L es ep t) {x : Addr} {k : NestedKey} (hx : IsN P w s.heap k x) (hu : A.units + 8 < cLine) (hfew : L.length + 1 < 64) {Q : Bool → Shared → Prop}
    (hQ : ∀ b h' L' es' ep' t', Heap.SameBut a s.heap h' → SN P w h' a L' es' ep' t' → (k ∈ L.map (·.2) → L' = L) → (k ∉ L.map (·.2) → L'.Perm ((x, k) :: L)) → Q b { s with heap := h' }) :
    wpAny (model P w) A (setAddHashed a (.ref x) (k.hash w)) Q E s := by
  obtain ⟨o, ho, hex, hd⟩ := R.ob
  have hsl := rws_len R.rows
  have hroom := R.room
  unfold setAddHashed
  refine wpAny_holding ?_
  rw [show (100000 : Nat) = 99999 + 1 from rfl, setAddHashedIn_succ]
  refine wpAny_bind (wpAny_setState_of ho hd R.fits ?_)
  dsimp only
  refine wp_if_neg (by simp [byScan, Value.scannable]) ?_
  try refine wpAny_bind (wpAny_pure ?_)
  refine wpAny_bind (R.search hx hu (fun hm => ?_) fun K hm hK hb => ?_)
  · dsimp only
    exact wpAny_pure (hQ false s.heap L es ep t (Heap.SameBut.refl a s.heap) R (fun _ => rfl) fun z => absurd hm z)
  · dsimp only
    refine wpAny_bind (wpAny_setState_of ho hd R.fits ?_)
    dsimp only
    obtain ⟨q1, q2, q3, q4, q5, q6, q7, q8, q9⟩ := R.tab.put hK hb
    generalize hpt : t.put (way t.mask (k.hash w) K) = pt at q1 q3 q4 q5 q6 q7 q8 q9 ⊢
    obtain ⟨t1, p⟩ := pt
    dsimp only at q1 q3 q4 q5 q6 q7 q8 q9 ⊢
    subst q1
    have hin : (SetTable.insertAt es (SetTable.below t.place (way t.mask (k.hash w) K)) (k.hash w, Value.ref x)).toList = rws w (L.take (SetTable.below t.place (way t.mask (k.hash w) K)) ++ (x, k) :: L.drop (SetTable.below t.place (way t.mask (k.hash w) K))) := by
      rw [SetTable.toList_insertAt, R.rows]
      unfold rws
      rw [List.map_append, List.map_cons, List.map_take, List.map_drop]
    generalize hpp : SetTable.below t.place (way t.mask (k.hash w) K) = p at q2 q3 hin ⊢
    have pm := put_perm' L p (x, k)
    have hlen : (L.take p ++ (x, k) :: L.drop p).length = L.length + 1 := pm.length_eq
    have hhs : (L.take p ++ (x, k) :: L.drop p).map (fun p => p.2.hash w) = (L.map fun p => p.2.hash w).take p ++ k.hash w :: (L.map fun p => p.2.hash w).drop p := by
      rw [List.map_append, List.map_cons, List.map_take, List.map_drop]
    rw [← hhs] at q3
    have nd1 : ((L.take p ++ (x, k) :: L.drop p).map (·.2)).Nodup := by
      refine (pm.map (·.2)).nodup_iff.mpr ?_
      rw [List.map_cons]
      exact List.nodup_cons.mpr ⟨hm, R.nd⟩
    have hes := rws_len hin
    rw [hlen] at hes
    generalize SetTable.insertAt es p (k.hash w, Value.ref x) = es1 at hin hes ⊢
    generalize L.take p ++ (x, k) :: L.drop p = L1 at pm hlen q3 nd1 hin
    -- whatever the mark for plain hashes says
    have fin : ∀ (pl : Bool), wpAny (model P w) A (do
        storeSet a es1 { t1 with plain := pl }
        if (!false && SetTable.tooFull { t1 with plain := pl }) = true then do
            setRelay a (SetTable.grown (es.size + 1))
            pure true
          else pure true) Q E s := fun pl => by
      have q3' := tab_plain (b := pl) q3
      have q5' : ({ t1 with plain := pl } : SetTable).led = t.led := q5
      have q4' : ({ t1 with plain := pl } : SetTable).mask = t.mask := q4
      have q9' : ({ t1 with plain := pl } : SetTable).fill = L.length + 1 := by
        have := q9
        rw [List.length_map] at this
        exact this
      generalize ({ t1 with plain := pl } : SetTable) = t2 at q3' q4' q5' q9' ⊢
      refine wpAny_bind (wpAny_storeSet_of ho hd ?_ (by rw [hes, sizeLine_eq]; omega))
      have sb : Heap.SameBut a s.heap (s.heap.update a (Obj.putSet es1 t2)) := Heap.SameBut.update ..
      have ho1 := store_at (es' := es1) (t' := t2) ho hd
      generalize s.heap.update a (Obj.putSet es1 t2) = h1 at sb ho1 ⊢
      have key1 : ∀ p ∈ L1, IsN P w h1 p.2 p.1 := fun p hp => by
        rcases List.mem_cons.mp (pm.mem_iff.mp hp) with e | hp
        · rw [e]; exact key_same hx ho hd sb
        · exact key_same (R.key p hp) ho hd sb
      have ld1 : w.params.followText "set-order" = true ∨ t2.led = true := by rw [q5']; exact R.led
      by_cases hf : t2.tooFull = true
      · refine wp_if_pos (by simp [hf]) ?_
        have hfull : (L.length + 1) * 5 ≥ t2.mask * 3 := by
          have h := hf
          unfold SetTable.tooFull at h
          rw [decide_eq_true_eq, q9'] at h
          exact h
        rw [hsl]
        have hsz1 : t2.place.size = es1.size := by
          have h := q3'.sz
          rw [List.length_map, hlen] at h
          rw [h, hes]
        have cases2 : (t.mask = 7 ∧ L.length = 4) ∨ (t.mask = 31 ∧ L.length = 18) := by
          rw [q4'] at hfull
          rcases R.tab.mok with e | e | e
          · left; rw [e] at hfull hroom; exact ⟨e, by omega⟩
          · right; rw [e] at hfull hroom; exact ⟨e, by omega⟩
          · exfalso; rw [e] at hfull; omega
        have go : ∀ M, SetTable.sizeAbove (SetTable.grown (L.length + 1)) - 1 = M → MaskOk M → SetTable.sizeAbove (SetTable.grown (L.length + 1)) ≤ 128 → (L.length + 1) * 5 < M * 3 →
            wpAny (model P w) A (setRelay a (SetTable.grown (L.length + 1))) (fun _ s' => wpAny (model P w) A (pure true) Q E s') E { s with heap := h1 } := fun M h1' h2' h3' h4' => by
          refine relay_sn (s := { s with heap := h1 }) ho1 ⟨hex.1, hex.2.1, hex.2.2⟩ rfl hin hsz1 q3'.dm (by rw [hes, q4']; rcases cases2 with ⟨e, e2⟩ | ⟨e, e2⟩ <;> omega) nd1 key1 ld1 (by rw [hlen]; exact hfew) h1' h2' h3' (by rw [hlen]; exact h4') ?_
          intro h2 L2 es2 ep2 t3 sb2 R2 pm2
          exact wpAny_pure (hQ true h2 L2 es2 ep2 t3 (sb.trans sb2) R2 (fun z => absurd z hm) fun _ => pm2.trans pm)
        refine wpAny_bind ?_
        rcases cases2 with ⟨_, e2⟩ | ⟨_, e2⟩
        · exact go 31 (by rw [e2, size_20]) (.inr (.inl rfl)) (by rw [e2, size_20]; decide) (by omega)
        · exact go 127 (by rw [e2, size_76]) (.inr (.inr rfl)) (by rw [e2, size_76]; decide) (by omega)
      · refine wp_if_neg (by simp [hf]) ?_
        refine wpAny_pure (hQ true h1 L1 es1 (ep + 1) t2 sb ⟨⟨_, ho1, ⟨hex.1, hex.2.1, hex.2.2⟩, rfl⟩, hin, q3', nd1, key1, ld1, ?_, by rw [hlen]; exact hfew⟩ (fun z => absurd z hm) fun _ => pm)
        have h := hf
        unfold SetTable.tooFull at h
        rw [decide_eq_true_eq, q9'] at h
        rw [hlen]
        omega
    have same : ∀ b : Bool, ({ t1 with plain := t1.plain } : SetTable) = t1 := fun _ => rfl
    by_cases hpl : t1.plain = true
    · refine wp_if_pos hpl ?_
      refine wpAny_bind (hashBy_key _ _ 8 _ hx.1 _ _ _ fun b => ?_)
      cases b
      · exact fin false
      · exact fin t1.plain
    · refine wp_if_neg hpl ?_
      refine wpAny_bind (wpAny_pure ?_)
      exact fin t1.plain
end

/-! ### set(xs) -/
section
variable {P : Program} {w : World} {A : Around} {E : Value → Shared → Prop} {s : Shared}
theorem upd_loop {I : Addr} {fp wr : List Addr} {G : Array GenState → Array GenState → Prop} {n : Nat} {Pv : Nat → Value → Prop} {St : Nat → Shared → Prop} {R : Result → Shared → Prop}
    (W : WalksS P w A.in1 I fp wr G n Pv St) (S : Addr) (hSf : S ∉ fp) (Good : Nat → Heap → Prop) (h0 : Heap) (hS0 : h0.get? S = none) (hw0 : ∀ b ∈ wr, h0.get? b = none)
    (stay : ∀ i h h', Good i h → (∀ o, h.get? S = some o → h'.get? S = some o) → (∀ b o, h0.get? b = some o → h'.get? b = some o) → Good i h')
    (step : ∀ i v (s : Shared) (E : Value → Shared → Prop) (Q : Bool → Shared → Prop), i < n → Pv i v → Good i s.heap → (∀ b o, h0.get? b = some o → s.heap.get? b = some o) →
      (∀ b h' tk, s.toks ≤ tk → Heap.SameBut S s.heap h' → Good (i + 1) h' → Q b { s with heap := h', toks := tk }) → wpAny (model P w) A.in1 (setAdd S v) Q E s) :
    ∀ (k i : Nat) (s : Shared), n - i = k → i ≤ n → St i s → (∀ b o, h0.get? b = some o → s.heap.get? b = some o) → Good i s.heap →
      (∀ s', Moved (S :: wr) G s s' → Good n s'.heap → (∀ b o, h0.get? b = some o → s'.heap.get? b = some o) → R (.ok (.ret .none)) s') →
      codeAny (model P w) A (.builtin "set.update.loop" ⟨[.ref S, .ref I], []⟩) R s := by
  have hSw : S ∉ wr := fun h => hSf (W.sub _ h)
  have hsub : ∀ b ∈ wr, b ∈ S :: wr := fun b hb => List.mem_cons_of_mem _ hb
  have keepM : ∀ {s s' : Shared}, Moved wr G s s' → (∀ b o, h0.get? b = some o → s.heap.get? b = some o) → ∀ b o, h0.get? b = some o → s'.heap.get? b = some o := fun hm hkp b o e =>
    hm.heap b o (fun hb => by rw [hw0 b hb] at e; cases e) (hkp b o e)
  intro k
  induction k with
  | zero =>
    intro i s hk' hi hst hkp g hR
    have hin : i = n := by omega
    subst hin
    refine codeAny_builtin F.entry_set_update_loop ?_
    rw [Around.under_plainId F.plain_set_update_loop _]
    show wpAny _ A.in1 (pyNext (.ref I) >>= _) _ _ s
    refine wpAny_bind (W.done s _ _ hst fun s' hm => ?_)
    show wpAny _ A.in1 (ret Value.none) _ _ s'
    have hkp' := keepM hm hkp
    exact wpAny_pure (hR s' (hm.mono hsub) (stay i _ _ g (fun o e => hm.heap S o hSw e) hkp') hkp')
  | succ k ih =>
    intro i s hk' hi hst hkp g hR
    have hlt : i < n := by omega
    refine codeAny_builtin F.entry_set_update_loop ?_
    rw [Around.under_plainId F.plain_set_update_loop _]
    show wpAny _ A.in1 (pyNext (.ref I) >>= _) _ _ s
    refine wpAny_bind (W.item i s _ _ hlt hst fun v s' hP hst' hm => ?_)
    have hkp' := keepM hm hkp
    have g' : Good i s'.heap := stay i _ _ g (fun o e => hm.heap S o hSw e) hkp'
    show wpAny _ A.in1 (holding [v] (setAdd S v) >>= _) _ _ s'
    refine wpAny_bind (wpAny_holding ?_)
    refine step i v s' _ _ hlt hP g' hkp' fun b h' tk htk hsb g2 => ?_
    have hkp2 : ∀ b o, h0.get? b = some o → h'.get? b = some o := fun b o e => (hsb.2 b (fun z => by rw [z, hS0] at e; cases e)).trans (hkp' b o e)
    refine wpAny_pure ⟨plainId_quiet F.plain_set_update_loop _, ih (i + 1) _ (by omega) hlt (W.frame _ s' _ _ hst' htk fun b hb o e => ?_) hkp2 g2 fun s'' hm'' g'' hkp'' => ?_⟩
    · rw [hsb.2 b (fun h : b = S => hSf (by rw [← h]; exact hb))]; exact e
    · refine hR s'' (Moved.trans W.gtrans ((hm.mono hsub).then_heap htk fun b o hb e => ?_) hm'') g'' hkp''
      rw [hsb.2 b (fun h : b = S => hb (by rw [h]; exact List.mem_cons_self))]; exact e

def fresh0 (w : World) : Obj := { cls := .type "set", dict := none, data := .set #[] 0 (.fresh 0 0 (!w.params.followText "set-order")) }
set_option maxHeartbeats 3200000 in
/-- set(xs) of a list -/
theorem call_set_gen {l : Addr} {items : Array Value} {Q : Value → Shared → Prop} (Good : Nat → Heap → Prop) (hh : A.handled = none) (hl : s.heap.IsList l items)
    (stay : ∀ i h h', Good i h → (∀ o, h.get? s.heap.objs.size = some o → h'.get? s.heap.objs.size = some o) → (∀ b o, s.heap.get? b = some o → h'.get? b = some o) → Good i h')
    (start : ∀ h : Heap, h.get? s.heap.objs.size = some (fresh0 w) → (∀ b o, s.heap.get? b = some o → h.get? b = some o) → Good 0 h)
    (step : ∀ i v (s' : Shared) (A' : Around) (E : Value → Shared → Prop) (Q : Bool → Shared → Prop), A'.units ≤ A.units + 3 → i < items.size → items[i]? = some v → Good i s'.heap → (∀ b o, s.heap.get? b = some o → s'.heap.get? b = some o) →
      (∀ b h' tk, s'.toks ≤ tk → Heap.SameBut s.heap.objs.size s'.heap h' → Good (i + 1) h' → Q b { s' with heap := h', toks := tk }) → wpAny (model P w) A' (setAdd s.heap.objs.size v) Q E s')
    (h : ∀ (h' : Heap) (tk : Nat), Good items.size h' → (∀ b o, s.heap.get? b = some o → h'.get? b = some o) → Q (.ref s.heap.objs.size) { s with heap := h', toks := tk }) :
    wpAny (model P w) A (call (.type "set") [.ref l]) Q E s := by
  obtain ⟨c, tl, hmro⟩ := F.called_set.mro
  have hmade := F.called_set.made
  have hsub := F.called_set.sub
  refine wpAny_call (codeAny_of_tree ?_)
  show wpAny _ _ (callAny (.type "set") _) _ _ _
  refine wpAny_pure ⟨Code.quiet_builtin _ (by decide +kernel), codeAny_builtin F.entry_type_call ?_⟩
  rw [Around.under_plain (weight_type_call_type "set" [.ref l] []) rfl]
  have h1 := F.called_set.notType
  have h2 := F.called_set.canCreate
  have hct := F.typeCall_set_1 (.ref l)
  repeat (any_goals (first | assumption | wp_step))

  refine codeAny_mono (code_set_led1 (.ref l) (E := E) (Q₁ := fun obj s₁ => obj = .ref s.heap.objs.size ∧ s₁ = { s with heap := s.heap.push { cls := .type "set", dict := none, data := .set #[] 0 (.fresh 0 0 (!w.params.followText "set-order")) } }) ⟨rfl, rfl⟩) fun r s₁ hr => ?_
  cases r with
  | error e => exact hr
  | ok fl =>
    cases fl with
    | ret obj =>
      obtain ⟨rfl, rfl⟩ := hr
      have hS : (s.heap.push { cls := .type "set", dict := none, data := .set #[] 0 (.fresh 0 0 (!w.params.followText "set-order")) }).get? s.heap.objs.size = some { cls := .type "set", dict := none, data := .set #[] 0 (.fresh 0 0 (!w.params.followText "set-order")) } := Heap.get?_push_size _ rfl
      have hT : Shared.TypeIs { s with heap := s.heap.push { cls := .type "set", dict := none, data := .set #[] 0 (.fresh 0 0 (!w.params.followText "set-order")) } } (.ref s.heap.objs.size) "set" := ⟨_, hS, rfl⟩
      have hli := F.called_set.init.lookup
      have hbi := F.called_set.init.bind (.ref s.heap.objs.size)
      repeat (any_goals (first | assumption | wp_step))

      refine codeAny_mono (codeAny_call_builtin (R := wants (fun r s₂ => r = .none ∧ ∃ h' tk, s₂ = { s with heap := h', toks := tk } ∧ Good items.size h' ∧
          (∀ b o, s.heap.get? b = some o → h'.get? b = some o)) E) F.called_set.init.plain F.entry_set_init (check_set_init_1 hT ?_)) fun r₂ s₂ hr₂ => ?_
      · obtain ⟨ol, hol, hcl, nl, hdl⟩ := hl
        obtain ⟨ocls, odict, odata, oslots⟩ := ol
        simp only at hcl hdl
        subst hcl; subst hdl
        have hol' : (s.heap.push { cls := .type "set", dict := none, data := .set #[] 0 (.fresh 0 0 (!w.params.followText "set-order")) }).get? l = some { cls := .type "list", dict := odict, data := .seq items nl, slots := oslots } := Heap.get?_push_of_some _ hol
        have hsls := F.sub_list_set
        have hslf := F.sub_list_frozenset
        have hne : (Value.type "list" == Value.type "dict") = false := by decide
        have hl1 : (s.heap.push { cls := .type "set", dict := none, data := .set #[] 0 (.fresh 0 0 (!w.params.followText "set-order")) }).IsList l items := ⟨_, hol', rfl, nl, rfl⟩
        unfold Builtin.«set.__init__» noKeywords Builtin.Frozenset.updateFrom
        generalize hPI : pyIter = PI
        wp_walk
        subst hPI

        refine wpAny_pyIter_list hl1 ?_
        refine wpAny_bind (wpAny_runValue ?_)
        have hlS : l < s.heap.objs.size := Heap.lt_size hol
        have hh3 : A.in1.in1.in1.handled = none := by simp [hh]
        have hneI : l ≠ (s.heap.push { cls := .type "set", dict := none, data := .set #[] 0 (.fresh 0 0 (!w.params.followText "set-order")) }).objs.size := by
          rw [Heap.size_push]; exact Nat.ne_of_lt (Nat.lt_succ_of_lt hlS)
        have hSf : s.heap.objs.size ∉ [(s.heap.push { cls := .type "set", dict := none, data := .set #[] 0 (.fresh 0 0 (!w.params.followText "set-order")) }).objs.size, l] := by
          rw [Heap.size_push]; simp only [List.mem_cons, List.mem_singleton, List.not_mem_nil, or_false, not_or]
          exact ⟨Nat.ne_of_lt (Nat.lt_succ_self _), Nat.ne_of_gt hlS⟩
        have none_of : ∀ b, s.heap.objs.size ≤ b → s.heap.get? b = none := fun b hb => by
          cases q : s.heap.get? b with
          | none => rfl
          | some o => exact absurd (Nat.lt_of_lt_of_le (Heap.lt_size q) hb) (Nat.lt_irrefl _)
        have kp0 : ∀ b o, s.heap.get? b = some o → ((s.heap.push { cls := .type "set", dict := none, data := .set #[] 0 (.fresh 0 0 (!w.params.followText "set-order")) }).push { cls := .type "list_iterator", data := .fields #[.ref l, .int 0 0] }).get? b = some o := fun b o e => Heap.get?_push_of_some _ (Heap.get?_push_of_some _ e)
        refine upd_loop ((Walks.list hh3 _ l hneI items).toS) s.heap.objs.size
          hSf Good s.heap (none_of _ (Nat.le_refl _)) (fun b hb => none_of b (by
            rw [List.mem_singleton.mp hb, Heap.size_push]
            exact Nat.le_succ _)) stay (fun i v s' E' Q' hi hv g k q => step i v s' _ E' Q' (by simp only [Around.in1_units]; omega) hi hv g k q) (items.size - 0) 0 _ (by omega) (Nat.zero_le _)
          ⟨⟨_, Heap.get?_push_size _ rfl, rfl, rfl⟩, (hl1.push _)⟩ kp0 (start _ (Heap.get?_push_of_some _ hS) kp0) ?hR
        case hR =>
          intro s' hm g' hkp
          obtain ⟨h', g2, d', tk', os'⟩ := s'
          have eg : g2 = s.gens := hm.gens
          have ed : d' = s.drawn := hm.drawn
          have eo : os' = s.os := hm.os
          subst eg; subst ed; subst eo
          show wpAny _ _ _ _ _ _
          refine wpAny_pure ?_
          show wpAny _ _ (ret Value.none) _ _ _
          exact wpAny_pure ⟨rfl, h', tk', rfl, g', hkp⟩

      · cases r₂ with
        | error e => exact hr₂
        | ok fl₂ =>
          cases fl₂ with
          | ret r =>
            obtain ⟨rfl, h', tk, rfl, g', hk'⟩ := hr₂
            repeat (any_goals (first | assumption | wp_step))
            exact h _ _ g' hk'
          | _ => exact hr₂.elim
    | _ => exact hr.elim
end
end NS

namespace NS
open PySem PySem.Spec PyProof.Rows L2

/-! ### data as keys -/
mutual
def nkey : PyData → Option NestedKey
  | .none => some .none
  | .int i => some (.num i)
  | .str x => some (.text x)
  | .tuple ds => (nkeys ds).map .tup
  | .bool _ => none
  | .list _ => none
  | .dict _ => none
def nkeys : List PyData → Option (List NestedKey)
  | [] => some []
  | d :: ds => match nkey d, nkeys ds with
    | some k, some ks => some (k :: ks)
    | _, _ => none
end
theorem nkeys_cons {d : PyData} {ds : List PyData} {ks : List NestedKey} (h : nkeys (d :: ds) = some ks) : ∃ k r, nkey d = some k ∧ nkeys ds = some r ∧ ks = k :: r := by
  rw [nkeys] at h
  split at h
  · cases h
    exact ⟨_, _, by assumption, by assumption, rfl⟩
  · cases h
mutual
theorem nkey_is {h : Heap} : ∀ (d : PyData) (u : Value) (as : List Addr) (k : NestedKey), Reads h u d as → nkey d = some k → NestedIs h k u
  | .none, _, _, _, r, e => by
    rw [nkey] at e
    cases e
    cases r
    exact .none
  | .int i, _, _, _, r, e => by
    rw [nkey] at e
    cases e
    cases r
    exact .int _ _
  | .str x, _, _, _, r, e => by
    rw [nkey] at e
    cases e
    cases r
    exact .text _ _
  | .tuple ds, _, _, _, r, e => by
    rw [nkey] at e
    cases q : nkeys ds with
    | none => rw [q] at e; cases e
    | some ks =>
      rw [q] at e
      cases e
      cases r with
      | tuple h1 h2 h3 h4 => exact .tup h1 h2 h3 (nkeys_is ds _ _ ks h4 q)
  | .bool _, _, _, _, _, e => by rw [nkey] at e; cases e
  | .list _, _, _, _, _, e => by rw [nkey] at e; cases e
  | .dict _, _, _, _, _, e => by rw [nkey] at e; cases e
theorem nkeys_is {h : Heap} : ∀ (ds : List PyData) (us : List Value) (as : List Addr) (ks : List NestedKey), ReadsAll h us ds as → nkeys ds = some ks → NestedAll h ks us
  | [], _, _, _, r, e => by
    rw [nkeys] at e
    cases e
    cases r
    exact .nil
  | d :: ds, _, _, _, r, e => by
    obtain ⟨k, ks, e1, e2, rfl⟩ := nkeys_cons e
    cases r with
    | cons h1 h2 => exact .cons (nkey_is d _ _ k h1 e1) (nkeys_is ds _ _ ks h2 e2)
end
mutual
theorem nkey_data : ∀ (d : PyData) (k : NestedKey), nkey d = some k → k.data = d
  | .none, _, e => by
    rw [nkey] at e
    cases e
    rw [NestedKey.data]
  | .int i, _, e => by
    rw [nkey] at e
    cases e
    rw [NestedKey.data]
  | .str x, _, e => by
    rw [nkey] at e
    cases e
    rw [NestedKey.data]
  | .tuple ds, _, e => by
    rw [nkey] at e
    cases q : nkeys ds with
    | none => rw [q] at e; cases e
    | some ks =>
      rw [q] at e
      cases e
      rw [NestedKey.data, nkeys_data ds ks q]
  | .bool _, _, e => by rw [nkey] at e; cases e
  | .list _, _, e => by rw [nkey] at e; cases e
  | .dict _, _, e => by rw [nkey] at e; cases e
theorem nkeys_data : ∀ (ds : List PyData) (ks : List NestedKey), nkeys ds = some ks → NestedKey.datas ks = ds
  | [], _, e => by
    rw [nkeys] at e
    cases e
    rw [NestedKey.datas]
  | d :: ds, _, e => by
    obtain ⟨k, ks, e1, e2, rfl⟩ := nkeys_cons e
    rw [NestedKey.datas, nkey_data d k e1, nkeys_data ds ks e2]
end

/-! ### the set of ints of a list, the set of tuples of a list -/
section
variable {P : Program} {w : World} {A : Around} {E : Value → Shared → Prop} {s : Shared}
theorem call_setI {l : Addr} {items : Array Value} {ns : List Int} {Q : Value → Shared → Prop} (hh : A.handled = none) (hl : s.heap.IsList l items) (hi : ∀ (i : Nat) (v : Value), items[i]? = some v → ∃ t, v = Value.int (ns.getD i 0) t) (hn : ns.length = items.size) (hfew : items.size < 4000)
    (h : ∀ (h' : Heap) (tk n : Nat), SetR w h' s.heap.objs.size (fun k => ns.any (· == k)) n → n ≤ items.size → (∀ b o, s.heap.get? b = some o → h'.get? b = some o) → Q (.ref s.heap.objs.size) { s with heap := h', toks := tk }) :
    wpAny (model P w) A (call (.type "set") [.ref l]) Q E s := by
  refine call_set_gen (fun i h' => ∃ n, SetR w h' s.heap.objs.size (fun k => (ns.take i).any (· == k)) n ∧ n ≤ i) hh hl (fun i h1 h2 g k _ => ?_) (fun h1 e _ => ?_) (fun i v s' A' E' Q' hA hlt hv g kp q => ?_) (fun h' tk g kp => ?_)
  · obtain ⟨n, R, le⟩ := g
    exact ⟨n, R.at k, le⟩
  · refine ⟨0, ?_, Nat.le_refl _⟩
    refine SetR.congr (S := fun _ => false) ⟨_, #[], 0, _, e, ⟨rfl, rfl, rfl⟩, rfl, (fun e he => by simp at he), (by simp), (fun k => by simp), (by decide), (by rfl), rfl, List.Pairwise.nil, ?_⟩ fun k => by simp
    show _ ∨ (!w.params.followText "set-order") = true
    cases w.params.followText "set-order"
    · exact .inr rfl
    · exact .inl rfl
  · obtain ⟨t, rfl⟩ := hi i v hv
    obtain ⟨n, R, le⟩ := g
    unfold setAdd
    refine wpAny_holding ?_
    refine wpAny_bind ((intKind P w).pyHash (intKind_is P w _ t) ?_)
    refine setR_add_hashed (s := { s' with toks := s'.toks + 1 }) R (by unfold scanBound; omega) fun h' sb r => ?_
    refine q _ h' (s'.toks + 1) (Nat.le_succ _) sb ⟨_, SetR.congr r fun k => ?_, ?_⟩
    · have hx : i < ns.length := by omega
      have hg : ns[i]? = some (ns.getD i 0) := by rw [List.getD_eq_getElem?_getD, List.getElem?_eq_getElem hx]; rfl
      rw [take_next hg, List.any_append]
      by_cases e : k = ns.getD i 0
      · subst e; simp
      · have e' : (ns.getD i 0 == k) = false := by simpa using fun z => e z.symm
        rw [List.any_cons, e', List.any_nil, decide_eq_false e]; simp
    · split <;> omega
  · obtain ⟨n, R, le⟩ := g
    rw [← hn, List.take_length] at R
    exact h h' tk n R le kp
theorem call_setN {l : Addr} {items : Array Value} (ks : Rw) {Q : Value → Shared → Prop} (hh : A.handled = none) (hl : s.heap.IsList l items) (hit : items.toList = ks.map fun p => Value.ref p.1)
    (hk : ∀ p ∈ ks, IsN P w s.heap p.2 p.1) (hfew : ks.length < 64) (hu : A.units + 12 < cLine)
    (h : ∀ (h' : Heap) (tk : Nat) L es ep t, SN P w h' s.heap.objs.size L es ep t → (∀ p ∈ L, p ∈ ks) → (∀ p ∈ ks, p.2 ∈ L.map (·.2)) → (∀ b o, s.heap.get? b = some o → h'.get? b = some o) → Q (.ref s.heap.objs.size) { s with heap := h', toks := tk }) :
    wpAny (model P w) A (call (.type "set") [.ref l]) Q E s := by
  have hsz : items.size = ks.length := by
    have q := congrArg List.length hit
    rw [Array.length_toList, List.length_map] at q
    exact q
  refine call_set_gen (fun i h' => (∀ b o, s.heap.get? b = some o → h'.get? b = some o) ∧ ∃ L es ep t, SN P w h' s.heap.objs.size L es ep t ∧ (∀ p ∈ L, p ∈ ks.take i) ∧ (∀ p ∈ ks.take i, p.2 ∈ L.map (·.2)) ∧ L.length ≤ i) hh hl (fun i h1 h2 g k kp => ?_) (fun h1 e kp => ?_) (fun i v s' A' E' Q' hA hlt hv g kp q => ?_) (fun h' tk g kp => ?_)
  · obtain ⟨_, L, es, ep, t, R, g1, g2, g3⟩ := g
    obtain ⟨o, ho, r⟩ := R.ob
    exact ⟨kp, L, es, ep, t, ⟨⟨o, k o ho, r⟩, R.rows, R.tab, R.nd, fun p hp => (hk p (List.mem_of_mem_take (g1 p hp))).keep kp, R.led, R.room, R.few⟩, g1, g2, g3⟩
  · refine ⟨kp, [], #[], 0, _, ⟨⟨_, e, ⟨rfl, rfl, rfl⟩, rfl⟩, rfl, ⟨List.Pairwise.nil, rfl, rfl, .inl rfl, fun x hx => (by cases hx), fun i h j hi => (by simp at hi)⟩, List.nodup_nil, fun p hp => (by cases hp), ?_, by show 0 * 5 < 7 * 3; decide, by decide⟩, fun p hp => (by cases hp), fun p hp => (by simp at hp), Nat.le_refl _⟩
    show _ ∨ (!w.params.followText "set-order") = true
    cases w.params.followText "set-order"
    · exact .inr rfl
    · exact .inl rfl
  · obtain ⟨_, L, es, ep, t, R, g1, g2, g3⟩ := g
    have hq : items.toList[i]? = some v := by rw [Array.getElem?_toList]; exact hv
    rw [hit, List.getElem?_map] at hq
    cases hp : ks[i]? with
    | none => rw [hp] at hq; cases hq
    | some p =>
      rw [hp] at hq
      obtain rfl := (Option.some.inj hq).symm
      have hx : IsN P w s'.heap p.2 p.1 := (hk p (List.mem_of_getElem? hp)).keep kp
      have hxs := take_next hp
      unfold setAdd
      refine wpAny_holding ?_
      refine wpAny_bind ((nestedKind P w).pyHash (by show A'.units + 8 < cLine; omega) hx ?_)
      have htk : s'.toks ≤ s'.toks + (nestedKind P w).draws p.2 := Nat.le_add_right _ _
      refine R.add (s := { s' with toks := s'.toks + (nestedKind P w).draws p.2 }) hx (by omega) (by omega) fun b h' L' es' ep' t' hsb R2 c1 c2 => ?_
      have none_of : s.heap.get? s.heap.objs.size = none := by
        cases q : s.heap.get? s.heap.objs.size with
        | none => rfl
        | some o => exact absurd (Heap.lt_size q) (Nat.lt_irrefl _)
      refine q b h' _ htk hsb ⟨fun b o e => (hsb.2 b (fun z => by rw [z, none_of] at e; cases e)).trans (kp b o e), L', es', ep', t', R2, ?_⟩
      rw [hxs]
      rcases Classical.em (p.2 ∈ L.map (·.2)) with c | c
      · rw [c1 c]
        refine ⟨fun x hx => List.mem_append_left _ (g1 x hx), fun x hx => ?_, Nat.le_succ_of_le g3⟩
        rcases List.mem_append.mp hx with z | z
        · exact g2 x z
        · rw [List.mem_singleton.mp z]; exact c
      · have pm := c2 c
        refine ⟨fun x hx => ?_, fun x hx => ?_, by rw [pm.length_eq, List.length_cons]; exact Nat.succ_le_succ g3⟩
        · rcases List.mem_cons.mp (pm.mem_iff.mp hx) with e | z
          · rw [e]; exact List.mem_append_right _ (List.mem_singleton.mpr rfl)
          · exact List.mem_append_left _ (g1 x z)
        · rw [(pm.map (·.2)).mem_iff, List.map_cons]
          rcases List.mem_append.mp hx with z | z
          · exact List.mem_cons_of_mem _ (g2 x z)
          · rw [List.mem_singleton.mp z]; exact List.mem_cons_self
  · obtain ⟨_, L, es, ep, t, R, g1, g2, g3⟩ := g
    rw [hsz, List.take_length] at g1 g2
    exact h h' tk L es ep t R g1 g2 kp
mutual
theorem reads_there {h : Heap} : ∀ {d : PyData} {v : Value} {as : List Addr}, Reads h v d as → ∀ a ∈ as, ∃ o, h.get? a = some o
  | _, _, _, .none, _, ha => by cases ha
  | _, _, _, .bool _, _, ha => by cases ha
  | _, _, _, .int _ _, _, ha => by cases ha
  | _, _, _, .str _ _, _, ha => by cases ha
  | _, _, _, .list h1 _ _ h4, a, ha => by
    rcases List.mem_cons.mp ha with rfl | ha
    · exact ⟨_, h1⟩
    · exact readsAll_there h4 a ha
  | _, _, _, .tuple _ _ _ h4, a, ha => readsAll_there h4 a ha
  | _, _, _, .dict h1 _ _ h4 h5, a, ha => by
    rcases List.mem_append.mp ha with ha | ha
    · rcases List.mem_cons.mp ha with rfl | ha
      · exact ⟨_, h1⟩
      · exact readsAll_there h4 a ha
    · exact readsAll_there h5 a ha
theorem readsAll_there {h : Heap} : ∀ {ds : List PyData} {vs : List Value} {as : List Addr}, ReadsAll h vs ds as → ∀ a ∈ as, ∃ o, h.get? a = some o
  | _, _, _, .nil, _, ha => by cases ha
  | _, _, _, .cons h1 h2, a, ha => by
    rcases List.mem_append.mp ha with ha | ha
    · exact reads_there h1 a ha
    · exact readsAll_there h2 a ha
end
theorem perm_of_map {α β : Type} (f : α → β) {vs ws : List β} (h : vs.Perm ws) : ∀ L : List α, ws = L.map f → ∃ L1 : List α, L1.Perm L ∧ vs = L1.map f := by
  induction h with
  | nil =>
    intro L e
    exact ⟨L, .refl _, e⟩
  | cons x _ ih =>
    intro L e
    cases L with
    | nil => cases e
    | cons y L =>
      rw [List.map_cons, List.cons.injEq] at e
      obtain ⟨rfl, e⟩ := e
      obtain ⟨L1, p, q⟩ := ih L e
      exact ⟨y :: L1, p.cons _, by rw [List.map_cons, q]⟩
  | swap x y l =>
    intro L e
    match L, e with
    | a :: b :: L, e =>
      rw [List.map_cons, List.map_cons, List.cons.injEq, List.cons.injEq] at e
      obtain ⟨rfl, rfl, rfl⟩ := e
      exact ⟨b :: a :: L, .swap _ _ _, rfl⟩
  | trans _ _ ih1 ih2 =>
    intro L e
    obtain ⟨L1, p1, q1⟩ := ih2 L e
    obtain ⟨L2, p2, q2⟩ := ih1 L1 q1
    exact ⟨L2, p2.trans p1, q2⟩
abbrev dkey (p : Addr × NestedKey) : PyData := p.2.data
theorem sorted_sn {a : Addr} {L : Rw} {es : Array (Int × Value)} {ep : Nat} {t : SetTable} {Q : Value → Shared → Prop} (R : SN P w s.heap a L es ep t) (hh : A.handled = none)
    (hr : ∀ p ∈ L, ∃ as, Reads s.heap (.ref p.1) (dkey p) as) (hal : PySem.W.AllAlike (L.map dkey)) (hk : PySem.W.Sortable (L.map dkey)) (hu : ∀ p ∈ L, A.units + 2 + (dkey p).depth < cLine)
    (hQ : ∀ s' p (out : Array Value) (c : Nat) (L' : Rw), (∀ b o, s.heap.get? b = some o → s'.heap.get? b = some o) → s'.gens = s.gens → s'.os = s.os → s.heap.objs.size ≤ p →
      s'.heap.get? p = some (seqObj "list" out c) → out.toList = L'.map (fun q => Value.ref q.1) → L'.Perm L → L'.Pairwise (fun x y => PySem.W.dataLe false dkey x y = true) → Q (.ref p) s') :
    wpAny (model P w) A (call (.builtin "sorted") [.ref a]) Q E s := by
  obtain ⟨o, ho, hex, hd⟩ := R.ob
  have hsz := rws_len R.rows
  have hfew := R.few
  refine Calls.call_function_entry kind_sorted plain_sorted entry_sorted (args_sorted1 _) ?_
  unfold Builtin.«sorted»
  refine wpAny_bind (m := checkCount "sorted" 1 1 _) (wpAny_pure ?_)
  refine wpAny_bind (collect_set (A := A.in1) hh ⟨o, ho, hex.1, hd⟩ R.fits (by unfold scanBound; omega) R.tab.ris R.led fun s1 vs k1 hz g1 o1 pm => ?_)
  have hes : es.toList.map (·.2) = L.map fun q => Value.ref q.1 := by
    rw [R.rows]
    unfold rws
    rw [List.map_map] <;> rfl
  rw [hes] at pm
  obtain ⟨L1, p1, rfl⟩ := perm_of_map (fun q : Addr × NestedKey => Value.ref q.1) pm L rfl
  have hl1 : L1.length < 64 := by rw [p1.length_eq]; exact hfew
  refine wpAny_bind (wpAny_newList ?_ (by rw [List.length_map, sizeLine_eq]; omega))
  have hoL : (s1.heap.push (seqObj "list" (L1.map fun q => Value.ref q.1).toArray 0)).get? s1.heap.objs.size = some (seqObj "list" (L1.map fun q => Value.ref q.1).toArray 0) := Heap.get?_push_size _ rfl
  have each : ∀ (M : Rw) (T : Value → Addr × NestedKey → Prop), (∀ p ∈ M, T (.ref p.1) p) → PySem.W.EachIs T (M.map fun q => Value.ref q.1) M := by
    intro M T
    induction M with
    | nil => intro _; exact .nil
    | cons p M ih => intro hM; exact .cons (hM p List.mem_cons_self) (ih fun q hq => hM q (List.mem_cons_of_mem _ hq))
  have none_of : s.heap.get? s1.heap.objs.size = none := by
    cases q : s.heap.get? s1.heap.objs.size with
    | none => rfl
    | some o => exact absurd (Nat.lt_of_lt_of_le (Heap.lt_size q) hz) (Nat.lt_irrefl _)
  have mapP : (L1.map dkey).Perm (L.map dkey) := p1.map _
  refine wpAny_bind (wpAny_holding (PySem.W.list_sort_data (s := { s1 with heap := s1.heap.push (seqObj "list" (L1.map fun q => Value.ref q.1).toArray 0) }) (bs := L1) (enc := dkey) (R := fun v p => v = Value.ref p.1) hoL (each L1 _ fun _ _ => rfl) (each L1 _ fun p hp => ?_)
    (fun d hd d' hd' => hal d (mapP.mem_iff.mp hd) d' (mapP.mem_iff.mp hd')) (hk.imp (fun z d hd => z d (mapP.mem_iff.mp hd)) fun z d hd => z d (mapP.mem_iff.mp hd)) (by rw [sizeLine_eq]; omega) (fun p hp => by have := hu p (p1.mem_iff.mp hp); simp only [Around.in1_units]; omega) fun out lo eo => ?_))
  · obtain ⟨as, r⟩ := hr p (p1.mem_iff.mp hp)
    refine ⟨as, PyProof.Rows.Reads.keeps (fun b u e => Heap.get?_push_of_some _ (k1 b u e)) r, fun hm => ?_⟩
    obtain ⟨ob, e⟩ := reads_there r _ hm
    rw [none_of] at e
    cases e
  · obtain ⟨c, hc⟩ := sortedHeap_at (vs := L1.map fun q => Value.ref q.1) (out := out.toArray) hoL
    have outE : ∀ {vs : List Value} {M : Rw}, PySem.W.EachIs (fun v (p : Addr × NestedKey) => v = Value.ref p.1) vs M → vs = M.map fun q => Value.ref q.1 := by
      intro vs M h
      induction h with
      | nil => rfl
      | cons h _ ih => rw [List.map_cons, h, ih]
    refine wpAny_pure ⟨_, rfl, hQ _ s1.heap.objs.size out.toArray c (L1.mergeSort (PySem.W.dataLe false dkey)) (fun b u e => ?_) g1 o1 hz hc (by simpa using outE eo) ((List.mergeSort_perm _ _).trans p1) (PySem.W.sort_pairwise (PySem.W.sortLe_total _ _ _) _)⟩
    have q := k1 b u e
    have hlt := Heap.lt_size q
    show (sortedHeap (s1.heap.push (seqObj "list" (L1.map fun q => Value.ref q.1).toArray 0)) s1.heap.objs.size _ _).get? b = some u
    rw [sortedHeap_old (Nat.ne_of_lt hlt) (by rw [size_push']; exact Nat.lt_succ_of_lt hlt)]
    exact Heap.get?_push_of_some _ q
end
end NS

namespace NS
open PySem PySem.Spec PyProof.Rows L2
/-! ### over the layer -/
structure SN0 (w : World) (h : Heap) (a : Addr) (L : Rw) : Prop where
  ex : ∃ (es : Array (Int × Value)) (ep : Nat) (t : SetTable), (∃ o, h.get? a = some o ∧ o.ExactSet ∧ o.data = .set es ep t) ∧ es.toList = rws w L ∧ TabOk t (L.map fun p => p.2.hash w) ∧ (L.map (·.2)).Nodup ∧
    (w.params.followText "set-order" = true ∨ t.led = true) ∧ L.length * 5 < t.mask * 3 ∧ L.length < 64
def SNO (w : World) (a : Addr) (L : Rw) : HO := .ext fun h => SN0 w h a L
theorem SN.t0 {P : Program} {w : World} {h : Heap} {a : Addr} {L : Rw} {es : Array (Int × Value)} {ep : Nat} {t : SetTable} (R : SN P w h a L es ep t) : SN0 w h a L :=
  ⟨es, ep, t, R.ob, R.rows, R.tab, R.nd, R.led, R.room, R.few⟩
theorem SN0.full {P : Program} {w : World} {h : Heap} {a : Addr} {L : Rw} (R : SN0 w h a L) (ht : ∀ p ∈ L, IsN P w h p.2 p.1) : ∃ es ep t, SN P w h a L es ep t := by
  obtain ⟨es, ep, t, h1, h2, h3, h4, h6, h7, h8⟩ := R.ex
  exact ⟨es, ep, t, h1, h2, h3, h4, ht, h6, h7, h8⟩
theorem sno_new {P : Program} {w : World} {H : Hp} {h : Heap} {a : Addr} {L : Rw} (R : SN0 w h a L) : ObjOk P w H h a (SNO w a L) := by
  have ⟨es, ep, t, ⟨o, ho, r⟩, q⟩ := R.ex
  refine ⟨R, ⟨o, ho⟩, fun h1 h2 p k => ?_⟩
  have ⟨es', ep', t', ⟨o', ho', r'⟩, q'⟩ := SN0.ex p
  exact ⟨es', ep', t', ⟨o', k o' ho', r'⟩, q'⟩
section
variable {X : Cx}
/-- the tuple at p.1 is the key p.2 -/
def KeyAt (K : PySem.W.Frag) (H : Hp) (p : Addr × NestedKey) : Prop := ∃ d, Dp K H (.ref p.1) d ∧ nkey d = some p.2 ∧ p.2.depth ≤ 8
theorem KeyAt.reads {pins : List (Addr × Obj)} {σ : L2.St} {H : Hp} {s : Shared} {p : Addr × NestedKey} (I : Inv X pins σ H s) (h : KeyAt X.K H p) : ∃ as, Reads s.heap (.ref p.1) p.2.data as := by
  obtain ⟨d, h1, h2, _⟩ := h
  obtain ⟨as, r⟩ := Dp.reads I d (.ref p.1) (.ref p.1) h1 rfl
  rw [nkey_data d _ h2]
  exact ⟨as, r⟩
theorem KeyAt.is {pins : List (Addr × Obj)} {σ : L2.St} {H : Hp} {s : Shared} {p : Addr × NestedKey} (I : Inv X pins σ H s) (h : KeyAt X.K H p) : IsN X.prog X.w s.heap p.2 p.1 := by
  obtain ⟨d, h1, h2, h3⟩ := h
  obtain ⟨as, r⟩ := Dp.reads I d (.ref p.1) (.ref p.1) h1 rfl
  exact ⟨nkey_is d _ as _ r h2, h3⟩
theorem refs_vals : ∀ {ks : Rw} {us : List Value}, Vals (ks.map fun p => V.ref p.1) us → us = ks.map fun p => Value.ref p.1
  | [], _, .nil => rfl
  | p :: ks, _, .cons r t => by
    cases r
    rw [refs_vals t] <;> rfl
theorem vals_refs : ∀ (ks : Rw), Vals (ks.map fun p => V.ref p.1) (ks.map fun p => Value.ref p.1)
  | [] => .nil
  | p :: ks => .cons rfl (vals_refs ks)
def rSetN (K : PySem.W.Frag) (w : World) : List V → Hp → VK → Prop := fun xs H Q => ∃ (l : Addr) (ks : Rw), xs = [V.ref l] ∧ SqL K H l (ks.map fun p => V.ref p.1) ∧ (∀ p ∈ ks, KeyAt K H p) ∧ ks.length < 64 ∧
  ∀ a L, H a = none → (∀ p ∈ L, p ∈ ks) → (∀ p ∈ ks, p.2 ∈ L.map (·.2)) → (L.map (·.2)).Nodup → Q (.ref a) (upd H a (SNO w a L))
theorem cr_setN (hc : X.calm = true) (hu : X.A.units + 64 < cLine) : CallR X (.type "set") (rSetN X.K X.w) := by
  intro pins s σ H xs us Q I r h
  obtain ⟨l, ks, rfl, hl, hk, hf, q⟩ := h
  rw [Vals.ref1 r]
  obtain ⟨its, rv, pl, hz⟩ := I.list hl
  have hn : H s.heap.objs.size = none := I.hok.fresh (Nat.le_refl _)
  refine call_setN (P := X.prog) (w := X.w) ks (I.ok.hd hc) pl.isList (by simpa using refs_vals rv) (fun p hp => (hk p hp).is I) hf (by omega) fun h' tk L es ep t R g1 g2 k => ?_
  exact ⟨.ref s.heap.objs.size, upd H s.heap.objs.size (SNO X.w s.heap.objs.size L), I.laid (t' := tk) k (Nat.le_refl _) (sno_new R.t0), rfl, q _ L hn g1 g2 R.nd⟩
def rSetI (K : PySem.W.Frag) (w : World) : List V → Hp → VK → Prop := fun xs H Q => ∃ (l : Addr) (ns : List Int), xs = [V.ref l] ∧ SqL K H l (ns.map V.int) ∧ ns.length < 4000 ∧
  ∀ a n, H a = none → n ≤ ns.length → Q (.ref a) (upd H a (SetO w a (fun k => ns.any (· == k)) n))
theorem ints_get : ∀ {ns : List Int} {us : List Value}, Vals (ns.map V.int) us → us.length = ns.length ∧ ∀ (i : Nat) (v : Value), us[i]? = some v → ∃ t, v = Value.int (ns.getD i 0) t
  | [], _, .nil => ⟨rfl, fun i v h => by simp at h⟩
  | n :: ns, _, .cons r t => by
    obtain ⟨tk, rfl⟩ := r
    obtain ⟨l, ih⟩ := ints_get t
    refine ⟨by simp [l], fun i v h => ?_⟩
    cases i with
    | zero =>
      simp at h
      exact ⟨tk, h.symm⟩
    | succ i =>
      simp at h
      obtain ⟨t', e⟩ := ih i v h
      exact ⟨t', by simpa using e⟩
theorem cr_setI (hc : X.calm = true) : CallR X (.type "set") (rSetI X.K X.w) := by
  intro pins s σ H xs us Q I r h
  obtain ⟨l, ns, rfl, hl, hf, q⟩ := h
  rw [Vals.ref1 r]
  obtain ⟨its, rv, pl, hz⟩ := I.list hl
  obtain ⟨le, hi⟩ := ints_get rv
  have hn : H s.heap.objs.size = none := I.hok.fresh (Nat.le_refl _)
  refine call_setI (P := X.prog) (w := X.w) (ns := ns) (I.ok.hd hc) pl.isList (fun i v e => hi i v (by simpa using e)) (by simp [le]) (by simp [le]; exact hf) fun h' tk n R g k => ?_
  exact ⟨.ref s.heap.objs.size, upd H s.heap.objs.size (SetO X.w s.heap.objs.size (fun k => ns.any (· == k)) n), I.laid (t' := tk) k (Nat.le_refl _) (setO_new R), rfl, q _ n hn (by simpa [le] using g)⟩
def rSortedN (K : PySem.W.Frag) (w : World) : List V → Hp → VK → Prop := fun vs H Q => ∃ (a : Addr) (L : Rw), vs = [V.ref a] ∧ H a = some (SNO w a L) ∧ (∀ p ∈ L, KeyAt K H p) ∧ PySem.W.AllAlike (L.map dkey) ∧ PySem.W.Sortable (L.map dkey) ∧ (∀ p ∈ L, (dkey p).depth ≤ 8) ∧
  ∀ (L' : Rw) (p : Addr), L'.Perm L → L'.Pairwise (fun x y => PySem.W.dataLe false dkey x y = true) → H p = none → Q (.ref p) (upd H p (.lst (L'.map fun q => V.ref q.1)))
theorem cr_sortedN (hc : X.calm = true) (hu : X.A.units + 64 < cLine) : CallR X (.builtin "sorted") (rSortedN X.K X.w) := by
  intro pins s σ H vs us Q I r h
  obtain ⟨a, L, rfl, ha, hk, hal, hso, hdp, q⟩ := h
  have R0 : SN0 X.w s.heap a L := (I.hok a _ ha).1
  obtain ⟨es, ep, t, R⟩ := R0.full (P := X.prog) fun p hp => (hk p hp).is I
  rw [Vals.ref1 r]
  refine sorted_sn R (I.ok.hd hc) (fun p hp => (hk p hp).reads I) hal hso (fun p hp => by have := hdp p hp; omega) fun s' p out c L' k g o hp hg hout pm pw => ?_
  have hfew : L'.length < 64 := by rw [pm.length_eq]; exact R.few
  have hlen : (L'.map fun q => V.ref q.1).length ≤ sizeLine := by rw [List.length_map, sizeLine_eq]; omega
  have hn : H p = none := I.hok.fresh hp
  have hv : Vals (L'.map fun q => V.ref q.1) out.toList := by rw [hout]; exact vals_refs L'
  have J : Inv X pins σ (upd H p (.lst (L'.map fun q => V.ref q.1))) { s with heap := s'.heap, gens := s'.gens, drawn := s'.drawn, toks := s'.toks } :=
    I.call (ch := []) (Un.laid k hp hn) (I.hok.laid k hp ⟨hlen, out.toList, c, hv, hg⟩) (by rw [g]; exact I.bare) (fun _ z => nomatch z)
  have e : s' = { s with heap := s'.heap, gens := s'.gens, drawn := s'.drawn, toks := s'.toks } := by
    cases s'
    cases s
    cases o
    rfl
  rw [e]
  exact ⟨.ref p, _, J, rfl, q L' p pm pw hn⟩
end

/-! ### the order is one -/
mutual
theorem toks_inj : ∀ (x y : PyData) (kx ky : NestedKey) (l m : List (Int ⊕ List Nat)), PySem.W.alike x y = true → nkey x = some kx → nkey y = some ky → PySem.W.keyToks x ++ l = PySem.W.keyToks y ++ m → x = y ∧ l = m
  | .none, y, kx, ky, l, m, ha, hx, hy, e => by
    cases y with
    | none => exact ⟨rfl, e⟩
    | _ => simp [PySem.W.alike] at ha
  | .int i, y, kx, ky, l, m, ha, hx, hy, e => by
    cases y with
    | int j =>
      simp [PySem.W.keyToks] at e
      exact ⟨by rw [e.1], e.2⟩
    | _ => simp [PySem.W.alike] at ha
  | .str i, y, kx, ky, l, m, ha, hx, hy, e => by
    cases y with
    | str j =>
      simp only [PySem.W.keyToks, List.cons_append, List.nil_append, List.cons.injEq, Sum.inr.injEq] at e
      exact ⟨by rw [PySem.W.str_of_cps e.1], e.2⟩
    | _ => simp [PySem.W.alike] at ha
  | .tuple xs, y, kx, ky, l, m, ha, hx, hy, e => by
    cases y with
    | tuple ys =>
      rw [nkey] at hx hy
      cases q1 : nkeys xs with
      | none => rw [q1] at hx; cases hx
      | some k1 =>
        cases q2 : nkeys ys with
        | none => rw [q2] at hy; cases hy
        | some k2 =>
          obtain ⟨a, b⟩ := toksAll_inj xs ys k1 k2 l m (by simpa [PySem.W.alike] using ha) q1 q2 (by simpa [PySem.W.keyToks] using e)
          exact ⟨by rw [a], b⟩
    | _ => simp [PySem.W.alike] at ha
  | .bool _, _, _, _, _, _, _, e, _, _ => by rw [nkey] at e; cases e
  | .list _, _, _, _, _, _, _, e, _, _ => by rw [nkey] at e; cases e
  | .dict _, _, _, _, _, _, _, e, _, _ => by rw [nkey] at e; cases e
theorem toksAll_inj : ∀ (xs ys : List PyData) (kx ky : List NestedKey) (l m : List (Int ⊕ List Nat)), PySem.W.alikeAll xs ys = true → nkeys xs = some kx → nkeys ys = some ky → PySem.W.keyToksAll xs ++ l = PySem.W.keyToksAll ys ++ m → xs = ys ∧ l = m
  | [], [], _, _, l, m, _, _, _, e => by
    simp [PySem.W.keyToksAll] at e
    exact ⟨rfl, e⟩
  | [], y :: ys, _, _, l, m, _, _, _, e => by simp [PySem.W.keyToksAll] at e
  | x :: xs, [], _, _, l, m, _, _, _, e => by simp [PySem.W.keyToksAll] at e
  | x :: xs, y :: ys, _, _, l, m, ha, hx, hy, e => by
    obtain ⟨a1, a2⟩ := PySem.W.alike_all_cons ha
    obtain ⟨k1, r1, e1, e2, rfl⟩ := nkeys_cons hx
    obtain ⟨k2, r2, f1, f2, rfl⟩ := nkeys_cons hy
    rw [PySem.W.toks_all_cons, PySem.W.toks_all_cons] at e
    simp only [List.cons_append, List.cons.injEq, true_and, List.append_assoc] at e
    obtain ⟨p, q⟩ := toks_inj x y k1 k2 _ _ a1 e1 f1 e
    obtain ⟨p2, q2⟩ := toksAll_inj xs ys r1 r2 l m a2 e2 f2 q
    exact ⟨by rw [p, p2], q2⟩
end
abbrev le0 : PyData → PyData → Bool := PySem.W.dataLe false id
theorem le0_lt {x y : PyData} : le0 x y = !PySem.W.dataLt y x := rfl
theorem le0_anti {x y : PyData} {kx ky : NestedKey} (ha : PySem.W.alike x y = true) (hx : nkey x = some kx) (hy : nkey y = some ky) (h1 : le0 x y = true) (h2 : le0 y x = true) : x = y := by
  have e : PySem.W.keyToks x = PySem.W.keyToks y := (PyProof.Rows.listOrd PyProof.Rows.itemOrd).total _ _ (by simpa [le0_lt, PySem.W.dataLt] using h2) (by simpa [le0_lt, PySem.W.dataLt] using h1)
  exact (toks_inj x y kx ky [] [] ha hx hy (by rw [List.append_nil, List.append_nil, e])).1
theorem le0_strict {x y : PyData} {kx ky : NestedKey} (ha : PySem.W.alike x y = true) (hx : nkey x = some kx) (hy : nkey y = some ky) (h1 : le0 x y = true) (ne : x ≠ y) : PySem.W.dataLt x y = true := by
  cases q : PySem.W.dataLt x y with
  | true => rfl
  | false => exact absurd (le0_anti ha hx hy h1 (by rw [le0_lt, q]; rfl)) ne
theorem sort_one {l m : List PyData} (hk : ∀ d ∈ m, ∃ k, nkey d = some k) (hal : PySem.W.AllAlike m) (hp : l.Perm m) (hw : l.Pairwise fun x y => le0 x y = true) : l = m.mergeSort le0 := by
  have hp2 : l.Perm (m.mergeSort le0) := hp.trans (List.mergeSort_perm _ _).symm
  refine hp2.eq_of_pairwise (fun a b ha hb h1 h2 => ?_) hw (PySem.W.sort_pairwise (PySem.W.sortLe_total _ _ _) _)
  have ma := hp.mem_iff.mp ha
  have mb := (List.mergeSort_perm m le0).mem_iff.mp hb
  obtain ⟨ka, ea⟩ := hk a ma
  obtain ⟨kb, eb⟩ := hk b mb
  exact le0_anti (hal a ma b mb) ea eb h1 h2
end NS

/-! star targets -/
namespace DLS
open PySem PySem.Spec PySem.W PySem.Calls PyProof.Rows L2
section
variable {X : Cx}
theorem unpack_starT {prog : Program} {w : World} {A : Around} {E : Value → Shared → Prop} {s : Shared} {l : Addr} {items : Array Value} {n i : Nat} {Q : List Value → Shared → Prop} (hl : IsTup s.heap l items) (hh : A.handled = none) (hi : i < n) (hn : n ≤ items.size + 1) (hz : items.size ≤ 16384)
    (h : ∀ (h' : Heap) (tk : Nat), (∀ b o, s.heap.get? b = some o → h'.get? b = some o) →
      Q (items.toList.take i ++ [.ref h'.objs.size] ++ (items.toList.drop i).drop (items.size + 1 - n)) { s with heap := h'.push { cls := .type "list", data := .seq ((items.toList.drop i).take (items.size + 1 - n)).toArray }, toks := tk }) : wpAny (model prog w) A (unpackItems (.ref l) n (some i)) Q E s := by
  have hlt : l ≠ s.heap.objs.size := by obtain ⟨o, ho, _⟩ := hl; exact Nat.ne_of_lt (Heap.lt_size ho)
  unfold unpackItems
  refine wpAny_bind ?_
  unfold notIterableAtAll
  refine wpAny_bind (wpAny_specialOf hl.typeIs slot_tuple_iter.lookup ?_)
  refine wpAny_pure ?_
  simp only [Bool.false_eq_true, if_false]
  refine wpAny_bind (wpAny_holding (iter_tuple hl ?_))
  refine wpAny_bind (wpAny_holding (draw_tuple hlt i 0 _ _ ⟨_, Heap.get?_push_size _ rfl, rfl, rfl⟩ (hl.push _) (by omega) fun h₁ hit₁ hs₁ => ?_))
  have hl₁ : IsTup h₁ l items := (hl.push _).extBut hs₁.extBut hlt
  rw [Nat.zero_add] at hit₁
  have hit₁' := hit₁
  obtain ⟨oi, hoi, _⟩ := hit₁'
  have hl₁' := hl₁
  obtain ⟨ol, hol, _⟩ := hl₁'
  rw [List.drop_zero]
  have hfl : (items.toList.take i).length = i := by rw [List.length_take, Array.length_toList]; omega
  rw [if_neg (show ¬ ((items.toList.take i).length < i) by rw [hfl]; omega)]
  refine wpAny_bind (wpAny_holding (kun_collect (s := { s with heap := h₁ }) (T := "tuple_iterator") (.inr (.inr (.inr rfl))) (Walks.tuple (A := A.in1) hh s.heap.objs.size l hlt items) (fun j u st => st.1.typeIs) (k := i) (by omega) ⟨hit₁, hl₁⟩ (Heap.lt_size hoi) (Heap.lt_size hol) (fun h₂ tk hk => ?_) (by rw [sizeLine_eq]; omega)))
  have hrl : (items.toList.drop i).length = items.size - i := by rw [List.length_drop, Array.length_toList]
  have hmid : (items.toList.drop i).length - (n - 1 - i) = items.size + 1 - n := by rw [hrl]; omega
  show wpAny _ _ (if (items.toList.drop i).length < n - 1 - i then _ else _) _ _ _
  rw [if_neg (by rw [hrl]; omega)]
  show wpAny _ _ (newList ((items.toList.drop i).take ((items.toList.drop i).length - (n - 1 - i))) >>= fun d => pure (items.toList.take i ++ [d] ++ (items.toList.drop i).drop ((items.toList.drop i).length - (n - 1 - i)))) _ _ _
  rw [hmid]
  have hk2 : ∀ b o, s.heap.get? b = some o → h₂.get? b = some o := fun b o e => hk b o (Nat.ne_of_lt (Heap.lt_size e)) (hs₁.extBut b o (Nat.ne_of_lt (Heap.lt_size e)) (Heap.get?_push_of_some _ e))
  exact wpAny_bind (wpAny_newList (wpAny_pure (h h₂ tk hk2)) (by rw [List.length_take, hrl, sizeLine_eq]; omega))
def gTupS (K : PySem.W.Frag) (n i : Nat) (t : TGs) : TG := fun v σ H Q => ∃ a xs, v = .ref a ∧ SqT K H a xs ∧ n ≤ xs.length + 1 ∧ xs.length ≤ 16384 ∧ ∀ D, H D = none → t (xs.take i ++ [.ref D] ++ (xs.drop i).drop (xs.length + 1 - n)) σ (upd H D (.lst ((xs.drop i).take (xs.length + 1 - n)))) Q
theorem vals_take {xs : List V} {us : List Value} (h : Vals xs us) : ∀ n, Vals (xs.take n) (us.take n) := by
  induction h with
  | nil => intro n; simp; exact .nil
  | cons r _ ih =>
    intro n
    cases n with
    | zero => exact .nil
    | succ n => exact .cons r (ih n)
theorem vals_drop {xs : List V} {us : List Value} (h : Vals xs us) : ∀ n, Vals (xs.drop n) (us.drop n) := by
  induction h with
  | nil => intro n; simp; exact .nil
  | cons r t ih =>
    intro n
    cases n with
    | zero => exact .cons r t
    | succ n => exact ih n
theorem pg_star {es : List Expr} {k n i : Nat} {pos : Pos} {t : TGs} (hc : X.calm = true) (h : PGs X es t)
    (hn : (assignEach es X.env).length = n := by rfl) (hst : (assignEach es X.env).findIdx? (·.1) = some i := by rfl) (hi : i < n := by decide) : PG X (.Tuple es k pos) (gTupS X.K n i t) := by
  refine ⟨fun pins s σ H v u Q I r hw => ?_⟩
  obtain ⟨a, xs, e1, hq, hl, hz1, hw⟩ := hw
  subst e1
  cases r
  obtain ⟨its, rv, ht, hz⟩ := I.tuple hq
  have le := rv.length
  rw [assign_Tuple]
  refine wpAny_bind (wpAny_standAt ?_)
  unfold unpack
  rw [hn, hst]
  refine wpAny_bind (wpAny_holding (unpack_starT ht (I.ok.hd hc) hi (by simp [← le]; exact hl) (by simp [← le]; exact hz1) fun h' tk kp => ?_))
  have hsz : its.toArray.size = xs.length := by simp [le]
  rw [hsz]
  have hmid : Vals ((xs.drop i).take (xs.length + 1 - n)) ((its.drop i).take (xs.length + 1 - n)) := vals_take (vals_drop rv i) _
  have I0 : Inv X pins σ H { s with heap := h', toks := tk } := I.kept kp
  have I1 := I0.lnew (t' := tk) hmid (by rw [List.length_take, List.length_drop, sizeLine_eq]; omega)
  refine h.run pins _ σ _ _ _ Q I1 ?_ (hw _ I0.fresh)
  have r1 : Vals [V.ref h'.objs.size] [Value.ref h'.objs.size] := .cons (show RelV (V.ref h'.objs.size) (Value.ref h'.objs.size) from rfl) .nil
  exact ((vals_take rv i).append r1).append (vals_drop (vals_drop rv i) _)
theorem pgs_starCons {e : Expr} {p : Pos} {es : List Expr} {t : TG} {u : TGs} (h1 : PG X e t) (h2 : PGs X es u) : PGs X (.Starred e p :: es) (gCons t u) := by
  refine ⟨fun pins s σ H vs us Q I r h => ?_⟩
  obtain ⟨v, vr, e1, h⟩ := h
  subst e1
  cases r with
  | cons r rr =>
    show wpAny _ _ (assignInOrder (assign e X.env :: (assignEach es X.env).map (·.2)) _) _ _ _
    refine assignInOrder_cons (thn (h1.run pins s σ H _ _ _ I r h) fun _ s1 ⟨σ1, H1, I1, q1⟩ => ?_)
    exact h2.run pins s1 σ1 H1 _ _ Q I1 rr q1
end
end DLS

namespace DL
open PySem PySem.Spec L2

/-! ### what is never reached -/
def mNo {α : Type} : M α := fun _ => none
def sNo : MS := fun _ => none
section
variable {X : Cx} {pin : Pins} {W : WX} {a b c e : Expr} {es : List Expr} {pos p p2 q apos cpos : Pos} {f g h : M OV} {fs : M (List OV)} {st : Stmt} {sts : List Stmt}
theorem de_no : De X pin W e mNo := ⟨fun _ _ _ _ _ _ ⟨_, _, _, _, he, _⟩ => nomatch he⟩
theorem db_no : Db X pin W e mNo := ⟨fun _ _ _ _ _ _ ⟨_, _, _, _, he, _⟩ => nomatch he⟩
theorem ds_no : Ds X pin W st sNo := ⟨fun _ _ _ _ _ _ ⟨_, _, _, _, he, _⟩ => nomatch he⟩
theorem dss_no : Dss X pin W sts sNo := ⟨fun _ _ _ _ _ _ ⟨_, _, _, _, he, _⟩ => nomatch he⟩

/-! ### // and ** of ints -/
def divC (_ j : Int) : Bool := decide (0 < j) && decide (j < 1073741824)
abbrev divI := gI fun i j => if divC i j = true then some (.val (.int (i / j))) else none
theorem s2_div {K : PySem.W.Frag} : Sound2 K (rI CDiv fun i j => .int (i / j)) divI := s2_IC (fun i j h => by
  unfold divC at h
  rw [Bool.and_eq_true] at h
  exact ⟨of_decide_eq_true h.1, of_decide_eq_true h.2⟩) fun _ _ _ => .int _
def powC (i j : Int) : Bool := decide (2 ≤ i) && decide (1 ≤ j) && !Builtin.Int.intTooBig (((Builtin.Int.intBits i : Nat) : Int) * j)
abbrev powI := gI fun i j => if powC i j = true then some (.val (.int (i ^ j.toNat))) else none
theorem op_pow : OpR X (binaryOp .Pow) (rI (fun i j => powC i j = true) fun i j => .int (i ^ j.toNat)) := opI fun i j t u s Q E hc q => by
  unfold powC at hc
  rw [Bool.and_eq_true, Bool.and_eq_true] at hc
  obtain ⟨⟨h1, h2⟩, h3⟩ := hc
  have h1 := of_decide_eq_true h1
  have h2 := of_decide_eq_true h2
  refine AutoIntOps.pow_4 (by omega) ?_ ?_ ?_ (by simpa using h3) q
  · rw [beq_iff_eq]; omega
  · rw [Bool.or_eq_true, beq_iff_eq, beq_iff_eq]; omega
  · rw [beq_iff_eq]; omega
theorem s2_pow {K : PySem.W.Frag} : Sound2 K (rI (fun i j => powC i j = true) fun i j => .int (i ^ j.toNat)) powI := s2_IC (fun i j h => h) fun _ _ _ => .int _

/-! ### a list display of frozen things -/
def mLstF (fs : M (List OV)) : M OV := mB fs fun xs => mO (if sz xs.length = true then (OV.frzL xs).map fun ds => .lst (ds.map .val) else none)
theorem de_lstF (h : Da X pin W es fs) : De X pin W (.List es pos) (mLstF fs) := (pe_lst h).imp fun σ H Q ⟨env, ws, r, hR, he, hx, k⟩ => by
  refine dA_bind hR he hx fun xs env1 vs H1 l R1 he1 => ?_
  obtain ⟨z, e3, rfl⟩ := mO_some he1
  split at e3
  · rename_i hz
    cases q : OV.frzL xs with
    | none => rw [q] at e3; cases e3
    | some ds =>
      rw [q] at e3
      cases e3
      have R2 := Rl.under (q1 := vs.zip xs) (q2 := vs.zip (ds.map .val)) (fun ps r => R.frzL l q r) R1
      obtain ⟨ps, rr, back⟩ := Rl.fix (q1 := vs.zip (ds.map .val)) R2
      have ld : vs.length = ds.length := l.trans (frzL_len q)
      refine ⟨by rw [l]; exact sz_le hz, fun p hp => k _ _ rfl _ _ (back _ [(.ref p, .lst (ds.map .val))] ?_)⟩
      exact R.newL rr (by simpa using ld) hp
  · cases e3

/-! ### xs.reverse() of an owned list -/
theorem mtR_of {id : String} {r : V → List V → Hp → VK → Prop} (h : MtM X id r) : MtR X id r := h
theorem zip_rev {α β : Type} : ∀ {vs : List α} {xs : List β}, vs.length = xs.length → vs.reverse.zip xs.reverse = (vs.zip xs).reverse
  | [], [], _ => rfl
  | [], _ :: _, e => by simp at e
  | _ :: _, [], e => by simp at e
  | v :: vs, x :: xs, e => by
    have e' : vs.length = xs.length := by simpa using e
    rw [List.reverse_cons, List.reverse_cons, List.zip_append (by simpa using e'), zip_rev e']
    show _ ++ [(v, x)] = ((v, x) :: vs.zip xs).reverse
    rw [List.reverse_cons]
def mRev (i : Nat) : M OV := fun env => match env[i]? with
  | some (some (.lst xs)) => some (.ok (.val .none) (env.set i (some (.lst xs.reverse))))
  | _ => none
theorem de_rev {i : Nat} (ha : PE X a (tVar i)) (hbase : attributeBase a "reverse" X.env (eval a X.env) = eval a X.env := by rfl) (hline : (apos.endLine == cpos.line) = true := by rfl) :
    De X pin W (.Call (.Attribute a "reverse" apos) [] [] cpos) (mRev i) :=
  (pe_bm0 PySem.F.plainAttrs_list PySem.F.slot_list_reverse PySem.F.type_list_reverse (mtR_of mt_reverse) ha hbase hline).imp fun σ H Q ⟨env, ws, rr, hR, he, hx, k⟩ => by
    unfold mRev at he
    split at he
    · rename_i xs q0
      cases he
      obtain ⟨a0, vs, e0, h0, l, ps, r1, put⟩ := Rl.own (q1 := []) (ws := ws) q0 hR
      refine ⟨.ref a0, e0, .inl ⟨rfl, _, SqL.of h0⟩, a0, vs, rfl, rfl, h0, ?_⟩
      refine k _ _ rfl .non _ (Rl.add (fun _ => .non) ?_)
      refine put vs.reverse xs.reverse [] (by simp [l]) ?_
      have e : vs.reverse.zip xs.reverse = (vs.zip xs).reverse := zip_rev l
      rw [e]
      exact r1.perm (List.Perm.append_right _ (List.reverse_perm _).symm)
    · cases he

/-! ### sorted(set(xs)) -/
def nubK : List NestedKey → List NestedKey
  | [] => []
  | k :: ks => if k ∈ ks then nubK ks else k :: nubK ks
theorem mem_nub {x : NestedKey} : ∀ {ks : List NestedKey}, x ∈ nubK ks ↔ x ∈ ks
  | [] => Iff.rfl
  | k :: ks => by
    unfold nubK
    split
    · rename_i h
      rw [mem_nub, List.mem_cons]
      exact ⟨.inr, fun z => z.elim (fun e => e ▸ h) id⟩
    · rw [List.mem_cons, List.mem_cons, mem_nub]
theorem nub_nodup : ∀ (ks : List NestedKey), (nubK ks).Nodup
  | [] => List.nodup_nil
  | k :: ks => by
    unfold nubK
    split
    · exact nub_nodup ks
    · rename_i h
      exact List.nodup_cons.mpr ⟨fun z => h (mem_nub.mp z), nub_nodup ks⟩
def isTupD : Dt → Bool
  | .tuple (_ :: _) => true
  | _ => false
def setD (ds : List Dt) : Option (List Dt) := (NS.nkeys ds).map fun ks => (nubK ks).map NestedKey.data
def sortSetD : Dt → Option OV
  | .list ds => match intsD ds, setD ds with
    | some _, some es => if decide (ds.length < 64) = true then some (.lst ((es.mergeSort NS.le0).map .val)) else none
    | none, some es => if (decide (ds.length < 64) && ds.all isTupD && (ds.all fun x => ds.all fun y => PySem.W.alike x y) && ds.all fun x => decide (x.depth ≤ 8)) = true then some (.lst ((es.mergeSort NS.le0).map .val)) else none
    | _, none => none
  | _ => none
theorem nkeys_each : ∀ {ds : List Dt} {ks : List NestedKey}, NS.nkeys ds = some ks → (∀ d ∈ ds, ∃ k ∈ ks, NS.nkey d = some k) ∧ ∀ k ∈ ks, NS.nkey k.data = some k ∧ k.data ∈ ds
  | [], _, e => by
    rw [NS.nkeys] at e
    cases e
    exact ⟨fun d h => (by cases h), fun k h => (by cases h)⟩
  | d :: ds, _, e => by
    obtain ⟨k, ks, e1, e2, rfl⟩ := NS.nkeys_cons e
    obtain ⟨a, b⟩ := nkeys_each e2
    refine ⟨fun x hx => ?_, fun x hx => ?_⟩
    · rcases List.mem_cons.mp hx with rfl | hx
      · exact ⟨k, List.mem_cons_self, e1⟩
      · obtain ⟨k', m, q⟩ := a x hx
        exact ⟨k', List.mem_cons_of_mem _ m, q⟩
    · rcases List.mem_cons.mp hx with rfl | hx
      · have z := NS.nkey_data d _ e1
        rw [z]
        exact ⟨e1, List.mem_cons_self⟩
      · exact ⟨(b x hx).1, List.mem_cons_of_mem _ (b x hx).2⟩
theorem data_nodup {ks : List NestedKey} (h : ∀ k ∈ ks, NS.nkey k.data = some k) (nd : ks.Nodup) : (ks.map NestedKey.data).Nodup := by
  refine List.pairwise_map.mpr (List.Pairwise.imp_of_mem (fun {a b} ha hb hne e => hne ?_) nd)
  have e1 := h a ha
  rw [e, h b hb] at e1
  exact (Option.some.inj e1).symm
theorem setD_spec {ds es : List Dt} (h : setD ds = some es) : (∀ d, d ∈ es ↔ d ∈ ds) ∧ es.Nodup ∧ ∀ d ∈ es, ∃ k, NS.nkey d = some k := by
  unfold setD at h
  cases q : NS.nkeys ds with
  | none => rw [q] at h; cases h
  | some ks =>
    rw [q] at h
    cases h
    obtain ⟨a, b⟩ := nkeys_each q
    refine ⟨fun d => ⟨fun hd => ?_, fun hd => ?_⟩, data_nodup (fun k hk => (b k (mem_nub.mp hk)).1) (nub_nodup ks), fun d hd => ?_⟩
    · obtain ⟨k, hk, rfl⟩ := List.mem_map.mp hd
      exact (b k (mem_nub.mp hk)).2
    · obtain ⟨k, hk, e⟩ := a d hd
      exact List.mem_map.mpr ⟨k, mem_nub.mpr hk, NS.nkey_data d k e⟩
    · obtain ⟨k, hk, rfl⟩ := List.mem_map.mp hd
      exact ⟨k, (b k (mem_nub.mp hk)).1⟩
theorem ints_mem : ∀ {ds : List Dt} {ns : List Int}, intsD ds = some ns → ds = ns.map .int
  | [], _, e => by cases e; rfl
  | d :: ds, _, e => by
    cases d with
    | int i =>
      cases q : intsD ds with
      | none => simp [intsD, q] at e
      | some ms =>
        simp [intsD, q] at e
        rw [← e, ints_mem q]
        rfl
    | _ => simp [intsD] at e
theorem alike_int (i j : Int) : PySem.W.alike (.int i) (.int j) = true := by simp [PySem.W.alike]
theorem le0_int (i j : Int) : NS.le0 (.int i) (.int j) = decide (i ≤ j) := by
  rw [NS.le0_lt, PySem.W.dataLt_int, PySem.W.not_lt_int]
theorem sort_ints {ds es : List Dt} {ns ns' : List Int} (hi : intsD ds = some ns) (hs : setD ds = some es) (pw : ns'.Pairwise (· < ·)) (hm : ∀ k, k ∈ ns' ↔ ns.any (· == k) = true) : ns'.map PyData.int = es.mergeSort NS.le0 := by
  obtain ⟨a, nd, ky⟩ := setD_spec hs
  have ed := ints_mem hi
  have mem : ∀ d, d ∈ ns'.map PyData.int ↔ d ∈ es := fun d => by
    rw [a d, ed, List.mem_map, List.mem_map]
    constructor
    · rintro ⟨k, hk, rfl⟩
      obtain ⟨j, hj, e⟩ := List.any_eq_true.mp ((hm k).mp hk)
      have e' := beq_iff_eq.mp e
      exact ⟨j, hj, by rw [e']⟩
    · rintro ⟨k, hk, rfl⟩
      exact ⟨k, (hm k).mpr (List.any_eq_true.mpr ⟨k, hk, by simp⟩), rfl⟩
  have nd' : (ns'.map PyData.int).Nodup := List.pairwise_map.mpr (pw.imp fun h e => by cases e; exact absurd h (Int.lt_irrefl _))
  refine NS.sort_one ky (fun x hx y hy => ?_) ((List.perm_ext_iff_of_nodup nd' nd).mpr mem) (List.pairwise_map.mpr (pw.imp fun {i j} h => ?_))
  · obtain ⟨i, _, rfl⟩ := List.mem_map.mp ((mem x).mpr hx)
    obtain ⟨j, _, rfl⟩ := List.mem_map.mp ((mem y).mpr hy)
    exact alike_int i j
  · rw [le0_int]
    exact decide_eq_true (Int.le_of_lt h)
/-- the tuples with their keys -/
theorem keyed_of {K : PySem.W.Frag} {H : Hp} : ∀ {ds : List Dt} {vs : List V} {ks : List NestedKey}, DpAll K H vs ds → NS.nkeys ds = some ks → ds.all isTupD = true → (∀ d ∈ ds, d.depth ≤ 8) →
    ∃ L : NS.Rw, vs = L.map (fun p => V.ref p.1) ∧ L.map (·.2) = ks ∧ ∀ p ∈ L, Dp K H (.ref p.1) p.2.data ∧ NS.nkey p.2.data = some p.2
  | [], _, _, .nil, e, _, _ => by
    rw [NS.nkeys] at e
    cases e
    exact ⟨[], rfl, rfl, fun p h => (by cases h)⟩
  | d :: ds, _, _, .cons h t, e, hc, hd => by
    obtain ⟨k, ks, e1, e2, rfl⟩ := NS.nkeys_cons e
    rw [List.all_cons, Bool.and_eq_true] at hc
    obtain ⟨L, rfl, rfl, hL⟩ := keyed_of t e2 hc.2 fun x hx => hd x (List.mem_cons_of_mem _ hx)
    cases h with
    | @tup a xs ds' hs ha =>
      have z := NS.nkey_data _ _ e1
      refine ⟨(a, k) :: L, rfl, rfl, fun p hp => ?_⟩
      rcases List.mem_cons.mp hp with rfl | hp
      · dsimp only
        rw [z]
        exact ⟨.tup hs ha, e1⟩
      · exact hL p hp
    | _ => simp [isTupD] at hc
mutual
theorem key_depth : ∀ (d : Dt) (k : NestedKey), NS.nkey d = some k → k.depth ≤ d.depth
  | .none, _, e => by rw [NS.nkey] at e; cases e; simp [NestedKey.depth]
  | .int _, _, e => by rw [NS.nkey] at e; cases e; simp [NestedKey.depth]
  | .str _, _, e => by rw [NS.nkey] at e; cases e; simp [NestedKey.depth]
  | .tuple ds, _, e => by
    rw [NS.nkey] at e
    cases q : NS.nkeys ds with
    | none => rw [q] at e; cases e
    | some ks =>
      rw [q] at e
      cases e
      have := keys_depth ds ks q
      simp only [NestedKey.depth, PyData.depth]
      omega
  | .bool _, _, e => by rw [NS.nkey] at e; cases e
  | .list _, _, e => by rw [NS.nkey] at e; cases e
  | .dict _, _, e => by rw [NS.nkey] at e; cases e
theorem keys_depth : ∀ (ds : List Dt) (ks : List NestedKey), NS.nkeys ds = some ks → NestedKey.depthAll ks ≤ PyData.depthAll ds
  | [], _, e => by rw [NS.nkeys] at e; cases e; simp [NestedKey.depthAll]
  | d :: ds, _, e => by
    obtain ⟨k, ks, e1, e2, rfl⟩ := NS.nkeys_cons e
    have a := key_depth d k e1
    have b := keys_depth ds ks e2
    simp only [NestedKey.depthAll, PyData.depthAll]
    omega
end
theorem ints_bag {K : PySem.W.Frag} {A : List Addr} {H : Hp} {ps : Bag} (r : R K A H ps) : ∀ {ns : List Int}, R K A H ((ns.map V.int).zip ((ns.map PyData.int).map .val) ++ ps)
  | [] => r
  | i :: _ => R.add (fun _ => .int i) (ints_bag r)
def rSetG (K : PySem.W.Frag) (w : World) : List V → Hp → VK → Prop := fun xs H Q => NS.rSetI K w xs H Q ∨ NS.rSetN K w xs H Q
theorem cr_setG (hc : X.calm = true) (hu : X.A.units + 64 < cLine) : CallR X (.type "set") (rSetG X.K X.w) := fun pins s σ H xs us Q I r h => h.elim (NS.cr_setI hc pins s σ H xs us Q I r) (NS.cr_setN hc hu pins s σ H xs us Q I r)
def rSortedG (K : PySem.W.Frag) (w : World) : List V → Hp → VK → Prop := fun xs H Q => rSortedSet w xs H Q ∨ NS.rSortedN K w xs H Q
theorem cr_sortedG (hc : X.calm = true) (hu : X.A.units + 64 < cLine) : CallR X (.builtin "sorted") (rSortedG X.K X.w) := fun pins s σ H xs us Q I r h => h.elim (cr_sortedSet hc pins s σ H xs us Q I r) (NS.cr_sortedN hc hu pins s σ H xs us Q I r)
def mSortSet (f : M OV) : M OV := mB f fun x => mO (x.frz.bind sortSetD)
theorem use_sortSet {K : PySem.W.Frag} {w : World} {H : Hp} {v : V} {d : Dt} {z : OV} {Q : VK} {ps : Bag} (e : sortSetD d = some z) (rr : R K [] H ((v, .val d) :: ps)) (k : ∀ v' H', R K [] H' ((v', z) :: ps) → Q v' H') :
    rSetG K w [v] H fun s H3 => rSortedG K w [s] H3 Q := by
  unfold sortSetD at e
  split at e
  · rename_i ds
    have dp := R.dp rr
    cases dp with
    | @lst l _ _ _ _ =>
      obtain ⟨xs, hs, le, r2⟩ := R.unlst rr
      have r3 : R K [] H (xs.zip (ds.map .val) ++ ps) := R.drop (r2.perm List.perm_middle)
      have da := R.dpAll le r3
      split at e
      · rename_i _ _ ns es hi hse
        split at e
        · rename_i hl
          cases e
          have hl := of_decide_eq_true hl
          have hx := intsD_vs hi da
          subst hx
          have ln : ns.length = ds.length := by simpa using le
          refine .inl ⟨l, ns, rfl, hs, by omega, fun a n ha hn => .inl ⟨a, _, n, rfl, upd_same, by omega, fun ns' p pw hm hlen hp => k _ _ ?_⟩⟩
          rw [← sort_ints hi hse pw hm]
          have r4 : R K [] (upd H a (SetO w a (fun k => ns.any (· == k)) n)) ps := (R.dropL r3).mono fun b o eb => by rw [upd_ne (ne_of_none eb ha)]; exact eb
          refine R.newL ?_ (by simp) hp
          exact ints_bag r4
        · cases e
      · rename_i _ _ es hi hse
        split at e
        · rename_i hcond
          cases e
          rw [Bool.and_eq_true, Bool.and_eq_true, Bool.and_eq_true] at hcond
          obtain ⟨⟨⟨h64, htup⟩, hal⟩, hdep⟩ := hcond
          have h64 := of_decide_eq_true h64
          have hdep' : ∀ d ∈ ds, d.depth ≤ 8 := fun d hd => of_decide_eq_true (List.all_eq_true.mp hdep d hd)
          have hse0 := hse
          unfold setD at hse
          cases qk : NS.nkeys ds with
          | none => rw [qk] at hse; cases hse
          | some ks =>
            obtain ⟨Z, nd, dF, own⟩ := R.dps le r3
            obtain ⟨L, rfl, e2, hL⟩ := keyed_of dF qk htup hdep'
            obtain ⟨na, nb⟩ := nkeys_each qk
            have inds : ∀ p ∈ L, p.2.data ∈ ds := fun p hp => (nb p.2 (by rw [← e2]; exact List.mem_map.mpr ⟨p, hp, rfl⟩)).2
            have keyat : ∀ p ∈ L, NS.KeyAt K H p := fun p hp => ⟨_, Dp.same hid_le (hL p hp).1, (hL p hp).2, Nat.le_trans (key_depth _ _ (hL p hp).2) (hdep' _ (inds p hp))⟩
            have al : ∀ x ∈ ds, ∀ y ∈ ds, PySem.W.alike x y = true := fun x hx y hy => List.all_eq_true.mp (List.all_eq_true.mp hal x hx) y hy
            refine .inr ⟨l, L, rfl, hs, keyat, by have := le; rw [List.length_map] at this; omega, fun a Ls ha s1 s2 nds => .inr ⟨a, Ls, rfl, upd_same, fun p hp => ?_, fun x hx y hy => ?_, .inl fun x hx => ?_, fun p hp => hdep' _ (inds p (s1 p hp)), fun L' p pm pw hp => k _ _ ?_⟩⟩
            · obtain ⟨d, h1, h2⟩ := keyat p (s1 p hp)
              exact ⟨d, Dp.same (fun b o eb => by rw [upd_ne (ne_of_none eb ha)]; exact eb) h1, h2⟩
            · obtain ⟨p, hp, rfl⟩ := List.mem_map.mp hx
              obtain ⟨q, hq, rfl⟩ := List.mem_map.mp hy
              exact al _ (inds p (s1 p hp)) _ (inds q (s1 q hq))
            · obtain ⟨p, hp, rfl⟩ := List.mem_map.mp hx
              have t := List.all_eq_true.mp htup _ (inds p (s1 p hp))
              unfold NS.dkey
              unfold isTupD at t
              split at t
              · exact ⟨_, _, by assumption⟩
              · cases t
            · obtain ⟨sa, snd, sk⟩ := setD_spec hse0
              have inL : ∀ q ∈ L', q ∈ L := fun q hq => s1 q (pm.mem_iff.mp hq)
              have ndL' : (L'.map NS.dkey).Nodup := by
                have z := data_nodup (ks := L'.map (·.2)) (fun k hk => by
                  obtain ⟨q, hq, rfl⟩ := List.mem_map.mp hk
                  exact (hL q (inL q hq)).2) ((pm.map (·.2)).nodup_iff.mpr nds)
                rw [List.map_map] at z
                exact z
              have eqs : L'.map NS.dkey = es.mergeSort NS.le0 := by
                refine NS.sort_one sk (fun x hx y hy => al x ((sa x).mp hx) y ((sa y).mp hy)) ((List.perm_ext_iff_of_nodup ndL' snd).mpr fun d => ?_) (List.pairwise_map.mpr pw)
                rw [sa d]
                constructor
                · intro hd
                  obtain ⟨q, hq, rfl⟩ := List.mem_map.mp hd
                  exact inds q (inL q hq)
                · intro hd
                  obtain ⟨kk, hkk, ek⟩ := na d hd
                  rw [← e2] at hkk
                  obtain ⟨q, hq, rfl⟩ := List.mem_map.mp hkk
                  obtain ⟨q', hq', e'⟩ := List.mem_map.mp (s2 q hq)
                  refine List.mem_map.mpr ⟨q', pm.mem_iff.mpr hq', ?_⟩
                  show q'.2.data = d
                  rw [e']
                  exact NS.nkey_data d _ ek
              rw [← eqs]
              refine R.newL ?_ (by simp) hp
              have F1 : Same (hid H ([] ++ Z)) (hid (upd H a (NS.SNO w a Ls)) ([] ++ Z)) := hid_same fun b o eb => by rw [upd_ne (ne_of_none eb ha)]; exact eb
              have dL : ∀ M : NS.Rw, (∀ q ∈ M, q ∈ L) → DpAll K (hid (upd H a (NS.SNO w a Ls)) ([] ++ Z)) (M.map fun q => V.ref q.1) (M.map NS.dkey) := by
                intro M
                induction M with
                | nil => intro _; exact .nil
                | cons q M ih => intro hM; exact .cons (Dp.same F1 (hL q (hM q List.mem_cons_self)).1) (ih fun r hr => hM r (List.mem_cons_of_mem _ hr))
              refine ⟨Z, nd, ?_⟩
              rw [List.map_append, List.map_append, zip_fst (by simp), zip_snd (by simp)]
              refine OwnL.append (fp := []) (OwnL.of_vals (dL L' inL)) (OwnL.mono F1 own fun b hb => ?_)
              obtain ⟨ob, eb⟩ := OwnL.there own b hb
              exact upd_ne (ne_of_none eb ha)
        · cases e
      · cases e
  · cases e
theorem de_sortSet (hc : X.calm = true) (hu : X.A.units + 64 < cLine) (m1 : X.mg "sorted" = none) (m2 : X.mg "set" = none) (he : De X pin W e f) (g1 : Gl X "sorted" := by rfl) (g2 : Gl X "set" := by rfl)
    (hs1 : starEach [e] X.env = (false, eval e X.env) :: starEach [] X.env := by rfl) (hs2 : starEach [.Call (.Name "set" p2) [e] [] q] X.env = (false, eval (.Call (.Name "set" p2) [e] [] q) X.env) :: starEach [] X.env := by rfl)
    (hp1 : (backTo q (starEach [] X.env)).any (·.1) = false := by rfl) (hp2 : (backTo pos (starEach [] X.env)).any (·.1) = false := by rfl) :
    De X pin W (.Call (.Name "sorted" p) [.Call (.Name "set" p2) [e] [] q] [] pos) (mSortSet f) :=
  (pe_callB (cr_sortedG hc hu) g1 m1 (by decide +kernel) (pa_cons (pe_callTy (cr_setG hc hu) g2 m2 (by decide +kernel) (pa_cons he pa_nil hs1) (by decide) (by decide) hs1 hp1) pa_nil hs2) (by decide) (by decide) hs2 hp2).imp fun σ H Q ⟨env, ws, r, hR, he, hx, k⟩ => by
    refine dE_bind hR he hx fun x env1 v H1 R1 he1 => ?_
    obtain ⟨z, e3, rfl⟩ := mO_some he1
    cases q1 : x.frz with
    | none => simp [q1] at e3
    | some d =>
      simp [q1] at e3
      have R2 := Rl.under (q1 := [(v, x)]) (q2 := [(v, .val d)]) (fun _ r => R.frz q1 r) R1
      obtain ⟨ps, rr, back⟩ := Rl.fix (q1 := [(v, .val d)]) R2
      exact use_sortSet e3 rr fun v' H' r1 => k _ _ rfl v' H' (back H' [(v', z)] r1)
end
end DL

namespace DL
open PySem PySem.Spec L2

/-! ### the defs of a module -/
/-- the module has the def -/
def HasDef (K : PySem.W.Frag) (mg : Str → Option Value) (x : Str) (st : Stmt) : Prop := ∃ (a : Addr) (fd : FuncData), mg x = some (.ref a) ∧ PySem.W.keepIn K (.ref a) = true ∧ Fun K x x st a fd
/-- .. and it does what is told -/
def DefOk (P : Program) (w : World) (K : PySem.W.Frag) (mg : Str → Option Value) (base : Heap) (k : Nat) (x : Str) (ps : List Str) (io : List Nat) (F : Fn) : Prop := ∃ (a : Addr) (fd : FuncData), mg x = some (.ref a) ∧ PySem.W.keepIn K (.ref a) = true ∧
  Binds K fd ps [] ∧ FnOk P w K mg base (L2.CX P w) k a fd ps (dSp K mg io ps.length F)
theorem DefOk.mono {P : Program} {w : World} {K : PySem.W.Frag} {mg : Str → Option Value} {base : Heap} {j k : Nat} {x : Str} {ps : List Str} {io : List Nat} {F : Fn} (h : DefOk P w K mg base j x ps io F) (le : j ≤ k) : DefOk P w K mg base k x ps io F := by
  obtain ⟨a, fd, h1, h2, h3, h4⟩ := h
  exact ⟨a, fd, h1, h2, h3, h4.mono le⟩
section
variable {P : Program} {w : World} {K : PySem.W.Frag} {mg : Str → Option Value} {base : Heap}
theorem okDef {x : Str} {st : Stmt} {N ps : List Str} {k : Nat} (D : HasDef K mg x st) (S : FnScope N ps (defScope st)) (hp : defArgs st = defArgs st) (io : List Nat) (b : MS) (hio : (io.all fun i => decide (i < ps.length)) = true)
    (hbd : ∀ (fd : FuncData) (a : Addr), Fun K x x st a fd → Binds K fd ps [])
    (hbody : ∀ (cdv : Value) (A : Around) (outer : List PySem.Env) (s : Shared) (H : Hp) (E : XK) (vs : List V) (f : Addr), Room k (A.deeper (PyProof.Rows.envOfC x (defScope st) s.heap.objs.size f cdv)) →
      PSs (cxOf (L2.CX P w) P w K mg base N x (defScope st) f cdv A outer s H E) (defBody st) (dS K mg (pinsOf io vs) (fun cls d _ H' => E cls d H') b)) :
    DefOk P w K mg base (k + 1) x ps io (runDef N.length ps.length io b) := by
  obtain ⟨a, fd, h1, h2, F⟩ := D
  exact ⟨a, fd, h1, h2, hbd fd a F, okD F S io b hio fun cdv A outer s H E vs hr => hbody cdv A outer s H E vs a hr⟩
/-- nothing is told -/
theorem okNone {x : Str} {st : Stmt} {ps : List Str} {k : Nat} (D : HasDef K mg x st) (io : List Nat) (hbd : ∀ (fd : FuncData) (a : Addr), Fun K x x st a fd → Binds K fd ps []) : DefOk P w K mg base k x ps io (fun _ => none) := by
  obtain ⟨a, fd, h1, h2, F⟩ := D
  have no : ∀ (vs : List V) (H : Hp) (Q : VK) (E : XK), dSp K mg io ps.length (fun _ => none) vs H Q E → False := fun vs H Q E ⟨_, _, _, _, _, _, he, _⟩ => nomatch he
  refine ⟨a, fd, h1, h2, hbd fd a F, ⟨fun vs H Q E q => (no vs H Q E q).elim, fun A outer s H args us vs Q E _ _ _ _ q => (no vs H Q E q).elim⟩⟩
end
section
variable {X : Cx} {pin : Pins} {W : WX} {a b c e tg : Expr} {es : List Expr} {pos p : Pos} {f g : M OV} {fs : M (List OV)} {as : List Ar}
theorem de_callD {io : List Nat} {F : Fn} {j k : Nat} {ps : List Str} {x : Str} (o : DefOk X.prog X.w X.K X.mg X.base j x ps io F) (tk : Takes X W) (hr : Room k X.A)
    (ha : Dar X pin W (e :: es) as) (le : j ≤ k := by decide) (hn : as.length = ps.length := by rfl) (hio : ioPos 0 as = io := by rfl) (hg : Gl X x := by rfl) (hdb : (x == ("__debug__" : Str)) = false := by decide) (he : starEach (e :: es) X.env = (false, eval e X.env) :: starEach es X.env := by rfl) (hpl : (backTo pos (starEach es X.env)).any (·.1) = false := by rfl) :
    De X pin W (.Call (.Name x p) (e :: es) [] pos) (mCall F as) := by
  obtain ⟨a, fd, h1, h2, h3, h4⟩ := o
  exact de_call tk (h4.mono le) hr h1 h2 h3 ha hn hio hg hdb he hpl
end

/-! ### constants of the module -/
theorem glob_int {K : PySem.W.Frag} {mg : Str → Option Value} {x : Str} {i : Int} {t : Tok} (h : mg x = some (.int i t)) : GlobD K mg x (.int i) := ⟨.int i, _, h, ⟨t, rfl⟩, fun _ => .int i⟩
theorem glob_str {K : PySem.W.Frag} {mg : Str → Option Value} {x : Str} {i : Str} {t : Tok} (h : mg x = some (.str i t)) : GlobD K mg x (.str i) := ⟨.str i, _, h, ⟨t, rfl⟩, fun _ => .str i⟩
def mapO (f : Value → Option Dt) : List Value → Option (List Dt)
  | [] => some []
  | v :: r => match f v, mapO f r with
    | some d, some ds => some (d :: ds)
    | _, _ => none
def kStep (K : PySem.W.Frag) (f : Value → Option Dt) (v : Value) : Option Dt := match v with
  | .none => some .none
  | .bool b => some (.bool b)
  | .int i _ => some (.int i)
  | .str x _ => some (.str x)
  | .ref a => match K.lookup a with
    | some o => match o.cls, o.data with
      | .type c, .seq its _ => if c = "tuple" ∧ its.size ≤ 16777216 then (mapO f its.toList).map .tuple else none
      | _, _ => none
    | none => none
  | _ => none
/-- a value of the written part as data -/
def kDat (K : PySem.W.Frag) : Nat → Value → Option Dt
  | 0 => fun _ => none
  | n + 1 => kStep K (kDat K n)
abbrev DatAt (K : PySem.W.Frag) (v : Value) (d : Dt) : Prop := ∃ x, RelV x v ∧ ∀ F, Dp K F x d
theorem mapO_ok {K : PySem.W.Frag} {f : Value → Option Dt} (hf : ∀ v d, f v = some d → DatAt K v d) : ∀ (vs : List Value) (ds : List Dt), mapO f vs = some ds → ∃ xs, Vals xs vs ∧ ∀ F, DpAll K F xs ds
  | [], _, h => by cases h; exact ⟨[], .nil, fun _ => .nil⟩
  | v :: r, ds, h => by
    unfold mapO at h
    cases q1 : f v with
    | none => rw [q1] at h; cases h
    | some d =>
      cases q2 : mapO f r with
      | none => rw [q1, q2] at h; cases h
      | some es =>
        rw [q1, q2] at h
        cases h
        obtain ⟨x, a1, a2⟩ := hf v d q1
        obtain ⟨xs, b1, b2⟩ := mapO_ok hf r es q2
        exact ⟨x :: xs, .cons a1 b1, fun F => .cons (a2 F) (b2 F)⟩
theorem kStep_ok {K : PySem.W.Frag} {f : Value → Option Dt} (hf : ∀ v d, f v = some d → DatAt K v d) (v : Value) (d : Dt) (h : kStep K f v = some d) : DatAt K v d := by
  unfold kStep at h
  split at h
  · cases h; exact ⟨.non, rfl, fun _ => .non⟩
  · cases h; exact ⟨.bl _, rfl, fun _ => .bl _⟩
  · cases h; exact ⟨.int _, ⟨_, rfl⟩, fun _ => .int _⟩
  · cases h; exact ⟨.str _, ⟨_, rfl⟩, fun _ => .str _⟩
  · rename_i a
    split at h
    · rename_i o ho
      split at h
      · rename_i c its m hc hd
        split at h
        · rename_i hcs
          cases q : mapO f its.toList with
          | none => rw [q] at h; cases h
          | some ds =>
            rw [q] at h
            cases h
            obtain ⟨xs, r, hx⟩ := mapO_ok hf _ _ q
            exact ⟨.ref a, rfl, fun F => .tup (.inr ⟨o, its, m, ho, by rw [hc, hcs.1], hd, by rw [sizeLine_eq]; exact hcs.2, r⟩) (hx F)⟩
        · cases h
      · cases h
    · cases h
  · cases h
theorem kDat_ok {K : PySem.W.Frag} : ∀ (n : Nat) (v : Value) (d : Dt), kDat K n v = some d → DatAt K v d
  | 0, _, _, h => by cases h
  | n + 1, v, d, h => kStep_ok (kDat_ok n) v d h
theorem glob_dat {K : PySem.W.Frag} {h : Heap} {mg : Str → Option Value} {x : Str} {v : Value} {d : Dt} (X : K.In h) (G : h.Ns PySem.mainGlobals mg) (e : PySem.W.nsIn K PySem.mainGlobals x = some (some v)) (k : kDat K 12 v = some d) : GlobD K mg x d := by
  obtain ⟨y, r, hd⟩ := kDat_ok 12 v d k
  exact ⟨y, v, PySem.W.mg_of X G e, r, hd⟩
theorem has_def {K : PySem.W.Frag} {h : Heap} {mg : Str → Option Value} {x : Str} {st : Stmt} {f : Addr} {oc : Value} {od an : Option Addr} {osl : Array (Option Value)} {kV doc pm cdv ct : Value} (X : K.In h) (G : h.Ns PySem.mainGlobals mg)
    (e : PySem.W.nsIn K PySem.mainGlobals x = some (some (.ref f))) (l : K.lookup f = some ⟨oc, od, .func (PySem.W.fnOf x x (defArgs st) (defBody st) (defScope st) .none kV doc pm an cdv ct), osl⟩)
    (c : PySem.W.codeIn K cdv x = true) (k : PySem.W.keepIn K (.ref f) = true) : HasDef K mg x st := ⟨f, _, PySem.W.mg_of X G e, k, fun_mk l c k⟩
/-! ### a, *r = a tuple -/
def gStar (n i : Nat) (gs : List (Dt → Env → Option Env)) : Dt → Env → Option Env := fun d env => match d with
  | .tuple ds => if (decide (n ≤ ds.length + 1) && decide (ds.length ≤ 16384)) = true then gAll gs (ds.take i ++ [.list ((ds.drop i).take (ds.length + 1 - n))] ++ (ds.drop i).drop (ds.length + 1 - n)) env else none
  | _ => none
section
variable {X : Cx} {pin : Pins} {W : WX} {e tg : Expr} {es : List Expr} {pos p : Pos}
theorem dgs_star {is js : List Nat} {g : Dt → Env → Option Env} {gs : List (Dt → Env → Option Env)} (h1 : Dg X pin is e g) (h2 : PGs X es (dGs X.K pin js gs)) : PGs X (.Starred e p :: es) (dGs X.K pin (is ++ js) (g :: gs)) :=
  (DLS.pgs_starCons h1 h2).imp fun vs σ H Q ⟨env, ws, ds, env', l, hR, he, k⟩ => by
    cases ds with
    | nil => cases he
    | cons d ds =>
      cases vs with
      | nil => simp at l
      | cons v vs =>
        unfold gAll at he
        cases q : g d env with
        | none => rw [q] at he; cases he
        | some env1 =>
          rw [q] at he
          refine ⟨v, vs, rfl, env, vs.zip (ds.map .val) ++ ws, d, env1, ?_, q, fun σ1 H1 s1 R1 => ⟨env1, ws, ds, env', by simpa using l, R1, he, fun σ2 H2 s2 R2 => k _ _ (s1.app s2) R2⟩⟩
          exact hR
theorem R.of_dps {K : PySem.W.Frag} {A Z : List Addr} {H : Hp} {vs : List V} {ds : List Dt} {ps : Bag} (nd : (A ++ Z).Nodup) (h : DpAll K (hid H (A ++ Z)) vs ds) (o : OwnL K H (hid H (A ++ Z)) (ps.map (·.1)) (ps.map (·.2)) Z) : R K A H (vs.zip (ds.map .val) ++ ps) := by
  refine ⟨Z, nd, ?_⟩
  have le := h.length
  rw [List.map_append, List.map_append, zip_fst (by simpa using le), zip_snd (by simpa using le)]
  exact OwnL.append (fp := []) (OwnL.of_vals h) o
theorem dg_star {is : List Nat} {gs : List (Dt → Env → Option Env)} {k n i : Nat} (hc : X.calm = true) (h : PGs X es (dGs X.K pin is gs)) (hn : (assignEach es X.env).length = n := by rfl) (hst : (assignEach es X.env).findIdx? (·.1) = some i := by rfl) (hi : i < n := by decide) :
    Dg X pin is (.Tuple es k pos) (gStar n i gs) := (DLS.pg_star hc h hn hst hi).imp fun v σ H Q ⟨env, ws, d, env', hR, he, kk⟩ => by
  unfold gStar at he
  split at he
  · rename_i ds
    split at he
    · rename_i hcond
      rw [Bool.and_eq_true] at hcond
      have c1 := of_decide_eq_true hcond.1
      have c2 := of_decide_eq_true hcond.2
      have q := hR.dp
      cases q with
      | @tup a xs0 _ hs0 ha0 =>
        obtain ⟨⟨ps, s, r⟩, pn⟩ := hR
        obtain ⟨xs, hs, l, r2⟩ := R.untup (r.perm List.perm_middle)
        refine ⟨a, xs, rfl, hs, by rw [l]; exact c1, by rw [l]; exact c2, fun D hD => ?_⟩
        rw [l]
        have r3 : R X.K [] H (xs.zip (ds.map .val) ++ (ps ++ ws)) := R.drop (r2.perm List.perm_middle)
        obtain ⟨Z, nd, dF, own⟩ := R.dps l r3
        have nz : D ∉ Z := fun z => by
          obtain ⟨ob, e⟩ := OwnL.there own D z
          rw [hD] at e; cases e
        have F1 : Same (hid H ([] ++ Z)) (hid (upd H D (.lst ((xs.drop i).take (ds.length + 1 - n)))) ([] ++ Z)) := hid_same fun b o eb => by rw [upd_ne (ne_of_none eb hD)]; exact eb
        have dm : Dp X.K (hid (upd H D (.lst ((xs.drop i).take (ds.length + 1 - n)))) ([] ++ Z)) (.ref D) (.list ((ds.drop i).take (ds.length + 1 - n))) :=
          .lst (.inl (.inl (by rw [hid_out (by simpa using nz)]; exact upd_same))) (DpAll.same F1 ((dF.drop i).take _))
        have all : DpAll X.K (hid (upd H D (.lst ((xs.drop i).take (ds.length + 1 - n)))) ([] ++ Z)) (xs.take i ++ [.ref D] ++ (xs.drop i).drop (ds.length + 1 - n)) (ds.take i ++ [.list ((ds.drop i).take (ds.length + 1 - n))] ++ (ds.drop i).drop (ds.length + 1 - n)) :=
          ((DpAll.same F1 (dF.take i)).append (.cons dm .nil)).append (DpAll.same F1 ((dF.drop i).drop _))
        refine ⟨env, ws, _, env', all.length, ⟨⟨ps, s, ?_⟩, pn⟩, he, kk⟩
        have r4 : R X.K [] (upd H D (.lst ((xs.drop i).take (ds.length + 1 - n)))) ((xs.take i ++ [V.ref D] ++ (xs.drop i).drop (ds.length + 1 - n)).zip ((ds.take i ++ [PyData.list ((ds.drop i).take (ds.length + 1 - n))] ++ (ds.drop i).drop (ds.length + 1 - n)).map .val) ++ (ps ++ ws)) := by
          refine R.of_dps nd all (OwnL.mono F1 own fun b hb => ?_)
          obtain ⟨ob, eb⟩ := OwnL.there own b hb
          exact upd_ne (ne_of_none eb hD)
        refine r4.perm ?_
        rw [← List.append_assoc, ← List.append_assoc]
        exact List.Perm.append_right _ List.perm_append_comm
    · cases he
  · cases he
end
/-! ### words for the built-in functions -/
theorem bb_len : bootBuiltins "len" = some (.builtin "len") := by decide +kernel
theorem bb_sum : bootBuiltins "sum" = some (.builtin "sum") := by decide +kernel
theorem bb_all : bootBuiltins "all" = some (.builtin "all") := by decide +kernel
theorem bb_any : bootBuiltins "any" = some (.builtin "any") := by decide +kernel
theorem bb_tuple : bootBuiltins "tuple" = some (.type "tuple") := by decide +kernel
theorem bb_list : bootBuiltins "list" = some (.type "list") := by decide +kernel
theorem bb_int : bootBuiltins "int" = some (.type "int") := by decide +kernel
theorem bb_bool : bootBuiltins "bool" = some (.type "bool") := by decide +kernel
theorem bb_str : bootBuiltins "str" = some (.type "str") := by decide +kernel
theorem bb_abs : bootBuiltins "abs" = some (.builtin "abs") := by decide +kernel
theorem bb_min : bootBuiltins "min" = some (.builtin "min") := by decide +kernel
theorem bb_max : bootBuiltins "max" = some (.builtin "max") := by decide +kernel
section
variable {X : Cx} {pin : Pins} {W : WX} {a b e : Expr} {pos p : Pos} {f g : M OV}
abbrev A1 (f : M OV) : M (List OV) := mCons f mNil
abbrev A2 (f g : M OV) : M (List OV) := mCons f (mCons g mNil)
theorem de_len (hm : X.mg "len" = none) (h : De X pin W e f) (hg : Gl X "len" := by rfl) (hs : starEach (e :: []) X.env = (false, eval e X.env) :: starEach [] X.env := by rfl) (hpl : (backTo pos (starEach [] X.env)).any (·.1) = false := by rfl) :
    De X pin W (.Call (.Name "len" p) [e] [] pos) (mCB lenD (A1 f)) := de_callB call_len sc_len hm bb_len (da_cons h da_nil hs) hg (by decide) (by decide) hs hpl
theorem de_sum (hc : X.calm = true) (hm : X.mg "sum" = none) (h : De X pin W e f) (hg : Gl X "sum" := by rfl) (hs : starEach (e :: []) X.env = (false, eval e X.env) :: starEach [] X.env := by rfl) (hpl : (backTo pos (starEach [] X.env)).any (·.1) = false := by rfl) :
    De X pin W (.Call (.Name "sum" p) [e] [] pos) (mCB sumD (A1 f)) := de_callB (cr_sum hc) sc_sum hm bb_sum (da_cons h da_nil hs) hg (by decide) (by decide) hs hpl
theorem de_all (hc : X.calm = true) (hm : X.mg "all" = none) (h : De X pin W e f) (hg : Gl X "all" := by rfl) (hs : starEach (e :: []) X.env = (false, eval e X.env) :: starEach [] X.env := by rfl) (hpl : (backTo pos (starEach [] X.env)).any (·.1) = false := by rfl) :
    De X pin W (.Call (.Name "all" p) [e] [] pos) (mCB allD (A1 f)) := de_callB (cr_all hc) sc_all hm bb_all (da_cons h da_nil hs) hg (by decide) (by decide) hs hpl
theorem de_any (hc : X.calm = true) (hm : X.mg "any" = none) (h : De X pin W e f) (hg : Gl X "any" := by rfl) (hs : starEach (e :: []) X.env = (false, eval e X.env) :: starEach [] X.env := by rfl) (hpl : (backTo pos (starEach [] X.env)).any (·.1) = false := by rfl) :
    De X pin W (.Call (.Name "any" p) [e] [] pos) (mCB anyD (A1 f)) := de_callB (cr_any hc) sc_any hm bb_any (da_cons h da_nil hs) hg (by decide) (by decide) hs hpl
theorem de_tuple (hm : X.mg "tuple" = none) (h : De X pin W e f) (hg : Gl X "tuple" := by rfl) (hs : starEach (e :: []) X.env = (false, eval e X.env) :: starEach [] X.env := by rfl) (hpl : (backTo pos (starEach [] X.env)).any (·.1) = false := by rfl) :
    De X pin W (.Call (.Name "tuple" p) [e] [] pos) (mCB tupleD (A1 f)) := de_callTy call_tuple_of sc_tuple hm bb_tuple (da_cons h da_nil hs) hg (by decide) (by decide) hs hpl
theorem de_list (hm : X.mg "list" = none) (h : De X pin W e f) (hg : Gl X "list" := by rfl) (hs : starEach (e :: []) X.env = (false, eval e X.env) :: starEach [] X.env := by rfl) (hpl : (backTo pos (starEach [] X.env)).any (·.1) = false := by rfl) :
    De X pin W (.Call (.Name "list" p) [e] [] pos) (mCB listD (A1 f)) := de_callTy call_list_of sc_list hm bb_list (da_cons h da_nil hs) hg (by decide) (by decide) hs hpl
theorem de_intc (hm : X.mg "int" = none) (h : De X pin W e f) (hg : Gl X "int" := by rfl) (hs : starEach (e :: []) X.env = (false, eval e X.env) :: starEach [] X.env := by rfl) (hpl : (backTo pos (starEach [] X.env)).any (·.1) = false := by rfl) :
    De X pin W (.Call (.Name "int" p) [e] [] pos) (mCB intD (A1 f)) := de_callTy call_int1 sc_int hm bb_int (da_cons h da_nil hs) hg (by decide) (by decide) hs hpl
theorem de_abs (hm : X.mg "abs" = none) (h : De X pin W e f) (hg : Gl X "abs" := by rfl) (hs : starEach (e :: []) X.env = (false, eval e X.env) :: starEach [] X.env := by rfl) (hpl : (backTo pos (starEach [] X.env)).any (·.1) = false := by rfl) :
    De X pin W (.Call (.Name "abs" p) [e] [] pos) (mCB absD (A1 f)) := de_callB call_abs sc_abs hm bb_abs (da_cons h da_nil hs) hg (by decide) (by decide) hs hpl
theorem de_min2 (hc : X.calm = true) (hm : X.mg "min" = none) (ha : De X pin W a f) (hb : De X pin W b g) (hg : Gl X "min" := by rfl) (hs2 : starEach (b :: []) X.env = (false, eval b X.env) :: starEach [] X.env := by rfl) (hs : starEach (a :: [b]) X.env = (false, eval a X.env) :: starEach [b] X.env := by rfl) (hpl : (backTo pos (starEach [b] X.env)).any (·.1) = false := by rfl) :
    De X pin W (.Call (.Name "min" p) [a, b] [] pos) (mCB min2D (A2 f g)) := de_callB (call_min2 hc) sc_min2 hm bb_min (da_cons ha (da_cons hb da_nil hs2) hs) hg (by decide) (by decide) hs hpl
theorem de_max2 (hc : X.calm = true) (hm : X.mg "max" = none) (ha : De X pin W a f) (hb : De X pin W b g) (hg : Gl X "max" := by rfl) (hs2 : starEach (b :: []) X.env = (false, eval b X.env) :: starEach [] X.env := by rfl) (hs : starEach (a :: [b]) X.env = (false, eval a X.env) :: starEach [b] X.env := by rfl) (hpl : (backTo pos (starEach [b] X.env)).any (·.1) = false := by rfl) :
    De X pin W (.Call (.Name "max" p) [a, b] [] pos) (mCB max2D (A2 f g)) := de_callB (call_max2 hc) sc_max2 hm bb_max (da_cons ha (da_cons hb da_nil hs2) hs) hg (by decide) (by decide) hs hpl
end
/-! ### frozen when it is kept -/
def mF (f : M OV) : M OV := mB f fun x => mO (x.frz.map .val)
section
variable {X : Cx} {pin : Pins} {W : WX} {e tg it elt : Expr} {ifs : List Expr} {f : M OV} {fa : M Bool} {pos : Pos}
theorem dE_frz {K : PySem.W.Frag} {mg : Str → Option Value} {σ : St} {H : Hp} {Q : VK} (q : dE K mg pin W (mF f) σ H Q) : dE K mg pin W f σ H Q := by
  obtain ⟨env, ws, r, hR, he, hx, k⟩ := q
  refine dE_bind hR he hx fun y env1 v H1 R1 he1 => ?_
  obtain ⟨z, e3, rfl⟩ := mO_some he1
  cases q1 : y.frz with
  | none => simp [q1] at e3
  | some d =>
    simp [q1] at e3
    subst e3
    exact k _ _ rfl v H1 (Rl.under (q1 := [(v, y)]) (q2 := [(v, .val d)]) (fun _ r => R.frz q1 r) R1)
theorem de_frz (h : De X pin W e f) : De X pin W e (mF f) := h.imp fun σ H Q q => dE_frz q
theorem ds_setLcF {own : List (Str × Nat)} {is : List Nat} {i : Nat} {y : Str} {py spos : Pos} {scope : Scope} {its : M (List Dt)} {gt : Dt → Env → Option Env} (hc : X.calm = true) (hN : X.N.Nodup) (hy : X.N[i]? = some y) (hyl : X.env.scope.names.lookup y = some .local)
    (hsw : swapsWith (.ListComp elt [⟨tg, it, ifs, 0⟩] scope pos) (some (.Name y py)) spos.line X.env = pure true) (hi : Di X pin W tg it its) (ok : BlkOk X.N X.env.scope scope own)
    (hg : ∀ (s : Shared) (H : Hp) (C : Addr) (cl : List (Str × Addr)) (fp : List Addr), PG (X.blk s H scope (compEnvC scope cl C X.env) fp) tg (dG X.K pin is gt)) (ht : ∀ (s : Shared) (H : Hp) (C : Addr) (cl : List (Str × Addr)) (fp : List Addr), PTs (X.blk s H scope (compEnvC scope cl C X.env) fp) ifs (dT X.K X.mg pin wF fa))
    (he : ∀ (s : Shared) (H : Hp) (C : Addr) (cl : List (Str × Addr)) (fp : List Addr), PE (X.blk s H scope (compEnvC scope cl C X.env) fp) elt (dE X.K X.mg pin wF f)) (hpy : pinOk pin i = true := by rfl) (hp : (own.map (·.2)).all (pinOk pin) = true := by rfl) (hs : ∀ i ∈ is, i ∈ own.map (·.2) := by decide) (hfs : ∀ x, foldedSetIterable it X.env x = pure x := by intro _; rfl) :
    Ds X pin W (.Assign [.Name y py] (.ListComp elt [⟨tg, it, ifs, 0⟩] scope pos) spos) (sSet i (mF (mLc (own.map (·.2)) its gt fa f))) :=
  (ps_setLc hc hN hy hyl hsw hi ok hg ht he hfs).imp fun D σ H ⟨env, ws, r, hR, he', hp'⟩ => by
    refine lc_use (List.all_eq_true.mp hp) hs (dE_frz ?_)
    refine sB_E hR he' hp' fun y env1 v H1 R1 e1 => ?_
    cases q : putE env1 i y with
    | none => rw [q] at e1; cases e1
    | some env2 =>
      rw [q] at e1
      cases e1
      obtain ⟨l, rfl⟩ := putE_some q
      exact hp'.nx _ rfl _ _ (R1.put (by rw [R1.len]; exact l) (pinOk_not hpy))
end
end DL

namespace DL
open PySem PySem.Spec L2
section
variable {X : Cx} {pin : Pins} {W : WX} {e tg it elt tg1 it1 : Expr} {ifs ifs1 : List Expr} {f : M OV} {fa fa1 : M Bool} {pos spos py : Pos} {y : Str}
/-- y = [.. for .. for ..], kept frozen -/
theorem ds_setLc2F {own : List (Str × Nat)} {is is1 vs1 : List Nat} {i : Nat} {scope : Scope} {its its1 : M (List Dt)} {gt gt1 : Dt → Env → Option Env} (hc : X.calm = true) (hN : X.N.Nodup) (hy : X.N[i]? = some y) (hyl : X.env.scope.names.lookup y = some .local)
    (hsw : swapsWith (.ListComp elt [⟨tg, it, ifs, 0⟩, ⟨tg1, it1, ifs1, 0⟩] scope pos) (some (.Name y py)) spos.line X.env = pure true) (hi : Di X pin W tg it its) (ok : BlkOk X.N X.env.scope scope own) (hv : ∀ i ∈ vs1, i ∈ own.map (·.2))
    (hg : ∀ (s : Shared) (H : Hp) (C : Addr) (cl : List (Str × Addr)) (fp : List Addr), PG (X.blk s H scope (compEnvC scope cl C X.env) fp) tg (dG X.K pin is gt)) (ht : ∀ (s : Shared) (H : Hp) (C : Addr) (cl : List (Str × Addr)) (fp : List Addr), PTs (X.blk s H scope (compEnvC scope cl C X.env) fp) ifs (dT X.K X.mg pin wF fa))
    (hi1 : ∀ (s : Shared) (H : Hp) (C : Addr) (cl : List (Str × Addr)) (fp : List Addr), PI (X.blk s H scope (compEnvC scope cl C X.env) fp) tg1 it1 (dI X.K X.mg pin wF its1))
    (hg1 : ∀ (s : Shared) (H : Hp) (C : Addr) (cl : List (Str × Addr)) (fp : List Addr), PG (X.blk s H scope (compEnvC scope cl C X.env) fp) tg1 (dG X.K pin is1 gt1)) (ht1 : ∀ (s : Shared) (H : Hp) (C : Addr) (cl : List (Str × Addr)) (fp : List Addr), PTs (X.blk s H scope (compEnvC scope cl C X.env) fp) ifs1 (dT X.K X.mg pin wF fa1))
    (he : ∀ (s : Shared) (H : Hp) (C : Addr) (cl : List (Str × Addr)) (fp : List Addr), PE (X.blk s H scope (compEnvC scope cl C X.env) fp) elt (dE X.K X.mg pin wF f)) (hpy : pinOk pin i = true := by rfl) (hp : (own.map (·.2)).all (pinOk pin) = true := by rfl) (hs : ∀ i ∈ is, i ∈ own.map (·.2) := by decide) (hs1 : ∀ i ∈ is1, i ∈ vs1 := by decide) (hfs : ∀ x, foldedSetIterable it X.env x = pure x := by intro _; rfl) (hfs1 : ∀ env x, foldedSetIterable it1 env x = pure x := by intro _ _; rfl) :
    Ds X pin W (.Assign [.Name y py] (.ListComp elt [⟨tg, it, ifs, 0⟩, ⟨tg1, it1, ifs1, 0⟩] scope pos) spos) (sSet i (mF (mLc2 (own.map (·.2)) vs1 its gt fa its1 gt1 fa1 f))) :=
  (ps_setLc2 hc hN hy hyl hsw hi ok hv hg ht hi1 hg1 ht1 he hfs hfs1).imp fun D σ H ⟨env, ws, r, hR, he', hp'⟩ => by
    refine lc2_use (List.all_eq_true.mp hp) hs hs1 hv (dE_frz ?_)
    refine sB_E hR he' hp' fun y env1 v H1 R1 e1 => ?_
    cases q : putE env1 i y with
    | none => rw [q] at e1; cases e1
    | some env2 =>
      rw [q] at e1
      cases e1
      obtain ⟨l, rfl⟩ := putE_some q
      exact hp'.nx _ rfl _ _ (R1.put (by rw [R1.len]; exact l) (pinOk_not hpy))
end
end DL

/-! words for the plain laws: the denotations worked out -/
namespace DL
open PySem PySem.Spec L2
section
variable {α β : Type} {env : Env}
@[simp] theorem ev_mR (a : α) : mR a env = some (.ok a env) := rfl
@[simp] theorem ev_mC (d : Dt) : mC d env = some (.ok (.val d) env) := rfl
@[simp] theorem ev_mO (o : Option α) : mO o env = o.map fun a => .ok a env := by cases o <;> rfl
theorem ev_mB (f : M α) (g : α → M β) : mB f g env = match f env with
  | some (.ok a e) => g a e
  | some (.ex x e) => some (.ex x e)
  | none => none := rfl
@[simp] theorem mB_R (a : α) (g : α → M β) : mB (mR a) g env = g a env := rfl
theorem mB_of {f : M α} {g : α → M β} {a : α} {env1 : Env} (h : f env = some (.ok a env1)) : mB f g env = g a env1 := by rw [ev_mB, h]
theorem sB_of {f : M α} {g : α → MS} {a : α} {env1 : Env} (h : f env = some (.ok a env1)) : sB f g env = g a env1 := by unfold sB; rw [h]
theorem ev_sB (f : M α) (g : α → MS) : sB f g env = match f env with
  | some (.ok a e) => g a e
  | some (.ex x e) => some (.ex x e)
  | none => none := rfl
theorem ev_sSeq (f g : MS) : sSeq f g env = match f env with
  | some (.nx e) => g e
  | r => r := rfl
theorem sSeq_of {f g : MS} {env1 : Env} (h : f env = some (.nx env1)) : sSeq f g env = g env1 := by rw [ev_sSeq, h]
theorem sSeq_rt {f g : MS} {env1 : Env} {x : OV} (h : f env = some (.rt x env1)) : sSeq f g env = some (.rt x env1) := by rw [ev_sSeq, h]
end
/-- a for loop by an invariant: it never leaves -/
theorem loopS_inv {g : Dt → Env → Option Env} {body : MS} (I : List Dt → Env → Prop) : ∀ (ds : List Dt) (env : Env), I ds env →
    (∀ d ds env, I (d :: ds) env → ∃ env1, g d env = some env1 ∧ ∃ env2, (body env1 = some (.nx env2) ∨ body env1 = some (.ct env2)) ∧ I ds env2) → ∃ env', loopS g body ds env = some (.nx env') ∧ I [] env'
  | [], env, h, _ => ⟨env, rfl, h⟩
  | d :: ds, env, h, step => by
    obtain ⟨env1, e1, env2, e2, h2⟩ := step d ds env h
    obtain ⟨env', e3, h3⟩ := loopS_inv I ds env2 h2 step
    refine ⟨env', ?_, h3⟩
    rcases e2 with e2 | e2 <;> simp [loopS, e1, e2, e3]
/-- a comprehension by an invariant, without conditions -/
theorem lcLoop_inv {vs : List Nat} {g : Dt → Env → Option Env} {c : M Bool} {elt : M OV} (I : List Dt → List OV → Env → Prop) : ∀ (ds : List Dt) (acc : List OV) (env : Env), I ds acc env →
    (∀ d ds acc env, I (d :: ds) acc env → ∃ env1, g d env = some env1 ∧ ((∃ env2, c env1 = some (.ok false env2) ∧ I ds acc (wipeE env2 vs)) ∨
      ∃ env2 x env3, c env1 = some (.ok true env2) ∧ elt env2 = some (.ok x env3) ∧ sz (acc.length + 1) = true ∧ I ds (acc ++ [x]) (wipeE env3 vs))) → ∃ acc' env', lcLoop vs g c elt ds acc env = some (acc', env') ∧ I [] acc' env'
  | [], acc, env, h, _ => ⟨acc, env, rfl, h⟩
  | d :: ds, acc, env, h, step => by
    obtain ⟨env1, e1, q⟩ := step d ds acc env h
    rcases q with ⟨env2, e2, h2⟩ | ⟨env2, x, env3, e2, e3, hz, h2⟩
    · obtain ⟨acc', env', e5, h5⟩ := lcLoop_inv I ds acc _ h2 step
      exact ⟨acc', env', by simp [lcLoop, e1, e2, e5], h5⟩
    · obtain ⟨acc', env', e5, h5⟩ := lcLoop_inv I ds _ _ h2 step
      exact ⟨acc', env', by simp [lcLoop, e1, e2, e3, hz, e5], h5⟩
end DL

namespace G
open PySem PySem.Spec L2 DL
def top (i : Nat) : Stmt := PySem.Challenge.pw_leanbundle_k02_doors.main.body.getD i (.Pass ⟨0, 0, 0, 0⟩)
abbrev st__law_doors : Stmt := top 37
abbrev st__law_mixed : Stmt := top 29
abbrev st__law_draw : Stmt := top 30
abbrev st__law_lates : Stmt := top 38
abbrev st__law_name : Stmt := top 31
abbrev st__law_plans : Stmt := top 34
abbrev st__law_needs : Stmt := top 32
abbrev st__law_row : Stmt := top 33
abbrev st__law_program : Stmt := top 35
abbrev st__law_same : Stmt := top 36
abbrev st__law_stream : Stmt := top 28
abbrev st_doors : Stmt := top 25
abbrev st_is_ascending : Stmt := top 15
abbrev st_is_integer : Stmt := top 11
abbrev st_is_number : Stmt := top 14
abbrev st_is_entries : Stmt := top 21
abbrev st_is_flag : Stmt := top 12
abbrev st_is_marks : Stmt := top 20
abbrev st_is_name : Stmt := top 13
abbrev st_is_named : Stmt := top 16
abbrev st_is_opens : Stmt := top 22
abbrev st_is_needs : Stmt := top 17
abbrev st_is_row : Stmt := top 18
abbrev st_is_parts : Stmt := top 19
abbrev st_is_program : Stmt := top 23
abbrev st_need_program : Stmt := top 24
abbrev st_doors_of : Stmt := top 26
abbrev st_law : Stmt := top 39
abbrev c_MOST_ENTRIES : Dt := (.int 3)
abbrev c_MOST_OPENS : Dt := (.int 4)
abbrev c_MOST_OUTS : Dt := (.int 2)
abbrev c_MOST_PARTS : Dt := (.int 4)
abbrev c_MOST_ROWS : Dt := (.int 5)
abbrev c_MOST_ROWS_IN_ALL : Dt := (.int 12)
abbrev c_NAMES : Dt := (.tuple [(.str "a"), (.str "b"), (.str "c"), (.str "d")])
/-! ### what each def computes -/
def d__law_doors_b1 : MS :=
  (sIf (mAnd (mBl (m2 eqD (m2 ixD (mV 3) (mC (.int 0))) (mC (.str "late")))) (mBl (m2 geI (m2 ixD (mV 3) (mC (.int 2))) (mC (.int 0)))))
  (sExpr (mApp 1 (m2 ixD (mV 3) (mC (.int 2)))))
  sNext)
def d__law_doors_b2 : MS :=
  (sFor (mIt (mV 2)) (gN 3)
  d__law_doors_b1)
def d__law_doors : MS :=
  (sSeq (sSet 1 (mCB listD (A1 (m2 ixD (mV 0) (mC (.int 2))))))
  (sSeq (sFor (mIt (m2 ixD (mV 0) (mC (.int 0)))) (gN 2)
  d__law_doors_b2)
  (sRet (mSortSet (mV 1)))))
def F__law_doors : Fn := runDef 4 1 [] d__law_doors
def d__law_mixed : MS :=
  (sSeq (sSet 2 (m2 modI (mCB intD (A1 (m2 addD (m2 addD (m2 mulI (mV 0) (mC (.int 48271))) (m2 mulI (mV 1) (mC (.int 7919)))) (mC (.int 11))))) (mC (.int 2147483629))))
  (sSeq (sSet 3 (m2 modI (mCB intD (A1 (m2 addD (m2 addD (m2 mulI (mV 2) (mV 2)) (m2 mulI (mV 1) (mC (.int 104729)))) (m2 divI (mV 2) (mC (.int 65536)))))) (mC (.int 2147483587))))
  (sRet (m2 divI (mV 3) (mC (.int 5))))))
def F__law_mixed : Fn := runDef 4 2 [] d__law_mixed
def d__law_draw : MS :=
  (sSeq (sSetIx 0 (mC (.int 4)) (m2 addD (mIxO 0 (mC (.int 4))) (mC (.int 1))))
  (sSeq (sIf (mAnd (mBl (m2 eqD (mIxO 0 (mC (.int 2))) (mC (.int 0)))) (mBl (m2 ltI (mIxO 0 (mC (.int 1))) (mCB lenD (A1 (mIxO 0 (mC (.int 0))))))))
  (sSeq (sSet 2 (mCB intD (A1 (m2 ixD (mIxO 0 (mC (.int 0))) (mIxO 0 (mC (.int 1)))))))
  (sSeq (sSetIx 0 (mC (.int 1)) (m2 addD (mIxO 0 (mC (.int 1))) (mC (.int 1))))
  (sSeq (sIf (mAnd (mBl (m2 gtI (mV 2) (mNeg (m2 powI (mC (.int 10)) (mC (.int 18)))))) (mBl (m2 ltI (mV 2) (m2 powI (mC (.int 10)) (mC (.int 18))))))
  (sRet (m2 modI (mCB intD (A1 (mCall F__law_mixed [.ex (mV 2), .ex (mIxO 0 (mC (.int 4)))]))) (mV 1)))
  sNext)
  (sSetIx 0 (mC (.int 2)) (mCB absD (A1 (mV 2)))))))
  sNext)
  (sSeq (sIf (mBl (m2 gtI (mIxO 0 (mC (.int 2))) (mC (.int 0))))
  (sSeq (sSet 3 (m2 modI (mCB intD (A1 (mIxO 0 (mC (.int 2))))) (mV 1)))
  (sSeq (sSetIx 0 (mC (.int 2)) (m2 divI (mIxO 0 (mC (.int 2))) (mV 1)))
  (sRet (mMv 3))))
  sNext)
  (sRet (m2 modI (mCB intD (A1 (mCall F__law_mixed [.ex (mIxO 0 (mC (.int 3))), .ex (mIxO 0 (mC (.int 4)))]))) (mV 1))))))
def F__law_draw : Fn := runDef 4 2 [0] d__law_draw
def d__law_lates_e1 : M OV :=
  (mTup (mCons (mC (.str "late")) (mCons (m2 ixD (mC (.str "abcd")) (mCall F__law_draw [.io 0, .ex (mC (.int 4))])) (mCons (m2 subI (mCall F__law_draw [.io 0, .ex (m2 addD (mV 2) (mC (.int 1)))]) (mC (.int 1))) (mCons (mTup mNil) mNil)))))
def d__law_lates_b1 : MS :=
  (sSeq (sSet 5 (mF (mLc [6] (mIt (mV 4)) (gN 6) (mR true) d__law_lates_e1)))
  (sExpr (mApp 3 (mCB tupleD (A1 (mV 5))))))
def d__law_lates : MS :=
  (sSeq (sSet 2 (mCB lenD (A1 (m2 ixD (mV 1) (mC (.int 0))))))
  (sSeq (sSet 3 (mLstF mNil))
  (sSeq (sFor (mIt (m2 ixD (mV 1) (mC (.int 0)))) (gN 4)
  d__law_lates_b1)
  (sRet (mTup (mCons (mCB tupleD (A1 (mV 3))) (mCons (m2 ixD (mV 1) (mC (.int 1))) (mCons (m2 ixD (mV 1) (mC (.int 2))) (mCons (m2 ixD (mV 1) (mC (.int 3))) mNil)))))))))
def F__law_lates : Fn := runDef 7 2 [0] d__law_lates
def d__law_name : MS :=
  (sSeq (sIf (mAnd (mBl (m2 gtI (mCB lenD (A1 (mV 1))) (mC (.int 0)))) (mBl (m2 gtI (mCall F__law_draw [.io 0, .ex (mC (.int 5))]) (mC (.int 0)))))
  (sRet (m2 ixD (mV 1) (mCall F__law_draw [.io 0, .ex (mCB lenD (A1 (mV 1)))])))
  sNext)
  (sRet (mTup (mCons (mCall F__law_draw [.io 0, .ex (mV 2)]) (mCons (m2 ixD (mC (.str "abcd")) (mCall F__law_draw [.io 0, .ex (mC (.int 4))])) mNil)))))
def F__law_name : Fn := runDef 3 3 [0] d__law_name
def d__law_plans_b1 : MS :=
  (sSeq (sSet 10 (mF (m2 ixD (mV 3) (mCall F__law_draw [.io 0, .ex (mC (.int 17))]))))
  (sSeq (sIf (mBl (m2 eqD (mV 10) (mC (.str "out"))))
  (sSeq (sSet 6 (m2 addD (mV 6) (mC (.int 1))))
  (sIf (mBl (m2 gtI (mV 6) (mC (.int 2))))
  (sSet 10 (mC (.str "load")))
  sNext))
  sNext)
  (sSeq (sSet 11 (mF (m2 ixD (mV 2) (mCall F__law_draw [.io 0, .ex (mCB lenD (A1 (mV 2)))]))))
  (sSeq (sSet 12 (mCall F__law_draw [.io 0, .ex (mV 1)]))
  (sExpr (mApp 8 (mTup (mCons (mV 10) (mCons (mV 11) (mCons (mV 12) (mCons (m2 ixD (mV 2) (mCall F__law_draw [.io 0, .ex (mCB lenD (A1 (mV 2)))])) mNil)))))))))))
def d__law_plans_b2 : MS :=
  (sSeq (sSet 8 (mLstF mNil))
  (sSeq (sFor (mRng1 (mCB min2D (A2 (mV 5) (mCall F__law_draw [.io 0, .ex (mC (.int 6))])))) (gN 9)
  d__law_plans_b1)
  (sSeq (sSet 5 (m2 subI (mV 5) (mLenO 8)))
  (sExpr (mApp 4 (mV 8))))))
def d__law_plans : MS :=
  (sSeq (sSet 2 (mF (mSl (mC (.str "abcd")) mNoP (mP (m2 addD (mC (.int 1)) (mCall F__law_draw [.io 0, .ex (mC (.int 4))]))))))
  (sSeq (sSet 3 (mF (mLstF (mCons (mC (.str "give")) (mCons (mC (.str "show")) (mCons (mC (.str "load")) (mCons (mC (.str "pass")) (mCons (mC (.str "late")) (mCons (mC (.str "out")) (mCons (mC (.str "give")) (mCons (mC (.str "show")) (mCons (mC (.str "load")) mNil))))))))))))
  (sSeq (sSet 3 (mF (m2 addD (mV 3) (mLstF (mCons (mC (.str "pass")) (mCons (mC (.str "late")) (mCons (mC (.str "out")) (mCons (mC (.str "give")) (mCons (mC (.str "show")) (mCons (mC (.str "load")) (mCons (mC (.str "pass")) (mCons (mC (.str "give")) mNil))))))))))))
  (sSeq (sSet 4 (mLstF mNil))
  (sSeq (sSet 5 (mC (.int 12)))
  (sSeq (sSet 6 (mC (.int 0)))
  (sSeq (sFor (mRng1 (mV 1)) (gN 7)
  d__law_plans_b2)
  (sRet (mMv 4)))))))))
def F__law_plans : Fn := runDef 13 2 [0] d__law_plans
def d__law_needs_e1 : M OV :=
  (mCall F__law_name [.io 0, .ex (mV 2), .ex (mV 3)])
def d__law_needs : MS :=
  (sRet (mCB tupleD (A1 (mLc [4] (mRng1 (mCall F__law_draw [.io 0, .ex (m2 addD (mV 1) (mC (.int 1)))])) (gN 4) (mR true) d__law_needs_e1))))
def F__law_needs : Fn := runDef 5 4 [0] d__law_needs
def d__law_row : MS :=
  (sSeq (sAsg (mV 1) (gT [(gN 4), (gN 5), (gN 6), (gN 7)]))
  (sSeq (sIf (mBl (m2 eqD (mV 4) (mC (.str "load"))))
  (sRet (mTup (mCons (mC (.str "load")) (mCons (mV 6) mNil))))
  sNext)
  (sSeq (sIf (mBl (m2 eqD (mV 4) (mC (.str "out"))))
  (sRet (mTup (mCons (mC (.str "out")) mNil)))
  sNext)
  (sSeq (sIf (mBl (m2 eqD (mV 4) (mC (.str "pass"))))
  (sRet (mTup (mCons (mC (.str "pass")) (mCons (mV 5) (mCons (mV 6) (mCons (mV 7) mNil))))))
  sNext)
  (sSeq (sIf (mBl (m2 eqD (mV 4) (mC (.str "late"))))
  (sSeq (sIf (mBl (m2 eqD (mCall F__law_draw [.io 0, .ex (mC (.int 3))]) (mC (.int 0))))
  (sSet 6 (mNeg (mC (.int 1))))
  sNext)
  (sRet (mTup (mCons (mC (.str "late")) (mCons (mV 5) (mCons (mV 6) (mCons (mCall F__law_needs [.io 0, .ex (mC (.int 2)), .ex (mV 2), .ex (mV 3)]) mNil)))))))
  sNext)
  (sSeq (sSet 8 (m2 eqD (mCall F__law_draw [.io 0, .ex (mC (.int 3))]) (mC (.int 0))))
  (sSeq (sIf (mBl (m2 eqD (mV 4) (mC (.str "give"))))
  (sRet (mTup (mCons (mC (.str "give")) (mCons (mV 5) (mCons (mCall F__law_needs [.io 0, .ex (mC (.int 1)), .ex (mV 2), .ex (mV 3)]) (mCons (mV 8) mNil))))))
  sNext)
  (sRet (mTup (mCons (mC (.str "show")) (mCons (mCall F__law_needs [.io 0, .ex (mC (.int 2)), .ex (mV 2), .ex (mV 3)]) (mCons (mV 8) mNil))))))))))))
def F__law_row : Fn := runDef 9 4 [0] d__law_row
def d__law_program_b1 : MS :=
  (sIf (mBl (m2 inD (m2 ixD (mV 10) (mC (.int 0))) (mLstF (mCons (mC (.str "give")) (mCons (mC (.str "pass")) (mCons (mC (.str "late")) mNil))))))
  (sExpr (mApp 3 (mTup (mCons (mV 4) (mCons (m2 ixD (mV 10) (mC (.int 1))) mNil)))))
  sNext)
def d__law_program_b2 : MS :=
  (sFor (mIt (m2 ixD (mV 2) (mV 4))) (gN 10)
  d__law_program_b1)
def d__law_program_e1 : M OV :=
  (mCall F__law_row [.io 0, .ex (mV 10), .ex (mV 3), .ex (mV 1)])
def d__law_program_b3 : MS :=
  (sExpr (mApp 5 (mCB tupleD (A1 (mLc [10] (mIt (mV 6)) (gN 10) (mR true) d__law_program_e1)))))
def d__law_program_e2 : M OV :=
  (m2 eqD (mCall F__law_draw [.io 0, .ex (mC (.int 2))]) (mC (.int 1)))
def d__law_program_e3 : M OV :=
  (mCall F__law_draw [.io 0, .ex (mV 1)])
def d__law_program_e4 : M OV :=
  (mCall F__law_name [.io 0, .ex (mV 3), .ex (mV 1)])
def d__law_program : MS :=
  (sSeq (sSet 1 (m2 addD (mC (.int 1)) (mCall F__law_draw [.io 0, .ex (mC (.int 4))])))
  (sSeq (sSet 2 (mF (mCall F__law_plans [.io 0, .ex (mV 1)])))
  (sSeq (sSet 3 (mLstF mNil))
  (sSeq (sFor (mRng1 (mV 1)) (gN 4)
  d__law_program_b2)
  (sSeq (sSet 5 (mLstF mNil))
  (sSeq (sFor (mIt (mV 2)) (gN 6)
  d__law_program_b3)
  (sSeq (sSet 7 (mCB tupleD (A1 (mLc [4] (mRng1 (mV 1)) (gN 4) (mR true) d__law_program_e2))))
  (sSeq (sSet 8 (mF (mLc [11] (mRng1 (m2 addD (mC (.int 1)) (mCall F__law_draw [.io 0, .ex (mC (.int 3))]))) (gN 11) (mR true) d__law_program_e3)))
  (sSeq (sSet 9 (mF (mLc [11] (mRng1 (mCall F__law_draw [.io 0, .ex (mC (.int 5))])) (gN 11) (mR true) d__law_program_e4)))
  (sRet (mTup (mCons (mCB tupleD (A1 (mV 5))) (mCons (mV 7) (mCons (mCB tupleD (A1 (mSortSet (mV 8)))) (mCons (mCB tupleD (A1 (mSortSet (mV 9)))) mNil)))))))))))))))
def F__law_program : Fn := runDef 12 1 [0] d__law_program
def d__law_same_b1 (R : Fn) : MS :=
  (sIf (mNot (mBl (mCall R [.ex (m2 ixD (mV 0) (mV 2)), .ex (m2 ixD (mV 1) (mV 2))])))
  (sRet (mC (.bool false)))
  sNext)
def d__law_same (R : Fn) : MS :=
  (sSeq (sIf (mOr (mBl (mIsN (mV 1))) (mBl (mIsN (mV 0))))
  (sRet (mAndV (mIsN (mV 1)) (mIsN (mV 0))))
  sNext)
  (sSeq (sIf (mOr (mBl (mIsi "bool" (mV 1))) (mBl (mIsi "bool" (mV 0))))
  (sRet (mAndV (mIsi "bool" (mV 1)) (mAndV (mIsi "bool" (mV 0)) (m2 eqD (mV 0) (mV 1)))))
  sNext)
  (sSeq (sIf (mBl (mIsi "int" (mV 1)))
  (sRet (mAndV (mIsi "int" (mV 0)) (m2 eqD (mV 0) (mV 1))))
  sNext)
  (sSeq (sIf (mBl (mIsi "str" (mV 1)))
  (sRet (mAndV (mIsi "str" (mV 0)) (m2 eqD (mV 0) (mV 1))))
  sNext)
  (sSeq (sIf (mAnd (mBl (mIsi "tuple" (mV 1))) (mNot (mBl (mIsi "tuple" (mV 0)))))
  (sRet (mC (.bool false)))
  sNext)
  (sSeq (sIf (mAnd (mBl (mIsi "list" (mV 1))) (mNot (mBl (mIsi "list" (mV 0)))))
  (sRet (mC (.bool false)))
  sNext)
  (sSeq (sIf (mBl (m2 neD (mCB lenD (A1 (mV 0))) (mCB lenD (A1 (mV 1)))))
  (sRet (mC (.bool false)))
  sNext)
  (sSeq (sFor (mRng1 (mCB lenD (A1 (mV 1)))) (gN 2)
  (d__law_same_b1 R))
  (sRet (mC (.bool true)))))))))))
def F__law_same : Nat → Fn
  | 0 => fun _ => none
  | n + 1 => runDef 3 2 [] (d__law_same (F__law_same n))
def d__law_stream_b1 : MS :=
  (sSet 1 (m2 modI (mCB intD (A1 (m2 addD (m2 addD (m2 mulI (mV 1) (mC (.int 69069))) (m2 modI (mCB intD (A1 (mV 2))) (mC (.int 1000000007)))) (mC (.int 12345))))) (mC (.int 2147483629))))
def d__law_stream : MS :=
  (sSeq (sSet 1 (mC (.int 1)))
  (sSeq (sFor (mIt (mV 0)) (gN 2)
  d__law_stream_b1)
  (sRet (mLstF (mCons (mCB listD (A1 (mV 0))) (mCons (mC (.int 0)) (mCons (mC (.int 0)) (mCons (mV 1) (mCons (mC (.int 0)) mNil)))))))))
def F__law_stream : Fn := runDef 3 1 [] d__law_stream
def d_doors_e1 : M OV :=
  (m2 ixD (mV 3) (mC (.int 2)))
def d_doors : MS :=
  (sSeq (sSet 1 (mF (mLc2 [2, 3] [3] (mIt (m2 ixD (mV 0) (mC (.int 0)))) (gN 2) (mR true) (mIt (mV 2)) (gN 3) (mAnd (mBl (m2 eqD (m2 ixD (mV 3) (mC (.int 0))) (mC (.str "late")))) (mBl (m2 geI (m2 ixD (mV 3) (mC (.int 2))) (mC (.int 0))))) d_doors_e1)))
  (sRet (mSortSet (m2 addD (mCB listD (A1 (m2 ixD (mV 0) (mC (.int 2))))) (mV 1)))))
def F_doors : Fn := runDef 4 1 [] d_doors
def d_is_ascending_e1 : M OV :=
  (m2 ltD (m2 ixD (mV 0) (mV 1)) (m2 ixD (mV 0) (m2 addD (mV 1) (mC (.int 1)))))
def d_is_ascending : MS :=
  (sRet (mCB allD (A1 (mLc [1] (mRng1 (m2 subI (mCB lenD (A1 (mV 0))) (mC (.int 1)))) (gN 1) (mR true) d_is_ascending_e1))))
def F_is_ascending : Fn := runDef 2 1 [] d_is_ascending
def d_is_integer : MS :=
  (sRet (mAndV (mIsi "int" (mV 0)) (mNotV (mIsi "bool" (mV 0)))))
def F_is_integer : Fn := runDef 1 1 [] d_is_integer
def d_is_number : MS :=
  (sRet (mAndV (mCall F_is_integer [.ex (mV 0)]) (mChain leI ltI (mC (.int 0)) (mV 0) (mV 1))))
def F_is_number : Fn := runDef 2 2 [] d_is_number
def d_is_entries_e1 : M OV :=
  (mCall F_is_number [.ex (mV 2), .ex (mV 1)])
def d_is_entries : MS :=
  (sSeq (sIf (mOr (mNot (mBl (mIsi "tuple" (mV 0)))) (mNot (mBl (mChain leI leI (mC (.int 1)) (mCB lenD (A1 (mV 0))) (mC c_MOST_ENTRIES)))))
  (sRet (mC (.bool false)))
  sNext)
  (sRet (mAndV (mCB allD (A1 (mLc [2] (mIt (mV 0)) (gN 2) (mR true) d_is_entries_e1))) (mCall F_is_ascending [.ex (mV 0)]))))
def F_is_entries : Fn := runDef 3 2 [] d_is_entries
def d_is_flag : MS :=
  (sRet (mOrV (m2 isBD (mV 0) (mC (.bool true))) (m2 isBD (mV 0) (mC (.bool false)))))
def F_is_flag : Fn := runDef 1 1 [] d_is_flag
def d_is_marks_e1 : M OV :=
  (mCall F_is_flag [.ex (mV 2)])
def d_is_marks : MS :=
  (sRet (mAndV (mIsi "tuple" (mV 0)) (mAndV (m2 eqD (mCB lenD (A1 (mV 0))) (mV 1)) (mCB allD (A1 (mLc [2] (mIt (mV 0)) (gN 2) (mR true) d_is_marks_e1))))))
def F_is_marks : Fn := runDef 3 2 [] d_is_marks
def d_is_name : MS :=
  (sRet (mAndV (mIsi "str" (mV 0)) (m2 inD (mV 0) (mC c_NAMES))))
def F_is_name : Fn := runDef 1 1 [] d_is_name
def d_is_named : MS :=
  (sRet (mAndV (mIsi "tuple" (mV 0)) (mAndV (m2 eqD (mCB lenD (A1 (mV 0))) (mC (.int 2))) (mAndV (mCall F_is_number [.ex (m2 ixD (mV 0) (mC (.int 0))), .ex (mV 1)]) (mCall F_is_name [.ex (m2 ixD (mV 0) (mC (.int 1)))])))))
def F_is_named : Fn := runDef 2 2 [] d_is_named
def d_is_opens_e1 : M OV :=
  (mCall F_is_named [.ex (mV 2), .ex (mV 1)])
def d_is_opens : MS :=
  (sSeq (sIf (mOr (mNot (mBl (mIsi "tuple" (mV 0)))) (mBl (m2 gtI (mCB lenD (A1 (mV 0))) (mC c_MOST_OPENS))))
  (sRet (mC (.bool false)))
  sNext)
  (sRet (mAndV (mCB allD (A1 (mLc [2] (mIt (mV 0)) (gN 2) (mR true) d_is_opens_e1))) (mCall F_is_ascending [.ex (mV 0)]))))
def F_is_opens : Fn := runDef 3 2 [] d_is_opens
def d_is_needs_e1 : M OV :=
  (mCall F_is_named [.ex (mV 3), .ex (mV 1)])
def d_is_needs : MS :=
  (sRet (mAndV (mIsi "tuple" (mV 0)) (mAndV (m2 leI (mCB lenD (A1 (mV 0))) (mV 2)) (mCB allD (A1 (mLc [3] (mIt (mV 0)) (gN 3) (mR true) d_is_needs_e1))))))
def F_is_needs : Fn := runDef 4 3 [] d_is_needs
def d_is_row : MS :=
  (sSeq (sIf (mOr (mNot (mBl (mIsi "tuple" (mV 0)))) (mOr (mBl (m2 eqD (mCB lenD (A1 (mV 0))) (mC (.int 0)))) (mNot (mBl (mIsi "str" (m2 ixD (mV 0) (mC (.int 0))))))))
  (sRet (mC (.bool false)))
  sNext)
  (sSeq (sAsg (mV 0) (gStar 2 1 [(gN 2), (gN 3)]))
  (sSeq (sIf (mBl (m2 eqD (mV 2) (mC (.str "load"))))
  (sRet (mAndV (m2 eqD (mCB lenD (A1 (mV 3))) (mC (.int 1))) (mCall F_is_number [.ex (m2 ixD (mV 3) (mC (.int 0))), .ex (mV 1)])))
  sNext)
  (sSeq (sIf (mBl (m2 eqD (mV 2) (mC (.str "give"))))
  (sRet (mAndV (m2 eqD (mCB lenD (A1 (mV 3))) (mC (.int 3))) (mAndV (mCall F_is_name [.ex (m2 ixD (mV 3) (mC (.int 0)))]) (mAndV (mCall F_is_needs [.ex (m2 ixD (mV 3) (mC (.int 1))), .ex (mV 1), .ex (mC (.int 1))]) (mCall F_is_flag [.ex (m2 ixD (mV 3) (mC (.int 2)))])))))
  sNext)
  (sSeq (sIf (mBl (m2 eqD (mV 2) (mC (.str "pass"))))
  (sRet (mAndV (m2 eqD (mCB lenD (A1 (mV 3))) (mC (.int 3))) (mAndV (mCall F_is_name [.ex (m2 ixD (mV 3) (mC (.int 0)))]) (mAndV (mCall F_is_number [.ex (m2 ixD (mV 3) (mC (.int 1))), .ex (mV 1)]) (mCall F_is_name [.ex (m2 ixD (mV 3) (mC (.int 2)))])))))
  sNext)
  (sSeq (sIf (mBl (m2 eqD (mV 2) (mC (.str "show"))))
  (sRet (mAndV (m2 eqD (mCB lenD (A1 (mV 3))) (mC (.int 2))) (mAndV (mCall F_is_needs [.ex (m2 ixD (mV 3) (mC (.int 0))), .ex (mV 1), .ex (mC (.int 2))]) (mCall F_is_flag [.ex (m2 ixD (mV 3) (mC (.int 1)))]))))
  sNext)
  (sSeq (sIf (mBl (m2 eqD (mV 2) (mC (.str "late"))))
  (sSeq (sIf (mOr (mBl (m2 neD (mCB lenD (A1 (mV 3))) (mC (.int 3)))) (mOr (mNot (mBl (mCall F_is_name [.ex (m2 ixD (mV 3) (mC (.int 0)))]))) (mNot (mBl (mCall F_is_integer [.ex (m2 ixD (mV 3) (mC (.int 1)))])))))
  (sRet (mC (.bool false)))
  sNext)
  (sRet (mAndV (mChain leI ltI (mNeg (mC (.int 1))) (m2 ixD (mV 3) (mC (.int 1))) (mV 1)) (mCall F_is_needs [.ex (m2 ixD (mV 3) (mC (.int 2))), .ex (mV 1), .ex (mC (.int 2))]))))
  sNext)
  (sRet (mAndV (m2 eqD (mV 2) (mC (.str "out"))) (m2 eqD (mCB lenD (A1 (mV 3))) (mC (.int 0))))))))))))
def F_is_row : Fn := runDef 4 2 [] d_is_row
def d_is_parts_e1 : M OV :=
  (mAndV (mIsi "tuple" (mV 1)) (m2 leI (mCB lenD (A1 (mV 1))) (mC c_MOST_ROWS)))
def d_is_parts_e2 : M OV :=
  (mCB lenD (A1 (mV 1)))
def d_is_parts_e3 : M OV :=
  (mCall F_is_row [.ex (mV 2), .ex (mCB lenD (A1 (mV 0)))])
def d_is_parts_b1 : MS :=
  (sIf (mNot (mBl (mCB allD (A1 (mLc [2] (mIt (mV 1)) (gN 2) (mR true) d_is_parts_e3)))))
  (sRet (mC (.bool false)))
  sNext)
def d_is_parts_e4 : M OV :=
  (mV 2)
def d_is_parts : MS :=
  (sSeq (sIf (mOr (mNot (mBl (mIsi "tuple" (mV 0)))) (mNot (mBl (mChain leI leI (mC (.int 1)) (mCB lenD (A1 (mV 0))) (mC c_MOST_PARTS)))))
  (sRet (mC (.bool false)))
  sNext)
  (sSeq (sIf (mNot (mBl (mCB allD (A1 (mLc [1] (mIt (mV 0)) (gN 1) (mR true) d_is_parts_e1)))))
  (sRet (mC (.bool false)))
  sNext)
  (sSeq (sIf (mBl (m2 gtI (mCB sumD (A1 (mLc [1] (mIt (mV 0)) (gN 1) (mR true) d_is_parts_e2))) (mC c_MOST_ROWS_IN_ALL)))
  (sRet (mC (.bool false)))
  sNext)
  (sSeq (sFor (mIt (mV 0)) (gN 1)
  d_is_parts_b1)
  (sRet (m2 leI (mCB lenD (A1 (mLc2 [1, 2] [2] (mIt (mV 0)) (gN 1) (mR true) (mIt (mV 1)) (gN 2) (mBl (m2 eqD (m2 ixD (mV 2) (mC (.int 0))) (mC (.str "out")))) d_is_parts_e4))) (mC c_MOST_OUTS)))))))
def F_is_parts : Fn := runDef 3 1 [] d_is_parts
def d_is_program : MS :=
  (sSeq (sIf (mOr (mNot (mBl (mIsi "tuple" (mV 0)))) (mBl (m2 neD (mCB lenD (A1 (mV 0))) (mC (.int 4)))))
  (sRet (mC (.bool false)))
  sNext)
  (sSeq (sAsg (mV 0) (gT [(gN 1), (gN 2), (gN 3), (gN 4)]))
  (sSeq (sIf (mNot (mBl (mCall F_is_parts [.ex (mV 1)])))
  (sRet (mC (.bool false)))
  sNext)
  (sSeq (sSet 5 (mCB lenD (A1 (mV 1))))
  (sRet (mAndV (mCall F_is_marks [.ex (mV 2), .ex (mV 5)]) (mAndV (mCall F_is_entries [.ex (mV 3), .ex (mV 5)]) (mCall F_is_opens [.ex (mV 4), .ex (mV 5)]))))))))
def F_is_program : Fn := runDef 6 1 [] d_is_program
def d_need_program : MS :=
  (sIf (mNot (mBl (mCall F_is_program [.ex (mV 0)])))
  sNo
  sNext)
def F_need_program : Fn := runDef 1 1 [] d_need_program
def d_doors_of : MS :=
  (sSeq (sExpr (mCall F_need_program [.ex (mV 0)]))
  (sRet (mCall F_doors [.ex (mV 0)])))
def F_doors_of : Fn := runDef 1 1 [] d_doors_of
def d_law : MS :=
  (sSeq (sSet 1 (mCall F__law_stream [.ex (mV 0)]))
  (sSeq (sSet 2 (m2 eqD (mCall F__law_draw [.io 1, .ex (mC (.int 2))]) (mC (.int 1))))
  (sSeq (sSet 3 (mF (mCall F__law_program [.io 1])))
  (sSeq (sIf (mTru (mV 2))
  (sSet 3 (mF (mCall F__law_lates [.io 1, .ex (mV 3)])))
  sNext)
  (sSeq (sSet 4 (mF (mCall F__law_doors [.ex (mV 3)])))
  (sSeq (sSet 5 (mCall F_doors_of [.ex (mV 3)]))
  (sSeq (sIf (mThawB (mNot (mBl (mCall (F__law_same 6) [.ex (mV 5), .ex (mV 4)]))))
  (sRet (mC (.bool false)))
  sNext)
  (sSeq (sExpr (mApp 5 (mC (.int 9))))
  (sSeq (sExpr (mRev 5))
  (sRet (mCall (F__law_same 6) [.ex (mF (mCall F_doors_of [.ex (mV 3)])), .ex (mV 4)])))))))))))
def F_law : Fn := runDef 6 1 [] d_law
/-! ### what the module has -/
structure Txt (K : PySem.W.Frag) (mg : Str → Option Value) : Prop where
  d__law_doors : HasDef K mg "_law_doors" st__law_doors
  d__law_mixed : HasDef K mg "_law_mixed" st__law_mixed
  d__law_draw : HasDef K mg "_law_draw" st__law_draw
  d__law_lates : HasDef K mg "_law_lates" st__law_lates
  d__law_name : HasDef K mg "_law_name" st__law_name
  d__law_plans : HasDef K mg "_law_plans" st__law_plans
  d__law_needs : HasDef K mg "_law_needs" st__law_needs
  d__law_row : HasDef K mg "_law_row" st__law_row
  d__law_program : HasDef K mg "_law_program" st__law_program
  d__law_same : HasDef K mg "_law_same" st__law_same
  d__law_stream : HasDef K mg "_law_stream" st__law_stream
  d_doors : HasDef K mg "doors" st_doors
  d_is_ascending : HasDef K mg "is_ascending" st_is_ascending
  d_is_integer : HasDef K mg "is_integer" st_is_integer
  d_is_number : HasDef K mg "is_number" st_is_number
  d_is_entries : HasDef K mg "is_entries" st_is_entries
  d_is_flag : HasDef K mg "is_flag" st_is_flag
  d_is_marks : HasDef K mg "is_marks" st_is_marks
  d_is_name : HasDef K mg "is_name" st_is_name
  d_is_named : HasDef K mg "is_named" st_is_named
  d_is_opens : HasDef K mg "is_opens" st_is_opens
  d_is_needs : HasDef K mg "is_needs" st_is_needs
  d_is_row : HasDef K mg "is_row" st_is_row
  d_is_parts : HasDef K mg "is_parts" st_is_parts
  d_is_program : HasDef K mg "is_program" st_is_program
  d_need_program : HasDef K mg "need_program" st_need_program
  d_doors_of : HasDef K mg "doors_of" st_doors_of
  d_law : HasDef K mg "law" st_law
  c_MOST_ENTRIES : GlobD K mg "MOST_ENTRIES" c_MOST_ENTRIES
  c_MOST_OPENS : GlobD K mg "MOST_OPENS" c_MOST_OPENS
  c_MOST_OUTS : GlobD K mg "MOST_OUTS" c_MOST_OUTS
  c_MOST_PARTS : GlobD K mg "MOST_PARTS" c_MOST_PARTS
  c_MOST_ROWS : GlobD K mg "MOST_ROWS" c_MOST_ROWS
  c_MOST_ROWS_IN_ALL : GlobD K mg "MOST_ROWS_IN_ALL" c_MOST_ROWS_IN_ALL
  c_NAMES : GlobD K mg "NAMES" c_NAMES
  z_abs : mg "abs" = none
  z_all : mg "all" = none
  z_bool : mg "bool" = none
  z_int : mg "int" = none
  z_isinstance : mg "isinstance" = none
  z_len : mg "len" = none
  z_list : mg "list" = none
  z_min : mg "min" = none
  z_range : mg "range" = none
  z_set : mg "set" = none
  z_sorted : mg "sorted" = none
  z_str : mg "str" = none
  z_sum : mg "sum" = none
  z_tuple : mg "tuple" = none
/-! ### each def keeps its promise -/
section
variable {w : World} {K : PySem.W.Frag} {mg : Str → Option Value} {base : Heap}
theorem sc__law_doors : FnScope ["program", "entered", "rows", "row"] ["program"] (defScope st__law_doors) := ⟨rfl, rfl, rfl, by decide +kernel, rfl, by decide +kernel, by decide +kernel⟩
theorem ok__law_doors (T : Txt K mg) : DefOk PySem.Challenge.pw_leanbundle_k02_doors w K mg base 1 "_law_doors" ["program"] [] F__law_doors :=
  okDef (k := 0) T.d__law_doors sc__law_doors rfl [] d__law_doors (by decide) (fun _ _ F => F.binds (ps := ["program"]) fun _ _ _ _ _ _ us hl => match us, hl with | [_], _ => rfl) fun cdv A outer s H E vs fa hr =>
  (dss_cons (ds_set (i := 1) sc__law_doors.nd rfl (by first | exact Or.inl rfl | exact Or.inr rfl) (de_list T.z_list (de_ix (de_var (pv 0)) de_int)))
  (dss_cons (ds_for (passes_of rfl) rfl (di_seq (de_ix (de_var (pv 0)) de_int)) (dg_name (i := 2) sc__law_doors.nd rfl (by first | exact Or.inl rfl | exact Or.inr rfl))
  (dss_one (ds_for (passes_of rfl) rfl (di_seq (de_var (pv 2))) (dg_name (i := 3) sc__law_doors.nd rfl (by first | exact Or.inl rfl | exact Or.inr rfl))
  (dss_one (ds_if (db_w (dw_and (db_cmp (op_eqP hr.units) s2_eq (de_ix (de_var (pv 3)) de_int) de_str (by with_unfolding_all rfl)) (dw_and1 (db_cmp op_ge s2_ge (de_ix (de_var (pv 3)) de_int) de_int (by with_unfolding_all rfl)))))
  (dss_one (ds_expr (de_app (pv 1) (de_ix (de_var (pv 3)) de_int))))
  dss_nil)))))
  (dss_one (ds_ret (de_sortSet rfl hr.units T.z_sorted T.z_set (de_var (pv 1)))))))
theorem sc__law_mixed : FnScope ["number", "turn", "first", "second"] ["number", "turn"] (defScope st__law_mixed) := ⟨rfl, rfl, rfl, by decide +kernel, rfl, by decide +kernel, by decide +kernel⟩
theorem ok__law_mixed (T : Txt K mg) : DefOk PySem.Challenge.pw_leanbundle_k02_doors w K mg base 1 "_law_mixed" ["number", "turn"] [] F__law_mixed :=
  okDef (k := 0) T.d__law_mixed sc__law_mixed rfl [] d__law_mixed (by decide) (fun _ _ F => F.binds (ps := ["number", "turn"]) fun _ _ _ _ _ _ us hl => match us, hl with | [_, _], _ => rfl) fun cdv A outer s H E vs fa hr =>
  (dss_cons (ds_set (i := 2) sc__law_mixed.nd rfl (by first | exact Or.inl rfl | exact Or.inr rfl) (de_op op_mod s2_mod (de_intc T.z_int (de_op op_addG s2_add' (de_op op_addG s2_add' (de_op op_mul s2_mul (de_var (pv 0)) de_int) (de_op op_mul s2_mul (de_var (pv 1)) de_int)) de_int)) de_int))
  (dss_cons (ds_set (i := 3) sc__law_mixed.nd rfl (by first | exact Or.inl rfl | exact Or.inr rfl) (de_op op_mod s2_mod (de_intc T.z_int (de_op op_addG s2_add' (de_op op_addG s2_add' (de_op op_mul s2_mul (de_var (pv 2)) (de_var (pv 2))) (de_op op_mul s2_mul (de_var (pv 1)) de_int)) (de_op op_fdiv s2_div (de_var (pv 2)) de_int))) de_int))
  (dss_one (ds_ret (de_op op_fdiv s2_div (de_var (pv 3)) de_int)))))
theorem sc__law_draw : FnScope ["stream", "limit", "cell", "drawn"] ["stream", "limit"] (defScope st__law_draw) := ⟨rfl, rfl, rfl, by decide +kernel, rfl, by decide +kernel, by decide +kernel⟩
theorem ok__law_draw (T : Txt K mg) (o__law_mixed : DefOk PySem.Challenge.pw_leanbundle_k02_doors w K mg base 1 "_law_mixed" ["number", "turn"] [] F__law_mixed) : DefOk PySem.Challenge.pw_leanbundle_k02_doors w K mg base 2 "_law_draw" ["stream", "limit"] [0] F__law_draw :=
  okDef (k := 1) T.d__law_draw sc__law_draw rfl [0] d__law_draw (by decide) (fun _ _ F => F.binds (ps := ["stream", "limit"]) fun _ _ _ _ _ _ us hl => match us, hl with | [_, _], _ => rfl) fun cdv A outer s H E vs fa hr =>
  (dss_cons (ds_setIx (pv 0) de_int (de_op op_addG s2_add' (de_ixO (pv 0) de_int) de_int))
  (dss_cons (ds_if (db_w (dw_and (db_cmp (op_eqP hr.units) s2_eq (de_ixO (pv 0) de_int) de_int (by with_unfolding_all rfl)) (dw_and1 (db_cmp op_lt s2_lt (de_ixO (pv 0) de_int) (de_len T.z_len (de_ixO (pv 0) de_int)) (by with_unfolding_all rfl)))))
  (dss_cons (ds_set (i := 2) sc__law_draw.nd rfl (by first | exact Or.inl rfl | exact Or.inr rfl) (de_intc T.z_int (de_ix (de_ixO (pv 0) de_int) (de_ixO (pv 0) de_int))))
  (dss_cons (ds_setIx (pv 0) de_int (de_op op_addG s2_add' (de_ixO (pv 0) de_int) de_int))
  (dss_cons (ds_if (db_w (dw_and (db_cmp op_gt s2_gt (de_var (pv 2)) (de_neg (de_op DL.op_pow s2_pow de_int de_int)) (by with_unfolding_all rfl)) (dw_and1 (db_cmp op_lt s2_lt (de_var (pv 2)) (de_op DL.op_pow s2_pow de_int de_int) (by with_unfolding_all rfl)))))
  (dss_one (ds_ret (de_op op_mod s2_mod (de_intc T.z_int (de_callD o__law_mixed (takes_of rfl rfl rfl rfl) hr (dar_ex (de_var (pv 2)) (dar_ex (de_ixO (pv 0) de_int) dar_nil)))) (de_var (pv 1)))))
  dss_nil)
  (dss_one (ds_setIx (pv 0) de_int (de_abs T.z_abs (de_var (pv 2))))))))
  dss_nil)
  (dss_cons (ds_if (db_cmp op_gt s2_gt (de_ixO (pv 0) de_int) de_int (by with_unfolding_all rfl))
  (dss_cons (ds_set (i := 3) sc__law_draw.nd rfl (by first | exact Or.inl rfl | exact Or.inr rfl) (de_op op_mod s2_mod (de_intc T.z_int (de_ixO (pv 0) de_int)) (de_var (pv 1))))
  (dss_cons (ds_setIx (pv 0) de_int (de_op op_fdiv s2_div (de_ixO (pv 0) de_int) (de_var (pv 1))))
  (dss_one (ds_ret (de_mv (pv 3))))))
  dss_nil)
  (dss_one (ds_ret (de_op op_mod s2_mod (de_intc T.z_int (de_callD o__law_mixed (takes_of rfl rfl rfl rfl) hr (dar_ex (de_ixO (pv 0) de_int) (dar_ex (de_ixO (pv 0) de_int) dar_nil)))) (de_var (pv 1))))))))
theorem sc__law_lates : FnScope ["stream", "program", "count", "parts", "rows", "line", "row"] ["stream", "program"] (defScope st__law_lates) := ⟨rfl, rfl, rfl, by decide +kernel, rfl, by decide +kernel, by decide +kernel⟩
theorem ok__law_lates (T : Txt K mg) (o__law_draw : DefOk PySem.Challenge.pw_leanbundle_k02_doors w K mg base 2 "_law_draw" ["stream", "limit"] [0] F__law_draw) : DefOk PySem.Challenge.pw_leanbundle_k02_doors w K mg base 3 "_law_lates" ["stream", "program"] [0] F__law_lates :=
  okDef (k := 2) T.d__law_lates sc__law_lates rfl [0] d__law_lates (by decide) (fun _ _ F => F.binds (ps := ["stream", "program"]) fun _ _ _ _ _ _ us hl => match us, hl with | [_, _], _ => rfl) fun cdv A outer s H E vs fa hr =>
  (dss_cons (ds_set (i := 2) sc__law_lates.nd rfl (by first | exact Or.inl rfl | exact Or.inr rfl) (de_len T.z_len (de_ix (de_var (pv 1)) de_int)))
  (dss_cons (ds_set (i := 3) sc__law_lates.nd rfl (by first | exact Or.inl rfl | exact Or.inr rfl) (de_lstF da_nil))
  (dss_cons (ds_for (passes_of rfl) rfl (di_seq (de_ix (de_var (pv 1)) de_int)) (dg_name (i := 4) sc__law_lates.nd rfl (by first | exact Or.inl rfl | exact Or.inr rfl))
  (dss_cons (by first | exact ds_setLcF (own := [("row", 6)]) (i := 5) rfl sc__law_lates.nd rfl rfl (by rfl) (di_seq (de_var (pv 4))) (by exact (show BlkOk ["stream", "program", "count", "parts", "rows", "line", "row"] (defScope st__law_lates) _ [("row", 6)] from ⟨rfl, by decide +kernel, by decide +kernel, by decide +kernel, by decide +kernel⟩)) (fun _ _ _ _ _ => (dg_name (i := 6) sc__law_lates.nd rfl (by first | exact Or.inl rfl | exact Or.inr rfl))) (fun _ _ _ _ _ => dpts_nil) (fun _ _ _ _ _ => (de_tup (da_cons de_str (da_cons (de_ix de_str (de_callD o__law_draw takes0 hr (dar_io (pv 0) (dar_ex de_int dar_nil)))) (da_cons (de_op op_sub s2_sub (de_callD o__law_draw takes0 hr (dar_io (pv 0) (dar_ex (de_op op_addG s2_add' (de_var (pv 2)) de_int) dar_nil))) de_int) (da_cons (de_tup da_nil) da_nil)))))) | exact ds_set (i := 5) sc__law_lates.nd rfl (by first | exact Or.inl rfl | exact Or.inr rfl) (de_frz (de_lc (own := [("row", 6)]) rfl sc__law_lates.nd (di_seq (de_var (pv 4))) (by exact (show BlkOk ["stream", "program", "count", "parts", "rows", "line", "row"] (defScope st__law_lates) _ [("row", 6)] from ⟨rfl, by decide +kernel, by decide +kernel, by decide +kernel, by decide +kernel⟩)) (fun _ _ _ _ _ => (dg_name (i := 6) sc__law_lates.nd rfl (by first | exact Or.inl rfl | exact Or.inr rfl))) (fun _ _ _ _ _ => dpts_nil) (fun _ _ _ _ _ => (de_tup (da_cons de_str (da_cons (de_ix de_str (de_callD o__law_draw takes0 hr (dar_io (pv 0) (dar_ex de_int dar_nil)))) (da_cons (de_op op_sub s2_sub (de_callD o__law_draw takes0 hr (dar_io (pv 0) (dar_ex (de_op op_addG s2_add' (de_var (pv 2)) de_int) dar_nil))) de_int) (da_cons (de_tup da_nil) da_nil)))))))))
  (dss_one (ds_expr (de_app (pv 3) (de_tuple T.z_tuple (de_var (pv 5))))))))
  (dss_one (ds_ret (de_tup (da_cons (de_tuple T.z_tuple (de_var (pv 3))) (da_cons (de_ix (de_var (pv 1)) de_int) (da_cons (de_ix (de_var (pv 1)) de_int) (da_cons (de_ix (de_var (pv 1)) de_int) da_nil))))))))))
theorem sc__law_name : FnScope ["stream", "given", "count"] ["stream", "given", "count"] (defScope st__law_name) := ⟨rfl, rfl, rfl, by decide +kernel, rfl, by decide +kernel, by decide +kernel⟩
theorem ok__law_name (T : Txt K mg) (o__law_draw : DefOk PySem.Challenge.pw_leanbundle_k02_doors w K mg base 2 "_law_draw" ["stream", "limit"] [0] F__law_draw) : DefOk PySem.Challenge.pw_leanbundle_k02_doors w K mg base 3 "_law_name" ["stream", "given", "count"] [0] F__law_name :=
  okDef (k := 2) T.d__law_name sc__law_name rfl [0] d__law_name (by decide) (fun _ _ F => F.binds (ps := ["stream", "given", "count"]) fun _ _ _ _ _ _ us hl => match us, hl with | [_, _, _], _ => rfl) fun cdv A outer s H E vs fa hr =>
  (dss_cons (ds_if (db_w (dw_and (db_cmp op_gt s2_gt (de_len T.z_len (de_var (pv 1))) de_int (by with_unfolding_all rfl)) (dw_and1 (db_cmp op_gt s2_gt (de_callD o__law_draw (takes_of rfl rfl rfl rfl) hr (dar_io (pv 0) (dar_ex de_int dar_nil))) de_int (by with_unfolding_all rfl)))))
  (dss_one (ds_ret (de_ix (de_var (pv 1)) (de_callD o__law_draw (takes_of rfl rfl rfl rfl) hr (dar_io (pv 0) (dar_ex (de_len T.z_len (de_var (pv 1))) dar_nil))))))
  dss_nil)
  (dss_one (ds_ret (de_tup (da_cons (de_callD o__law_draw (takes_of rfl rfl rfl rfl) hr (dar_io (pv 0) (dar_ex (de_var (pv 2)) dar_nil))) (da_cons (de_ix de_str (de_callD o__law_draw (takes_of rfl rfl rfl rfl) hr (dar_io (pv 0) (dar_ex de_int dar_nil)))) da_nil))))))
theorem sc__law_plans : FnScope ["stream", "count", "names", "words", "plans", "left", "outs", "part", "line", "k", "word", "name", "target"] ["stream", "count"] (defScope st__law_plans) := ⟨rfl, rfl, rfl, by decide +kernel, rfl, by decide +kernel, by decide +kernel⟩
theorem ok__law_plans (T : Txt K mg) (o__law_draw : DefOk PySem.Challenge.pw_leanbundle_k02_doors w K mg base 2 "_law_draw" ["stream", "limit"] [0] F__law_draw) : DefOk PySem.Challenge.pw_leanbundle_k02_doors w K mg base 3 "_law_plans" ["stream", "count"] [0] F__law_plans :=
  okDef (k := 2) T.d__law_plans sc__law_plans rfl [0] d__law_plans (by decide) (fun _ _ F => F.binds (ps := ["stream", "count"]) fun _ _ _ _ _ _ us hl => match us, hl with | [_, _], _ => rfl) fun cdv A outer s H E vs fa hr =>
  (dss_cons (ds_set (i := 2) sc__law_plans.nd rfl (by first | exact Or.inl rfl | exact Or.inr rfl) (de_frz (de_slice de_str do_none (do_some (de_op op_addG s2_add' de_int (de_callD o__law_draw (takes_of rfl rfl rfl rfl) hr (dar_io (pv 0) (dar_ex de_int dar_nil))))))))
  (dss_cons (ds_set (i := 3) sc__law_plans.nd rfl (by first | exact Or.inl rfl | exact Or.inr rfl) (de_frz (de_lstF (da_cons de_str (da_cons de_str (da_cons de_str (da_cons de_str (da_cons de_str (da_cons de_str (da_cons de_str (da_cons de_str (da_cons de_str da_nil))))))))))))
  (dss_cons (ds_set (i := 3) sc__law_plans.nd rfl (by first | exact Or.inl rfl | exact Or.inr rfl) (de_frz (de_op op_addG s2_add' (de_var (pv 3)) (de_lstF (da_cons de_str (da_cons de_str (da_cons de_str (da_cons de_str (da_cons de_str (da_cons de_str (da_cons de_str (da_cons de_str da_nil))))))))))))
  (dss_cons (ds_set (i := 4) sc__law_plans.nd rfl (by first | exact Or.inl rfl | exact Or.inr rfl) (de_lstF da_nil))
  (dss_cons (ds_set (i := 5) sc__law_plans.nd rfl (by first | exact Or.inl rfl | exact Or.inr rfl) de_int)
  (dss_cons (ds_set (i := 6) sc__law_plans.nd rfl (by first | exact Or.inl rfl | exact Or.inr rfl) de_int)
  (dss_cons (ds_for (passes_of rfl) rfl (di_range1 T.z_range (de_var (pv 1))) (dg_name (i := 7) sc__law_plans.nd rfl (by first | exact Or.inl rfl | exact Or.inr rfl))
  (dss_cons (ds_set (i := 8) sc__law_plans.nd rfl (by first | exact Or.inl rfl | exact Or.inr rfl) (de_lstF da_nil))
  (dss_cons (ds_for (passes_of rfl) rfl (di_range1 T.z_range (de_min2 rfl T.z_min (de_var (pv 5)) (de_callD o__law_draw (takes_of rfl rfl rfl rfl) hr (dar_io (pv 0) (dar_ex de_int dar_nil))))) (dg_name (i := 9) sc__law_plans.nd rfl (by first | exact Or.inl rfl | exact Or.inr rfl))
  (dss_cons (ds_set (i := 10) sc__law_plans.nd rfl (by first | exact Or.inl rfl | exact Or.inr rfl) (de_frz (de_ix (de_var (pv 3)) (de_callD o__law_draw (takes_of rfl rfl rfl rfl) hr (dar_io (pv 0) (dar_ex de_int dar_nil))))))
  (dss_cons (ds_if (db_cmp (op_eqP hr.units) s2_eq (de_var (pv 10)) de_str (by with_unfolding_all rfl))
  (dss_cons (ds_set (i := 6) sc__law_plans.nd rfl (by first | exact Or.inl rfl | exact Or.inr rfl) (de_op op_addG s2_add' (de_var (pv 6)) de_int))
  (dss_one (ds_if (db_cmp op_gt s2_gt (de_var (pv 6)) de_int (by with_unfolding_all rfl))
  (dss_one (ds_set (i := 10) sc__law_plans.nd rfl (by first | exact Or.inl rfl | exact Or.inr rfl) de_str))
  dss_nil)))
  dss_nil)
  (dss_cons (ds_set (i := 11) sc__law_plans.nd rfl (by first | exact Or.inl rfl | exact Or.inr rfl) (de_frz (de_ix (de_var (pv 2)) (de_callD o__law_draw (takes_of rfl rfl rfl rfl) hr (dar_io (pv 0) (dar_ex (de_len T.z_len (de_var (pv 2))) dar_nil))))))
  (dss_cons (ds_set (i := 12) sc__law_plans.nd rfl (by first | exact Or.inl rfl | exact Or.inr rfl) (de_callD o__law_draw (takes_of rfl rfl rfl rfl) hr (dar_io (pv 0) (dar_ex (de_var (pv 1)) dar_nil))))
  (dss_one (ds_expr (de_app (pv 8) (de_tup (da_cons (de_var (pv 10)) (da_cons (de_var (pv 11)) (da_cons (de_var (pv 12)) (da_cons (de_ix (de_var (pv 2)) (de_callD o__law_draw (takes_of rfl rfl rfl rfl) hr (dar_io (pv 0) (dar_ex (de_len T.z_len (de_var (pv 2))) dar_nil)))) da_nil)))))))))))))
  (dss_cons (ds_set (i := 5) sc__law_plans.nd rfl (by first | exact Or.inl rfl | exact Or.inr rfl) (de_op op_sub s2_sub (de_var (pv 5)) (de_lenO T.z_len (pv 8))))
  (dss_one (ds_expr (de_app (pv 4) (de_var (pv 8)))))))))
  (dss_one (ds_ret (de_mv (pv 4)))))))))))
theorem sc__law_needs : FnScope ["stream", "most", "given", "count", "k"] ["stream", "most", "given", "count"] (defScope st__law_needs) := ⟨rfl, rfl, rfl, by decide +kernel, rfl, by decide +kernel, by decide +kernel⟩
theorem ok__law_needs (T : Txt K mg) (o__law_draw : DefOk PySem.Challenge.pw_leanbundle_k02_doors w K mg base 2 "_law_draw" ["stream", "limit"] [0] F__law_draw) (o__law_name : DefOk PySem.Challenge.pw_leanbundle_k02_doors w K mg base 3 "_law_name" ["stream", "given", "count"] [0] F__law_name) : DefOk PySem.Challenge.pw_leanbundle_k02_doors w K mg base 4 "_law_needs" ["stream", "most", "given", "count"] [0] F__law_needs :=
  okDef (k := 3) T.d__law_needs sc__law_needs rfl [0] d__law_needs (by decide) (fun _ _ F => F.binds (ps := ["stream", "most", "given", "count"]) fun _ _ _ _ _ _ us hl => match us, hl with | [_, _, _, _], _ => rfl) fun cdv A outer s H E vs fa hr =>
  (dss_one (ds_ret (de_tuple T.z_tuple (de_lc (own := [("k", 4)]) rfl sc__law_needs.nd (di_range1 T.z_range (de_callD o__law_draw (takes_of rfl rfl rfl rfl) hr (dar_io (pv 0) (dar_ex (de_op op_addG s2_add' (de_var (pv 1)) de_int) dar_nil)))) (by exact (show BlkOk ["stream", "most", "given", "count", "k"] (defScope st__law_needs) _ [("k", 4)] from ⟨rfl, by decide +kernel, by decide +kernel, by decide +kernel, by decide +kernel⟩)) (fun _ _ _ _ _ => (dg_name (i := 4) sc__law_needs.nd rfl (by first | exact Or.inl rfl | exact Or.inr rfl))) (fun _ _ _ _ _ => dpts_nil) (fun _ _ _ _ _ => (de_callD o__law_name takes0 hr (dar_io (pv 0) (dar_ex (de_var (pv 2)) (dar_ex (de_var (pv 3)) dar_nil)))))))))
theorem sc__law_row : FnScope ["stream", "plan", "given", "count", "word", "name", "part", "other", "risky"] ["stream", "plan", "given", "count"] (defScope st__law_row) := ⟨rfl, rfl, rfl, by decide +kernel, rfl, by decide +kernel, by decide +kernel⟩
theorem ok__law_row (T : Txt K mg) (o__law_draw : DefOk PySem.Challenge.pw_leanbundle_k02_doors w K mg base 2 "_law_draw" ["stream", "limit"] [0] F__law_draw) (o__law_needs : DefOk PySem.Challenge.pw_leanbundle_k02_doors w K mg base 4 "_law_needs" ["stream", "most", "given", "count"] [0] F__law_needs) : DefOk PySem.Challenge.pw_leanbundle_k02_doors w K mg base 5 "_law_row" ["stream", "plan", "given", "count"] [0] F__law_row :=
  okDef (k := 4) T.d__law_row sc__law_row rfl [0] d__law_row (by decide) (fun _ _ F => F.binds (ps := ["stream", "plan", "given", "count"]) fun _ _ _ _ _ _ us hl => match us, hl with | [_, _, _, _], _ => rfl) fun cdv A outer s H E vs fa hr =>
  (dss_cons (ds_asg (de_var (pv 1)) (dg_tup rfl (dgs_cons (dg_name (i := 4) sc__law_row.nd rfl (by first | exact Or.inl rfl | exact Or.inr rfl)) (dgs_cons (dg_name (i := 5) sc__law_row.nd rfl (by first | exact Or.inl rfl | exact Or.inr rfl)) (dgs_cons (dg_name (i := 6) sc__law_row.nd rfl (by first | exact Or.inl rfl | exact Or.inr rfl)) (dgs_cons (dg_name (i := 7) sc__law_row.nd rfl (by first | exact Or.inl rfl | exact Or.inr rfl)) dgs_nil))))))
  (dss_cons (ds_if (db_cmp (op_eqP hr.units) s2_eq (de_var (pv 4)) de_str (by with_unfolding_all rfl))
  (dss_one (ds_ret (de_tup (da_cons de_str (da_cons (de_var (pv 6)) da_nil)))))
  dss_nil)
  (dss_cons (ds_if (db_cmp (op_eqP hr.units) s2_eq (de_var (pv 4)) de_str (by with_unfolding_all rfl))
  (dss_one (ds_ret (de_tup (da_cons de_str da_nil))))
  dss_nil)
  (dss_cons (ds_if (db_cmp (op_eqP hr.units) s2_eq (de_var (pv 4)) de_str (by with_unfolding_all rfl))
  (dss_one (ds_ret (de_tup (da_cons de_str (da_cons (de_var (pv 5)) (da_cons (de_var (pv 6)) (da_cons (de_var (pv 7)) da_nil)))))))
  dss_nil)
  (dss_cons (ds_if (db_cmp (op_eqP hr.units) s2_eq (de_var (pv 4)) de_str (by with_unfolding_all rfl))
  (dss_cons (ds_if (db_cmp (op_eqP hr.units) s2_eq (de_callD o__law_draw (takes_of rfl rfl rfl rfl) hr (dar_io (pv 0) (dar_ex de_int dar_nil))) de_int (by with_unfolding_all rfl))
  (dss_one (ds_set (i := 6) sc__law_row.nd rfl (by first | exact Or.inl rfl | exact Or.inr rfl) (de_neg de_int)))
  dss_nil)
  (dss_one (ds_ret (de_tup (da_cons de_str (da_cons (de_var (pv 5)) (da_cons (de_var (pv 6)) (da_cons (de_callD o__law_needs (takes_of rfl rfl rfl rfl) hr (dar_io (pv 0) (dar_ex de_int (dar_ex (de_var (pv 2)) (dar_ex (de_var (pv 3)) dar_nil))))) da_nil))))))))
  dss_nil)
  (dss_cons (ds_set (i := 8) sc__law_row.nd rfl (by first | exact Or.inl rfl | exact Or.inr rfl) (de_cmp (op_eqP hr.units) s2_eq (de_callD o__law_draw (takes_of rfl rfl rfl rfl) hr (dar_io (pv 0) (dar_ex de_int dar_nil))) de_int (by with_unfolding_all rfl)))
  (dss_cons (ds_if (db_cmp (op_eqP hr.units) s2_eq (de_var (pv 4)) de_str (by with_unfolding_all rfl))
  (dss_one (ds_ret (de_tup (da_cons de_str (da_cons (de_var (pv 5)) (da_cons (de_callD o__law_needs (takes_of rfl rfl rfl rfl) hr (dar_io (pv 0) (dar_ex de_int (dar_ex (de_var (pv 2)) (dar_ex (de_var (pv 3)) dar_nil))))) (da_cons (de_var (pv 8)) da_nil)))))))
  dss_nil)
  (dss_one (ds_ret (de_tup (da_cons de_str (da_cons (de_callD o__law_needs (takes_of rfl rfl rfl rfl) hr (dar_io (pv 0) (dar_ex de_int (dar_ex (de_var (pv 2)) (dar_ex (de_var (pv 3)) dar_nil))))) (da_cons (de_var (pv 8)) da_nil)))))))))))))
theorem sc__law_program : FnScope ["stream", "count", "plans", "given", "part", "parts", "line", "marks", "entries", "opens", "plan", "k"] ["stream"] (defScope st__law_program) := ⟨rfl, rfl, rfl, by decide +kernel, rfl, by decide +kernel, by decide +kernel⟩
theorem ok__law_program (T : Txt K mg) (o__law_draw : DefOk PySem.Challenge.pw_leanbundle_k02_doors w K mg base 2 "_law_draw" ["stream", "limit"] [0] F__law_draw) (o__law_name : DefOk PySem.Challenge.pw_leanbundle_k02_doors w K mg base 3 "_law_name" ["stream", "given", "count"] [0] F__law_name) (o__law_plans : DefOk PySem.Challenge.pw_leanbundle_k02_doors w K mg base 3 "_law_plans" ["stream", "count"] [0] F__law_plans) (o__law_row : DefOk PySem.Challenge.pw_leanbundle_k02_doors w K mg base 5 "_law_row" ["stream", "plan", "given", "count"] [0] F__law_row) : DefOk PySem.Challenge.pw_leanbundle_k02_doors w K mg base 6 "_law_program" ["stream"] [0] F__law_program :=
  okDef (k := 5) T.d__law_program sc__law_program rfl [0] d__law_program (by decide) (fun _ _ F => F.binds (ps := ["stream"]) fun _ _ _ _ _ _ us hl => match us, hl with | [_], _ => rfl) fun cdv A outer s H E vs fa hr =>
  (dss_cons (ds_set (i := 1) sc__law_program.nd rfl (by first | exact Or.inl rfl | exact Or.inr rfl) (de_op op_addG s2_add' de_int (de_callD o__law_draw (takes_of rfl rfl rfl rfl) hr (dar_io (pv 0) (dar_ex de_int dar_nil)))))
  (dss_cons (ds_set (i := 2) sc__law_program.nd rfl (by first | exact Or.inl rfl | exact Or.inr rfl) (de_frz (de_callD o__law_plans (takes_of rfl rfl rfl rfl) hr (dar_io (pv 0) (dar_ex (de_var (pv 1)) dar_nil)))))
  (dss_cons (ds_set (i := 3) sc__law_program.nd rfl (by first | exact Or.inl rfl | exact Or.inr rfl) (de_lstF da_nil))
  (dss_cons (ds_for (passes_of rfl) rfl (di_range1 T.z_range (de_var (pv 1))) (dg_name (i := 4) sc__law_program.nd rfl (by first | exact Or.inl rfl | exact Or.inr rfl))
  (dss_one (ds_for (passes_of rfl) rfl (di_seq (de_ix (de_var (pv 2)) (de_var (pv 4)))) (dg_name (i := 10) sc__law_program.nd rfl (by first | exact Or.inl rfl | exact Or.inr rfl))
  (dss_one (ds_if (db_cmp (op_inP hr.units) s2_in (de_ix (de_var (pv 10)) de_int) (de_lstF (da_cons de_str (da_cons de_str (da_cons de_str da_nil)))) (by with_unfolding_all rfl))
  (dss_one (ds_expr (de_app (pv 3) (de_tup (da_cons (de_var (pv 4)) (da_cons (de_ix (de_var (pv 10)) de_int) da_nil))))))
  dss_nil)))))
  (dss_cons (ds_set (i := 5) sc__law_program.nd rfl (by first | exact Or.inl rfl | exact Or.inr rfl) (de_lstF da_nil))
  (dss_cons (ds_for (passes_of rfl) rfl (di_seq (de_var (pv 2))) (dg_name (i := 6) sc__law_program.nd rfl (by first | exact Or.inl rfl | exact Or.inr rfl))
  (dss_one (ds_expr (de_app (pv 5) (de_tuple T.z_tuple (de_lc (own := [("plan", 10)]) rfl sc__law_program.nd (di_seq (de_var (pv 6))) (by exact (show BlkOk ["stream", "count", "plans", "given", "part", "parts", "line", "marks", "entries", "opens", "plan", "k"] (defScope st__law_program) _ [("plan", 10)] from ⟨rfl, by decide +kernel, by decide +kernel, by decide +kernel, by decide +kernel⟩)) (fun _ _ _ _ _ => (dg_name (i := 10) sc__law_program.nd rfl (by first | exact Or.inl rfl | exact Or.inr rfl))) (fun _ _ _ _ _ => dpts_nil) (fun _ _ _ _ _ => (de_callD o__law_row takes0 hr (dar_io (pv 0) (dar_ex (de_var (pv 10)) (dar_ex (de_var (pv 3)) (dar_ex (de_var (pv 1)) dar_nil))))))))))))
  (dss_cons (ds_set (i := 7) sc__law_program.nd rfl (by first | exact Or.inl rfl | exact Or.inr rfl) (de_tuple T.z_tuple (de_lc (own := [("part", 4)]) rfl sc__law_program.nd (di_range1 T.z_range (de_var (pv 1))) (by exact (show BlkOk ["stream", "count", "plans", "given", "part", "parts", "line", "marks", "entries", "opens", "plan", "k"] (defScope st__law_program) _ [("part", 4)] from ⟨rfl, by decide +kernel, by decide +kernel, by decide +kernel, by decide +kernel⟩)) (fun _ _ _ _ _ => (dg_name (i := 4) sc__law_program.nd rfl (by first | exact Or.inl rfl | exact Or.inr rfl))) (fun _ _ _ _ _ => dpts_nil) (fun _ _ _ _ _ => (de_cmp (op_eqP hr.units) s2_eq (de_callD o__law_draw takes0 hr (dar_io (pv 0) (dar_ex de_int dar_nil))) de_int (by with_unfolding_all rfl))))))
  (dss_cons (by first | exact ds_setLcF (own := [("k", 11)]) (i := 8) rfl sc__law_program.nd rfl rfl (by rfl) (di_range1 T.z_range (de_op op_addG s2_add' de_int (de_callD o__law_draw (takes_of rfl rfl rfl rfl) hr (dar_io (pv 0) (dar_ex de_int dar_nil))))) (by exact (show BlkOk ["stream", "count", "plans", "given", "part", "parts", "line", "marks", "entries", "opens", "plan", "k"] (defScope st__law_program) _ [("k", 11)] from ⟨rfl, by decide +kernel, by decide +kernel, by decide +kernel, by decide +kernel⟩)) (fun _ _ _ _ _ => (dg_name (i := 11) sc__law_program.nd rfl (by first | exact Or.inl rfl | exact Or.inr rfl))) (fun _ _ _ _ _ => dpts_nil) (fun _ _ _ _ _ => (de_callD o__law_draw takes0 hr (dar_io (pv 0) (dar_ex (de_var (pv 1)) dar_nil)))) | exact ds_set (i := 8) sc__law_program.nd rfl (by first | exact Or.inl rfl | exact Or.inr rfl) (de_frz (de_lc (own := [("k", 11)]) rfl sc__law_program.nd (di_range1 T.z_range (de_op op_addG s2_add' de_int (de_callD o__law_draw (takes_of rfl rfl rfl rfl) hr (dar_io (pv 0) (dar_ex de_int dar_nil))))) (by exact (show BlkOk ["stream", "count", "plans", "given", "part", "parts", "line", "marks", "entries", "opens", "plan", "k"] (defScope st__law_program) _ [("k", 11)] from ⟨rfl, by decide +kernel, by decide +kernel, by decide +kernel, by decide +kernel⟩)) (fun _ _ _ _ _ => (dg_name (i := 11) sc__law_program.nd rfl (by first | exact Or.inl rfl | exact Or.inr rfl))) (fun _ _ _ _ _ => dpts_nil) (fun _ _ _ _ _ => (de_callD o__law_draw takes0 hr (dar_io (pv 0) (dar_ex (de_var (pv 1)) dar_nil)))))))
  (dss_cons (by first | exact ds_setLcF (own := [("k", 11)]) (i := 9) rfl sc__law_program.nd rfl rfl (by rfl) (di_range1 T.z_range (de_callD o__law_draw (takes_of rfl rfl rfl rfl) hr (dar_io (pv 0) (dar_ex de_int dar_nil)))) (by exact (show BlkOk ["stream", "count", "plans", "given", "part", "parts", "line", "marks", "entries", "opens", "plan", "k"] (defScope st__law_program) _ [("k", 11)] from ⟨rfl, by decide +kernel, by decide +kernel, by decide +kernel, by decide +kernel⟩)) (fun _ _ _ _ _ => (dg_name (i := 11) sc__law_program.nd rfl (by first | exact Or.inl rfl | exact Or.inr rfl))) (fun _ _ _ _ _ => dpts_nil) (fun _ _ _ _ _ => (de_callD o__law_name takes0 hr (dar_io (pv 0) (dar_ex (de_var (pv 3)) (dar_ex (de_var (pv 1)) dar_nil))))) | exact ds_set (i := 9) sc__law_program.nd rfl (by first | exact Or.inl rfl | exact Or.inr rfl) (de_frz (de_lc (own := [("k", 11)]) rfl sc__law_program.nd (di_range1 T.z_range (de_callD o__law_draw (takes_of rfl rfl rfl rfl) hr (dar_io (pv 0) (dar_ex de_int dar_nil)))) (by exact (show BlkOk ["stream", "count", "plans", "given", "part", "parts", "line", "marks", "entries", "opens", "plan", "k"] (defScope st__law_program) _ [("k", 11)] from ⟨rfl, by decide +kernel, by decide +kernel, by decide +kernel, by decide +kernel⟩)) (fun _ _ _ _ _ => (dg_name (i := 11) sc__law_program.nd rfl (by first | exact Or.inl rfl | exact Or.inr rfl))) (fun _ _ _ _ _ => dpts_nil) (fun _ _ _ _ _ => (de_callD o__law_name takes0 hr (dar_io (pv 0) (dar_ex (de_var (pv 3)) (dar_ex (de_var (pv 1)) dar_nil))))))))
  (dss_one (ds_ret (de_tup (da_cons (de_tuple T.z_tuple (de_var (pv 5))) (da_cons (de_var (pv 7)) (da_cons (de_tuple T.z_tuple (de_sortSet rfl hr.units T.z_sorted T.z_set (de_var (pv 8)))) (da_cons (de_tuple T.z_tuple (de_sortSet rfl hr.units T.z_sorted T.z_set (de_var (pv 9)))) da_nil))))))))))))))))
theorem sc__law_same : FnScope ["actual", "due", "k"] ["actual", "due"] (defScope st__law_same) := ⟨rfl, rfl, rfl, by decide +kernel, rfl, by decide +kernel, by decide +kernel⟩
theorem ok__law_same (T : Txt K mg) : ∀ n, DefOk PySem.Challenge.pw_leanbundle_k02_doors w K mg base (0 + n) "_law_same" ["actual", "due"] [] (F__law_same n)
  | 0 => okNone T.d__law_same [] (fun _ _ F => F.binds (ps := ["actual", "due"]) fun _ _ _ _ _ _ us hl => match us, hl with | [_, _], _ => rfl)
  | n + 1 => by
    have ih := ok__law_same T n
    exact okDef (k := 0 + n) T.d__law_same sc__law_same rfl [] (d__law_same (F__law_same n)) (by decide) (fun _ _ F => F.binds (ps := ["actual", "due"]) fun _ _ _ _ _ _ us hl => match us, hl with | [_, _], _ => rfl) fun cdv A outer s H E vs fa hr => (show PSs _ _ (dS K mg _ _ (d__law_same (F__law_same n))) from
  have TK := takes_of rfl rfl rfl rfl
  (dss_cons (ds_if (db_w (dw_or (db_isN (de_var (pv 1))) (dw_or1 (db_isN (de_var (pv 0))))))
  (dss_one (ds_ret (de_and (de_isN (de_var (pv 1))) (de_one (de_isN (de_var (pv 0)))))))
  dss_nil)
  (dss_cons (ds_if (db_w (dw_or (db_val (de_isi T.z_isinstance T.z_bool bb_bool (by decide) (de_var (pv 1)))) (dw_or1 (db_val (de_isi T.z_isinstance T.z_bool bb_bool (by decide) (de_var (pv 0)))))))
  (dss_one (ds_ret (de_and (de_isi T.z_isinstance T.z_bool bb_bool (by decide) (de_var (pv 1))) (de_and (de_isi T.z_isinstance T.z_bool bb_bool (by decide) (de_var (pv 0))) (de_one (de_cmp (op_eqP hr.units) s2_eq (de_var (pv 0)) (de_var (pv 1)) (by with_unfolding_all rfl)))))))
  dss_nil)
  (dss_cons (ds_if (db_val (de_isi T.z_isinstance T.z_int bb_int (by decide) (de_var (pv 1))))
  (dss_one (ds_ret (de_and (de_isi T.z_isinstance T.z_int bb_int (by decide) (de_var (pv 0))) (de_one (de_cmp (op_eqP hr.units) s2_eq (de_var (pv 0)) (de_var (pv 1)) (by with_unfolding_all rfl))))))
  dss_nil)
  (dss_cons (ds_if (db_val (de_isi T.z_isinstance T.z_str bb_str (by decide) (de_var (pv 1))))
  (dss_one (ds_ret (de_and (de_isi T.z_isinstance T.z_str bb_str (by decide) (de_var (pv 0))) (de_one (de_cmp (op_eqP hr.units) s2_eq (de_var (pv 0)) (de_var (pv 1)) (by with_unfolding_all rfl))))))
  dss_nil)
  (dss_cons (ds_if (db_w (dw_and (db_val (de_isi T.z_isinstance T.z_tuple bb_tuple (by decide) (de_var (pv 1)))) (dw_and1 (db_not (db_val (de_isi T.z_isinstance T.z_tuple bb_tuple (by decide) (de_var (pv 0))))))))
  (dss_one (ds_ret de_bl))
  dss_nil)
  (dss_cons (ds_if (db_w (dw_and (db_val (de_isi T.z_isinstance T.z_list bb_list (by decide) (de_var (pv 1)))) (dw_and1 (db_not (db_val (de_isi T.z_isinstance T.z_list bb_list (by decide) (de_var (pv 0))))))))
  (dss_one (ds_ret de_bl))
  dss_nil)
  (dss_cons (ds_if (db_cmp (op_neP hr.units) s2_ne (de_len T.z_len (de_var (pv 0))) (de_len T.z_len (de_var (pv 1))) (by with_unfolding_all rfl))
  (dss_one (ds_ret de_bl))
  dss_nil)
  (dss_cons (ds_for (passes_of rfl) rfl (di_range1 T.z_range (de_len T.z_len (de_var (pv 1)))) (dg_name (i := 2) sc__law_same.nd rfl (by first | exact Or.inl rfl | exact Or.inr rfl))
  (dss_one (ds_if (db_not (db_val (de_callD ih TK hr (dar_ex (de_ix (de_var (pv 0)) (de_var (pv 2))) (dar_ex (de_ix (de_var (pv 1)) (de_var (pv 2))) dar_nil)) (by omega))))
  (dss_one (ds_ret de_bl))
  dss_nil)))
  (dss_one (ds_ret de_bl)))))))))))
theorem sc__law_stream : FnScope ["script", "mixed", "cell"] ["script"] (defScope st__law_stream) := ⟨rfl, rfl, rfl, by decide +kernel, rfl, by decide +kernel, by decide +kernel⟩
theorem ok__law_stream (T : Txt K mg) : DefOk PySem.Challenge.pw_leanbundle_k02_doors w K mg base 1 "_law_stream" ["script"] [] F__law_stream :=
  okDef (k := 0) T.d__law_stream sc__law_stream rfl [] d__law_stream (by decide) (fun _ _ F => F.binds (ps := ["script"]) fun _ _ _ _ _ _ us hl => match us, hl with | [_], _ => rfl) fun cdv A outer s H E vs fa hr =>
  (dss_cons (ds_set (i := 1) sc__law_stream.nd rfl (by first | exact Or.inl rfl | exact Or.inr rfl) de_int)
  (dss_cons (ds_for (passes_of rfl) rfl (di_seq (de_var (pv 0))) (dg_name (i := 2) sc__law_stream.nd rfl (by first | exact Or.inl rfl | exact Or.inr rfl))
  (dss_one (ds_set (i := 1) sc__law_stream.nd rfl (by first | exact Or.inl rfl | exact Or.inr rfl) (de_op op_mod s2_mod (de_intc T.z_int (de_op op_addG s2_add' (de_op op_addG s2_add' (de_op op_mul s2_mul (de_var (pv 1)) de_int) (de_op op_mod s2_mod (de_intc T.z_int (de_var (pv 2))) de_int)) de_int)) de_int))))
  (dss_one (ds_ret (de_lstF (da_cons (de_list T.z_list (de_var (pv 0))) (da_cons de_int (da_cons de_int (da_cons (de_var (pv 1)) (da_cons de_int da_nil))))))))))
theorem sc_doors : FnScope ["program", "named", "part", "row"] ["program"] (defScope st_doors) := ⟨rfl, rfl, rfl, by decide +kernel, rfl, by decide +kernel, by decide +kernel⟩
theorem ok_doors (T : Txt K mg) : DefOk PySem.Challenge.pw_leanbundle_k02_doors w K mg base 1 "doors" ["program"] [] F_doors :=
  okDef (k := 0) T.d_doors sc_doors rfl [] d_doors (by decide) (fun _ _ F => F.binds (ps := ["program"]) fun _ _ _ _ _ _ us hl => match us, hl with | [_], _ => rfl) fun cdv A outer s H E vs fa hr =>
  (dss_cons (by first | exact ds_setLc2F (own := [("part", 2), ("row", 3)]) (vs1 := [3]) (i := 1) rfl sc_doors.nd rfl rfl (by rfl) (di_seq (de_ix (de_var (pv 0)) de_int)) (by exact (show BlkOk ["program", "named", "part", "row"] (defScope st_doors) _ [("part", 2), ("row", 3)] from ⟨rfl, by decide +kernel, by decide +kernel, by decide +kernel, by decide +kernel⟩)) (by decide) (fun _ _ _ _ _ => (dg_name (i := 2) sc_doors.nd rfl (by first | exact Or.inl rfl | exact Or.inr rfl))) (fun _ _ _ _ _ => dpts_nil) (fun _ _ _ _ _ => (di_seq (de_var (pv 2)))) (fun _ _ _ _ _ => (dg_name (i := 3) sc_doors.nd rfl (by first | exact Or.inl rfl | exact Or.inr rfl))) (fun _ _ _ _ _ => (dpts_one (db_w (dw_and (db_cmp (op_eqP hr.units) s2_eq (de_ix (de_var (pv 3)) de_int) de_str (by with_unfolding_all rfl)) (dw_and1 (db_cmp op_ge s2_ge (de_ix (de_var (pv 3)) de_int) de_int (by with_unfolding_all rfl))))))) (fun _ _ _ _ _ => (de_ix (de_var (pv 3)) de_int)) | exact ds_set (i := 1) sc_doors.nd rfl (by first | exact Or.inl rfl | exact Or.inr rfl) (de_frz (de_lc2 (own := [("part", 2), ("row", 3)]) (vs1 := [3]) rfl sc_doors.nd (di_seq (de_ix (de_var (pv 0)) de_int)) (by exact (show BlkOk ["program", "named", "part", "row"] (defScope st_doors) _ [("part", 2), ("row", 3)] from ⟨rfl, by decide +kernel, by decide +kernel, by decide +kernel, by decide +kernel⟩)) (by decide) (fun _ _ _ _ _ => (dg_name (i := 2) sc_doors.nd rfl (by first | exact Or.inl rfl | exact Or.inr rfl))) (fun _ _ _ _ _ => dpts_nil) (fun _ _ _ _ _ => (di_seq (de_var (pv 2)))) (fun _ _ _ _ _ => (dg_name (i := 3) sc_doors.nd rfl (by first | exact Or.inl rfl | exact Or.inr rfl))) (fun _ _ _ _ _ => (dpts_one (db_w (dw_and (db_cmp (op_eqP hr.units) s2_eq (de_ix (de_var (pv 3)) de_int) de_str (by with_unfolding_all rfl)) (dw_and1 (db_cmp op_ge s2_ge (de_ix (de_var (pv 3)) de_int) de_int (by with_unfolding_all rfl))))))) (fun _ _ _ _ _ => (de_ix (de_var (pv 3)) de_int)))))
  (dss_one (ds_ret (de_sortSet rfl hr.units T.z_sorted T.z_set (de_op op_addG s2_add' (de_list T.z_list (de_ix (de_var (pv 0)) de_int)) (de_var (pv 1)))))))
theorem sc_is_ascending : FnScope ["items", "k"] ["items"] (defScope st_is_ascending) := ⟨rfl, rfl, rfl, by decide +kernel, rfl, by decide +kernel, by decide +kernel⟩
theorem ok_is_ascending (T : Txt K mg) : DefOk PySem.Challenge.pw_leanbundle_k02_doors w K mg base 1 "is_ascending" ["items"] [] F_is_ascending :=
  okDef (k := 0) T.d_is_ascending sc_is_ascending rfl [] d_is_ascending (by decide) (fun _ _ F => F.binds (ps := ["items"]) fun _ _ _ _ _ _ us hl => match us, hl with | [_], _ => rfl) fun cdv A outer s H E vs fa hr =>
  (dss_one (ds_ret (de_all rfl T.z_all (de_lc (own := [("k", 1)]) rfl sc_is_ascending.nd (di_range1 T.z_range (de_op op_sub s2_sub (de_len T.z_len (de_var (pv 0))) de_int)) (by exact (show BlkOk ["items", "k"] (defScope st_is_ascending) _ [("k", 1)] from ⟨rfl, by decide +kernel, by decide +kernel, by decide +kernel, by decide +kernel⟩)) (fun _ _ _ _ _ => (dg_name (i := 1) sc_is_ascending.nd rfl (by first | exact Or.inl rfl | exact Or.inr rfl))) (fun _ _ _ _ _ => dpts_nil) (fun _ _ _ _ _ => (de_cmp (op_ltP hr.units) s2_ltD (de_ix (de_var (pv 0)) (de_var (pv 1))) (de_ix (de_var (pv 0)) (de_op op_addG s2_add' (de_var (pv 1)) de_int)) (by with_unfolding_all rfl)))))))
theorem sc_is_integer : FnScope ["thing"] ["thing"] (defScope st_is_integer) := ⟨rfl, rfl, rfl, by decide +kernel, rfl, by decide +kernel, by decide +kernel⟩
theorem ok_is_integer (T : Txt K mg) : DefOk PySem.Challenge.pw_leanbundle_k02_doors w K mg base 1 "is_integer" ["thing"] [] F_is_integer :=
  okDef (k := 0) T.d_is_integer sc_is_integer rfl [] d_is_integer (by decide) (fun _ _ F => F.binds (ps := ["thing"]) fun _ _ _ _ _ _ us hl => match us, hl with | [_], _ => rfl) fun cdv A outer s H E vs fa hr =>
  (dss_one (ds_ret (de_and (de_isi T.z_isinstance T.z_int bb_int (by decide) (de_var (pv 0))) (de_one (de_not (de_isi T.z_isinstance T.z_bool bb_bool (by decide) (de_var (pv 0))))))))
theorem sc_is_number : FnScope ["thing", "count"] ["thing", "count"] (defScope st_is_number) := ⟨rfl, rfl, rfl, by decide +kernel, rfl, by decide +kernel, by decide +kernel⟩
theorem ok_is_number (T : Txt K mg) (o_is_integer : DefOk PySem.Challenge.pw_leanbundle_k02_doors w K mg base 1 "is_integer" ["thing"] [] F_is_integer) : DefOk PySem.Challenge.pw_leanbundle_k02_doors w K mg base 2 "is_number" ["thing", "count"] [] F_is_number :=
  okDef (k := 1) T.d_is_number sc_is_number rfl [] d_is_number (by decide) (fun _ _ F => F.binds (ps := ["thing", "count"]) fun _ _ _ _ _ _ us hl => match us, hl with | [_, _], _ => rfl) fun cdv A outer s H E vs fa hr =>
  (dss_one (ds_ret (de_and (de_callD o_is_integer (takes_of rfl rfl rfl rfl) hr (dar_ex (de_var (pv 0)) dar_nil)) (de_one (de_chain op_le s2_le op_lt s2_lt de_int (de_var (pv 0)) (de_var (pv 1)))))))
theorem sc_is_entries : FnScope ["thing", "count", "part"] ["thing", "count"] (defScope st_is_entries) := ⟨rfl, rfl, rfl, by decide +kernel, rfl, by decide +kernel, by decide +kernel⟩
theorem ok_is_entries (T : Txt K mg) (o_is_ascending : DefOk PySem.Challenge.pw_leanbundle_k02_doors w K mg base 1 "is_ascending" ["items"] [] F_is_ascending) (o_is_number : DefOk PySem.Challenge.pw_leanbundle_k02_doors w K mg base 2 "is_number" ["thing", "count"] [] F_is_number) : DefOk PySem.Challenge.pw_leanbundle_k02_doors w K mg base 3 "is_entries" ["thing", "count"] [] F_is_entries :=
  okDef (k := 2) T.d_is_entries sc_is_entries rfl [] d_is_entries (by decide) (fun _ _ F => F.binds (ps := ["thing", "count"]) fun _ _ _ _ _ _ us hl => match us, hl with | [_, _], _ => rfl) fun cdv A outer s H E vs fa hr =>
  (dss_cons (ds_if (db_w (dw_or (db_not (db_val (de_isi T.z_isinstance T.z_tuple bb_tuple (by decide) (de_var (pv 0))))) (dw_or1 (db_not (db_chain op_le s2_le op_le s2_le de_int (de_len T.z_len (de_var (pv 0))) (de_glob T.c_MOST_ENTRIES))))))
  (dss_one (ds_ret de_bl))
  dss_nil)
  (dss_one (ds_ret (de_and (de_all rfl T.z_all (de_lc (own := [("part", 2)]) rfl sc_is_entries.nd (di_seq (de_var (pv 0))) (by exact (show BlkOk ["thing", "count", "part"] (defScope st_is_entries) _ [("part", 2)] from ⟨rfl, by decide +kernel, by decide +kernel, by decide +kernel, by decide +kernel⟩)) (fun _ _ _ _ _ => (dg_name (i := 2) sc_is_entries.nd rfl (by first | exact Or.inl rfl | exact Or.inr rfl))) (fun _ _ _ _ _ => dpts_nil) (fun _ _ _ _ _ => (de_callD o_is_number takes0 hr (dar_ex (de_var (pv 2)) (dar_ex (de_var (pv 1)) dar_nil)))))) (de_one (de_callD o_is_ascending (takes_of rfl rfl rfl rfl) hr (dar_ex (de_var (pv 0)) dar_nil)))))))
theorem sc_is_flag : FnScope ["thing"] ["thing"] (defScope st_is_flag) := ⟨rfl, rfl, rfl, by decide +kernel, rfl, by decide +kernel, by decide +kernel⟩
theorem ok_is_flag (T : Txt K mg) : DefOk PySem.Challenge.pw_leanbundle_k02_doors w K mg base 1 "is_flag" ["thing"] [] F_is_flag :=
  okDef (k := 0) T.d_is_flag sc_is_flag rfl [] d_is_flag (by decide) (fun _ _ F => F.binds (ps := ["thing"]) fun _ _ _ _ _ _ us hl => match us, hl with | [_], _ => rfl) fun cdv A outer s H E vs fa hr =>
  (dss_one (ds_ret (de_or (de_cmp op_isB s2_isB (de_var (pv 0)) de_bl (by with_unfolding_all rfl)) (de_one (de_cmp op_isB s2_isB (de_var (pv 0)) de_bl (by with_unfolding_all rfl))))))
theorem sc_is_marks : FnScope ["thing", "count", "mark"] ["thing", "count"] (defScope st_is_marks) := ⟨rfl, rfl, rfl, by decide +kernel, rfl, by decide +kernel, by decide +kernel⟩
theorem ok_is_marks (T : Txt K mg) (o_is_flag : DefOk PySem.Challenge.pw_leanbundle_k02_doors w K mg base 1 "is_flag" ["thing"] [] F_is_flag) : DefOk PySem.Challenge.pw_leanbundle_k02_doors w K mg base 2 "is_marks" ["thing", "count"] [] F_is_marks :=
  okDef (k := 1) T.d_is_marks sc_is_marks rfl [] d_is_marks (by decide) (fun _ _ F => F.binds (ps := ["thing", "count"]) fun _ _ _ _ _ _ us hl => match us, hl with | [_, _], _ => rfl) fun cdv A outer s H E vs fa hr =>
  (dss_one (ds_ret (de_and (de_isi T.z_isinstance T.z_tuple bb_tuple (by decide) (de_var (pv 0))) (de_and (de_cmp (op_eqP hr.units) s2_eq (de_len T.z_len (de_var (pv 0))) (de_var (pv 1)) (by with_unfolding_all rfl)) (de_one (de_all rfl T.z_all (de_lc (own := [("mark", 2)]) rfl sc_is_marks.nd (di_seq (de_var (pv 0))) (by exact (show BlkOk ["thing", "count", "mark"] (defScope st_is_marks) _ [("mark", 2)] from ⟨rfl, by decide +kernel, by decide +kernel, by decide +kernel, by decide +kernel⟩)) (fun _ _ _ _ _ => (dg_name (i := 2) sc_is_marks.nd rfl (by first | exact Or.inl rfl | exact Or.inr rfl))) (fun _ _ _ _ _ => dpts_nil) (fun _ _ _ _ _ => (de_callD o_is_flag takes0 hr (dar_ex (de_var (pv 2)) dar_nil))))))))))
theorem sc_is_name : FnScope ["thing"] ["thing"] (defScope st_is_name) := ⟨rfl, rfl, rfl, by decide +kernel, rfl, by decide +kernel, by decide +kernel⟩
theorem ok_is_name (T : Txt K mg) : DefOk PySem.Challenge.pw_leanbundle_k02_doors w K mg base 1 "is_name" ["thing"] [] F_is_name :=
  okDef (k := 0) T.d_is_name sc_is_name rfl [] d_is_name (by decide) (fun _ _ F => F.binds (ps := ["thing"]) fun _ _ _ _ _ _ us hl => match us, hl with | [_], _ => rfl) fun cdv A outer s H E vs fa hr =>
  (dss_one (ds_ret (de_and (de_isi T.z_isinstance T.z_str bb_str (by decide) (de_var (pv 0))) (de_one (de_cmp (op_inP hr.units) s2_in (de_var (pv 0)) (de_glob T.c_NAMES) (by with_unfolding_all rfl))))))
theorem sc_is_named : FnScope ["thing", "count"] ["thing", "count"] (defScope st_is_named) := ⟨rfl, rfl, rfl, by decide +kernel, rfl, by decide +kernel, by decide +kernel⟩
theorem ok_is_named (T : Txt K mg) (o_is_name : DefOk PySem.Challenge.pw_leanbundle_k02_doors w K mg base 1 "is_name" ["thing"] [] F_is_name) (o_is_number : DefOk PySem.Challenge.pw_leanbundle_k02_doors w K mg base 2 "is_number" ["thing", "count"] [] F_is_number) : DefOk PySem.Challenge.pw_leanbundle_k02_doors w K mg base 3 "is_named" ["thing", "count"] [] F_is_named :=
  okDef (k := 2) T.d_is_named sc_is_named rfl [] d_is_named (by decide) (fun _ _ F => F.binds (ps := ["thing", "count"]) fun _ _ _ _ _ _ us hl => match us, hl with | [_, _], _ => rfl) fun cdv A outer s H E vs fa hr =>
  (dss_one (ds_ret (de_and (de_isi T.z_isinstance T.z_tuple bb_tuple (by decide) (de_var (pv 0))) (de_and (de_cmp (op_eqP hr.units) s2_eq (de_len T.z_len (de_var (pv 0))) de_int (by with_unfolding_all rfl)) (de_and (de_callD o_is_number (takes_of rfl rfl rfl rfl) hr (dar_ex (de_ix (de_var (pv 0)) de_int) (dar_ex (de_var (pv 1)) dar_nil))) (de_one (de_callD o_is_name (takes_of rfl rfl rfl rfl) hr (dar_ex (de_ix (de_var (pv 0)) de_int) dar_nil))))))))
theorem sc_is_opens : FnScope ["thing", "count", "name"] ["thing", "count"] (defScope st_is_opens) := ⟨rfl, rfl, rfl, by decide +kernel, rfl, by decide +kernel, by decide +kernel⟩
theorem ok_is_opens (T : Txt K mg) (o_is_ascending : DefOk PySem.Challenge.pw_leanbundle_k02_doors w K mg base 1 "is_ascending" ["items"] [] F_is_ascending) (o_is_named : DefOk PySem.Challenge.pw_leanbundle_k02_doors w K mg base 3 "is_named" ["thing", "count"] [] F_is_named) : DefOk PySem.Challenge.pw_leanbundle_k02_doors w K mg base 4 "is_opens" ["thing", "count"] [] F_is_opens :=
  okDef (k := 3) T.d_is_opens sc_is_opens rfl [] d_is_opens (by decide) (fun _ _ F => F.binds (ps := ["thing", "count"]) fun _ _ _ _ _ _ us hl => match us, hl with | [_, _], _ => rfl) fun cdv A outer s H E vs fa hr =>
  (dss_cons (ds_if (db_w (dw_or (db_not (db_val (de_isi T.z_isinstance T.z_tuple bb_tuple (by decide) (de_var (pv 0))))) (dw_or1 (db_cmp op_gt s2_gt (de_len T.z_len (de_var (pv 0))) (de_glob T.c_MOST_OPENS) (by with_unfolding_all rfl)))))
  (dss_one (ds_ret de_bl))
  dss_nil)
  (dss_one (ds_ret (de_and (de_all rfl T.z_all (de_lc (own := [("name", 2)]) rfl sc_is_opens.nd (di_seq (de_var (pv 0))) (by exact (show BlkOk ["thing", "count", "name"] (defScope st_is_opens) _ [("name", 2)] from ⟨rfl, by decide +kernel, by decide +kernel, by decide +kernel, by decide +kernel⟩)) (fun _ _ _ _ _ => (dg_name (i := 2) sc_is_opens.nd rfl (by first | exact Or.inl rfl | exact Or.inr rfl))) (fun _ _ _ _ _ => dpts_nil) (fun _ _ _ _ _ => (de_callD o_is_named takes0 hr (dar_ex (de_var (pv 2)) (dar_ex (de_var (pv 1)) dar_nil)))))) (de_one (de_callD o_is_ascending (takes_of rfl rfl rfl rfl) hr (dar_ex (de_var (pv 0)) dar_nil)))))))
theorem sc_is_needs : FnScope ["thing", "count", "most", "need"] ["thing", "count", "most"] (defScope st_is_needs) := ⟨rfl, rfl, rfl, by decide +kernel, rfl, by decide +kernel, by decide +kernel⟩
theorem ok_is_needs (T : Txt K mg) (o_is_named : DefOk PySem.Challenge.pw_leanbundle_k02_doors w K mg base 3 "is_named" ["thing", "count"] [] F_is_named) : DefOk PySem.Challenge.pw_leanbundle_k02_doors w K mg base 4 "is_needs" ["thing", "count", "most"] [] F_is_needs :=
  okDef (k := 3) T.d_is_needs sc_is_needs rfl [] d_is_needs (by decide) (fun _ _ F => F.binds (ps := ["thing", "count", "most"]) fun _ _ _ _ _ _ us hl => match us, hl with | [_, _, _], _ => rfl) fun cdv A outer s H E vs fa hr =>
  (dss_one (ds_ret (de_and (de_isi T.z_isinstance T.z_tuple bb_tuple (by decide) (de_var (pv 0))) (de_and (de_cmp op_le s2_le (de_len T.z_len (de_var (pv 0))) (de_var (pv 2)) (by with_unfolding_all rfl)) (de_one (de_all rfl T.z_all (de_lc (own := [("need", 3)]) rfl sc_is_needs.nd (di_seq (de_var (pv 0))) (by exact (show BlkOk ["thing", "count", "most", "need"] (defScope st_is_needs) _ [("need", 3)] from ⟨rfl, by decide +kernel, by decide +kernel, by decide +kernel, by decide +kernel⟩)) (fun _ _ _ _ _ => (dg_name (i := 3) sc_is_needs.nd rfl (by first | exact Or.inl rfl | exact Or.inr rfl))) (fun _ _ _ _ _ => dpts_nil) (fun _ _ _ _ _ => (de_callD o_is_named takes0 hr (dar_ex (de_var (pv 3)) (dar_ex (de_var (pv 1)) dar_nil)))))))))))
theorem sc_is_row : FnScope ["thing", "count", "word", "rest"] ["thing", "count"] (defScope st_is_row) := ⟨rfl, rfl, rfl, by decide +kernel, rfl, by decide +kernel, by decide +kernel⟩
theorem ok_is_row (T : Txt K mg) (o_is_flag : DefOk PySem.Challenge.pw_leanbundle_k02_doors w K mg base 1 "is_flag" ["thing"] [] F_is_flag) (o_is_integer : DefOk PySem.Challenge.pw_leanbundle_k02_doors w K mg base 1 "is_integer" ["thing"] [] F_is_integer) (o_is_name : DefOk PySem.Challenge.pw_leanbundle_k02_doors w K mg base 1 "is_name" ["thing"] [] F_is_name) (o_is_needs : DefOk PySem.Challenge.pw_leanbundle_k02_doors w K mg base 4 "is_needs" ["thing", "count", "most"] [] F_is_needs) (o_is_number : DefOk PySem.Challenge.pw_leanbundle_k02_doors w K mg base 2 "is_number" ["thing", "count"] [] F_is_number) : DefOk PySem.Challenge.pw_leanbundle_k02_doors w K mg base 5 "is_row" ["thing", "count"] [] F_is_row :=
  okDef (k := 4) T.d_is_row sc_is_row rfl [] d_is_row (by decide) (fun _ _ F => F.binds (ps := ["thing", "count"]) fun _ _ _ _ _ _ us hl => match us, hl with | [_, _], _ => rfl) fun cdv A outer s H E vs fa hr =>
  (dss_cons (ds_if (db_w (dw_or (db_not (db_val (de_isi T.z_isinstance T.z_tuple bb_tuple (by decide) (de_var (pv 0))))) (dw_or (db_cmp (op_eqP hr.units) s2_eq (de_len T.z_len (de_var (pv 0))) de_int (by with_unfolding_all rfl)) (dw_or1 (db_not (db_val (de_isi T.z_isinstance T.z_str bb_str (by decide) (de_ix (de_var (pv 0)) de_int))))))))
  (dss_one (ds_ret de_bl))
  dss_nil)
  (dss_cons (ds_asg (de_var (pv 0)) (dg_star rfl (dgs_cons (dg_name (i := 2) sc_is_row.nd rfl (by first | exact Or.inl rfl | exact Or.inr rfl)) (dgs_star (dg_name (i := 3) sc_is_row.nd rfl (by first | exact Or.inl rfl | exact Or.inr rfl)) dgs_nil))))
  (dss_cons (ds_if (db_cmp (op_eqP hr.units) s2_eq (de_var (pv 2)) de_str (by with_unfolding_all rfl))
  (dss_one (ds_ret (de_and (de_cmp (op_eqP hr.units) s2_eq (de_len T.z_len (de_var (pv 3))) de_int (by with_unfolding_all rfl)) (de_one (de_callD o_is_number (takes_of rfl rfl rfl rfl) hr (dar_ex (de_ix (de_var (pv 3)) de_int) (dar_ex (de_var (pv 1)) dar_nil)))))))
  dss_nil)
  (dss_cons (ds_if (db_cmp (op_eqP hr.units) s2_eq (de_var (pv 2)) de_str (by with_unfolding_all rfl))
  (dss_one (ds_ret (de_and (de_cmp (op_eqP hr.units) s2_eq (de_len T.z_len (de_var (pv 3))) de_int (by with_unfolding_all rfl)) (de_and (de_callD o_is_name (takes_of rfl rfl rfl rfl) hr (dar_ex (de_ix (de_var (pv 3)) de_int) dar_nil)) (de_and (de_callD o_is_needs (takes_of rfl rfl rfl rfl) hr (dar_ex (de_ix (de_var (pv 3)) de_int) (dar_ex (de_var (pv 1)) (dar_ex de_int dar_nil)))) (de_one (de_callD o_is_flag (takes_of rfl rfl rfl rfl) hr (dar_ex (de_ix (de_var (pv 3)) de_int) dar_nil))))))))
  dss_nil)
  (dss_cons (ds_if (db_cmp (op_eqP hr.units) s2_eq (de_var (pv 2)) de_str (by with_unfolding_all rfl))
  (dss_one (ds_ret (de_and (de_cmp (op_eqP hr.units) s2_eq (de_len T.z_len (de_var (pv 3))) de_int (by with_unfolding_all rfl)) (de_and (de_callD o_is_name (takes_of rfl rfl rfl rfl) hr (dar_ex (de_ix (de_var (pv 3)) de_int) dar_nil)) (de_and (de_callD o_is_number (takes_of rfl rfl rfl rfl) hr (dar_ex (de_ix (de_var (pv 3)) de_int) (dar_ex (de_var (pv 1)) dar_nil))) (de_one (de_callD o_is_name (takes_of rfl rfl rfl rfl) hr (dar_ex (de_ix (de_var (pv 3)) de_int) dar_nil))))))))
  dss_nil)
  (dss_cons (ds_if (db_cmp (op_eqP hr.units) s2_eq (de_var (pv 2)) de_str (by with_unfolding_all rfl))
  (dss_one (ds_ret (de_and (de_cmp (op_eqP hr.units) s2_eq (de_len T.z_len (de_var (pv 3))) de_int (by with_unfolding_all rfl)) (de_and (de_callD o_is_needs (takes_of rfl rfl rfl rfl) hr (dar_ex (de_ix (de_var (pv 3)) de_int) (dar_ex (de_var (pv 1)) (dar_ex de_int dar_nil)))) (de_one (de_callD o_is_flag (takes_of rfl rfl rfl rfl) hr (dar_ex (de_ix (de_var (pv 3)) de_int) dar_nil)))))))
  dss_nil)
  (dss_cons (ds_if (db_cmp (op_eqP hr.units) s2_eq (de_var (pv 2)) de_str (by with_unfolding_all rfl))
  (dss_cons (ds_if (db_w (dw_or (db_cmp (op_neP hr.units) s2_ne (de_len T.z_len (de_var (pv 3))) de_int (by with_unfolding_all rfl)) (dw_or (db_not (db_val (de_callD o_is_name (takes_of rfl rfl rfl rfl) hr (dar_ex (de_ix (de_var (pv 3)) de_int) dar_nil)))) (dw_or1 (db_not (db_val (de_callD o_is_integer (takes_of rfl rfl rfl rfl) hr (dar_ex (de_ix (de_var (pv 3)) de_int) dar_nil))))))))
  (dss_one (ds_ret de_bl))
  dss_nil)
  (dss_one (ds_ret (de_and (de_chain op_le s2_le op_lt s2_lt (de_neg de_int) (de_ix (de_var (pv 3)) de_int) (de_var (pv 1))) (de_one (de_callD o_is_needs (takes_of rfl rfl rfl rfl) hr (dar_ex (de_ix (de_var (pv 3)) de_int) (dar_ex (de_var (pv 1)) (dar_ex de_int dar_nil)))))))))
  dss_nil)
  (dss_one (ds_ret (de_and (de_cmp (op_eqP hr.units) s2_eq (de_var (pv 2)) de_str (by with_unfolding_all rfl)) (de_one (de_cmp (op_eqP hr.units) s2_eq (de_len T.z_len (de_var (pv 3))) de_int (by with_unfolding_all rfl)))))))))))))
theorem sc_is_parts : FnScope ["thing", "part", "row"] ["thing"] (defScope st_is_parts) := ⟨rfl, rfl, rfl, by decide +kernel, rfl, by decide +kernel, by decide +kernel⟩
theorem ok_is_parts (T : Txt K mg) (o_is_row : DefOk PySem.Challenge.pw_leanbundle_k02_doors w K mg base 5 "is_row" ["thing", "count"] [] F_is_row) : DefOk PySem.Challenge.pw_leanbundle_k02_doors w K mg base 6 "is_parts" ["thing"] [] F_is_parts :=
  okDef (k := 5) T.d_is_parts sc_is_parts rfl [] d_is_parts (by decide) (fun _ _ F => F.binds (ps := ["thing"]) fun _ _ _ _ _ _ us hl => match us, hl with | [_], _ => rfl) fun cdv A outer s H E vs fa hr =>
  (dss_cons (ds_if (db_w (dw_or (db_not (db_val (de_isi T.z_isinstance T.z_tuple bb_tuple (by decide) (de_var (pv 0))))) (dw_or1 (db_not (db_chain op_le s2_le op_le s2_le de_int (de_len T.z_len (de_var (pv 0))) (de_glob T.c_MOST_PARTS))))))
  (dss_one (ds_ret de_bl))
  dss_nil)
  (dss_cons (ds_if (db_not (db_val (de_all rfl T.z_all (de_lc (own := [("part", 1)]) rfl sc_is_parts.nd (di_seq (de_var (pv 0))) (by exact (show BlkOk ["thing", "part", "row"] (defScope st_is_parts) _ [("part", 1)] from ⟨rfl, by decide +kernel, by decide +kernel, by decide +kernel, by decide +kernel⟩)) (fun _ _ _ _ _ => (dg_name (i := 1) sc_is_parts.nd rfl (by first | exact Or.inl rfl | exact Or.inr rfl))) (fun _ _ _ _ _ => dpts_nil) (fun _ _ _ _ _ => (de_and (de_isi T.z_isinstance T.z_tuple bb_tuple (by decide) (de_var (pv 1))) (de_one (de_cmp op_le s2_le (de_len T.z_len (de_var (pv 1))) (de_glob T.c_MOST_ROWS) (by with_unfolding_all rfl)))))))))
  (dss_one (ds_ret de_bl))
  dss_nil)
  (dss_cons (ds_if (db_cmp op_gt s2_gt (de_sum rfl T.z_sum (de_lc (own := [("part", 1)]) rfl sc_is_parts.nd (di_seq (de_var (pv 0))) (by exact (show BlkOk ["thing", "part", "row"] (defScope st_is_parts) _ [("part", 1)] from ⟨rfl, by decide +kernel, by decide +kernel, by decide +kernel, by decide +kernel⟩)) (fun _ _ _ _ _ => (dg_name (i := 1) sc_is_parts.nd rfl (by first | exact Or.inl rfl | exact Or.inr rfl))) (fun _ _ _ _ _ => dpts_nil) (fun _ _ _ _ _ => (de_len T.z_len (de_var (pv 1)))))) (de_glob T.c_MOST_ROWS_IN_ALL) (by with_unfolding_all rfl))
  (dss_one (ds_ret de_bl))
  dss_nil)
  (dss_cons (ds_for (passes_of rfl) rfl (di_seq (de_var (pv 0))) (dg_name (i := 1) sc_is_parts.nd rfl (by first | exact Or.inl rfl | exact Or.inr rfl))
  (dss_one (ds_if (db_not (db_val (de_all rfl T.z_all (de_lc (own := [("row", 2)]) rfl sc_is_parts.nd (di_seq (de_var (pv 1))) (by exact (show BlkOk ["thing", "part", "row"] (defScope st_is_parts) _ [("row", 2)] from ⟨rfl, by decide +kernel, by decide +kernel, by decide +kernel, by decide +kernel⟩)) (fun _ _ _ _ _ => (dg_name (i := 2) sc_is_parts.nd rfl (by first | exact Or.inl rfl | exact Or.inr rfl))) (fun _ _ _ _ _ => dpts_nil) (fun _ _ _ _ _ => (de_callD o_is_row takes0 hr (dar_ex (de_var (pv 2)) (dar_ex (de_len T.z_len (de_var (pv 0))) dar_nil))))))))
  (dss_one (ds_ret de_bl))
  dss_nil)))
  (dss_one (ds_ret (de_cmp op_le s2_le (de_len T.z_len (de_lc2 (own := [("part", 1), ("row", 2)]) (vs1 := [2]) rfl sc_is_parts.nd (di_seq (de_var (pv 0))) (by exact (show BlkOk ["thing", "part", "row"] (defScope st_is_parts) _ [("part", 1), ("row", 2)] from ⟨rfl, by decide +kernel, by decide +kernel, by decide +kernel, by decide +kernel⟩)) (by decide) (fun _ _ _ _ _ => (dg_name (i := 1) sc_is_parts.nd rfl (by first | exact Or.inl rfl | exact Or.inr rfl))) (fun _ _ _ _ _ => dpts_nil) (fun _ _ _ _ _ => (di_seq (de_var (pv 1)))) (fun _ _ _ _ _ => (dg_name (i := 2) sc_is_parts.nd rfl (by first | exact Or.inl rfl | exact Or.inr rfl))) (fun _ _ _ _ _ => (dpts_one (db_cmp (op_eqP hr.units) s2_eq (de_ix (de_var (pv 2)) de_int) de_str (by with_unfolding_all rfl)))) (fun _ _ _ _ _ => (de_var (pv 2))))) (de_glob T.c_MOST_OUTS) (by with_unfolding_all rfl))))))))
theorem sc_is_program : FnScope ["thing", "parts", "marks", "entries", "opens", "count"] ["thing"] (defScope st_is_program) := ⟨rfl, rfl, rfl, by decide +kernel, rfl, by decide +kernel, by decide +kernel⟩
theorem ok_is_program (T : Txt K mg) (o_is_entries : DefOk PySem.Challenge.pw_leanbundle_k02_doors w K mg base 3 "is_entries" ["thing", "count"] [] F_is_entries) (o_is_marks : DefOk PySem.Challenge.pw_leanbundle_k02_doors w K mg base 2 "is_marks" ["thing", "count"] [] F_is_marks) (o_is_opens : DefOk PySem.Challenge.pw_leanbundle_k02_doors w K mg base 4 "is_opens" ["thing", "count"] [] F_is_opens) (o_is_parts : DefOk PySem.Challenge.pw_leanbundle_k02_doors w K mg base 6 "is_parts" ["thing"] [] F_is_parts) : DefOk PySem.Challenge.pw_leanbundle_k02_doors w K mg base 7 "is_program" ["thing"] [] F_is_program :=
  okDef (k := 6) T.d_is_program sc_is_program rfl [] d_is_program (by decide) (fun _ _ F => F.binds (ps := ["thing"]) fun _ _ _ _ _ _ us hl => match us, hl with | [_], _ => rfl) fun cdv A outer s H E vs fa hr =>
  (dss_cons (ds_if (db_w (dw_or (db_not (db_val (de_isi T.z_isinstance T.z_tuple bb_tuple (by decide) (de_var (pv 0))))) (dw_or1 (db_cmp (op_neP hr.units) s2_ne (de_len T.z_len (de_var (pv 0))) de_int (by with_unfolding_all rfl)))))
  (dss_one (ds_ret de_bl))
  dss_nil)
  (dss_cons (ds_asg (de_var (pv 0)) (dg_tup rfl (dgs_cons (dg_name (i := 1) sc_is_program.nd rfl (by first | exact Or.inl rfl | exact Or.inr rfl)) (dgs_cons (dg_name (i := 2) sc_is_program.nd rfl (by first | exact Or.inl rfl | exact Or.inr rfl)) (dgs_cons (dg_name (i := 3) sc_is_program.nd rfl (by first | exact Or.inl rfl | exact Or.inr rfl)) (dgs_cons (dg_name (i := 4) sc_is_program.nd rfl (by first | exact Or.inl rfl | exact Or.inr rfl)) dgs_nil))))))
  (dss_cons (ds_if (db_not (db_val (de_callD o_is_parts (takes_of rfl rfl rfl rfl) hr (dar_ex (de_var (pv 1)) dar_nil))))
  (dss_one (ds_ret de_bl))
  dss_nil)
  (dss_cons (ds_set (i := 5) sc_is_program.nd rfl (by first | exact Or.inl rfl | exact Or.inr rfl) (de_len T.z_len (de_var (pv 1))))
  (dss_one (ds_ret (de_and (de_callD o_is_marks (takes_of rfl rfl rfl rfl) hr (dar_ex (de_var (pv 2)) (dar_ex (de_var (pv 5)) dar_nil))) (de_and (de_callD o_is_entries (takes_of rfl rfl rfl rfl) hr (dar_ex (de_var (pv 3)) (dar_ex (de_var (pv 5)) dar_nil))) (de_one (de_callD o_is_opens (takes_of rfl rfl rfl rfl) hr (dar_ex (de_var (pv 4)) (dar_ex (de_var (pv 5)) dar_nil))))))))))))
theorem sc_need_program : FnScope ["program"] ["program"] (defScope st_need_program) := ⟨rfl, rfl, rfl, by decide +kernel, rfl, by decide +kernel, by decide +kernel⟩
theorem ok_need_program (T : Txt K mg) (o_is_program : DefOk PySem.Challenge.pw_leanbundle_k02_doors w K mg base 7 "is_program" ["thing"] [] F_is_program) : DefOk PySem.Challenge.pw_leanbundle_k02_doors w K mg base 8 "need_program" ["program"] [] F_need_program :=
  okDef (k := 7) T.d_need_program sc_need_program rfl [] d_need_program (by decide) (fun _ _ F => F.binds (ps := ["program"]) fun _ _ _ _ _ _ us hl => match us, hl with | [_], _ => rfl) fun cdv A outer s H E vs fa hr =>
  (dss_one (ds_if (db_not (db_val (de_callD o_is_program (takes_of rfl rfl rfl rfl) hr (dar_ex (de_var (pv 0)) dar_nil))))
  (dss_one ds_no)
  dss_nil))
theorem sc_doors_of : FnScope ["program"] ["program"] (defScope st_doors_of) := ⟨rfl, rfl, rfl, by decide +kernel, rfl, by decide +kernel, by decide +kernel⟩
theorem ok_doors_of (T : Txt K mg) (o_doors : DefOk PySem.Challenge.pw_leanbundle_k02_doors w K mg base 1 "doors" ["program"] [] F_doors) (o_need_program : DefOk PySem.Challenge.pw_leanbundle_k02_doors w K mg base 8 "need_program" ["program"] [] F_need_program) : DefOk PySem.Challenge.pw_leanbundle_k02_doors w K mg base 9 "doors_of" ["program"] [] F_doors_of :=
  okDef (k := 8) T.d_doors_of sc_doors_of rfl [] d_doors_of (by decide) (fun _ _ F => F.binds (ps := ["program"]) fun _ _ _ _ _ _ us hl => match us, hl with | [_], _ => rfl) fun cdv A outer s H E vs fa hr =>
  (dss_cons (ds_expr (de_callD o_need_program (takes_of rfl rfl rfl rfl) hr (dar_ex (de_var (pv 0)) dar_nil)))
  (dss_one (ds_ret (de_callD o_doors (takes_of rfl rfl rfl rfl) hr (dar_ex (de_var (pv 0)) dar_nil)))))
theorem sc_law : FnScope ["script", "stream", "late", "program", "due", "actual"] ["script"] (defScope st_law) := ⟨rfl, rfl, rfl, by decide +kernel, rfl, by decide +kernel, by decide +kernel⟩
theorem ok_law (T : Txt K mg) (o__law_doors : DefOk PySem.Challenge.pw_leanbundle_k02_doors w K mg base 1 "_law_doors" ["program"] [] F__law_doors) (o__law_draw : DefOk PySem.Challenge.pw_leanbundle_k02_doors w K mg base 2 "_law_draw" ["stream", "limit"] [0] F__law_draw) (o__law_lates : DefOk PySem.Challenge.pw_leanbundle_k02_doors w K mg base 3 "_law_lates" ["stream", "program"] [0] F__law_lates) (o__law_program : DefOk PySem.Challenge.pw_leanbundle_k02_doors w K mg base 6 "_law_program" ["stream"] [0] F__law_program) (o__law_same : DefOk PySem.Challenge.pw_leanbundle_k02_doors w K mg base 6 "_law_same" ["actual", "due"] [] (F__law_same 6)) (o__law_stream : DefOk PySem.Challenge.pw_leanbundle_k02_doors w K mg base 1 "_law_stream" ["script"] [] F__law_stream) (o_doors_of : DefOk PySem.Challenge.pw_leanbundle_k02_doors w K mg base 9 "doors_of" ["program"] [] F_doors_of) : DefOk PySem.Challenge.pw_leanbundle_k02_doors w K mg base 10 "law" ["script"] [] F_law :=
  okDef (k := 9) T.d_law sc_law rfl [] d_law (by decide) (fun _ _ F => F.binds (ps := ["script"]) fun _ _ _ _ _ _ us hl => match us, hl with | [_], _ => rfl) fun cdv A outer s H E vs fa hr =>
  (dss_cons (ds_set (i := 1) sc_law.nd rfl (by first | exact Or.inl rfl | exact Or.inr rfl) (de_callD o__law_stream (takes_of rfl rfl rfl rfl) hr (dar_ex (de_var (pv 0)) dar_nil)))
  (dss_cons (ds_set (i := 2) sc_law.nd rfl (by first | exact Or.inl rfl | exact Or.inr rfl) (de_cmp (op_eqP hr.units) s2_eq (de_callD o__law_draw (takes_of rfl rfl rfl rfl) hr (dar_io (pv 1) (dar_ex de_int dar_nil))) de_int (by with_unfolding_all rfl)))
  (dss_cons (ds_set (i := 3) sc_law.nd rfl (by first | exact Or.inl rfl | exact Or.inr rfl) (de_frz (de_callD o__law_program (takes_of rfl rfl rfl rfl) hr (dar_io (pv 1) dar_nil))))
  (dss_cons (ds_if (db_tru (de_var (pv 2)))
  (dss_one (ds_set (i := 3) sc_law.nd rfl (by first | exact Or.inl rfl | exact Or.inr rfl) (de_frz (de_callD o__law_lates (takes_of rfl rfl rfl rfl) hr (dar_io (pv 1) (dar_ex (de_var (pv 3)) dar_nil))))))
  dss_nil)
  (dss_cons (ds_set (i := 4) sc_law.nd rfl (by first | exact Or.inl rfl | exact Or.inr rfl) (de_frz (de_callD o__law_doors (takes_of rfl rfl rfl rfl) hr (dar_ex (de_var (pv 3)) dar_nil))))
  (dss_cons (ds_set (i := 5) sc_law.nd rfl (by first | exact Or.inl rfl | exact Or.inr rfl) (de_callD o_doors_of (takes_of rfl rfl rfl rfl) hr (dar_ex (de_var (pv 3)) dar_nil)))
  (dss_cons (ds_if (db_thaw (db_not (db_val (de_callD o__law_same (takes_of rfl rfl rfl rfl) hr (dar_ex (de_var (pv 5)) (dar_ex (de_var (pv 4)) dar_nil))))))
  (dss_one (ds_ret de_bl))
  dss_nil)
  (dss_cons (ds_expr (de_app (pv 5) de_int))
  (dss_cons (ds_expr (de_rev (pv 5)))
  (dss_one (ds_ret (de_callD o__law_same (takes_of rfl rfl rfl rfl) hr (dar_ex (de_frz (de_callD o_doors_of (takes_of rfl rfl rfl rfl) hr (dar_ex (de_var (pv 3)) dar_nil))) (dar_ex (de_var (pv 4)) dar_nil))))))))))))))
/-- the law -/
theorem ok_all (T : Txt K mg) : DefOk PySem.Challenge.pw_leanbundle_k02_doors w K mg base 10 "law" ["script"] [] F_law := by
  have o__law_doors : DefOk PySem.Challenge.pw_leanbundle_k02_doors w K mg base 1 "_law_doors" ["program"] [] F__law_doors := ok__law_doors T
  have o__law_mixed : DefOk PySem.Challenge.pw_leanbundle_k02_doors w K mg base 1 "_law_mixed" ["number", "turn"] [] F__law_mixed := ok__law_mixed T
  have o__law_draw : DefOk PySem.Challenge.pw_leanbundle_k02_doors w K mg base 2 "_law_draw" ["stream", "limit"] [0] F__law_draw := ok__law_draw T o__law_mixed
  have o__law_lates : DefOk PySem.Challenge.pw_leanbundle_k02_doors w K mg base 3 "_law_lates" ["stream", "program"] [0] F__law_lates := ok__law_lates T o__law_draw
  have o__law_name : DefOk PySem.Challenge.pw_leanbundle_k02_doors w K mg base 3 "_law_name" ["stream", "given", "count"] [0] F__law_name := ok__law_name T o__law_draw
  have o__law_plans : DefOk PySem.Challenge.pw_leanbundle_k02_doors w K mg base 3 "_law_plans" ["stream", "count"] [0] F__law_plans := ok__law_plans T o__law_draw
  have o__law_needs : DefOk PySem.Challenge.pw_leanbundle_k02_doors w K mg base 4 "_law_needs" ["stream", "most", "given", "count"] [0] F__law_needs := ok__law_needs T o__law_draw o__law_name
  have o__law_row : DefOk PySem.Challenge.pw_leanbundle_k02_doors w K mg base 5 "_law_row" ["stream", "plan", "given", "count"] [0] F__law_row := ok__law_row T o__law_draw o__law_needs
  have o__law_program : DefOk PySem.Challenge.pw_leanbundle_k02_doors w K mg base 6 "_law_program" ["stream"] [0] F__law_program := ok__law_program T o__law_draw o__law_name o__law_plans o__law_row
  have o__law_same : DefOk PySem.Challenge.pw_leanbundle_k02_doors w K mg base 6 "_law_same" ["actual", "due"] [] (F__law_same 6) := ok__law_same T 6
  have o__law_stream : DefOk PySem.Challenge.pw_leanbundle_k02_doors w K mg base 1 "_law_stream" ["script"] [] F__law_stream := ok__law_stream T
  have o_doors : DefOk PySem.Challenge.pw_leanbundle_k02_doors w K mg base 1 "doors" ["program"] [] F_doors := ok_doors T
  have o_is_ascending : DefOk PySem.Challenge.pw_leanbundle_k02_doors w K mg base 1 "is_ascending" ["items"] [] F_is_ascending := ok_is_ascending T
  have o_is_integer : DefOk PySem.Challenge.pw_leanbundle_k02_doors w K mg base 1 "is_integer" ["thing"] [] F_is_integer := ok_is_integer T
  have o_is_number : DefOk PySem.Challenge.pw_leanbundle_k02_doors w K mg base 2 "is_number" ["thing", "count"] [] F_is_number := ok_is_number T o_is_integer
  have o_is_entries : DefOk PySem.Challenge.pw_leanbundle_k02_doors w K mg base 3 "is_entries" ["thing", "count"] [] F_is_entries := ok_is_entries T o_is_ascending o_is_number
  have o_is_flag : DefOk PySem.Challenge.pw_leanbundle_k02_doors w K mg base 1 "is_flag" ["thing"] [] F_is_flag := ok_is_flag T
  have o_is_marks : DefOk PySem.Challenge.pw_leanbundle_k02_doors w K mg base 2 "is_marks" ["thing", "count"] [] F_is_marks := ok_is_marks T o_is_flag
  have o_is_name : DefOk PySem.Challenge.pw_leanbundle_k02_doors w K mg base 1 "is_name" ["thing"] [] F_is_name := ok_is_name T
  have o_is_named : DefOk PySem.Challenge.pw_leanbundle_k02_doors w K mg base 3 "is_named" ["thing", "count"] [] F_is_named := ok_is_named T o_is_name o_is_number
  have o_is_opens : DefOk PySem.Challenge.pw_leanbundle_k02_doors w K mg base 4 "is_opens" ["thing", "count"] [] F_is_opens := ok_is_opens T o_is_ascending o_is_named
  have o_is_needs : DefOk PySem.Challenge.pw_leanbundle_k02_doors w K mg base 4 "is_needs" ["thing", "count", "most"] [] F_is_needs := ok_is_needs T o_is_named
  have o_is_row : DefOk PySem.Challenge.pw_leanbundle_k02_doors w K mg base 5 "is_row" ["thing", "count"] [] F_is_row := ok_is_row T o_is_flag o_is_integer o_is_name o_is_needs o_is_number
  have o_is_parts : DefOk PySem.Challenge.pw_leanbundle_k02_doors w K mg base 6 "is_parts" ["thing"] [] F_is_parts := ok_is_parts T o_is_row
  have o_is_program : DefOk PySem.Challenge.pw_leanbundle_k02_doors w K mg base 7 "is_program" ["thing"] [] F_is_program := ok_is_program T o_is_entries o_is_marks o_is_opens o_is_parts
  have o_need_program : DefOk PySem.Challenge.pw_leanbundle_k02_doors w K mg base 8 "need_program" ["program"] [] F_need_program := ok_need_program T o_is_program
  have o_doors_of : DefOk PySem.Challenge.pw_leanbundle_k02_doors w K mg base 9 "doors_of" ["program"] [] F_doors_of := ok_doors_of T o_doors o_need_program
  have o_law : DefOk PySem.Challenge.pw_leanbundle_k02_doors w K mg base 10 "law" ["script"] [] F_law := ok_law T o__law_doors o__law_draw o__law_lates o__law_program o__law_same o__law_stream o_doors_of
  exact o_law
end
/-! ### what the top has written -/
theorem txt_mk {K : PySem.W.Frag} {h : Heap} {mg : Str → Option Value} (X : K.In h) (G : h.Ns mainGlobals mg)
    {od0 an0 : Option Addr} {sl0 : Array (Option Value)} {f0 : Addr} {oc0 kV0 dc0 pm0 cd0 ct0 : Value}
    (a0 : PySem.W.nsIn K mainGlobals "_law_doors" = some (some (.ref f0))) (l0 : K.lookup f0 = some ⟨oc0, od0, .func (PySem.W.fnOf "_law_doors" "_law_doors" (defArgs st__law_doors) (defBody st__law_doors) (defScope st__law_doors) .none kV0 dc0 pm0 an0 cd0 ct0), sl0⟩) (c0 : PySem.W.codeIn K cd0 "_law_doors" = true) (k0 : PySem.W.keepIn K (.ref f0) = true)
    {od1 an1 : Option Addr} {sl1 : Array (Option Value)} {f1 : Addr} {oc1 kV1 dc1 pm1 cd1 ct1 : Value}
    (a1 : PySem.W.nsIn K mainGlobals "_law_mixed" = some (some (.ref f1))) (l1 : K.lookup f1 = some ⟨oc1, od1, .func (PySem.W.fnOf "_law_mixed" "_law_mixed" (defArgs st__law_mixed) (defBody st__law_mixed) (defScope st__law_mixed) .none kV1 dc1 pm1 an1 cd1 ct1), sl1⟩) (c1 : PySem.W.codeIn K cd1 "_law_mixed" = true) (k1 : PySem.W.keepIn K (.ref f1) = true)
    {od2 an2 : Option Addr} {sl2 : Array (Option Value)} {f2 : Addr} {oc2 kV2 dc2 pm2 cd2 ct2 : Value}
    (a2 : PySem.W.nsIn K mainGlobals "_law_draw" = some (some (.ref f2))) (l2 : K.lookup f2 = some ⟨oc2, od2, .func (PySem.W.fnOf "_law_draw" "_law_draw" (defArgs st__law_draw) (defBody st__law_draw) (defScope st__law_draw) .none kV2 dc2 pm2 an2 cd2 ct2), sl2⟩) (c2 : PySem.W.codeIn K cd2 "_law_draw" = true) (k2 : PySem.W.keepIn K (.ref f2) = true)
    {od3 an3 : Option Addr} {sl3 : Array (Option Value)} {f3 : Addr} {oc3 kV3 dc3 pm3 cd3 ct3 : Value}
    (a3 : PySem.W.nsIn K mainGlobals "_law_lates" = some (some (.ref f3))) (l3 : K.lookup f3 = some ⟨oc3, od3, .func (PySem.W.fnOf "_law_lates" "_law_lates" (defArgs st__law_lates) (defBody st__law_lates) (defScope st__law_lates) .none kV3 dc3 pm3 an3 cd3 ct3), sl3⟩) (c3 : PySem.W.codeIn K cd3 "_law_lates" = true) (k3 : PySem.W.keepIn K (.ref f3) = true)
    {od4 an4 : Option Addr} {sl4 : Array (Option Value)} {f4 : Addr} {oc4 kV4 dc4 pm4 cd4 ct4 : Value}
    (a4 : PySem.W.nsIn K mainGlobals "_law_name" = some (some (.ref f4))) (l4 : K.lookup f4 = some ⟨oc4, od4, .func (PySem.W.fnOf "_law_name" "_law_name" (defArgs st__law_name) (defBody st__law_name) (defScope st__law_name) .none kV4 dc4 pm4 an4 cd4 ct4), sl4⟩) (c4 : PySem.W.codeIn K cd4 "_law_name" = true) (k4 : PySem.W.keepIn K (.ref f4) = true)
    {od5 an5 : Option Addr} {sl5 : Array (Option Value)} {f5 : Addr} {oc5 kV5 dc5 pm5 cd5 ct5 : Value}
    (a5 : PySem.W.nsIn K mainGlobals "_law_plans" = some (some (.ref f5))) (l5 : K.lookup f5 = some ⟨oc5, od5, .func (PySem.W.fnOf "_law_plans" "_law_plans" (defArgs st__law_plans) (defBody st__law_plans) (defScope st__law_plans) .none kV5 dc5 pm5 an5 cd5 ct5), sl5⟩) (c5 : PySem.W.codeIn K cd5 "_law_plans" = true) (k5 : PySem.W.keepIn K (.ref f5) = true)
    {od6 an6 : Option Addr} {sl6 : Array (Option Value)} {f6 : Addr} {oc6 kV6 dc6 pm6 cd6 ct6 : Value}
    (a6 : PySem.W.nsIn K mainGlobals "_law_needs" = some (some (.ref f6))) (l6 : K.lookup f6 = some ⟨oc6, od6, .func (PySem.W.fnOf "_law_needs" "_law_needs" (defArgs st__law_needs) (defBody st__law_needs) (defScope st__law_needs) .none kV6 dc6 pm6 an6 cd6 ct6), sl6⟩) (c6 : PySem.W.codeIn K cd6 "_law_needs" = true) (k6 : PySem.W.keepIn K (.ref f6) = true)
    {od7 an7 : Option Addr} {sl7 : Array (Option Value)} {f7 : Addr} {oc7 kV7 dc7 pm7 cd7 ct7 : Value}
    (a7 : PySem.W.nsIn K mainGlobals "_law_row" = some (some (.ref f7))) (l7 : K.lookup f7 = some ⟨oc7, od7, .func (PySem.W.fnOf "_law_row" "_law_row" (defArgs st__law_row) (defBody st__law_row) (defScope st__law_row) .none kV7 dc7 pm7 an7 cd7 ct7), sl7⟩) (c7 : PySem.W.codeIn K cd7 "_law_row" = true) (k7 : PySem.W.keepIn K (.ref f7) = true)
    {od8 an8 : Option Addr} {sl8 : Array (Option Value)} {f8 : Addr} {oc8 kV8 dc8 pm8 cd8 ct8 : Value}
    (a8 : PySem.W.nsIn K mainGlobals "_law_program" = some (some (.ref f8))) (l8 : K.lookup f8 = some ⟨oc8, od8, .func (PySem.W.fnOf "_law_program" "_law_program" (defArgs st__law_program) (defBody st__law_program) (defScope st__law_program) .none kV8 dc8 pm8 an8 cd8 ct8), sl8⟩) (c8 : PySem.W.codeIn K cd8 "_law_program" = true) (k8 : PySem.W.keepIn K (.ref f8) = true)
    {od9 an9 : Option Addr} {sl9 : Array (Option Value)} {f9 : Addr} {oc9 kV9 dc9 pm9 cd9 ct9 : Value}
    (a9 : PySem.W.nsIn K mainGlobals "_law_same" = some (some (.ref f9))) (l9 : K.lookup f9 = some ⟨oc9, od9, .func (PySem.W.fnOf "_law_same" "_law_same" (defArgs st__law_same) (defBody st__law_same) (defScope st__law_same) .none kV9 dc9 pm9 an9 cd9 ct9), sl9⟩) (c9 : PySem.W.codeIn K cd9 "_law_same" = true) (k9 : PySem.W.keepIn K (.ref f9) = true)
    {od10 an10 : Option Addr} {sl10 : Array (Option Value)} {f10 : Addr} {oc10 kV10 dc10 pm10 cd10 ct10 : Value}
    (a10 : PySem.W.nsIn K mainGlobals "_law_stream" = some (some (.ref f10))) (l10 : K.lookup f10 = some ⟨oc10, od10, .func (PySem.W.fnOf "_law_stream" "_law_stream" (defArgs st__law_stream) (defBody st__law_stream) (defScope st__law_stream) .none kV10 dc10 pm10 an10 cd10 ct10), sl10⟩) (c10 : PySem.W.codeIn K cd10 "_law_stream" = true) (k10 : PySem.W.keepIn K (.ref f10) = true)
    {od11 an11 : Option Addr} {sl11 : Array (Option Value)} {f11 : Addr} {oc11 kV11 dc11 pm11 cd11 ct11 : Value}
    (a11 : PySem.W.nsIn K mainGlobals "doors" = some (some (.ref f11))) (l11 : K.lookup f11 = some ⟨oc11, od11, .func (PySem.W.fnOf "doors" "doors" (defArgs st_doors) (defBody st_doors) (defScope st_doors) .none kV11 dc11 pm11 an11 cd11 ct11), sl11⟩) (c11 : PySem.W.codeIn K cd11 "doors" = true) (k11 : PySem.W.keepIn K (.ref f11) = true)
    {od12 an12 : Option Addr} {sl12 : Array (Option Value)} {f12 : Addr} {oc12 kV12 dc12 pm12 cd12 ct12 : Value}
    (a12 : PySem.W.nsIn K mainGlobals "is_ascending" = some (some (.ref f12))) (l12 : K.lookup f12 = some ⟨oc12, od12, .func (PySem.W.fnOf "is_ascending" "is_ascending" (defArgs st_is_ascending) (defBody st_is_ascending) (defScope st_is_ascending) .none kV12 dc12 pm12 an12 cd12 ct12), sl12⟩) (c12 : PySem.W.codeIn K cd12 "is_ascending" = true) (k12 : PySem.W.keepIn K (.ref f12) = true)
    {od13 an13 : Option Addr} {sl13 : Array (Option Value)} {f13 : Addr} {oc13 kV13 dc13 pm13 cd13 ct13 : Value}
    (a13 : PySem.W.nsIn K mainGlobals "is_integer" = some (some (.ref f13))) (l13 : K.lookup f13 = some ⟨oc13, od13, .func (PySem.W.fnOf "is_integer" "is_integer" (defArgs st_is_integer) (defBody st_is_integer) (defScope st_is_integer) .none kV13 dc13 pm13 an13 cd13 ct13), sl13⟩) (c13 : PySem.W.codeIn K cd13 "is_integer" = true) (k13 : PySem.W.keepIn K (.ref f13) = true)
    {od14 an14 : Option Addr} {sl14 : Array (Option Value)} {f14 : Addr} {oc14 kV14 dc14 pm14 cd14 ct14 : Value}
    (a14 : PySem.W.nsIn K mainGlobals "is_number" = some (some (.ref f14))) (l14 : K.lookup f14 = some ⟨oc14, od14, .func (PySem.W.fnOf "is_number" "is_number" (defArgs st_is_number) (defBody st_is_number) (defScope st_is_number) .none kV14 dc14 pm14 an14 cd14 ct14), sl14⟩) (c14 : PySem.W.codeIn K cd14 "is_number" = true) (k14 : PySem.W.keepIn K (.ref f14) = true)
    {od15 an15 : Option Addr} {sl15 : Array (Option Value)} {f15 : Addr} {oc15 kV15 dc15 pm15 cd15 ct15 : Value}
    (a15 : PySem.W.nsIn K mainGlobals "is_entries" = some (some (.ref f15))) (l15 : K.lookup f15 = some ⟨oc15, od15, .func (PySem.W.fnOf "is_entries" "is_entries" (defArgs st_is_entries) (defBody st_is_entries) (defScope st_is_entries) .none kV15 dc15 pm15 an15 cd15 ct15), sl15⟩) (c15 : PySem.W.codeIn K cd15 "is_entries" = true) (k15 : PySem.W.keepIn K (.ref f15) = true)
    {od16 an16 : Option Addr} {sl16 : Array (Option Value)} {f16 : Addr} {oc16 kV16 dc16 pm16 cd16 ct16 : Value}
    (a16 : PySem.W.nsIn K mainGlobals "is_flag" = some (some (.ref f16))) (l16 : K.lookup f16 = some ⟨oc16, od16, .func (PySem.W.fnOf "is_flag" "is_flag" (defArgs st_is_flag) (defBody st_is_flag) (defScope st_is_flag) .none kV16 dc16 pm16 an16 cd16 ct16), sl16⟩) (c16 : PySem.W.codeIn K cd16 "is_flag" = true) (k16 : PySem.W.keepIn K (.ref f16) = true)
    {od17 an17 : Option Addr} {sl17 : Array (Option Value)} {f17 : Addr} {oc17 kV17 dc17 pm17 cd17 ct17 : Value}
    (a17 : PySem.W.nsIn K mainGlobals "is_marks" = some (some (.ref f17))) (l17 : K.lookup f17 = some ⟨oc17, od17, .func (PySem.W.fnOf "is_marks" "is_marks" (defArgs st_is_marks) (defBody st_is_marks) (defScope st_is_marks) .none kV17 dc17 pm17 an17 cd17 ct17), sl17⟩) (c17 : PySem.W.codeIn K cd17 "is_marks" = true) (k17 : PySem.W.keepIn K (.ref f17) = true)
    {od18 an18 : Option Addr} {sl18 : Array (Option Value)} {f18 : Addr} {oc18 kV18 dc18 pm18 cd18 ct18 : Value}
    (a18 : PySem.W.nsIn K mainGlobals "is_name" = some (some (.ref f18))) (l18 : K.lookup f18 = some ⟨oc18, od18, .func (PySem.W.fnOf "is_name" "is_name" (defArgs st_is_name) (defBody st_is_name) (defScope st_is_name) .none kV18 dc18 pm18 an18 cd18 ct18), sl18⟩) (c18 : PySem.W.codeIn K cd18 "is_name" = true) (k18 : PySem.W.keepIn K (.ref f18) = true)
    {od19 an19 : Option Addr} {sl19 : Array (Option Value)} {f19 : Addr} {oc19 kV19 dc19 pm19 cd19 ct19 : Value}
    (a19 : PySem.W.nsIn K mainGlobals "is_named" = some (some (.ref f19))) (l19 : K.lookup f19 = some ⟨oc19, od19, .func (PySem.W.fnOf "is_named" "is_named" (defArgs st_is_named) (defBody st_is_named) (defScope st_is_named) .none kV19 dc19 pm19 an19 cd19 ct19), sl19⟩) (c19 : PySem.W.codeIn K cd19 "is_named" = true) (k19 : PySem.W.keepIn K (.ref f19) = true)
    {od20 an20 : Option Addr} {sl20 : Array (Option Value)} {f20 : Addr} {oc20 kV20 dc20 pm20 cd20 ct20 : Value}
    (a20 : PySem.W.nsIn K mainGlobals "is_opens" = some (some (.ref f20))) (l20 : K.lookup f20 = some ⟨oc20, od20, .func (PySem.W.fnOf "is_opens" "is_opens" (defArgs st_is_opens) (defBody st_is_opens) (defScope st_is_opens) .none kV20 dc20 pm20 an20 cd20 ct20), sl20⟩) (c20 : PySem.W.codeIn K cd20 "is_opens" = true) (k20 : PySem.W.keepIn K (.ref f20) = true)
    {od21 an21 : Option Addr} {sl21 : Array (Option Value)} {f21 : Addr} {oc21 kV21 dc21 pm21 cd21 ct21 : Value}
    (a21 : PySem.W.nsIn K mainGlobals "is_needs" = some (some (.ref f21))) (l21 : K.lookup f21 = some ⟨oc21, od21, .func (PySem.W.fnOf "is_needs" "is_needs" (defArgs st_is_needs) (defBody st_is_needs) (defScope st_is_needs) .none kV21 dc21 pm21 an21 cd21 ct21), sl21⟩) (c21 : PySem.W.codeIn K cd21 "is_needs" = true) (k21 : PySem.W.keepIn K (.ref f21) = true)
    {od22 an22 : Option Addr} {sl22 : Array (Option Value)} {f22 : Addr} {oc22 kV22 dc22 pm22 cd22 ct22 : Value}
    (a22 : PySem.W.nsIn K mainGlobals "is_row" = some (some (.ref f22))) (l22 : K.lookup f22 = some ⟨oc22, od22, .func (PySem.W.fnOf "is_row" "is_row" (defArgs st_is_row) (defBody st_is_row) (defScope st_is_row) .none kV22 dc22 pm22 an22 cd22 ct22), sl22⟩) (c22 : PySem.W.codeIn K cd22 "is_row" = true) (k22 : PySem.W.keepIn K (.ref f22) = true)
    {od23 an23 : Option Addr} {sl23 : Array (Option Value)} {f23 : Addr} {oc23 kV23 dc23 pm23 cd23 ct23 : Value}
    (a23 : PySem.W.nsIn K mainGlobals "is_parts" = some (some (.ref f23))) (l23 : K.lookup f23 = some ⟨oc23, od23, .func (PySem.W.fnOf "is_parts" "is_parts" (defArgs st_is_parts) (defBody st_is_parts) (defScope st_is_parts) .none kV23 dc23 pm23 an23 cd23 ct23), sl23⟩) (c23 : PySem.W.codeIn K cd23 "is_parts" = true) (k23 : PySem.W.keepIn K (.ref f23) = true)
    {od24 an24 : Option Addr} {sl24 : Array (Option Value)} {f24 : Addr} {oc24 kV24 dc24 pm24 cd24 ct24 : Value}
    (a24 : PySem.W.nsIn K mainGlobals "is_program" = some (some (.ref f24))) (l24 : K.lookup f24 = some ⟨oc24, od24, .func (PySem.W.fnOf "is_program" "is_program" (defArgs st_is_program) (defBody st_is_program) (defScope st_is_program) .none kV24 dc24 pm24 an24 cd24 ct24), sl24⟩) (c24 : PySem.W.codeIn K cd24 "is_program" = true) (k24 : PySem.W.keepIn K (.ref f24) = true)
    {od25 an25 : Option Addr} {sl25 : Array (Option Value)} {f25 : Addr} {oc25 kV25 dc25 pm25 cd25 ct25 : Value}
    (a25 : PySem.W.nsIn K mainGlobals "need_program" = some (some (.ref f25))) (l25 : K.lookup f25 = some ⟨oc25, od25, .func (PySem.W.fnOf "need_program" "need_program" (defArgs st_need_program) (defBody st_need_program) (defScope st_need_program) .none kV25 dc25 pm25 an25 cd25 ct25), sl25⟩) (c25 : PySem.W.codeIn K cd25 "need_program" = true) (k25 : PySem.W.keepIn K (.ref f25) = true)
    {od26 an26 : Option Addr} {sl26 : Array (Option Value)} {f26 : Addr} {oc26 kV26 dc26 pm26 cd26 ct26 : Value}
    (a26 : PySem.W.nsIn K mainGlobals "doors_of" = some (some (.ref f26))) (l26 : K.lookup f26 = some ⟨oc26, od26, .func (PySem.W.fnOf "doors_of" "doors_of" (defArgs st_doors_of) (defBody st_doors_of) (defScope st_doors_of) .none kV26 dc26 pm26 an26 cd26 ct26), sl26⟩) (c26 : PySem.W.codeIn K cd26 "doors_of" = true) (k26 : PySem.W.keepIn K (.ref f26) = true)
    {od27 an27 : Option Addr} {sl27 : Array (Option Value)} {f27 : Addr} {oc27 kV27 dc27 pm27 cd27 ct27 : Value}
    (a27 : PySem.W.nsIn K mainGlobals "law" = some (some (.ref f27))) (l27 : K.lookup f27 = some ⟨oc27, od27, .func (PySem.W.fnOf "law" "law" (defArgs st_law) (defBody st_law) (defScope st_law) .none kV27 dc27 pm27 an27 cd27 ct27), sl27⟩) (c27 : PySem.W.codeIn K cd27 "law" = true) (k27 : PySem.W.keepIn K (.ref f27) = true)
    {v0 : Value} (g0 : PySem.W.nsIn K mainGlobals "MOST_ENTRIES" = some (some v0)) (h0 : kDat K 12 v0 = some c_MOST_ENTRIES)
    {v1 : Value} (g1 : PySem.W.nsIn K mainGlobals "MOST_OPENS" = some (some v1)) (h1 : kDat K 12 v1 = some c_MOST_OPENS)
    {v2 : Value} (g2 : PySem.W.nsIn K mainGlobals "MOST_OUTS" = some (some v2)) (h2 : kDat K 12 v2 = some c_MOST_OUTS)
    {v3 : Value} (g3 : PySem.W.nsIn K mainGlobals "MOST_PARTS" = some (some v3)) (h3 : kDat K 12 v3 = some c_MOST_PARTS)
    {v4 : Value} (g4 : PySem.W.nsIn K mainGlobals "MOST_ROWS" = some (some v4)) (h4 : kDat K 12 v4 = some c_MOST_ROWS)
    {v5 : Value} (g5 : PySem.W.nsIn K mainGlobals "MOST_ROWS_IN_ALL" = some (some v5)) (h5 : kDat K 12 v5 = some c_MOST_ROWS_IN_ALL)
    {v6 : Value} (g6 : PySem.W.nsIn K mainGlobals "NAMES" = some (some v6)) (h6 : kDat K 12 v6 = some c_NAMES)
    (z0 : PySem.W.nsIn K mainGlobals "abs" = some none)
    (z1 : PySem.W.nsIn K mainGlobals "all" = some none)
    (z2 : PySem.W.nsIn K mainGlobals "bool" = some none)
    (z3 : PySem.W.nsIn K mainGlobals "int" = some none)
    (z4 : PySem.W.nsIn K mainGlobals "isinstance" = some none)
    (z5 : PySem.W.nsIn K mainGlobals "len" = some none)
    (z6 : PySem.W.nsIn K mainGlobals "list" = some none)
    (z7 : PySem.W.nsIn K mainGlobals "min" = some none)
    (z8 : PySem.W.nsIn K mainGlobals "range" = some none)
    (z9 : PySem.W.nsIn K mainGlobals "set" = some none)
    (z10 : PySem.W.nsIn K mainGlobals "sorted" = some none)
    (z11 : PySem.W.nsIn K mainGlobals "str" = some none)
    (z12 : PySem.W.nsIn K mainGlobals "sum" = some none)
    (z13 : PySem.W.nsIn K mainGlobals "tuple" = some none) : Txt K mg :=
  { d__law_doors := has_def (st := st__law_doors) X G a0 l0 c0 k0,
    d__law_mixed := has_def (st := st__law_mixed) X G a1 l1 c1 k1,
    d__law_draw := has_def (st := st__law_draw) X G a2 l2 c2 k2,
    d__law_lates := has_def (st := st__law_lates) X G a3 l3 c3 k3,
    d__law_name := has_def (st := st__law_name) X G a4 l4 c4 k4,
    d__law_plans := has_def (st := st__law_plans) X G a5 l5 c5 k5,
    d__law_needs := has_def (st := st__law_needs) X G a6 l6 c6 k6,
    d__law_row := has_def (st := st__law_row) X G a7 l7 c7 k7,
    d__law_program := has_def (st := st__law_program) X G a8 l8 c8 k8,
    d__law_same := has_def (st := st__law_same) X G a9 l9 c9 k9,
    d__law_stream := has_def (st := st__law_stream) X G a10 l10 c10 k10,
    d_doors := has_def (st := st_doors) X G a11 l11 c11 k11,
    d_is_ascending := has_def (st := st_is_ascending) X G a12 l12 c12 k12,
    d_is_integer := has_def (st := st_is_integer) X G a13 l13 c13 k13,
    d_is_number := has_def (st := st_is_number) X G a14 l14 c14 k14,
    d_is_entries := has_def (st := st_is_entries) X G a15 l15 c15 k15,
    d_is_flag := has_def (st := st_is_flag) X G a16 l16 c16 k16,
    d_is_marks := has_def (st := st_is_marks) X G a17 l17 c17 k17,
    d_is_name := has_def (st := st_is_name) X G a18 l18 c18 k18,
    d_is_named := has_def (st := st_is_named) X G a19 l19 c19 k19,
    d_is_opens := has_def (st := st_is_opens) X G a20 l20 c20 k20,
    d_is_needs := has_def (st := st_is_needs) X G a21 l21 c21 k21,
    d_is_row := has_def (st := st_is_row) X G a22 l22 c22 k22,
    d_is_parts := has_def (st := st_is_parts) X G a23 l23 c23 k23,
    d_is_program := has_def (st := st_is_program) X G a24 l24 c24 k24,
    d_need_program := has_def (st := st_need_program) X G a25 l25 c25 k25,
    d_doors_of := has_def (st := st_doors_of) X G a26 l26 c26 k26,
    d_law := has_def (st := st_law) X G a27 l27 c27 k27,
    c_MOST_ENTRIES := glob_dat X G g0 h0,
    c_MOST_OPENS := glob_dat X G g1 h1,
    c_MOST_OUTS := glob_dat X G g2 h2,
    c_MOST_PARTS := glob_dat X G g3 h3,
    c_MOST_ROWS := glob_dat X G g4 h4,
    c_MOST_ROWS_IN_ALL := glob_dat X G g5 h5,
    c_NAMES := glob_dat X G g6 h6,
    z_abs := PySem.W.mg_none_of X G z0,
    z_all := PySem.W.mg_none_of X G z1,
    z_bool := PySem.W.mg_none_of X G z2,
    z_int := PySem.W.mg_none_of X G z3,
    z_isinstance := PySem.W.mg_none_of X G z4,
    z_len := PySem.W.mg_none_of X G z5,
    z_list := PySem.W.mg_none_of X G z6,
    z_min := PySem.W.mg_none_of X G z7,
    z_range := PySem.W.mg_none_of X G z8,
    z_set := PySem.W.mg_none_of X G z9,
    z_sorted := PySem.W.mg_none_of X G z10,
    z_str := PySem.W.mg_none_of X G z11,
    z_sum := PySem.W.mg_none_of X G z12,
    z_tuple := PySem.W.mg_none_of X G z13 }
end G

namespace G
open PySem PySem.Spec L2 DL
abbrev vi (i : Int) : OV := .val (.int i)
/-! ### the stream -/
def strm (ns : List Int) (i : Nat) (r m t : Int) : OV := .lst [.val (.list (ns.map .int)), vi i, vi r, vi m, vi t]
def StOk (s : OV) : Prop := ∃ ns i r m t, s = strm ns i r m t ∧ 0 ≤ r ∧ i ≤ ns.length
theorem mixed_ok (a b : Int) : ∃ x, F__law_mixed [vi a, vi b] = some (.rt (vi x) []) := by
  have h1 := Int.emod_nonneg (a * 48271 + b * 7919 + 11) (show (2147483629 : Int) ≠ 0 by decide)
  have h2 := Int.emod_lt_of_pos (a * 48271 + b * 7919 + 11) (show (0 : Int) < 2147483629 by decide)
  refine ⟨((((a * 48271 + b * 7919 + 11) % 2147483629) * ((a * 48271 + b * 7919 + 11) % 2147483629) + b * 104729 + (a * 48271 + b * 7919 + 11) % 2147483629 / 65536) % 2147483587) / 5, ?_⟩
  have hm : mulC ((a * 48271 + b * 7919 + 11) % 2147483629) ((a * 48271 + b * 7919 + 11) % 2147483629) = true := by
    generalize (a * 48271 + b * 7919 + 11) % 2147483629 = z at h1 h2
    simp [mulC]
    omega
  have hk : ∀ z : Int, mulC z 48271 = true ∧ mulC z 7919 = true ∧ mulC z 104729 = true := fun z => by simp [mulC]
  simp [F__law_mixed, d__law_mixed, runDef, sRet, ev_sB, ev_sSeq, sIf, sSet, sNext, sExpr, putE, mAndV, mOrV, mNotV, mIf, mAnd, mOr, mNot, mBl, ev_mB, mIsi, mV, mMv, isiD, oB, oI, bl?, outsE, mCall, mArs, takeSa, putSa, mChain, m2, g2, gI, mCB, A1, A2, mF, mCons, mNil, OV.frzL, mIxO, sSetIx, atI, ixN, addD, intD, hk, hm, divC]
theorem draw_ok {s : OV} {L : Int} (hs : StOk s) (h0 : 0 < L) (h1 : L < 1073741824) : ∃ d s', F__law_draw [s, vi L] = some (.rt (vi d) [s']) ∧ 0 ≤ d ∧ d < L ∧ StOk s' := by
  obtain ⟨ns, i, r, m, t, rfl, hr, hi⟩ := hs
  have hp : powC 10 18 = true := by decide +kernel
  have ml : ∀ z : Int, 0 ≤ z % L ∧ z % L < L := fun z => ⟨Int.emod_nonneg _ (by omega), Int.emod_lt_of_pos _ h0⟩
  have hL : ¬ L ≤ 0 := by omega
  have hdv : ∀ z : Int, divC z L = true := fun z => by simp [divC, h0, h1]
  obtain ⟨y, hy⟩ := mixed_ok m (t + 1)
  by_cases hr0 : r = 0
  · subst hr0
    by_cases hlt : i < ns.length
    · obtain ⟨x, hx⟩ := mixed_ok ns[i] (t + 1)
      by_cases hc1 : -1000000000000000000 < ns[i]
      · by_cases hc2 : ns[i] < 1000000000000000000
        · refine ⟨x % L, strm ns (i + 1) 0 m (t + 1), ?_, (ml x).1, (ml x).2, ⟨ns, i + 1, 0, m, t + 1, rfl, by omega, by omega⟩⟩
          simp [F__law_draw, d__law_draw, strm, runDef, sRet, ev_sB, ev_sSeq, sIf, sSet, sNext, sExpr, putE, mAndV, mOrV, mNotV, mIf, mAnd, mOr, mNot, mBl, ev_mB, mIsi, mV, mMv, isiD, oB, oI, bl?, outsE, mCall, mArs, takeSa, putSa, mChain, m2, g2, gI, mCB, A1, A2, mF, mCons, mNil, OV.frzL, mIxO, sSetIx, atI, ixN, vi, addD, eqD, lowD, PyData.depth, PyData.eqv, lenD, ixD, intD, mNeg, absD, hlt, hp, hc1, hc2, hx, h0]
        · have hn : ¬ ns[i] < 0 := by omega
          have hpos : 0 < ns[i] := by omega
          refine ⟨ns[i] % L, strm ns (i + 1) (ns[i] / L) m (t + 1), ?_, (ml _).1, (ml _).2, ⟨ns, i + 1, _, m, t + 1, rfl, Int.ediv_nonneg (by omega) (by omega), by omega⟩⟩
          simp [F__law_draw, d__law_draw, strm, runDef, sRet, ev_sB, ev_sSeq, sIf, sSet, sNext, sExpr, putE, mAndV, mOrV, mNotV, mIf, mAnd, mOr, mNot, mBl, ev_mB, mIsi, mV, mMv, isiD, oB, oI, bl?, outsE, mCall, mArs, takeSa, putSa, mChain, m2, g2, gI, mCB, A1, A2, mF, mCons, mNil, OV.frzL, mIxO, sSetIx, atI, ixN, vi, addD, eqD, lowD, PyData.depth, PyData.eqv, lenD, ixD, intD, mNeg, absD, hlt, hp, hc1, hc2, hx, h0, hn, hpos, hdv]
      · have hn : ns[i] < 0 := by omega
        have hpos : ¬ (0 : Int) ≤ ns[i] := by omega
        refine ⟨-ns[i] % L, strm ns (i + 1) (-ns[i] / L) m (t + 1), ?_, (ml _).1, (ml _).2, ⟨ns, i + 1, _, m, t + 1, rfl, Int.ediv_nonneg (by omega) (by omega), by omega⟩⟩
        simp [F__law_draw, d__law_draw, strm, runDef, sRet, ev_sB, ev_sSeq, sIf, sSet, sNext, sExpr, putE, mAndV, mOrV, mNotV, mIf, mAnd, mOr, mNot, mBl, ev_mB, mIsi, mV, mMv, isiD, oB, oI, bl?, outsE, mCall, mArs, takeSa, putSa, mChain, m2, g2, gI, mCB, A1, A2, mF, mCons, mNil, OV.frzL, mIxO, sSetIx, atI, ixN, vi, addD, eqD, lowD, PyData.depth, PyData.eqv, lenD, ixD, intD, mNeg, absD, hlt, hp, hc1, hx, h0, hn, hpos, hdv]
    · refine ⟨y % L, strm ns i 0 m (t + 1), ?_, (ml _).1, (ml _).2, ⟨ns, i, 0, m, t + 1, rfl, by omega, by omega⟩⟩
      have hlt' : ns.length ≤ i := by omega
      simp [F__law_draw, d__law_draw, strm, runDef, sRet, ev_sB, ev_sSeq, sIf, sSet, sNext, sExpr, putE, mAndV, mOrV, mNotV, mIf, mAnd, mOr, mNot, mBl, ev_mB, mIsi, mV, mMv, isiD, oB, oI, bl?, outsE, mCall, mArs, takeSa, putSa, mChain, m2, g2, gI, mCB, A1, A2, mF, mCons, mNil, OV.frzL, mIxO, sSetIx, atI, ixN, vi, addD, eqD, lowD, PyData.depth, PyData.eqv, lenD, ixD, intD, mNeg, absD, hlt, hlt', hp, hy, h0]
  · have hpos : 0 < r := by omega
    refine ⟨r % L, strm ns i (r / L) m (t + 1), ?_, (ml _).1, (ml _).2, ⟨ns, i, _, m, t + 1, rfl, Int.ediv_nonneg (by omega) (by omega), by omega⟩⟩
    simp [F__law_draw, d__law_draw, strm, runDef, sRet, ev_sB, ev_sSeq, sIf, sSet, sNext, sExpr, putE, mAndV, mOrV, mNotV, mIf, mAnd, mOr, mNot, mBl, ev_mB, mIsi, mV, mMv, isiD, oB, oI, bl?, outsE, mCall, mArs, takeSa, putSa, mChain, m2, g2, gI, mCB, A1, A2, mF, mCons, mNil, OV.frzL, mIxO, sSetIx, atI, ixN, vi, addD, eqD, lowD, PyData.depth, PyData.eqv, lenD, ixD, intD, mNeg, absD, hr0, hp, h0, hpos, hdv]
/-! ### names -/
def nm : List Str := ["a", "b", "c", "d"]
theorem cases4 {k : Int} (h0 : 0 ≤ k) (h1 : k < 4) : k = 0 ∨ k = 1 ∨ k = 2 ∨ k = 3 := by omega
theorem abcd_ix {k : Int} (h0 : 0 ≤ k) (h1 : k < 4) : ∃ s ∈ nm, ixD (.str "abcd") (.int k) = some (.val (.str s)) := by
  rcases cases4 h0 h1 with rfl | rfl | rfl | rfl
  · exact ⟨"a", by decide, rfl⟩
  · exact ⟨"b", by decide, rfl⟩
  · exact ⟨"c", by decide, rfl⟩
  · exact ⟨"d", by decide, rfl⟩
def NamedOk (c : Int) (d : Dt) : Prop := ∃ (p : Int) (s : Str), d = .tuple [.int p, .str s] ∧ 0 ≤ p ∧ p < c ∧ s ∈ nm
def AllOk (c : Int) (ds : List Dt) : Prop := ∀ d ∈ ds, NamedOk c d
theorem sz2 {n : Nat} (h : n ≤ 16777216) : sz n = true := by simp [sz, h]
theorem name_fresh {s : OV} {c : Int} (ds : List Dt) (hs : StOk s) (h0 : 0 < c) (h1 : c < 1073741824) : ∃ d s', mTup (mCons (mCall F__law_draw [.io 0, .ex (mV 2)]) (mCons (m2 ixD (mC (.str "abcd")) (mCall F__law_draw [.io 0, .ex (mC (.int 4))])) mNil)) [some s, some (.val (.list ds)), some (vi c)] = some (.ok (.val d) [some s', some (.val (.list ds)), some (vi c)]) ∧ NamedOk c d ∧ StOk s' := by
  obtain ⟨p, s1, e1, p0, p1, hs1⟩ := draw_ok hs h0 h1
  obtain ⟨k, s2, e2, k0, k1, hs2⟩ := draw_ok (L := 4) hs1 (by decide) (by decide)
  obtain ⟨z, hz, ez⟩ := abcd_ix k0 k1
  refine ⟨.tuple [.int p, .str z], s2, ?_, ⟨p, z, rfl, p0, p1, hz⟩, hs2⟩
  have hsz := sz2 (n := 2) (by decide)
  simp [mTup, runDef, sRet, ev_sB, ev_sSeq, sIf, sSet, sNext, sExpr, putE, mAndV, mOrV, mNotV, mIf, mAnd, mOr, mNot, mBl, ev_mB, mIsi, mV, mMv, isiD, oB, oI, bl?, outsE, mCall, mArs, takeSa, putSa, mChain, m2, g2, gI, mCB, A1, A2, mF, mCons, mNil, OV.frzL, mIxO, sSetIx, atI, ixN, e1, e2, ez, hsz]
theorem ixL {ds : List Dt} {n : Nat} (hn : n < ds.length) : ixD (.list ds) (.int n) = some (.val ds[n]) := by
  have h : ¬ ((n : Int) < 0) := by omega
  have h2 : (n : Int) < ds.length := by omega
  simp [ixD, atI, ixN, hn]
theorem ixT {ds : List Dt} {n : Nat} (hn : n < ds.length) : ixD (.tuple ds) (.int n) = some (.val ds[n]) := by
  have h : ¬ ((n : Int) < 0) := by omega
  have h2 : (n : Int) < ds.length := by omega
  simp [ixD, atI, ixN, hn]
theorem name_ok {s : OV} {c : Int} {ds : List Dt} (hs : StOk s) (hd : AllOk c ds) (hl : ds.length < 1073741824) (h0 : 0 < c) (h1 : c < 1073741824) : ∃ d s', F__law_name [s, .val (.list ds), vi c] = some (.rt (.val d) [s']) ∧ NamedOk c d ∧ StOk s' := by
  by_cases lp : 0 < ds.length
  · obtain ⟨g, s1, e1, g0, g1, hs1⟩ := draw_ok (L := 5) hs (by decide) (by decide)
    by_cases hg : 0 < g
    · obtain ⟨j, s2, e2, j0, j1, hs2⟩ := draw_ok (L := ds.length) hs1 (by omega) (by omega)
      obtain ⟨n, rfl⟩ : ∃ n : Nat, j = n := ⟨j.toNat, by omega⟩
      have hn : n < ds.length := by omega
      refine ⟨ds[n], s2, ?_, hd _ (List.getElem_mem hn), hs2⟩
      have hix := ixL hn
      simp [F__law_name, d__law_name, runDef, sRet, ev_sB, ev_sSeq, sIf, sSet, sNext, sExpr, putE, mAndV, mOrV, mNotV, mIf, mAnd, mOr, mNot, mBl, ev_mB, mIsi, mV, mMv, isiD, oB, oI, bl?, outsE, mCall, mArs, takeSa, putSa, mChain, m2, g2, gI, mCB, A1, A2, mF, mCons, mNil, OV.frzL, mIxO, sSetIx, atI, ixN, lenD, lp, hg, e1, e2, hix]
    · obtain ⟨d, s', e, h, hs'⟩ := name_fresh ds hs1 h0 h1
      refine ⟨d, s', ?_, h, hs'⟩
      simp only [F__law_name, d__law_name]
      generalize mTup _ = T at e ⊢
      simp [runDef, sRet, ev_sB, ev_sSeq, sIf, sSet, sNext, sExpr, putE, mAndV, mOrV, mNotV, mIf, mAnd, mOr, mNot, mBl, ev_mB, mIsi, mV, mMv, isiD, oB, oI, bl?, outsE, mCall, mArs, takeSa, putSa, mChain, m2, g2, gI, mCB, A1, A2, mF, mCons, mNil, OV.frzL, mIxO, sSetIx, atI, ixN, lenD, lp, hg, e1, e]
  · obtain ⟨d, s', e, h, hs'⟩ := name_fresh ds hs h0 h1
    refine ⟨d, s', ?_, h, hs'⟩
    simp only [F__law_name, d__law_name]
    generalize mTup _ = T at e ⊢
    simp [runDef, sRet, ev_sB, ev_sSeq, sIf, sSet, sNext, sExpr, putE, mAndV, mOrV, mNotV, mIf, mAnd, mOr, mNot, mBl, ev_mB, mIsi, mV, mMv, isiD, oB, oI, bl?, outsE, mCall, mArs, takeSa, putSa, mChain, m2, g2, gI, mCB, A1, A2, mF, mCons, mNil, OV.frzL, mIxO, sSetIx, atI, ixN, lenD, lp, e]
end G

namespace G
open PySem PySem.Spec L2 DL
theorem rng_len (lo : Int) (n : Nat) : (rngD lo n).length = n := by simp [rngD]
theorem frzL_vals (ds : List Dt) : OV.frzL (ds.map .val) = some ds := frzL_map ds
theorem snoc_val (ns : List Dt) (d : Dt) : ns.map OV.val ++ [OV.val d] = (ns ++ [d]).map .val := by simp
theorem AllOk.snoc {c : Int} {ns : List Dt} {d : Dt} (h : AllOk c ns) (hd : NamedOk c d) : AllOk c (ns ++ [d]) := fun x hx => by
  rcases List.mem_append.mp hx with hx | hx
  · exact h x hx
  · rw [List.mem_singleton.mp hx]; exact hd
theorem needs_ok {s : OV} {c most : Int} {ds : List Dt} (hs : StOk s) (hd : AllOk c ds) (hl : ds.length < 1073741824) (h0 : 0 < c) (h1 : c < 1073741824) (q0 : 0 ≤ most) (q2 : most ≤ 2) :
    ∃ ns s', F__law_needs [s, vi most, .val (.list ds), vi c] = some (.rt (.val (.tuple ns)) [s']) ∧ AllOk c ns ∧ (ns.length : Int) ≤ most ∧ StOk s' := by
  obtain ⟨k, s1, e1, k0, k1, hs1⟩ := draw_ok (L := most + 1) hs (by omega) (by omega)
  have loop := lcLoop_inv (vs := [4]) (g := gN 4) (c := mR true) (elt := d__law_needs_e1)
    (fun rest acc env => ∃ s2 ns, acc = ns.map .val ∧ AllOk c ns ∧ ns.length + rest.length = k.toNat ∧ env = [some s2, some (vi most), some (.val (.list ds)), some (vi c), none] ∧ StOk s2)
    (rngD 0 k.toNat) [] [some s1, some (vi most), some (.val (.list ds)), some (vi c), none] ⟨s1, [], rfl, fun d h => (by cases h), by simp [rng_len], rfl, hs1⟩ (by
      rintro d rest acc env ⟨s2, ns, rfl, hn, hlen, rfl, hs2⟩
      obtain ⟨x, s3, e3, hx, hs3⟩ := name_ok hs2 hd hl h0 h1
      refine ⟨[some s2, some (vi most), some (.val (.list ds)), some (vi c), some (.val d)], by simp [gN, putE], .inr ⟨_, .val x, [some s3, some (vi most), some (.val (.list ds)), some (vi c), some (.val d)], rfl, ?_, ?_, ⟨s3, ns ++ [x], snoc_val ns x, hn.snoc hx, ?_, ?_, hs3⟩⟩⟩
      · simp [d__law_needs_e1, runDef, sRet, ev_sB, ev_sSeq, sIf, sSet, sNext, sExpr, putE, mAndV, mOrV, mNotV, mIf, mAnd, mOr, mNot, mBl, ev_mB, mIsi, mV, mMv, isiD, oB, oI, bl?, outsE, mCall, mArs, takeSa, putSa, mChain, m2, g2, gI, mCB, A1, A2, mF, mCons, mNil, OV.frzL, mIxO, sSetIx, atI, ixN, e3]
      · rw [List.length_cons] at hlen
        exact sz2 (by simp only [List.length_map]; omega)
      · rw [List.length_cons] at hlen
        simp only [List.length_append, List.length_singleton]; omega
      · simp [wipeE])
  obtain ⟨acc, env', e2, s2, ns, rfl, hn, hlen, rfl, hs2⟩ := loop
  refine ⟨ns, s2, ?_, hn, by simp at hlen; omega, hs2⟩
  have b1 : -4611686018427387904 ≤ k := by omega
  have b2 : k < 4611686018427387904 := by omega
  simp only [F__law_needs, d__law_needs]
  simp [runDef, sRet, ev_sB, ev_sSeq, sIf, sSet, sNext, sExpr, putE, mAndV, mOrV, mNotV, mIf, mAnd, mOr, mNot, mBl, ev_mB, mIsi, mV, mMv, isiD, oB, oI, bl?, outsE, mCall, mArs, takeSa, putSa, mChain, m2, g2, gI, mCB, A1, A2, mF, mCons, mNil, OV.frzL, mIxO, sSetIx, atI, ixN, addD, mLc, mRng1, e1, wipeE, restoreE, b1, b2, e2, tupleD]
/-! ### plans -/
def WD : List Str := ["give", "show", "load", "pass", "late", "out", "give", "show", "load", "pass", "late", "out", "give", "show", "load", "pass", "give"]
abbrev wdD : Dt := .list (WD.map .str)
def PlanOk (c : Int) (d : Dt) : Prop := ∃ (w n o : Str) (p : Int), d = .tuple [.str w, .str n, .int p, .str o] ∧ w ∈ WD ∧ n ∈ nm ∧ 0 ≤ p ∧ p < c ∧ o ∈ nm
def isOut : Dt → Bool
  | .tuple (.str w :: _) => w == "out"
  | _ => false
def cnt (ds : List Dt) : Nat := (ds.filter isOut).length
theorem cnt_snoc (ds : List Dt) (d : Dt) : cnt (ds ++ [d]) = cnt ds + if isOut d = true then 1 else 0 := by
  unfold cnt
  rw [List.filter_append, List.length_append]
  by_cases h : isOut d = true
  · simp [h]
  · simp [h]
def NmOk (z : Str) : Prop := 0 < z.length ∧ z.length ≤ 4 ∧ ∀ n : Nat, n < z.length → ∃ s ∈ nm, ixD (.str z) (.int n) = some (.val (.str s))
theorem nm_cut {k : Int} (h0 : 0 ≤ k) (h1 : k < 4) : ∃ z, slD (.str "abcd") none (some (1 + k)) = some (.val (.str z)) ∧ NmOk z := by
  have hb : ∀ z : Str, z ∈ (["a", "ab", "abc", "abcd"] : List Str) → NmOk z := fun z hz => by
    simp only [List.mem_cons, List.not_mem_nil, or_false] at hz
    rcases hz with rfl | rfl | rfl | rfl
    all_goals refine ⟨by decide +kernel, by decide +kernel, fun n hn => ?_⟩
    · have e : n = 0 := by have : (("a" : Str)).length = 1 := by decide +kernel
                           omega
      subst e
      exact ⟨"a", by decide, rfl⟩
    · have e : n = 0 ∨ n = 1 := by have : (("ab" : Str)).length = 2 := by decide +kernel
                                   omega
      rcases e with rfl | rfl
      · exact ⟨"a", by decide, rfl⟩
      · exact ⟨"b", by decide, rfl⟩
    · have e : n = 0 ∨ n = 1 ∨ n = 2 := by have : (("abc" : Str)).length = 3 := by decide +kernel
                                           omega
      rcases e with rfl | rfl | rfl
      · exact ⟨"a", by decide, rfl⟩
      · exact ⟨"b", by decide, rfl⟩
      · exact ⟨"c", by decide, rfl⟩
    · have e : n = 0 ∨ n = 1 ∨ n = 2 ∨ n = 3 := by have : (("abcd" : Str)).length = 4 := by decide +kernel
                                                   omega
      rcases e with rfl | rfl | rfl | rfl
      · exact ⟨"a", by decide, rfl⟩
      · exact ⟨"b", by decide, rfl⟩
      · exact ⟨"c", by decide, rfl⟩
      · exact ⟨"d", by decide, rfl⟩
  rcases cases4 h0 h1 with rfl | rfl | rfl | rfl
  · exact ⟨"a", rfl, hb _ (by decide)⟩
  · exact ⟨"ab", rfl, hb _ (by decide)⟩
  · exact ⟨"abc", rfl, hb _ (by decide)⟩
  · exact ⟨"abcd", rfl, hb _ (by decide)⟩
theorem nm_draw {s : OV} {z : Str} (hs : StOk s) (hz : NmOk z) : ∃ k n s', F__law_draw [s, vi z.length] = some (.rt (vi k) [s']) ∧ ixD (.str z) (.int k) = some (.val (.str n)) ∧ n ∈ nm ∧ StOk s' := by
  obtain ⟨z0, z4, zi⟩ := hz
  obtain ⟨k, s', e, k0, k1, hs'⟩ := draw_ok (L := z.length) hs (by omega) (by omega)
  obtain ⟨j, rfl⟩ : ∃ j : Nat, k = j := ⟨k.toNat, by omega⟩
  obtain ⟨n, hn, en⟩ := zi j (by omega)
  exact ⟨j, n, s', e, en, hn, hs'⟩
theorem wd_draw {s : OV} (hs : StOk s) : ∃ k w s', F__law_draw [s, vi 17] = some (.rt (vi k) [s']) ∧ ixD wdD (.int k) = some (.val (.str w)) ∧ w ∈ WD ∧ StOk s' := by
  obtain ⟨k, s', e, k0, k1, hs'⟩ := draw_ok (L := 17) hs (by decide) (by decide)
  obtain ⟨j, rfl⟩ : ∃ j : Nat, k = j := ⟨k.toNat, by omega⟩
  have hj : j < (WD.map PyData.str).length := by
    have : (WD.map PyData.str).length = 17 := by decide
    omega
  refine ⟨j, WD[j]'(by simpa using hj), s', e, ?_, List.getElem_mem _, hs'⟩
  rw [ixL hj]
  simp
end G

namespace G
open PySem PySem.Spec L2 DL
theorem plan_step {s : OV} {c left o : Int} {z : Str} {PL : List OV} {pt kk w1 w2 w3 : Option OV} {LN : List Dt} {c0 : Nat} (hs : StOk s) (h0 : 0 < c) (h1 : c < 1073741824) (hz : NmOk z) (ho : 0 ≤ o) (hc2 : c0 + cnt LN ≤ 2) (hco : ((c0 + cnt LN : Nat) : Int) ≤ o) (hl : LN.length < 1000) :
    ∃ s' d o' w1' w2' w3', d__law_plans_b1 [some s, some (vi c), some (.val (.str z)), some (.val wdD), some (.lst PL), some (vi left), some (vi o), pt, some (.lst (LN.map .val)), kk, w1, w2, w3] =
      some (.nx [some s', some (vi c), some (.val (.str z)), some (.val wdD), some (.lst PL), some (vi left), some (vi o'), pt, some (.lst ((LN ++ [d]).map .val)), kk, w1', w2', w3']) ∧ PlanOk c d ∧ StOk s' ∧ 0 ≤ o' ∧ c0 + cnt (LN ++ [d]) ≤ 2 ∧ ((c0 + cnt (LN ++ [d]) : Nat) : Int) ≤ o' := by
  obtain ⟨k1, w, s1, e1, x1, hw, hs1⟩ := wd_draw hs
  obtain ⟨k2, n, s2, e2, x2, hn, hs2⟩ := nm_draw hs1 hz
  obtain ⟨p, s3, e3, p0, p1, hs3⟩ := draw_ok hs2 h0 h1
  obtain ⟨k4, n4, s4, e4, x4, hn4, hs4⟩ := nm_draw hs3 hz
  have hzs : sz z.length = true := sz2 (by have := hz.2.1; omega)
  have hsl : sz (LN.length + 1) = true := sz2 (by omega)
  have hs44 : sz 4 = true := sz2 (by decide)
  by_cases hb : w = "out"
  · subst hb
    by_cases h3 : 2 < o + 1
    · refine ⟨s4, .tuple [.str "load", .str n, .int p, .str n4], o + 1, some (.val (.str "load")), some (.val (.str n)), some (vi p), ?_, ⟨"load", n, n4, p, rfl, by decide, hn, p0, p1, hn4⟩, hs4, by omega, ?_, ?_⟩
      · simp [d__law_plans_b1, runDef, sRet, ev_sB, ev_sSeq, sIf, sSet, sNext, sExpr, putE, mAndV, mOrV, mNotV, mIf, mAnd, mOr, mNot, mBl, ev_mB, mIsi, mV, mMv, isiD, oB, oI, bl?, outsE, mCall, mArs, takeSa, putSa, mChain, m2, g2, gI, mCB, A1, A2, mF, mCons, mNil, OV.frzL, mIxO, sSetIx, atI, ixN, mApp, mTup, addD, eqD, lowD, PyData.depth, PyData.eqv, lenD, e1, x1, e2, x2, e3, e4, x4, hzs, hsl, hs44, h3]
      · rw [cnt_snoc]
        have : isOut (.tuple [.str "load", .str n, .int p, .str n4]) = false := by show (("load" : Str) == "out") = false; decide
        simp [this]; exact hc2
      · rw [cnt_snoc]
        have : isOut (.tuple [.str "load", .str n, .int p, .str n4]) = false := by show (("load" : Str) == "out") = false; decide
        simp [this]; omega
    · refine ⟨s4, .tuple [.str "out", .str n, .int p, .str n4], o + 1, some (.val (.str "out")), some (.val (.str n)), some (vi p), ?_, ⟨"out", n, n4, p, rfl, by decide, hn, p0, p1, hn4⟩, hs4, by omega, ?_, ?_⟩
      · simp [d__law_plans_b1, runDef, sRet, ev_sB, ev_sSeq, sIf, sSet, sNext, sExpr, putE, mAndV, mOrV, mNotV, mIf, mAnd, mOr, mNot, mBl, ev_mB, mIsi, mV, mMv, isiD, oB, oI, bl?, outsE, mCall, mArs, takeSa, putSa, mChain, m2, g2, gI, mCB, A1, A2, mF, mCons, mNil, OV.frzL, mIxO, sSetIx, atI, ixN, mApp, mTup, addD, eqD, lowD, PyData.depth, PyData.eqv, lenD, e1, x1, e2, x2, e3, e4, x4, hzs, hsl, hs44, h3]
      · rw [cnt_snoc]
        have : isOut (.tuple [.str "out", .str n, .int p, .str n4]) = true := by show (("out" : Str) == "out") = true; decide
        simp [this]; omega
      · rw [cnt_snoc]
        have : isOut (.tuple [.str "out", .str n, .int p, .str n4]) = true := by show (("out" : Str) == "out") = true; decide
        simp [this]; omega
  · have hbf : (w == ("out" : Str)) = false := beq_eq_false_iff_ne.mpr hb
    refine ⟨s4, .tuple [.str w, .str n, .int p, .str n4], o, some (.val (.str w)), some (.val (.str n)), some (vi p), ?_, ⟨w, n, n4, p, rfl, hw, hn, p0, p1, hn4⟩, hs4, ho, ?_, ?_⟩
    · simp [d__law_plans_b1, runDef, sRet, ev_sB, ev_sSeq, sIf, sSet, sNext, sExpr, putE, mAndV, mOrV, mNotV, mIf, mAnd, mOr, mNot, mBl, ev_mB, mIsi, mV, mMv, isiD, oB, oI, bl?, outsE, mCall, mArs, takeSa, putSa, mChain, m2, g2, gI, mCB, A1, A2, mF, mCons, mNil, OV.frzL, mIxO, sSetIx, atI, ixN, mApp, mTup, addD, eqD, lowD, PyData.depth, PyData.eqv, lenD, e1, x1, e2, x2, e3, e4, x4, hzs, hsl, hs44, hb, hbf]
    · rw [cnt_snoc]
      have : isOut (.tuple [.str w, .str n, .int p, .str n4]) = false := hbf
      simp [this]; exact hc2
    · rw [cnt_snoc]
      have : isOut (.tuple [.str w, .str n, .int p, .str n4]) = false := hbf
      simp [this]; omega
def LineOk (c : Int) (ps : List Dt) : Prop := (∀ d ∈ ps, PlanOk c d) ∧ ps.length ≤ 5
def tot (ls : List (List Dt)) : Nat := (ls.map List.length).sum
def cnts (ls : List (List Dt)) : Nat := (ls.map cnt).sum
theorem tot_snoc (ls : List (List Dt)) (l : List Dt) : tot (ls ++ [l]) = tot ls + l.length := by simp [tot]
theorem cnts_snoc (ls : List (List Dt)) (l : List Dt) : cnts (ls ++ [l]) = cnts ls + cnt l := by simp [cnts]
abbrev lnO (ls : List (List Dt)) : List OV := ls.map fun ps => .val (.list ps)
theorem line_step {s : OV} {c left o : Int} {z : Str} {ls : List (List Dt)} {pt w8 w9 w10 w11 w12 : Option OV} (hs : StOk s) (h0 : 0 < c) (h1 : c < 1073741824) (hz : NmOk z) (ho : 0 ≤ o) (hc2 : cnts ls ≤ 2) (hco : ((cnts ls : Nat) : Int) ≤ o) (hl0 : 0 ≤ left) (hlt : left + tot ls = 12) (hll : ls.length < 1000) :
    ∃ s' l left' o' v8 v9 v10 v11 v12, d__law_plans_b2 [some s, some (vi c), some (.val (.str z)), some (.val wdD), some (.lst (lnO ls)), some (vi left), some (vi o), pt, w8, w9, w10, w11, w12] =
      some (.nx [some s', some (vi c), some (.val (.str z)), some (.val wdD), some (.lst (lnO (ls ++ [l]))), some (vi left'), some (vi o'), pt, v8, v9, v10, v11, v12]) ∧ LineOk c l ∧ StOk s' ∧ 0 ≤ o' ∧ cnts (ls ++ [l]) ≤ 2 ∧ ((cnts (ls ++ [l]) : Nat) : Int) ≤ o' ∧ 0 ≤ left' ∧ left' + tot (ls ++ [l]) = 12 := by
  obtain ⟨k, s1, e1, k0, k1, hs1⟩ := draw_ok (L := 6) hs (by decide) (by decide)
  have loop := loopS_inv (g := gN 9) (body := d__law_plans_b1)
    (fun rest env => ∃ s2 LN o2 w9 w10 w11 w12, env = [some s2, some (vi c), some (.val (.str z)), some (.val wdD), some (.lst (lnO ls)), some (vi left), some (vi o2), pt, some (.lst (LN.map .val)), w9, w10, w11, w12] ∧ StOk s2 ∧ 0 ≤ o2 ∧ cnts ls + cnt LN ≤ 2 ∧ ((cnts ls + cnt LN : Nat) : Int) ≤ o2 ∧ (∀ d ∈ LN, PlanOk c d) ∧ LN.length + rest.length = (if k < left then k else left).toNat)
    (rngD 0 (if k < left then k else left).toNat) [some s1, some (vi c), some (.val (.str z)), some (.val wdD), some (.lst (lnO ls)), some (vi left), some (vi o), pt, some (.lst []), w9, w10, w11, w12]
    ⟨s1, [], o, w9, w10, w11, w12, rfl, hs1, ho, by simpa [cnt] using hc2, by simpa [cnt] using hco, fun d h => (by cases h), by simp [rng_len]⟩ (by
      rintro d rest env ⟨s2, LN, o2, w9, w10, w11, w12, rfl, hs2, ho2, hc2', hco', hp, hlen⟩
      rw [List.length_cons] at hlen
      have hm : (if k < left then k else left).toNat ≤ 5 := by split <;> omega
      obtain ⟨s3, d', o3, w1', w2', w3', e3, hd', hs3, ho3, hc3, hco3⟩ := plan_step (PL := lnO ls) (pt := pt) (kk := some (.val d)) (w1 := w10) (w2 := w11) (w3 := w12) (left := left) hs2 h0 h1 hz ho2 hc2' hco' (by omega)
      refine ⟨[some s2, some (vi c), some (.val (.str z)), some (.val wdD), some (.lst (lnO ls)), some (vi left), some (vi o2), pt, some (.lst (LN.map .val)), some (.val d), w10, w11, w12], by simp [gN, putE], _, .inl e3, s3, LN ++ [d'], o3, some (.val d), w1', w2', w3', rfl, hs3, ho3, hc3, hco3, fun x hx => ?_, by simp only [List.length_append, List.length_singleton]; omega⟩
      rcases List.mem_append.mp hx with hx | hx
      · exact hp x hx
      · rw [List.mem_singleton.mp hx]; exact hd')
  obtain ⟨env', e2, s2, LN, o2, v9, v10, v11, v12, rfl, hs2, ho2, hc2', hco', hp, hlen⟩ := loop
  have hm : (if k < left then k else left).toNat ≤ 5 ∧ ((if k < left then k else left).toNat : Int) ≤ left := by split <;> omega
  simp only [List.length_nil, Nat.add_zero] at hlen
  refine ⟨s2, LN, left - LN.length, o2, some (.val (.list LN)), v9, v10, v11, v12, ?_, ⟨hp, by omega⟩, hs2, ho2, by rw [cnts_snoc]; exact hc2', by rw [cnts_snoc]; exact hco', by omega, by rw [tot_snoc]; omega⟩
  have b : -4611686018427387904 ≤ (if k < left then k else left) ∧ (if k < left then k else left) < 4611686018427387904 := by split <;> omega
  have hsz : sz (ls.length + 1) = true := sz2 (by omega)
  have hsz0 : sz 0 = true := sz2 (by decide)
  simp [d__law_plans_b2, runDef, sRet, ev_sB, ev_sSeq, sIf, sSet, sNext, sExpr, putE, mAndV, mOrV, mNotV, mIf, mAnd, mOr, mNot, mBl, ev_mB, mIsi, mV, mMv, isiD, oB, oI, bl?, outsE, mCall, mArs, takeSa, putSa, mChain, m2, g2, gI, mCB, A1, A2, mF, mCons, mNil, OV.frzL, mIxO, sSetIx, atI, ixN, sFor, mLstF, mRng1, min2D, e1, b, e2, mLenO, mApp, hsz, hsz0]
end G

namespace G
open PySem PySem.Spec L2 DL
@[simp] theorem w_load_load : (("load" : Str) == "load") = true := by decide
@[simp] theorem w_load_out : (("load" : Str) == "out") = false := by decide
@[simp] theorem w_load_pass : (("load" : Str) == "pass") = false := by decide
@[simp] theorem w_load_late : (("load" : Str) == "late") = false := by decide
@[simp] theorem w_load_give : (("load" : Str) == "give") = false := by decide
@[simp] theorem w_load_show : (("load" : Str) == "show") = false := by decide
@[simp] theorem w_out_load : (("out" : Str) == "load") = false := by decide
@[simp] theorem w_out_out : (("out" : Str) == "out") = true := by decide
@[simp] theorem w_out_pass : (("out" : Str) == "pass") = false := by decide
@[simp] theorem w_out_late : (("out" : Str) == "late") = false := by decide
@[simp] theorem w_out_give : (("out" : Str) == "give") = false := by decide
@[simp] theorem w_out_show : (("out" : Str) == "show") = false := by decide
@[simp] theorem w_pass_load : (("pass" : Str) == "load") = false := by decide
@[simp] theorem w_pass_out : (("pass" : Str) == "out") = false := by decide
@[simp] theorem w_pass_pass : (("pass" : Str) == "pass") = true := by decide
@[simp] theorem w_pass_late : (("pass" : Str) == "late") = false := by decide
@[simp] theorem w_pass_give : (("pass" : Str) == "give") = false := by decide
@[simp] theorem w_pass_show : (("pass" : Str) == "show") = false := by decide
@[simp] theorem w_late_load : (("late" : Str) == "load") = false := by decide
@[simp] theorem w_late_out : (("late" : Str) == "out") = false := by decide
@[simp] theorem w_late_pass : (("late" : Str) == "pass") = false := by decide
@[simp] theorem w_late_late : (("late" : Str) == "late") = true := by decide
@[simp] theorem w_late_give : (("late" : Str) == "give") = false := by decide
@[simp] theorem w_late_show : (("late" : Str) == "show") = false := by decide
@[simp] theorem w_give_load : (("give" : Str) == "load") = false := by decide
@[simp] theorem w_give_out : (("give" : Str) == "out") = false := by decide
@[simp] theorem w_give_pass : (("give" : Str) == "pass") = false := by decide
@[simp] theorem w_give_late : (("give" : Str) == "late") = false := by decide
@[simp] theorem w_give_give : (("give" : Str) == "give") = true := by decide
@[simp] theorem w_give_show : (("give" : Str) == "show") = false := by decide
@[simp] theorem w_show_load : (("show" : Str) == "load") = false := by decide
@[simp] theorem w_show_out : (("show" : Str) == "out") = false := by decide
@[simp] theorem w_show_pass : (("show" : Str) == "pass") = false := by decide
@[simp] theorem w_show_late : (("show" : Str) == "late") = false := by decide
@[simp] theorem w_show_give : (("show" : Str) == "give") = false := by decide
@[simp] theorem w_show_show : (("show" : Str) == "show") = true := by decide
theorem plans_ok {s : OV} {c : Int} (hs : StOk s) (h0 : 0 < c) (h1 : c ≤ 4) : ∃ (ls : List (List Dt)) (s' : OV), F__law_plans [s, vi c] = some (.rt (.lst (lnO ls)) [s']) ∧ (ls.length : Int) = c ∧ (∀ l ∈ ls, LineOk c l) ∧ tot ls ≤ 12 ∧ cnts ls ≤ 2 ∧ StOk s' := by
  obtain ⟨k, s1, e1, k0, k1, hs1⟩ := draw_ok (L := 4) hs (by decide) (by decide)
  obtain ⟨z, ez, hz⟩ := nm_cut k0 k1
  have loop := loopS_inv (g := gN 7) (body := d__law_plans_b2)
    (fun rest env => ∃ s2 ls left o w7 w8 w9 w10 w11 w12, env = [some s2, some (vi c), some (.val (.str z)), some (.val wdD), some (.lst (lnO ls)), some (vi left), some (vi o), w7, w8, w9, w10, w11, w12] ∧ StOk s2 ∧ 0 ≤ o ∧ cnts ls ≤ 2 ∧ ((cnts ls : Nat) : Int) ≤ o ∧ 0 ≤ left ∧ left + tot ls = 12 ∧ (∀ l ∈ ls, LineOk c l) ∧ ls.length + rest.length = c.toNat)
    (rngD 0 c.toNat) [some s1, some (vi c), some (.val (.str z)), some (.val wdD), some (.lst []), some (vi 12), some (vi 0), none, none, none, none, none, none]
    ⟨s1, [], 12, 0, none, none, none, none, none, none, rfl, hs1, by decide, by decide, by decide, by decide, by decide, fun d h => (by cases h), by simp [rng_len]⟩ (by
      rintro d rest env ⟨s2, ls, left, o, w7, w8, w9, w10, w11, w12, rfl, hs2, ho, hc2, hco, hl0, hlt, hok, hlen⟩
      rw [List.length_cons] at hlen
      obtain ⟨s3, l, left', o', v8, v9, v10, v11, v12, e3, hl, hs3, ho', hc2', hco', hl0', hlt'⟩ := line_step (pt := some (.val d)) (w8 := w8) (w9 := w9) (w10 := w10) (w11 := w11) (w12 := w12) hs2 h0 (by omega) hz ho hc2 hco hl0 hlt (by omega)
      refine ⟨[some s2, some (vi c), some (.val (.str z)), some (.val wdD), some (.lst (lnO ls)), some (vi left), some (vi o), some (.val d), w8, w9, w10, w11, w12], by simp [gN, putE], _, .inl e3, s3, ls ++ [l], left', o', some (.val d), v8, v9, v10, v11, v12, rfl, hs3, ho', hc2', hco', hl0', hlt', fun x hx => ?_, by simp only [List.length_append, List.length_singleton]; omega⟩
      rcases List.mem_append.mp hx with hx | hx
      · exact hok x hx
      · rw [List.mem_singleton.mp hx]; exact hl)
  obtain ⟨env', e2, s2, ls, left, o, w7, w8, w9, w10, w11, w12, rfl, hs2, ho, hc2, hco, hl0, hlt, hok, hlen⟩ := loop
  simp only [List.length_nil, Nat.add_zero] at hlen
  refine ⟨ls, s2, ?_, by omega, hok, by omega, hc2, hs2⟩
  have b1 : -4611686018427387904 ≤ c := by omega
  have b2 : c < 4611686018427387904 := by omega
  have z0 : sz 0 = true := sz2 (by decide)
  have z8 : sz 8 = true := sz2 (by decide)
  have z9 : sz 9 = true := sz2 (by decide)
  have z17 : sz 17 = true := sz2 (by decide)
  simp only [wdD, WD, List.map] at e2
  simp [F__law_plans, d__law_plans, runDef, sRet, ev_sB, ev_sSeq, sIf, sSet, sNext, sExpr, putE, mAndV, mOrV, mNotV, mIf, mAnd, mOr, mNot, mBl, ev_mB, mIsi, mV, mMv, isiD, oB, oI, bl?, outsE, mCall, mArs, takeSa, putSa, mChain, m2, g2, gI, mCB, A1, A2, mF, mCons, mNil, OV.frzL, mIxO, sSetIx, atI, ixN, OV.frz, sFor, mLstF, mRng1, mSl, mNoP, mP, addD, e1, ez, b1, b2, e2, z0, z8, z9, z17]
inductive RowOk (c : Int) : Dt → Prop
  | load (p : Int) : 0 ≤ p → p < c → RowOk c (.tuple [.str "load", .int p])
  | out : RowOk c (.tuple [.str "out"])
  | pass (n o : Str) (p : Int) : n ∈ nm → 0 ≤ p → p < c → o ∈ nm → RowOk c (.tuple [.str "pass", .str n, .int p, .str o])
  | late (n : Str) (p : Int) (ns : List Dt) : n ∈ nm → -1 ≤ p → p < c → AllOk c ns → ns.length ≤ 2 → RowOk c (.tuple [.str "late", .str n, .int p, .tuple ns])
  | give (n : Str) (ns : List Dt) (b : Bool) : n ∈ nm → AllOk c ns → ns.length ≤ 1 → RowOk c (.tuple [.str "give", .str n, .tuple ns, .bool b])
  | show (ns : List Dt) (b : Bool) : AllOk c ns → ns.length ≤ 2 → RowOk c (.tuple [.str "show", .tuple ns, .bool b])
theorem wd_cases : ∀ w ∈ WD, w = "load" ∨ w = "out" ∨ w = "pass" ∨ w = "late" ∨ w = "give" ∨ w = "show" := by decide
theorem isOut_str (w : Str) (r : List Dt) : isOut (.tuple (.str w :: r)) = (w == "out") := rfl
theorem row_ok {s : OV} {c : Int} {d : Dt} {ds : List Dt} (hs : StOk s) (hp : PlanOk c d) (hd : AllOk c ds) (hl : ds.length < 1073741824) (h0 : 0 < c) (h1 : c < 1073741824) :
    ∃ r s', F__law_row [s, .val d, .val (.list ds), vi c] = some (.rt (.val r) [s']) ∧ RowOk c r ∧ isOut r = isOut d ∧ StOk s' := by
  obtain ⟨w, n, o, p, rfl, hw, hn, p0, p1, ho⟩ := hp
  have z1 : sz 1 = true := sz2 (by decide)
  have z2 : sz 2 = true := sz2 (by decide)
  have z3 : sz 3 = true := sz2 (by decide)
  have z4 : sz 4 = true := sz2 (by decide)
  rcases wd_cases w hw with rfl | rfl | rfl | rfl | rfl | rfl
  · refine ⟨.tuple [.str "load", .int p], s, ?_, .load p p0 p1, rfl, hs⟩
    simp [F__law_row, d__law_row, runDef, sRet, ev_sB, ev_sSeq, sIf, sSet, sNext, sExpr, putE, mAndV, mOrV, mNotV, mIf, mAnd, mOr, mNot, mBl, ev_mB, mIsi, mV, mMv, isiD, oB, oI, bl?, outsE, mCall, mArs, takeSa, putSa, mChain, m2, g2, gI, mCB, A1, A2, mF, mCons, mNil, OV.frzL, mIxO, sSetIx, atI, ixN, OV.frz, sAsg, gT, gAll, gN, eqD, lowD, PyData.depth, PyData.eqv, mTup, z2]
  · refine ⟨.tuple [.str "out"], s, ?_, .out, rfl, hs⟩
    simp [F__law_row, d__law_row, runDef, sRet, ev_sB, ev_sSeq, sIf, sSet, sNext, sExpr, putE, mAndV, mOrV, mNotV, mIf, mAnd, mOr, mNot, mBl, ev_mB, mIsi, mV, mMv, isiD, oB, oI, bl?, outsE, mCall, mArs, takeSa, putSa, mChain, m2, g2, gI, mCB, A1, A2, mF, mCons, mNil, OV.frzL, mIxO, sSetIx, atI, ixN, OV.frz, sAsg, gT, gAll, gN, eqD, lowD, PyData.depth, PyData.eqv, mTup, z1]
  · refine ⟨.tuple [.str "pass", .str n, .int p, .str o], s, ?_, .pass n o p hn p0 p1 ho, rfl, hs⟩
    simp [F__law_row, d__law_row, runDef, sRet, ev_sB, ev_sSeq, sIf, sSet, sNext, sExpr, putE, mAndV, mOrV, mNotV, mIf, mAnd, mOr, mNot, mBl, ev_mB, mIsi, mV, mMv, isiD, oB, oI, bl?, outsE, mCall, mArs, takeSa, putSa, mChain, m2, g2, gI, mCB, A1, A2, mF, mCons, mNil, OV.frzL, mIxO, sSetIx, atI, ixN, OV.frz, sAsg, gT, gAll, gN, eqD, lowD, PyData.depth, PyData.eqv, mTup, z4]
  · obtain ⟨k, s1, e1, k0, k1, hs1⟩ := draw_ok (L := 3) hs (by decide) (by decide)
    obtain ⟨ns, s2, e2, hns, hlen, hs2⟩ := needs_ok (most := 2) hs1 hd hl h0 h1 (by decide) (by decide)
    by_cases hk : k = 0
    · subst hk
      refine ⟨.tuple [.str "late", .str n, .int (-1), .tuple ns], s2, ?_, .late n (-1) ns hn (by decide) (by omega) hns (by omega), rfl, hs2⟩
      simp [F__law_row, d__law_row, runDef, sRet, ev_sB, ev_sSeq, sIf, sSet, sNext, sExpr, putE, mAndV, mOrV, mNotV, mIf, mAnd, mOr, mNot, mBl, ev_mB, mIsi, mV, mMv, isiD, oB, oI, bl?, outsE, mCall, mArs, takeSa, putSa, mChain, m2, g2, gI, mCB, A1, A2, mF, mCons, mNil, OV.frzL, mIxO, sSetIx, atI, ixN, OV.frz, sAsg, gT, gAll, gN, eqD, lowD, PyData.depth, PyData.eqv, mTup, mNeg, z4, e1, e2]
    · refine ⟨.tuple [.str "late", .str n, .int p, .tuple ns], s2, ?_, .late n p ns hn (by omega) p1 hns (by omega), rfl, hs2⟩
      simp [F__law_row, d__law_row, runDef, sRet, ev_sB, ev_sSeq, sIf, sSet, sNext, sExpr, putE, mAndV, mOrV, mNotV, mIf, mAnd, mOr, mNot, mBl, ev_mB, mIsi, mV, mMv, isiD, oB, oI, bl?, outsE, mCall, mArs, takeSa, putSa, mChain, m2, g2, gI, mCB, A1, A2, mF, mCons, mNil, OV.frzL, mIxO, sSetIx, atI, ixN, OV.frz, sAsg, gT, gAll, gN, eqD, lowD, PyData.depth, PyData.eqv, mTup, mNeg, z4, e1, hk, e2]
  · obtain ⟨k, s1, e1, k0, k1, hs1⟩ := draw_ok (L := 3) hs (by decide) (by decide)
    obtain ⟨ns, s2, e2, hns, hlen, hs2⟩ := needs_ok (most := 1) hs1 hd hl h0 h1 (by decide) (by decide)
    refine ⟨.tuple [.str "give", .str n, .tuple ns, .bool (k == 0)], s2, ?_, .give n ns _ hn hns (by omega), rfl, hs2⟩
    simp [F__law_row, d__law_row, runDef, sRet, ev_sB, ev_sSeq, sIf, sSet, sNext, sExpr, putE, mAndV, mOrV, mNotV, mIf, mAnd, mOr, mNot, mBl, ev_mB, mIsi, mV, mMv, isiD, oB, oI, bl?, outsE, mCall, mArs, takeSa, putSa, mChain, m2, g2, gI, mCB, A1, A2, mF, mCons, mNil, OV.frzL, mIxO, sSetIx, atI, ixN, OV.frz, sAsg, gT, gAll, gN, eqD, lowD, PyData.depth, PyData.eqv, mTup, z4, e1, e2]
  · obtain ⟨k, s1, e1, k0, k1, hs1⟩ := draw_ok (L := 3) hs (by decide) (by decide)
    obtain ⟨ns, s2, e2, hns, hlen, hs2⟩ := needs_ok (most := 2) hs1 hd hl h0 h1 (by decide) (by decide)
    refine ⟨.tuple [.str "show", .tuple ns, .bool (k == 0)], s2, ?_, .show ns _ hns (by omega), rfl, hs2⟩
    simp [F__law_row, d__law_row, runDef, sRet, ev_sB, ev_sSeq, sIf, sSet, sNext, sExpr, putE, mAndV, mOrV, mNotV, mIf, mAnd, mOr, mNot, mBl, ev_mB, mIsi, mV, mMv, isiD, oB, oI, bl?, outsE, mCall, mArs, takeSa, putSa, mChain, m2, g2, gI, mCB, A1, A2, mF, mCons, mNil, OV.frzL, mIxO, sSetIx, atI, ixN, OV.frz, sAsg, gT, gAll, gN, eqD, lowD, PyData.depth, PyData.eqv, mTup, z3, e1, e2]
end G

namespace G
open PySem PySem.Spec L2 DL
/-! ### sorted(set(..)) -/
theorem nub_len : ∀ ks : List NestedKey, (nubK ks).length ≤ ks.length
  | [] => Nat.le_refl _
  | k :: ks => by
    unfold nubK
    have := nub_len ks
    split <;> simp only [List.length_cons] <;> omega
theorem nkeys_len : ∀ {ds : List Dt} {ks : List NestedKey}, NS.nkeys ds = some ks → ks.length = ds.length
  | [], _, e => by rw [NS.nkeys] at e; cases e; rfl
  | d :: ds, _, e => by
    obtain ⟨k, r, _, e2, rfl⟩ := NS.nkeys_cons e
    rw [List.length_cons, List.length_cons, nkeys_len e2]
theorem sorted_spec {ds es : List Dt} (hs : setD ds = some es) (al : ∀ x ∈ ds, ∀ y ∈ ds, PySem.W.alike x y = true) : (∀ d, d ∈ es.mergeSort NS.le0 ↔ d ∈ ds) ∧ (es.mergeSort NS.le0).Pairwise (fun a b => PySem.W.dataLt a b = true) ∧ (es.mergeSort NS.le0).length ≤ ds.length := by
  obtain ⟨a, nd, ky⟩ := setD_spec hs
  have pm := List.mergeSort_perm es NS.le0
  refine ⟨fun d => by rw [pm.mem_iff]; exact a d, ?_, ?_⟩
  · have pw := PySem.W.sort_pairwise (le := NS.le0) (PySem.W.sortLe_total _ _ _) es
    have nd2 : (es.mergeSort NS.le0).Nodup := pm.nodup_iff.mpr nd
    refine (List.Pairwise.and pw nd2).imp_of_mem fun {x y} hx hy h => ?_
    have mx := pm.mem_iff.mp hx
    have my := pm.mem_iff.mp hy
    obtain ⟨kx, ex⟩ := ky x mx
    obtain ⟨k2, ey⟩ := ky y my
    exact NS.le0_strict (al x ((a x).mp mx) y ((a y).mp my)) ex ey h.1 h.2
  · rw [pm.length_eq]
    unfold setD at hs
    cases q : NS.nkeys ds with
    | none => rw [q] at hs; cases hs
    | some ks =>
      rw [q] at hs
      cases hs
      rw [List.length_map, ← nkeys_len q]
      exact nub_len ks
theorem nkeys_ints : ∀ ns : List Int, NS.nkeys (ns.map .int) = some (ns.map .num)
  | [] => by rw [List.map_nil, NS.nkeys]; rfl
  | n :: ns => by rw [List.map_cons, NS.nkeys, NS.nkey, nkeys_ints ns]; rfl
theorem intsD_map : ∀ ns : List Int, intsD (ns.map .int) = some ns
  | [] => rfl
  | n :: ns => by rw [List.map_cons, intsD, intsD_map ns]; rfl
theorem sortInts_ok (ns : List Int) (h : ns.length < 64) : ∃ out : List Dt, sortSetD (.list (ns.map .int)) = some (.lst (out.map .val)) ∧ (∀ d, d ∈ out ↔ d ∈ ns.map PyData.int) ∧ out.Pairwise (fun a b => PySem.W.dataLt a b = true) ∧ out.length ≤ ns.length := by
  have hs : setD (ns.map .int) = some ((nubK (ns.map .num)).map NestedKey.data) := by unfold setD; rw [nkeys_ints]; rfl
  obtain ⟨a, b, c⟩ := sorted_spec hs (fun x hx y hy => by
    obtain ⟨i, _, rfl⟩ := List.mem_map.mp hx
    obtain ⟨j, _, rfl⟩ := List.mem_map.mp hy
    exact alike_int i j)
  refine ⟨_, ?_, a, b, by simpa using c⟩
  simp [sortSetD, intsD_map, hs, h]
theorem nkeys_all : ∀ {ds : List Dt}, (∀ d ∈ ds, ∃ k, NS.nkey d = some k) → ∃ ks, NS.nkeys ds = some ks
  | [], _ => ⟨[], by rw [NS.nkeys]⟩
  | d :: ds, h => by
    obtain ⟨k, hk⟩ := h d List.mem_cons_self
    obtain ⟨ks, e⟩ := nkeys_all fun x hx => h x (List.mem_cons_of_mem _ hx)
    exact ⟨k :: ks, by rw [NS.nkeys, hk, e]⟩
theorem sortNames_ok {c : Int} {ds : List Dt} (hd : AllOk c ds) (h : ds.length < 64) : ∃ out : List Dt, sortSetD (.list ds) = some (.lst (out.map .val)) ∧ (∀ d, d ∈ out ↔ d ∈ ds) ∧ out.Pairwise (fun a b => PySem.W.dataLt a b = true) ∧ out.length ≤ ds.length := by
  obtain ⟨ks, hk⟩ := nkeys_all (ds := ds) fun d hx => by
    obtain ⟨p, s, rfl, _⟩ := hd d hx
    exact ⟨.tup [.num p, .text s], by simp [NS.nkey, NS.nkeys]⟩
  have hs : setD ds = some ((nubK ks).map NestedKey.data) := by unfold setD; rw [hk]; rfl
  have al : ∀ x ∈ ds, ∀ y ∈ ds, PySem.W.alike x y = true := fun x hx y hy => by
    obtain ⟨p, s, rfl, _⟩ := hd x hx
    obtain ⟨p', s', rfl, _⟩ := hd y hy
    simp [PySem.W.alike, PySem.W.alikeAll]
  obtain ⟨a, b, l⟩ := sorted_spec hs al
  refine ⟨_, ?_, a, b, l⟩
  cases ds with
  | nil => simp [sortSetD, intsD, hs]
  | cons d0 r =>
    have hi : intsD (d0 :: r) = none := by
      obtain ⟨p, s, rfl, _⟩ := hd d0 List.mem_cons_self
      rfl
    have t1 : ((d0 :: r).all isTupD) = true := List.all_eq_true.mpr fun x hx => by
      obtain ⟨p, s, rfl, _⟩ := hd x hx
      rfl
    have t2 : ((d0 :: r).all fun x => (d0 :: r).all fun y => PySem.W.alike x y) = true := List.all_eq_true.mpr fun x hx => List.all_eq_true.mpr fun y hy => al x hx y hy
    have t3 : ((d0 :: r).all fun x => decide (x.depth ≤ 8)) = true := List.all_eq_true.mpr fun x hx => by
      obtain ⟨p, s, rfl, _⟩ := hd x hx
      simp [PyData.depth, PyData.depthAll]
    unfold sortSetD
    simp only [hi, hs, t1, t2, t3, decide_eq_true h, Bool.and_self, if_true]
end G

namespace G
open PySem PySem.Spec L2 DL
theorem comp_gen {v : Nat} {elt : M OV} (P : Dt → Prop) (J : DL.Env → Prop) (ds : List Dt) (hds : ds.length ≤ 1000)
    (step : ∀ d ∈ ds, ∀ env, J env → v < env.length ∧ ∃ x env', elt (env.set v (some (.val d))) = some (.ok (.val x) env') ∧ P x ∧ J (env'.set v none)) (env : DL.Env) (h : J env) :
    ∃ (xs : List Dt) (env' : DL.Env), lcLoop [v] (gN v) (mR true) elt ds [] env = some (xs.map .val, env') ∧ xs.length = ds.length ∧ (∀ x ∈ xs, P x) ∧ J env' := by
  have loop := lcLoop_inv (vs := [v]) (g := gN v) (c := mR true) (elt := elt)
    (fun rest acc env => ∃ xs : List Dt, acc = xs.map .val ∧ xs.length + rest.length = ds.length ∧ (∀ x ∈ xs, P x) ∧ J env ∧ ∀ d ∈ rest, d ∈ ds)
    ds [] env ⟨[], rfl, by simp, fun x hx => (by cases hx), h, fun d hd => hd⟩ (by
      rintro d rest acc env ⟨xs, rfl, hlen, hP, hJ, hsub⟩
      obtain ⟨hv, x, env', e, hx, hJ'⟩ := step d (hsub d List.mem_cons_self) env hJ
      rw [List.length_cons] at hlen
      refine ⟨env.set v (some (.val d)), by simp [gN, putE, hv], .inr ⟨_, .val x, env', rfl, e, sz2 (by rw [List.length_map]; omega), xs ++ [x], snoc_val xs x, by simp only [List.length_append, List.length_singleton]; omega, fun y hy => ?_, hJ', fun y hy => hsub y (List.mem_cons_of_mem _ hy)⟩⟩
      rcases List.mem_append.mp hy with hy | hy
      · exact hP y hy
      · rw [List.mem_singleton.mp hy]; exact hx)
  obtain ⟨acc, env', e, xs, rfl, hlen, hP, hJ, _⟩ := loop
  exact ⟨xs, env', e, by simpa using hlen, hP, hJ⟩
abbrev lsD (ls : List (List Dt)) : Dt := .list (ls.map .list)
theorem frz_lnO (ls : List (List Dt)) : (OV.lst (lnO ls)).frz = some (lsD ls) := by
  have e : lnO ls = (ls.map PyData.list).map .val := by simp [lnO]
  rw [e, frz_lst]
theorem rng_mem {n : Nat} {d : Dt} (h : d ∈ rngD 0 n) : ∃ j : Nat, d = .int j ∧ j < n := by
  unfold rngD at h
  obtain ⟨j, hj, rfl⟩ := List.mem_map.mp h
  exact ⟨j, by simp, List.mem_range.mp hj⟩
theorem given_step {c : Int} {d : Dt} {G : List Dt} {p : Int} {w0 w1 w2 w5 w6 w7 w8 w9 w11 : Option OV} (hd : PlanOk c d) (p0 : 0 ≤ p) (p1 : p < c) (hG : AllOk c G) (hl : G.length < 1000) :
    ∃ G' : List Dt, d__law_program_b1 [w0, w1, w2, some (.lst (G.map .val)), some (vi p), w5, w6, w7, w8, w9, some (.val d), w11] = some (.nx [w0, w1, w2, some (.lst (G'.map .val)), some (vi p), w5, w6, w7, w8, w9, some (.val d), w11]) ∧ AllOk c G' ∧ G'.length ≤ G.length + 1 := by
  obtain ⟨w, n, o, q, rfl, hw, hn, q0, q1, ho⟩ := hd
  have z3 : sz 3 = true := sz2 (by decide)
  have z2 : sz 2 = true := sz2 (by decide)
  have zl : sz (G.length + 1) = true := sz2 (by omega)
  by_cases hb : (("give" : Str) == w || (("pass" : Str) == w || ("late" : Str) == w)) = true
  · refine ⟨G ++ [.tuple [.int p, .str n]], ?_, hG.snoc ⟨p, n, rfl, p0, p1, hn⟩, by simp⟩
    simp [d__law_program_b1, runDef, sRet, ev_sB, ev_sSeq, sIf, sSet, sNext, sExpr, putE, mAndV, mOrV, mNotV, mIf, mAnd, mOr, mNot, mBl, ev_mB, mIsi, mV, mMv, isiD, oB, oI, bl?, outsE, mCall, mArs, takeSa, putSa, mChain, m2, g2, gI, mCB, A1, A2, mF, mCons, mNil, OV.frzL, mIxO, sSetIx, atI, ixN, OV.frz, ixD, mLstF, inD, lowD, PyData.depth, PyData.depthAll, PyData.eqv, mApp, mTup, z2, z3, zl, hb]
  · refine ⟨G, ?_, hG, by omega⟩
    have hb' : ¬ (("give" : Str) == w) = true ∧ ¬ (("pass" : Str) == w) = true ∧ ¬ (("late" : Str) == w) = true := by
      simp only [Bool.or_eq_true, not_or] at hb
      exact ⟨hb.1, hb.2.1, hb.2.2⟩
    simp [d__law_program_b1, runDef, sRet, ev_sB, ev_sSeq, sIf, sSet, sNext, sExpr, putE, mAndV, mOrV, mNotV, mIf, mAnd, mOr, mNot, mBl, ev_mB, mIsi, mV, mMv, isiD, oB, oI, bl?, outsE, mCall, mArs, takeSa, putSa, mChain, m2, g2, gI, mCB, A1, A2, mF, mCons, mNil, OV.frzL, mIxO, sSetIx, atI, ixN, OV.frz, ixD, mLstF, inD, lowD, PyData.depth, PyData.depthAll, PyData.eqv, mApp, mTup, z2, z3, zl, hb'.1, hb'.2.1, hb'.2.2]
theorem given_line {c : Int} {ls : List (List Dt)} {G : List Dt} {p : Nat} {w0 w1 w5 w6 w7 w8 w9 w10 w11 : Option OV} (hok : ∀ l ∈ ls, LineOk c l) (p1 : (p : Int) < c) (hp : p < ls.length) (hG : AllOk c G) (hl : G.length ≤ 100) :
    ∃ (G' : List Dt) (v10 : Option OV), d__law_program_b2 [w0, w1, some (.val (lsD ls)), some (.lst (G.map .val)), some (vi p), w5, w6, w7, w8, w9, w10, w11] = some (.nx [w0, w1, some (.val (lsD ls)), some (.lst (G'.map .val)), some (vi p), w5, w6, w7, w8, w9, v10, w11]) ∧ AllOk c G' ∧ G'.length ≤ G.length + 5 := by
  have hlm : ls[p] ∈ ls := List.getElem_mem hp
  obtain ⟨hpl, h5⟩ := hok _ hlm
  have loop := loopS_inv (g := gN 10) (body := d__law_program_b1)
    (fun rest env => ∃ (G' : List Dt) (v10 : Option OV), env = [w0, w1, some (.val (lsD ls)), some (.lst (G'.map .val)), some (vi p), w5, w6, w7, w8, w9, v10, w11] ∧ AllOk c G' ∧ G'.length + rest.length ≤ G.length + ls[p].length ∧ ∀ d ∈ rest, PlanOk c d)
    ls[p] [w0, w1, some (.val (lsD ls)), some (.lst (G.map .val)), some (vi p), w5, w6, w7, w8, w9, w10, w11] ⟨G, w10, rfl, hG, by omega, hpl⟩ (by
      rintro d rest env ⟨G', v10, rfl, hG', hlen, hr⟩
      rw [List.length_cons] at hlen
      obtain ⟨G2, e2, hG2, hl2⟩ := given_step (p := p) (w0 := w0) (w1 := w1) (w2 := some (.val (lsD ls))) (w5 := w5) (w6 := w6) (w7 := w7) (w8 := w8) (w9 := w9) (w11 := w11) (hr d List.mem_cons_self) (by omega) p1 hG' (by omega)
      exact ⟨[w0, w1, some (.val (lsD ls)), some (.lst (G'.map .val)), some (vi p), w5, w6, w7, w8, w9, some (.val d), w11], by simp [gN, putE], _, .inl e2, G2, some (.val d), rfl, hG2, by omega, fun x hx => hr x (List.mem_cons_of_mem _ hx)⟩)
  obtain ⟨env', e, G', v10, rfl, hG', hlen, _⟩ := loop
  simp only [List.length_nil, Nat.add_zero] at hlen
  refine ⟨G', v10, ?_, hG', by omega⟩
  have hix : ixD (lsD ls) (.int p) = some (.val (.list ls[p])) := by
    have := ixL (ds := ls.map PyData.list) (n := p) (by simpa using hp)
    simpa using this
  simp [d__law_program_b2, runDef, sRet, ev_sB, ev_sSeq, sIf, sSet, sNext, sExpr, putE, mAndV, mOrV, mNotV, mIf, mAnd, mOr, mNot, mBl, ev_mB, mIsi, mV, mMv, isiD, oB, oI, bl?, outsE, mCall, mArs, takeSa, putSa, mChain, m2, g2, gI, mCB, A1, A2, mF, mCons, mNil, OV.frzL, mIxO, sSetIx, atI, ixN, OV.frz, sFor, mIt, DL.items?, hix, e]
def Gv (G : List Dt) (g : OV) : Prop := g = .lst (G.map .val) ∨ g = .val (.list G)
abbrev rwO (rs : List (List Dt)) : List OV := rs.map fun r => .val (.tuple r)
theorem row_line {c : Int} {l : List Dt} {G : List Dt} {rs : List (List Dt)} {s g : OV} {w2 w4 w7 w8 w9 w10 w11 : Option OV} (hs : StOk s) (hg : Gv G g) (hG : AllOk c G) (hGl : G.length < 1000) (h0 : 0 < c) (h1 : c ≤ 4) (hl : LineOk c l) (hrs : rs.length < 1000) :
    ∃ (s' g' : OV) (r : List Dt), d__law_program_b3 [some s, some (vi c), w2, some g, w4, some (.lst (rwO rs)), some (.val (.list l)), w7, w8, w9, w10, w11] = some (.nx [some s', some (vi c), w2, some g', w4, some (.lst (rwO (rs ++ [r]))), some (.val (.list l)), w7, w8, w9, w10, w11]) ∧
      StOk s' ∧ Gv G g' ∧ (∀ x ∈ r, RowOk c x) ∧ r.length = l.length ∧ cnt r = cnt l := by
  obtain ⟨hp, h5⟩ := hl
  have loop := lcLoop_inv (vs := [10]) (g := gN 10) (c := mR true) (elt := d__law_program_e1)
    (fun rest acc env => ∃ (s2 gg2 : OV) (r done : List Dt), acc = r.map .val ∧ l = done ++ rest ∧ r.length = done.length ∧ cnt r = cnt done ∧ (∀ x ∈ r, RowOk c x) ∧ StOk s2 ∧ Gv G gg2 ∧ env = [some s2, some (vi c), w2, some gg2, w4, some (.lst (rwO rs)), some (.val (.list l)), w7, w8, w9, none, w11])
    l [] [some s, some (vi c), w2, some g, w4, some (.lst (rwO rs)), some (.val (.list l)), w7, w8, w9, none, w11] ⟨s, g, [], [], rfl, rfl, rfl, rfl, fun x hx => (by cases hx), hs, hg, rfl⟩ (by
      rintro d rest acc env ⟨s2, gg2, r, done, rfl, hd, hlen, hcn, hr, hs2, hg2, rfl⟩
      have hmem : d ∈ l := by rw [hd]; exact List.mem_append_right _ List.mem_cons_self
      obtain ⟨x, s3, e3, hx, hio, hs3⟩ := row_ok hs2 (hp d hmem) hG (by omega) h0 (by omega)
      have hlr : r.length ≤ 5 := by
        have := congrArg List.length hd
        rw [List.length_append, List.length_cons] at this
        omega
      refine ⟨[some s2, some (vi c), w2, some gg2, w4, some (.lst (rwO rs)), some (.val (.list l)), w7, w8, w9, some (.val d), w11], by simp [gN, putE], .inr ⟨_, .val x, [some s3, some (vi c), w2, some (.val (.list G)), w4, some (.lst (rwO rs)), some (.val (.list l)), w7, w8, w9, some (.val d), w11], rfl, ?_, sz2 (by rw [List.length_map]; omega),
        s3, .val (.list G), r ++ [x], done ++ [d], snoc_val r x, by rw [hd]; simp, by simp [hlen], by rw [cnt_snoc, cnt_snoc, hcn, hio], fun y hy => ?_, hs3, .inr rfl, by simp [wipeE]⟩⟩
      · rcases hg2 with rfl | rfl
        · simp [d__law_program_e1, runDef, sRet, ev_sB, ev_sSeq, sIf, sSet, sNext, sExpr, putE, mAndV, mOrV, mNotV, mIf, mAnd, mOr, mNot, mBl, ev_mB, mIsi, mV, mMv, isiD, oB, oI, bl?, outsE, mCall, mArs, takeSa, putSa, mChain, m2, g2, gI, mCB, A1, A2, mF, mCons, mNil, OV.frzL, mIxO, sSetIx, atI, ixN, OV.frz, e3]
        · simp [d__law_program_e1, runDef, sRet, ev_sB, ev_sSeq, sIf, sSet, sNext, sExpr, putE, mAndV, mOrV, mNotV, mIf, mAnd, mOr, mNot, mBl, ev_mB, mIsi, mV, mMv, isiD, oB, oI, bl?, outsE, mCall, mArs, takeSa, putSa, mChain, m2, g2, gI, mCB, A1, A2, mF, mCons, mNil, OV.frzL, mIxO, sSetIx, atI, ixN, OV.frz, e3]
      · rcases List.mem_append.mp hy with hy | hy
        · exact hr y hy
        · rw [List.mem_singleton.mp hy]; exact hx)
  obtain ⟨acc, env', e, s2, gg2, r, done, rfl, hd, hlen, hcn, hr, hs2, hg2, rfl⟩ := loop
  rw [List.append_nil] at hd
  subst hd
  refine ⟨s2, gg2, r, ?_, hs2, hg2, hr, hlen, hcn⟩
  have zr : sz (rs.length + 1) = true := sz2 (by omega)
  simp [d__law_program_b3, runDef, sRet, ev_sB, ev_sSeq, sIf, sSet, sNext, sExpr, putE, mAndV, mOrV, mNotV, mIf, mAnd, mOr, mNot, mBl, ev_mB, mIsi, mV, mMv, isiD, oB, oI, bl?, outsE, mCall, mArs, takeSa, putSa, mChain, m2, g2, gI, mCB, A1, A2, mF, mCons, mNil, OV.frzL, mIxO, sSetIx, atI, ixN, OV.frz, mLc, mIt, DL.items?, wipeE, restoreE, e, tupleD, mApp, zr]
end G

namespace G
open PySem PySem.Spec L2 DL
structure ProgOk (c : Int) (rs : List (List Dt)) (bs : List Bool) (es os : List Dt) : Prop where
  c0 : 0 < c
  c4 : c ≤ 4
  len : (rs.length : Int) = c
  rows : ∀ r ∈ rs, (∀ x ∈ r, RowOk c x) ∧ r.length ≤ 5
  tot12 : tot rs ≤ 12
  outs : cnts rs ≤ 2
  bl : (bs.length : Int) = c
  ent : ∀ d ∈ es, ∃ p : Int, d = .int p ∧ 0 ≤ p ∧ p < c
  entA : es.Pairwise fun a b => PySem.W.dataLt a b = true
  ent1 : 1 ≤ es.length
  ent3 : es.length ≤ 3
  opn : AllOk c os
  opnA : os.Pairwise fun a b => PySem.W.dataLt a b = true
  opn4 : os.length ≤ 4
abbrev progD (rs : List (List Dt)) (bs : List Bool) (es os : List Dt) : Dt := .tuple [.tuple (rs.map .tuple), .tuple (bs.map .bool), .tuple es, .tuple os]
theorem frz_rwO (rs : List (List Dt)) : (OV.lst (rwO rs)).frz = some (.list (rs.map .tuple)) := by
  have e : rwO rs = (rs.map PyData.tuple).map .val := by simp [rwO]
  rw [e, frz_lst]
theorem bools_of {xs : List Dt} (h : ∀ x ∈ xs, ∃ b : Bool, x = .bool b) : ∃ bs : List Bool, xs = bs.map .bool := by
  induction xs with
  | nil => exact ⟨[], rfl⟩
  | cons x xs ih =>
    obtain ⟨b, rfl⟩ := h x List.mem_cons_self
    obtain ⟨bs, rfl⟩ := ih fun y hy => h y (List.mem_cons_of_mem _ hy)
    exact ⟨b :: bs, rfl⟩
theorem ints_of {P : Int → Prop} {xs : List Dt} (h : ∀ x ∈ xs, ∃ b : Int, x = .int b ∧ P b) : ∃ bs : List Int, xs = bs.map .int ∧ ∀ b ∈ bs, P b := by
  induction xs with
  | nil => exact ⟨[], rfl, fun b hb => (by cases hb)⟩
  | cons x xs ih =>
    obtain ⟨b, rfl, hb⟩ := h x List.mem_cons_self
    obtain ⟨bs, rfl, hbs⟩ := ih fun y hy => h y (List.mem_cons_of_mem _ hy)
    exact ⟨b :: bs, rfl, fun y hy => by
      rcases List.mem_cons.mp hy with rfl | hy
      · exact hb
      · exact hbs y hy⟩
theorem given_all {c : Int} {ls : List (List Dt)} {w0 w1 w4 w5 w6 w7 w8 w9 w10 w11 : Option OV} (hok : ∀ l ∈ ls, LineOk c l) (hc : (ls.length : Int) = c) (c4 : c ≤ 4) :
    ∃ (G : List Dt) (v4 v10 : Option OV), loopS (gN 4) d__law_program_b2 (rngD 0 c.toNat) [w0, w1, some (.val (lsD ls)), some (.lst []), w4, w5, w6, w7, w8, w9, w10, w11] = some (.nx [w0, w1, some (.val (lsD ls)), some (.lst (G.map .val)), v4, w5, w6, w7, w8, w9, v10, w11]) ∧ AllOk c G ∧ G.length ≤ 20 := by
  have loop := loopS_inv (g := gN 4) (body := d__law_program_b2)
    (fun rest env => ∃ (G : List Dt) (v4 v10 : Option OV), env = [w0, w1, some (.val (lsD ls)), some (.lst (G.map .val)), v4, w5, w6, w7, w8, w9, v10, w11] ∧ AllOk c G ∧ G.length + 5 * rest.length ≤ 5 * c.toNat ∧ ∀ d ∈ rest, ∃ j : Nat, d = .int j ∧ j < c.toNat)
    (rngD 0 c.toNat) [w0, w1, some (.val (lsD ls)), some (.lst []), w4, w5, w6, w7, w8, w9, w10, w11] ⟨[], w4, w10, rfl, fun d h => (by cases h), by simp [rng_len], fun d hd => rng_mem hd⟩ (by
      rintro d rest env ⟨G, v4, v10, rfl, hG, hlen, hr⟩
      rw [List.length_cons] at hlen
      obtain ⟨j, rfl, hj⟩ := hr d List.mem_cons_self
      obtain ⟨G', v10', e, hG', hl'⟩ := given_line (w0 := w0) (w1 := w1) (w5 := w5) (w6 := w6) (w7 := w7) (w8 := w8) (w9 := w9) (w10 := v10) (w11 := w11) (p := j) hok (by omega) (by omega) hG (by omega)
      exact ⟨[w0, w1, some (.val (lsD ls)), some (.lst (G.map .val)), some (vi j), w5, w6, w7, w8, w9, v10, w11], by simp [gN, putE], _, .inl e, G', some (vi j), v10', rfl, hG', by omega, fun x hx => hr x (List.mem_cons_of_mem _ hx)⟩)
  obtain ⟨env', e, G, v4, v10, rfl, hG, hlen, _⟩ := loop
  exact ⟨G, v4, v10, e, hG, by simp at hlen; omega⟩
theorem parts_all {c : Int} {ls : List (List Dt)} {G : List Dt} {s g : OV} {w2 w4 w6 w7 w8 w9 w10 w11 : Option OV} (hs : StOk s) (hg : Gv G g) (hG : AllOk c G) (hGl : G.length < 1000) (hok : ∀ l ∈ ls, LineOk c l) (hc : (ls.length : Int) = c) (c0 : 0 < c) (c4 : c ≤ 4) :
    ∃ (s' g' : OV) (rs : List (List Dt)) (v6 : Option OV), loopS (gN 6) d__law_program_b3 (ls.map .list) [some s, some (vi c), w2, some g, w4, some (.lst []), w6, w7, w8, w9, w10, w11] = some (.nx [some s', some (vi c), w2, some g', w4, some (.lst (rwO rs)), v6, w7, w8, w9, w10, w11]) ∧
      StOk s' ∧ Gv G g' ∧ rs.length = ls.length ∧ tot rs = tot ls ∧ cnts rs = cnts ls ∧ ∀ r ∈ rs, (∀ x ∈ r, RowOk c x) ∧ r.length ≤ 5 := by
  have loop := loopS_inv (g := gN 6) (body := d__law_program_b3)
    (fun rest env => ∃ (s2 gg : OV) (rs done restl : List (List Dt)) (v6 : Option OV), env = [some s2, some (vi c), w2, some gg, w4, some (.lst (rwO rs)), v6, w7, w8, w9, w10, w11] ∧ ls = done ++ restl ∧ rest = restl.map .list ∧ rs.length = done.length ∧ tot rs = tot done ∧ cnts rs = cnts done ∧ (∀ r ∈ rs, (∀ x ∈ r, RowOk c x) ∧ r.length ≤ 5) ∧ StOk s2 ∧ Gv G gg)
    (ls.map .list) [some s, some (vi c), w2, some g, w4, some (.lst []), w6, w7, w8, w9, w10, w11] ⟨s, g, [], [], ls, w6, rfl, rfl, rfl, rfl, rfl, rfl, fun r h => (by cases h), hs, hg⟩ (by
      rintro d rest env ⟨s2, gg, rs, done, restl, v6, rfl, hls, hrest, hlen, ht, hcn, hr, hs2, hgg⟩
      cases restl with
      | nil => cases hrest
      | cons l restl =>
        rw [List.map_cons, List.cons.injEq] at hrest
        obtain ⟨rfl, rfl⟩ := hrest
        have hl : LineOk c l := hok l (by rw [hls]; exact List.mem_append_right _ List.mem_cons_self)
        have hll : rs.length < 1000 := by
          have := congrArg List.length hls
          rw [List.length_append, List.length_cons] at this
          omega
        obtain ⟨s3, g3, r, e, hs3, hg3, hrr, hrl, hrc⟩ := row_line (w2 := w2) (w4 := w4) (w7 := w7) (w8 := w8) (w9 := w9) (w10 := w10) (w11 := w11) hs2 hgg hG hGl c0 c4 hl hll
        refine ⟨[some s2, some (vi c), w2, some gg, w4, some (.lst (rwO rs)), some (.val (.list l)), w7, w8, w9, w10, w11], by simp [gN, putE], _, .inl e, s3, g3, rs ++ [r], done ++ [l], restl, some (.val (.list l)), rfl, by rw [hls]; simp, rfl, by simp [hlen], by rw [tot_snoc, tot_snoc, ht, hrl], by rw [cnts_snoc, cnts_snoc, hcn, hrc], fun x hx => ?_, hs3, hg3⟩
        rcases List.mem_append.mp hx with hx | hx
        · exact hr x hx
        · rw [List.mem_singleton.mp hx]; exact ⟨hrr, by rw [hrl]; exact hl.2⟩)
  obtain ⟨env', e, s2, gg, rs, done, restl, v6, rfl, hls, hrest, hlen, ht, hcn, hr, hs2, hgg⟩ := loop
  have hn : restl = [] := by
    cases restl with
    | nil => rfl
    | cons _ _ => cases hrest
  subst hn
  rw [List.append_nil] at hls
  subst hls
  exact ⟨s2, gg, rs, v6, e, hs2, hgg, hlen, ht, hcn, hr⟩
theorem marks_all {c : Int} {s : OV} {w1 w2 w3 w5 w6 w7 w8 w9 w10 w11 : Option OV} (hs : StOk s) (c0 : 0 < c) (c4 : c ≤ 4) :
    ∃ (s' : OV) (bs : List Bool), lcLoop [4] (gN 4) (mR true) d__law_program_e2 (rngD 0 c.toNat) [] [some s, w1, w2, w3, none, w5, w6, w7, w8, w9, w10, w11] = some ((bs.map PyData.bool).map .val, [some s', w1, w2, w3, none, w5, w6, w7, w8, w9, w10, w11]) ∧ StOk s' ∧ (bs.length : Int) = c := by
  obtain ⟨xs, env', e, hl, hx, s2, rfl, hs2⟩ := comp_gen (v := 4) (elt := d__law_program_e2) (fun x => ∃ b : Bool, x = .bool b) (fun env => ∃ s2, env = [some s2, w1, w2, w3, none, w5, w6, w7, w8, w9, w10, w11] ∧ StOk s2) (rngD 0 c.toNat) (by rw [rng_len]; omega) (by
    rintro d hd env ⟨s2, rfl, hs2⟩
    obtain ⟨k, s3, e3, _, _, hs3⟩ := draw_ok (L := 2) hs2 (by decide) (by decide)
    refine ⟨by simp, .bool (k == 1), [some s3, w1, w2, w3, some (.val d), w5, w6, w7, w8, w9, w10, w11], ?_, ⟨_, rfl⟩, s3, by simp, hs3⟩
    simp [d__law_program_e2, runDef, sRet, ev_sB, ev_sSeq, sIf, sSet, sNext, sExpr, putE, mAndV, mOrV, mNotV, mIf, mAnd, mOr, mNot, mBl, ev_mB, mIsi, mV, mMv, isiD, oB, oI, bl?, outsE, mCall, mArs, takeSa, putSa, mChain, m2, g2, gI, mCB, A1, A2, mF, mCons, mNil, OV.frzL, mIxO, sSetIx, atI, ixN, eqD, lowD, PyData.depth, PyData.eqv, e3]) _ ⟨s, rfl, hs⟩
  obtain ⟨bs, rfl⟩ := bools_of hx
  exact ⟨s2, bs, e, hs2, by simp [rng_len] at hl; omega⟩
theorem ents_all {c : Int} {s : OV} {n : Nat} {w2 w3 w4 w5 w6 w7 w8 w9 w10 : Option OV} (hs : StOk s) (c0 : 0 < c) (c4 : c ≤ 4) (hn : n ≤ 1000) :
    ∃ (s' : OV) (is : List Int), lcLoop [11] (gN 11) (mR true) d__law_program_e3 (rngD 0 n) [] [some s, some (vi c), w2, w3, w4, w5, w6, w7, w8, w9, w10, none] = some ((is.map PyData.int).map .val, [some s', some (vi c), w2, w3, w4, w5, w6, w7, w8, w9, w10, none]) ∧ StOk s' ∧ is.length = n ∧ ∀ i ∈ is, 0 ≤ i ∧ i < c := by
  obtain ⟨xs, env', e, hl, hx, s2, rfl, hs2⟩ := comp_gen (v := 11) (elt := d__law_program_e3) (fun x => ∃ b : Int, x = .int b ∧ (0 ≤ b ∧ b < c)) (fun env => ∃ s2, env = [some s2, some (vi c), w2, w3, w4, w5, w6, w7, w8, w9, w10, none] ∧ StOk s2) (rngD 0 n) (by rw [rng_len]; omega) (by
    rintro d hd env ⟨s2, rfl, hs2⟩
    obtain ⟨k, s3, e3, k0, k1, hs3⟩ := draw_ok (L := c) hs2 c0 (by omega)
    refine ⟨by simp, .int k, [some s3, some (vi c), w2, w3, w4, w5, w6, w7, w8, w9, w10, some (.val d)], ?_, ⟨k, rfl, k0, k1⟩, s3, by simp, hs3⟩
    simp [d__law_program_e3, runDef, sRet, ev_sB, ev_sSeq, sIf, sSet, sNext, sExpr, putE, mAndV, mOrV, mNotV, mIf, mAnd, mOr, mNot, mBl, ev_mB, mIsi, mV, mMv, isiD, oB, oI, bl?, outsE, mCall, mArs, takeSa, putSa, mChain, m2, g2, gI, mCB, A1, A2, mF, mCons, mNil, OV.frzL, mIxO, sSetIx, atI, ixN, e3]) _ ⟨s, rfl, hs⟩
  obtain ⟨is, rfl, his⟩ := ints_of hx
  exact ⟨s2, is, e, hs2, by simpa [rng_len] using hl, his⟩
theorem opens_all {c : Int} {G : List Dt} {s g : OV} {n : Nat} {w2 w4 w5 w6 w7 w8 w9 w10 : Option OV} (hs : StOk s) (hg : Gv G g) (hG : AllOk c G) (hGl : G.length < 1000) (c0 : 0 < c) (c4 : c ≤ 4) (hn : n ≤ 1000) :
    ∃ (s' g' : OV) (os : List Dt), lcLoop [11] (gN 11) (mR true) d__law_program_e4 (rngD 0 n) [] [some s, some (vi c), w2, some g, w4, w5, w6, w7, w8, w9, w10, none] = some (os.map .val, [some s', some (vi c), w2, some g', w4, w5, w6, w7, w8, w9, w10, none]) ∧ StOk s' ∧ os.length = n ∧ AllOk c os := by
  obtain ⟨xs, env', e, hl, hx, s2, gg, rfl, hs2, hgg⟩ := comp_gen (v := 11) (elt := d__law_program_e4) (NamedOk c) (fun env => ∃ s2 gg, env = [some s2, some (vi c), w2, some gg, w4, w5, w6, w7, w8, w9, w10, none] ∧ StOk s2 ∧ Gv G gg) (rngD 0 n) (by rw [rng_len]; omega) (by
    rintro d hd env ⟨s2, gg, rfl, hs2, hgg⟩
    obtain ⟨x, s3, e3, hx, hs3⟩ := name_ok hs2 hG (by omega) c0 (by omega)
    refine ⟨by simp, x, [some s3, some (vi c), w2, some (.val (.list G)), w4, w5, w6, w7, w8, w9, w10, some (.val d)], ?_, hx, s3, .val (.list G), by simp, hs3, .inr rfl⟩
    rcases hgg with rfl | rfl
    · simp [d__law_program_e4, runDef, sRet, ev_sB, ev_sSeq, sIf, sSet, sNext, sExpr, putE, mAndV, mOrV, mNotV, mIf, mAnd, mOr, mNot, mBl, ev_mB, mIsi, mV, mMv, isiD, oB, oI, bl?, outsE, mCall, mArs, takeSa, putSa, mChain, m2, g2, gI, mCB, A1, A2, mF, mCons, mNil, OV.frzL, mIxO, sSetIx, atI, ixN, e3]
    · simp [d__law_program_e4, runDef, sRet, ev_sB, ev_sSeq, sIf, sSet, sNext, sExpr, putE, mAndV, mOrV, mNotV, mIf, mAnd, mOr, mNot, mBl, ev_mB, mIsi, mV, mMv, isiD, oB, oI, bl?, outsE, mCall, mArs, takeSa, putSa, mChain, m2, g2, gI, mCB, A1, A2, mF, mCons, mNil, OV.frzL, mIxO, sSetIx, atI, ixN, e3]) _ ⟨s, g, rfl, hs, hg⟩
  exact ⟨s2, gg, xs, e, hs2, by simpa [rng_len] using hl, hx⟩
end G

namespace G
open PySem PySem.Spec L2 DL
theorem program_ok {s : OV} (hs : StOk s) : ∃ (c : Int) (rs : List (List Dt)) (bs : List Bool) (es os : List Dt) (s' : OV), F__law_program [s] = some (.rt (.val (progD rs bs es os)) [s']) ∧ ProgOk c rs bs es os ∧ StOk s' := by
  obtain ⟨k, s1, e1, k0, k1, hs1⟩ := draw_ok (L := 4) hs (by decide) (by decide)
  have c0 : 0 < 1 + k := by omega
  have c4 : 1 + k ≤ 4 := by omega
  obtain ⟨ls, s2, e2, hl, hok, ht, hcn, hs2⟩ := plans_ok hs1 c0 c4
  obtain ⟨G, v4, v10, e3, hG, hG20⟩ := given_all (w0 := some s2) (w1 := some (vi (1 + k))) (w4 := none) (w5 := none) (w6 := none) (w7 := none) (w8 := none) (w9 := none) (w10 := none) (w11 := none) hok hl c4
  obtain ⟨s3, g3, rs, v6, e4, hs3, hg3, hrl, hrt, hrc, hrr⟩ := parts_all (w2 := some (.val (lsD ls))) (w4 := v4) (w6 := none) (w7 := none) (w8 := none) (w9 := none) (w10 := v10) (w11 := none) hs2 (.inl rfl) hG (by omega) hok hl c0 c4
  obtain ⟨s4, bs, e5, hs4, hbl⟩ := marks_all (w1 := some (vi (1 + k))) (w2 := some (.val (lsD ls))) (w3 := some g3) (w5 := some (.lst (rwO rs))) (w6 := v6) (w7 := none) (w8 := none) (w9 := none) (w10 := v10) (w11 := none) hs3 c0 c4
  obtain ⟨q, s5, e6, q0, q1, hs5⟩ := draw_ok (L := 3) hs4 (by decide) (by decide)
  obtain ⟨s6, is, e7, hs6, hisl, his⟩ := ents_all (n := (1 + q).toNat) (w2 := some (.val (lsD ls))) (w3 := some g3) (w4 := v4) (w5 := some (.lst (rwO rs))) (w6 := v6) (w7 := some (.val (.tuple (bs.map .bool)))) (w8 := none) (w9 := none) (w10 := v10) hs5 c0 c4 (by omega)
  obtain ⟨u, s7, e8, u0, u1, hs7⟩ := draw_ok (L := 5) hs6 (by decide) (by decide)
  obtain ⟨s8, g8, os, e9, hs8, hosl, hos⟩ := opens_all (n := u.toNat) (w2 := some (.val (lsD ls))) (w4 := v4) (w5 := some (.lst (rwO rs))) (w6 := v6) (w7 := some (.val (.tuple (bs.map .bool)))) (w8 := some (.val (.list (is.map .int)))) (w9 := none) (w10 := v10) hs7 hg3 hG (by omega) c0 c4 (by omega)
  obtain ⟨es, f1, f2, f3, f4⟩ := sortInts_ok is (by omega)
  obtain ⟨ps, h1, h2, h3, h4⟩ := sortNames_ok hos (by omega)
  have es1 : 1 ≤ es.length := by
    cases es with
    | nil =>
      exfalso
      cases is with
      | nil => simp at hisl; omega
      | cons i is => exact absurd ((f2 (.int i)).mpr (by simp)) (by simp)
    | cons _ _ => simp
  refine ⟨1 + k, rs, bs, es, ps, s8, ?_, ⟨c0, c4, by rw [hrl]; exact hl, hrr, by rw [hrt]; exact ht, by rw [hrc]; exact hcn, hbl, fun d hd => ?_, f3, es1, by omega, fun d hd => hos d ((h2 d).mp hd), h3, by omega⟩, hs8⟩
  · have b1 : -4611686018427387904 ≤ 1 + k := by omega
    have b2 : 1 + k < 4611686018427387904 := by omega
    have b3 : -4611686018427387904 ≤ 1 + q := by omega
    have b4 : 1 + q < 4611686018427387904 := by omega
    have b5 : -4611686018427387904 ≤ u := by omega
    have b6 : u < 4611686018427387904 := by omega
    have z0 : sz 0 = true := sz2 (by decide)
    have z4 : sz 4 = true := sz2 (by decide)
    have fl := frz_lnO ls
    have fr := frz_rwO rs
    have fm : ∀ ds : List Dt, (OV.lst (ds.map .val)).frz = some (.list ds) := frz_lst
    have fL : ∀ ds : List Dt, OV.frzL (ds.map .val) = some ds := frzL_map
    generalize hB : bs.map PyData.bool = B at e5 e7 e9 ⊢
    generalize hI : is.map PyData.int = I at e7 e9 f1 f2 ⊢
    simp only [F__law_program, d__law_program]
    simp [runDef, sRet, ev_sB, ev_sSeq, sIf, sSet, sNext, sExpr, putE, mAndV, mOrV, mNotV, mIf, mAnd, mOr, mNot, mBl, ev_mB, mIsi, mV, mMv, isiD, oB, oI, bl?, outsE, mCall, mArs, takeSa, putSa, mChain, m2, g2, gI, mCB, A1, A2, mF, mCons, mNil, OV.frzL, mIxO, sSetIx, atI, ixN, sFor, mLstF, mRng1, mIt, DL.items?, addD, mLc, wipeE, restoreE, tupleD, mTup, mSortSet, e1, e2, fl, e3, b1, b2, b3, b4, b5, b6, e4, e5, e6, e7, e8, e9, fr, fm, fL, f1, h1, z0, z4]
    exact hB.symm
  · obtain ⟨i, hi, rfl⟩ := List.mem_map.mp ((f2 d).mp hd)
    exact ⟨i, rfl, his i hi⟩
end G

namespace G
open PySem PySem.Spec L2 DL
theorem lc_gen {v : Nat} {c : M Bool} {elt : M OV} (p : Dt → Bool) (f : Dt → Dt) (env0 : DL.Env) (hv : v < env0.length) (h0 : env0.set v none = env0) : ∀ (ds : List Dt) (acc : List OV),
    (∀ d ∈ ds, c (env0.set v (some (.val d))) = some (.ok (p d) (env0.set v (some (.val d)))) ∧ (p d = true → ∃ env', elt (env0.set v (some (.val d))) = some (.ok (.val (f d)) env') ∧ env'.set v none = env0)) → acc.length + ds.length ≤ 1000000 →
    lcLoop [v] (gN v) c elt ds acc env0 = some (acc ++ ((ds.filter p).map f).map .val, env0)
  | [], acc, _, _ => by simp [lcLoop]
  | d :: ds, acc, h, hl => by
    obtain ⟨hc, he⟩ := h d List.mem_cons_self
    have hr : ∀ x ∈ ds, _ := fun x hx => h x (List.mem_cons_of_mem _ hx)
    have hg : gN v d env0 = some (env0.set v (some (.val d))) := by simp [gN, putE, hv]
    rw [List.length_cons] at hl
    by_cases hp : p d = true
    · obtain ⟨env', e1, e2⟩ := he hp
      have z : sz (acc.length + 1) = true := sz2 (by omega)
      have ih := lc_gen p f env0 hv h0 ds (acc ++ [.val (f d)]) hr (by rw [List.length_append, List.length_singleton]; omega)
      rw [hp] at hc
      have w : wipeE env' [v] = env0 := by simp [wipeE, e2]
      rw [List.filter_cons_of_pos hp]
      unfold lcLoop
      rw [hg]
      simp [hc, e1, z, w, ih]
    · have hp' : p d = false := by simpa using hp
      have ih := lc_gen p f env0 hv h0 ds acc hr (by omega)
      rw [hp'] at hc
      have w : wipeE (env0.set v (some (.val d))) [v] = env0 := by simp [wipeE, h0]
      rw [List.filter_cons_of_neg hp]
      unfold lcLoop
      rw [hg]
      simp [hc, w, ih]
theorem lc2_gen {v v1 : Nat} {its1 : M (List Dt)} {c1 : M Bool} {elt : M OV} (h : Dt → List Dt) (env0 : DL.Env) (hv : v < env0.length) (h0 : env0.set v none = env0) (h1 : env0.set v1 none = env0) (N : Nat) : ∀ (ds : List Dt) (acc : List OV),
    (∀ d ∈ ds, ∃ ds1, its1 (env0.set v (some (.val d))) = some (.ok ds1 (env0.set v (some (.val d)))) ∧ ∀ acc : List OV, acc.length ≤ N → ∃ env', lcLoop [v1] (gN v1) c1 elt ds1 acc (wipeE (env0.set v (some (.val d))) [v1]) = some (acc ++ (h d).map .val, env') ∧ wipeE env' [v, v1] = env0) → acc.length + (ds.flatMap h).length ≤ N →
    lcLoop2 [v, v1] [v1] (gN v) (mR true) its1 (gN v1) c1 elt ds acc env0 = some (acc ++ (ds.flatMap h).map .val, env0)
  | [], acc, _, _ => by simp [lcLoop2]
  | d :: ds, acc, hs, hl => by
    obtain ⟨ds1, e1, e2⟩ := hs d List.mem_cons_self
    rw [List.flatMap_cons, List.length_append] at hl
    obtain ⟨env', e3, e4⟩ := e2 acc (by omega)
    have ih := lc2_gen h env0 hv h0 h1 N ds (acc ++ (h d).map .val) (fun x hx => hs x (List.mem_cons_of_mem _ hx)) (by rw [List.length_append, List.length_map]; omega)
    have hg : gN v d env0 = some (env0.set v (some (.val d))) := by simp [gN, putE, hv]
    unfold lcLoop2
    rw [hg]
    simp [e1, e3, e4, ih]
theorem bls_true : ∀ n : Nat, blsD (List.replicate n (.bool true)) = some (List.replicate n true)
  | 0 => rfl
  | n + 1 => by rw [List.replicate_succ, blsD, bls_true n]; rfl
theorem map_true {ds : List Dt} : ((ds.filter fun _ => true).map fun _ => PyData.bool true) = List.replicate ds.length (.bool true) := by
  induction ds with
  | nil => rfl
  | cons d ds ih =>
    rw [List.filter_cons_of_pos rfl, List.map_cons, List.length_cons, List.replicate_succ, ih]
theorem restore1 {env0 : DL.Env} {v : Nat} (hv : v < env0.length) : restoreE env0 [v] (env0.set v none) = env0 := by
  simp [restoreE, wipeE, hv]
theorem all_ok {v : Nat} {elt : M OV} {its : M (List Dt)} {env env0 : DL.Env} {ds : List Dt} (hit : its env = some (.ok ds env0)) (hv : v < env0.length) (hl : ds.length ≤ 1000)
    (step : ∀ d ∈ ds, ∃ env', elt (env0.set v (some (.val d))) = some (.ok (.val (.bool true)) env') ∧ env'.set v none = env0.set v none) : mCB allD (A1 (mLc [v] its (gN v) (mR true) elt)) env = some (.ok (.val (.bool true)) env0) := by
  have e := lc_gen (v := v) (c := mR true) (elt := elt) (fun _ => true) (fun _ => .bool true) (env0.set v none) (by simpa using hv) (by simp) ds [] (fun d hd => by
    obtain ⟨env', e1, e2⟩ := step d hd
    simp only [List.set_set]
    exact ⟨rfl, fun _ => ⟨env', e1, e2⟩⟩) (by simp; omega)
  have r := restore1 hv
  have b := bls_true ds.length
  rw [map_true, List.nil_append] at e
  have fr : ∀ B : List Dt, (OV.lst (B.map .val)).frz = some (.list B) := frz_lst
  generalize List.replicate ds.length (PyData.bool true) = B at e b
  simp [mCB, A1, mCons, mNil, ev_mB, mLc, hit, wipeE, e, r, OV.frzL, fr, allD, listArg, b, oB]
theorem is_name_ok : ∀ s ∈ nm, F_is_name [.val (.str s)] = some (.rt (.val (.bool true)) []) := by
  intro s hs
  simp only [nm, List.mem_cons, List.not_mem_nil, or_false] at hs
  rcases hs with rfl | rfl | rfl | rfl <;> rfl
theorem is_integer_ok (i : Int) : F_is_integer [vi i] = some (.rt (.val (.bool true)) []) := by
  simp [F_is_integer, d_is_integer, runDef, sRet, ev_sB, ev_sSeq, sIf, sSet, sNext, sExpr, putE, mAndV, mOrV, mNotV, mIf, mAnd, mOr, mNot, mBl, ev_mB, mIsi, mV, mMv, isiD, oB, oI, bl?, outsE, mCall, mArs, takeSa, putSa, mChain, m2, g2, gI, mCB, A1, A2, mF, mCons, mNil, OV.frzL, mIxO, sSetIx, atI, ixN]
theorem is_number_ok {p c : Int} (h0 : 0 ≤ p) (h1 : p < c) : F_is_number [vi p, vi c] = some (.rt (.val (.bool true)) []) := by
  simp [F_is_number, d_is_number, runDef, sRet, ev_sB, ev_sSeq, sIf, sSet, sNext, sExpr, putE, mAndV, mOrV, mNotV, mIf, mAnd, mOr, mNot, mBl, ev_mB, mIsi, mV, mMv, isiD, oB, oI, bl?, outsE, mCall, mArs, takeSa, putSa, mChain, m2, g2, gI, mCB, A1, A2, mF, mCons, mNil, OV.frzL, mIxO, sSetIx, atI, ixN, is_integer_ok, h0, h1]
theorem is_flag_ok (b : Bool) : F_is_flag [.val (.bool b)] = some (.rt (.val (.bool true)) []) := by
  cases b <;> simp [F_is_flag, d_is_flag, runDef, sRet, ev_sB, ev_sSeq, sIf, sSet, sNext, sExpr, putE, mAndV, mOrV, mNotV, mIf, mAnd, mOr, mNot, mBl, ev_mB, mIsi, mV, mMv, isiD, oB, oI, bl?, outsE, mCall, mArs, takeSa, putSa, mChain, m2, g2, gI, mCB, A1, A2, mF, mCons, mNil, OV.frzL, mIxO, sSetIx, atI, ixN, isBD, isB]
theorem is_named_ok {c : Int} {d : Dt} (h : NamedOk c d) : F_is_named [.val d, vi c] = some (.rt (.val (.bool true)) []) := by
  obtain ⟨p, s, rfl, p0, p1, hs⟩ := h
  simp [F_is_named, d_is_named, runDef, sRet, ev_sB, ev_sSeq, sIf, sSet, sNext, sExpr, putE, mAndV, mOrV, mNotV, mIf, mAnd, mOr, mNot, mBl, ev_mB, mIsi, mV, mMv, isiD, oB, oI, bl?, outsE, mCall, mArs, takeSa, putSa, mChain, m2, g2, gI, mCB, A1, A2, mF, mCons, mNil, OV.frzL, mIxO, sSetIx, atI, ixN, ixD, lenD, eqD, lowD, PyData.depth, PyData.eqv, is_number_ok p0 p1, is_name_ok s hs]
theorem is_needs_ok {c : Int} {ns : List Dt} {most : Int} (h : AllOk c ns) (hl : (ns.length : Int) ≤ most) (hm : most ≤ 100) : F_is_needs [.val (.tuple ns), vi c, vi most] = some (.rt (.val (.bool true)) []) := by
  have e := all_ok (v := 3) (elt := d_is_needs_e1) (its := mIt (mV 0)) (env := [some (.val (.tuple ns)), some (vi c), some (vi most), none]) (env0 := [some (.val (.tuple ns)), some (vi c), some (vi most), none]) (ds := ns) (by simp [mIt, mV, ev_mB, DL.items?]) (by simp) (by omega) (fun d hd => ⟨[some (.val (.tuple ns)), some (vi c), some (vi most), some (.val d)], by simp [d_is_needs_e1, runDef, sRet, ev_sB, ev_sSeq, sIf, sSet, sNext, sExpr, putE, mAndV, mOrV, mNotV, mIf, mAnd, mOr, mNot, mBl, ev_mB, mIsi, mV, mMv, isiD, oB, oI, bl?, outsE, mCall, mArs, takeSa, putSa, mChain, m2, g2, gI, mCB, A1, A2, mF, mCons, mNil, OV.frzL, mIxO, sSetIx, atI, ixN, is_named_ok (h d hd)], by simp⟩)
  simp only [F_is_needs, d_is_needs]
  generalize mCB allD _ = EL at e ⊢
  simp [runDef, sRet, ev_sB, ev_sSeq, sIf, sSet, sNext, sExpr, putE, mAndV, mOrV, mNotV, mIf, mAnd, mOr, mNot, mBl, ev_mB, mIsi, mV, mMv, isiD, oB, oI, bl?, outsE, mCall, mArs, takeSa, putSa, mChain, m2, g2, gI, mCB, A1, A2, mF, mCons, mNil, OV.frzL, mIxO, sSetIx, atI, ixN, lenD, hl, e]
end G

namespace G
open PySem PySem.Spec L2 DL
theorem is_row_ok {c : Int} {r : Dt} (h : RowOk c r) : F_is_row [.val r, vi c] = some (.rt (.val (.bool true)) []) := by
  cases h with
  | load p p0 p1 => simp [F_is_row, d_is_row, runDef, sRet, ev_sB, ev_sSeq, sIf, sSet, sNext, sExpr, putE, mAndV, mOrV, mNotV, mIf, mAnd, mOr, mNot, mBl, ev_mB, mIsi, mV, mMv, isiD, oB, oI, bl?, outsE, mCall, mArs, takeSa, putSa, mChain, m2, g2, gI, mCB, A1, A2, mF, mCons, mNil, OV.frzL, mIxO, sSetIx, atI, ixN, sAsg, gStar, gAll, gN, ixD, lenD, eqD, neD, lowD, PyData.depth, PyData.depthAll, PyData.eqv, is_number_ok p0 p1]
  | out => simp [F_is_row, d_is_row, runDef, sRet, ev_sB, ev_sSeq, sIf, sSet, sNext, sExpr, putE, mAndV, mOrV, mNotV, mIf, mAnd, mOr, mNot, mBl, ev_mB, mIsi, mV, mMv, isiD, oB, oI, bl?, outsE, mCall, mArs, takeSa, putSa, mChain, m2, g2, gI, mCB, A1, A2, mF, mCons, mNil, OV.frzL, mIxO, sSetIx, atI, ixN, sAsg, gStar, gAll, gN, ixD, lenD, eqD, neD, lowD, PyData.depth, PyData.depthAll, PyData.eqv]
  | pass n o p hn p0 p1 ho => simp [F_is_row, d_is_row, runDef, sRet, ev_sB, ev_sSeq, sIf, sSet, sNext, sExpr, putE, mAndV, mOrV, mNotV, mIf, mAnd, mOr, mNot, mBl, ev_mB, mIsi, mV, mMv, isiD, oB, oI, bl?, outsE, mCall, mArs, takeSa, putSa, mChain, m2, g2, gI, mCB, A1, A2, mF, mCons, mNil, OV.frzL, mIxO, sSetIx, atI, ixN, sAsg, gStar, gAll, gN, ixD, lenD, eqD, neD, lowD, PyData.depth, PyData.depthAll, PyData.eqv, is_number_ok p0 p1, is_name_ok n hn, is_name_ok o ho]
  | late n p ns hn p0 p1 hns hl =>
    have e := is_needs_ok (most := 2) hns (by omega) (by decide)
    simp [F_is_row, d_is_row, runDef, sRet, ev_sB, ev_sSeq, sIf, sSet, sNext, sExpr, putE, mAndV, mOrV, mNotV, mIf, mAnd, mOr, mNot, mBl, ev_mB, mIsi, mV, mMv, isiD, oB, oI, bl?, outsE, mCall, mArs, takeSa, putSa, mChain, m2, g2, gI, mCB, A1, A2, mF, mCons, mNil, OV.frzL, mIxO, sSetIx, atI, ixN, sAsg, gStar, gAll, gN, ixD, lenD, eqD, neD, lowD, PyData.depth, PyData.depthAll, PyData.eqv, mNeg, is_integer_ok, is_name_ok n hn, p0, p1, e]
  | give n ns b hn hns hl =>
    have e := is_needs_ok (most := 1) hns (by omega) (by decide)
    simp [F_is_row, d_is_row, runDef, sRet, ev_sB, ev_sSeq, sIf, sSet, sNext, sExpr, putE, mAndV, mOrV, mNotV, mIf, mAnd, mOr, mNot, mBl, ev_mB, mIsi, mV, mMv, isiD, oB, oI, bl?, outsE, mCall, mArs, takeSa, putSa, mChain, m2, g2, gI, mCB, A1, A2, mF, mCons, mNil, OV.frzL, mIxO, sSetIx, atI, ixN, sAsg, gStar, gAll, gN, ixD, lenD, eqD, neD, lowD, PyData.depth, PyData.depthAll, PyData.eqv, is_name_ok n hn, e, is_flag_ok]
  | «show» ns b hns hl =>
    have e := is_needs_ok (most := 2) hns (by omega) (by decide)
    simp [F_is_row, d_is_row, runDef, sRet, ev_sB, ev_sSeq, sIf, sSet, sNext, sExpr, putE, mAndV, mOrV, mNotV, mIf, mAnd, mOr, mNot, mBl, ev_mB, mIsi, mV, mMv, isiD, oB, oI, bl?, outsE, mCall, mArs, takeSa, putSa, mChain, m2, g2, gI, mCB, A1, A2, mF, mCons, mNil, OV.frzL, mIxO, sSetIx, atI, ixN, sAsg, gStar, gAll, gN, ixD, lenD, eqD, neD, lowD, PyData.depth, PyData.depthAll, PyData.eqv, e, is_flag_ok]
/-- what can be put in order -/
def Ordr (ds : List Dt) : Prop := (∀ x ∈ ds, ∀ y ∈ ds, (PySem.W.alike x y && !isNo x && lowD x y) = true) ∧ ds.Pairwise fun a b => PySem.W.dataLt a b = true
theorem is_ascending_ok {ds : List Dt} (h : Ordr ds) (hl : ds.length ≤ 1000) : F_is_ascending [.val (.tuple ds)] = some (.rt (.val (.bool true)) []) := by
  have hr : -4611686018427387904 ≤ (ds.length : Int) - 1 ∧ (ds.length : Int) - 1 < 4611686018427387904 := by omega
  have e := all_ok (v := 1) (elt := d_is_ascending_e1) (its := mRng1 (m2 subI (mCB lenD (A1 (mV 0))) (mC (.int 1)))) (env := [some (.val (.tuple ds)), none]) (env0 := [some (.val (.tuple ds)), none]) (ds := rngD 0 ((ds.length : Int) - 1).toNat) (by simp [mRng1, runDef, sRet, ev_sB, ev_sSeq, sIf, sSet, sNext, sExpr, putE, mAndV, mOrV, mNotV, mIf, mAnd, mOr, mNot, mBl, ev_mB, mIsi, mV, mMv, isiD, oB, oI, bl?, outsE, mCall, mArs, takeSa, putSa, mChain, m2, g2, gI, mCB, A1, A2, mF, mCons, mNil, OV.frzL, mIxO, sSetIx, atI, ixN, lenD, hr]) (by simp) (by rw [rng_len]; omega) (fun d hd => by
    obtain ⟨j, rfl, hj⟩ := rng_mem hd
    have j0 : j < ds.length := by omega
    have j1 : j + 1 < ds.length := by omega
    have i0 := ixT j0
    have i1 := ixT j1
    have lt : PySem.W.dataLt ds[j] ds[j + 1] = true := List.pairwise_iff_getElem.mp h.2 j (j + 1) j0 j1 (by omega)
    have al := h.1 ds[j] (List.getElem_mem j0) ds[j + 1] (List.getElem_mem j1)
    rw [Int.natCast_add] at i1
    have e3 : ltD ds[j] ds[j + 1] = some (oB true) := by unfold ltD; rw [if_pos al, lt]
    refine ⟨[some (.val (.tuple ds)), some (vi j)], ?_, by simp⟩
    have i1' : ixD (.tuple ds) (.int ((j : Int) + 1)) = some (.val ds[j + 1]) := i1
    simp only [d_is_ascending_e1, m2, ev_mB, mV, List.set, List.getElem?_cons_zero, List.getElem?_cons_succ, ev_mC, ev_mO, g2, frz_val, i0, addD, oI, Option.map_some, i1', e3, oB])
  simp only [F_is_ascending, d_is_ascending]
  generalize mCB allD _ = EL at e ⊢
  simp [runDef, sRet, ev_sB, ev_sSeq, sIf, sSet, sNext, sExpr, putE, mAndV, mOrV, mNotV, mIf, mAnd, mOr, mNot, mBl, ev_mB, mIsi, mV, mMv, isiD, oB, oI, bl?, outsE, mCall, mArs, takeSa, putSa, mChain, m2, g2, gI, mCB, A1, A2, mF, mCons, mNil, OV.frzL, mIxO, sSetIx, atI, ixN, e]
theorem ordr_ints {c : Int} {ds : List Dt} (h : ∀ d ∈ ds, ∃ p : Int, d = .int p ∧ 0 ≤ p ∧ p < c) (hp : ds.Pairwise fun a b => PySem.W.dataLt a b = true) : Ordr ds := ⟨fun x hx y hy => by
  obtain ⟨p, rfl, _⟩ := h x hx
  obtain ⟨q, rfl, _⟩ := h y hy
  simp [PySem.W.alike, isNo, lowD, PyData.depth], hp⟩
theorem ordr_names {c : Int} {ds : List Dt} (h : AllOk c ds) (hp : ds.Pairwise fun a b => PySem.W.dataLt a b = true) : Ordr ds := ⟨fun x hx y hy => by
  obtain ⟨p, s, rfl, _⟩ := h x hx
  obtain ⟨q, t, rfl, _⟩ := h y hy
  simp [PySem.W.alike, PySem.W.alikeAll, isNo, lowD, PyData.depth, PyData.depthAll], hp⟩
theorem is_marks_ok {c : Int} {bs : List Bool} (h : (bs.length : Int) = c) (hl : c ≤ 1000) : F_is_marks [.val (.tuple (bs.map .bool)), vi c] = some (.rt (.val (.bool true)) []) := by
  have e := all_ok (v := 2) (elt := d_is_marks_e1) (its := mIt (mV 0)) (env := [some (.val (.tuple (bs.map .bool))), some (vi c), none]) (env0 := [some (.val (.tuple (bs.map .bool))), some (vi c), none]) (ds := bs.map .bool) (by simp [mIt, mV, ev_mB, DL.items?]) (by simp) (by simp; omega) (fun d hd => by
    obtain ⟨b, _, rfl⟩ := List.mem_map.mp hd
    exact ⟨[some (.val (.tuple (bs.map .bool))), some (vi c), some (.val (.bool b))], by simp [d_is_marks_e1, runDef, sRet, ev_sB, ev_sSeq, sIf, sSet, sNext, sExpr, putE, mAndV, mOrV, mNotV, mIf, mAnd, mOr, mNot, mBl, ev_mB, mIsi, mV, mMv, isiD, oB, oI, bl?, outsE, mCall, mArs, takeSa, putSa, mChain, m2, g2, gI, mCB, A1, A2, mF, mCons, mNil, OV.frzL, mIxO, sSetIx, atI, ixN, is_flag_ok], by simp⟩)
  simp only [F_is_marks, d_is_marks]
  generalize mCB allD _ = EL at e ⊢
  simp [runDef, sRet, ev_sB, ev_sSeq, sIf, sSet, sNext, sExpr, putE, mAndV, mOrV, mNotV, mIf, mAnd, mOr, mNot, mBl, ev_mB, mIsi, mV, mMv, isiD, oB, oI, bl?, outsE, mCall, mArs, takeSa, putSa, mChain, m2, g2, gI, mCB, A1, A2, mF, mCons, mNil, OV.frzL, mIxO, sSetIx, atI, ixN, lenD, eqD, lowD, PyData.depth, PyData.eqv, h, e]
theorem is_entries_ok {c : Int} {es : List Dt} (h : ∀ d ∈ es, ∃ p : Int, d = .int p ∧ 0 ≤ p ∧ p < c) (hp : es.Pairwise fun a b => PySem.W.dataLt a b = true) (h1 : 1 ≤ es.length) (h3 : es.length ≤ 3) : F_is_entries [.val (.tuple es), vi c] = some (.rt (.val (.bool true)) []) := by
  have e := all_ok (v := 2) (elt := d_is_entries_e1) (its := mIt (mV 0)) (env := [some (.val (.tuple es)), some (vi c), none]) (env0 := [some (.val (.tuple es)), some (vi c), none]) (ds := es) (by simp [mIt, mV, ev_mB, DL.items?]) (by simp) (by omega) (fun d hd => by
    obtain ⟨p, rfl, p0, p1⟩ := h d hd
    exact ⟨[some (.val (.tuple es)), some (vi c), some (vi p)], by simp [d_is_entries_e1, runDef, sRet, ev_sB, ev_sSeq, sIf, sSet, sNext, sExpr, putE, mAndV, mOrV, mNotV, mIf, mAnd, mOr, mNot, mBl, ev_mB, mIsi, mV, mMv, isiD, oB, oI, bl?, outsE, mCall, mArs, takeSa, putSa, mChain, m2, g2, gI, mCB, A1, A2, mF, mCons, mNil, OV.frzL, mIxO, sSetIx, atI, ixN, is_number_ok p0 p1], by simp⟩)
  have a := is_ascending_ok (ordr_ints h hp) (by omega)
  have i1 : (1 : Int) ≤ es.length := by omega
  have i3 : (es.length : Int) ≤ 3 := by omega
  simp only [F_is_entries, d_is_entries]
  generalize mCB allD _ = EL at e ⊢
  simp [runDef, sRet, ev_sB, ev_sSeq, sIf, sSet, sNext, sExpr, putE, mAndV, mOrV, mNotV, mIf, mAnd, mOr, mNot, mBl, ev_mB, mIsi, mV, mMv, isiD, oB, oI, bl?, outsE, mCall, mArs, takeSa, putSa, mChain, m2, g2, gI, mCB, A1, A2, mF, mCons, mNil, OV.frzL, mIxO, sSetIx, atI, ixN, lenD, i1, i3, e, a]
theorem is_opens_ok {c : Int} {os : List Dt} (h : AllOk c os) (hp : os.Pairwise fun a b => PySem.W.dataLt a b = true) (h4 : os.length ≤ 4) : F_is_opens [.val (.tuple os), vi c] = some (.rt (.val (.bool true)) []) := by
  have e := all_ok (v := 2) (elt := d_is_opens_e1) (its := mIt (mV 0)) (env := [some (.val (.tuple os)), some (vi c), none]) (env0 := [some (.val (.tuple os)), some (vi c), none]) (ds := os) (by simp [mIt, mV, ev_mB, DL.items?]) (by simp) (by omega) (fun d hd =>
    ⟨[some (.val (.tuple os)), some (vi c), some (.val d)], by simp [d_is_opens_e1, runDef, sRet, ev_sB, ev_sSeq, sIf, sSet, sNext, sExpr, putE, mAndV, mOrV, mNotV, mIf, mAnd, mOr, mNot, mBl, ev_mB, mIsi, mV, mMv, isiD, oB, oI, bl?, outsE, mCall, mArs, takeSa, putSa, mChain, m2, g2, gI, mCB, A1, A2, mF, mCons, mNil, OV.frzL, mIxO, sSetIx, atI, ixN, is_named_ok (h d hd)], by simp⟩)
  have a := is_ascending_ok (ordr_names h hp) (by omega)
  have i4 : ¬ (4 : Int) < os.length := by omega
  have i4' : ¬ 4 < os.length := by omega
  simp only [F_is_opens, d_is_opens]
  generalize mCB allD _ = EL at e ⊢
  simp [runDef, sRet, ev_sB, ev_sSeq, sIf, sSet, sNext, sExpr, putE, mAndV, mOrV, mNotV, mIf, mAnd, mOr, mNot, mBl, ev_mB, mIsi, mV, mMv, isiD, oB, oI, bl?, outsE, mCall, mArs, takeSa, putSa, mChain, m2, g2, gI, mCB, A1, A2, mF, mCons, mNil, OV.frzL, mIxO, sSetIx, atI, ixN, lenD, i4, i4', e, a]
end G

namespace G
open PySem PySem.Spec L2 DL
theorem RowOk.tup {c : Int} {r : Dt} (h : RowOk c r) : ∃ w rest, r = .tuple (.str w :: rest) := by
  cases h <;> exact ⟨_, _, rfl⟩
def lenT : Dt → Dt
  | .tuple r => .int r.length
  | _ => .none
def outT : Dt → List Dt
  | .tuple r => r.filter isOut
  | _ => []
@[simp] theorem lenT_t (r : List Dt) : lenT (.tuple r) = .int r.length := rfl
@[simp] theorem outT_t (r : List Dt) : outT (.tuple r) = r.filter isOut := rfl
theorem lens_ints (rs : List (List Dt)) : intsD ((rs.map PyData.tuple).map lenT) = some (rs.map fun r => (r.length : Int)) := by
  induction rs with
  | nil => rfl
  | cons r rs ih => rw [List.map_cons, List.map_cons, lenT_t, intsD, ih]; rfl
theorem sum_tot (rs : List (List Dt)) : (rs.map fun r => (r.length : Int)).sum = tot rs := by
  unfold tot
  induction rs with
  | nil => rfl
  | cons r rs ih => simp [ih]
theorem cnts_flat (rs : List (List Dt)) : ((rs.map PyData.tuple).flatMap outT).length = cnts rs := by
  unfold cnts
  induction rs with
  | nil => rfl
  | cons r rs ih =>
    rw [List.map_cons, List.flatMap_cons, List.length_append, ih]
    rfl
theorem is_parts_ok {c : Int} {rs : List (List Dt)} (hl : (rs.length : Int) = c) (c0 : 0 < c) (c4 : c ≤ 4) (h : ∀ r ∈ rs, (∀ x ∈ r, RowOk c x) ∧ r.length ≤ 5) (ht : tot rs ≤ 12) (ho : cnts rs ≤ 2) : F_is_parts [.val (.tuple (rs.map .tuple))] = some (.rt (.val (.bool true)) []) := by
  have e1 := all_ok (v := 1) (elt := d_is_parts_e1) (its := mIt (mV 0)) (env := [some (.val (.tuple (rs.map .tuple))), none, none]) (env0 := [some (.val (.tuple (rs.map .tuple))), none, none]) (ds := rs.map .tuple) (by simp [mIt, mV, ev_mB, DL.items?]) (by simp) (by simp; omega) (fun d hd => by
    obtain ⟨r, hr, rfl⟩ := List.mem_map.mp hd
    have := (h r hr).2
    have i5 : (r.length : Int) ≤ 5 := by omega
    exact ⟨[some (.val (.tuple (rs.map .tuple))), some (.val (.tuple r)), none], by simp [d_is_parts_e1, runDef, sRet, ev_sB, ev_sSeq, sIf, sSet, sNext, sExpr, putE, mAndV, mOrV, mNotV, mIf, mAnd, mOr, mNot, mBl, ev_mB, mIsi, mV, mMv, isiD, oB, oI, bl?, outsE, mCall, mArs, takeSa, putSa, mChain, m2, g2, gI, mCB, A1, A2, mF, mCons, mNil, OV.frzL, mIxO, sSetIx, atI, ixN, lenD, i5], by simp⟩)
  have e2 := lc_gen (v := 1) (c := mR true) (elt := d_is_parts_e2) (fun _ => true) lenT [some (.val (.tuple (rs.map .tuple))), none, none] (by simp) (by simp) (rs.map .tuple) [] (fun d hd => by
    obtain ⟨r, hr, rfl⟩ := List.mem_map.mp hd
    exact ⟨rfl, fun _ => ⟨[some (.val (.tuple (rs.map .tuple))), some (.val (.tuple r)), none], by simp [d_is_parts_e2, runDef, sRet, ev_sB, ev_sSeq, sIf, sSet, sNext, sExpr, putE, mAndV, mOrV, mNotV, mIf, mAnd, mOr, mNot, mBl, ev_mB, mIsi, mV, mMv, isiD, oB, oI, bl?, outsE, mCall, mArs, takeSa, putSa, mChain, m2, g2, gI, mCB, A1, A2, mF, mCons, mNil, OV.frzL, mIxO, sSetIx, atI, ixN, lenD], by simp⟩⟩) (by simp; omega)
  rw [show ((rs.map PyData.tuple).filter fun _ => true) = rs.map PyData.tuple from List.filter_eq_self.mpr fun _ _ => rfl, List.nil_append] at e2
  have e2i := lens_ints rs
  have st := sum_tot rs
  generalize ((rs.map PyData.tuple).map lenT) = LL at e2 e2i
  have fLL : (OV.lst (LL.map .val)).frz = some (.list LL) := frz_lst LL
  have loop := loopS_inv (g := gN 1) (body := d_is_parts_b1)
    (fun rest env => ∃ v1, env = [some (.val (.tuple (rs.map .tuple))), v1, none] ∧ ∀ d ∈ rest, ∃ r ∈ rs, d = .tuple r)
    (rs.map .tuple) [some (.val (.tuple (rs.map .tuple))), none, none] ⟨none, rfl, fun d hd => by
      obtain ⟨r, hr, rfl⟩ := List.mem_map.mp hd
      exact ⟨r, hr, rfl⟩⟩ (by
      rintro d rest env ⟨v1, rfl, hr⟩
      obtain ⟨r, hrm, rfl⟩ := hr d List.mem_cons_self
      have hr5 := (h r hrm).2
      have e := all_ok (v := 2) (elt := d_is_parts_e3) (its := mIt (mV 1)) (env := [some (.val (.tuple (rs.map .tuple))), some (.val (.tuple r)), none]) (env0 := [some (.val (.tuple (rs.map .tuple))), some (.val (.tuple r)), none]) (ds := r) (by simp [mIt, mV, ev_mB, DL.items?]) (by simp) (by omega) (fun d hd => by
        have q := is_row_ok ((h r hrm).1 d hd)
        exact ⟨[some (.val (.tuple (rs.map .tuple))), some (.val (.tuple r)), some (.val d)], by simp [d_is_parts_e3, runDef, sRet, ev_sB, ev_sSeq, sIf, sSet, sNext, sExpr, putE, mAndV, mOrV, mNotV, mIf, mAnd, mOr, mNot, mBl, ev_mB, mIsi, mV, mMv, isiD, oB, oI, bl?, outsE, mCall, mArs, takeSa, putSa, mChain, m2, g2, gI, mCB, A1, A2, mF, mCons, mNil, OV.frzL, mIxO, sSetIx, atI, ixN, lenD, hl, q], by simp⟩)
      refine ⟨[some (.val (.tuple (rs.map .tuple))), some (.val (.tuple r)), none], by simp [gN, putE], [some (.val (.tuple (rs.map .tuple))), some (.val (.tuple r)), none], .inl ?_, some (.val (.tuple r)), rfl, fun x hx => hr x (List.mem_cons_of_mem _ hx)⟩
      simp only [d_is_parts_b1]
      generalize mCB allD _ = EL at e ⊢
      simp [runDef, sRet, ev_sB, ev_sSeq, sIf, sSet, sNext, sExpr, putE, mAndV, mOrV, mNotV, mIf, mAnd, mOr, mNot, mBl, ev_mB, mIsi, mV, mMv, isiD, oB, oI, bl?, outsE, mCall, mArs, takeSa, putSa, mChain, m2, g2, gI, mCB, A1, A2, mF, mCons, mNil, OV.frzL, mIxO, sSetIx, atI, ixN, e])
  obtain ⟨env', e3, v1, rfl, _⟩ := loop
  have e4 := lc2_gen (v := 1) (v1 := 2) (its1 := mIt (mV 1)) (c1 := mBl (m2 eqD (m2 ixD (mV 2) (mC (.int 0))) (mC (.str "out")))) (elt := d_is_parts_e4) outT [some (.val (.tuple (rs.map .tuple))), none, none] (by simp) (by simp) (by simp) 1000 (rs.map .tuple) [] (fun d hd => by
    obtain ⟨r, hr, rfl⟩ := List.mem_map.mp hd
    have hr5 := (h r hr).2
    refine ⟨r, by simp [mIt, mV, ev_mB, DL.items?], fun acc ha => ⟨[some (.val (.tuple (rs.map .tuple))), some (.val (.tuple r)), none], ?_, by simp [wipeE]⟩⟩
    have q := lc_gen (v := 2) (c := mBl (m2 eqD (m2 ixD (mV 2) (mC (.int 0))) (mC (.str "out")))) (elt := d_is_parts_e4) isOut (fun d => d) [some (.val (.tuple (rs.map .tuple))), some (.val (.tuple r)), none] (by simp) (by simp) r acc (fun d hd => by
      obtain ⟨w, rest, rfl⟩ := ((h r hr).1 d hd).tup
      exact ⟨by simp [runDef, sRet, ev_sB, ev_sSeq, sIf, sSet, sNext, sExpr, putE, mAndV, mOrV, mNotV, mIf, mAnd, mOr, mNot, mBl, ev_mB, mIsi, mV, mMv, isiD, oB, oI, bl?, outsE, mCall, mArs, takeSa, putSa, mChain, m2, g2, gI, mCB, A1, A2, mF, mCons, mNil, OV.frzL, mIxO, sSetIx, atI, ixN, ixD, eqD, lowD, PyData.depth, PyData.depthAll, PyData.eqv, isOut], fun _ => ⟨[some (.val (.tuple (rs.map .tuple))), some (.val (.tuple r)), some (.val (.tuple (.str w :: rest)))], by simp [d_is_parts_e4, mV], by simp⟩⟩) (by omega)
    rw [List.map_id'] at q
    simpa [wipeE] using q) (by rw [cnts_flat]; simp; omega)
  have ce := cnts_flat rs
  generalize ((rs.map PyData.tuple).flatMap outT) = OO at e4 ce
  rw [List.nil_append] at e4
  have fOO : (OV.lst (OO.map .val)).frz = some (.list OO) := frz_lst OO
  have i1 : (1 : Int) ≤ rs.length := by omega
  have i1' : 1 ≤ rs.length := by omega
  have i4 : (rs.length : Int) ≤ 4 := by omega
  have i12 : ¬ 12 < tot rs := by omega
  have i12' : ¬ (12 : Int) < tot rs := by omega
  have i2 : (OO.length : Int) ≤ 2 := by omega
  simp only [F_is_parts, d_is_parts]
  generalize mCB allD _ = EL at e1 ⊢
  generalize mBl (m2 eqD (m2 ixD (mV 2) (mC (.int 0))) (mC (.str "out"))) = CC at e4 ⊢
  generalize mIt (mV 1) = IT at e4 ⊢
  simp [runDef, sRet, ev_sB, ev_sSeq, sIf, sSet, sNext, sExpr, putE, mAndV, mOrV, mNotV, mIf, mAnd, mOr, mNot, mBl, ev_mB, mIsi, mV, mMv, isiD, oB, oI, bl?, outsE, mCall, mArs, takeSa, putSa, mChain, m2, g2, gI, mCB, A1, A2, mF, mCons, mNil, OV.frzL, mIxO, sSetIx, atI, ixN, lenD, e1, mLc, mLc2, mIt, DL.items?, wipeE, restoreE, e2, fLL, sumD, listArg, e2i, st, sFor, e3, e4, fOO, i1, i1', i4, i12, i12', i2]
theorem is_program_ok {c : Int} {rs : List (List Dt)} {bs : List Bool} {es os : List Dt} (h : ProgOk c rs bs es os) : F_is_program [.val (progD rs bs es os)] = some (.rt (.val (.bool true)) []) := by
  have e1 := is_parts_ok h.len h.c0 h.c4 h.rows h.tot12 h.outs
  have e2 := is_marks_ok h.bl (by have := h.c4; omega)
  have e3 := is_entries_ok h.ent h.entA h.ent1 h.ent3
  have e4 := is_opens_ok h.opn h.opnA h.opn4
  have hl := h.len
  simp only [progD]
  generalize hB : bs.map PyData.bool = B at *
  generalize hR : rs.map PyData.tuple = R' at *
  have hlR : (R'.length : Int) = c := by rw [← hR]; simpa using hl
  simp [F_is_program, d_is_program, runDef, sRet, ev_sB, ev_sSeq, sIf, sSet, sNext, sExpr, putE, mAndV, mOrV, mNotV, mIf, mAnd, mOr, mNot, mBl, ev_mB, mIsi, mV, mMv, isiD, oB, oI, bl?, outsE, mCall, mArs, takeSa, putSa, mChain, m2, g2, gI, mCB, A1, A2, mF, mCons, mNil, OV.frzL, mIxO, sSetIx, atI, ixN, sAsg, gT, gAll, gN, lenD, neD, lowD, PyData.depth, PyData.depthAll, PyData.eqv, e1, hlR, e2, e3, e4]
end G

namespace G
open PySem PySem.Spec L2 DL
/-! ### doors -/
def rowP : Dt → Bool
  | .tuple [.str w, .str _, .int p, .tuple _] => (w == "late") && decide (0 ≤ p)
  | _ => false
def rowX : Dt → Dt
  | .tuple [_, _, x, _] => x
  | _ => .none
abbrev condD : M Bool := mAnd (mBl (m2 eqD (m2 ixD (mV 3) (mC (.int 0))) (mC (.str "late")))) (mBl (m2 geI (m2 ixD (mV 3) (mC (.int 2))) (mC (.int 0))))
theorem cond_ok {c : Int} {r : Dt} {w0 w1 w2 : Option OV} (h : RowOk c r) : condD [w0, w1, w2, some (.val r)] = some (.ok (rowP r) [w0, w1, w2, some (.val r)]) := by
  cases h <;> simp [condD, runDef, sRet, ev_sB, ev_sSeq, sIf, sSet, sNext, sExpr, putE, mAndV, mOrV, mNotV, mIf, mAnd, mOr, mNot, mBl, ev_mB, mIsi, mV, mMv, isiD, oB, oI, bl?, outsE, mCall, mArs, takeSa, putSa, mChain, m2, g2, gI, mCB, A1, A2, mF, mCons, mNil, OV.frzL, mIxO, sSetIx, atI, ixN, ixD, eqD, lowD, PyData.depth, PyData.depthAll, PyData.eqv, rowP]
theorem rowX_ok {c : Int} {r : Dt} {w0 w1 w2 : Option OV} (h : RowOk c r) (hp : rowP r = true) : m2 ixD (mV 3) (mC (.int 2)) [w0, w1, w2, some (.val r)] = some (.ok (.val (rowX r)) [w0, w1, w2, some (.val r)]) ∧ ∃ p : Int, rowX r = .int p := by
  cases h with
  | late n p ns hn p0 p1 hns hl => exact ⟨by simp [runDef, sRet, ev_sB, ev_sSeq, sIf, sSet, sNext, sExpr, putE, mAndV, mOrV, mNotV, mIf, mAnd, mOr, mNot, mBl, ev_mB, mIsi, mV, mMv, isiD, oB, oI, bl?, outsE, mCall, mArs, takeSa, putSa, mChain, m2, g2, gI, mCB, A1, A2, mF, mCons, mNil, OV.frzL, mIxO, sSetIx, atI, ixN, ixD, rowX], p, rfl⟩
  | _ => simp [rowP] at hp
def lateT : Dt → List Dt
  | .tuple r => (r.filter rowP).map rowX
  | _ => []
abbrev dsD (rs : List (List Dt)) : List Dt := (rs.map PyData.tuple).flatMap lateT
theorem ds_len (rs : List (List Dt)) : (dsD rs).length ≤ tot rs := by
  unfold dsD tot
  induction rs with
  | nil => simp
  | cons r rs ih =>
    rw [List.map_cons, List.flatMap_cons, List.length_append, List.map_cons, List.sum_cons]
    have : (lateT (.tuple r)).length ≤ r.length := by
      show ((r.filter rowP).map rowX).length ≤ _
      rw [List.length_map]
      exact List.length_filter_le _ _
    omega
theorem ds_ints {c : Int} {rs : List (List Dt)} (h : ∀ r ∈ rs, ∀ x ∈ r, RowOk c x) : ∀ d ∈ dsD rs, ∃ p : Int, d = .int p ∧ True := fun d hd => by
  obtain ⟨t, ht, hd⟩ := List.mem_flatMap.mp hd
  obtain ⟨r, hr, rfl⟩ := List.mem_map.mp ht
  obtain ⟨x, hx, rfl⟩ := List.mem_map.mp hd
  obtain ⟨hx1, hx2⟩ := List.mem_filter.mp hx
  obtain ⟨_, p, e⟩ := rowX_ok (w0 := none) (w1 := none) (w2 := none) (h r hr x hx1) hx2
  exact ⟨p, e, trivial⟩
theorem sorted_all {c : Int} {rs : List (List Dt)} {es : List Dt} (h : ∀ r ∈ rs, ∀ x ∈ r, RowOk c x) (ht : tot rs ≤ 12) (he : ∀ d ∈ es, ∃ p : Int, d = .int p ∧ 0 ≤ p ∧ p < c) (h3 : es.length ≤ 3) :
    ∃ is : List Int, sortSetD (.list (es ++ dsD rs)) = some (.lst ((is.map PyData.int).map .val)) ∧ is.length ≤ 20 := by
  obtain ⟨is, hi, _⟩ := ints_of (P := fun _ => True) (xs := es ++ dsD rs) fun d hd => by
    rcases List.mem_append.mp hd with hd | hd
    · obtain ⟨p, e, _⟩ := he d hd
      exact ⟨p, e, trivial⟩
    · exact ds_ints h d hd
  have hl := ds_len rs
  have hil : is.length ≤ 15 := by
    have := congrArg List.length hi
    rw [List.length_append, List.length_map] at this
    omega
  obtain ⟨out, e, mem, _, len⟩ := sortInts_ok is (by omega)
  obtain ⟨js, hj, _⟩ := ints_of (P := fun _ => True) (xs := out) fun d hd => by
    obtain ⟨i, _, rfl⟩ := List.mem_map.mp ((mem d).mp hd)
    exact ⟨i, rfl, trivial⟩
  subst hj
  exact ⟨js, by rw [hi]; exact e, by rw [List.length_map] at len; omega⟩
section
variable {c : Int} {rs : List (List Dt)} {bs : List Bool} {es os : List Dt}
theorem prog0 : ixD (progD rs bs es os) (.int 0) = some (.val (.tuple (rs.map .tuple))) := ixT (ds := [.tuple (rs.map .tuple), .tuple (bs.map .bool), .tuple es, .tuple os]) (n := 0) (by simp)
theorem prog1 : ixD (progD rs bs es os) (.int 1) = some (.val (.tuple (bs.map .bool))) := ixT (ds := [.tuple (rs.map .tuple), .tuple (bs.map .bool), .tuple es, .tuple os]) (n := 1) (by simp)
theorem prog2 : ixD (progD rs bs es os) (.int 2) = some (.val (.tuple es)) := ixT (ds := [.tuple (rs.map .tuple), .tuple (bs.map .bool), .tuple es, .tuple os]) (n := 2) (by simp)
theorem prog3 : ixD (progD rs bs es os) (.int 3) = some (.val (.tuple os)) := ixT (ds := [.tuple (rs.map .tuple), .tuple (bs.map .bool), .tuple es, .tuple os]) (n := 3) (by simp)
theorem doors_fin {PG : Dt} {RS es NM : List Dt} {out : List OV} {IT : M (List Dt)} {CC : M Bool} (p0 : ixD PG (.int 0) = some (.val (.tuple RS))) (p2 : ixD PG (.int 2) = some (.val (.tuple es))) (e : lcLoop2 [2, 3] [3] (gN 2) (mR true) IT (gN 3) CC d_doors_e1 RS [] [some (.val PG), none, none, none] = some (NM.map .val, [some (.val PG), none, none, none])) (hl : sz (es.length + NM.length) = true) (hs : sortSetD (.list (es ++ NM)) = some (.lst out)) :
    runDef 4 1 [] (sSeq (sSet 1 (mF (mLc2 [2, 3] [3] (mIt (m2 ixD (mV 0) (mC (.int 0)))) (gN 2) (mR true) IT (gN 3) CC d_doors_e1))) (sRet (mSortSet (m2 addD (mCB listD (A1 (m2 ixD (mV 0) (mC (.int 2))))) (mV 1))))) [.val PG] = some (.rt (.lst out) []) := by
  have fr : ∀ ds : List Dt, (OV.lst (ds.map .val)).frz = some (.list ds) := frz_lst
  have fr2 : ∀ a b : List Dt, (OV.lst (a.map .val ++ b.map .val)).frz = some (.list (a ++ b)) := fun a b => by rw [← List.map_append]; exact fr _
  simp [runDef, sRet, ev_sB, ev_sSeq, sIf, sSet, sNext, sExpr, putE, mAndV, mOrV, mNotV, mIf, mAnd, mOr, mNot, mBl, ev_mB, mIsi, mV, mMv, isiD, oB, oI, bl?, outsE, mCall, mArs, takeSa, putSa, mChain, m2, g2, gI, mCB, A1, A2, mF, mCons, mNil, OV.frzL, mIxO, sSetIx, atI, ixN, mLc2, mIt, DL.items?, p0, p2, wipeE, restoreE, e, fr, fr2, listD, addD, hl, mSortSet, hs]
theorem doors_ok {out : List OV} (h : ∀ r ∈ rs, (∀ x ∈ r, RowOk c x) ∧ r.length ≤ 5) (ht : tot rs ≤ 12) (h3 : es.length ≤ 3) (hs : sortSetD (.list (es ++ dsD rs)) = some (.lst out)) : F_doors [.val (progD rs bs es os)] = some (.rt (.lst out) []) := by
  have p0 := prog0 (rs := rs) (bs := bs) (es := es) (os := os)
  have p2 := prog2 (rs := rs) (bs := bs) (es := es) (os := os)
  have hl := ds_len rs
  refine doors_fin (NM := dsD rs) p0 p2 ?_ (sz2 (by omega)) hs
  have e := lc2_gen (v := 2) (v1 := 3) (its1 := mIt (mV 2)) (c1 := condD) (elt := d_doors_e1) lateT [some (.val (progD rs bs es os)), none, none, none] (by simp) (by simp) (by simp) 1000 (rs.map .tuple) [] (fun d hd => by
    obtain ⟨r, hr, rfl⟩ := List.mem_map.mp hd
    have hr5 := (h r hr).2
    refine ⟨r, by simp [mIt, mV, ev_mB, DL.items?], fun acc ha => ⟨[some (.val (progD rs bs es os)), none, some (.val (.tuple r)), none], ?_, by simp [wipeE]⟩⟩
    have q := lc_gen (v := 3) (c := condD) (elt := d_doors_e1) rowP rowX [some (.val (progD rs bs es os)), none, some (.val (.tuple r)), none] (by simp) (by simp) r acc (fun x hx => by
      have rx := (h r hr).1 x hx
      exact ⟨cond_ok rx, fun hp => ⟨_, (rowX_ok rx hp).1, by simp⟩⟩) (by omega)
    exact q) (by have hl2 : ((rs.map PyData.tuple).flatMap lateT).length ≤ tot rs := hl; rw [List.length_nil]; omega)
  rw [List.nil_append] at e
  exact e
theorem doors_b1 {c : Int} {r : Dt} {L : List Dt} {w0 w2 : Option OV} (h : RowOk c r) (hl : L.length < 1000) : d__law_doors_b1 [w0, some (.lst (L.map .val)), w2, some (.val r)] = some (.nx [w0, some (.lst ((L ++ if rowP r = true then [rowX r] else []).map .val)), w2, some (.val r)]) := by
  have cc := cond_ok (w0 := w0) (w1 := some (.lst (L.map .val))) (w2 := w2) h
  have zl : sz (L.length + 1) = true := sz2 (by omega)
  unfold d__law_doors_b1
  by_cases hp : rowP r = true
  · have x := (rowX_ok (w0 := w0) (w1 := some (.lst (L.map .val))) (w2 := w2) h hp).1
    rw [hp] at cc
    unfold sIf
    rw [sB_of cc, if_pos rfl, if_pos hp]
    generalize m2 ixD (mV 3) (mC (.int 2)) = T at x ⊢
    simp [sExpr, ev_sB, mApp, ev_mB, x, zl, sNext]
  · have hp' : rowP r = false := by simpa using hp
    rw [hp'] at cc
    unfold sIf
    rw [sB_of cc, if_neg (by simp), if_neg hp, List.append_nil]
    rfl
end
end G

namespace G
open PySem PySem.Spec L2 DL
theorem rng_nat {f : M OV} {env env1 : DL.Env} {n : Nat} (h : f env = some (.ok (vi n) env1)) (hn : n ≤ 1000) : mRng1 f env = some (.ok (rngD 0 n) env1) := by
  unfold mRng1
  rw [mB_of h]
  have b : -(2 ^ 62) ≤ ((n : Nat) : Int) ∧ ((n : Nat) : Int) < 2 ^ 62 := ⟨by have : (0 : Int) ≤ n := Int.natCast_nonneg n; omega, by omega⟩
  simp only [if_pos b, Int.toNat_natCast]
  rfl
abbrev okT : Option Fo := some (.rt (.val (.bool true)) [])
theorem same_int (n : Nat) (i : Int) : F__law_same (n + 1) [vi i, vi i] = okT := by
  simp [F__law_same, d__law_same, runDef, sRet, ev_sB, ev_sSeq, sIf, sSet, sNext, sExpr, putE, mAndV, mOrV, mNotV, mIf, mAnd, mOr, mNot, mBl, ev_mB, mIsi, mV, mMv, isiD, oB, oI, bl?, outsE, mCall, mArs, takeSa, putSa, mChain, m2, g2, gI, mCB, A1, A2, mF, mCons, mNil, OV.frzL, mIxO, sSetIx, atI, ixN, mIsN, isNo, eqD, lowD, PyData.depth, PyData.eqv]
theorem neD_int (i : Int) : neD (.int i) (.int i) = some (oB false) := by
  simp [neD, lowD, PyData.depth, PyData.eqv, oB]
theorem if_no {c : M Bool} {s t : MS} {env : DL.Env} (h : c env = some (.ok false env)) : sIf c s t env = t env := by
  unfold sIf
  rw [sB_of h]
  rfl
section
variable {ds : List Dt} {d : Dt}
theorem c1 (hk : d = .list ds ∨ d = .tuple ds) : mOr (mBl (mIsN (mV 1))) (mBl (mIsN (mV 0))) [some (.val d), some (.val d), none] = some (.ok false [some (.val d), some (.val d), none]) := by
  rcases hk with rfl | rfl <;> simp [runDef, sRet, ev_sB, ev_sSeq, sIf, sSet, sNext, sExpr, putE, mAndV, mOrV, mNotV, mIf, mAnd, mOr, mNot, mBl, ev_mB, mIsi, mV, mMv, isiD, oB, oI, bl?, outsE, mCall, mArs, takeSa, putSa, mChain, m2, g2, gI, mCB, A1, A2, mF, mCons, mNil, OV.frzL, mIxO, sSetIx, atI, ixN, mIsN, isNo]
theorem c2 (hk : d = .list ds ∨ d = .tuple ds) : mOr (mBl (mIsi "bool" (mV 1))) (mBl (mIsi "bool" (mV 0))) [some (.val d), some (.val d), none] = some (.ok false [some (.val d), some (.val d), none]) := by
  rcases hk with rfl | rfl <;> simp [runDef, sRet, ev_sB, ev_sSeq, sIf, sSet, sNext, sExpr, putE, mAndV, mOrV, mNotV, mIf, mAnd, mOr, mNot, mBl, ev_mB, mIsi, mV, mMv, isiD, oB, oI, bl?, outsE, mCall, mArs, takeSa, putSa, mChain, m2, g2, gI, mCB, A1, A2, mF, mCons, mNil, OV.frzL, mIxO, sSetIx, atI, ixN]
theorem c3 (hk : d = .list ds ∨ d = .tuple ds) : mBl (mIsi "int" (mV 1)) [some (.val d), some (.val d), none] = some (.ok false [some (.val d), some (.val d), none]) := by
  rcases hk with rfl | rfl <;> simp [runDef, sRet, ev_sB, ev_sSeq, sIf, sSet, sNext, sExpr, putE, mAndV, mOrV, mNotV, mIf, mAnd, mOr, mNot, mBl, ev_mB, mIsi, mV, mMv, isiD, oB, oI, bl?, outsE, mCall, mArs, takeSa, putSa, mChain, m2, g2, gI, mCB, A1, A2, mF, mCons, mNil, OV.frzL, mIxO, sSetIx, atI, ixN]
theorem c4 (hk : d = .list ds ∨ d = .tuple ds) : mBl (mIsi "str" (mV 1)) [some (.val d), some (.val d), none] = some (.ok false [some (.val d), some (.val d), none]) := by
  rcases hk with rfl | rfl <;> simp [runDef, sRet, ev_sB, ev_sSeq, sIf, sSet, sNext, sExpr, putE, mAndV, mOrV, mNotV, mIf, mAnd, mOr, mNot, mBl, ev_mB, mIsi, mV, mMv, isiD, oB, oI, bl?, outsE, mCall, mArs, takeSa, putSa, mChain, m2, g2, gI, mCB, A1, A2, mF, mCons, mNil, OV.frzL, mIxO, sSetIx, atI, ixN]
theorem c5 (hk : d = .list ds ∨ d = .tuple ds) : mAnd (mBl (mIsi "tuple" (mV 1))) (mNot (mBl (mIsi "tuple" (mV 0)))) [some (.val d), some (.val d), none] = some (.ok false [some (.val d), some (.val d), none]) := by
  rcases hk with rfl | rfl <;> simp [runDef, sRet, ev_sB, ev_sSeq, sIf, sSet, sNext, sExpr, putE, mAndV, mOrV, mNotV, mIf, mAnd, mOr, mNot, mBl, ev_mB, mIsi, mV, mMv, isiD, oB, oI, bl?, outsE, mCall, mArs, takeSa, putSa, mChain, m2, g2, gI, mCB, A1, A2, mF, mCons, mNil, OV.frzL, mIxO, sSetIx, atI, ixN]
theorem c6 (hk : d = .list ds ∨ d = .tuple ds) : mAnd (mBl (mIsi "list" (mV 1))) (mNot (mBl (mIsi "list" (mV 0)))) [some (.val d), some (.val d), none] = some (.ok false [some (.val d), some (.val d), none]) := by
  rcases hk with rfl | rfl <;> simp [runDef, sRet, ev_sB, ev_sSeq, sIf, sSet, sNext, sExpr, putE, mAndV, mOrV, mNotV, mIf, mAnd, mOr, mNot, mBl, ev_mB, mIsi, mV, mMv, isiD, oB, oI, bl?, outsE, mCall, mArs, takeSa, putSa, mChain, m2, g2, gI, mCB, A1, A2, mF, mCons, mNil, OV.frzL, mIxO, sSetIx, atI, ixN]
theorem c7 (hk : d = .list ds ∨ d = .tuple ds) : mBl (m2 neD (mCB lenD (A1 (mV 0))) (mCB lenD (A1 (mV 1)))) [some (.val d), some (.val d), none] = some (.ok false [some (.val d), some (.val d), none]) := by
  have e : ∀ i : Nat, mCB lenD (A1 (mV i)) [some (.val d), some (.val d), none] = if i < 2 then some (.ok (vi ds.length) [some (.val d), some (.val d), none]) else mCB lenD (A1 (mV i)) [some (.val d), some (.val d), none] := fun i => by
    split
    · have hi : i = 0 ∨ i = 1 := by omega
      rcases hk with rfl | rfl <;> rcases hi with rfl | rfl <;> simp [runDef, sRet, ev_sB, ev_sSeq, sIf, sSet, sNext, sExpr, putE, mAndV, mOrV, mNotV, mIf, mAnd, mOr, mNot, mBl, ev_mB, mIsi, mV, mMv, isiD, oB, oI, bl?, outsE, mCall, mArs, takeSa, putSa, mChain, m2, g2, gI, mCB, A1, A2, mF, mCons, mNil, OV.frzL, mIxO, sSetIx, atI, ixN, lenD]
    · rfl
  unfold mBl m2
  rw [mB_of (a := oB false) (env1 := [some (.val d), some (.val d), none])]
  · rfl
  · rw [mB_of ((e 0).trans rfl), mB_of ((e 1).trans rfl)]
    have nd := neD_int ds.length
    simp only [ev_mO, g2, vi, frz_val, nd, Option.map_some]
theorem same_fin {R : Fn} {v2 : Option OV} {rg : List Dt} (hk : d = .list ds ∨ d = .tuple ds) (er : mRng1 (mCB lenD (A1 (mV 1))) [some (.val d), some (.val d), none] = some (.ok rg [some (.val d), some (.val d), none])) (e : loopS (gN 2) (d__law_same_b1 R) rg [some (.val d), some (.val d), none] = some (.nx [some (.val d), some (.val d), v2])) :
    runDef 3 2 [] (d__law_same R) [.val d, .val d] = okT := by
  have b : d__law_same R [some (.val d), some (.val d), none] = some (.rt (.val (.bool true)) [some (.val d), some (.val d), v2]) := by
    unfold d__law_same
    rw [sSeq_of ((if_no (c1 hk)).trans rfl), sSeq_of ((if_no (c2 hk)).trans rfl), sSeq_of ((if_no (c3 hk)).trans rfl), sSeq_of ((if_no (c4 hk)).trans rfl), sSeq_of ((if_no (c5 hk)).trans rfl), sSeq_of ((if_no (c6 hk)).trans rfl), sSeq_of ((if_no (c7 hk)).trans rfl)]
    exact (sSeq_of (show sFor (mRng1 (mCB lenD (A1 (mV 1)))) (gN 2) (d__law_same_b1 R) _ = _ from (sB_of er).trans e)).trans rfl
  unfold runDef
  rw [if_pos (show [OV.val d, OV.val d].length = 2 from rfl)]
  have w : ([OV.val d, OV.val d].map some ++ List.replicate (3 - 2) none : DL.Env) = [some (.val d), some (.val d), none] := rfl
  rw [w, b]
  rfl
end
theorem same_body {R : Fn} {d x : Dt} {j : Nat} (hx : ixD d (.int j) = some (.val x)) (hs : R [.val x, .val x] = okT) : d__law_same_b1 R [some (.val d), some (.val d), some (vi j)] = some (.nx [some (.val d), some (.val d), some (vi j)]) := by
  simp [d__law_same_b1, runDef, sRet, ev_sB, ev_sSeq, sIf, sSet, sNext, sExpr, putE, mAndV, mOrV, mNotV, mIf, mAnd, mOr, mNot, mBl, ev_mB, mIsi, mV, mMv, isiD, oB, oI, bl?, outsE, mCall, mArs, takeSa, putSa, mChain, m2, g2, gI, mCB, A1, A2, mF, mCons, mNil, OV.frzL, mIxO, sSetIx, atI, ixN, hx, hs]
theorem same_seq {n : Nat} {ds : List Dt} {d : Dt} (hk : d = .list ds ∨ d = .tuple ds) (h : ∀ x ∈ ds, F__law_same n [.val x, .val x] = okT) (hl : ds.length ≤ 1000) : F__law_same (n + 1) [.val d, .val d] = okT := by
  have loop := loopS_inv (g := gN 2) (body := d__law_same_b1 (F__law_same n))
    (fun rest env => ∃ v2, env = [some (.val d), some (.val d), v2] ∧ ∀ x ∈ rest, ∃ j : Nat, x = .int j ∧ j < ds.length)
    (rngD 0 ds.length) [some (.val d), some (.val d), none] ⟨none, rfl, fun x hx => rng_mem hx⟩ (by
      rintro x rest env ⟨v2, rfl, hr⟩
      obtain ⟨j, rfl, hj⟩ := hr x List.mem_cons_self
      have hix : ixD d (.int j) = some (.val ds[j]) := by
        rcases hk with rfl | rfl
        · exact ixL hj
        · exact ixT hj
      exact ⟨[some (.val d), some (.val d), some (vi j)], by simp [gN, putE], _, .inl (same_body hix (h _ (List.getElem_mem hj))), some (vi j), rfl, fun y hy => hr y (List.mem_cons_of_mem _ hy)⟩)
  obtain ⟨env', e, v2, rfl, _⟩ := loop
  have er : mRng1 (mCB lenD (A1 (mV 1))) [some (.val d), some (.val d), none] = some (.ok (rngD 0 ds.length) [some (.val d), some (.val d), none]) := rng_nat (by
    rcases hk with rfl | rfl <;> simp [runDef, sRet, ev_sB, ev_sSeq, sIf, sSet, sNext, sExpr, putE, mAndV, mOrV, mNotV, mIf, mAnd, mOr, mNot, mBl, ev_mB, mIsi, mV, mMv, isiD, oB, oI, bl?, outsE, mCall, mArs, takeSa, putSa, mChain, m2, g2, gI, mCB, A1, A2, mF, mCons, mNil, OV.frzL, mIxO, sSetIx, atI, ixN, lenD]) hl
  exact same_fin hk er e
theorem stream_body {m x : Int} {w0 : Option OV} : ∃ m' : Int, d__law_stream_b1 [w0, some (vi m), some (vi x)] = some (.nx [w0, some (vi m'), some (vi x)]) := by
  have hm : mulC m 69069 = true := by simp [mulC]
  exact ⟨_, by simp [d__law_stream_b1, runDef, sRet, ev_sB, ev_sSeq, sIf, sSet, sNext, sExpr, putE, mAndV, mOrV, mNotV, mIf, mAnd, mOr, mNot, mBl, ev_mB, mIsi, mV, mMv, isiD, oB, oI, bl?, outsE, mCall, mArs, takeSa, putSa, mChain, m2, g2, gI, mCB, A1, A2, mF, mCons, mNil, OV.frzL, mIxO, sSetIx, atI, ixN, intD, addD, hm]; rfl⟩
theorem stream_fin {ns : List Int} {m : Int} {v2 : Option OV} {b : MS} (e : loopS (gN 2) b (ns.map .int) [some (.val (.list (ns.map .int))), some (vi 1), none] = some (.nx [some (.val (.list (ns.map .int))), some (vi m), v2])) :
    runDef 3 1 [] (sSeq (sSet 1 (mC (.int 1))) (sSeq (sFor (mIt (mV 0)) (gN 2) b) (sRet (mLstF (mCons (mCB listD (A1 (mV 0))) (mCons (mC (.int 0)) (mCons (mC (.int 0)) (mCons (mV 1) (mCons (mC (.int 0)) mNil))))))))) [.val (.list (ns.map .int))] = some (.rt (strm ns 0 0 m 0) []) := by
  have z5 : sz 5 = true := sz2 (by decide)
  have fr : ∀ ds : List Dt, (OV.lst (ds.map .val)).frz = some (.list ds) := frz_lst
  unfold strm
  generalize ns.map PyData.int = L at e ⊢
  simp [runDef, sRet, ev_sB, ev_sSeq, sIf, sSet, sNext, sExpr, putE, mAndV, mOrV, mNotV, mIf, mAnd, mOr, mNot, mBl, ev_mB, mIsi, mV, mMv, isiD, oB, oI, bl?, outsE, mCall, mArs, takeSa, putSa, mChain, m2, g2, gI, mCB, A1, A2, mF, mCons, mNil, OV.frzL, mIxO, sSetIx, atI, ixN, sFor, mIt, DL.items?, e, mLstF, listD, z5, fr]
theorem stream_ok (ns : List Int) : ∃ s, F__law_stream [.val (.list (ns.map .int))] = some (.rt s []) ∧ StOk s := by
  have loop := loopS_inv (g := gN 2) (body := d__law_stream_b1)
    (fun rest env => ∃ (m : Int) (v2 : Option OV), env = [some (.val (.list (ns.map .int))), some (vi m), v2] ∧ ∀ x ∈ rest, ∃ i : Int, x = .int i)
    (ns.map .int) [some (.val (.list (ns.map .int))), some (vi 1), none] ⟨1, none, rfl, fun x hx => by
      obtain ⟨i, _, rfl⟩ := List.mem_map.mp hx
      exact ⟨i, rfl⟩⟩ (by
      rintro x rest env ⟨m, v2, rfl, hr⟩
      obtain ⟨i, rfl⟩ := hr x List.mem_cons_self
      obtain ⟨m', e⟩ := stream_body (m := m) (x := i) (w0 := some (.val (.list (ns.map .int))))
      exact ⟨[some (.val (.list (ns.map .int))), some (vi m), some (vi i)], by simp [gN, putE], _, .inl e, m', some (vi i), rfl, fun y hy => hr y (List.mem_cons_of_mem _ hy)⟩)
  obtain ⟨env', e, m, v2, rfl, _⟩ := loop
  exact ⟨strm ns 0 0 m 0, stream_fin e, ns, 0, 0, m, 0, rfl, by decide, Nat.zero_le _⟩
theorem same_ints (is : List Int) (hl : is.length ≤ 1000) : F__law_same 6 [.val (.list (is.map .int)), .val (.list (is.map .int))] = okT :=
  same_seq (n := 5) (.inl rfl) (fun x hx => by
    obtain ⟨i, _, rfl⟩ := List.mem_map.mp hx
    exact same_int 4 i) (by rw [List.length_map]; exact hl)
section
variable {c : Int} {rs : List (List Dt)} {bs : List Bool} {es os : List Dt}
theorem row_doors {r L : List Dt} {w0 w3 : Option OV} (h : ∀ x ∈ r, RowOk c x) (hl : L.length + r.length < 1000) : ∃ v3, d__law_doors_b2 [w0, some (.lst (L.map .val)), some (.val (.tuple r)), w3] = some (.nx [w0, some (.lst ((L ++ (r.filter rowP).map rowX).map .val)), some (.val (.tuple r)), v3]) := by
  have loop := loopS_inv (g := gN 3) (body := d__law_doors_b1)
    (fun rest env => ∃ (done : List Dt) (v3 : Option OV), r = done ++ rest ∧ env = [w0, some (.lst ((L ++ (done.filter rowP).map rowX).map .val)), some (.val (.tuple r)), v3])
    r [w0, some (.lst (L.map .val)), some (.val (.tuple r)), w3] ⟨[], w3, rfl, by simp⟩ (by
      rintro d rest env ⟨done, v3, hd, rfl⟩
      have hm : d ∈ r := by rw [hd]; exact List.mem_append_right _ List.mem_cons_self
      have hfl : ((done.filter rowP).map rowX).length ≤ done.length := by rw [List.length_map]; exact List.length_filter_le _ _
      have hdl := congrArg List.length hd
      rw [List.length_append, List.length_cons] at hdl
      have e := doors_b1 (w0 := w0) (w2 := some (.val (.tuple r))) (L := L ++ (done.filter rowP).map rowX) (h d hm) (by rw [List.length_append]; omega)
      refine ⟨[w0, some (.lst ((L ++ (done.filter rowP).map rowX).map .val)), some (.val (.tuple r)), some (.val d)], by simp [gN, putE], _, .inl e, done ++ [d], some (.val d), by rw [hd]; simp, ?_⟩
      by_cases hp : rowP d = true
      · simp [hp, List.filter_append]
      · simp [hp, List.filter_append])
  obtain ⟨env', e, done, v3, hd, rfl⟩ := loop
  rw [List.append_nil] at hd
  subst hd
  refine ⟨v3, ?_⟩
  have it : mIt (mV 2) [w0, some (.lst (L.map .val)), some (.val (.tuple r)), w3] = some (.ok r [w0, some (.lst (L.map .val)), some (.val (.tuple r)), w3]) := by simp [mIt, mV, ev_mB, DL.items?]
  exact (sB_of it).trans e
theorem law_doors_fin {PG : Dt} {RS es NM : List Dt} {v2 v3 : Option OV} {out : List OV} {b : MS} (p0 : ixD PG (.int 0) = some (.val (.tuple RS))) (p2 : ixD PG (.int 2) = some (.val (.tuple es))) (e : loopS (gN 2) b RS [some (.val PG), some (.lst (es.map .val)), none, none] = some (.nx [some (.val PG), some (.lst ((es ++ NM).map .val)), v2, v3])) (hs : sortSetD (.list (es ++ NM)) = some (.lst out)) :
    runDef 4 1 [] (sSeq (sSet 1 (mCB listD (A1 (m2 ixD (mV 0) (mC (.int 2)))))) (sSeq (sFor (mIt (m2 ixD (mV 0) (mC (.int 0)))) (gN 2) b) (sRet (mSortSet (mV 1))))) [.val PG] = some (.rt (.lst out) []) := by
  have fr : ∀ ds : List Dt, (OV.lst (ds.map .val)).frz = some (.list ds) := frz_lst
  generalize es ++ NM = EN at e hs
  simp [runDef, sRet, ev_sB, ev_sSeq, sIf, sSet, sNext, sExpr, putE, mAndV, mOrV, mNotV, mIf, mAnd, mOr, mNot, mBl, ev_mB, mIsi, mV, mMv, isiD, oB, oI, bl?, outsE, mCall, mArs, takeSa, putSa, mChain, m2, g2, gI, mCB, A1, A2, mF, mCons, mNil, OV.frzL, mIxO, sSetIx, atI, ixN, sFor, mIt, DL.items?, p0, p2, listD, e, mSortSet, fr, hs]
theorem law_doors_ok {out : List OV} (h : ∀ r ∈ rs, (∀ x ∈ r, RowOk c x) ∧ r.length ≤ 5) (ht : tot rs ≤ 12) (h3 : es.length ≤ 3) (hr4 : rs.length ≤ 4) (hs : sortSetD (.list (es ++ dsD rs)) = some (.lst out)) : F__law_doors [.val (progD rs bs es os)] = some (.rt (.lst out) []) := by
  have p0 := prog0 (rs := rs) (bs := bs) (es := es) (os := os)
  have p2 := prog2 (rs := rs) (bs := bs) (es := es) (os := os)
  generalize progD rs bs es os = PG at p0 p2 ⊢
  have loop := loopS_inv (g := gN 2) (body := d__law_doors_b2)
    (fun rest env => ∃ (done restl : List (List Dt)) (v2 v3 : Option OV), rs = done ++ restl ∧ rest = restl.map .tuple ∧ env = [some (.val PG), some (.lst ((es ++ dsD done).map .val)), v2, v3])
    (rs.map .tuple) [some (.val PG), some (.lst (es.map .val)), none, none] ⟨[], rs, none, none, rfl, rfl, by simp⟩ (by
      rintro d rest env ⟨done, restl, v2, v3, hd, hrest, rfl⟩
      cases restl with
      | nil => cases hrest
      | cons r restl =>
        rw [List.map_cons, List.cons.injEq] at hrest
        obtain ⟨rfl, rfl⟩ := hrest
        have hm : r ∈ rs := by rw [hd]; exact List.mem_append_right _ List.mem_cons_self
        have l1 := ds_len done
        have l2 : tot done ≤ tot rs := by rw [hd]; simp [tot]
        have l3 := (h r hm).2
        obtain ⟨v3', e⟩ := row_doors (w0 := some (.val PG)) (w3 := v3) (L := es ++ dsD done) (h r hm).1 (by rw [List.length_append]; omega)
        refine ⟨[some (.val PG), some (.lst ((es ++ dsD done).map .val)), some (.val (.tuple r)), v3], by simp [gN, putE], _, .inl e, done ++ [r], restl, some (.val (.tuple r)), v3', by rw [hd]; simp, rfl, ?_⟩
        have : dsD (done ++ [r]) = dsD done ++ (r.filter rowP).map rowX := by simp [dsD, lateT]
        rw [this, List.append_assoc])
  obtain ⟨env', e, done, restl, v2, v3, hd, hrest, rfl⟩ := loop
  have hn : restl = [] := by
    cases restl with
    | nil => rfl
    | cons _ _ => cases hrest
  subst hn
  rw [List.append_nil] at hd
  subst hd
  exact law_doors_fin (NM := dsD rs) p0 p2 e hs
end
end G

namespace G
open PySem PySem.Spec L2 DL
theorem late_row {c : Int} {s : OV} {w1 w3 w4 w5 w6 : Option OV} (hs : StOk s) (c0 : 0 < c) (c4 : c ≤ 4) : ∃ (x : Dt) (s' : OV), d__law_lates_e1 [some s, w1, some (vi c), w3, w4, w5, w6] = some (.ok (.val x) [some s', w1, some (vi c), w3, w4, w5, w6]) ∧ RowOk c x ∧ isOut x = false ∧ StOk s' := by
  obtain ⟨k, s1, e1, k0, k1, hs1⟩ := draw_ok (L := 4) hs (by decide) (by decide)
  obtain ⟨n, hn, en⟩ := abcd_ix k0 k1
  obtain ⟨p, s2, e2, p0, p1, hs2⟩ := draw_ok (L := c + 1) hs1 (by omega) (by omega)
  have z0 : sz 0 = true := sz2 (by decide)
  have z4 : sz 4 = true := sz2 (by decide)
  refine ⟨.tuple [.str "late", .str n, .int (p - 1), .tuple []], s2, ?_, .late n (p - 1) [] hn (by omega) (by omega) (fun d h => by cases h) (by simp), rfl, hs2⟩
  simp [d__law_lates_e1, runDef, sRet, ev_sB, ev_sSeq, sIf, sSet, sNext, sExpr, putE, mAndV, mOrV, mNotV, mIf, mAnd, mOr, mNot, mBl, ev_mB, mIsi, mV, mMv, isiD, oB, oI, bl?, outsE, mCall, mArs, takeSa, putSa, mChain, m2, g2, gI, mCB, A1, A2, mF, mCons, mNil, OV.frzL, mIxO, sSetIx, atI, ixN, mTup, e1, en, addD, e2, z0, z4]
theorem late_line {c : Int} {r : List Dt} {s : OV} {rs : List (List Dt)} {w1 w5 w6 : Option OV} (hs : StOk s) (c0 : 0 < c) (c4 : c ≤ 4) (h5 : r.length ≤ 5) (hl : rs.length < 1000) : ∃ (q : List Dt) (s' : OV) (v5 : Option OV), d__law_lates_b1 [some s, w1, some (vi c), some (.lst (rwO rs)), some (.val (.tuple r)), w5, w6] = some (.nx [some s', w1, some (vi c), some (.lst (rwO (rs ++ [q]))), some (.val (.tuple r)), v5, w6]) ∧
    (∀ x ∈ q, RowOk c x ∧ isOut x = false) ∧ q.length = r.length ∧ StOk s' := by
  obtain ⟨xs, env', e, hxl, hx, s2, rfl, hs2⟩ := comp_gen (v := 6) (elt := d__law_lates_e1) (fun x => RowOk c x ∧ isOut x = false) (fun env => ∃ s2, env = [some s2, w1, some (vi c), some (.lst (rwO rs)), some (.val (.tuple r)), w5, none] ∧ StOk s2) r (by omega) (by
    rintro d hd env ⟨s2, rfl, hs2⟩
    obtain ⟨x, s3, e3, h1, h2, hs3⟩ := late_row (w1 := w1) (w3 := some (.lst (rwO rs))) (w4 := some (.val (.tuple r))) (w5 := w5) (w6 := some (.val d)) hs2 c0 c4
    exact ⟨by simp, x, _, e3, ⟨h1, h2⟩, s3, by simp, hs3⟩) _ ⟨s, rfl, hs⟩
  refine ⟨xs, s2, some (.val (.list xs)), ?_, hx, hxl, hs2⟩
  have zr : sz (rs.length + 1) = true := sz2 (by omega)
  have fr : ∀ ds : List Dt, (OV.lst (ds.map .val)).frz = some (.list ds) := frz_lst
  simp [d__law_lates_b1, runDef, sRet, ev_sB, ev_sSeq, sIf, sSet, sNext, sExpr, putE, mAndV, mOrV, mNotV, mIf, mAnd, mOr, mNot, mBl, ev_mB, mIsi, mV, mMv, isiD, oB, oI, bl?, outsE, mCall, mArs, takeSa, putSa, mChain, m2, g2, gI, mCB, A1, A2, mF, mCons, mNil, OV.frzL, mIxO, sSetIx, atI, ixN, mLc, mIt, DL.items?, wipeE, restoreE, e, fr, tupleD, mApp, zr]
theorem cnt_zero {q : List Dt} (h : ∀ x ∈ q, isOut x = false) : cnt q = 0 := by
  unfold cnt
  rw [List.filter_eq_nil_iff.mpr fun x hx => by rw [h x hx]; simp]
  rfl
theorem lates_fin {PG A0 A1' A2' A3' : Dt} {RS RW : List Dt} {s s' : OV} {v4 v5 v6 : Option OV} {b : MS} (p0 : ixD PG (.int 0) = some (.val (.tuple RS))) (p1 : ixD PG (.int 1) = some (.val A1')) (p2 : ixD PG (.int 2) = some (.val A2')) (p3 : ixD PG (.int 3) = some (.val A3'))
    (e : loopS (gN 4) b RS [some s, some (.val PG), some (vi RS.length), some (.lst []), none, none, none] = some (.nx [some s', some (.val PG), some (vi RS.length), some (.lst (RW.map .val)), v4, v5, v6])) :
    runDef 7 2 [0] (sSeq (sSet 2 (mCB lenD (A1 (m2 ixD (mV 1) (mC (.int 0)))))) (sSeq (sSet 3 (mLstF mNil)) (sSeq (sFor (mIt (m2 ixD (mV 1) (mC (.int 0)))) (gN 4) b) (sRet (mTup (mCons (mCB tupleD (A1 (mV 3))) (mCons (m2 ixD (mV 1) (mC (.int 1))) (mCons (m2 ixD (mV 1) (mC (.int 2))) (mCons (m2 ixD (mV 1) (mC (.int 3))) mNil))))))))) [s, .val PG] = some (.rt (.val (.tuple [.tuple RW, A1', A2', A3'])) [s']) := by
  have z0 : sz 0 = true := sz2 (by decide)
  have z4 : sz 4 = true := sz2 (by decide)
  have fr : ∀ ds : List Dt, (OV.lst (ds.map .val)).frz = some (.list ds) := frz_lst
  simp [runDef, sRet, ev_sB, ev_sSeq, sIf, sSet, sNext, sExpr, putE, mAndV, mOrV, mNotV, mIf, mAnd, mOr, mNot, mBl, ev_mB, mIsi, mV, mMv, isiD, oB, oI, bl?, outsE, mCall, mArs, takeSa, putSa, mChain, m2, g2, gI, mCB, A1, A2, mF, mCons, mNil, OV.frzL, mIxO, sSetIx, atI, ixN, sFor, mIt, DL.items?, p0, lenD, mLstF, z0, e, fr, tupleD, p1, p2, p3, mTup, z4]
theorem lates_ok {c : Int} {rs : List (List Dt)} {bs : List Bool} {es os : List Dt} {s : OV} (hs : StOk s) (h : ProgOk c rs bs es os) : ∃ (rs' : List (List Dt)) (s' : OV), F__law_lates [s, .val (progD rs bs es os)] = some (.rt (.val (progD rs' bs es os)) [s']) ∧ ProgOk c rs' bs es os ∧ StOk s' := by
  have p0 := prog0 (rs := rs) (bs := bs) (es := es) (os := os)
  have p1 := prog1 (rs := rs) (bs := bs) (es := es) (os := os)
  have p2 := prog2 (rs := rs) (bs := bs) (es := es) (os := os)
  have p3 := prog3 (rs := rs) (bs := bs) (es := es) (os := os)
  have hl := h.len
  have hc4 := h.c4
  have hlc : (((rs.map PyData.tuple).length : Nat) : Int) = c := by rw [List.length_map]; exact hl
  have loop := loopS_inv (g := gN 4) (body := d__law_lates_b1)
    (fun rest env => ∃ (s2 : OV) (rs' done restl : List (List Dt)) (v4 v5 v6 : Option OV), env = [some s2, some (.val (progD rs bs es os)), some (vi c), some (.lst (rwO rs')), v4, v5, v6] ∧ rs = done ++ restl ∧ rest = restl.map .tuple ∧ rs'.length = done.length ∧ tot rs' = tot done ∧ cnts rs' = 0 ∧ (∀ r ∈ rs', (∀ x ∈ r, RowOk c x) ∧ r.length ≤ 5) ∧ StOk s2)
    (rs.map .tuple) [some s, some (.val (progD rs bs es os)), some (vi c), some (.lst []), none, none, none] ⟨s, [], [], rs, none, none, none, rfl, rfl, rfl, rfl, rfl, rfl, fun r h => (by cases h), hs⟩ (by
      rintro d rest env ⟨s2, rs', done, restl, v4, v5, v6, rfl, hd, hrest, hlen, ht, hcn, hr, hs2⟩
      cases restl with
      | nil => cases hrest
      | cons r restl =>
        rw [List.map_cons, List.cons.injEq] at hrest
        obtain ⟨rfl, rfl⟩ := hrest
        have hm : r ∈ rs := by rw [hd]; exact List.mem_append_right _ List.mem_cons_self
        have r5 := (h.rows r hm).2
        have hdl := congrArg List.length hd
        rw [List.length_append, List.length_cons] at hdl
        obtain ⟨q, s3, v5', e, hq, hql, hs3⟩ := late_line (w1 := some (.val (progD rs bs es os))) (w5 := v5) (w6 := v6) (rs := rs') (r := r) hs2 h.c0 h.c4 r5 (by omega)
        refine ⟨[some s2, some (.val (progD rs bs es os)), some (vi c), some (.lst (rwO rs')), some (.val (.tuple r)), v5, v6], by simp [gN, putE], _, .inl e, s3, rs' ++ [q], done ++ [r], restl, some (.val (.tuple r)), v5', v6, rfl, by rw [hd]; simp, rfl, by simp [hlen], by rw [tot_snoc, tot_snoc, ht, hql], by rw [cnts_snoc, hcn, cnt_zero fun x hx => (hq x hx).2], fun x hx => ?_, hs3⟩
        rcases List.mem_append.mp hx with hx | hx
        · exact hr x hx
        · rw [List.mem_singleton.mp hx]
          exact ⟨fun y hy => (hq y hy).1, by omega⟩)
  obtain ⟨env', e, s2, rs', done, restl, v4, v5, v6, rfl, hd, hrest, hlen, ht, hcn, hr, hs2⟩ := loop
  have hn : restl = [] := by
    cases restl with
    | nil => rfl
    | cons _ _ => cases hrest
  subst hn
  rw [List.append_nil] at hd
  subst hd
  refine ⟨rs', s2, ?_, ⟨h.c0, h.c4, by rw [hlen]; exact h.len, hr, by rw [ht]; exact h.tot12, by rw [hcn]; omega, h.bl, h.ent, h.entA, h.ent1, h.ent3, h.opn, h.opnA, h.opn4⟩, hs2⟩
  rw [← hlc] at e
  have er : rwO rs' = (rs'.map PyData.tuple).map .val := by simp [rwO]
  rw [er] at e
  exact lates_fin (A0 := .none) p0 p1 p2 p3 e
theorem doors_of_fin {PG : Dt} {PL : List OV} (h1 : F_is_program [.val PG] = okT) (h2 : F_doors [.val PG] = some (.rt (.lst PL) [])) : F_doors_of [.val PG] = some (.rt (.lst PL) []) := by
  have h3 : F_need_program [.val PG] = some (.rt (.val .none) []) := by simp [F_need_program, d_need_program, runDef, sRet, ev_sB, ev_sSeq, sIf, sSet, sNext, sExpr, putE, mAndV, mOrV, mNotV, mIf, mAnd, mOr, mNot, mBl, ev_mB, mIsi, mV, mMv, isiD, oB, oI, bl?, outsE, mCall, mArs, takeSa, putSa, mChain, m2, g2, gI, mCB, A1, A2, mF, mCons, mNil, OV.frzL, mIxO, sSetIx, atI, ixN, h1]
  simp [F_doors_of, d_doors_of, runDef, sRet, ev_sB, ev_sSeq, sIf, sSet, sNext, sExpr, putE, mAndV, mOrV, mNotV, mIf, mAnd, mOr, mNot, mBl, ev_mB, mIsi, mV, mMv, isiD, oB, oI, bl?, outsE, mCall, mArs, takeSa, putSa, mChain, m2, g2, gI, mCB, A1, A2, mF, mCons, mNil, OV.frzL, mIxO, sSetIx, atI, ixN, h2, h3]
theorem law_fin1 {sc PG PH : Dt} {PL : List Dt} {s s1 s2 s3 : OV} {k : Int} (h1 : F__law_stream [.val sc] = some (.rt s [])) (hd : F__law_draw [s, vi 2] = some (.rt (vi k) [s1])) (hk : k = 1) (h2 : F__law_program [s1] = some (.rt (.val PG) [s2])) (hlt : F__law_lates [s2, .val PG] = some (.rt (.val PH) [s3])) (h3 : F__law_doors [.val PH] = some (.rt (.lst (PL.map .val)) [])) (h4 : F_doors_of [.val PH] = some (.rt (.lst (PL.map .val)) []))
    (h5 : F__law_same 6 [.val (.list PL), .val (.list PL)] = okT) (hl : PL.length ≤ 100) : F_law [.val sc] = okT := by
  subst hk
  have zl : sz (PL.length + 1) = true := sz2 (by omega)
  have fr : ∀ ds : List Dt, (OV.lst (ds.map .val)).frz = some (.list ds) := frz_lst
  simp only [F_law, d_law]
  generalize F__law_same 6 = SM at h5 ⊢
  simp [runDef, sRet, ev_sB, ev_sSeq, sIf, sSet, sNext, sExpr, putE, mAndV, mOrV, mNotV, mIf, mAnd, mOr, mNot, mBl, ev_mB, mIsi, mV, mMv, isiD, oB, oI, bl?, outsE, mCall, mArs, takeSa, putSa, mChain, m2, g2, gI, mCB, A1, A2, mF, mCons, mNil, OV.frzL, mIxO, sSetIx, atI, ixN, mThawB, frzS, h1, hd, eqD, lowD, PyData.depth, PyData.eqv, mTru, truD, h2, hlt, h3, h4, h5, fr, mApp, mRev, zl]
theorem law_fin0 {sc PG : Dt} {PL : List Dt} {s s1 s2 : OV} {k : Int} (h1 : F__law_stream [.val sc] = some (.rt s [])) (hd : F__law_draw [s, vi 2] = some (.rt (vi k) [s1])) (hk : ¬ k = 1) (h2 : F__law_program [s1] = some (.rt (.val PG) [s2])) (h3 : F__law_doors [.val PG] = some (.rt (.lst (PL.map .val)) [])) (h4 : F_doors_of [.val PG] = some (.rt (.lst (PL.map .val)) []))
    (h5 : F__law_same 6 [.val (.list PL), .val (.list PL)] = okT) (hl : PL.length ≤ 100) : F_law [.val sc] = okT := by
  have zl : sz (PL.length + 1) = true := sz2 (by omega)
  have fr : ∀ ds : List Dt, (OV.lst (ds.map .val)).frz = some (.list ds) := frz_lst
  simp only [F_law, d_law]
  generalize F__law_same 6 = SM at h5 ⊢
  simp [runDef, sRet, ev_sB, ev_sSeq, sIf, sSet, sNext, sExpr, putE, mAndV, mOrV, mNotV, mIf, mAnd, mOr, mNot, mBl, ev_mB, mIsi, mV, mMv, isiD, oB, oI, bl?, outsE, mCall, mArs, takeSa, putSa, mChain, m2, g2, gI, mCB, A1, A2, mF, mCons, mNil, OV.frzL, mIxO, sSetIx, atI, ixN, mThawB, frzS, h1, hd, eqD, lowD, PyData.depth, PyData.eqv, hk, mTru, truD, h2, h3, h4, h5, fr, mApp, mRev, zl]
theorem law_ok (ns : List Int) : F_law [.val (.list (ns.map .int))] = okT := by
  obtain ⟨s, e1, hs⟩ := stream_ok ns
  obtain ⟨k, s1, ek, _, _, hs1⟩ := draw_ok (L := 2) hs (by decide) (by decide)
  obtain ⟨c, rs, bs, es, os, s2, e2, hp, hs2⟩ := program_ok hs1
  by_cases hk : k = 1
  · obtain ⟨rs', s3, e3, hp', _⟩ := lates_ok hs2 hp
    obtain ⟨is, hi, hil⟩ := sorted_all (c := c) (rs := rs') (es := es) (fun r hr => (hp'.rows r hr).1) hp'.tot12 hp'.ent hp'.ent3
    have a := hp'.len
    have b := hp'.c4
    exact law_fin1 e1 ek hk e2 e3 (law_doors_ok hp'.rows hp'.tot12 hp'.ent3 (by omega) hi) (doors_of_fin (is_program_ok hp') (doors_ok hp'.rows hp'.tot12 hp'.ent3 hi)) (same_ints is (by omega)) (by rw [List.length_map]; omega)
  · obtain ⟨is, hi, hil⟩ := sorted_all (c := c) (rs := rs) (es := es) (fun r hr => (hp.rows r hr).1) hp.tot12 hp.ent hp.ent3
    have a := hp.len
    have b := hp.c4
    exact law_fin0 e1 ek hk e2 (law_doors_ok hp.rows hp.tot12 hp.ent3 (by omega) hi) (doors_of_fin (is_program_ok hp) (doors_ok hp.rows hp.tot12 hp.ent3 hi)) (same_ints is (by omega)) (by rw [List.length_map]; omega)
end G

namespace G
open PySem PySem.Spec L2 DL
section
variable {w : World} {K : PySem.W.Frag} {mg : Str → Option Value} {base : Heap}
theorem okF_law (T : Txt K mg) {fa : Addr} {fd : FuncData} (F : Fun K "law" "law" st_law fa fd) : FnOk PySem.Challenge.pw_leanbundle_k02_doors w K mg base (L2.CX PySem.Challenge.pw_leanbundle_k02_doors w) 10 fa fd ["script"] (dSp K mg [] 1 F_law) := by
  have o__law_doors : DefOk PySem.Challenge.pw_leanbundle_k02_doors w K mg base 1 "_law_doors" ["program"] [] F__law_doors := ok__law_doors T
  have o__law_mixed : DefOk PySem.Challenge.pw_leanbundle_k02_doors w K mg base 1 "_law_mixed" ["number", "turn"] [] F__law_mixed := ok__law_mixed T
  have o__law_draw : DefOk PySem.Challenge.pw_leanbundle_k02_doors w K mg base 2 "_law_draw" ["stream", "limit"] [0] F__law_draw := ok__law_draw T o__law_mixed
  have o__law_lates : DefOk PySem.Challenge.pw_leanbundle_k02_doors w K mg base 3 "_law_lates" ["stream", "program"] [0] F__law_lates := ok__law_lates T o__law_draw
  have o__law_name : DefOk PySem.Challenge.pw_leanbundle_k02_doors w K mg base 3 "_law_name" ["stream", "given", "count"] [0] F__law_name := ok__law_name T o__law_draw
  have o__law_plans : DefOk PySem.Challenge.pw_leanbundle_k02_doors w K mg base 3 "_law_plans" ["stream", "count"] [0] F__law_plans := ok__law_plans T o__law_draw
  have o__law_needs : DefOk PySem.Challenge.pw_leanbundle_k02_doors w K mg base 4 "_law_needs" ["stream", "most", "given", "count"] [0] F__law_needs := ok__law_needs T o__law_draw o__law_name
  have o__law_row : DefOk PySem.Challenge.pw_leanbundle_k02_doors w K mg base 5 "_law_row" ["stream", "plan", "given", "count"] [0] F__law_row := ok__law_row T o__law_draw o__law_needs
  have o__law_program : DefOk PySem.Challenge.pw_leanbundle_k02_doors w K mg base 6 "_law_program" ["stream"] [0] F__law_program := ok__law_program T o__law_draw o__law_name o__law_plans o__law_row
  have o__law_same : DefOk PySem.Challenge.pw_leanbundle_k02_doors w K mg base 6 "_law_same" ["actual", "due"] [] (F__law_same 6) := ok__law_same T 6
  have o__law_stream : DefOk PySem.Challenge.pw_leanbundle_k02_doors w K mg base 1 "_law_stream" ["script"] [] F__law_stream := ok__law_stream T
  have o_doors : DefOk PySem.Challenge.pw_leanbundle_k02_doors w K mg base 1 "doors" ["program"] [] F_doors := ok_doors T
  have o_is_ascending : DefOk PySem.Challenge.pw_leanbundle_k02_doors w K mg base 1 "is_ascending" ["items"] [] F_is_ascending := ok_is_ascending T
  have o_is_integer : DefOk PySem.Challenge.pw_leanbundle_k02_doors w K mg base 1 "is_integer" ["thing"] [] F_is_integer := ok_is_integer T
  have o_is_number : DefOk PySem.Challenge.pw_leanbundle_k02_doors w K mg base 2 "is_number" ["thing", "count"] [] F_is_number := ok_is_number T o_is_integer
  have o_is_entries : DefOk PySem.Challenge.pw_leanbundle_k02_doors w K mg base 3 "is_entries" ["thing", "count"] [] F_is_entries := ok_is_entries T o_is_ascending o_is_number
  have o_is_flag : DefOk PySem.Challenge.pw_leanbundle_k02_doors w K mg base 1 "is_flag" ["thing"] [] F_is_flag := ok_is_flag T
  have o_is_marks : DefOk PySem.Challenge.pw_leanbundle_k02_doors w K mg base 2 "is_marks" ["thing", "count"] [] F_is_marks := ok_is_marks T o_is_flag
  have o_is_name : DefOk PySem.Challenge.pw_leanbundle_k02_doors w K mg base 1 "is_name" ["thing"] [] F_is_name := ok_is_name T
  have o_is_named : DefOk PySem.Challenge.pw_leanbundle_k02_doors w K mg base 3 "is_named" ["thing", "count"] [] F_is_named := ok_is_named T o_is_name o_is_number
  have o_is_opens : DefOk PySem.Challenge.pw_leanbundle_k02_doors w K mg base 4 "is_opens" ["thing", "count"] [] F_is_opens := ok_is_opens T o_is_ascending o_is_named
  have o_is_needs : DefOk PySem.Challenge.pw_leanbundle_k02_doors w K mg base 4 "is_needs" ["thing", "count", "most"] [] F_is_needs := ok_is_needs T o_is_named
  have o_is_row : DefOk PySem.Challenge.pw_leanbundle_k02_doors w K mg base 5 "is_row" ["thing", "count"] [] F_is_row := ok_is_row T o_is_flag o_is_integer o_is_name o_is_needs o_is_number
  have o_is_parts : DefOk PySem.Challenge.pw_leanbundle_k02_doors w K mg base 6 "is_parts" ["thing"] [] F_is_parts := ok_is_parts T o_is_row
  have o_is_program : DefOk PySem.Challenge.pw_leanbundle_k02_doors w K mg base 7 "is_program" ["thing"] [] F_is_program := ok_is_program T o_is_entries o_is_marks o_is_opens o_is_parts
  have o_need_program : DefOk PySem.Challenge.pw_leanbundle_k02_doors w K mg base 8 "need_program" ["program"] [] F_need_program := ok_need_program T o_is_program
  have o_doors_of : DefOk PySem.Challenge.pw_leanbundle_k02_doors w K mg base 9 "doors_of" ["program"] [] F_doors_of := ok_doors_of T o_doors o_need_program
  exact okD (k := 9) F sc_law [] d_law (by decide) fun cdv A outer s H E vs hr =>
  (dss_cons (ds_set (i := 1) sc_law.nd rfl (by first | exact Or.inl rfl | exact Or.inr rfl) (de_callD o__law_stream (takes_of rfl rfl rfl rfl) hr (dar_ex (de_var (pv 0)) dar_nil)))
  (dss_cons (ds_set (i := 2) sc_law.nd rfl (by first | exact Or.inl rfl | exact Or.inr rfl) (de_cmp (op_eqP hr.units) s2_eq (de_callD o__law_draw (takes_of rfl rfl rfl rfl) hr (dar_io (pv 1) (dar_ex de_int dar_nil))) de_int (by with_unfolding_all rfl)))
  (dss_cons (ds_set (i := 3) sc_law.nd rfl (by first | exact Or.inl rfl | exact Or.inr rfl) (de_frz (de_callD o__law_program (takes_of rfl rfl rfl rfl) hr (dar_io (pv 1) dar_nil))))
  (dss_cons (ds_if (db_tru (de_var (pv 2)))
  (dss_one (ds_set (i := 3) sc_law.nd rfl (by first | exact Or.inl rfl | exact Or.inr rfl) (de_frz (de_callD o__law_lates (takes_of rfl rfl rfl rfl) hr (dar_io (pv 1) (dar_ex (de_var (pv 3)) dar_nil))))))
  dss_nil)
  (dss_cons (ds_set (i := 4) sc_law.nd rfl (by first | exact Or.inl rfl | exact Or.inr rfl) (de_frz (de_callD o__law_doors (takes_of rfl rfl rfl rfl) hr (dar_ex (de_var (pv 3)) dar_nil))))
  (dss_cons (ds_set (i := 5) sc_law.nd rfl (by first | exact Or.inl rfl | exact Or.inr rfl) (de_callD o_doors_of (takes_of rfl rfl rfl rfl) hr (dar_ex (de_var (pv 3)) dar_nil)))
  (dss_cons (ds_if (db_thaw (db_not (db_val (de_callD o__law_same (takes_of rfl rfl rfl rfl) hr (dar_ex (de_var (pv 5)) (dar_ex (de_var (pv 4)) dar_nil))))))
  (dss_one (ds_ret de_bl))
  dss_nil)
  (dss_cons (ds_expr (de_app (pv 5) de_int))
  (dss_cons (ds_expr (de_rev (pv 5)))
  (dss_one (ds_ret (de_callD o__law_same (takes_of rfl rfl rfl rfl) hr (dar_ex (de_frz (de_callD o_doors_of (takes_of rfl rfl rfl rfl) hr (dar_ex (de_var (pv 3)) dar_nil))) (dar_ex (de_var (pv 4)) dar_nil))))))))))))))
end
theorem cx_no {P : Program} {w : World} {H : Hp} {s : Shared} {e : Value} {s' : Shared} (h : L2.CX P w [] H s (fun _ _ _ => False) e s') : False := by
  obtain ⟨_, _, _, _, _, _, _, _, _, _, _, _, z⟩ := h
  exact z
/-- what the law promises, whatever the module's names -/
def lawSp (K : PySem.W.Frag) : Sp := fun vs H Q _ => ∃ (a : Addr) (ns : List Int), vs = [.ref a] ∧ SqL K H a (ns.map V.int) ∧ ns.length ≤ 63 ∧ (∀ z ∈ ns, Builtin.Int.intBits z ≤ 1048576) ∧ ∀ H', Q (.bl true) H'
theorem law_imp {K : PySem.W.Frag} {mg : Str → Option Value} {vs : List V} {H : Hp} {Q : VK} {E : XK} (h : lawSp K vs H Q E) : dSp K mg [] 1 F_law vs H Q E := by
  obtain ⟨a, ns, rfl, hS, hl, hb, hQ⟩ := h
  have dps : ∀ ns : List Int, DpAll K H (ns.map V.int) (ns.map .int) := fun ns => by
    induction ns with
    | nil => exact .nil
    | cons n ns ih => exact .cons (.int n) ih
  refine ⟨[.val (.list (ns.map .int))], [], _, rfl, rfl, ⟨[], by simp, ?_⟩, law_ok ns, fun x outs e v H' r => ?_, fun e outs q => nomatch q⟩
  · exact .cons (fp := []) (.val (by rw [List.nil_append, hid_nil]; exact .lst hS (dps ns))) .nil
  · cases e
    have d := R.dp r
    cases d
    exact hQ H'
theorem all_mk {w : World} {K : PySem.W.Frag} {h : Heap} {mg : Str → Option Value} {fa : Addr} (X : K.In h) (G : h.Ns mainGlobals mg) (hfa : mg "law" = some (.ref fa)) (T : Txt K mg) :
    ∃ fd : FuncData, (∀ (s : Shared) (v : Value), BindsTo s fd ⟨[v], []⟩ [("script", v)]) ∧ ∀ base : Heap, K.In base → base.Ns mainGlobals mg → FnOk PySem.Challenge.pw_leanbundle_k02_doors w K mg base (L2.CX PySem.Challenge.pw_leanbundle_k02_doors w) 10 fa fd ["script"] (lawSp K) := by
  obtain ⟨a, fd, h1, h2, F⟩ := T.d_law
  have e := hfa.symm.trans h1
  cases e
  have b := F.binds (ps := ["script"]) fun _ _ _ _ _ _ us hl => match us, hl with | [_], _ => rfl
  refine ⟨fd, fun s v => ?_, fun base _ _ => (okF_law T F).imp fun vs H Q E q => law_imp q⟩
  obtain ⟨oc, od, kV, doc, pm, an, cdv, ct, osl, rfl, _, _⟩ := F.ex
  exact .of_eq rfl
end G
open PySem PySem.W PyProof.Rows
set_option maxHeartbeats 0 in
theorem PySem.Challenge.cw_leanbundle_k02_doors_holds : PySem.Challenge.rw_leanbundle_k02_doors.Holds := by
  w_on; o_law; k_head; (case hw => w_witness2)
  k_fill
  refine L2.walk_ofB (l := PySem.Challenge.rw_leanbundle_k02_doors) (n := 63) (k := 10) (x := "script") (CX := fun w => L2.CX PySem.Challenge.pw_leanbundle_k02_doors w) (sp := fun w => G.lawSp _) rfl (by decide) rfl ⟨rfl, by decide, by decide⟩ (fun w h Y => PySem.W.kIn_of Y) ?F (fun w H a ns hl hb _ hS => ⟨a, ns, rfl, hS, hl, hb, fun _ => rfl⟩) (fun _ _ _ _ _ h => G.cx_no h)
  case F =>
    intro w mg fa h KX G hmg
    refine _root_.G.all_mk KX G hmg ?T
    refine' _root_.G.txt_mk KX G ?pa0 ?pl0 ?pc0 ?pk0 ?pa1 ?pl1 ?pc1 ?pk1 ?pa2 ?pl2 ?pc2 ?pk2 ?pa3 ?pl3 ?pc3 ?pk3 ?pa4 ?pl4 ?pc4 ?pk4 ?pa5 ?pl5 ?pc5 ?pk5 ?pa6 ?pl6 ?pc6 ?pk6 ?pa7 ?pl7 ?pc7 ?pk7 ?pa8 ?pl8 ?pc8 ?pk8 ?pa9 ?pl9 ?pc9 ?pk9 ?pa10 ?pl10 ?pc10 ?pk10 ?pa11 ?pl11 ?pc11 ?pk11 ?pa12 ?pl12 ?pc12 ?pk12 ?pa13 ?pl13 ?pc13 ?pk13 ?pa14 ?pl14 ?pc14 ?pk14 ?pa15 ?pl15 ?pc15 ?pk15 ?pa16 ?pl16 ?pc16 ?pk16 ?pa17 ?pl17 ?pc17 ?pk17 ?pa18 ?pl18 ?pc18 ?pk18 ?pa19 ?pl19 ?pc19 ?pk19 ?pa20 ?pl20 ?pc20 ?pk20 ?pa21 ?pl21 ?pc21 ?pk21 ?pa22 ?pl22 ?pc22 ?pk22 ?pa23 ?pl23 ?pc23 ?pk23 ?pa24 ?pl24 ?pc24 ?pk24 ?pa25 ?pl25 ?pc25 ?pk25 ?pa26 ?pl26 ?pc26 ?pk26 ?pa27 ?pl27 ?pc27 ?pk27 ?pg0 ?ph0 ?pg1 ?ph1 ?pg2 ?ph2 ?pg3 ?ph3 ?pg4 ?ph4 ?pg5 ?ph5 ?pg6 ?ph6 ?pz0 ?pz1 ?pz2 ?pz3 ?pz4 ?pz5 ?pz6 ?pz7 ?pz8 ?pz9 ?pz10 ?pz11 ?pz12 ?pz13
    (case pa0 => first | k_is | kernel_rfl)
    (case pl0 => first | k_is | kernel_rfl)
    (case pc0 => first | k_is | kernel_rfl)
    (case pk0 => first | k_is | kernel_rfl)
    (case pa1 => first | k_is | kernel_rfl)
    (case pl1 => first | k_is | kernel_rfl)
    (case pc1 => first | k_is | kernel_rfl)
    (case pk1 => first | k_is | kernel_rfl)
    (case pa2 => first | k_is | kernel_rfl)
    (case pl2 => first | k_is | kernel_rfl)
    (case pc2 => first | k_is | kernel_rfl)
    (case pk2 => first | k_is | kernel_rfl)
    (case pa3 => first | k_is | kernel_rfl)
    (case pl3 => first | k_is | kernel_rfl)
    (case pc3 => first | k_is | kernel_rfl)
    (case pk3 => first | k_is | kernel_rfl)
    (case pa4 => first | k_is | kernel_rfl)
    (case pl4 => first | k_is | kernel_rfl)
    (case pc4 => first | k_is | kernel_rfl)
    (case pk4 => first | k_is | kernel_rfl)
    (case pa5 => first | k_is | kernel_rfl)
    (case pl5 => first | k_is | kernel_rfl)
    (case pc5 => first | k_is | kernel_rfl)
    (case pk5 => first | k_is | kernel_rfl)
    (case pa6 => first | k_is | kernel_rfl)
    (case pl6 => first | k_is | kernel_rfl)
    (case pc6 => first | k_is | kernel_rfl)
    (case pk6 => first | k_is | kernel_rfl)
    (case pa7 => first | k_is | kernel_rfl)
    (case pl7 => first | k_is | kernel_rfl)
    (case pc7 => first | k_is | kernel_rfl)
    (case pk7 => first | k_is | kernel_rfl)
    (case pa8 => first | k_is | kernel_rfl)
    (case pl8 => first | k_is | kernel_rfl)
    (case pc8 => first | k_is | kernel_rfl)
    (case pk8 => first | k_is | kernel_rfl)
    (case pa9 => first | k_is | kernel_rfl)
    (case pl9 => first | k_is | kernel_rfl)
    (case pc9 => first | k_is | kernel_rfl)
    (case pk9 => first | k_is | kernel_rfl)
    (case pa10 => first | k_is | kernel_rfl)
    (case pl10 => first | k_is | kernel_rfl)
    (case pc10 => first | k_is | kernel_rfl)
    (case pk10 => first | k_is | kernel_rfl)
    (case pa11 => first | k_is | kernel_rfl)
    (case pl11 => first | k_is | kernel_rfl)
    (case pc11 => first | k_is | kernel_rfl)
    (case pk11 => first | k_is | kernel_rfl)
    (case pa12 => first | k_is | kernel_rfl)
    (case pl12 => first | k_is | kernel_rfl)
    (case pc12 => first | k_is | kernel_rfl)
    (case pk12 => first | k_is | kernel_rfl)
    (case pa13 => first | k_is | kernel_rfl)
    (case pl13 => first | k_is | kernel_rfl)
    (case pc13 => first | k_is | kernel_rfl)
    (case pk13 => first | k_is | kernel_rfl)
    (case pa14 => first | k_is | kernel_rfl)
    (case pl14 => first | k_is | kernel_rfl)
    (case pc14 => first | k_is | kernel_rfl)
    (case pk14 => first | k_is | kernel_rfl)
    (case pa15 => first | k_is | kernel_rfl)
    (case pl15 => first | k_is | kernel_rfl)
    (case pc15 => first | k_is | kernel_rfl)
    (case pk15 => first | k_is | kernel_rfl)
    (case pa16 => first | k_is | kernel_rfl)
    (case pl16 => first | k_is | kernel_rfl)
    (case pc16 => first | k_is | kernel_rfl)
    (case pk16 => first | k_is | kernel_rfl)
    (case pa17 => first | k_is | kernel_rfl)
    (case pl17 => first | k_is | kernel_rfl)
    (case pc17 => first | k_is | kernel_rfl)
    (case pk17 => first | k_is | kernel_rfl)
    (case pa18 => first | k_is | kernel_rfl)
    (case pl18 => first | k_is | kernel_rfl)
    (case pc18 => first | k_is | kernel_rfl)
    (case pk18 => first | k_is | kernel_rfl)
    (case pa19 => first | k_is | kernel_rfl)
    (case pl19 => first | k_is | kernel_rfl)
    (case pc19 => first | k_is | kernel_rfl)
    (case pk19 => first | k_is | kernel_rfl)
    (case pa20 => first | k_is | kernel_rfl)
    (case pl20 => first | k_is | kernel_rfl)
    (case pc20 => first | k_is | kernel_rfl)
    (case pk20 => first | k_is | kernel_rfl)
    (case pa21 => first | k_is | kernel_rfl)
    (case pl21 => first | k_is | kernel_rfl)
    (case pc21 => first | k_is | kernel_rfl)
    (case pk21 => first | k_is | kernel_rfl)
    (case pa22 => first | k_is | kernel_rfl)
    (case pl22 => first | k_is | kernel_rfl)
    (case pc22 => first | k_is | kernel_rfl)
    (case pk22 => first | k_is | kernel_rfl)
    (case pa23 => first | k_is | kernel_rfl)
    (case pl23 => first | k_is | kernel_rfl)
    (case pc23 => first | k_is | kernel_rfl)
    (case pk23 => first | k_is | kernel_rfl)
    (case pa24 => first | k_is | kernel_rfl)
    (case pl24 => first | k_is | kernel_rfl)
    (case pc24 => first | k_is | kernel_rfl)
    (case pk24 => first | k_is | kernel_rfl)
    (case pa25 => first | k_is | kernel_rfl)
    (case pl25 => first | k_is | kernel_rfl)
    (case pc25 => first | k_is | kernel_rfl)
    (case pk25 => first | k_is | kernel_rfl)
    (case pa26 => first | k_is | kernel_rfl)
    (case pl26 => first | k_is | kernel_rfl)
    (case pc26 => first | k_is | kernel_rfl)
    (case pk26 => first | k_is | kernel_rfl)
    (case pa27 => first | k_is | kernel_rfl)
    (case pl27 => first | k_is | kernel_rfl)
    (case pc27 => first | k_is | kernel_rfl)
    (case pk27 => first | k_is | kernel_rfl)
    (case pg0 => first | k_is | kernel_rfl)
    (case ph0 => first | k_is | kernel_rfl)
    (case pg1 => first | k_is | kernel_rfl)
    (case ph1 => first | k_is | kernel_rfl)
    (case pg2 => first | k_is | kernel_rfl)
    (case ph2 => first | k_is | kernel_rfl)
    (case pg3 => first | k_is | kernel_rfl)
    (case ph3 => first | k_is | kernel_rfl)
    (case pg4 => first | k_is | kernel_rfl)
    (case ph4 => first | k_is | kernel_rfl)
    (case pg5 => first | k_is | kernel_rfl)
    (case ph5 => first | k_is | kernel_rfl)
    (case pg6 => first | k_is | kernel_rfl)
    (case ph6 => first | k_is | kernel_rfl)
    (case pz0 => first | k_is | kernel_rfl)
    (case pz1 => first | k_is | kernel_rfl)
    (case pz2 => first | k_is | kernel_rfl)
    (case pz3 => first | k_is | kernel_rfl)
    (case pz4 => first | k_is | kernel_rfl)
    (case pz5 => first | k_is | kernel_rfl)
    (case pz6 => first | k_is | kernel_rfl)
    (case pz7 => first | k_is | kernel_rfl)
    (case pz8 => first | k_is | kernel_rfl)
    (case pz9 => first | k_is | kernel_rfl)
    (case pz10 => first | k_is | kernel_rfl)
    (case pz11 => first | k_is | kernel_rfl)
    (case pz12 => first | k_is | kernel_rfl)
    (case pz13 => first | k_is | kernel_rfl)
