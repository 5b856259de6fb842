import PyProof.Rows.All
import Wide.All
import OpenK.AllK
import Wide.FinOn
import KE.KStateDown
import HandS.ForMost
import HandS.ForExc
import HandS.More
import HandS.Defaults
import HandS.Head2
import HandS.HeadEnd
import HandS.HeadHook4
import HandS.Wide
import HandS.IsInst
import HandS.Conv
import PySem.Challenge.RW_liftlevels_k83_whole_spans_and_touches
set_option Elab.async false
set_option linter.all false
set_option maxRecDepth 100000
set_option maxHeartbeats 0
/-! A layer of plain data over the hand layer: frozen trees D, owned things PV, their state St. -/
namespace Q
open PySem PySem.Spec PyProof.Rows L2

inductive D where
  | non | bl (b : Bool) | int (i : Int) | str (x : Str) | ty (n : String) | glo (a : Addr)
  | tup (xs : List D) | lst (xs : List D)
  | dK (kvs : List (Key × D)) | dT (kvs : List (List Key × D))
  | ins (C : Addr) (fs : List (Str × D))
instance : Inhabited D := ⟨.non⟩
inductive PV where
  | fr (d : D)
  | oL (xs : List D)
  | oN (xs : List PV)
  | oK (kvs : List (Key × D)) | oT (kvs : List (List Key × D))
  | oI (C : Addr) (fs : List (Str × PV))
instance : Inhabited PV := ⟨.fr .non⟩

section
variable (K : PySem.W.Frag) (F : Hp)
mutual
inductive RD : D → V → Prop
  | non : RD .non .non
  | bl (b : Bool) : RD (.bl b) (.bl b)
  | int (i : Int) : RD (.int i) (.int i)
  | str (x : Str) : RD (.str x) (.str x)
  | ty (n : String) : RD (.ty n) (.ty n)
  | glo (a : Addr) : RD (.glo a) (.ref a)
  | tup {a : Addr} {xs : List D} {vs : List V} : SqT K F a vs → RL xs vs → RD (.tup xs) (.ref a)
  | lst {a : Addr} {xs : List D} {vs : List V} : SqL K F a vs → RL xs vs → RD (.lst xs) (.ref a)
  | dK {a : Addr} {xs : List (Key × D)} {vs : List (Key × V)} : Rd F a (.dK vs) → RK xs vs → RD (.dK xs) (.ref a)
  | dT {a : Addr} {xs : List (List Key × D)} {vs : List (List Key × V)} : Rd F a (.dT vs) → RT xs vs → RD (.dT xs) (.ref a)
  | ins {a C dx : Addr} {xs : List (Str × D)} {vs : List (Str × V)} : F a = some (.ins C dx vs) → RS xs vs → RD (.ins C xs) (.ref a)
inductive RL : List D → List V → Prop
  | nil : RL [] []
  | cons {d : D} {v : V} {ds : List D} {vs : List V} : RD d v → RL ds vs → RL (d :: ds) (v :: vs)
inductive RK : List (Key × D) → List (Key × V) → Prop
  | nil : RK [] []
  | cons {k : Key} {d : D} {v : V} {ds : List (Key × D)} {vs : List (Key × V)} : RD d v → RK ds vs → RK ((k, d) :: ds) ((k, v) :: vs)
inductive RT : List (List Key × D) → List (List Key × V) → Prop
  | nil : RT [] []
  | cons {k : List Key} {d : D} {v : V} {ds : List (List Key × D)} {vs : List (List Key × V)} : RD d v → RT ds vs → RT ((k, d) :: ds) ((k, v) :: vs)
inductive RS : List (Str × D) → List (Str × V) → Prop
  | nil : RS [] []
  | cons {k : Str} {d : D} {v : V} {ds : List (Str × D)} {vs : List (Str × V)} : RD d v → RS ds vs → RS ((k, d) :: ds) ((k, v) :: vs)
end
end

theorem sqT_mono {K : PySem.W.Frag} {H H' : Hp} {a : Addr} {xs : List V} (e : Same H H') (h : SqT K H a xs) : SqT K H' a xs := by
  rcases h with (h | ⟨o, h⟩) | h
  · exact .inl (.inl (e _ _ h))
  · exact .inl (.inr ⟨o, e _ _ h⟩)
  · exact .inr h
theorem rd_mono {H H' : Hp} {a : Addr} {u : HO} (e : Same H H') (h : Rd H a u) : Rd H' a u := by
  rcases h with h | ⟨o, h⟩
  · exact .inl (e _ _ h)
  · exact .inr ⟨o, e _ _ h⟩

section
variable {K : PySem.W.Frag} {F F' : Hp}
mutual
theorem RD.mono (e : Same F F') : ∀ {d : D} {v : V}, RD K F d v → RD K F' d v
  | _, _, .non => .non
  | _, _, .bl b => .bl b
  | _, _, .int i => .int i
  | _, _, .str x => .str x
  | _, _, .ty n => .ty n
  | _, _, .glo a => .glo a
  | _, _, .tup h r => .tup (sqT_mono e h) (RL.mono e r)
  | _, _, .lst h r => .lst (e.seq h) (RL.mono e r)
  | _, _, .dK h r => .dK (rd_mono e h) (RK.mono e r)
  | _, _, .dT h r => .dT (rd_mono e h) (RT.mono e r)
  | _, _, .ins h r => .ins (e _ _ h) (RS.mono e r)
theorem RL.mono (e : Same F F') : ∀ {d : List D} {v : List V}, RL K F d v → RL K F' d v
  | _, _, .nil => .nil
  | _, _, .cons h r => .cons (RD.mono e h) (RL.mono e r)
theorem RK.mono (e : Same F F') : ∀ {d : List (Key × D)} {v : List (Key × V)}, RK K F d v → RK K F' d v
  | _, _, .nil => .nil
  | _, _, .cons h r => .cons (RD.mono e h) (RK.mono e r)
theorem RT.mono (e : Same F F') : ∀ {d : List (List Key × D)} {v : List (List Key × V)}, RT K F d v → RT K F' d v
  | _, _, .nil => .nil
  | _, _, .cons h r => .cons (RD.mono e h) (RT.mono e r)
theorem RS.mono (e : Same F F') : ∀ {d : List (Str × D)} {v : List (Str × V)}, RS K F d v → RS K F' d v
  | _, _, .nil => .nil
  | _, _, .cons h r => .cons (RD.mono e h) (RS.mono e r)
end
end
theorem RL.length {K : PySem.W.Frag} {F : Hp} : ∀ {d : List D} {v : List V}, RL K F d v → d.length = v.length
  | _, _, .nil => rfl
  | _, _, .cons _ r => congrArg (· + 1) (RL.length r)
theorem RL.append {K : PySem.W.Frag} {F : Hp} : ∀ {d e : List D} {v w : List V}, RL K F d v → RL K F e w → RL K F (d ++ e) (v ++ w)
  | _, _, _, _, .nil, r => r
  | _, _, _, _, .cons h r, q => .cons h (RL.append r q)
theorem RL.get {K : PySem.W.Frag} {F : Hp} : ∀ {d : List D} {v : List V} {i : Nat} {x : D}, RL K F d v → d[i]? = some x → ∃ w, v[i]? = some w ∧ RD K F x w
  | _, _, _, _, .nil, e => by simp at e
  | _, _, 0, _, .cons h _, e => by simp at e; subst e; exact ⟨_, rfl, h⟩
  | _, _, i + 1, x, .cons _ r, e => by
    obtain ⟨w, h1, h2⟩ := RL.get (i := i) (x := x) r (by simpa using e)
    exact ⟨w, by simpa using h1, h2⟩
theorem RL.take {K : PySem.W.Frag} {F : Hp} : ∀ {d : List D} {v : List V} (n : Nat), RL K F d v → RL K F (d.take n) (v.take n)
  | _, _, 0, _ => by simp; exact .nil
  | _, _, _ + 1, .nil => .nil
  | _, _, n + 1, .cons h r => .cons h (RL.take n r)
theorem RL.drop {K : PySem.W.Frag} {F : Hp} : ∀ {d : List D} {v : List V} (n : Nat), RL K F d v → RL K F (d.drop n) (v.drop n)
  | _, _, 0, r => r
  | _, _, _ + 1, .nil => .nil
  | _, _, n + 1, .cons _ r => RL.drop n r
theorem RL.set {K : PySem.W.Frag} {F : Hp} {x : D} {w : V} (q : RD K F x w) : ∀ {d : List D} {v : List V} (i : Nat), RL K F d v → RL K F (d.set i x) (v.set i w)
  | _, _, _, .nil => .nil
  | _, _, 0, .cons _ r => .cons q r
  | _, _, i + 1, .cons h r => .cons h (RL.set q i r)

section
variable (K : PySem.W.Frag) (F H : Hp)
mutual
inductive RP : PV → V → List Addr → Prop
  | fr {d : D} {v : V} : RD K F d v → RP (.fr d) v []
  | oL {a : Addr} {xs : List D} {vs : List V} : F a = none → H a = some (.lst vs) → RL K F xs vs → RP (.oL xs) (.ref a) [a]
  | oN {a : Addr} {xs : List PV} {vs : List V} {as : List Addr} : F a = none → H a = some (.lst vs) → RPL xs vs as → RP (.oN xs) (.ref a) (a :: as)
  | oK {a : Addr} {xs : List (Key × D)} {vs : List (Key × V)} : F a = none → H a = some (.dK vs) → RK K F xs vs → RP (.oK xs) (.ref a) [a]
  | oT {a : Addr} {xs : List (List Key × D)} {vs : List (List Key × V)} : F a = none → H a = some (.dT vs) → RT K F xs vs → RP (.oT xs) (.ref a) [a]
  | oI {a C dx : Addr} {xs : List (Str × PV)} {vs : List (Str × V)} {as : List Addr} : F a = none → H a = some (.ins C dx vs) → RPS xs vs as → RP (.oI C xs) (.ref a) (a :: as)
inductive RPL : List PV → List V → List Addr → Prop
  | nil : RPL [] [] []
  | cons {p : PV} {v : V} {as : List Addr} {ps : List PV} {vs : List V} {bs : List Addr} : RP p v as → RPL ps vs bs → RPL (p :: ps) (v :: vs) (as ++ bs)
inductive RPS : List (Str × PV) → List (Str × V) → List Addr → Prop
  | nil : RPS [] [] []
  | cons {k : Str} {p : PV} {v : V} {as : List Addr} {ps : List (Str × PV)} {vs : List (Str × V)} {bs : List Addr} : RP p v as → RPS ps vs bs → RPS ((k, p) :: ps) ((k, v) :: vs) (as ++ bs)
end
end
section
variable {K : PySem.W.Frag} {F F' H H' : Hp}
mutual
theorem RP.mono (e : Same F F') : ∀ {p : PV} {v : V} {as : List Addr}, RP K F H p v as → (∀ a ∈ as, F' a = none ∧ H' a = H a) → RP K F' H' p v as
  | _, _, _, .fr h, _ => .fr (h.mono e)
  | _, _, _, .oL h1 h2 h3, k => .oL (k _ (by simp)).1 ((k _ (by simp)).2.trans h2) (h3.mono e)
  | _, _, _, .oN h1 h2 h3, k => .oN (k _ (by simp)).1 ((k _ (by simp)).2.trans h2) (RPL.mono e h3 fun a ha => k a (List.mem_cons_of_mem _ ha))
  | _, _, _, .oK h1 h2 h3, k => .oK (k _ (by simp)).1 ((k _ (by simp)).2.trans h2) (h3.mono e)
  | _, _, _, .oT h1 h2 h3, k => .oT (k _ (by simp)).1 ((k _ (by simp)).2.trans h2) (h3.mono e)
  | _, _, _, .oI h1 h2 h3, k => .oI (k _ (by simp)).1 ((k _ (by simp)).2.trans h2) (RPS.mono e h3 fun a ha => k a (List.mem_cons_of_mem _ ha))
theorem RPL.mono (e : Same F F') : ∀ {p : List PV} {v : List V} {as : List Addr}, RPL K F H p v as → (∀ a ∈ as, F' a = none ∧ H' a = H a) → RPL K F' H' p v as
  | _, _, _, .nil, _ => .nil
  | _, _, _, .cons h r, k => .cons (RP.mono e h fun a ha => k a (List.mem_append_left _ ha)) (RPL.mono e r fun a ha => k a (List.mem_append_right _ ha))
theorem RPS.mono (e : Same F F') : ∀ {p : List (Str × PV)} {v : List (Str × V)} {as : List Addr}, RPS K F H p v as → (∀ a ∈ as, F' a = none ∧ H' a = H a) → RPS K F' H' p v as
  | _, _, _, .nil, _ => .nil
  | _, _, _, .cons h r, k => .cons (RP.mono e h fun a ha => k a (List.mem_append_left _ ha)) (RPS.mono e r fun a ha => k a (List.mem_append_right _ ha))
end
mutual
theorem RP.own : ∀ {p : PV} {v : V} {as : List Addr}, RP K F H p v as → ∀ a ∈ as, F a = none ∧ H a ≠ none
  | _, _, _, .fr h, _, q => by cases q
  | _, _, _, .oL h1 h2 h3, a, q => by
    obtain rfl := List.mem_singleton.mp q
    exact ⟨h1, by rw [h2]; simp⟩
  | _, _, _, .oN h1 h2 h3, a, q => by
    rcases List.mem_cons.mp q with rfl | q
    · exact ⟨h1, by rw [h2]; simp⟩
    · exact RPL.own h3 a q
  | _, _, _, .oK h1 h2 h3, a, q => by
    obtain rfl := List.mem_singleton.mp q
    exact ⟨h1, by rw [h2]; simp⟩
  | _, _, _, .oT h1 h2 h3, a, q => by
    obtain rfl := List.mem_singleton.mp q
    exact ⟨h1, by rw [h2]; simp⟩
  | _, _, _, .oI h1 h2 h3, a, q => by
    rcases List.mem_cons.mp q with rfl | q
    · exact ⟨h1, by rw [h2]; simp⟩
    · exact RPS.own h3 a q
theorem RPL.own : ∀ {p : List PV} {v : List V} {as : List Addr}, RPL K F H p v as → ∀ a ∈ as, F a = none ∧ H a ≠ none
  | _, _, _, .nil, _, q => by cases q
  | _, _, _, .cons h r, a, q => (List.mem_append.mp q).elim (RP.own h a) (RPL.own r a)
theorem RPS.own : ∀ {p : List (Str × PV)} {v : List (Str × V)} {as : List Addr}, RPS K F H p v as → ∀ a ∈ as, F a = none ∧ H a ≠ none
  | _, _, _, .nil, _, q => by cases q
  | _, _, _, .cons h r, a, q => (List.mem_append.mp q).elim (RP.own h a) (RPS.own r a)
end
end

mutual
def PV.fz : PV → D
  | .fr d => d
  | .oL xs => .lst xs
  | .oN ps => .lst (fzL ps)
  | .oK xs => .dK xs
  | .oT xs => .dT xs
  | .oI C fs => .ins C (fzS fs)
def fzL : List PV → List D
  | [] => []
  | p :: ps => p.fz :: fzL ps
def fzS : List (Str × PV) → List (Str × D)
  | [] => []
  | (k, p) :: ps => (k, p.fz) :: fzS ps
end
section
variable {K : PySem.W.Frag} {F F' H : Hp}
mutual
theorem RP.fz (e : Same F F') : ∀ {p : PV} {v : V} {as : List Addr}, RP K F H p v as → (∀ a ∈ as, F' a = H a) → RD K F' p.fz v
  | _, _, _, .fr h, _ => h.mono e
  | _, _, _, .oL h1 h2 h3, k => .lst (.inl (.inl ((k _ (by simp)).trans h2))) (h3.mono e)
  | _, _, _, .oN h1 h2 h3, k => .lst (.inl (.inl ((k _ (by simp)).trans h2))) (RPL.fz e h3 fun a ha => k a (List.mem_cons_of_mem _ ha))
  | _, _, _, .oK h1 h2 h3, k => .dK (.inl ((k _ (by simp)).trans h2)) (h3.mono e)
  | _, _, _, .oT h1 h2 h3, k => .dT (.inl ((k _ (by simp)).trans h2)) (h3.mono e)
  | _, _, _, .oI h1 h2 h3, k => .ins ((k _ (by simp)).trans h2) (RPS.fz e h3 fun a ha => k a (List.mem_cons_of_mem _ ha))
theorem RPL.fz (e : Same F F') : ∀ {p : List PV} {v : List V} {as : List Addr}, RPL K F H p v as → (∀ a ∈ as, F' a = H a) → RL K F' (fzL p) v
  | _, _, _, .nil, _ => .nil
  | _, _, _, .cons h r, k => .cons (RP.fz e h fun a ha => k a (List.mem_append_left _ ha)) (RPL.fz e r fun a ha => k a (List.mem_append_right _ ha))
theorem RPS.fz (e : Same F F') : ∀ {p : List (Str × PV)} {v : List (Str × V)} {as : List Addr}, RPS K F H p v as → (∀ a ∈ as, F' a = H a) → RS K F' (fzS p) v
  | _, _, _, .nil, _ => .nil
  | _, _, _, .cons h r, k => .cons (RP.fz e h fun a ha => k a (List.mem_append_left _ ha)) (RPS.fz e r fun a ha => k a (List.mem_append_right _ ha))
end
end

/-! ### the state: things with their values -/
abbrev Pr := PV × V
section
variable (K : PySem.W.Frag) (F H : Hp)
inductive RA : List Pr → List Addr → Prop
  | nil : RA [] []
  | cons {p : PV} {v : V} {as : List Addr} {l : List Pr} {bs : List Addr} : RP K F H p v as → RA l bs → RA ((p, v) :: l) (as ++ bs)
end
def St (K : PySem.W.Frag) (H : Hp) (l : List Pr) : Prop := ∃ F as, Same F H ∧ RA K F H l as ∧ as.Nodup
section
variable {K : PySem.W.Frag} {F F' H H' : Hp} {l l' : List Pr} {p : PV} {v : V} {d : D}
theorem RA.perm (h : l.Perm l') : ∀ {as : List Addr}, RA K F H l as → ∃ bs, as.Perm bs ∧ RA K F H l' bs := by
  induction h with
  | nil => intro as r; exact ⟨as, .refl _, r⟩
  | cons x _ ih =>
    intro as r
    cases r with
    | cons h1 h2 =>
      obtain ⟨bs, pb, rb⟩ := ih h2
      exact ⟨_, .append_left _ pb, .cons h1 rb⟩
  | swap x y l =>
    intro as r
    cases r with
    | cons h1 h2 =>
      cases h2 with
      | cons h3 h4 =>
        refine ⟨_, ?_, .cons h3 (.cons h1 h4)⟩
        rw [← List.append_assoc, ← List.append_assoc]
        exact .append_right _ List.perm_append_comm
  | trans _ _ ih1 ih2 =>
    intro as r
    obtain ⟨bs, p1, r1⟩ := ih1 r
    obtain ⟨cs, p2, r2⟩ := ih2 r1
    exact ⟨cs, p1.trans p2, r2⟩
theorem RA.mono (e : Same F F') : ∀ {l : List Pr} {as : List Addr}, RA K F H l as → (∀ a ∈ as, F' a = none ∧ H' a = H a) → RA K F' H' l as
  | _, _, .nil, _ => .nil
  | _, _, .cons h r, k => .cons (h.mono e fun a ha => k a (List.mem_append_left _ ha)) (RA.mono e r fun a ha => k a (List.mem_append_right _ ha))
theorem RA.own : ∀ {l : List Pr} {as : List Addr}, RA K F H l as → ∀ a ∈ as, F a = none ∧ H a ≠ none
  | _, _, .nil, _, q => by cases q
  | _, _, .cons h r, a, q => (List.mem_append.mp q).elim (h.own a) (RA.own r a)
theorem St.perm (h : l.Perm l') (s : St K H l) : St K H l' := by
  obtain ⟨F, as, e, r, n⟩ := s
  obtain ⟨bs, pb, rb⟩ := r.perm h
  exact ⟨F, bs, e, rb, pb.nodup_iff.mp n⟩
theorem St.tail {x : Pr} (s : St K H (x :: l)) : St K H l := by
  obtain ⟨F, as, e, r, n⟩ := s
  cases r with
  | cons h1 h2 => exact ⟨F, _, e, h2, (List.nodup_append.mp n).2.1⟩
theorem St.drop : ∀ {l l' : List Pr}, St K H (l ++ l') → St K H l'
  | [], _, s => s
  | _ :: _, _, s => St.drop s.tail
theorem St.init {l' : List Pr} (s : St K H (l ++ l')) : St K H l := St.drop (s.perm List.perm_append_comm)
/-- a frozen thing may stand twice -/
theorem St.dup (s : St K H ((.fr d, v) :: l)) : St K H ((.fr d, v) :: (.fr d, v) :: l) := by
  obtain ⟨F, as, e, r, n⟩ := s
  cases r with
  | cons h1 h2 =>
    cases h1 with
    | fr h => exact ⟨F, _, e, .cons (.fr h) (.cons (.fr h) h2), by simpa using n⟩
theorem St.flat (h : ∀ F, RD K F d v) (s : St K H l) : St K H ((.fr d, v) :: l) := by
  obtain ⟨F, as, e, r, n⟩ := s
  exact ⟨F, as, e, .cons (as := []) (.fr (h F)) r, n⟩
theorem St.freeze (s : St K H ((p, v) :: l)) : St K H ((.fr p.fz, v) :: l) := by
  obtain ⟨F, as, e, r, n⟩ := s
  cases r with
  | @cons _ _ as1 _ bs h1 h2 =>
    have o1 := h1.own
    have nd := List.nodup_append.mp n
    have sm : Same F (fun a => if a ∈ as1 then H a else F a) := fun a o q => by
      have hn : a ∉ as1 := fun z => by rw [(o1 a z).1] at q; cases q
      show (if a ∈ as1 then H a else F a) = some o
      rw [if_neg hn]; exact q
    refine ⟨fun a => if a ∈ as1 then H a else F a, [] ++ bs, fun a o q => ?_, .cons (.fr (h1.fz sm fun a ha => if_pos ha)) (h2.mono sm fun a ha => ⟨?_, rfl⟩), by simpa using nd.2.1⟩
    · have q' : (if a ∈ as1 then H a else F a) = some o := q
      by_cases ha : a ∈ as1
      · rw [if_pos ha] at q'; exact q'
      · rw [if_neg ha] at q'; exact e a o q'
    · have hn : a ∉ as1 := fun z => nd.2.2 a z a ha rfl
      exact (if_neg hn).trans (h2.own a ha).1
end
/-- frozen things side by side -/
def frs : List D → List V → List Pr
  | d :: ds, v :: vs => (.fr d, v) :: frs ds vs
  | _, _ => []
section
variable {K : PySem.W.Frag} {F F' H H' : Hp} {l l' : List Pr} {p : PV} {v : V} {d : D} {ds : List D} {vs : List V}
theorem frs_append : ∀ {ds es : List D} {vs ws : List V}, ds.length = vs.length → frs (ds ++ es) (vs ++ ws) = frs ds vs ++ frs es ws
  | [], _, [], _, _ => rfl
  | d :: ds, es, v :: vs, ws, h => congrArg ((PV.fr d, v) :: ·) (frs_append (Nat.succ.inj h))
theorem frs_get : ∀ {ds : List D} {vs : List V} {i : Nat} {d : D} {v : V}, ds[i]? = some d → vs[i]? = some v → (PV.fr d, v) ∈ frs ds vs
  | [], _, _, _, _, h, _ => by simp at h
  | _ :: _, [], _, _, _, _, h => by simp at h
  | a :: ds, b :: vs, 0, d, v, h, h' => by simp at h h'; subst h h'; exact List.mem_cons_self
  | a :: ds, b :: vs, i + 1, d, v, h, h' => List.mem_cons_of_mem _ (frs_get (by simpa using h) (by simpa using h'))
theorem RA.frs (r : RL K F ds vs) : ∀ {l : List Pr} {as : List Addr}, RA K F H l as → RA K F H (Q.frs ds vs ++ l) as := by
  intro l as q
  induction ds generalizing vs with
  | nil => cases r; exact q
  | cons d ds ih =>
    cases r with
    | cons h r => exact .cons (as := []) (.fr h) (ih r)
theorem RA.of_frs : ∀ {ds : List D} {vs : List V} {l : List Pr} {as : List Addr}, ds.length = vs.length → RA K F H (Q.frs ds vs ++ l) as → RL K F ds vs ∧ RA K F H l as
  | [], [], _, _, _, q => ⟨.nil, q⟩
  | d :: ds, v :: vs, l, as, h, q => by
    cases q with
    | cons h1 h2 =>
      cases h1 with
      | fr h1 =>
        obtain ⟨r1, r2⟩ := RA.of_frs (Nat.succ.inj h) h2
        exact ⟨.cons h1 r1, by simpa using r2⟩
theorem St.get_frs (hm : (PV.fr d, v) ∈ frs ds vs) (s : St K H (frs ds vs ++ l)) : St K H ((.fr d, v) :: l) := by
  obtain ⟨s1, t1, e⟩ := List.append_of_mem hm
  rw [e] at s
  have p : (s1 ++ (PV.fr d, v) :: t1 ++ l).Perm (s1 ++ t1 ++ ((PV.fr d, v) :: l)) := by
    rw [List.append_assoc, List.append_assoc]
    refine List.Perm.append_left _ ?_
    rw [List.cons_append]
    exact List.perm_middle.symm
  exact St.drop (s.perm p)
/-- what stands apart stays when something new or owned is written -/
theorem St.upd_new {a : Addr} {o : HO} (hn : H a = none) (s : St K H l) : St K (upd H a o) l := by
  obtain ⟨F, as, e, r, n⟩ := s
  refine ⟨F, as, fun b u q => ?_, r.mono (fun _ _ q => q) fun b hb => ⟨(r.own b hb).1, upd_ne fun z => ?_⟩, n⟩
  · have hb : b ≠ a := fun z => by rw [z] at q; rw [e _ _ q] at hn; cases hn
    rw [upd_ne hb]; exact e b u q
  · rw [z] at hb; exact (r.own a hb).2 hn
theorem St.newT {a : Addr} (hl : ds.length = vs.length) (hn : H a = none) (s : St K H (frs ds vs ++ l)) : St K (upd H a (.tup vs)) ((.fr (.tup ds), .ref a) :: l) := by
  obtain ⟨F, as, e, r, n⟩ := s
  obtain ⟨r1, r2⟩ := RA.of_frs hl r
  have fa : F a = none := by
    cases q : F a with
    | none => rfl
    | some o => rw [e _ _ q] at hn; cases hn
  have sm : Same F (upd F a (.tup vs)) := fun b o q => by
    have hb : b ≠ a := fun z => by rw [z, fa] at q; cases q
    rw [upd_ne hb]; exact q
  refine ⟨upd F a (.tup vs), [] ++ as, fun b o q => ?_, .cons (.fr (.tup (.inl (.inl upd_same)) (r1.mono sm))) (r2.mono sm fun b hb => ?_), by simpa using n⟩
  · by_cases hb : b = a
    · subst hb; rw [upd_same] at q ⊢; exact q
    · rw [upd_ne hb] at q ⊢; exact e b o q
  · have hb' : b ≠ a := fun z => by rw [z] at hb; exact (r2.own a hb).2 hn
    exact ⟨by rw [upd_ne hb']; exact (r2.own b hb).1, upd_ne hb'⟩
theorem St.newL {a : Addr} (hl : ds.length = vs.length) (hn : H a = none) (s : St K H (frs ds vs ++ l)) : St K (upd H a (.lst vs)) ((.oL ds, .ref a) :: l) := by
  obtain ⟨F, as, e, r, n⟩ := s
  obtain ⟨r1, r2⟩ := RA.of_frs hl r
  have fa : F a = none := by
    cases q : F a with
    | none => rfl
    | some o => rw [e _ _ q] at hn; cases hn
  have nb : ∀ b ∈ as, b ≠ a := fun b hb z => by rw [z] at hb; exact (r2.own a hb).2 hn
  refine ⟨F, [a] ++ as, fun b o q => ?_, .cons (.oL fa upd_same r1) (r2.mono (fun _ _ q => q) fun b hb => ⟨(r2.own b hb).1, upd_ne (nb b hb)⟩), ?_⟩
  · have hb : b ≠ a := fun z => by rw [z, fa] at q; cases q
    rw [upd_ne hb]; exact e b o q
  · exact List.nodup_cons.mpr ⟨fun z => nb a z rfl, n⟩
/-- a frozen list, read -/
theorem St.rdL (s : St K H ((.fr (.lst ds), v) :: l)) : ∃ a vs, v = .ref a ∧ SqL K H a vs ∧ ds.length = vs.length ∧ St K H (frs ds vs ++ (.fr (.lst ds), v) :: l) := by
  obtain ⟨F, as, e, r, n⟩ := s
  cases r with
  | cons h1 h2 =>
    cases h1 with
    | fr h =>
      cases h with
      | lst q r => exact ⟨_, _, rfl, Same.seq e q, r.length, F, _, e, .frs r (.cons (.fr (.lst q r)) h2), n⟩
theorem St.rdT (s : St K H ((.fr (.tup ds), v) :: l)) : ∃ a vs, v = .ref a ∧ SqT K H a vs ∧ ds.length = vs.length ∧ St K H (frs ds vs ++ (.fr (.tup ds), v) :: l) := by
  obtain ⟨F, as, e, r, n⟩ := s
  cases r with
  | cons h1 h2 =>
    cases h1 with
    | fr h =>
      cases h with
      | tup q r => exact ⟨_, _, rfl, sqT_mono e q, r.length, F, _, e, .frs r (.cons (.fr (.tup q r)) h2), n⟩
theorem St.rdO (s : St K H ((.oL ds, v) :: l)) : ∃ a vs, v = .ref a ∧ H a = some (.lst vs) ∧ ds.length = vs.length ∧ St K H (frs ds vs ++ (.oL ds, v) :: l) := by
  obtain ⟨F, as, e, r, n⟩ := s
  cases r with
  | cons h1 h2 =>
    cases h1 with
    | oL q0 q r => exact ⟨_, _, rfl, q, r.length, F, _, e, .frs r (.cons (.oL q0 q r) h2), n⟩
/-- an owned list, written -/
theorem St.wrO {a : Addr} {es : List D} {ws : List V} (hl : es.length = ws.length) (s : St K H (frs es ws ++ (.oL ds, .ref a) :: l)) : St K (upd H a (.lst ws)) ((.oL es, .ref a) :: l) := by
  obtain ⟨F, as, e, r, n⟩ := s
  obtain ⟨r1, r2⟩ := RA.of_frs hl r
  cases r2 with
  | cons h1 h2 =>
    cases h1 with
    | oL q0 q r =>
      have nd := List.nodup_cons.mp n
      have nb : ∀ b, b ∈ _ → b ≠ a := fun b hb z => nd.1 (by rw [z] at hb; exact hb)
      refine ⟨F, _, fun b o q => ?_, .cons (.oL q0 upd_same r1) (h2.mono (fun _ _ q => q) fun b hb => ⟨(h2.own b hb).1, upd_ne (nb b hb)⟩), n⟩
      have hb : b ≠ a := fun z => by rw [z, q0] at q; cases q
      rw [upd_ne hb]; exact e b o q
theorem St.val_int {i : Int} (s : St K H ((.fr (.int i), v) :: l)) : v = .int i := by
  obtain ⟨F, as, e, r, n⟩ := s
  cases r with
  | cons h1 h2 => cases h1 with | fr h => cases h; rfl
theorem St.val_bl {i : Bool} (s : St K H ((.fr (.bl i), v) :: l)) : v = .bl i := by
  obtain ⟨F, as, e, r, n⟩ := s
  cases r with
  | cons h1 h2 => cases h1 with | fr h => cases h; rfl
theorem St.val_str {i : Str} (s : St K H ((.fr (.str i), v) :: l)) : v = .str i := by
  obtain ⟨F, as, e, r, n⟩ := s
  cases r with
  | cons h1 h2 => cases h1 with | fr h => cases h; rfl
theorem St.val_non (s : St K H ((.fr .non, v) :: l)) : v = .non := by
  obtain ⟨F, as, e, r, n⟩ := s
  cases r with
  | cons h1 h2 => cases h1 with | fr h => cases h; rfl
/-- is it None: a frozen thing's value -/
theorem St.val_isnon (s : St K H ((.fr d, v) :: l)) : (v = .non) ↔ d = .non := by
  obtain ⟨F, as, e, r, n⟩ := s
  cases r with
  | cons h1 h2 => cases h1 with | fr h => cases h <;> simp
end
end Q

namespace Q
open PySem PySem.Spec PyProof.Rows L2

/-! ### slots -/
abbrev Sl := List (Option PV)
def prs : Sl → L2.St → List Pr
  | some p :: ρ, some v :: σ => (p, v) :: prs ρ σ
  | some _ :: ρ, none :: σ => prs ρ σ
  | none :: ρ, _ :: σ => prs ρ σ
  | [], _ => []
  | _, [] => []
def Fit : Sl → L2.St → Prop
  | [], [] => True
  | none :: ρ, _ :: σ => Fit ρ σ
  | some _ :: ρ, some _ :: σ => Fit ρ σ
  | _, _ => False
theorem Fit.len : ∀ {ρ : Sl} {σ : L2.St}, Fit ρ σ → ρ.length = σ.length
  | [], [], _ => rfl
  | none :: ρ, _ :: σ, h => congrArg (· + 1) (Fit.len (ρ := ρ) (σ := σ) h)
  | some _ :: ρ, some _ :: σ, h => congrArg (· + 1) (Fit.len (ρ := ρ) (σ := σ) h)
  | some _ :: _, none :: _, h => h.elim
  | [], _ :: _, h => h.elim
  | none :: _, [], h => h.elim
  | some _ :: _, [], h => h.elim
theorem Fit.get : ∀ {ρ : Sl} {σ : L2.St} {i : Nat} {p : PV}, Fit ρ σ → ρ[i]? = some (some p) →
    ∃ v, σ[i]? = some (some v) ∧ (prs ρ σ).Perm ((p, v) :: prs (ρ.set i none) σ) ∧ Fit (ρ.set i none) σ
  | [], [], i, p, _, e => by simp at e
  | none :: ρ, w :: σ, 0, p, h, e => by simp at e
  | none :: ρ, w :: σ, i + 1, p, h, e => by
    obtain ⟨v, h1, h2, h3⟩ := Fit.get (i := i) (p := p) (show Fit ρ σ from h) (by simpa using e)
    exact ⟨v, by simpa using h1, h2, h3⟩
  | some q :: ρ, some w :: σ, 0, p, h, e => by
    simp at e; subst e
    exact ⟨w, rfl, .refl _, h⟩
  | some q :: ρ, some w :: σ, i + 1, p, h, e => by
    obtain ⟨v, h1, h2, h3⟩ := Fit.get (i := i) (p := p) (show Fit ρ σ from h) (by simpa using e)
    refine ⟨v, by simpa using h1, ?_, h3⟩
    exact (List.Perm.cons _ h2).trans (.swap _ _ _)
  | some _ :: _, none :: _, _, _, h, _ => h.elim
  | [], _ :: _, _, _, h, _ => h.elim
  | none :: _, [], _, _, h, _ => h.elim
  | some _ :: _, [], _, _, h, _ => h.elim
theorem Fit.del : ∀ {ρ : Sl} {σ : L2.St} {i : Nat}, Fit ρ σ → Fit (ρ.set i none) σ
  | [], [], i, _ => trivial
  | none :: ρ, w :: σ, 0, h => h
  | none :: ρ, w :: σ, i + 1, h => Fit.del (ρ := ρ) (σ := σ) (i := i) h
  | some q :: ρ, some w :: σ, 0, h => h
  | some q :: ρ, some w :: σ, i + 1, h => Fit.del (ρ := ρ) (σ := σ) (i := i) h
  | some _ :: _, none :: _, _, h => h.elim
  | [], _ :: _, _, h => h.elim
  | none :: _, [], _, h => h.elim
  | some _ :: _, [], _, h => h.elim
theorem Fit.put {p : PV} {v : V} : ∀ {ρ : Sl} {σ : L2.St} {i : Nat}, Fit ρ σ → i < ρ.length →
    Fit (ρ.set i (some p)) (σ.set i (some v)) ∧ (prs (ρ.set i (some p)) (σ.set i (some v))).Perm ((p, v) :: prs (ρ.set i none) σ)
  | [], [], i, _, e => by simp at e
  | none :: ρ, w :: σ, 0, h, e => ⟨h, .refl _⟩
  | none :: ρ, w :: σ, i + 1, h, e => Fit.put (ρ := ρ) (σ := σ) (i := i) h (by simpa using e)
  | some q :: ρ, some w :: σ, 0, h, e => ⟨h, .refl _⟩
  | some q :: ρ, some w :: σ, i + 1, h, e => by
    obtain ⟨h1, h2⟩ := Fit.put (p := p) (v := v) (ρ := ρ) (σ := σ) (i := i) h (by simpa using e)
    exact ⟨h1, (List.Perm.cons _ h2).trans (.swap _ _ _)⟩
  | some _ :: _, none :: _, _, h, _ => h.elim
  | [], _ :: _, _, h, _ => h.elim
  | none :: _, [], _, h, _ => h.elim
  | some _ :: _, [], _, h, _ => h.elim
def Ok (K : PySem.W.Frag) (H : Hp) (ρ : Sl) (σ : L2.St) (τ : List Pr) : Prop := Fit ρ σ ∧ St K H (prs ρ σ ++ τ)
section
variable {K : PySem.W.Frag} {H H' : Hp} {ρ : Sl} {σ : L2.St} {τ τ' : List Pr} {i : Nat} {p : PV} {v : V}
theorem Ok.map (f : ∀ l, St K H (τ ++ l) → St K H' (τ' ++ l)) (h : Ok K H ρ σ τ) : Ok K H' ρ σ τ' :=
  ⟨h.1, (f _ (h.2.perm List.perm_append_comm)).perm List.perm_append_comm⟩
theorem Ok.get (h : Ok K H ρ σ τ) (e : ρ[i]? = some (some p)) : ∃ v, σ[i]? = some (some v) ∧ Ok K H (ρ.set i none) σ ((p, v) :: τ) := by
  obtain ⟨v, h1, h2, h3⟩ := h.1.get e
  refine ⟨v, h1, h3, h.2.perm ?_⟩
  exact (List.Perm.append_right _ h2).trans List.perm_middle.symm
theorem Ok.del (h : Ok K H ρ σ τ) (i : Nat) : Ok K H (ρ.set i none) σ τ := by
  cases e : ρ[i]? with
  | none =>
    rw [List.set_eq_of_length_le (List.getElem?_eq_none_iff.mp e)]
    exact h
  | some o =>
    cases o with
    | none =>
      have q : ρ.set i none = ρ := by
        apply List.ext_getElem?
        intro j
        by_cases hj : i = j
        · subst hj
          rw [e, List.getElem?_set_self (List.getElem?_eq_some_iff.mp e).1]
        · rw [List.getElem?_set_ne hj]
      rw [q]; exact h
    | some p =>
      obtain ⟨v, _, q⟩ := h.get e
      exact q.map fun l s => s.tail
theorem Ok.put (h : Ok K H ρ σ ((p, v) :: τ)) (hi : i < ρ.length) : Ok K H (ρ.set i (some p)) (σ.set i (some v)) τ := by
  have h' := h.del i
  obtain ⟨h1, h2⟩ := Fit.put (p := p) (v := v) h.1 hi
  refine ⟨h1, h'.2.perm ?_⟩
  exact (List.perm_middle).trans (List.Perm.append_right _ h2.symm)
theorem Ok.back (h : Ok K H ρ σ ((p, v) :: τ)) (hi : i < ρ.length) (hv : σ[i]? = some (some v)) : Ok K H (ρ.set i (some p)) σ τ := by
  have q := h.put hi
  have e : σ.set i (some v) = σ := by
    apply List.ext_getElem?
    intro j
    by_cases hj : i = j
    · subst hj
      rw [hv, List.getElem?_set_self (List.getElem?_eq_some_iff.mp hv).1]
    · rw [List.getElem?_set_ne hj]
  rw [e] at q; exact q
theorem Ok.perm (h : Ok K H ρ σ τ) (e : τ.Perm τ') : Ok K H ρ σ τ' := ⟨h.1, h.2.perm (List.Perm.append_left _ e)⟩
theorem Ok.tail {x : Pr} (h : Ok K H ρ σ (x :: τ)) : Ok K H ρ σ τ := h.map fun l s => s.tail
theorem Ok.swap {x y : Pr} (h : Ok K H ρ σ (x :: y :: τ)) : Ok K H ρ σ (y :: x :: τ) := h.perm (.swap _ _ _)
theorem Ok.drop {l : List Pr} (h : Ok K H ρ σ (l ++ τ)) : Ok K H ρ σ τ := h.map fun l' s => by
  rw [List.append_assoc] at s
  exact St.drop s
end

/-! ### outcomes -/
structure Ex where
  C : Addr
  fs : List (Str × D)
inductive Out (α : Type) where
  | ok (a : α) (ρ : Sl) | exc (x : Ex) (ρ : Sl) | bad
def Out.bind {α β : Type} (o : Out α) (k : α → Sl → Out β) : Out β := match o with
  | .ok a ρ => k a ρ
  | .exc x ρ => .exc x ρ
  | .bad => .bad
inductive SO where
  | nx (ρ : Sl) | rt (p : PV) (ρ : Sl) | bk (ρ : Sl) | ct (ρ : Sl) | ex (x : Ex) (ρ : Sl) | bad
/-- an exception's own dict -/
def XD (x : Ex) (d : Option Addr) (vs : List V) (H : Hp) : Prop := vs.length = x.fs.length ∧ ((x.fs = [] ∧ d = none) ∨ ∃ a, d = some a ∧ H a = some (.xd ((x.fs.map (·.1)).zip vs)))
def WOk (K : PySem.W.Frag) (W : WX) (x : Ex) (ρ : Sl) (σ : L2.St) (τ : List Pr) : Prop := ∀ d H vs, XD x d vs H → Ok K H ρ σ (frs (x.fs.map (·.2)) vs ++ τ) → W (.ref x.C) d σ H
def Bor (B : List Nat) (σ σ' : L2.St) : Prop := σ'.length = σ.length ∧ ∀ i ∈ B, σ'[i]? = σ[i]?
theorem Bor.refl {B : List Nat} {σ : L2.St} : Bor B σ σ := ⟨rfl, fun _ _ => rfl⟩
theorem Bor.trans {B : List Nat} {σ σ' σ2 : L2.St} (a : Bor B σ σ') (b : Bor B σ' σ2) : Bor B σ σ2 := ⟨b.1.trans a.1, fun i h => (b.2 i h).trans (a.2 i h)⟩
theorem Bor.set {B : List Nat} {σ : L2.St} {i : Nat} {x : Option V} (h : i ∉ B) : Bor B σ (σ.set i x) := ⟨List.length_set .., fun j hj => by
  rw [List.getElem?_set_ne]
  intro e; subst e; exact h hj⟩
section
variable (X : Cx) (W : WX)
def EPost (o : Out PV) (σ : L2.St) (τ : List Pr) (Q : VK) : Prop := match o with
  | .ok p ρ => ∀ v H, Ok X.K H ρ σ ((p, v) :: τ) → Q v H
  | .exc x ρ => WOk X.K W x ρ σ τ
  | .bad => False
def TPost (o : Out Bool) (σ : L2.St) (τ : List Pr) (Q : Bool → Hp → Prop) : Prop := match o with
  | .ok b ρ => ∀ H, Ok X.K H ρ σ τ → Q b H
  | .exc x ρ => WOk X.K W x ρ σ τ
  | .bad => False
inductive Arg where
  | val (p : PV) | bor (i : Nat)
def avals : List Arg → List V → List Pr
  | .val p :: as, v :: vs => (p, v) :: avals as vs
  | .bor _ :: as, _ :: vs => avals as vs
  | _, _ => []
def AFit (σ : L2.St) : List Arg → List V → Prop
  | [], [] => True
  | .val _ :: as, _ :: vs => AFit σ as vs
  | .bor i :: as, v :: vs => σ[i]? = some (some v) ∧ AFit σ as vs
  | _, _ => False
def APost (o : Out (List Arg)) (σ : L2.St) (τ : List Pr) (Q : List V → Hp → Prop) : Prop := match o with
  | .ok as ρ => ∀ vs H, AFit σ as vs → Ok X.K H ρ σ (avals as vs ++ τ) → Q vs H
  | .exc x ρ => WOk X.K W x ρ σ τ
  | .bad => False
def SPost (B : List Nat) (o : SO) (σ : L2.St) (τ : List Pr) (D : Ends) : Prop := match o with
  | .nx ρ => ∀ σ' H, Bor B σ σ' → Ok X.K H ρ σ' τ → D.nx σ' H
  | .bk ρ => ∀ σ' H, Bor B σ σ' → Ok X.K H ρ σ' τ → D.bk σ' H
  | .ct ρ => ∀ σ' H, Bor B σ σ' → Ok X.K H ρ σ' τ → D.ct σ' H
  | .rt p ρ => ∀ σ' v H, Bor B σ σ' → Ok X.K H ρ σ' ((p, v) :: τ) → D.rt v H
  | .ex x ρ => ∀ σ', Bor B σ σ' → WOk X.K W x ρ σ' τ
  | .bad => False
structure QE (e : Expr) (f : Sl → Out PV) : Prop where
  ex : ∃ te, PE X e te ∧ ∀ σ H ρ τ Q, Ok X.K H ρ σ τ → EPost X W (f ρ) σ τ Q → te σ H Q
structure QT (e : Expr) (f : Sl → Out Bool) : Prop where
  ex : ∃ te, PT X e te ∧ ∀ σ H ρ τ Q, Ok X.K H ρ σ τ → TPost X W (f ρ) σ τ Q → te σ H Q
structure QA (es : List Expr) (f : Sl → Out (List Arg)) : Prop where
  ex : ∃ te, PA X es te ∧ ∀ σ H ρ τ Q, Ok X.K H ρ σ τ → APost X W (f ρ) σ τ Q → te σ H Q
structure QS (B : List Nat) (s : Stmt) (f : Sl → SO) : Prop where
  ex : ∃ te, PS X s te ∧ ∀ σ H ρ τ D, Ok X.K H ρ σ τ → SPost X W B (f ρ) σ τ D → te D σ H
structure QSs (B : List Nat) (s : List Stmt) (f : Sl → SO) : Prop where
  ex : ∃ te, PSs X s te ∧ ∀ σ H ρ τ D, Ok X.K H ρ σ τ → SPost X W B (f ρ) σ τ D → te D σ H
structure QG (B : List Nat) (tg : Expr) (g : PV → Sl → Option Sl) : Prop where
  ex : ∃ t, PG X tg t ∧ ∀ σ H ρ τ p v ρ', Ok X.K H ρ σ ((p, v) :: τ) → g p ρ = some ρ' → ∀ Q : L2.St → Hp → Prop, (∀ σ', Bor B σ σ' → Ok X.K H ρ' σ' τ → Q σ' H) → t v σ H Q
structure QGs (B : List Nat) (tg : List Expr) (g : List PV → Sl → Option Sl) : Prop where
  ex : ∃ t, PGs X tg t ∧ ∀ σ H ρ τ ps vs ρ', ps.length = vs.length → Ok X.K H ρ σ (ps.zip vs ++ τ) → g ps ρ = some ρ' → ∀ Q : L2.St → Hp → Prop, (∀ σ', Bor B σ σ' → Ok X.K H ρ' σ' τ → Q σ' H) → t vs σ H Q
end
section
variable {X : Cx} {W : WX} {B : List Nat}
theorem SPost.bor {o : SO} {σ σ' : L2.St} {τ : List Pr} {D : Ends} (b : Bor B σ σ') (h : SPost X W B o σ τ D) : SPost X W B o σ' τ D := by
  cases o with
  | nx ρ => exact fun σ2 H b2 => h σ2 H (b.trans b2)
  | bk ρ => exact fun σ2 H b2 => h σ2 H (b.trans b2)
  | ct ρ => exact fun σ2 H b2 => h σ2 H (b.trans b2)
  | rt p ρ => exact fun σ2 v H b2 => h σ2 v H (b.trans b2)
  | ex x ρ => exact fun σ2 b2 => h σ2 (b.trans b2)
  | bad => exact h
/-- two in a row -/
theorem EPost.bind {o : Out PV} {k : PV → Sl → Out PV} {σ : L2.St} {τ : List Pr} {Q Q' : VK} (h : EPost X W (o.bind k) σ τ Q)
    (hk : ∀ p ρ v H, EPost X W (k p ρ) σ τ Q → Ok X.K H ρ σ ((p, v) :: τ) → Q' v H) : EPost X W o σ τ Q' := by
  cases o with
  | ok p ρ => exact fun v H q => hk p ρ v H h q
  | exc x ρ => exact h
  | bad => exact h
theorem WOk.weak {K : PySem.W.Frag} {W : WX} {x : Ex} {ρ : Sl} {σ : L2.St} {τ : List Pr} (l : List Pr) (h : WOk K W x ρ σ τ) : WOk K W x ρ σ (l ++ τ) := fun d H vs xd q => h d H vs xd (q.map fun l' s => by
  rw [List.append_assoc, List.append_assoc] at s
  have p : (frs (x.fs.map (·.2)) vs ++ (l ++ (τ ++ l'))).Perm (l ++ (frs (x.fs.map (·.2)) vs ++ (τ ++ l'))) := by
    have q := List.Perm.append_right (τ ++ l') (List.perm_append_comm (l₁ := frs (x.fs.map (·.2)) vs) (l₂ := l))
    rw [List.append_assoc, List.append_assoc] at q
    exact q
  have := St.drop (s.perm p)
  rw [List.append_assoc]
  exact this)
theorem WOk.strip {K : PySem.W.Frag} {W : WX} {x : Ex} {ρ : Sl} {σ : L2.St} {τ : List Pr} {y : Pr} (h : WOk K W x ρ σ τ) : WOk K W x ρ σ (y :: τ) := h.weak [y]
theorem EPost.weak {o : Out PV} {σ : L2.St} {τ : List Pr} {Q : VK} (y : Pr) (h : EPost X W o σ τ Q) : EPost X W o σ (y :: τ) Q := by
  cases o with
  | ok p ρ => exact fun v H q => h v H (q.swap.tail)
  | exc x ρ => exact WOk.strip h
  | bad => exact h
end
end Q

namespace Q
open PySem PySem.Spec PyProof.Rows L2

section
variable {K : PySem.W.Frag} {H H' : Hp} {ρ : Sl} {σ : L2.St} {τ l : List Pr}
theorem Ok.st (h : Ok K H ρ σ (l ++ τ)) : St K H (l ++ (prs ρ σ ++ τ)) := by
  refine h.2.perm ?_
  rw [← List.append_assoc, ← List.append_assoc]
  exact List.Perm.append_right _ List.perm_append_comm
theorem Ok.of (h : Ok K H ρ σ τ) {l' : List Pr} (s : St K H' (l ++ (prs ρ σ ++ τ))) : Ok K H' ρ σ (l ++ τ) := by
  refine ⟨h.1, s.perm ?_⟩
  rw [← List.append_assoc, ← List.append_assoc]
  exact List.Perm.append_right _ List.perm_append_comm
theorem Ok.fit (h : Ok K H ρ σ τ) (s : St K H' (l ++ (prs ρ σ ++ τ'))) : Ok K H' ρ σ (l ++ τ') := by
  refine ⟨h.1, s.perm ?_⟩
  rw [← List.append_assoc, ← List.append_assoc]
  exact List.Perm.append_right _ List.perm_append_comm
theorem Ok.st1 {x : Pr} (h : Ok K H ρ σ (x :: τ)) : St K H (x :: (prs ρ σ ++ τ)) := Ok.st (l := [x]) h
theorem Ok.fit1 {x : Pr} (h : Ok K H ρ σ τ) {τ' : List Pr} (s : St K H' (x :: (prs ρ σ ++ τ'))) : Ok K H' ρ σ (x :: τ') := Ok.fit (l := [x]) h s
end

/-! ### leaves -/
def eVar (i : Nat) : Sl → Out PV := fun ρ => match ρ[i]? with
  | some (some (.fr d)) => .ok (.fr d) ρ
  | some (some p) => .ok (.fr p.fz) (ρ.set i (some (.fr p.fz)))
  | _ => .bad
/-- taken out of its slot -/
def eMov (i : Nat) : Sl → Out PV := fun ρ => match ρ[i]? with
  | some (some p) => .ok p (ρ.set i none)
  | _ => .bad
def eC (d : D) : Sl → Out PV := fun ρ => .ok (.fr d) ρ
section
variable {X : Cx} {W : WX} {B : List Nat} {e a b : Expr} {f g : Sl → Out PV} {pos : Pos}
theorem qe_var {i : Nat} (h : PE X e (tVar i)) : QE X W e (eVar i) := by
  refine ⟨_, h, fun σ H ρ τ Q I hq => ?_⟩
  unfold eVar at hq
  split at hq
  · rename_i d e1
    obtain ⟨v, ev, J⟩ := I.get e1
    have hi : i < ρ.length := (List.getElem?_eq_some_iff.mp e1).1
    have J2 : Ok X.K H (ρ.set i none) σ ((.fr d, v) :: (.fr d, v) :: τ) := J.map fun l s => s.dup
    refine ⟨v, ev, hq v H ?_⟩
    have J3 := J2.back (by simpa using hi) ev
    rw [List.set_set] at J3
    have e2 : ρ.set i (some (.fr d)) = ρ := by
      apply List.ext_getElem?
      intro j
      by_cases hj : i = j
      · subst hj; rw [e1, List.getElem?_set_self hi]
      · rw [List.getElem?_set_ne hj]
    rw [e2] at J3
    exact J3
  · rename_i p _ e1
    obtain ⟨v, ev, J⟩ := I.get e1
    have hi : i < ρ.length := (List.getElem?_eq_some_iff.mp e1).1
    have J2 : Ok X.K H (ρ.set i none) σ ((.fr p.fz, v) :: (.fr p.fz, v) :: τ) := J.map fun l s => s.freeze.dup
    refine ⟨v, ev, hq v H ?_⟩
    have J3 := J2.back (by simpa using hi) ev
    rw [List.set_set] at J3
    exact J3
  · exact hq.elim
theorem qe_mov {i : Nat} (h : PE X e (tVar i)) : QE X W e (eMov i) := by
  refine ⟨_, h, fun σ H ρ τ Q I hq => ?_⟩
  unfold eMov at hq
  split at hq
  · rename_i p e1
    obtain ⟨v, ev, J⟩ := I.get e1
    exact ⟨v, ev, hq v H J⟩
  · exact hq.elim
theorem qe_c {v : V} {d : D} (h : PE X e (tC v)) (hd : ∀ F, RD X.K F d v) : QE X W e (eC d) :=
  ⟨_, h, fun σ H ρ τ Q I hq => hq v H (I.map fun l s => s.flat hd)⟩
theorem qe_int {i j pos} : QE X W (.Constant (.int i) j pos) (eC (.int i)) := qe_c pe_int fun _ => .int i
theorem qe_bl {i j pos} : QE X W (.Constant (.bool i) j pos) (eC (.bl i)) := qe_c pe_bl fun _ => .bl i
theorem qe_non {j pos} : QE X W (.Constant .none j pos) (eC .non) := qe_c pe_non fun _ => .non
theorem qe_str {x j pos} : QE X W (.Constant (.str x) j pos) (eC (.str x)) := qe_c pe_str fun _ => .str x

/-! ### two-place operations -/
def e2 (h : PV → PV → Option PV) (f g : Sl → Out PV) : Sl → Out PV := fun ρ => (f ρ).bind fun p ρ1 => (g ρ1).bind fun q ρ2 => match h p q with
  | some r => .ok r ρ2
  | none => .bad
def Sem2 (K : PySem.W.Frag) (r : R2) (h : PV → PV → Option PV) : Prop := ∀ (H : Hp) (l : List Pr) (p q res : PV) (v w : V) (Q : VK), St K H ((q, w) :: (p, v) :: l) → h p q = some res → (∀ u H', St K H' ((res, u) :: l) → Q u H') → r v w H Q
theorem e2_post {h : PV → PV → Option PV} {r : R2} (sem : Sem2 X.K r h) {ta tb : TE} (sa : ∀ σ H ρ τ Q, Ok X.K H ρ σ τ → EPost X W (f ρ) σ τ Q → ta σ H Q) (sb : ∀ σ H ρ τ Q, Ok X.K H ρ σ τ → EPost X W (g ρ) σ τ Q → tb σ H Q) :
    ∀ σ H ρ τ Q, Ok X.K H ρ σ τ → EPost X W (e2 h f g ρ) σ τ Q → tOp r ta tb σ H Q := by
  intro σ H ρ τ Q I hq
  refine sa σ H ρ τ _ I ?_
  unfold e2 at hq
  cases e1 : f ρ with
  | ok p ρ1 =>
    rw [e1] at hq
    intro v H1 I1
    refine sb σ H1 ρ1 _ _ I1 ?_
    dsimp only [Out.bind] at hq
    cases e2 : g ρ1 with
    | ok q ρ2 =>
      rw [e2] at hq
      intro w H2 I2
      dsimp only [Out.bind] at hq
      cases e3 : h p q with
      | some res =>
        rw [e3] at hq
        exact sem H2 (prs ρ2 σ ++ τ) p q res v w Q (Ok.st (l := [(q, w), (p, v)]) I2) e3 fun u H' s => hq u H' (I2.fit1 s)
      | none => rw [e3] at hq; exact hq.elim
    | exc x ρ2 => rw [e2] at hq; exact WOk.strip hq
    | bad => rw [e2] at hq; exact hq.elim
  | exc x ρ1 => rw [e1] at hq; exact hq
  | bad => rw [e1] at hq; exact hq.elim
theorem qe_op {op : Operator} {r : R2} {h : PV → PV → Option PV} (ho : OpR X (binaryOp op) r) (sem : Sem2 X.K r h) (ha : QE X W a f) (hb : QE X W b g) : QE X W (.BinOp a op b pos) (e2 h f g) := by
  obtain ⟨ta, pa, sa⟩ := ha.ex
  obtain ⟨tb, pb, sb⟩ := hb.ex
  exact ⟨_, pe_op ho pa pb, e2_post sem sa sb⟩
theorem qe_cmp {op : CmpOp} {r : R2} {h : PV → PV → Option PV} (ho : OpR X (compareOp op) r) (sem : Sem2 X.K r h) (ha : QE X W a f) (hb : QE X W b g) (hm : behindInMarks op b = false) : QE X W (.Compare a [op] [b] pos) (e2 h f g) := by
  obtain ⟨ta, pa, sa⟩ := ha.ex
  obtain ⟨tb, pb, sb⟩ := hb.ex
  exact ⟨_, pe_cmpR ho pa pb hm, e2_post sem sa sb⟩
theorem qe_ix {r : R2} {h : PV → PV → Option PV} (ho : IxR X r) (sem : Sem2 X.K r h) (ha : QE X W a f) (hb : QE X W b g) (hs : PlainIx b) : QE X W (.Subscript a b pos) (e2 h f g) := by
  obtain ⟨ta, pa, sa⟩ := ha.ex
  obtain ⟨tb, pb, sb⟩ := hb.ex
  exact ⟨_, pe_ix ho pa pb hs, e2_post sem sa sb⟩
/-! one-place -/
def e1 (h : PV → Option PV) (f : Sl → Out PV) : Sl → Out PV := fun ρ => (f ρ).bind fun p ρ1 => match h p with
  | some r => .ok r ρ1
  | none => .bad
def Sem1 (K : PySem.W.Frag) (r : V → Hp → VK → Prop) (h : PV → Option PV) : Prop := ∀ (H : Hp) (l : List Pr) (p res : PV) (v : V) (Q : VK), St K H ((p, v) :: l) → h p = some res → (∀ u H', St K H' ((res, u) :: l) → Q u H') → r v H Q
theorem e1_post {h : PV → Option PV} {r : V → Hp → VK → Prop} (sem : Sem1 X.K r h) {ta : TE} (sa : ∀ σ H ρ τ Q, Ok X.K H ρ σ τ → EPost X W (f ρ) σ τ Q → ta σ H Q) :
    ∀ σ H ρ τ Q, Ok X.K H ρ σ τ → EPost X W (e1 h f ρ) σ τ Q → (ta σ H fun x H1 => r x H1 Q) := by
  intro σ H ρ τ Q I hq
  refine sa σ H ρ τ _ I ?_
  unfold e1 at hq
  cases e1 : f ρ with
  | ok p ρ1 =>
    rw [e1] at hq
    intro v H1 I1
    dsimp only [Out.bind] at hq
    cases e3 : h p with
    | some res =>
      rw [e3] at hq
      exact sem H1 (prs ρ1 σ ++ τ) p res v Q (Ok.st1 I1) e3 fun u H' s => hq u H' (I1.fit1 s)
    | none => rw [e3] at hq; exact hq.elim
  | exc x ρ1 => rw [e1] at hq; exact hq
  | bad => rw [e1] at hq; exact hq.elim
theorem qe_un {op : UnaryOp} {r : V → Hp → VK → Prop} {h : PV → Option PV} (ho : UnR X (unaryOp op) r) (sem : Sem1 X.K r h) (ha : QE X W a f) : QE X W (.UnaryOp op a pos) (e1 h f) := by
  obtain ⟨ta, pa, sa⟩ := ha.ex
  exact ⟨_, pe_un ho pa, e1_post sem sa⟩

/-! ### tests -/
def tB1 (f : Sl → Out PV) : Sl → Out Bool := fun ρ => match f ρ with
  | .ok (.fr (.bl b)) ρ1 => .ok b ρ1
  | .exc x ρ1 => .exc x ρ1
  | _ => .bad
theorem tB1_post {ta : TE} (sa : ∀ σ H ρ τ Q, Ok X.K H ρ σ τ → EPost X W (f ρ) σ τ Q → ta σ H Q) :
    ∀ σ H ρ τ Q, Ok X.K H ρ σ τ → TPost X W (tB1 f ρ) σ τ Q → (ta σ H fun x H1 => ∃ c, x = .bl c ∧ Q c H1) := by
  intro σ H ρ τ Q I hq
  refine sa σ H ρ τ _ I ?_
  unfold tB1 at hq
  split at hq
  · rename_i b ρ1 e1
    rw [e1]
    intro v H1 I1
    exact ⟨b, (Ok.st1 I1).val_bl, hq H1 I1.tail⟩
  · rename_i x ρ1 e1
    rw [e1]
    exact hq
  · exact hq.elim
theorem qt_val (he : QE X W e f) (hw : ∀ whole, isTrue e X.env whole = (do let v ← whole; standAt e.pos; holding [v] (truthy v)) := by intro _; rfl) : QT X W e (tB1 f) := by
  obtain ⟨ta, pa, sa⟩ := he.ex
  exact ⟨_, pt_val pa hw, tB1_post sa⟩
theorem qt_cmp {op : CmpOp} {r : R2} {h : PV → PV → Option PV} (ho : OpR X (compareOp op) r) (sem : Sem2 X.K r h) (ha : QE X W a f) (hb : QE X W b g) (hm : behindInMarks op b = false) : QT X W (.Compare a [op] [b] pos) (tB1 (e2 h f g)) := by
  obtain ⟨ta, pa, sa⟩ := ha.ex
  obtain ⟨tb, pb, sb⟩ := hb.ex
  exact ⟨_, pt_cmpR ho pa pb hm, tB1_post (e2_post sem sa sb)⟩
def tN (f : Sl → Out Bool) : Sl → Out Bool := fun ρ => (f ρ).bind fun b ρ1 => .ok (!b) ρ1
theorem qt_not {f : Sl → Out Bool} (ha : QT X W a f) : QT X W (.UnaryOp .Not a pos) (tN f) := by
  obtain ⟨ta, pa, sa⟩ := ha.ex
  refine ⟨_, pt_not pa, fun σ H ρ τ Q I hq => ?_⟩
  refine sa σ H ρ τ _ I ?_
  unfold tN at hq
  cases e1 : f ρ with
  | ok b ρ1 => rw [e1] at hq; exact hq
  | exc x ρ1 => rw [e1] at hq; exact hq
  | bad => rw [e1] at hq; exact hq.elim
structure QW (X : Cx) (W : WX) (e : Expr) (f : Sl → Out Bool) : Prop where
  ex : ∃ te, PW X e te ∧ ∀ σ H ρ τ Q, Ok X.K H ρ σ τ → TPost X W (f ρ) σ τ Q → te σ H Q
theorem QW.qt {f : Sl → Out Bool} (h : QW X W e f) : QT X W e f := by
  obtain ⟨ta, pa, sa⟩ := h.ex
  exact ⟨_, pa.pt, sa⟩
def tA (f g : Sl → Out Bool) : Sl → Out Bool := fun ρ => (f ρ).bind fun b ρ1 => if b = true then g ρ1 else .ok false ρ1
def tO (f g : Sl → Out Bool) : Sl → Out Bool := fun ρ => (f ρ).bind fun b ρ1 => if b = true then .ok true ρ1 else g ρ1
section
variable {f g : Sl → Out Bool} {rest : List Expr}
theorem qw_and1 (ha : QT X W a f) : QW X W (.BoolOp .And [a] pos) f := by
  obtain ⟨ta, pa, sa⟩ := ha.ex
  exact ⟨_, pw_and1 pa, sa⟩
theorem qw_or1 (ha : QT X W a f) : QW X W (.BoolOp .Or [a] pos) f := by
  obtain ⟨ta, pa, sa⟩ := ha.ex
  exact ⟨_, pw_or1 pa, sa⟩
theorem qw_and (ha : QT X W a f) (hb : QW X W (.BoolOp .And (b :: rest) pos) g) : QW X W (.BoolOp .And (a :: b :: rest) pos) (tA f g) := by
  obtain ⟨ta, pa, sa⟩ := ha.ex
  obtain ⟨tb, pb, sb⟩ := hb.ex
  refine ⟨_, pw_and pa pb, fun σ H ρ τ Q I hq => ?_⟩
  refine sa σ H ρ τ _ I ?_
  unfold tA at hq
  cases e1 : f ρ with
  | ok b ρ1 =>
    rw [e1] at hq
    intro H1 I1
    cases b with
    | true => exact sb σ H1 ρ1 τ Q I1 hq
    | false => exact hq H1 I1
  | exc x ρ1 => rw [e1] at hq; exact hq
  | bad => rw [e1] at hq; exact hq.elim
theorem qw_or (ha : QT X W a f) (hb : QW X W (.BoolOp .Or (b :: rest) pos) g) : QW X W (.BoolOp .Or (a :: b :: rest) pos) (tO f g) := by
  obtain ⟨ta, pa, sa⟩ := ha.ex
  obtain ⟨tb, pb, sb⟩ := hb.ex
  refine ⟨_, pw_or pa pb, fun σ H ρ τ Q I hq => ?_⟩
  refine sa σ H ρ τ _ I ?_
  unfold tO at hq
  cases e1 : f ρ with
  | ok b ρ1 =>
    rw [e1] at hq
    intro H1 I1
    cases b with
    | true => exact hq H1 I1
    | false => exact sb σ H1 ρ1 τ Q I1 hq
  | exc x ρ1 => rw [e1] at hq; exact hq
  | bad => rw [e1] at hq; exact hq.elim
end
/-! and, or, not as values of bools (the last one anything) -/
def eAnd (f g : Sl → Out PV) : Sl → Out PV := fun ρ => (tB1 f ρ).bind fun b ρ1 => if b = true then g ρ1 else .ok (.fr (.bl false)) ρ1
def eOr (f g : Sl → Out PV) : Sl → Out PV := fun ρ => (tB1 f ρ).bind fun b ρ1 => if b = true then .ok (.fr (.bl true)) ρ1 else g ρ1
def eNot (f : Sl → Out PV) : Sl → Out PV := fun ρ => (tB1 f ρ).bind fun b ρ1 => .ok (.fr (.bl (!b))) ρ1
def eIf (t : Sl → Out Bool) (f g : Sl → Out PV) : Sl → Out PV := fun ρ => (t ρ).bind fun b ρ1 => if b = true then f ρ1 else g ρ1
section
variable {rest : List Expr}
theorem qe_one {op : BoolOp} (ha : QE X W a f) : QE X W (.BoolOp op [a] pos) f := by
  obtain ⟨ta, pa, sa⟩ := ha.ex
  exact ⟨_, pe_one pa, sa⟩
theorem qe_and (ha : QE X W a f) (hb : QE X W (.BoolOp .And (b :: rest) pos) g) : QE X W (.BoolOp .And (a :: b :: rest) pos) (eAnd f g) := by
  obtain ⟨ta, pa, sa⟩ := ha.ex
  obtain ⟨tb, pb, sb⟩ := hb.ex
  refine ⟨_, pe_and pa pb, fun σ H ρ τ Q I hq => ?_⟩
  refine tB1_post (W := W) sa σ H ρ τ (fun c H1 => if c = true then tb σ H1 Q else Q (.bl false) H1) I ?_
  unfold eAnd at hq
  cases e1 : tB1 f ρ with
  | ok b ρ1 =>
    rw [e1] at hq
    intro H1 I1
    cases b with
    | true => exact sb σ H1 ρ1 τ Q I1 hq
    | false => exact hq _ H1 (I1.map fun l s => s.flat fun _ => .bl false)
  | exc x ρ1 => rw [e1] at hq; exact hq
  | bad => rw [e1] at hq; exact hq.elim
theorem qe_or (ha : QE X W a f) (hb : QE X W (.BoolOp .Or (b :: rest) pos) g) : QE X W (.BoolOp .Or (a :: b :: rest) pos) (eOr f g) := by
  obtain ⟨ta, pa, sa⟩ := ha.ex
  obtain ⟨tb, pb, sb⟩ := hb.ex
  refine ⟨_, pe_or pa pb, fun σ H ρ τ Q I hq => ?_⟩
  refine tB1_post (W := W) sa σ H ρ τ (fun c H1 => if c = true then Q (.bl true) H1 else tb σ H1 Q) I ?_
  unfold eOr at hq
  cases e1 : tB1 f ρ with
  | ok b ρ1 =>
    rw [e1] at hq
    intro H1 I1
    cases b with
    | true => exact hq _ H1 (I1.map fun l s => s.flat fun _ => .bl true)
    | false => exact sb σ H1 ρ1 τ Q I1 hq
  | exc x ρ1 => rw [e1] at hq; exact hq
  | bad => rw [e1] at hq; exact hq.elim
theorem qe_not (ha : QE X W a f) : QE X W (.UnaryOp .Not a pos) (eNot f) := by
  obtain ⟨ta, pa, sa⟩ := ha.ex
  refine ⟨_, pe_not pa, fun σ H ρ τ Q I hq => ?_⟩
  refine tB1_post (W := W) sa σ H ρ τ (fun c H1 => Q (.bl (!c)) H1) I ?_
  unfold eNot at hq
  cases e1 : tB1 f ρ with
  | ok b ρ1 =>
    rw [e1] at hq
    intro H1 I1
    exact hq _ H1 (I1.map fun l s => s.flat fun _ => .bl (!b))
  | exc x ρ1 => rw [e1] at hq; exact hq
  | bad => rw [e1] at hq; exact hq.elim
theorem qe_if {c : Expr} {t : Sl → Out Bool} (hc : QT X W c t) (ha : QE X W a f) (hb : QE X W b g) : QE X W (.IfExp c a b pos) (eIf t f g) := by
  obtain ⟨tc, pc, sc⟩ := hc.ex
  obtain ⟨ta, pa, sa⟩ := ha.ex
  obtain ⟨tb, pb, sb⟩ := hb.ex
  refine ⟨_, pe_ifExp pc pa pb, fun σ H ρ τ Q I hq => ?_⟩
  refine sc σ H ρ τ _ I ?_
  unfold eIf at hq
  cases e1 : t ρ with
  | ok b ρ1 =>
    rw [e1] at hq
    intro H1 I1
    cases b with
    | true => exact sa σ H1 ρ1 τ Q I1 hq
    | false => exact sb σ H1 ρ1 τ Q I1 hq
  | exc x ρ1 => rw [e1] at hq; exact hq
  | bad => rw [e1] at hq; exact hq.elim
end
/-! a < b <= c -/
def eCh (h h' : PV → PV → Option PV) (f g k : Sl → Out PV) : Sl → Out PV := fun ρ => (f ρ).bind fun p ρ1 => (g ρ1).bind fun q ρ2 => match h p (.fr q.fz) with
  | some (.fr (.bl true)) => (k ρ2).bind fun r ρ3 => (match h' (.fr q.fz) r with
    | some z => .ok z ρ3
    | none => .bad)
  | some (.fr (.bl false)) => .ok (.fr (.bl false)) ρ2
  | _ => .bad
theorem eCh_post {c : Expr} {k : Sl → Out PV} {h h' : PV → PV → Option PV} {r r' : R2} (sem : Sem2 X.K r h) (sem' : Sem2 X.K r' h') {ta tb tc : TE} (sa : ∀ σ H ρ τ Q, Ok X.K H ρ σ τ → EPost X W (f ρ) σ τ Q → ta σ H Q)
    (sb : ∀ σ H ρ τ Q, Ok X.K H ρ σ τ → EPost X W (g ρ) σ τ Q → tb σ H Q) (sc : ∀ σ H ρ τ Q, Ok X.K H ρ σ τ → EPost X W (k ρ) σ τ Q → tc σ H Q) :
    ∀ σ H ρ τ Q, Ok X.K H ρ σ τ → EPost X W (eCh h h' f g k ρ) σ τ Q → tChain r r' ta tb tc σ H Q := by
  intro σ H ρ τ Q I hq
  refine sa σ H ρ τ _ I ?_
  unfold eCh at hq
  cases e1 : f ρ with
  | ok p ρ1 =>
    rw [e1] at hq
    intro v H1 I1
    refine sb σ H1 ρ1 _ _ I1 ?_
    dsimp only [Out.bind] at hq
    cases e2 : g ρ1 with
    | ok q ρ2 =>
      rw [e2] at hq
      intro w H2 I2
      dsimp only [Out.bind] at hq
      have I3 : Ok X.K H2 ρ2 σ ((.fr q.fz, w) :: (p, v) :: (.fr q.fz, w) :: τ) := (I2.map (τ' := (.fr q.fz, w) :: (.fr q.fz, w) :: (p, v) :: τ) fun l s => s.freeze.dup).perm (.cons _ (.swap _ _ _))
      split at hq
      · rename_i e3
        refine sem H2 (prs ρ2 σ ++ ((.fr q.fz, w) :: τ)) p (.fr q.fz) _ v w _ (Ok.st (l := [(.fr q.fz, w), (p, v)]) I3) e3 fun u H3 s => ?_
        have I4 : Ok X.K H3 ρ2 σ ((.fr (.bl true), u) :: (.fr q.fz, w) :: τ) := I3.fit1 s
        refine ⟨true, (Ok.st1 I4).val_bl, ?_⟩
        rw [if_pos rfl]
        refine sc σ H3 ρ2 _ _ I4.tail ?_
        cases e4 : k ρ2 with
        | ok r ρ3 =>
          rw [e4] at hq
          intro z H4 I5
          dsimp only [Out.bind] at hq
          cases e5 : h' (.fr q.fz) r with
          | some res =>
            rw [e5] at hq
            exact sem' H4 (prs ρ3 σ ++ τ) (.fr q.fz) r res w z Q (Ok.st (l := [(r, z), (.fr q.fz, w)]) I5) e5 fun u H' s => hq u H' (I5.fit1 s)
          | none => rw [e5] at hq; exact hq.elim
        | exc x ρ3 => rw [e4] at hq; exact WOk.strip hq
        | bad => rw [e4] at hq; exact hq.elim
      · rename_i e3
        refine sem H2 (prs ρ2 σ ++ ((.fr q.fz, w) :: τ)) p (.fr q.fz) _ v w _ (Ok.st (l := [(.fr q.fz, w), (p, v)]) I3) e3 fun u H3 s => ?_
        have I4 : Ok X.K H3 ρ2 σ ((.fr (.bl false), u) :: (.fr q.fz, w) :: τ) := I3.fit1 s
        refine ⟨false, (Ok.st1 I4).val_bl, ?_⟩
        rw [if_neg Bool.false_ne_true]
        exact hq _ H3 ((I4.swap.tail).map fun l s => s.tail.flat fun _ => .bl false)
      · exact hq.elim
    | exc x ρ2 => rw [e2] at hq; exact WOk.strip hq
    | bad => rw [e2] at hq; exact hq.elim
  | exc x ρ1 => rw [e1] at hq; exact hq
  | bad => rw [e1] at hq; exact hq.elim
end
end Q

namespace Q
open PySem PySem.Spec PyProof.Rows L2

/-! ### chains -/
section
variable {X : Cx} {W : WX} {e a b c : Expr} {f g k : Sl → Out PV} {pos : Pos} {op op' : CmpOp} {r r' : R2} {h h' : PV → PV → Option PV}
theorem qe_chain (ho : OpR X (compareOp op) r) (sem : Sem2 X.K r h) (ho' : OpR X (compareOp op') r') (sem' : Sem2 X.K r' h') (ha : QE X W a f) (hb : QE X W b g) (hc : QE X W c k)
    (hm : lastMarks [op, op'] [b, c] = false := by with_unfolding_all rfl) : QE X W (.Compare a [op, op'] [b, c] pos) (eCh h h' f g k) := by
  obtain ⟨ta, pa, sa⟩ := ha.ex
  obtain ⟨tb, pb, sb⟩ := hb.ex
  obtain ⟨tc, pc, sc⟩ := hc.ex
  exact ⟨_, pe_chain ho ho' pa pb pc hm, eCh_post (c := c) sem sem' sa sb sc⟩
theorem qt_chain (ho : OpR X (compareOp op) r) (sem : Sem2 X.K r h) (ho' : OpR X (compareOp op') r') (sem' : Sem2 X.K r' h') (ha : QE X W a f) (hb : QE X W b g) (hc : QE X W c k)
    (hm : lastMarks [op, op'] [b, c] = false := by with_unfolding_all rfl) : QT X W (.Compare a [op, op'] [b, c] pos) (tB1 (eCh h h' f g k)) := by
  obtain ⟨ta, pa, sa⟩ := ha.ex
  obtain ⟨tb, pb, sb⟩ := hb.ex
  obtain ⟨tc, pc, sc⟩ := hc.ex
  exact ⟨_, pt_chain ho ho' pa pb pc hm, tB1_post (eCh_post (c := c) sem sem' sa sb sc)⟩
end

/-! ### operations on plain data -/
section
variable {K : PySem.W.Frag} {H : Hp} {l : List Pr}
/-- ints -/
def hI (c : Int → Int → Bool) (g : Int → Int → D) : PV → PV → Option PV
  | .fr (.int i), .fr (.int j) => if c i j = true then some (.fr (g i j)) else none
  | _, _ => none
theorem hI_sem {C : Int → Int → Prop} {c : Int → Int → Bool} {g : Int → Int → D} {gV : Int → Int → V} (hc : ∀ i j, c i j = true → C i j) (hg : ∀ F i j, RD K F (g i j) (gV i j)) : Sem2 K (rI C gV) (hI c g) := by
  intro H l p q res v w Q s e k
  unfold hI at e
  split at e
  · rename_i i j
    split at e
    · rename_i hcc
      cases e
      have e1 := s.val_int
      have e2 := s.tail.val_int
      subst e1 e2
      exact ⟨i, j, rfl, rfl, hc i j hcc, k _ H (s.tail.tail.flat fun F => hg F i j)⟩
    · cases e
  · cases e
def hI0 (g : Int → Int → D) : PV → PV → Option PV
  | .fr (.int i), .fr (.int j) => some (.fr (g i j))
  | _, _ => none
theorem hI0_sem {g : Int → Int → D} {gV : Int → Int → V} (hg : ∀ F i j, RD K F (g i j) (gV i j)) : Sem2 K (rI0 gV) (hI0 g) := by
  intro H l p q res v w Q s e k
  unfold hI0 at e
  split at e
  · rename_i i j
    cases e
    have e1 := s.val_int
    have e2 := s.tail.val_int
    subst e1 e2
    exact ⟨i, j, rfl, rfl, k _ H (s.tail.tail.flat fun F => hg F i j)⟩
  · cases e
theorem Sem2.or {r r' : R2} {h h' : PV → PV → Option PV} (a : Sem2 K r h) (b : Sem2 K r' h') : Sem2 K (fun x y H Q => r x y H Q ∨ r' x y H Q) (fun p q => match h p q with | some x => some x | none => h' p q) := by
  intro H l p q res v w Q s e k
  dsimp only at e
  cases e1 : h p q with
  | some x =>
    rw [e1] at e
    cases e
    exact .inl (a H l p q _ v w Q s e1 k)
  | none =>
    rw [e1] at e
    exact .inr (b H l p q res v w Q s e k)
/-- a list to be read -/
def lstOf : PV → Option (List D)
  | .fr (.lst xs) => some xs
  | .oL xs => some xs
  | _ => none
def tupOf : PV → Option (List D)
  | .fr (.tup xs) => some xs
  | _ => none
theorem St.seqL {p : PV} {v : V} {xs : List D} (e : lstOf p = some xs) (s : St K H ((p, v) :: l)) : ∃ a vs, v = .ref a ∧ SqL K H a vs ∧ xs.length = vs.length ∧ St K H (frs xs vs ++ (p, v) :: l) := by
  unfold lstOf at e
  split at e
  · cases e; exact s.rdL
  · cases e
    obtain ⟨a, vs, h1, h2, h3⟩ := s.rdO
    exact ⟨a, vs, h1, .of h2, h3⟩
  · cases e
theorem St.seqT {p : PV} {v : V} {xs : List D} (e : tupOf p = some xs) (s : St K H ((p, v) :: l)) : ∃ a vs, v = .ref a ∧ SqT K H a vs ∧ xs.length = vs.length ∧ St K H (frs xs vs ++ (p, v) :: l) := by
  unfold tupOf at e
  split at e
  · cases e; exact s.rdT
  · cases e
theorem atI_map {xs : List D} {vs : List V} {i : Int} {d : D} (hl : xs.length = vs.length) (e : atI xs i = some d) : ∃ v, atI vs i = some v ∧ (PV.fr d, v) ∈ frs xs vs := by
  unfold atI at e ⊢
  rw [hl] at e
  cases q : ixN vs.length i with
  | none => rw [q] at e; cases e
  | some j =>
    rw [q] at e
    have e1 : xs[j]? = some d := e
    have hj : j < vs.length := by rw [← hl]; exact (List.getElem?_eq_some_iff.mp e1).1
    exact ⟨vs[j], by show vs[j]? = _; exact List.getElem?_eq_getElem hj, frs_get e1 (List.getElem?_eq_getElem hj)⟩
def dIxL : PV → PV → Option PV := fun p q => match lstOf p, q with
  | some xs, .fr (.int i) => (atI xs i).map .fr
  | _, _ => none
def dIxT : PV → PV → Option PV := fun p q => match tupOf p, q with
  | some xs, .fr (.int i) => (atI xs i).map .fr
  | _, _ => none
theorem dIxL_sem : Sem2 K (rIxL K) dIxL := by
  intro H l p q res v w Q s e k
  unfold dIxL at e
  split at e
  · rename_i xs i e1
    obtain ⟨d, e2, rfl⟩ := Option.map_eq_some_iff.mp e
    have ew := s.val_int
    subst ew
    obtain ⟨a, vs, rfl, hq, hl, s2⟩ := s.tail.seqL e1
    obtain ⟨u, e3, hm⟩ := atI_map hl e2
    refine ⟨a, vs, i, u, rfl, rfl, hq, e3, k u H ?_⟩
    have s3 := s2.get_frs hm
    exact (s3.perm (.swap _ _ _)).tail
  · cases e
theorem dIxT_sem : Sem2 K (rIxT K) dIxT := by
  intro H l p q res v w Q s e k
  unfold dIxT at e
  split at e
  · rename_i xs i e1
    obtain ⟨d, e2, rfl⟩ := Option.map_eq_some_iff.mp e
    have ew := s.val_int
    subst ew
    obtain ⟨a, vs, rfl, hq, hl, s2⟩ := s.tail.seqT e1
    obtain ⟨u, e3, hm⟩ := atI_map hl e2
    refine ⟨a, vs, i, u, rfl, rfl, hq, e3, k u H ?_⟩
    have s3 := s2.get_frs hm
    exact (s3.perm (.swap _ _ _)).tail
  · cases e
def dIx : PV → PV → Option PV := fun p q => match dIxL p q with | some x => some x | none => dIxT p q
theorem dIx_sem : Sem2 K (fun x y H Q => rIxL K x y H Q ∨ rIxT K x y H Q) dIx := dIxL_sem.or dIxT_sem
end
section
variable {X : Cx} {W : WX} {e a b c : Expr} {f g k : Sl → Out PV} {pos : Pos}
theorem ix_lt : IxR X (fun x y H Q => rIxL X.K x y H Q ∨ rIxT X.K x y H Q) := ix_list.or ix_tup
/-- xs[i] of a list, a tuple -/
theorem qe_idx (ha : QE X W a f) (hb : QE X W b g) (hs : PlainIx b := by intro _ _; rfl) : QE X W (.Subscript a b pos) (e2 dIx f g) := qe_ix ix_lt dIx_sem ha hb hs

/-! lists added -/
def rCatS (K : PySem.W.Frag) : R2 := fun x y H Q => ∃ l b xs zs, x = .ref l ∧ y = .ref b ∧ SqL K H l xs ∧ SqL K H b zs ∧ xs.length + zs.length ≤ sizeLine ∧ ∀ p, H p = none → Q (.ref p) (upd H p (.lst (xs ++ zs)))
theorem op_catS : OpR X (binaryOp .Add) (rCatS X.K) := by
  intro pins s σ H x y v u Q I rx ry h
  obtain ⟨l, b, xs, zs, rfl, rfl, hH, hB, hz, q⟩ := h
  cases rx
  cases ry
  obtain ⟨its, r, p1, z1⟩ := I.list hH
  obtain ⟨its2, r2, p2, z2⟩ := I.list hB
  obtain ⟨⟨cls, dd, data, sl⟩, n, ho, hc, _, hd⟩ := p1
  obtain ⟨⟨cls2, dd2, data2, sl2⟩, n2, ho2, hc2, _, hd2⟩ := p2
  simp only at hc hd hc2 hd2
  subst hc hd hc2 hd2
  have e : its.toArray ++ its2.toArray = (its ++ its2).toArray := by simp
  have l1 := r.length
  have l2 := r2.length
  refine concat_meets ⟨_, ho, rfl⟩ ⟨_, ho2, rfl⟩ noFill_list_add seq_list_add PySem.F.slot_list_add PySem.F.entry_list_add (PySem.F.args_list_add_2 _ _) (list_addW l b its.toArray its2.toArray n n2 dd dd2 sl sl2 (by rw [List.size_toArray, List.size_toArray]; omega)) ⟨ho, ho2, ?_⟩
  rw [e]
  exact ⟨.ref _, _, I.lnew (t' := s.toks) (r.append r2) (by rw [List.length_append]; omega), rfl, q _ I.fresh⟩
def dCat : PV → PV → Option PV := fun p q => match lstOf p, lstOf q with
  | some xs, some ys => if xs.length + ys.length ≤ 16777216 then some (.oL (xs ++ ys)) else none
  | _, _ => none
theorem dCat_sem {K : PySem.W.Frag} : Sem2 K (rCatS K) dCat := by
  intro H l p q res v w Q s e k
  unfold dCat at e
  split at e
  · rename_i xs ys e1 e2
    split at e
    · rename_i hz
      cases e
      obtain ⟨b, ws, rfl, hq2, hl2, s2⟩ := s.seqL e2
      have s3 : St K H ((p, v) :: (frs ys ws ++ l)) := by
        refine St.perm (List.perm_middle (a := (p, v)) (l₁ := frs ys ws) (l₂ := l)) ?_
        have := s2.perm (List.perm_middle (a := (q, V.ref b)) (l₁ := frs ys ws) (l₂ := (p, v) :: l))
        exact this.tail
      obtain ⟨a, vs, rfl, hq1, hl1, s4⟩ := s3.seqL e1
      refine ⟨a, b, vs, ws, rfl, rfl, hq1, hq2, by rw [sizeLine_eq]; omega, fun r hn => k (.ref r) _ ?_⟩
      refine St.newL (by rw [List.length_append, List.length_append]; omega) hn ?_
      rw [frs_append hl1]
      have s5 := (s4.perm (List.perm_middle (a := (p, V.ref a)) (l₁ := frs xs vs) (l₂ := frs ys ws ++ l))).tail
      rw [List.append_assoc]
      exact s5
    · cases e
  · cases e
/-! texts added -/
def dCatS : PV → PV → Option PV
  | .fr (.str i), .fr (.str j) => if i.length + j.length ≤ 16777216 then some (.fr (.str (i ++ j))) else none
  | _, _ => none
theorem dCatS_sem {K : PySem.W.Frag} : Sem2 K (fun x y H Q => ∃ i j, x = .str i ∧ y = .str j ∧ i.length + j.length ≤ sizeLine ∧ Q (.str (i ++ j)) H) dCatS := by
  intro H l p q res v w Q s e k
  unfold dCatS at e
  split at e
  · rename_i i j
    split at e
    · rename_i hz
      cases e
      have e1 := s.val_str
      have e2 := s.tail.val_str
      subst e1 e2
      exact ⟨i, j, rfl, rfl, by rw [sizeLine_eq]; exact hz, k _ H (s.tail.tail.flat fun F => .str _)⟩
    · cases e
  · cases e
/-- + -/
def dAdd : PV → PV → Option PV := fun p q => match hI0 (fun i j => .int (i + j)) p q with
  | some x => some x
  | none => (match dCatS p q with | some x => some x | none => dCat p q)
theorem qe_add (ha : QE X W a f) (hb : QE X W b g) : QE X W (.BinOp a .Add b pos) (e2 dAdd f g) :=
  qe_op (op_add.or (op_add_str.or op_catS)) (Sem2.or (hI0_sem fun F i j => .int _) (Sem2.or dCatS_sem dCat_sem)) ha hb
def dSub : PV → PV → Option PV := hI0 fun i j => .int (i - j)
theorem qe_sub (ha : QE X W a f) (hb : QE X W b g) : QE X W (.BinOp a .Sub b pos) (e2 dSub f g) := qe_op op_sub (hI0_sem fun F i j => .int _) ha hb
/-- *: ints, a list times an int -/
def mulOk (i j : Int) : Bool := decide (i.natAbs.log2 + j.natAbs.log2 < 1000000)
def dRep : PV → PV → Option PV := fun p q => match p, q with
  | .oL xs, .fr (.int k) => if -9223372036854775808 ≤ k ∧ k < 9223372036854775808 ∧ xs.length * k.toNat ≤ 16777216 then some (.oL (List.replicate k.toNat xs).flatten) else none
  | _, _ => none
theorem frs_rep {xs : List D} {vs : List V} {K : PySem.W.Frag} {H : Hp} {l : List Pr} (hl : xs.length = vs.length) (s : St K H (frs xs vs ++ l)) : ∀ n : Nat, (List.replicate n xs).flatten.length = (List.replicate n vs).flatten.length ∧ St K H (frs (List.replicate n xs).flatten (List.replicate n vs).flatten ++ l) := by
  intro n
  obtain ⟨F, as, e, r, nd⟩ := s
  obtain ⟨r1, r2⟩ := RA.of_frs hl r
  have rn : RL K F (List.replicate n xs).flatten (List.replicate n vs).flatten := by
    induction n with
    | zero => exact .nil
    | succ n ih =>
      rw [List.replicate_succ, List.replicate_succ, List.flatten_cons, List.flatten_cons]
      exact r1.append ih
  exact ⟨rn.length, F, as, e, .frs rn r2, nd⟩
theorem dRep_sem {K : PySem.W.Frag} : Sem2 K rRep dRep := by
  intro H l p q res v w Q s e k
  unfold dRep at e
  split at e
  · rename_i xs n
    split at e
    · rename_i hz
      cases e
      have ew := s.val_int
      subst ew
      obtain ⟨a, vs, rfl, hH, hl, s2⟩ := s.tail.rdO
      have s3 := (s2.perm (List.perm_middle (a := (PV.oL xs, V.ref a)) (l₁ := frs xs vs) (l₂ := l))).tail
      obtain ⟨hl2, s4⟩ := frs_rep hl s3 n.toNat
      exact ⟨a, n, vs, rfl, rfl, hH, by simpa using hz.1, by simpa using hz.2.1, by rw [sizeLine_eq, ← hl]; exact hz.2.2, fun r hn => k _ _ (St.newL hl2 hn s4)⟩
    · cases e
  · cases e
def dMul : PV → PV → Option PV := fun p q => match hI mulOk (fun i j => .int (i * j)) p q with
  | some x => some x
  | none => dRep p q
theorem qe_mul (ha : QE X W a f) (hb : QE X W b g) : QE X W (.BinOp a .Mult b pos) (e2 dMul f g) :=
  qe_op (op_mulW.or op_rep) (Sem2.or (hI_sem (fun i j h => show CMulW i j from of_decide_eq_true (p := i.natAbs.log2 + j.natAbs.log2 < 1000000) h) fun F i j => .int _) dRep_sem) ha hb
def fdivOk (_ j : Int) : Bool := decide (0 < j) && decide (j.natAbs.log2 < 9000)
def dFdiv : PV → PV → Option PV := hI fdivOk fun i j => .int (i / j)
theorem qe_fdiv (ha : QE X W a f) (hb : QE X W b g) : QE X W (.BinOp a .FloorDiv b pos) (e2 dFdiv f g) :=
  qe_op op_fdivW (hI_sem (fun i j h => by
    unfold fdivOk at h
    rw [Bool.and_eq_true] at h
    exact ⟨of_decide_eq_true h.1, of_decide_eq_true h.2⟩) fun F i j => .int _) ha hb
def dMod : PV → PV → Option PV := hI (fun _ j => decide (0 < j)) fun i j => .int (i % j)
theorem qe_mod (ha : QE X W a f) (hb : QE X W b g) : QE X W (.BinOp a .Mod b pos) (e2 dMod f g) := qe_op op_mod (hI_sem (fun i j h => of_decide_eq_true h) fun F i j => .int _) ha hb
/-- ** -/
def CPowW (i j : Int) : Prop := 0 ≤ j ∧ (Builtin.Int.intBits i : Int) * j ≤ 2 ^ 27
theorem op_powW : OpR X (binaryOp .Pow) (rI CPowW fun i j => .int (i ^ j.toNat)) := opI fun _ _ _ _ _ _ _ hc q => pow_int hc.1 hc.2 q
def powOk (i j : Int) : Bool := decide (0 ≤ j) && decide (((i.natAbs.log2 : Int) + 1) * j ≤ 134217728)
theorem powOk_ok {i j : Int} (h : powOk i j = true) : CPowW i j := by
  unfold powOk at h
  rw [Bool.and_eq_true] at h
  have h0 := of_decide_eq_true h.1
  have h1 := of_decide_eq_true h.2
  have b : Builtin.Int.intBits i ≤ i.natAbs.log2 + 1 := by
    unfold Builtin.Int.intBits
    split <;> omega
  refine ⟨h0, ?_⟩
  have e : (2 : Int) ^ 27 = 134217728 := by decide
  rw [e]
  have b' : (Builtin.Int.intBits i : Int) ≤ (i.natAbs.log2 : Int) + 1 := by omega
  exact Int.le_trans (Int.mul_le_mul_of_nonneg_right b' h0) h1
def dPow : PV → PV → Option PV := hI powOk fun i j => .int (i ^ j.toNat)
theorem qe_pow (ha : QE X W a f) (hb : QE X W b g) : QE X W (.BinOp a .Pow b pos) (e2 dPow f g) := qe_op op_powW (hI_sem (fun i j h => powOk_ok h) fun F i j => .int _) ha hb
/-- << >> -/
def shlOk (i j : Int) : Bool := decide (0 ≤ j) && decide ((i.natAbs.log2 : Int) + 1 + j ≤ 134217728)
def CShlQ (i j : Int) : Prop := 0 ≤ j ∧ (Builtin.Int.intBits i : Int) + j ≤ 2 ^ 27
theorem op_shlQ : OpR X (binaryOp .LShift) (rI CShlQ fun i j => .int (i * 2 ^ j.toNat)) := opI fun _ _ _ _ _ _ _ hc q => lshift_int hc.1 hc.2 q
theorem shlOk_ok {i j : Int} (h : shlOk i j = true) : CShlQ i j := by
  unfold shlOk at h
  rw [Bool.and_eq_true] at h
  have h0 := of_decide_eq_true h.1
  have h1 := of_decide_eq_true h.2
  have b : Builtin.Int.intBits i ≤ i.natAbs.log2 + 1 := by
    unfold Builtin.Int.intBits
    split <;> omega
  have e : (2 : Int) ^ 27 = 134217728 := by decide
  exact ⟨h0, by rw [e]; omega⟩
def dShl : PV → PV → Option PV := hI shlOk fun i j => .int (i * 2 ^ j.toNat)
theorem qe_shl (ha : QE X W a f) (hb : QE X W b g) : QE X W (.BinOp a .LShift b pos) (e2 dShl f g) := qe_op op_shlQ (hI_sem (fun i j h => shlOk_ok h) fun F i j => .int _) ha hb
def dShr : PV → PV → Option PV := hI (fun _ j => decide (0 ≤ j)) fun i j => .int (i / 2 ^ j.toNat)
theorem qe_shr (ha : QE X W a f) (hb : QE X W b g) : QE X W (.BinOp a .RShift b pos) (e2 dShr f g) := qe_op op_shr (hI_sem (fun i j h => of_decide_eq_true h) fun F i j => .int _) ha hb
def dNeg : PV → Option PV
  | .fr (.int i) => some (.fr (.int (-i)))
  | _ => none
theorem qe_neg (ha : QE X W a f) : QE X W (.UnaryOp .USub a pos) (e1 dNeg f) := qe_un un_neg (fun H l p res v Q s e k => by
  unfold dNeg at e
  split at e
  · rename_i i
    cases e
    have e1 := s.val_int
    subst e1
    exact ⟨i, rfl, k _ H (s.tail.flat fun F => .int _)⟩
  · cases e) ha
/-! comparisons of ints -/
def dLt : PV → PV → Option PV := hI0 fun i j => .bl (decide (i < j))
def dLe : PV → PV → Option PV := hI0 fun i j => .bl (decide (i ≤ j))
def dGt : PV → PV → Option PV := hI0 fun i j => .bl (decide (j < i))
def dGe : PV → PV → Option PV := hI0 fun i j => .bl (decide (j ≤ i))
theorem sLt {K : PySem.W.Frag} : Sem2 K (rI0 fun i j => .bl (decide (i < j))) dLt := hI0_sem fun F i j => .bl _
theorem sLe {K : PySem.W.Frag} : Sem2 K (rI0 fun i j => .bl (decide (i ≤ j))) dLe := hI0_sem fun F i j => .bl _
theorem sGt {K : PySem.W.Frag} : Sem2 K (rI0 fun i j => .bl (decide (j < i))) dGt := hI0_sem fun F i j => .bl _
theorem sGe {K : PySem.W.Frag} : Sem2 K (rI0 fun i j => .bl (decide (j ≤ i))) dGe := hI0_sem fun F i j => .bl _
/-! is None -/
def isN : D → Bool
  | .non => true
  | _ => false
def dIsN : PV → PV → Option PV
  | .fr d, .fr .non => some (.fr (.bl (isN d)))
  | _, .fr .non => some (.fr (.bl false))
  | _, _ => none
theorem St.val_own {K : PySem.W.Frag} {H : Hp} {l : List Pr} {p : PV} {v : V} (hp : ∀ d, p ≠ .fr d) (s : St K H ((p, v) :: l)) : v ≠ .non := by
  obtain ⟨F, as, e, r, n⟩ := s
  cases r with
  | cons h1 h2 => cases h1 <;> first | exact absurd rfl (hp _) | (intro z; cases z)
theorem isn_eq {K : PySem.W.Frag} {H : Hp} {l : List Pr} {d : D} {v : V} (s : St K H ((.fr d, v) :: l)) : decide (v = .non) = isN d := by
  have h := s.val_isnon
  cases d with
  | non => exact decide_eq_true (h.mpr rfl)
  | _ => exact decide_eq_false fun z => nomatch h.mp z
theorem dIsN_sem {K : PySem.W.Frag} : Sem2 K (fun x y H Q => y = .non ∧ Q (.bl (decide (x = .non))) H) dIsN := by
  intro H l p q res v w Q s e k
  unfold dIsN at e
  split at e
  · rename_i d
    cases e
    have e1 := s.val_non
    subst e1
    refine ⟨rfl, ?_⟩
    rw [isn_eq s.tail]
    exact k _ H (s.tail.tail.flat fun F => .bl _)
  · rename_i hp
    cases e
    have e1 := s.val_non
    subst e1
    refine ⟨rfl, ?_⟩
    rw [decide_eq_false (s.tail.val_own fun d z => hp d z)]
    exact k _ H (s.tail.tail.flat fun F => .bl _)
  · cases e
def dNotN : PV → PV → Option PV := fun p q => match dIsN p q with
  | some (.fr (.bl b)) => some (.fr (.bl (!b)))
  | _ => none
theorem dNotN_sem {K : PySem.W.Frag} : Sem2 K (fun x y H Q => y = .non ∧ Q (.bl (!decide (x = .non))) H) dNotN := by
  intro H l p q res v w Q s e k
  unfold dNotN at e
  split at e
  · rename_i b e1
    cases e
    obtain ⟨h1, h2⟩ := dIsN_sem H l p q _ v w (fun u H' => ∃ c, u = .bl c ∧ Q (.bl (!c)) H') s e1 fun u H' s' => ⟨b, s'.val_bl, k _ H' (s'.tail.flat fun F => .bl _)⟩
    obtain ⟨c, e2, q2⟩ := h2
    cases e2
    exact ⟨h1, q2⟩
  · cases e
end
end Q

namespace Q
open PySem PySem.Spec PyProof.Rows L2

/-! ### canonical readings -/
def wpE (K : PySem.W.Frag) (W : WX) (f : Sl → Out PV) : TE := fun σ H Q => ∃ ρ τ, Ok K H ρ σ τ ∧ (match f ρ with
  | .ok p ρ => ∀ v H, Ok K H ρ σ ((p, v) :: τ) → Q v H
  | .exc x ρ => WOk K W x ρ σ τ
  | .bad => False)
def wpT (K : PySem.W.Frag) (W : WX) (f : Sl → Out Bool) : TT := fun σ H Q => ∃ ρ τ, Ok K H ρ σ τ ∧ (match f ρ with
  | .ok b ρ => ∀ H, Ok K H ρ σ τ → Q b H
  | .exc x ρ => WOk K W x ρ σ τ
  | .bad => False)
def wpG (K : PySem.W.Frag) (B : List Nat) (g : PV → Sl → Option Sl) : TG := fun v σ H Q => ∃ ρ τ p ρ', Ok K H ρ σ ((p, v) :: τ) ∧ g p ρ = some ρ' ∧ ∀ σ', Bor B σ σ' → Ok K H ρ' σ' τ → Q σ' H
section
variable {X : Cx} {W : WX} {B : List Nat} {e : Expr}
theorem QE.pe {f : Sl → Out PV} (h : QE X W e f) : PE X e (wpE X.K W f) := by
  obtain ⟨te, p, s⟩ := h.ex
  exact ⟨fun pins s0 σ H Q I hq => p.run pins s0 σ H Q I (by
    obtain ⟨ρ, τ, ok, hq⟩ := hq
    exact s σ H ρ τ Q ok hq)⟩
theorem QT.pt {f : Sl → Out Bool} (h : QT X W e f) : PT X e (wpT X.K W f) := by
  obtain ⟨te, p, s⟩ := h.ex
  exact ⟨fun pins s0 σ H Q I hq => p.run pins s0 σ H Q I (by
    obtain ⟨ρ, τ, ok, hq⟩ := hq
    exact s σ H ρ τ Q ok hq)⟩
theorem QG.pg {g : PV → Sl → Option Sl} (h : QG X B e g) : PG X e (wpG X.K B g) := by
  obtain ⟨te, p, s⟩ := h.ex
  exact ⟨fun pins s0 σ H v u Q I r hq => p.run pins s0 σ H v u Q I r (by
    obtain ⟨ρ, τ, q, ρ', ok, hg, hq⟩ := hq
    exact s σ H ρ τ q v ρ' ok hg Q hq)⟩
end

/-! ### arguments -/
section
variable {X : Cx} {W : WX} {B : List Nat} {e : Expr} {es : List Expr} {f : Sl → Out PV} {fa : Sl → Out (List Arg)} {pos p : Pos}
def aNil : Sl → Out (List Arg) := fun ρ => .ok [] ρ
def aVal (f : Sl → Out PV) (r : Sl → Out (List Arg)) : Sl → Out (List Arg) := fun ρ => (f ρ).bind fun p ρ1 => (r ρ1).bind fun as ρ2 => .ok (.val p :: as) ρ2
def aBor (i : Nat) (r : Sl → Out (List Arg)) : Sl → Out (List Arg) := fun ρ => match ρ[i]? with
  | some (some _) => (r ρ).bind fun as ρ2 => .ok (.bor i :: as) ρ2
  | _ => .bad
theorem qa_nil : QA X W [] aNil := ⟨_, pa_nil, fun σ H ρ τ Q I hq => hq [] H trivial I⟩
theorem APost.weak {o : Out (List Arg)} {σ : L2.St} {τ : List Pr} {Q : List V → Hp → Prop} {y : Pr} (h : APost X W o σ τ Q) : APost X W o σ (y :: τ) Q := by
  cases o with
  | ok as ρ => exact fun vs H a q => h vs H a (q.map fun l s => by
      rw [List.append_assoc] at s ⊢
      exact (s.perm (List.perm_middle (a := y) (l₁ := avals as vs) (l₂ := τ ++ l))).tail)
  | exc x ρ => exact WOk.strip h
  | bad => exact h
theorem qa_val (he : QE X W e f) (hr : QA X W es fa) (hs : starEach (e :: es) X.env = (false, eval e X.env) :: starEach es X.env := by rfl) : QA X W (e :: es) (aVal f fa) := by
  obtain ⟨te, pe, se⟩ := he.ex
  obtain ⟨ta, pa, sa⟩ := hr.ex
  refine ⟨_, pa_cons pe pa hs, fun σ H ρ τ Q I hq => ?_⟩
  refine se σ H ρ τ _ I ?_
  unfold aVal at hq
  cases e1 : f ρ with
  | ok p ρ1 =>
    rw [e1] at hq
    intro v H1 I1
    refine sa σ H1 ρ1 _ _ I1 ?_
    dsimp only [Out.bind] at hq
    cases e2 : fa ρ1 with
    | ok as ρ2 =>
      rw [e2] at hq
      intro vs H2 a I2
      refine hq (v :: vs) H2 a (I2.perm ?_)
      exact List.perm_middle
    | exc x ρ2 => rw [e2] at hq; exact WOk.strip hq
    | bad => rw [e2] at hq; exact hq.elim
  | exc x ρ1 => rw [e1] at hq; exact hq
  | bad => rw [e1] at hq; exact hq.elim
theorem qa_bor {i : Nat} (he : PE X e (tVar i)) (hr : QA X W es fa) (hs : starEach (e :: es) X.env = (false, eval e X.env) :: starEach es X.env := by rfl) : QA X W (e :: es) (aBor i fa) := by
  obtain ⟨ta, pa, sa⟩ := hr.ex
  refine ⟨_, pa_cons he pa hs, fun σ H ρ τ Q I hq => ?_⟩
  unfold aBor at hq
  split at hq
  · rename_i p0 e1
    obtain ⟨v, ev, _⟩ := I.get e1
    refine ⟨v, ev, ?_⟩
    refine sa σ H ρ τ _ I ?_
    cases e2 : fa ρ with
    | ok as ρ2 =>
      rw [e2] at hq
      intro vs H2 a I2
      exact hq (v :: vs) H2 ⟨ev, a⟩ I2
    | exc x ρ2 => rw [e2] at hq; exact hq
    | bad => rw [e2] at hq; exact hq.elim
  · exact hq.elim

/-! ### values only: displays, built-ins -/
def valsOf : List Arg → Option (List PV)
  | [] => some []
  | .val p :: as => (match valsOf as with | some ps => some (p :: ps) | none => none)
  | .bor _ :: _ => none
theorem valsOf_zip {σ : L2.St} : ∀ {as : List Arg} {ps : List PV} {vs : List V}, valsOf as = some ps → AFit σ as vs → ps.length = vs.length ∧ avals as vs = ps.zip vs
  | [], ps, [], h, _ => by cases h; exact ⟨rfl, rfl⟩
  | [], ps, _ :: _, h, a => a.elim
  | .val p :: as, ps, v :: vs, h, a => by
    unfold valsOf at h
    split at h
    · rename_i ps' e
      cases h
      obtain ⟨h1, h2⟩ := valsOf_zip (vs := vs) e a
      exact ⟨congrArg (· + 1) h1, congrArg ((p, v) :: ·) h2⟩
    · cases h
  | .val _ :: _, _, [], _, a => a.elim
  | .bor _ :: _, _, _, h, _ => by cases h
theorem freezeAll {K : PySem.W.Frag} {H : Hp} : ∀ {ps : List PV} {vs : List V} {l : List Pr}, ps.length = vs.length → St K H (ps.zip vs ++ l) → St K H (frs (ps.map PV.fz) vs ++ l)
  | [], [], _, _, s => s
  | p :: ps, v :: vs, l, h, s => by
    have s1 : St K H ((.fr p.fz, v) :: (ps.zip vs ++ l)) := St.freeze s
    have s2 : St K H (ps.zip vs ++ ((.fr p.fz, v) :: l)) := s1.perm List.perm_middle.symm
    exact (freezeAll (Nat.succ.inj h) s2).perm List.perm_middle
def eV (h : List PV → Option PV) (fa : Sl → Out (List Arg)) : Sl → Out PV := fun ρ => (fa ρ).bind fun as ρ1 => match valsOf as with
  | some ps => (match h ps with | some r => .ok r ρ1 | none => .bad)
  | none => .bad
def SemN (K : PySem.W.Frag) (r : List V → Hp → VK → Prop) (h : List PV → Option PV) : Prop := ∀ (H : Hp) (l : List Pr) (ps : List PV) (res : PV) (vs : List V) (Q : VK), ps.length = vs.length → St K H (ps.zip vs ++ l) → h ps = some res → (∀ u H', St K H' ((res, u) :: l) → Q u H') → r vs H Q
theorem eV_post {h : List PV → Option PV} {r : List V → Hp → VK → Prop} (sem : SemN X.K r h) {ta : TA} (sa : ∀ σ H ρ τ Q, Ok X.K H ρ σ τ → APost X W (fa ρ) σ τ Q → ta σ H Q) :
    ∀ σ H ρ τ Q, Ok X.K H ρ σ τ → EPost X W (eV h fa ρ) σ τ Q → tCB r ta σ H Q := by
  intro σ H ρ τ Q I hq
  refine sa σ H ρ τ _ I ?_
  unfold eV at hq
  cases e1 : fa ρ with
  | ok as ρ1 =>
    rw [e1] at hq
    intro vs H1 a I1
    dsimp only [Out.bind] at hq
    split at hq
    · rename_i ps e2
      split at hq
      · rename_i res e3
        obtain ⟨h1, h2⟩ := valsOf_zip e2 a
        rw [h2] at I1
        exact sem H1 (prs ρ1 σ ++ τ) ps res vs Q h1 (Ok.st I1) e3 fun u H' s => hq u H' (I1.fit1 s)
      · exact hq.elim
    · exact hq.elim
  | exc x ρ1 => rw [e1] at hq; exact hq
  | bad => rw [e1] at hq; exact hq.elim
def hTup : List PV → Option PV := fun ps => if ps.length ≤ 16777216 then some (.fr (.tup (ps.map PV.fz))) else none
def hLst : List PV → Option PV := fun ps => if ps.length ≤ 16777216 then some (.oL (ps.map PV.fz)) else none
theorem qe_tup {k : Nat} (ha : QA X W es fa) : QE X W (.Tuple es k pos) (eV hTup fa) := by
  obtain ⟨ta, pa, sa⟩ := ha.ex
  refine ⟨_, pe_tup pa, eV_post (r := fun xs H1 Q => xs.length ≤ sizeLine ∧ ∀ p, H1 p = none → Q (.ref p) (upd H1 p (.tup xs))) (fun H l ps res vs Q hl s e k => ?_) sa⟩
  unfold hTup at e
  split at e
  · rename_i hz
    cases e
    exact ⟨by rw [sizeLine_eq, ← hl]; exact hz, fun p hp => k _ _ (St.newT (by rw [List.length_map]; exact hl) hp (freezeAll hl s))⟩
  · cases e
theorem qe_lst (ha : QA X W es fa) : QE X W (.List es pos) (eV hLst fa) := by
  obtain ⟨ta, pa, sa⟩ := ha.ex
  refine ⟨_, pe_lst pa, eV_post (r := fun xs H1 Q => xs.length ≤ sizeLine ∧ ∀ p, H1 p = none → Q (.ref p) (upd H1 p (.lst xs))) (fun H l ps res vs Q hl s e k => ?_) sa⟩
  unfold hLst at e
  split at e
  · rename_i hz
    cases e
    exact ⟨by rw [sizeLine_eq, ← hl]; exact hz, fun p hp => k _ _ (St.newL (by rw [List.length_map]; exact hl) hp (freezeAll hl s))⟩
  · cases e
theorem qe_callB {id : String} {x : Str} {r : List V → Hp → VK → Prop} {h : List PV → Option PV} (hc : CallR X (.builtin id) r) (sem : SemN X.K r h) (hg : Gl X x) (hm : X.mg x = none) (hv : bootBuiltins x = some (.builtin id)) (ha : QA X W (e :: es) fa)
    (hn : x ≠ "__name__" := by decide) (hdb : (x == ("__debug__" : Str)) = false := by decide) (he : starEach (e :: es) X.env = (false, eval e X.env) :: starEach es X.env := by rfl) (hpl : (backTo pos (starEach es X.env)).any (·.1) = false := by rfl) :
    QE X W (.Call (.Name x p) (e :: es) [] pos) (eV h fa) := by
  obtain ⟨ta, pa, sa⟩ := ha.ex
  exact ⟨_, pe_callB hc hg hm hv pa hn hdb he hpl, eV_post sem sa⟩
theorem qe_callTy {T : String} {x : Str} {r : List V → Hp → VK → Prop} {h : List PV → Option PV} (hc : CallR X (.type T) r) (sem : SemN X.K r h) (hg : Gl X x) (hm : X.mg x = none) (hv : bootBuiltins x = some (.type T)) (ha : QA X W (e :: es) fa)
    (hn : x ≠ "__name__" := by decide) (hdb : (x == ("__debug__" : Str)) = false := by decide) (he : starEach (e :: es) X.env = (false, eval e X.env) :: starEach es X.env := by rfl) (hpl : (backTo pos (starEach es X.env)).any (·.1) = false := by rfl) :
    QE X W (.Call (.Name x p) (e :: es) [] pos) (eV h fa) := by
  obtain ⟨ta, pa, sa⟩ := ha.ex
  exact ⟨_, pe_callTy hc hg hm hv pa hn hdb he hpl, eV_post sem sa⟩
theorem SemN.or {K : PySem.W.Frag} {r r' : List V → Hp → VK → Prop} {h h' : List PV → Option PV} (a : SemN K r h) (b : SemN K r' h') : SemN K (fun x H Q => r x H Q ∨ r' x H Q) (fun p => match h p with | some x => some x | none => h' p) := by
  intro H l p res v Q hl s e k
  dsimp only at e
  cases e1 : h p with
  | some x =>
    rw [e1] at e
    cases e
    exact .inl (a H l p _ v Q hl s e1 k)
  | none =>
    rw [e1] at e
    exact .inr (b H l p res v Q hl s e k)
end
theorem two_vs {K : PySem.W.Frag} {H : Hp} {l : List Pr} {p q : PV} {vs : List V} (hl : [p, q].length = vs.length) : ∃ v w, vs = [v, w] := by
  match vs, hl with
  | [v, w], _ => exact ⟨v, w, rfl⟩
theorem one_vs {p : PV} {vs : List V} (hl : [p].length = vs.length) : ∃ v, vs = [v] := by
  match vs, hl with
  | [v], _ => exact ⟨v, rfl⟩
/-! built-ins -/
def hLen : List PV → Option PV
  | [p] => (match lstOf p with | some xs => some (.fr (.int xs.length)) | none => (match p with
    | .fr (.tup xs) => some (.fr (.int xs.length))
    | .fr (.str x) => if x.length ≤ 16777216 then some (.fr (.int x.length)) else none
    | _ => none))
  | _ => none
theorem hLen_sem {K : PySem.W.Frag} : SemN K (fun xs H Q => ∃ x n, xs = [x] ∧ LenV K x H n ∧ Q (.int n) H) hLen := by
  intro H l ps res vs Q hl s e k
  unfold hLen at e
  split at e
  · rename_i p
    obtain ⟨v, rfl⟩ := one_vs hl
    have s1 : St K H ((p, v) :: l) := s
    split at e
    · rename_i xs e1
      cases e
      obtain ⟨a, ws, rfl, hq, hl2, _⟩ := s1.seqL e1
      exact ⟨_, ws.length, rfl, .inl ⟨ws, hq, rfl⟩, by rw [← hl2]; exact k _ H (s1.tail.flat fun F => .int _)⟩
    · split at e
      · rename_i xs _
        cases e
        obtain ⟨a, ws, rfl, hq, hl2, _⟩ := s1.rdT
        exact ⟨_, ws.length, rfl, .inr ⟨ws, hq, rfl⟩, by rw [← hl2]; exact k _ H (s1.tail.flat fun F => .int _)⟩
      · rename_i x _
        split at e
        · rename_i hz
          cases e
          have e1 := s1.val_str
          subst e1
          exact ⟨_, x.length, rfl, ⟨by rw [sizeLine_eq]; exact hz, rfl⟩, k _ H (s1.tail.flat fun F => .int _)⟩
        · cases e
      · cases e
  · cases e
def hII (g : Int → Int → D) : List PV → Option PV
  | [.fr (.int i), .fr (.int j)] => some (.fr (g i j))
  | _ => none
theorem hII_sem {K : PySem.W.Frag} {g : Int → Int → D} {gV : Int → Int → V} (hg : ∀ F i j, RD K F (g i j) (gV i j)) : SemN K (fun xs H Q => ∃ i j, xs = [.int i, .int j] ∧ Q (gV i j) H) (hII g) := by
  intro H l ps res vs Q hl s e k
  unfold hII at e
  split at e
  · rename_i i j
    cases e
    obtain ⟨v, w, rfl⟩ := two_vs (K := K) (H := H) (l := l) hl
    have s1 : St K H ((.fr (.int i), v) :: (.fr (.int j), w) :: l) := s
    have e1 := s1.val_int
    have e2 := s1.tail.val_int
    subst e1 e2
    exact ⟨i, j, rfl, k _ H (s1.tail.tail.flat fun F => hg F i j)⟩
  · cases e
def hMax2 : List PV → Option PV := hII fun i j => .int (if j > i then j else i)
def hMin2 : List PV → Option PV := hII fun i j => .int (if j < i then j else i)
def hAbs : List PV → Option PV
  | [.fr (.int i)] => some (.fr (.int (if i < 0 then -i else i)))
  | _ => none
theorem hAbs_sem {K : PySem.W.Frag} : SemN K (fun xs H Q => ∃ i, xs = [.int i] ∧ Q (.int (if i < 0 then -i else i)) H) hAbs := by
  intro H l ps res vs Q hl s e k
  unfold hAbs at e
  split at e
  · rename_i i
    cases e
    obtain ⟨v, rfl⟩ := one_vs hl
    have s1 : St K H ((.fr (.int i), v) :: l) := s
    have e1 := s1.val_int
    subst e1
    exact ⟨i, rfl, k _ H (s1.tail.flat fun F => .int _)⟩
  · cases e
def hInt : List PV → Option PV
  | [.fr (.int i)] => some (.fr (.int i))
  | [.fr (.bl b)] => some (.fr (.int (if b then 1 else 0)))
  | _ => none
theorem hInt_sem {K : PySem.W.Frag} : SemN K (fun xs H Q => (∃ i, xs = [.int i] ∧ Q (.int i) H) ∨ ∃ k, xs = [.bl k] ∧ Q (.int (if k then 1 else 0)) H) hInt := by
  intro H l ps res vs Q hl s e k
  unfold hInt at e
  split at e
  · rename_i i
    cases e
    obtain ⟨v, rfl⟩ := one_vs hl
    have s1 : St K H ((.fr (.int i), v) :: l) := s
    have e1 := s1.val_int
    subst e1
    exact .inl ⟨i, rfl, k _ H (s1.tail.flat fun F => .int _)⟩
  · rename_i i
    cases e
    obtain ⟨v, rfl⟩ := one_vs hl
    have s1 : St K H ((.fr (.bl i), v) :: l) := s
    have e1 := s1.val_bl
    subst e1
    exact .inr ⟨i, rfl, k _ H (s1.tail.flat fun F => .int _)⟩
  · cases e
/-- list(x) of a list or a tuple: a new list -/
def hListOf : List PV → Option PV
  | [p] => (match lstOf p with | some xs => some (.oL xs) | none => (tupOf p).map .oL)
  | _ => none
theorem hListOf_sem {K : PySem.W.Frag} : SemN K (fun xs H Q => ∃ p ys, xs = [.ref p] ∧ (SqL K H p ys ∨ SqT K H p ys) ∧ ∀ l, H l = none → Q (.ref l) (upd H l (.lst ys))) hListOf := by
  intro H l ps res vs Q hl s e k
  unfold hListOf at e
  split at e
  · rename_i p
    obtain ⟨v, rfl⟩ := one_vs hl
    have s1 : St K H ((p, v) :: l) := s
    split at e
    · rename_i xs e1
      cases e
      obtain ⟨a, ws, rfl, hq, hl2, s2⟩ := s1.seqL e1
      exact ⟨a, ws, rfl, .inl hq, fun r hn => k _ _ (St.newL hl2 hn (s2.perm List.perm_middle).tail)⟩
    · obtain ⟨xs, e1, rfl⟩ := Option.map_eq_some_iff.mp e
      obtain ⟨a, ws, rfl, hq, hl2, s2⟩ := s1.seqT e1
      exact ⟨a, ws, rfl, .inr hq, fun r hn => k _ _ (St.newL hl2 hn (s2.perm List.perm_middle).tail)⟩
  · cases e
/-- tuple(x) of a list or a tuple -/
def hTupOf : List PV → Option PV
  | [p] => (match lstOf p with | some xs => some (.fr (.tup xs)) | none => (tupOf p).map fun xs => .fr (.tup xs))
  | _ => none
theorem hTupOf_sem {K : PySem.W.Frag} : SemN K (fun xs H Q => ∃ p ys, xs = [.ref p] ∧ ((SqL K H p ys ∧ ∀ l, H l = none → Q (.ref l) (upd H l (.tup ys))) ∨ (SqT K H p ys ∧ Q (.ref p) H))) hTupOf := by
  intro H l ps res vs Q hl s e k
  unfold hTupOf at e
  split at e
  · rename_i p
    obtain ⟨v, rfl⟩ := one_vs hl
    have s1 : St K H ((p, v) :: l) := s
    split at e
    · rename_i xs e1
      cases e
      obtain ⟨a, ws, rfl, hq, hl2, s2⟩ := s1.seqL e1
      exact ⟨a, ws, rfl, .inl ⟨hq, fun r hn => k _ _ (St.newT hl2 hn (s2.perm List.perm_middle).tail)⟩⟩
    · obtain ⟨xs, e1, rfl⟩ := Option.map_eq_some_iff.mp e
      obtain ⟨a, ws, rfl, hq, hl2, s2⟩ := s1.seqT e1
      refine ⟨a, ws, rfl, .inr ⟨hq, k _ H ?_⟩⟩
      unfold tupOf at e1
      split at e1
      · cases e1; exact s1
      · cases e1
  · cases e
/-- sum of a list of ints -/
def intsOf : List D → Option (List Int)
  | [] => some []
  | .int i :: ds => (match intsOf ds with | some is => some (i :: is) | none => none)
  | _ => none
theorem intsOf_eq : ∀ {ds : List D} {is : List Int}, intsOf ds = some is → ds = is.map .int
  | [], is, h => by cases h; rfl
  | d :: ds, is, h => by
    cases d with
    | int i =>
      unfold intsOf at h
      split at h
      · rename_i js e
        cases h
        rw [intsOf_eq e]; rfl
      · cases h
    | _ => cases h
theorem intsOf_map : ∀ is : List Int, intsOf (is.map .int) = some is
  | [] => rfl
  | i :: is => by show (match intsOf (is.map .int) with | some is => some (i :: is) | none => none) = _; rw [intsOf_map is]
theorem RL.ints {K : PySem.W.Frag} {F : Hp} : ∀ {is : List Int} {vs : List V}, RL K F (is.map .int) vs → vs = is.map .int
  | [], _, .nil => rfl
  | i :: is, _, .cons h r => by cases h; rw [RL.ints r]; rfl
theorem St.ints {K : PySem.W.Frag} {H : Hp} {l : List Pr} {is : List Int} {vs : List V} (hl : (is.map D.int).length = vs.length) (s : St K H (frs (is.map .int) vs ++ l)) : vs = is.map .int := by
  obtain ⟨F, as, e, r, n⟩ := s
  exact (RA.of_frs hl r).1.ints
def hSum : List PV → Option PV
  | [p] => (match lstOf p with | some xs => (match intsOf xs with | some is => some (.fr (.int is.sum)) | none => none) | none => none)
  | _ => none
theorem hSum_sem {K : PySem.W.Frag} : SemN K (rSum K) hSum := by
  intro H l ps res vs Q hl s e k
  unfold hSum at e
  split at e
  · rename_i p
    obtain ⟨v, rfl⟩ := one_vs hl
    have s1 : St K H ((p, v) :: l) := s
    split at e
    · rename_i xs e1
      split at e
      · rename_i is e2
        cases e
        rw [intsOf_eq e2] at e1
        obtain ⟨a, ws, rfl, hq, hl2, s2⟩ := s1.seqL e1
        rw [St.ints hl2 s2] at hq
        exact ⟨a, is, rfl, hq, k _ H (s1.tail.flat fun F => .int _)⟩
      · cases e
    · cases e
  · cases e
def blsOf : List D → Option (List Bool)
  | [] => some []
  | .bl i :: ds => (match blsOf ds with | some is => some (i :: is) | none => none)
  | _ => none
theorem blsOf_eq : ∀ {ds : List D} {is : List Bool}, blsOf ds = some is → ds = is.map .bl
  | [], is, h => by cases h; rfl
  | d :: ds, is, h => by
    cases d with
    | bl i =>
      unfold blsOf at h
      split at h
      · rename_i js e
        cases h
        rw [blsOf_eq e]; rfl
      · cases h
    | _ => cases h
theorem RL.bls {K : PySem.W.Frag} {F : Hp} : ∀ {is : List Bool} {vs : List V}, RL K F (is.map .bl) vs → vs = is.map .bl
  | [], _, .nil => rfl
  | i :: is, _, .cons h r => by cases h; rw [RL.bls r]; rfl
end Q

namespace Q
open PySem PySem.Spec PyProof.Rows L2

/-! ### what a def hands back -/
inductive FO where
  | ret (p : PV) (bs : List PV) | exc (x : Ex) (bs : List PV) | bad
/-- the borrowed arguments with their values -/
def bz : List Bool → List PV → List V → List Pr
  | true :: fl, b :: bs, v :: vs => (b, v) :: bz fl bs vs
  | false :: fl, bs, _ :: vs => bz fl bs vs
  | _, _, _ => []
def FPost (K : PySem.W.Frag) (fl : List Bool) (o : FO) (vs : List V) (τ : List Pr) (Q : VK) (E : XK) : Prop := match o with
  | .ret p bs => ∀ v H, St K H ((p, v) :: (bz fl bs vs ++ τ)) → Q v H
  | .exc x bs => ∀ d H ws, XD x d ws H → St K H (frs (x.fs.map (·.2)) ws ++ (bz fl bs vs ++ τ)) → E (.ref x.C) d H
  | .bad => False
def spOf (K : PySem.W.Frag) (fl : List Bool) (den : List PV → FO) : Sp := fun vs H Q E => ∃ ps τ, ps.length = vs.length ∧ vs.length = fl.length ∧ St K H (ps.zip vs ++ τ) ∧ FPost K fl (den ps) vs τ Q E
def pick : List Bool → Sl → Option (List PV)
  | [], _ => some []
  | true :: fl, some p :: ρ => (match pick fl ρ with | some ps => some (p :: ps) | none => none)
  | false :: fl, _ :: ρ => pick fl ρ
  | _, _ => none
theorem pick_ok {K : PySem.W.Frag} {H : Hp} : ∀ {fl : List Bool} {ρ : Sl} {σ : L2.St} {vs : List V} {bs : List PV} {l : List Pr}, pick fl ρ = some bs → vs.length = fl.length → Fit ρ σ → (∀ i : Nat, fl[i]? = some true → σ[i]? = (vs[i]?).map some) →
    St K H (prs ρ σ ++ l) → St K H (bz fl bs vs ++ l)
  | [], ρ, σ, [], bs, l, h, hl, f, b, s => by cases h; exact St.drop s
  | true :: fl, some p :: ρ, some w :: σ, v :: vs, bs, l, h, hl, f, b, s => by
    unfold pick at h
    split at h
    · rename_i ps e
      cases h
      have e0 := b 0 rfl
      simp only [List.getElem?_cons_zero, Option.map_some, Option.some.injEq] at e0
      subst e0
      have s1 : St K H ((p, w) :: (prs ρ σ ++ l)) := s
      have s2 : St K H (prs ρ σ ++ ((p, w) :: l)) := s1.perm List.perm_middle.symm
      exact (pick_ok (fl := fl) (vs := vs) e (Nat.succ.inj hl) f (fun i hi => by simpa using b (i + 1) (by simpa using hi)) s2).perm List.perm_middle
    · cases h
  | false :: fl, none :: ρ, w :: σ, v :: vs, bs, l, h, hl, f, b, s => pick_ok (fl := fl) (ρ := ρ) (σ := σ) h (Nat.succ.inj hl) f (fun i hi => by simpa using b (i + 1) (by simpa using hi)) s
  | false :: fl, some p :: ρ, some w :: σ, v :: vs, bs, l, h, hl, f, b, s => pick_ok (fl := fl) (ρ := ρ) (σ := σ) h (Nat.succ.inj hl) f (fun i hi => by simpa using b (i + 1) (by simpa using hi)) (St.tail (x := (p, w)) s)
  | _ :: _, some _ :: _, none :: _, _, _, _, _, _, f, _, _ => f.elim
  | _ :: _, some _ :: _, [], _, _, _, _, _, f, _, _ => f.elim
  | _ :: _, none :: _, [], _, _, _, _, _, f, _, _ => f.elim
  | true :: _, none :: _, _ :: _, _, _, _, h, _, _, _, _ => by cases h
  | true :: _, [], _, _, _, _, h, _, _, _, _ => by cases h
  | false :: _, [], _, _, _, _, h, _, _, _, _ => by cases h
def fin (fl : List Bool) : SO → FO
  | .nx ρ => (match pick fl ρ with | some bs => .ret (.fr .non) bs | none => .bad)
  | .rt p ρ => (match pick fl ρ with | some bs => .ret p bs | none => .bad)
  | .ex x ρ => (match pick fl ρ with | some bs => .exc x bs | none => .bad)
  | _ => .bad
def startP (N : Nat) (ps : List PV) : Sl := ps.map some ++ List.replicate (N - ps.length) none
theorem start_fit : ∀ {ps : List PV} {vs : List V} (n : Nat), ps.length = vs.length → Fit (ps.map some ++ List.replicate n none) (vs.map some ++ List.replicate n none) ∧ prs (ps.map some ++ List.replicate n none) (vs.map some ++ List.replicate n none) = ps.zip vs
  | [], [], 0, _ => ⟨trivial, rfl⟩
  | [], [], n + 1, h => start_fit (ps := []) (vs := []) n h
  | p :: ps, v :: vs, n, h => let ⟨h1, h2⟩ := start_fit n (Nat.succ.inj h); ⟨h1, congrArg ((p, v) :: ·) h2⟩
/-- the body's slots that are borrowed -/
def borIx (fl : List Bool) : List Nat := (List.range fl.length).filter fun i => fl[i]? == some true
/-- a def by its body -/
def dnOf (fl : List Bool) (N : Nat) (g : Sl → SO) : List PV → FO := fun ps => fin fl (g (startP N ps))
section
variable {P : Program} {w : World} {K : PySem.W.Frag} {mg : Str → Option Value} {base : Heap}
theorem fn_q {x qual : Str} {params : Arguments} {body : List Stmt} {scope : Scope} {f : Addr} {fd : FuncData} {N ps : List Str} {k : Nat} {fl : List Bool} {g : Sl → SO} (F : FunD K x qual params body scope [] [] f fd) (S : FnScope N ps scope) (hl : fl.length = ps.length) (hN : ps.length ≤ N.length)
    (hbody : ∀ (cdv : Value) (A : Around) (outer : List Env) (s : Shared) (H : Hp) (E : XK), Room k (A.deeper (envOfC qual scope s.heap.objs.size f cdv)) →
      QSs (cxOf (L2.CX P w) P w K mg base N qual scope f cdv A outer s H E) (fun cls d _ H => E cls d H) (borIx fl) body g) : FnOk P w K mg base (L2.CX P w) (k + 1) f fd ps (spOf K fl (dnOf fl N.length g)) := by
  refine F.ok S (fun vs H Q E h => ?_) (fun cdv A outer s H vs Q E hr h => ?_)
  · obtain ⟨_, _, _, h2, _⟩ := h
    rw [h2, hl]
  · obtain ⟨qs, τ, h1, h2, s0, h3⟩ := h
    obtain ⟨t, pt, st⟩ := (hbody cdv A outer s H E hr).ex
    refine ⟨t, pt, ?_⟩
    have hlen : vs.length = ps.length := by rw [h2, hl]
    obtain ⟨f1, f2⟩ := start_fit (N.length - vs.length) h1
    have I : Ok K H (startP N.length qs) (L2.start N vs) τ := by
      unfold startP L2.start
      rw [h1]
      exact ⟨f1, by rw [f2]; exact s0⟩
    have hv : ∀ i : Nat, fl[i]? = some true → (L2.start N vs)[i]? = (vs[i]?).map some := fun i hi => by
      have hi' : i < vs.length := by rw [h2]; exact (List.getElem?_eq_some_iff.mp hi).1
      unfold L2.start
      rw [List.getElem?_append_left (by rw [List.length_map]; exact hi'), List.getElem?_map]
    have hb : ∀ σ', Bor (borIx fl) (L2.start N vs) σ' → ∀ i : Nat, fl[i]? = some true → σ'[i]? = (vs[i]?).map some := fun σ' b i hi => by
      have hm : i ∈ borIx fl := by
        unfold borIx
        refine List.mem_filter.mpr ⟨List.mem_range.mpr (List.getElem?_eq_some_iff.mp hi).1, by rw [hi]; rfl⟩
      rw [b.2 i hm]
      exact hv i hi
    refine st (L2.start N vs) H (startP N.length qs) τ _ I ?_
    unfold dnOf at h3
    generalize g (startP N.length qs) = o at h3
    cases o with
    | nx ρ =>
      intro σ' H' b J
      unfold fin at h3
      dsimp only at h3
      split at h3
      · rename_i bs e
        exact h3 .non H' ((pick_ok e h2 J.1 (hb σ' b) J.2).flat fun F => .non)
      · exact h3.elim
    | rt p ρ =>
      intro σ' v H' b J
      unfold fin at h3
      dsimp only at h3
      split at h3
      · rename_i bs e
        refine h3 v H' ?_
        have z := pick_ok e h2 J.1 (hb σ' b) J.2
        exact z.perm List.perm_middle
      · exact h3.elim
    | ex x ρ =>
      intro σ' b d H' ws xd J
      unfold fin at h3
      dsimp only at h3
      split at h3
      · rename_i bs e
        refine h3 d H' ws xd ?_
        have z := pick_ok e h2 J.1 (hb σ' b) J.2
        refine z.perm ?_
        rw [← List.append_assoc, ← List.append_assoc]
        exact List.Perm.append_right _ List.perm_append_comm
      · exact h3.elim
    | bk ρ => exact h3.elim
    | ct ρ => exact h3.elim
    | bad => exact h3.elim
end

/-! ### the call of a def -/
def isBor : Arg → Bool
  | .bor _ => true
  | _ => false
def takeA : List Arg → Sl → Option (List PV × Sl)
  | [], ρ => some ([], ρ)
  | .val p :: as, ρ => (match takeA as ρ with | some (ps, ρ') => some (.fr p.fz :: ps, ρ') | none => none)
  | .bor i :: as, ρ => (match ρ[i]? with
    | some (some p) => (match takeA as (ρ.set i none) with | some (ps, ρ') => some (p :: ps, ρ') | none => none)
    | _ => none)
def putA : List Arg → List PV → Sl → Option Sl
  | [], [], ρ => some ρ
  | .val _ :: as, bs, ρ => putA as bs ρ
  | .bor i :: as, b :: bs, ρ => if i < ρ.length then putA as bs (ρ.set i (some b)) else none
  | _, _, _ => none
theorem takeA_ok {K : PySem.W.Frag} {H : Hp} {σ : L2.St} : ∀ {as : List Arg} {vs : List V} {ρ ρ' : Sl} {ps : List PV} {τ : List Pr}, AFit σ as vs → Ok K H ρ σ (avals as vs ++ τ) → takeA as ρ = some (ps, ρ') → ps.length = vs.length ∧ Ok K H ρ' σ (ps.zip vs ++ τ)
  | [], [], ρ, ρ', ps, τ, _, I, h => by
    cases h; exact ⟨rfl, I⟩
  | .val p :: as, v :: vs, ρ, ρ', ps, τ, a, I, h => by
    unfold takeA at h
    split at h
    · rename_i ps' ρ2 e
      cases h
      have I1 : Ok K H ρ σ ((.fr p.fz, v) :: (avals as vs ++ τ)) := Ok.map (τ := (p, v) :: (avals as vs ++ τ)) (fun l s => St.freeze s) I
      obtain ⟨h1, h2⟩ := takeA_ok (as := as) (vs := vs) (τ := (.fr p.fz, v) :: τ) a (I1.perm List.perm_middle.symm) e
      exact ⟨congrArg (· + 1) h1, h2.perm List.perm_middle⟩
    · cases h
  | .bor i :: as, v :: vs, ρ, ρ', ps, τ, a, I, h => by
    unfold takeA at h
    split at h
    · rename_i p e1
      split at h
      · rename_i ps' ρ2 e
        cases h
        obtain ⟨v', ev, J⟩ := I.get e1
        obtain ⟨a1, a2⟩ := a
        rw [a1] at ev
        cases ev
        obtain ⟨h1, h2⟩ := takeA_ok (as := as) (vs := vs) (τ := (p, v) :: τ) a2 (J.perm (List.perm_middle (l₁ := avals as vs)).symm) e
        exact ⟨congrArg (· + 1) h1, h2.perm List.perm_middle⟩
      · cases h
    · cases h
theorem putA_ok {K : PySem.W.Frag} {H : Hp} {σ : L2.St} : ∀ {as : List Arg} {bs : List PV} {vs : List V} {ρ ρ' : Sl} {τ : List Pr}, AFit σ as vs → Ok K H ρ σ (bz (as.map isBor) bs vs ++ τ) → putA as bs ρ = some ρ' → Ok K H ρ' σ τ
  | [], [], [], ρ, ρ', τ, _, I, h => by cases h; exact I
  | .val p :: as, bs, v :: vs, ρ, ρ', τ, a, I, h => putA_ok (as := as) (bs := bs) (vs := vs) a I h
  | .bor i :: as, b :: bs, v :: vs, ρ, ρ', τ, a, I, h => by
    unfold putA at h
    split at h
    · rename_i hi
      exact putA_ok (as := as) (bs := bs) (vs := vs) a.2 (Ok.back (τ := bz (as.map isBor) bs vs ++ τ) I hi a.1) h
    · cases h
def eCall (fl : List Bool) (den : List PV → FO) (fa : Sl → Out (List Arg)) : Sl → Out PV := fun ρ => (fa ρ).bind fun as ρ1 => if as.map isBor = fl then (match takeA as ρ1 with
  | some (ps, ρ2) => (match den ps with
    | .ret p bs => (match putA as bs ρ2 with | some ρ3 => .ok p ρ3 | none => .bad)
    | .exc x bs => (match putA as bs ρ2 with | some ρ3 => .exc x ρ3 | none => .bad)
    | .bad => .bad)
  | none => .bad) else .bad
section
variable {X : Cx} {W : WX} {B : List Nat} {e : Expr} {es : List Expr} {f : Sl → Out PV} {fa : Sl → Out (List Arg)} {pos p : Pos} {fl : List Bool} {den : List PV → FO}
theorem AFit.len {σ : L2.St} : ∀ {as : List Arg} {vs : List V}, AFit σ as vs → as.length = vs.length
  | [], [], _ => rfl
  | .val _ :: _, _ :: _, h => congrArg (· + 1) (AFit.len h)
  | .bor _ :: _, _ :: _, h => congrArg (· + 1) (AFit.len h.2)
  | [], _ :: _, h => h.elim
  | .val _ :: _, [], h => h.elim
  | .bor _ :: _, [], h => h.elim
theorem eCall_post {ta : TA} (sa : ∀ σ H ρ τ Q, Ok X.K H ρ σ τ → APost X W (fa ρ) σ τ Q → ta σ H Q) :
    ∀ σ H ρ τ Q, Ok X.K H ρ σ τ → EPost X W (eCall fl den fa ρ) σ τ Q → tCallS (spOf X.K fl den) (WE W) ta σ H Q := by
  intro σ H ρ τ Q I hq
  refine sa σ H ρ τ _ I ?_
  unfold eCall at hq
  cases e1 : fa ρ with
  | ok as ρ1 =>
    rw [e1] at hq
    intro vs H1 a I1
    dsimp only [Out.bind] at hq
    split at hq
    · rename_i hfl
      split at hq
      · rename_i ps ρ2 e2
        obtain ⟨h1, I2⟩ := takeA_ok a I1 e2
        refine ⟨ps, prs ρ2 σ ++ τ, h1, by rw [← hfl, List.length_map]; exact a.len.symm, Ok.st I2, ?_⟩
        split at hq
        · rename_i q bs e3
          rw [e3]
          split at hq
          · rename_i ρ3 e4
            intro v H' s
            refine hq v H' ?_
            have J : Ok X.K H' ρ2 σ ((q, v) :: (bz fl bs vs ++ τ)) := Ok.fit (l := (q, v) :: bz fl bs vs) (τ' := τ) I2 s
            rw [← hfl] at J
            exact putA_ok (τ := (q, v) :: τ) a (J.perm List.perm_middle.symm) e4
          · exact hq.elim
        · rename_i x bs e3
          rw [e3]
          split at hq
          · rename_i ρ3 e4
            intro d H' ws xd s
            refine hq d H' ws xd ?_
            have J : Ok X.K H' ρ2 σ (frs (x.fs.map (·.2)) ws ++ (bz fl bs vs ++ τ)) := by
              have := Ok.fit (l := frs (x.fs.map (·.2)) ws ++ bz fl bs vs) (τ' := τ) I2 (by rw [List.append_assoc]; exact s)
              rw [List.append_assoc] at this
              exact this
            rw [← hfl] at J
            refine putA_ok (τ := frs (x.fs.map (·.2)) ws ++ τ) a (J.perm ?_) e4
            rw [← List.append_assoc, ← List.append_assoc]
            exact List.Perm.append_right _ List.perm_append_comm
          · exact hq.elim
        · exact hq.elim
      · exact hq.elim
    · exact hq.elim
  | exc x ρ1 => rw [e1] at hq; exact hq
  | bad => rw [e1] at hq; exact hq.elim
theorem qe_call {k : Nat} {f : Addr} {fd : FuncData} {ps : List Str} {x : Str} (tk : Takes X W) (F : FnOk X.prog X.w X.K X.mg X.base (L2.CX X.prog X.w) k f fd ps (spOf X.K fl den)) (hr : Room k X.A) (hm : X.mg x = some (.ref f)) (hk : PySem.W.keepIn X.K (.ref f) = true) (hb : Binds X.K fd ps [])
    (ha : QA X W (e :: es) fa) (hg : Gl X x := by rfl) (hdb : (x == ("__debug__" : Str)) = false := by decide) (he : starEach (e :: es) X.env = (false, eval e X.env) :: starEach es X.env := by rfl) (hpl : (backTo pos (starEach es X.env)).any (·.1) = false := by rfl) :
    QE X W (.Call (.Name x p) (e :: es) [] pos) (eCall fl den fa) := by
  obtain ⟨ta, pa, sa⟩ := ha.ex
  exact ⟨_, pe_callS F hr hg hm hk hb (fun σ => passAt tk σ) pa hdb he hpl, eCall_post sa⟩

/-! ### statements -/
def ofE (o : Out PV) (k : PV → Sl → SO) : SO := match o with
  | .ok p ρ => k p ρ
  | .exc x ρ => .ex x ρ
  | .bad => .bad
def ofT (o : Out Bool) (k : Bool → Sl → SO) : SO := match o with
  | .ok p ρ => k p ρ
  | .exc x ρ => .ex x ρ
  | .bad => .bad
theorem ex_bor {x : Ex} {ρ : Sl} {σ : L2.St} {τ : List Pr} {D : Ends} (h : SPost X W B (.ex x ρ) σ τ D) : WOk X.K W x ρ σ τ := h σ Bor.refl
def sNext : Sl → SO := fun ρ => .nx ρ
theorem qss_nil : QSs X W B [] sNext := ⟨_, pss_nil, fun σ H ρ τ D I h => h σ H Bor.refl I⟩
theorem qs_pass : QS X W B (.Pass pos) sNext := ⟨_, ps_pass, fun σ H ρ τ D I h => h σ H Bor.refl I⟩
theorem qs_break : QS X W B (.Break pos) (fun ρ => .bk ρ) := ⟨_, ps_break, fun σ H ρ τ D I h => h σ H Bor.refl I⟩
theorem qs_cont : QS X W B (.Continue pos) (fun ρ => .ct ρ) := ⟨_, ps_continue, fun σ H ρ τ D I h => h σ H Bor.refl I⟩
def sSeq (f g : Sl → SO) : Sl → SO := fun ρ => match f ρ with
  | .nx ρ1 => g ρ1
  | o => o
section
variable {st : Stmt} {rest : List Stmt} {s1 s2 : Sl → SO}
theorem qss_one (h : QS X W B st s1) : QSs X W B [st] s1 := by
  obtain ⟨t, p, s⟩ := h.ex
  exact ⟨_, pss_one p, s⟩
theorem qss_cons (h1 : QS X W B st s1) (h2 : QSs X W B rest s2) : QSs X W B (st :: rest) (sSeq s1 s2) := by
  obtain ⟨t, p, s⟩ := h1.ex
  obtain ⟨t', p', s'⟩ := h2.ex
  refine ⟨_, pss_cons p p', fun σ H ρ τ D I h => ?_⟩
  refine s σ H ρ τ _ I ?_
  unfold sSeq at h
  cases e1 : s1 ρ with
  | nx ρ1 =>
    rw [e1] at h
    intro σ1 H1 b I1
    exact s' σ1 H1 ρ1 τ D I1 (h.bor b)
  | rt q ρ1 => rw [e1] at h; exact h
  | bk ρ1 => rw [e1] at h; exact h
  | ct ρ1 => rw [e1] at h; exact h
  | ex x ρ1 => rw [e1] at h; exact h
  | bad => rw [e1] at h; exact h.elim
def sExpr (f : Sl → Out PV) : Sl → SO := fun ρ => ofE (f ρ) fun _ ρ1 => .nx ρ1
theorem qs_expr (he : QE X W e f) (hs : swapsWith e none pos.line X.env = pure false := by rfl) : QS X W B (.Expr e pos) (sExpr f) := by
  obtain ⟨t, p, s⟩ := he.ex
  refine ⟨_, ps_expr p hs, fun σ H ρ τ D I h => ?_⟩
  refine s σ H ρ τ _ I ?_
  unfold sExpr at h
  cases e1 : f ρ with
  | ok q ρ1 => rw [e1] at h; exact fun v H1 I1 => h σ H1 Bor.refl I1.tail
  | exc x ρ1 => rw [e1] at h; exact ex_bor h
  | bad => rw [e1] at h; exact h.elim
def sRet (f : Sl → Out PV) : Sl → SO := fun ρ => ofE (f ρ) fun p ρ1 => .rt p ρ1
theorem qs_ret (he : QE X W e f) : QS X W B (.Return (some e) pos) (sRet f) := by
  obtain ⟨t, p, s⟩ := he.ex
  refine ⟨_, ps_ret p, fun σ H ρ τ D I h => ?_⟩
  refine s σ H ρ τ _ I ?_
  unfold sRet at h
  cases e1 : f ρ with
  | ok q ρ1 => rw [e1] at h; exact fun v H1 I1 => h σ v H1 Bor.refl I1
  | exc x ρ1 => rw [e1] at h; exact ex_bor h
  | bad => rw [e1] at h; exact h.elim
theorem qs_retN : QS X W B (.Return none pos) (fun ρ => .rt (.fr .non) ρ) := ⟨_, ps_retN, fun σ H ρ τ D I h => h σ .non H Bor.refl (I.map fun l s => s.flat fun F => .non)⟩
def sIf (t : Sl → Out Bool) (f g : Sl → SO) : Sl → SO := fun ρ => ofT (t ρ) fun b ρ1 => if b = true then f ρ1 else g ρ1
theorem qs_if {c : Expr} {a b : List Stmt} {t : Sl → Out Bool} (hc : QT X W c t) (ha : QSs X W B a s1) (hb : QSs X W B b s2) : QS X W B (.If c a b pos) (sIf t s1 s2) := by
  obtain ⟨tc, pc, sc⟩ := hc.ex
  obtain ⟨ta, pa, sa⟩ := ha.ex
  obtain ⟨tb, pb, sb⟩ := hb.ex
  refine ⟨_, ps_if pc pa pb, fun σ H ρ τ D I h => ?_⟩
  refine sc σ H ρ τ _ I ?_
  unfold sIf at h
  cases e1 : t ρ with
  | ok b ρ1 =>
    rw [e1] at h
    intro H1 I1
    cases b with
    | true => exact sa σ H1 ρ1 τ D I1 h
    | false => exact sb σ H1 ρ1 τ D I1 h
  | exc x ρ1 => rw [e1] at h; exact ex_bor h
  | bad => rw [e1] at h; exact h.elim
/-- code that is never come to -/
theorem qs_never : QS X W B st (fun _ => .bad) := ⟨_, ps_never, fun σ H ρ τ D I h => h.elim⟩
end

/-! targets -/
def gN (i : Nat) : PV → Sl → Option Sl := fun p ρ => if i < ρ.length then some (ρ.set i (some p)) else none
theorem qg_name {i : Nat} {x : Str} (hB : i ∉ B) (hN : X.N.Nodup) (hi : X.N[i]? = some x) (hx : Loc X.env.scope x) (hf : X.fn x = true ∨ X.env.scope.names.lookup x = some .local := by first | exact .inl rfl | exact .inr rfl | assumption) : QG X B (.Name x pos) (gN i) := by
  refine ⟨_, pg_name hN hi hx hf, fun σ H ρ τ p v ρ' I hg Q h => ?_⟩
  unfold gN at hg
  split at hg
  · rename_i hl
    cases hg
    exact h _ (Bor.set hB) (I.put hl)
  · cases hg
def gNil : List PV → Sl → Option Sl := fun ps ρ => match ps with
  | [] => some ρ
  | _ => none
def gCons (g : PV → Sl → Option Sl) (r : List PV → Sl → Option Sl) : List PV → Sl → Option Sl := fun ps ρ => match ps with
  | p :: ps => (match g p ρ with | some ρ1 => r ps ρ1 | none => none)
  | [] => none
theorem qgs_nil : QGs X B [] gNil := by
  refine ⟨_, pgs_nil, fun σ H ρ τ ps vs ρ' hl I hg Q h => ?_⟩
  unfold gNil at hg
  split at hg
  · cases hg
    match vs, hl with
    | [], _ => exact ⟨rfl, h σ Bor.refl I⟩
  · cases hg
theorem qgs_cons {es : List Expr} {g : PV → Sl → Option Sl} {r : List PV → Sl → Option Sl} (h1 : QG X B e g) (h2 : QGs X B es r) (hs : (assignEach (e :: es) X.env).map (·.2) = assign e X.env :: (assignEach es X.env).map (·.2) := by rfl) : QGs X B (e :: es) (gCons g r) := by
  obtain ⟨t, p, s⟩ := h1.ex
  obtain ⟨t', p', s'⟩ := h2.ex
  refine ⟨_, pgs_cons p p' hs, fun σ H ρ τ ps vs ρ' hl I hg Q h => ?_⟩
  unfold gCons at hg
  split at hg
  · rename_i q qs
    match vs, hl with
    | v :: vs, hl =>
      refine ⟨v, vs, rfl, ?_⟩
      split at hg
      · rename_i ρ1 e1
        have I1 : Ok X.K H ρ σ ((q, v) :: (qs.zip vs ++ τ)) := I
        exact s σ H ρ _ q v ρ1 I1 e1 _ fun σ1 b1 I2 => s' σ1 H ρ1 τ qs vs ρ' (Nat.succ.inj hl) I2 hg Q fun σ2 b2 I3 => h σ2 (b1.trans b2) I3
      · cases hg
  · cases hg
/-- a, b = a tuple -/
def gT (r : List PV → Sl → Option Sl) : PV → Sl → Option Sl := fun p ρ => match tupOf p with
  | some ds => r (ds.map .fr) ρ
  | none => none
theorem frs_zip : ∀ {ds : List D} {vs : List V}, ds.length = vs.length → frs ds vs = (ds.map PV.fr).zip vs
  | [], [], _ => rfl
  | d :: ds, v :: vs, h => congrArg ((PV.fr d, v) :: ·) (frs_zip (Nat.succ.inj h))
theorem qg_tup {es : List Expr} {k : Nat} {r : List PV → Sl → Option Sl} (n : Nat) (hc : X.calm = true) (h : QGs X B es r) (hlen : ∀ ps ρ ρ', r ps ρ = some ρ' → ps.length = n)
    (hn : (assignEach es X.env).length = n := by rfl) (hst : (assignEach es X.env).findIdx? (·.1) = none := by rfl) : QG X B (.Tuple es k pos) (gT r) := by
  obtain ⟨t, p, s⟩ := h.ex
  refine ⟨_, pg_tup hc p hn hst, fun σ H ρ τ q v ρ' I hg Q hq => ?_⟩
  unfold gT at hg
  split at hg
  · rename_i ds e1
    obtain ⟨a, vs, rfl, hs, hl, s2⟩ := (Ok.st1 I).seqT e1
    have hl2 := hlen _ _ _ hg
    refine ⟨a, vs, rfl, hs, by rw [← hl, ← hl2, List.length_map], ?_⟩
    refine s σ H ρ τ (ds.map .fr) vs ρ' (by rw [List.length_map]; exact hl) ?_ hg Q hq
    rw [← frs_zip hl]
    exact I.fit ((s2.perm List.perm_middle).tail)
  · cases hg
theorem gCons_len {g : PV → Sl → Option Sl} {r : List PV → Sl → Option Sl} {n : Nat} (h : ∀ ps ρ ρ', r ps ρ = some ρ' → ps.length = n) : ∀ ps ρ ρ', gCons g r ps ρ = some ρ' → ps.length = n + 1 := by
  intro ps ρ ρ' hg
  unfold gCons at hg
  split at hg
  · split at hg
    · rename_i e1
      exact congrArg (· + 1) (h _ _ _ hg)
    · cases hg
  · cases hg
theorem gNil_len : ∀ ps ρ ρ', gNil ps ρ = some ρ' → ps.length = 0 := by
  intro ps ρ ρ' hg
  unfold gNil at hg
  split at hg
  · rfl
  · cases hg
/-- target = value -/
def sAsg (f : Sl → Out PV) (g : PV → Sl → Option Sl) : Sl → SO := fun ρ => ofE (f ρ) fun p ρ1 => match g p ρ1 with
  | some ρ2 => .nx ρ2
  | none => .bad
theorem qs_asg {tg : Expr} {g : PV → Sl → Option Sl} (he : QE X W e f) (hg : QG X B tg g) (hs : swapsWithSole [tg] e pos.line X.env = pure false := by rfl) (hw : swappedStores [tg] e X.env = pure none := by rfl)
    (h1 : (assignEach [tg] X.env).map (·.2) = [assign tg X.env] := by rfl) : QS X W B (.Assign [tg] e pos) (sAsg f g) := by
  obtain ⟨t, p, s⟩ := he.ex
  obtain ⟨t', p', s'⟩ := hg.ex
  refine ⟨_, ps_asg p p' hs hw h1, fun σ H ρ τ D I h => ?_⟩
  refine s σ H ρ τ _ I ?_
  unfold sAsg at h
  cases e1 : f ρ with
  | ok q ρ1 =>
    rw [e1] at h
    intro v H1 I1
    dsimp only [ofE] at h
    split at h
    · rename_i ρ2 e2
      exact s' σ H1 ρ1 τ q v ρ2 I1 e2 _ fun σ' b I2 => h σ' H1 b I2
    · exact h.elim
  | exc x ρ1 => rw [e1] at h; exact ex_bor h
  | bad => rw [e1] at h; exact h.elim
theorem qs_set {i : Nat} {x : Str} {pos' : Pos} (hB : i ∉ B) (hN : X.N.Nodup) (hi : X.N[i]? = some x) (hx : Loc X.env.scope x) (he : QE X W e f) (hs : swapsWith e (some (.Name x pos')) pos.line X.env = pure false := by rfl) (hf : X.fn x = true ∨ X.env.scope.names.lookup x = some .local := by first | exact .inl rfl | exact .inr rfl | assumption) :
    QS X W B (.Assign [.Name x pos'] e pos) (sAsg f (gN i)) := by
  obtain ⟨t, p, s⟩ := he.ex
  obtain ⟨t', p', s'⟩ := (qg_name (pos := pos') hB hN hi hx hf).ex
  refine ⟨_, ps_set hN hi hx p hs hf, fun σ H ρ τ D I h => ?_⟩
  refine s σ H ρ τ _ I ?_
  unfold sAsg at h
  cases e1 : f ρ with
  | ok q ρ1 =>
    rw [e1] at h
    intro v H1 I1
    dsimp only [ofE] at h
    unfold gN at h
    by_cases hl : i < ρ1.length
    · rw [if_pos hl] at h
      exact h _ H1 (Bor.set hB) (I1.put hl)
    · rw [if_neg hl] at h
      exact h.elim
  | exc x ρ1 => rw [e1] at h; exact ex_bor h
  | bad => rw [e1] at h; exact h.elim
/-- a, b = x, y -/
def sPar (fa : Sl → Out (List Arg)) (g : List PV → Sl → Option Sl) : Sl → SO := fun ρ => match fa ρ with
  | .ok as ρ1 => (match valsOf as with
    | some ps => (match g ps ρ1 with | some ρ2 => .nx ρ2 | none => .bad)
    | none => .bad)
  | .exc x ρ1 => .ex x ρ1
  | .bad => .bad
def g2 (i j : Nat) : List PV → Sl → Option Sl := gCons (gN i) (gCons (gN j) gNil)
theorem qs_par2 {i j : Nat} {x y : Str} {a b : Expr} {px py pt : Pos} {kt k2 pt2} (hBi : i ∉ B) (hBj : j ∉ B) (hc : X.calm = true) (hN : X.N.Nodup) (hi : X.N[i]? = some x) (hj : X.N[j]? = some y) (hij : i ≠ j)
    (hx : X.env.scope.names.lookup x = some .local) (hy : X.env.scope.names.lookup y = some .local) (ha : QA X W [a, b] fa)
    (hw : swappedStores [.Tuple [.Name x px, .Name y py] kt pt] (.Tuple [a, b] k2 pt2) X.env = pure (some [x, y]) := by rfl)
    (hs : swapsWithSole [.Tuple [.Name x px, .Name y py] kt pt] (.Tuple [a, b] k2 pt2) pos.line X.env = pure false := by rfl) :
    QS X W B (.Assign [.Tuple [.Name x px, .Name y py] kt pt] (.Tuple [a, b] k2 pt2) pos) (sPar fa (g2 i j)) := by
  obtain ⟨ta, pa, sa⟩ := ha.ex
  refine ⟨_, ps_par hc hN hi hj hij hx hy pa hw hs, fun σ H ρ τ D I h => ?_⟩
  refine sa σ H ρ τ _ I ?_
  unfold sPar at h
  cases e1 : fa ρ with
  | ok as ρ1 =>
    rw [e1] at h
    intro vs H1 af I1
    dsimp only at h
    split at h
    · rename_i ps e2
      obtain ⟨h1, h2⟩ := valsOf_zip e2 af
      rw [h2] at I1
      split at h
      · rename_i ρ2 e3
        unfold g2 gCons at e3
        split at e3
        · rename_i p1 ps1
          unfold gN at e3
          by_cases l1 : i < ρ1.length
          · rw [if_pos l1] at e3
            dsimp only at e3
            split at e3
            · rename_i p2 ps2
              by_cases l2 : j < (ρ1.set i (some p1)).length
              · rw [if_pos l2] at e3
                dsimp only at e3
                unfold gNil at e3
                split at e3
                · cases e3
                  match vs, h1 with
                  | [v1, v2], _ =>
                    refine ⟨v1, v2, rfl, ?_⟩
                    have I2 : Ok X.K H1 ρ1 σ ((p1, v1) :: (p2, v2) :: τ) := I1
                    exact h _ H1 ((Bor.set hBi).trans (Bor.set hBj)) ((I2.put l1).put l2)
                · cases e3
              · rw [if_neg l2] at e3; cases e3
            · cases e3
          · rw [if_neg l1] at e3; cases e3
        · cases e3
      · exact h.elim
    · exact h.elim
  | exc x ρ1 => rw [e1] at h; exact ex_bor h
  | bad => rw [e1] at h; exact h.elim
end
end Q

namespace Q
open PySem PySem.Spec PyProof.Rows L2

/-! ### what is walked -/
structure ItOk (K : PySem.W.Frag) (J : It) (ds : List D) (S : List Pr) : Prop where
  go : ∀ i H l, i < ds.length → St K H (S ++ l) → J.go i H
  stop : ∀ i H l, ds.length ≤ i → St K H (S ++ l) → J.stop i H
  yld : ∀ (i : Nat) H x H' d l, ds[i]? = some d → St K H (S ++ l) → J.yld i H x H' → St K H' ((.fr d, x) :: (S ++ l))
def IPost (X : Cx) (W : WX) (o : Out (List D)) (σ : L2.St) (τ : List Pr) (R : It → Hp → Prop) : Prop := match o with
  | .ok ds ρ => ∀ J H S, ItOk X.K J ds S → Ok X.K H ρ σ (S ++ τ) → R J H
  | .exc x ρ => WOk X.K W x ρ σ τ
  | .bad => False
structure QI (X : Cx) (W : WX) (tg e : Expr) (f : Sl → Out (List D)) : Prop where
  ex : ∃ wi, PI X tg e wi ∧ ∀ σ H ρ τ R, Ok X.K H ρ σ τ → IPost X W (f ρ) σ τ R → wi σ H R
section
variable {K : PySem.W.Frag} {a : Addr} {ds : List D}
theorem it_list : ItOk K (Itl K a) ds [(.fr (.lst ds), .ref a)] := by
  refine ⟨fun i H l hi s => ?_, fun i H l hi s => ?_, fun i H x H' d l e s y => ?_⟩
  · obtain ⟨a', vs, ea, hq, hl, _⟩ := St.rdL s
    cases ea
    exact ⟨vs, vs[i], hq, List.getElem?_eq_getElem (by omega)⟩
  · obtain ⟨a', vs, ea, hq, hl, _⟩ := St.rdL s
    cases ea
    exact ⟨vs, hq, by omega⟩
  · obtain ⟨a', vs, ea, hq, hl, s2⟩ := St.rdL s
    cases ea
    obtain ⟨rfl, y⟩ := y
    exact s2.get_frs (frs_get e (y vs hq))
theorem it_tup : ItOk K (Itt K a) ds [(.fr (.tup ds), .ref a)] := by
  refine ⟨fun i H l hi s => ?_, fun i H l hi s => ?_, fun i H x H' d l e s y => ?_⟩
  · obtain ⟨a', vs, ea, hq, hl, _⟩ := St.rdT s
    cases ea
    exact ⟨vs, vs[i], hq, List.getElem?_eq_getElem (by omega)⟩
  · obtain ⟨a', vs, ea, hq, hl, _⟩ := St.rdT s
    cases ea
    exact ⟨vs, hq, by omega⟩
  · obtain ⟨a', vs, ea, hq, hl, s2⟩ := St.rdT s
    cases ea
    obtain ⟨rfl, y⟩ := y
    exact s2.get_frs (frs_get e (y vs hq))
def enumD (n : Nat) : List D → List D
  | [] => []
  | d :: ds => .tup [.int n, d] :: enumD (n + 1) ds
theorem enumD_len : ∀ (n : Nat) (ds : List D), (enumD n ds).length = ds.length
  | _, [] => rfl
  | n, _ :: ds => congrArg (· + 1) (enumD_len (n + 1) ds)
theorem enumD_get : ∀ {n i : Nat} {ds : List D} {e : D}, (enumD n ds)[i]? = some e → ∃ d, ds[i]? = some d ∧ e = .tup [.int ((n + i : Nat) : Int), d]
  | _, _, [], _, h => by simp [enumD] at h
  | n, 0, d :: ds, e, h => by simp [enumD] at h; exact ⟨d, rfl, h.symm⟩
  | n, i + 1, d :: ds, e, h => by
    obtain ⟨d', h1, h2⟩ := enumD_get (n := n + 1) (i := i) (ds := ds) (by simpa [enumD] using h)
    exact ⟨d', by simpa using h1, by rw [h2]; congr 2; congr 1; omega⟩
theorem pair_new {H : Hp} {l : List Pr} {d : D} {x y : V} {c : D} {T : Addr} (hn : H T = none) (s : St K H ((.fr c, x) :: (.fr d, y) :: l)) : St K (upd H T (.tup [x, y])) ((.fr (.tup [c, d]), .ref T) :: l) :=
  St.newT (ds := [c, d]) (vs := [x, y]) rfl hn s
theorem it_enum : ItOk K (Ite K a) (enumD 0 ds) [(.fr (.lst ds), .ref a)] := by
  refine ⟨fun i H l hi s => ?_, fun i H l hi s => ?_, fun i H x H' d l e s y => ?_⟩
  · rw [enumD_len] at hi
    obtain ⟨a', vs, ea, hq, hl, _⟩ := St.rdL s
    cases ea
    exact ⟨vs, vs[i], hq, List.getElem?_eq_getElem (by omega)⟩
  · rw [enumD_len] at hi
    obtain ⟨a', vs, ea, hq, hl, _⟩ := St.rdL s
    cases ea
    exact ⟨vs, hq, by omega⟩
  · obtain ⟨a', vs, ea, hq, hl, s2⟩ := St.rdL s
    cases ea
    obtain ⟨T, z, rfl, hT, rfl, y⟩ := y
    obtain ⟨d', e1, rfl⟩ := enumD_get e
    rw [Nat.zero_add]
    exact pair_new hT ((s2.get_frs (frs_get e1 (y vs hq))).flat (d := .int (i : Nat)) (v := .int (i : Nat)) fun F => .int _)
def rangeD (lo : Int) : Nat → List D
  | 0 => []
  | n + 1 => .int lo :: rangeD (lo + 1) n
theorem rangeD_len : ∀ (lo : Int) (n : Nat), (rangeD lo n).length = n
  | _, 0 => rfl
  | lo, n + 1 => congrArg (· + 1) (rangeD_len (lo + 1) n)
theorem rangeD_get : ∀ {lo : Int} {n i : Nat} {e : D}, (rangeD lo n)[i]? = some e → e = .int (lo + i)
  | _, 0, _, _, h => by simp [rangeD] at h
  | lo, n + 1, 0, e, h => by simp [rangeD] at h; rw [← h]; simp
  | lo, n + 1, i + 1, e, h => by
    have := rangeD_get (lo := lo + 1) (n := n) (i := i) (e := e) (by simpa [rangeD] using h)
    rw [this]; congr 1; omega
theorem it_range {lo : Int} {n : Nat} : ItOk K (Itr lo n) (rangeD lo n) [] := by
  refine ⟨fun i H l hi s => ?_, fun i H l hi s => ?_, fun i H x H' d l e s y => ?_⟩
  · rw [rangeD_len] at hi; exact hi
  · rw [rangeD_len] at hi; exact hi
  · obtain ⟨rfl, rfl⟩ := y
    rw [rangeD_get e]
    exact s.flat fun F => .int _
def rangeC (lo c : Int) : Nat → List D
  | 0 => []
  | n + 1 => .int lo :: rangeC (lo + c) c n
theorem rangeC_len : ∀ (lo c : Int) (n : Nat), (rangeC lo c n).length = n
  | _, _, 0 => rfl
  | lo, c, n + 1 => congrArg (· + 1) (rangeC_len (lo + c) c n)
theorem rangeC_get : ∀ {lo c : Int} {n i : Nat} {e : D}, (rangeC lo c n)[i]? = some e → e = .int (lo + i * c)
  | _, _, 0, _, _, h => by simp [rangeC] at h
  | lo, c, n + 1, 0, e, h => by simp [rangeC] at h; rw [← h]; simp
  | lo, c, n + 1, i + 1, e, h => by
    have := rangeC_get (lo := lo + c) (c := c) (n := n) (i := i) (e := e) (by simpa [rangeC] using h)
    rw [this]; congr 1
    rw [Int.natCast_add, Int.add_mul]; simp; omega
theorem it_rangeC {lo c : Int} {n : Nat} : ItOk K (Itc lo c n) (rangeC lo c n) [] := by
  refine ⟨fun i H l hi s => ?_, fun i H l hi s => ?_, fun i H x H' d l e s y => ?_⟩
  · rw [rangeC_len] at hi; exact hi
  · rw [rangeC_len] at hi; exact hi
  · obtain ⟨rfl, rfl⟩ := y
    rw [rangeC_get e]
    exact s.flat fun F => .int _
def zipD : List D → List D → List D
  | d :: ds, e :: es => .tup [d, e] :: zipD ds es
  | _, _ => []
theorem zipD_len : ∀ (ds es : List D), (zipD ds es).length = min ds.length es.length
  | [], _ => by simp [zipD]
  | _ :: _, [] => by simp [zipD]
  | d :: ds, e :: es => by simp [zipD, zipD_len ds es]
theorem zipD_get : ∀ {ds es : List D} {i : Nat} {e : D}, (zipD ds es)[i]? = some e → ∃ x y, ds[i]? = some x ∧ es[i]? = some y ∧ e = .tup [x, y]
  | [], _, _, _, h => by simp [zipD] at h
  | _ :: _, [], _, _, h => by simp [zipD] at h
  | d :: ds, e :: es, 0, z, h => by simp [zipD] at h; exact ⟨d, e, rfl, rfl, h.symm⟩
  | d :: ds, e :: es, i + 1, z, h => by
    obtain ⟨x, y, h1, h2, h3⟩ := zipD_get (ds := ds) (es := es) (i := i) (by simpa [zipD] using h)
    exact ⟨x, y, by simpa using h1, by simpa using h2, h3⟩
theorem it_zip {b : Addr} {es : List D} : ItOk K (Itz K a b) (zipD ds es) [(.fr (.lst ds), .ref a), (.fr (.lst es), .ref b)] := by
  refine ⟨fun i H l hi s => ?_, fun i H l hi s => ?_, fun i H x H' d l e s y => ?_⟩
  · rw [zipD_len] at hi
    obtain ⟨a', vs, ea, hq, hl, _⟩ := St.rdL s
    obtain ⟨b', ws, eb, hq2, hl2, _⟩ := St.rdL (St.tail s)
    cases ea; cases eb
    exact ⟨vs, ws, vs[i], ws[i], hq, hq2, List.getElem?_eq_getElem (by omega), List.getElem?_eq_getElem (by omega)⟩
  · rw [zipD_len] at hi
    obtain ⟨a', vs, ea, hq, hl, _⟩ := St.rdL s
    obtain ⟨b', ws, eb, hq2, hl2, _⟩ := St.rdL (St.tail s)
    cases ea; cases eb
    exact ⟨vs, ws, hq, hq2, by omega⟩
  · obtain ⟨T, u, w, rfl, hT, rfl, y1, y2⟩ := y
    obtain ⟨p, q, e1, e2, rfl⟩ := zipD_get e
    obtain ⟨a', vs, ea, hq, hl, s2⟩ := St.rdL s
    cases ea
    have s3 := s2.get_frs (frs_get e1 (y1 vs hq))
    have s4 : St K H ((.fr (.lst es), .ref b) :: (.fr p, u) :: (.fr (.lst ds), .ref a) :: l) := s3.perm (by
      refine (List.Perm.cons _ (.swap _ _ _)).trans ?_
      exact .swap _ _ _)
    obtain ⟨b', ws, eb, hq2, hl2, s5⟩ := St.rdL s4
    cases eb
    have s6 := s5.get_frs (frs_get e2 (y2 ws hq2))
    refine pair_new hT (s6.perm ?_)
    -- q, es, p, ds, l  ->  p, q, ds, es, l
    refine (List.Perm.cons _ (.swap _ _ _)).trans ((List.Perm.swap _ _ _).trans ?_)
    exact List.Perm.cons _ (List.Perm.cons _ (.swap _ _ _))
end
section
variable {X : Cx} {W : WX} {tg e : Expr} {pos p : Pos}
/-- a list or a tuple -/
def iSq (K : PySem.W.Frag) (tl : TE) : TI := fun σ H R => tl σ H fun x H1 => ∃ a, x = .ref a ∧ (((∃ xs, SqL K H1 a xs) ∧ R (Itl K a) H1) ∨ ((∃ xs, SqT K H1 a xs) ∧ R (Itt K a) H1))
theorem pi_sq {l : Expr} {tl : TE} (hl : PE X l tl) : PI X tg l (iSq X.K tl) := by
  refine ⟨fun pins s σ H R I h => ?_⟩
  refine thn (hl.run pins s σ H _ I h) fun v s1 ⟨x, H1, I1, r1, q1⟩ => ?_
  obtain ⟨a, e, q⟩ := q1
  subst e
  cases r1
  rcases q with ⟨⟨xs, hq⟩, q⟩ | ⟨⟨xs, hq⟩, q⟩
  · obtain ⟨its, rv, p, hz⟩ := I1.list hq
    refine wpAny_pyIter_list p.isList ?_
    refine ⟨s1.heap.objs.size, [s1.heap.objs.size], _, _, H1, rfl, I1.kept (t' := s1.toks) fun b o e => Heap.get?_push_of_some _ e, turn_list a _, ⟨_, Heap.get?_push_size _ rfl, rfl, rfl⟩, fun b hb => ?_, q⟩
    have e : b = s1.heap.objs.size := by simpa using hb
    subst e
    exact I1.fpOk (Nat.le_refl _) (I1.hok.fresh (Nat.le_refl _))
  · obtain ⟨its, rv, p, hz⟩ := I1.tuple hq
    refine wpAny_pyIter_tuple (show s1.heap.IsTuple a its.toArray from p) ?_
    refine ⟨s1.heap.objs.size, [s1.heap.objs.size], _, _, H1, rfl, I1.kept (t' := s1.toks) fun b o e => Heap.get?_push_of_some _ e, turn_tuple a _, ⟨_, Heap.get?_push_size _ rfl, rfl, rfl⟩, fun b hb => ?_, q⟩
    have e : b = s1.heap.objs.size := by simpa using hb
    subst e
    exact I1.fpOk (Nat.le_refl _) (I1.hok.fresh (Nat.le_refl _))
def iSeq (f : Sl → Out PV) : Sl → Out (List D) := fun ρ => (f ρ).bind fun p ρ1 => match p.fz with
  | .lst ds => .ok ds ρ1
  | .tup ds => .ok ds ρ1
  | _ => .bad
theorem qi_seq {f : Sl → Out PV} (he : QE X W e f) : QI X W tg e (iSeq f) := by
  obtain ⟨te, pe, se⟩ := he.ex
  refine ⟨_, pi_sq pe, fun σ H ρ τ R I hq => ?_⟩
  refine se σ H ρ τ _ I ?_
  unfold iSeq at hq
  cases e1 : f ρ with
  | ok q ρ1 =>
    rw [e1] at hq
    intro v H1 I1
    dsimp only [Out.bind] at hq
    have I2 : Ok X.K H1 ρ1 σ ((.fr q.fz, v) :: τ) := Ok.map (τ := (q, v) :: τ) (fun l s => St.freeze s) I1
    split at hq
    · rename_i ds e2
      rw [e2] at I2
      obtain ⟨a, vs, rfl, h1, _, _⟩ := (Ok.st1 I2).rdL
      exact ⟨a, rfl, .inl ⟨⟨vs, h1⟩, hq _ H1 _ it_list I2⟩⟩
    · rename_i ds e2
      rw [e2] at I2
      obtain ⟨a, vs, rfl, h1, _, _⟩ := (Ok.st1 I2).rdT
      exact ⟨a, rfl, .inr ⟨⟨vs, h1⟩, hq _ H1 _ it_tup I2⟩⟩
    · exact hq.elim
  | exc x ρ1 => rw [e1] at hq; exact hq
  | bad => rw [e1] at hq; exact hq.elim
/-- of values: range, enumerate, zip -/
def iV (h : List PV → Option (List D)) (fa : Sl → Out (List Arg)) : Sl → Out (List D) := fun ρ => (fa ρ).bind fun as ρ1 => match valsOf as with
  | some ps => (match h ps with | some r => .ok r ρ1 | none => .bad)
  | none => .bad
def SemI (K : PySem.W.Frag) (r : List V → Hp → (It → Hp → Prop) → Prop) (h : List PV → Option (List D)) : Prop := ∀ (H : Hp) (l : List Pr) (ps : List PV) (ds : List D) (vs : List V) (R : It → Hp → Prop), ps.length = vs.length → St K H (ps.zip vs ++ l) → h ps = some ds → (∀ J S, ItOk K J ds S → St K H (S ++ l) → R J H) → r vs H R
theorem iV_post {fa : Sl → Out (List Arg)} {h : List PV → Option (List D)} {r : List V → Hp → (It → Hp → Prop) → Prop} (sem : SemI X.K r h) {ta : TA} (sa : ∀ σ H ρ τ Q, Ok X.K H ρ σ τ → APost X W (fa ρ) σ τ Q → ta σ H Q) :
    ∀ σ H ρ τ R, Ok X.K H ρ σ τ → IPost X W (iV h fa ρ) σ τ R → ta σ H fun vs H1 => r vs H1 R := by
  intro σ H ρ τ Q I hq
  refine sa σ H ρ τ _ I ?_
  unfold iV at hq
  cases e1 : fa ρ with
  | ok as ρ1 =>
    rw [e1] at hq
    intro vs H1 a I1
    dsimp only [Out.bind] at hq
    split at hq
    · rename_i ps e2
      split at hq
      · rename_i res e3
        obtain ⟨h1, h2⟩ := valsOf_zip e2 a
        rw [h2] at I1
        exact sem H1 (prs ρ1 σ ++ τ) ps res vs Q h1 (Ok.st I1) e3 fun J S it s => hq J H1 S it (I1.fit s)
      · exact hq.elim
    · exact hq.elim
  | exc x ρ1 => rw [e1] at hq; exact hq
  | bad => rw [e1] at hq; exact hq.elim
def smallI (i : Int) : Bool := decide (-4611686018427387904 ≤ i) && decide (i < 4611686018427387904)
theorem smallI_ok {i : Int} (h : smallI i = true) : -(2 ^ 62) ≤ i ∧ i < 2 ^ 62 := by
  unfold smallI at h
  rw [Bool.and_eq_true] at h
  have h1 := of_decide_eq_true h.1
  have h2 := of_decide_eq_true h.2
  exact ⟨by simpa using h1, by simpa using h2⟩
def hRng1 : List PV → Option (List D)
  | [.fr (.int j)] => if smallI j = true then some (rangeD 0 j.toNat) else none
  | _ => none
def hRng2 : List PV → Option (List D)
  | [.fr (.int i), .fr (.int j)] => if smallI i = true ∧ smallI j = true then some (rangeD i (j - i).toNat) else none
  | _ => none
/-- range(i, j, -1) -/
def hRngD : List PV → Option (List D)
  | [.fr (.int i), .fr (.int j), .fr (.int (-1))] => if smallI i = true ∧ smallI j = true then some (rangeC i (-1) (i - j).toNat) else none
  | _ => none
theorem qi_range1 {a : Expr} {fa : Sl → Out (List Arg)} (hm : X.mg "range" = none) (ha : QA X W [a] fa) (hg : Gl X "range" := by rfl) (hs : starEach [a] X.env = [(false, eval a X.env)] := by rfl) : QI X W tg (.Call (.Name "range" p) [a] [] pos) (iV hRng1 fa) := by
  obtain ⟨ta, pa, sa⟩ := ha.ex
  refine ⟨_, pi_range1 hg hm pa hs, iV_post (r := fun vs H1 R => ∃ j : Int, vs = [.int j] ∧ -(2 ^ 62) ≤ j ∧ j < 2 ^ 62 ∧ R (Itr 0 j.toNat) H1) (fun H l ps ds vs R hl s e k => ?_) sa⟩
  unfold hRng1 at e
  split at e
  · rename_i j
    split at e
    · rename_i hj
      cases e
      obtain ⟨v, rfl⟩ := one_vs hl
      have s1 : St X.K H ((.fr (.int j), v) :: l) := s
      have e1 := s1.val_int
      subst e1
      obtain ⟨h1, h2⟩ := smallI_ok hj
      exact ⟨j, rfl, h1, h2, k _ [] it_range s1.tail⟩
    · cases e
  · cases e
theorem qi_range2 {a b : Expr} {fa : Sl → Out (List Arg)} (hm : X.mg "range" = none) (ha : QA X W [a, b] fa) (hg : Gl X "range" := by rfl) (hs : starEach [a, b] X.env = [(false, eval a X.env), (false, eval b X.env)] := by rfl) (hs2 : starEach [b] X.env = [(false, eval b X.env)] := by rfl) :
    QI X W tg (.Call (.Name "range" p) [a, b] [] pos) (iV hRng2 fa) := by
  obtain ⟨ta, pa, sa⟩ := ha.ex
  refine ⟨_, pi_range2 hg hm pa hs hs2, iV_post (r := fun vs H1 R => ∃ i j : Int, vs = [.int i, .int j] ∧ (-(2 ^ 62) ≤ i ∧ i < 2 ^ 62 ∧ -(2 ^ 62) ≤ j ∧ j < 2 ^ 62) ∧ R (Itr i (j - i).toNat) H1) (fun H l ps ds vs R hl s e k => ?_) sa⟩
  unfold hRng2 at e
  split at e
  · rename_i i j
    split at e
    · rename_i hj
      cases e
      obtain ⟨v, w, rfl⟩ := two_vs (K := X.K) (H := H) (l := l) hl
      have s1 : St X.K H ((.fr (.int i), v) :: (.fr (.int j), w) :: l) := s
      have e1 := s1.val_int
      have e2 := s1.tail.val_int
      subst e1 e2
      obtain ⟨h1, h2⟩ := smallI_ok hj.1
      obtain ⟨h3, h4⟩ := smallI_ok hj.2
      exact ⟨i, j, rfl, ⟨h1, h2, h3, h4⟩, k _ [] it_range s1.tail.tail⟩
    · cases e
  · cases e
def hEnum : List PV → Option (List D)
  | [q] => (match q.fz with | .lst ds => some (enumD 0 ds) | _ => none)
  | _ => none
theorem qi_enum {a : Expr} {fa : Sl → Out (List Arg)} {tpos : Pos} {elts : List Expr} {kk : Nat} (hm : X.mg "enumerate" = none) (ha : QA X W [a] fa) (hg : Gl X "enumerate" := by rfl) (hs : starEach [a] X.env = [(false, eval a X.env)] := by rfl) :
    QI X W (.Tuple elts kk tpos) (.Call (.Name "enumerate" p) [a] [] pos) (iV hEnum fa) := by
  obtain ⟨ta, pa, sa⟩ := ha.ex
  refine ⟨_, pi_enum hg hm pa hs, iV_post (r := fun vs H1 R => ∃ a xs, vs = [.ref a] ∧ SqL X.K H1 a xs ∧ R (Ite X.K a) H1) (fun H l ps ds vs R hl s e k => ?_) sa⟩
  unfold hEnum at e
  split at e
  · rename_i q
    obtain ⟨v, rfl⟩ := one_vs hl
    have s1 : St X.K H ((.fr q.fz, v) :: l) := St.freeze s
    split at e
    · rename_i xs e1
      cases e
      rw [e1] at s1
      obtain ⟨a', ws, rfl, h1, _, _⟩ := s1.rdL
      exact ⟨a', ws, rfl, h1, k _ [_] it_enum s1⟩
    · cases e
  · cases e
def hZip : List PV → Option (List D)
  | [q, r] => (match q.fz, r.fz with | .lst ds, .lst es => some (zipD ds es) | _, _ => none)
  | _ => none
theorem qi_zip {a b : Expr} {fa : Sl → Out (List Arg)} {tpos : Pos} {elts : List Expr} {kk : Nat} (hm : X.mg "zip" = none) (ha : QA X W [a, b] fa) (hg : Gl X "zip" := by rfl) (hs : starEach [a, b] X.env = (false, eval a X.env) :: starEach [b] X.env := by rfl) (hs2 : (backTo pos (starEach [b] X.env)).any (·.1) = false := by rfl) :
    QI X W (.Tuple elts kk tpos) (.Call (.Name "zip" p) [a, b] [] pos) (iV hZip fa) := by
  obtain ⟨ta, pa, sa⟩ := ha.ex
  refine ⟨_, pi_zip hg hm pa hs hs2, iV_post (r := fun vs H1 R => ∃ a b xs ys, vs = [.ref a, .ref b] ∧ SqL X.K H1 a xs ∧ SqL X.K H1 b ys ∧ R (Itz X.K a b) H1) (fun H l ps ds vs R hl s e k => ?_) sa⟩
  unfold hZip at e
  split at e
  · rename_i q r
    obtain ⟨v, w, rfl⟩ := two_vs (K := X.K) (H := H) (l := l) hl
    have s1 : St X.K H ((.fr q.fz, v) :: (r, w) :: l) := St.freeze s
    have s2 : St X.K H ((.fr r.fz, w) :: (.fr q.fz, v) :: l) := St.freeze (s1.perm (.swap _ _ _))
    split at e
    · rename_i xs ys e1 e2
      cases e
      rw [e1, e2] at s2
      obtain ⟨b', ws, rfl, h1, _, _⟩ := s2.rdL
      obtain ⟨a', us, rfl, h2, _, _⟩ := s2.tail.rdL
      exact ⟨a', b', us, ws, rfl, h2, h1, k _ [_, _] it_zip (s2.perm (.swap _ _ _))⟩
    · cases e
  · cases e
end

/-! ### for -/
def forGo (g : PV → Sl → Option Sl) (b : Sl → SO) : List D → Sl → SO
  | [], ρ => .nx ρ
  | d :: ds, ρ => match g (.fr d) ρ with
    | some ρ1 => (match b ρ1 with
      | .nx ρ2 => forGo g b ds ρ2
      | .ct ρ2 => forGo g b ds ρ2
      | .bk ρ2 => .nx ρ2
      | .rt p ρ2 => .rt p ρ2
      | .ex x ρ2 => .ex x ρ2
      | .bad => .bad)
    | none => .bad
def sFor (fi : Sl → Out (List D)) (g : PV → Sl → Option Sl) (b : Sl → SO) : Sl → SO := fun ρ => match fi ρ with
  | .ok ds ρ1 => forGo g b ds ρ1
  | .exc x ρ1 => .ex x ρ1
  | .bad => .bad
section
variable {X : Cx} {W : WX} {B : List Nat} {tg iter : Expr} {body : List Stmt} {pos : Pos}
theorem SPost.drop {o : SO} {σ : L2.St} {τ l : List Pr} {D : Ends} (h : SPost X W B o σ τ D) : SPost X W B o σ (l ++ τ) D := by
  cases o with
  | nx ρ => exact fun σ2 H b2 I => h σ2 H b2 I.drop
  | bk ρ => exact fun σ2 H b2 I => h σ2 H b2 I.drop
  | ct ρ => exact fun σ2 H b2 I => h σ2 H b2 I.drop
  | rt p ρ => exact fun σ2 v H b2 I => h σ2 v H b2 (Ok.drop (l := l) (I.perm List.perm_middle.symm))
  | ex x ρ => exact fun σ2 b2 => (h σ2 b2).weak l
  | bad => exact h
theorem qs_for {fi : Sl → Out (List D)} {g : PV → Sl → Option Sl} {b : Sl → SO} (hp : PassesOwn (model X.prog X.w) X.A X.env X.xe) (hc : X.calm = true) (hi : QI X W tg iter fi) (hg : QG X B tg g) (hb : QSs X W B body b)
    (hs : ∀ x, foldedSetIterable iter X.env x = pure x := by intro _; rfl) : QS X W B (.For tg iter body [] pos) (sFor fi g b) := by
  obtain ⟨wi, pi, si⟩ := hi.ex
  obtain ⟨tg', pg, sg⟩ := hg.ex
  obtain ⟨tb, pb, sb⟩ := hb.ex
  refine ⟨_, ps_for hp hc pi pg pb hs, fun σ H ρ τ D I h => ?_⟩
  refine si σ H ρ τ _ I ?_
  unfold sFor at h
  cases e1 : fi ρ with
  | ok ds ρ1 =>
    rw [e1] at h
    intro J H1 S it I1
    refine ⟨fun i m σ' H' => m = ds.length - i ∧ i ≤ ds.length ∧ ∃ ρ', Bor B σ σ' ∧ Ok X.K H' ρ' σ' (S ++ τ) ∧ SPost X W B (forGo g b (ds.drop i) ρ') σ' (S ++ τ) D, ⟨ds.length, by simp, Nat.zero_le _, ρ1, Bor.refl, I1, h.drop⟩, ?_⟩
    rintro i m σ2 H2 ⟨rfl, hi, ρ2, b2, I2, h2⟩
    by_cases hlt : i < ds.length
    · have ed : ds.drop i = ds[i] :: ds.drop (i + 1) := by rw [List.drop_eq_getElem_cons hlt]
      rw [ed] at h2
      unfold forGo at h2
      refine .inr ⟨it.go i H2 _ hlt (Ok.st I2), fun σ' H' => ∃ ρ', Bor B σ σ' ∧ Ok X.K H' ρ' σ' (S ++ τ) ∧ SPost X W B (forGo g b (ds.drop (i + 1)) ρ') σ' (S ++ τ) D,
        fun σ' H' q => ⟨ds.length - (i + 1), by omega, rfl, hlt, q⟩, fun x H' y => ?_⟩
      have I3 : Ok X.K H' ρ2 σ2 ((.fr ds[i], x) :: (S ++ τ)) := by
        have s3 := it.yld i H2 x H' ds[i] _ (List.getElem?_eq_getElem hlt) (Ok.st I2) y
        exact Ok.fit (l := (.fr ds[i], x) :: S) (τ' := τ) I2 s3
      split at h2
      · rename_i ρ3 e3
        refine sg σ2 H' ρ2 _ _ x ρ3 I3 e3 _ fun σ3 b3 I4 => ?_
        refine sb σ3 H' ρ3 (S ++ τ) _ I4 ?_
        have b13 := b2.trans b3
        split at h2
        · rename_i ρ4 e4
          rw [e4]
          exact fun σ4 H4 b4 I5 => ⟨ρ4, b13.trans b4, I5, h2.bor (b3.trans b4)⟩
        · rename_i ρ4 e4
          rw [e4]
          exact fun σ4 H4 b4 I5 => ⟨ρ4, b13.trans b4, I5, h2.bor (b3.trans b4)⟩
        · rename_i ρ4 e4
          rw [e4]
          exact fun σ4 H4 b4 I5 => h2 σ4 H4 (b3.trans b4) I5
        · rename_i q ρ4 e4
          rw [e4]
          exact fun σ4 v H4 b4 I5 => h2 σ4 v H4 (b3.trans b4) I5
        · rename_i q ρ4 e4
          rw [e4]
          exact fun σ4 b4 => h2 σ4 (b3.trans b4)
        · exact h2.elim
      · exact h2.elim
    · have ei : i = ds.length := by omega
      rw [List.drop_eq_nil_of_le (by omega)] at h2
      exact .inl ⟨it.stop i H2 _ (by omega) (Ok.st I2), h2 σ2 H2 Bor.refl I2⟩
  | exc x ρ1 => rw [e1] at h; exact ex_bor h
  | bad => rw [e1] at h; exact h.elim

/-! ### while -/
def whGo (t : Sl → Out Bool) (b : Sl → SO) : Nat → Sl → SO
  | 0, _ => .bad
  | n + 1, ρ => match t ρ with
    | .ok true ρ1 => (match b ρ1 with
      | .nx ρ2 => whGo t b n ρ2
      | .ct ρ2 => whGo t b n ρ2
      | .bk ρ2 => .nx ρ2
      | .rt p ρ2 => .rt p ρ2
      | .ex x ρ2 => .ex x ρ2
      | .bad => .bad)
    | .ok false ρ1 => .nx ρ1
    | .exc x ρ1 => .ex x ρ1
    | .bad => .bad
theorem qs_while {c : Expr} {t : Sl → Out Bool} {b : Sl → SO} (n : Nat) (hp : PassesOwn (model X.prog X.w) X.A X.env X.xe) (hc : QT X W c t) (hb : QSs X W B body b) : QS X W B (.While c body [] pos) (whGo t b n) := by
  obtain ⟨tc, pc, sc⟩ := hc.ex
  obtain ⟨tb, pb, sb⟩ := hb.ex
  refine ⟨_, ps_while hp pc pb, fun σ H ρ τ D I h => ?_⟩
  refine ⟨fun m σ' H' => ∃ ρ', Bor B σ σ' ∧ Ok X.K H' ρ' σ' τ ∧ SPost X W B (whGo t b m ρ') σ' τ D, ⟨n, ρ, Bor.refl, I, h⟩, ?_⟩
  rintro m σ2 H2 ⟨ρ2, b2, I2, h2⟩
  cases m with
  | zero => exact h2.elim
  | succ m =>
    unfold whGo at h2
    refine sc σ2 H2 ρ2 τ _ I2 ?_
    split at h2
    · rename_i ρ3 e3
      rw [e3]
      intro H3 I3
      rw [if_pos rfl]
      refine ⟨fun σ' H' => ∃ ρ', Bor B σ σ' ∧ Ok X.K H' ρ' σ' τ ∧ SPost X W B (whGo t b m ρ') σ' τ D, fun σ' H' q => ⟨m, Nat.lt_succ_self m, q⟩, ?_⟩
      refine sb σ2 H3 ρ3 τ _ I3 ?_
      split at h2
      · rename_i ρ4 e4
        rw [e4]
        exact fun σ4 H4 b4 I5 => ⟨ρ4, b2.trans b4, I5, h2.bor b4⟩
      · rename_i ρ4 e4
        rw [e4]
        exact fun σ4 H4 b4 I5 => ⟨ρ4, b2.trans b4, I5, h2.bor b4⟩
      · rename_i ρ4 e4
        rw [e4]
        exact fun σ4 H4 b4 I5 => h2 σ4 H4 b4 I5
      · rename_i q ρ4 e4
        rw [e4]
        exact h2
      · rename_i q ρ4 e4
        rw [e4]
        exact h2
      · exact h2.elim
    · rename_i ρ3 e3
      rw [e3]
      intro H3 I3
      rw [if_neg Bool.false_ne_true]
      exact h2 σ2 H3 Bor.refl I3
    · rename_i x ρ3 e3
      rw [e3]
      exact ex_bor h2
    · exact h2.elim
end
end Q

namespace Q
open PySem PySem.Spec PyProof.Rows L2

/-! ### comprehensions -/
def wipeP : List Nat → Sl → Sl
  | [], ρ => ρ
  | v :: vs, ρ => (wipeP vs ρ).set v none
theorem wipe_get {σ : L2.St} : ∀ {vs : List Nat} {j : Nat}, j ∉ vs → (wipe σ vs)[j]? = σ[j]?
  | [], _, _ => rfl
  | v :: vs, j, h => by
    unfold wipe
    rw [List.getElem?_set_ne (fun e => h (by rw [e]; exact List.mem_cons_self))]
    exact wipe_get fun z => h (List.mem_cons_of_mem _ z)
theorem wipe_eq {σ σ' : L2.St} {vs : List Nat} (hl : σ'.length = σ.length) (h : ∀ j, j ∉ vs → σ'[j]? = (wipe σ vs)[j]?) : wipe σ' vs = wipe σ vs := by
  apply List.ext_getElem?
  intro j
  by_cases hj : j ∈ vs
  · have out : ∀ {s : L2.St}, ∀ {vs : List Nat}, j ∈ vs → (wipe s vs)[j]? = if j < s.length then some none else none := by
      intro s vs
      induction vs with
      | nil => intro q; cases q
      | cons v vs ih =>
        intro q
        unfold wipe
        by_cases hv : v = j
        · subst hv
          by_cases hlt : v < s.length
          · rw [if_pos hlt, List.getElem?_set_self (by rw [wipe_length]; exact hlt)]
          · rw [if_neg hlt, List.getElem?_eq_none (by rw [List.length_set, wipe_length]; omega)]
        · rw [List.getElem?_set_ne hv]
          rcases List.mem_cons.mp q with e | q
          · exact absurd e.symm hv
          · exact ih q
    rw [out hj, out hj, hl]
  · rw [wipe_get hj]
    exact h j hj
theorem wipe_ok1 {K : PySem.W.Frag} {H : Hp} {τ : List Pr} : ∀ {ρ : Sl} {σ : L2.St} {i : Nat}, ρ[i]? ≠ none → (∀ p, ρ[i]? ≠ some (some p)) → Fit ρ (σ.set i none) → Fit ρ σ ∧ prs ρ (σ.set i none) = prs ρ σ
  | [], σ, i, h0, _, _ => by simp at h0
  | none :: ρ, [], i, _, _, f => by cases i <;> exact f.elim
  | some _ :: ρ, [], i, _, _, f => by cases i <;> exact f.elim
  | none :: ρ, w :: σ, 0, _, _, f => ⟨f, rfl⟩
  | some p :: ρ, w :: σ, 0, _, h, _ => absurd rfl (h p)
  | none :: ρ, w :: σ, i + 1, h0, h, f => wipe_ok1 (K := K) (H := H) (τ := τ) (ρ := ρ) (σ := σ) (i := i) (by simpa using h0) (by simpa using h) f
  | some p :: ρ, some w :: σ, i + 1, h0, h, f => let ⟨a, b⟩ := wipe_ok1 (K := K) (H := H) (τ := τ) (ρ := ρ) (σ := σ) (i := i) (by simpa using h0) (by simpa using h) f; ⟨a, congrArg ((p, w) :: ·) b⟩
  | some p :: ρ, none :: σ, i + 1, _, _, f => f.elim
theorem unwipe {K : PySem.W.Frag} {H : Hp} {τ : List Pr} {ρ : Sl} {σ : L2.St} : ∀ {vs : List Nat}, (∀ v ∈ vs, ∀ p, ρ[v]? ≠ some (some p)) → Ok K H ρ (wipe σ vs) τ → Ok K H ρ σ τ
  | [], _, I => I
  | v :: vs, h, I => by
    refine unwipe (vs := vs) (fun u hu => h u (List.mem_cons_of_mem _ hu)) ?_
    unfold wipe at I
    by_cases hv : v < (wipe σ vs).length
    · have hl := I.1.len
      rw [List.length_set] at hl
      obtain ⟨a, b⟩ := wipe_ok1 (K := K) (H := H) (τ := τ) (ρ := ρ) (σ := wipe σ vs) (i := v) (by rw [List.getElem?_eq_getElem (by omega)]; simp) (h v List.mem_cons_self) I.1
      exact ⟨a, by rw [← b]; exact I.2⟩
    · rw [List.set_eq_of_length_le (by omega)] at I
      exact I
theorem wipeP_len : ∀ (vs : List Nat) (ρ : Sl), (wipeP vs ρ).length = ρ.length
  | [], _ => rfl
  | v :: vs, ρ => by unfold wipeP; rw [List.length_set]; exact wipeP_len vs ρ
theorem wipeP_none : ∀ {vs : List Nat} {ρ : Sl} {v : Nat}, v ∈ vs → ∀ p, (wipeP vs ρ)[v]? ≠ some (some p)
  | u :: vs, ρ, v, h, p, e => by
    unfold wipeP at e
    by_cases hu : u = v
    · subst hu
      by_cases hl : u < (wipeP vs ρ).length
      · rw [List.getElem?_set_self hl] at e; cases e
      · rw [List.getElem?_eq_none (by rw [List.length_set]; omega)] at e; cases e
    · rw [List.getElem?_set_ne hu] at e
      rcases List.mem_cons.mp h with q | q
      · exact hu q.symm
      · exact wipeP_none q p e
theorem Ok.wipeP {K : PySem.W.Frag} {H : Hp} {τ : List Pr} {ρ : Sl} {σ : L2.St} (I : Ok K H ρ σ τ) : ∀ vs : List Nat, Ok K H (Q.wipeP vs ρ) σ τ
  | [] => I
  | v :: vs => (I.wipeP vs).del v
theorem fit_wipe1 : ∀ {ρ : Sl} {σ : L2.St} {i : Nat}, (∀ p, ρ[i]? ≠ some (some p)) → Fit ρ σ → Fit ρ (σ.set i none) ∧ prs ρ (σ.set i none) = prs ρ σ
  | [], [], i, _, f => ⟨f, rfl⟩
  | [], _ :: _, i, _, f => f.elim
  | none :: ρ, w :: σ, 0, _, f => ⟨f, rfl⟩
  | some p :: ρ, w :: σ, 0, h, _ => absurd rfl (h p)
  | none :: ρ, w :: σ, i + 1, h, f => fit_wipe1 (ρ := ρ) (σ := σ) (i := i) (by simpa using h) f
  | some p :: ρ, some w :: σ, i + 1, h, f => let ⟨a, b⟩ := fit_wipe1 (ρ := ρ) (σ := σ) (i := i) (by simpa using h) f; ⟨a, congrArg ((p, w) :: ·) b⟩
  | some p :: ρ, none :: σ, _, _, f => f.elim
  | none :: _, [], _, _, f => f.elim
  | some _ :: _, [], _, _, f => f.elim
theorem Ok.wipeσ {K : PySem.W.Frag} {H : Hp} {τ : List Pr} {ρ : Sl} {σ : L2.St} (I : Ok K H ρ σ τ) : ∀ {vs : List Nat}, (∀ v ∈ vs, ∀ p, ρ[v]? ≠ some (some p)) → Ok K H ρ (wipe σ vs) τ
  | [], _ => I
  | v :: vs, h => by
    have J := I.wipeσ (vs := vs) fun u hu => h u (List.mem_cons_of_mem _ hu)
    obtain ⟨a, b⟩ := fit_wipe1 (h v List.mem_cons_self) J.1
    exact ⟨a, by show St K H (prs ρ ((wipe σ vs).set v none) ++ τ); rw [b]; exact J.2⟩

def lcGo (vs : List Nat) (g : PV → Sl → Option Sl) (t : Sl → Out Bool) (f : Sl → Out PV) : List D → Sl → List D → Out (List D)
  | [], ρ, acc => .ok acc ρ
  | d :: ds, ρ, acc => match g (.fr d) ρ with
    | some ρ1 => (match t ρ1 with
      | .ok true ρ2 => (match f ρ2 with
        | .ok p ρ3 => if acc.length < 16777216 then lcGo vs g t f ds (wipeP vs ρ3) (acc ++ [p.fz]) else .bad
        | _ => .bad)
      | .ok false ρ2 => lcGo vs g t f ds (wipeP vs ρ2) acc
      | _ => .bad)
    | none => .bad
def eLc (vs : List Nat) (fi : Sl → Out (List D)) (g : PV → Sl → Option Sl) (t : Sl → Out Bool) (f : Sl → Out PV) : Sl → Out PV := fun ρ => (fi ρ).bind fun ds ρ1 => match lcGo vs g t f ds (wipeP vs ρ1) [] with
  | .ok acc ρ2 => .ok (.oL acc) ρ2
  | _ => .bad
abbrev WF : WX := fun _ _ _ _ => False
structure QTs (X : Cx) (W : WX) (es : List Expr) (f : Sl → Out Bool) : Prop where
  ex : ∃ te, PTs X es te ∧ ∀ σ H ρ τ Q, Ok X.K H ρ σ τ → TPost X W (f ρ) σ τ Q → te σ H Q
def tTrue : Sl → Out Bool := fun ρ => .ok true ρ
theorem qts_nil {X : Cx} {W : WX} : QTs X W [] tTrue := ⟨_, pts_nil, fun σ H ρ τ Q I hq => hq H I⟩
theorem qts_one {X : Cx} {W : WX} {c : Expr} {f : Sl → Out Bool} (h : QT X W c f) : QTs X W [c] f := by
  obtain ⟨t, p, s⟩ := h.ex
  exact ⟨_, pts_one p, s⟩
theorem QTs.pt {X : Cx} {W : WX} {es : List Expr} {f : Sl → Out Bool} (h : QTs X W es f) : PTs X es (wpT X.K W f) := by
  obtain ⟨te, p, s⟩ := h.ex
  exact ⟨fun pins s0 σ H Q I hq => p.run pins s0 σ H Q I (by
    obtain ⟨ρ, τ, ok, hq⟩ := hq
    exact s σ H ρ τ Q ok hq)⟩
/-- what a comprehension's target may not touch: all but its own names -/
def notIn (n : Nat) (vs : List Nat) : List Nat := (List.range n).filter fun i => !vs.contains i
section
variable {X : Cx} {W : WX} {B : List Nat} {elt tg iter : Expr} {ifs : List Expr} {scope : Scope} {own : List (Str × Nat)} {pos : Pos} {fi : Sl → Out (List D)} {g : PV → Sl → Option Sl} {t : Sl → Out Bool} {f : Sl → Out PV}
theorem lc_post {wi : TI} (si : ∀ σ H ρ τ R, Ok X.K H ρ σ τ → IPost X W (fi ρ) σ τ R → wi σ H R) {n : Nat} {vs : List Nat} :
    ∀ σ H ρ τ Q, σ.length ≤ n → Ok X.K H ρ σ τ → EPost X W (eLc vs fi g t f ρ) σ τ Q → tLc wi (wpG X.K (notIn n vs) g) (wpT X.K WF t) (wpE X.K WF f) vs σ H Q := by
  intro σ H ρ τ Q hn I h
  refine si σ H ρ τ _ I ?_
  unfold eLc at h
  cases e1 : fi ρ with
  | ok ds ρ1 =>
    rw [e1] at h
    intro J H1 S it I1 A0 hD
    dsimp only [Out.bind] at h
    have I2 : Ok X.K (upd H1 A0 (.lst [])) (wipeP vs ρ1) (wipe σ vs) ((.oL [], .ref A0) :: (S ++ τ)) := by
      refine Ok.wipeσ ?_ (fun v hv => wipeP_none hv)
      refine Ok.wipeP ?_ vs
      exact I1.fit1 (St.newL (ds := []) (vs := []) rfl hD (l := prs ρ1 σ ++ (S ++ τ)) (Ok.st (l := []) I1))
    let Fin : Out (List D) → Prop := fun o => match o with
      | .ok acc ρ2 => ∀ H', Ok X.K H' ρ2 σ ((.oL acc, .ref A0) :: τ) → Q (.ref A0) H'
      | _ => False
    have h' : Fin (lcGo vs g t f ds (wipeP vs ρ1) []) := by
      split at h
      · rename_i acc ρ2 e2
        rw [e2]
        exact fun H' J' => h (.ref A0) H' J'
      · exact h.elim
    refine ⟨fun i m H' => m = ds.length - i ∧ i ≤ ds.length ∧ ∃ ρ' acc, (∀ v ∈ vs, ∀ p, ρ'[v]? ≠ some (some p)) ∧ Ok X.K H' ρ' (wipe σ vs) ((.oL acc, .ref A0) :: (S ++ τ)) ∧ Fin (lcGo vs g t f (ds.drop i) ρ' acc),
      ⟨ds.length, by simp, Nat.zero_le _, _, [], fun v hv => wipeP_none hv, I2, h'⟩, ?_⟩
    rintro i m H2 ⟨rfl, hi, ρ2, acc, hw, J2, h2⟩
    have J2' : Ok X.K H2 ρ2 (wipe σ vs) (S ++ ((.oL acc, .ref A0) :: τ)) := J2.perm List.perm_middle.symm
    by_cases hlt : i < ds.length
    · have ed : ds.drop i = ds[i] :: ds.drop (i + 1) := by rw [List.drop_eq_getElem_cons hlt]
      rw [ed] at h2
      unfold lcGo at h2
      refine .inr ⟨it.go i H2 _ hlt (Ok.st J2'), fun H' => ∃ ρ' acc, (∀ v ∈ vs, ∀ p, ρ'[v]? ≠ some (some p)) ∧ Ok X.K H' ρ' (wipe σ vs) ((.oL acc, .ref A0) :: (S ++ τ)) ∧ Fin (lcGo vs g t f (ds.drop (i + 1)) ρ' acc),
        fun H' q => ⟨ds.length - (i + 1), by omega, rfl, hlt, q⟩, fun x H' y => ?_⟩
      have J3 : Ok X.K H' ρ2 (wipe σ vs) ((.fr ds[i], x) :: (.oL acc, .ref A0) :: (S ++ τ)) := by
        have s3 := it.yld i H2 x H' ds[i] _ (List.getElem?_eq_getElem hlt) (Ok.st J2') y
        have := Ok.fit (l := (.fr ds[i], x) :: S) (τ' := (.oL acc, .ref A0) :: τ) J2' s3
        exact this.perm (.cons _ List.perm_middle)
      cases e3 : g (.fr ds[i]) ρ2 with
      | none => rw [e3] at h2; exact h2.elim
      | some ρ3 =>
        rw [e3] at h2
        refine ⟨ρ2, _, _, ρ3, J3, e3, fun σ3 b3 J4 => ?_⟩
        have hw3 : wipe σ3 vs = wipe σ vs := by
          refine wipe_eq (b3.1.trans (wipe_length σ vs)) fun j hj => ?_
          by_cases hjn : j < n
          · refine b3.2 j ?_
            refine List.mem_filter.mpr ⟨List.mem_range.mpr hjn, ?_⟩
            simp [hj]
          · have hl : (wipe σ vs).length = σ.length := wipe_length σ vs
            rw [List.getElem?_eq_none (by rw [b3.1]; omega), List.getElem?_eq_none (by omega)]
        refine ⟨hw3, ρ3, _, J4, ?_⟩
        have back : ∀ {ρ5 : Sl} {H5 : Hp} {l : List Pr}, Ok X.K H5 ρ5 σ3 l → Ok X.K H5 (wipeP vs ρ5) (wipe σ vs) l := fun {ρ5 H5 l} J5 => by
          rw [← hw3]
          exact (J5.wipeP vs).wipeσ fun v hv => wipeP_none hv
        dsimp only at h2
        cases e4 : t ρ3 with
        | ok b ρ4 =>
          rw [e4] at h2
          intro H4 J5
          cases b with
          | false => exact ⟨_, acc, fun v hv => wipeP_none hv, back J5, h2⟩
          | true =>
            dsimp only at h2
            rw [if_pos rfl]
            refine ⟨ρ4, _, J5, ?_⟩
            cases e5 : f ρ4 with
            | ok q ρ5 =>
              rw [e5] at h2
              intro y H5 J6
              dsimp only at h2
              split at h2
              · rename_i hz
                have J7 : Ok X.K H5 ρ5 σ3 ((.fr q.fz, y) :: (.oL acc, .ref A0) :: (S ++ τ)) := Ok.map (τ := (q, y) :: (.oL acc, .ref A0) :: (S ++ τ)) (fun l s => St.freeze s) J6
                have s7 : St X.K H5 ((.oL acc, .ref A0) :: (.fr q.fz, y) :: (prs ρ5 σ3 ++ (S ++ τ))) := (Ok.st (l := [(.fr q.fz, y), (.oL acc, .ref A0)]) J7).perm (.swap _ _ _)
                obtain ⟨a, ws, ea, hH, hl, s8⟩ := s7.rdO
                cases ea
                refine ⟨ws, hH, by rw [← hl, sizeLine_eq]; exact hz, _, acc ++ [q.fz], fun v hv => wipeP_none hv, back ?_, h2⟩
                refine J7.fit1 (St.wrO (ds := acc) (es := acc ++ [q.fz]) (by simp [hl]) ?_)
                rw [frs_append hl, List.append_assoc]
                refine s8.perm (List.Perm.append_left _ ?_)
                exact .swap _ _ _
              · exact h2.elim
            | exc x ρ5 => rw [e5] at h2; exact h2.elim
            | bad => rw [e5] at h2; exact h2.elim
        | exc x ρ4 => rw [e4] at h2; exact h2.elim
        | bad => rw [e4] at h2; exact h2.elim
    · rw [List.drop_eq_nil_of_le (by omega)] at h2
      exact .inl ⟨it.stop i H2 _ (by omega) (Ok.st J2'), h2 H2 (unwipe hw (J2'.drop))⟩
  | exc x ρ1 => rw [e1] at h; exact h
  | bad => rw [e1] at h; exact h.elim
theorem qe_lc (hc : X.calm = true) (hN : X.N.Nodup) (hi : QI X W tg iter fi) (ok : BlkOk X.N X.env.scope scope own)
    (hg : ∀ (s : Shared) (H : Hp) (C : Addr) (cl : List (Str × Addr)) (fp : List Addr), QG (X.blk s H scope (compEnvC scope cl C X.env) fp) (notIn X.N.length (own.map (·.2))) tg g) (ht : ∀ (s : Shared) (H : Hp) (C : Addr) (cl : List (Str × Addr)) (fp : List Addr), QTs (X.blk s H scope (compEnvC scope cl C X.env) fp) WF ifs t)
    (he : ∀ (s : Shared) (H : Hp) (C : Addr) (cl : List (Str × Addr)) (fp : List Addr), QE (X.blk s H scope (compEnvC scope cl C X.env) fp) WF elt f) (hs : ∀ x, foldedSetIterable iter X.env x = pure x := by intro _; rfl) :
    QE X W (.ListComp elt [⟨tg, iter, ifs, 0⟩] scope pos) (eLc (own.map (·.2)) fi g t f) := by
  obtain ⟨wi, pi, si⟩ := hi.ex
  exact ⟨fun σ H Q => σ.length = X.N.length → tLc wi (wpG X.K (notIn X.N.length (own.map (·.2))) g) (wpT X.K WF t) (wpE X.K WF f) (own.map (·.2)) σ H Q,
    ⟨fun pins s σ H Q I h => (pe_lc hc hN pi ok (fun s H C cl fp => (hg s H C cl fp).pg) (fun s H C cl fp => (ht s H C cl fp).pt) (fun s H C cl fp => (he s H C cl fp).pe) hs).run pins s σ H Q I (h I.len)⟩,
    fun σ H ρ τ Q I h hl => lc_post si σ H ρ τ Q (Nat.le_of_eq hl) I h⟩
/-- y = [..] on one line -/
theorem qs_setLc {i : Nat} {y : Str} {py spos : Pos} (hB : i ∉ B) (hc : X.calm = true) (hN : X.N.Nodup) (hy : X.N[i]? = some y) (hyl : X.env.scope.names.lookup y = some .local)
    (hsw : swapsWith (.ListComp elt [⟨tg, iter, ifs, 0⟩] scope pos) (some (.Name y py)) spos.line X.env = pure true) (hi : QI X W tg iter fi) (ok : BlkOk X.N X.env.scope scope own)
    (hg : ∀ (s : Shared) (H : Hp) (C : Addr) (cl : List (Str × Addr)) (fp : List Addr), QG (X.blk s H scope (compEnvC scope cl C X.env) fp) (notIn X.N.length (own.map (·.2))) tg g) (ht : ∀ (s : Shared) (H : Hp) (C : Addr) (cl : List (Str × Addr)) (fp : List Addr), QTs (X.blk s H scope (compEnvC scope cl C X.env) fp) WF ifs t)
    (he : ∀ (s : Shared) (H : Hp) (C : Addr) (cl : List (Str × Addr)) (fp : List Addr), QE (X.blk s H scope (compEnvC scope cl C X.env) fp) WF elt f) (hs : ∀ x, foldedSetIterable iter X.env x = pure x := by intro _; rfl) :
    QS X W B (.Assign [.Name y py] (.ListComp elt [⟨tg, iter, ifs, 0⟩] scope pos) spos) (sAsg (eLc (own.map (·.2)) fi g t f) (gN i)) := by
  obtain ⟨wi, pi, si⟩ := hi.ex
  refine ⟨fun D σ H => σ.length = X.N.length → tAsg (tLc wi (wpG X.K (notIn X.N.length (own.map (·.2))) g) (wpT X.K WF t) (wpE X.K WF f) (own.map (·.2))) (gName i) D σ H,
    ⟨fun pins s σ H D I h => (ps_setLc hc hN hy hyl hsw pi ok (fun s H C cl fp => (hg s H C cl fp).pg) (fun s H C cl fp => (ht s H C cl fp).pt) (fun s H C cl fp => (he s H C cl fp).pe) hs).run pins s σ H D I (h I.len)⟩,
    fun σ H ρ τ D I h hl => ?_⟩
  refine lc_post si σ H ρ τ _ (Nat.le_of_eq hl) I ?_
  unfold sAsg at h
  cases e1 : eLc (own.map (·.2)) fi g t f ρ with
  | ok q ρ1 =>
    rw [e1] at h
    intro v H1 I1
    dsimp only [ofE] at h
    unfold gN at h
    by_cases hl : i < ρ1.length
    · rw [if_pos hl] at h
      exact h _ H1 (Bor.set hB) (I1.put hl)
    · rw [if_neg hl] at h
      exact h.elim
  | exc x ρ1 => rw [e1] at h; exact ex_bor h
  | bad => rw [e1] at h; exact h.elim
end
end Q

namespace Q
open PySem PySem.Spec PyProof.Rows L2

/-! ### equality of data -/
mutual
def D.py : D → Option PyData
  | .non => some .none
  | .bl b => some (.bool b)
  | .int i => some (.int i)
  | .str x => some (.str x)
  | .tup xs => (match pyL xs with | some ds => some (.tuple ds) | none => none)
  | .lst xs => (match pyL xs with | some ds => some (.list ds) | none => none)
  | .ty _ => none
  | .glo _ => none
  | .dK _ => none
  | .dT _ => none
  | .ins _ _ => none
def pyL : List D → Option (List PyData)
  | [] => some []
  | d :: ds => (match d.py, pyL ds with | some e, some es => some (e :: es) | _, _ => none)
end
section
variable {K : PySem.W.Frag} {F H : Hp}
mutual
theorem RD.dp (e : Same F H) : ∀ {d : D} {v : V} {p : PyData}, RD K F d v → d.py = some p → Dp K H v p
  | _, _, _, .non, h => by simp only [D.py] at h; cases h; exact .non
  | _, _, _, .bl b, h => by simp only [D.py] at h; cases h; exact .bl b
  | _, _, _, .int i, h => by simp only [D.py] at h; cases h; exact .int i
  | _, _, _, .str x, h => by simp only [D.py] at h; cases h; exact .str x
  | _, _, _, .ty n, h => by simp only [D.py] at h; cases h
  | _, _, _, .glo n, h => by simp only [D.py] at h; cases h
  | _, _, _, .dK _ _, h => by simp only [D.py] at h; cases h
  | _, _, _, .dT _ _, h => by simp only [D.py] at h; cases h
  | _, _, _, .ins _ _, h => by simp only [D.py] at h; cases h
  | _, _, _, @RD.tup _ _ a xs vs q r, h => by
    simp only [D.py] at h
    split at h
    · rename_i ds e1
      cases h
      exact .tup (sqT_mono e q) (RL.dp e r e1)
    · cases h
  | _, _, _, @RD.lst _ _ a xs vs q r, h => by
    simp only [D.py] at h
    split at h
    · rename_i ds e1
      cases h
      exact .lst (e.seq q) (RL.dp e r e1)
    · cases h
theorem RL.dp (e : Same F H) : ∀ {d : List D} {v : List V} {p : List PyData}, RL K F d v → pyL d = some p → DpAll K H v p
  | _, _, _, .nil, h => by simp only [pyL] at h; cases h; exact .nil
  | _, _, _, .cons q r, h => by
    simp only [pyL] at h
    split at h
    · rename_i e1 e2 h1 h2
      cases h
      exact .cons (RD.dp e q h1) (RL.dp e r h2)
    · cases h
end
end
theorem St.dp {K : PySem.W.Frag} {H : Hp} {l : List Pr} {d : D} {v : V} {p : PyData} (s : St K H ((.fr d, v) :: l)) (h : d.py = some p) : Dp K H v p := by
  obtain ⟨F, as, e, r, n⟩ := s
  cases r with
  | cons h1 h2 => cases h1 with | fr q => exact q.dp e h
def eqD (a b : D) : Option Bool := match a, b with
  | .int i, .int j => some (decide (i = j))
  | .str i, .str j => some (decide (i = j))
  | a, b => (match a.py, b.py with
    | some x, some y => if SeqAt.shaped x = true ∧ SeqAt.shaped y = true then some (PyData.eqv x y) else none
    | _, _ => none)
def dEq : PV → PV → Option PV := fun p q => match eqD p.fz q.fz with | some b => some (.fr (.bl b)) | none => none
def dNe : PV → PV → Option PV := fun p q => match eqD p.fz q.fz with | some b => some (.fr (.bl (!b))) | none => none
section
variable {K : PySem.W.Frag}
def rE (K : PySem.W.Frag) : R2 := fun x y H Q => rEq x y H Q ∨ rEqD K x y H Q
def rN (K : PySem.W.Frag) : R2 := fun x y H Q => rNe x y H Q ∨ rNeD K x y H Q
theorem dEq_core {H : Hp} {l : List Pr} {p q : PV} {b : Bool} {v w : V} (s : St K H ((q, w) :: (p, v) :: l)) (e : eqD p.fz q.fz = some b) :
    (scal v w = true ∧ decide (v = w) = b) ∨ ∃ d e, Dp K H v d ∧ Dp K H w e ∧ SeqAt.shaped d = true ∧ SeqAt.shaped e = true ∧ PyData.eqv d e = b := by
  have s1 : St K H ((.fr q.fz, w) :: (p, v) :: l) := s.freeze
  have s2 : St K H ((.fr p.fz, v) :: (.fr q.fz, w) :: l) := (s1.perm (.swap _ _ _)).freeze
  have s3 : St K H ((.fr q.fz, w) :: l) := s2.tail
  generalize p.fz = a at e s2
  generalize q.fz = c at e s2 s3
  unfold eqD at e
  split at e
  · cases e
    have e1 := s2.val_int
    have e2 := s3.val_int
    subst e1 e2
    exact .inl ⟨rfl, by rw [dec_int, Bool.beq_eq_decide_eq]⟩
  · cases e
    have e1 := s2.val_str
    have e2 := s3.val_str
    subst e1 e2
    exact .inl ⟨rfl, by rw [dec_str, Bool.beq_eq_decide_eq]⟩
  · split at e
    · rename_i x y h1 h2
      split at e
      · rename_i h3
        cases e
        exact .inr ⟨x, y, s2.dp h1, s3.dp h2, h3.1, h3.2, rfl⟩
      · cases e
    · cases e
theorem dEq_sem : Sem2 K (rE K) dEq := by
  intro H l p q res v w Q s e k
  unfold dEq at e
  split at e
  · rename_i b e1
    cases e
    have kk := k (.bl b) H (s.tail.tail.flat fun F => .bl b)
    rcases dEq_core s e1 with ⟨h1, h2⟩ | ⟨x, y, h1, h2, h3, h4, h5⟩
    · exact .inl ⟨h1, by rw [h2]; exact kk⟩
    · exact .inr ⟨x, y, h1, h2, h3, h4, by rw [h5]; exact kk⟩
  · cases e
theorem dNe_sem : Sem2 K (rN K) dNe := by
  intro H l p q res v w Q s e k
  unfold dNe at e
  split at e
  · rename_i b e1
    cases e
    have kk := k (.bl (!b)) H (s.tail.tail.flat fun F => .bl (!b))
    rcases dEq_core s e1 with ⟨h1, h2⟩ | ⟨x, y, h1, h2, h3, h4, h5⟩
    · exact .inl ⟨h1, by rw [h2]; exact kk⟩
    · exact .inr ⟨x, y, h1, h2, h3, h4, by rw [h5]; exact kk⟩
  · cases e
theorem op_eqQ {X : Cx} (hu : X.A.units + 64 < cLine) : OpR X (compareOp .Eq) (rE X.K) := op_eq.or (op_eqD hu)
theorem op_neQ {X : Cx} (hu : X.A.units + 64 < cLine) : OpR X (compareOp .NotEq) (rN X.K) := op_ne.or (op_neD hu)
end

/-! ### isinstance of built-in classes -/
def tyName : PV → Option String
  | .fr .non => some "NoneType"
  | .fr (.bl _) => some "bool"
  | .fr (.int _) => some "int"
  | .fr (.str _) => some "str"
  | .fr (.tup _) => some "tuple"
  | .fr (.lst _) => some "list"
  | .fr (.dK _) => some "dict"
  | .fr (.dT _) => some "dict"
  | .oL _ => some "list"
  | .oN _ => some "list"
  | .oK _ => some "dict"
  | .oT _ => some "dict"
  | _ => none
theorem ty_lst {K : PySem.W.Frag} {H : Hp} {a : Addr} {vs : List V} (h : SqL K H a vs) : TyX K H (.ref a) (.type "list") := by
  rcases h with (h | ⟨o, h⟩) | ⟨o, its, n, h, hc, _⟩
  · exact .base (.lst h)
  · exact .base (.frz h)
  · exact .kList h hc
theorem ty_tup {K : PySem.W.Frag} {H : Hp} {a : Addr} {vs : List V} (h : SqT K H a vs) : TyX K H (.ref a) (.type "tuple") := by
  rcases h with (h | ⟨o, h⟩) | ⟨o, its, n, h, hc, _⟩
  · exact .base (.tup h)
  · exact .fTuple h
  · exact .kTuple h hc
theorem St.ty {K : PySem.W.Frag} {H : Hp} {l : List Pr} {p : PV} {v : V} {t : String} (s : St K H ((p, v) :: l)) (h : tyName p = some t) (hd : ∀ kvs, p ≠ .fr (.dT kvs)) : TyX K H v (.type t) := by
  obtain ⟨F, as, e, r, n⟩ := s
  cases r with
  | cons h1 h2 =>
    cases h1 with
    | fr q =>
      cases q with
      | non => cases h; exact .base .non
      | bl b => cases h; exact .base (.bl b)
      | int b => cases h; exact .base (.int b)
      | str b => cases h; exact .base (.str b)
      | ty n => cases h
      | glo n => cases h
      | tup q r => cases h; exact ty_tup (sqT_mono e q)
      | lst q r => cases h; exact ty_lst (e.seq q)
      | dK q r =>
        cases h
        rcases rd_mono e q with q | ⟨o, q⟩
        · exact .base (.dK q)
        · exact .fDict q
      | dT q r => exact absurd rfl (hd _)
      | ins q r => cases h
    | oL h0 h1 h2 => cases h; exact .base (.lst h1)
    | oN h0 h1 h2 => cases h; exact .base (.lst h1)
    | oK h0 h1 h2 => cases h; exact .base (.dK h1)
    | oT h0 h1 h2 => cases h; exact .base (.dT h1)
    | oI h0 h1 h2 => cases h
/-- is it of the class c: tb tells it of the built-in names -/
def hIs (c : String) (tb : String → Bool) : List PV → Option PV
  | [p, .fr (.ty c')] => if c' = c then (match p with
    | .fr (.dT _) => none
    | p => (match tyName p with | some t => some (.fr (.bl (tb t))) | none => none)) else none
  | _ => none
def tyNames : List String := ["NoneType", "bool", "int", "str", "tuple", "list", "dict"]
theorem tyName_mem {p : PV} {t : String} (h : tyName p = some t) : t ∈ tyNames := by
  unfold tyName at h
  split at h <;> cases h <;> decide
theorem hIs_sem {K : PySem.W.Frag} {c : String} {tb : String → Bool} (hk : ∀ t ∈ tyNames, kitB t c = some (tb t)) : SemN K (rIsi K) (hIs c tb) := by
  intro H l ps res vs Q hl s e k
  unfold hIs at e
  split at e
  · rename_i p c'
    split at e
    · rename_i hc
      subst hc
      obtain ⟨v, w, rfl⟩ := two_vs (K := K) (H := H) (l := l) hl
      have s1 : St K H ((p, v) :: (.fr (.ty c'), w) :: l) := s
      have hw : w = .ty c' := by
        obtain ⟨F, as, e, r, n⟩ := s1.tail
        cases r with
        | cons h1 h2 => cases h1 with | fr q => cases q; rfl
      subst hw
      split at e
      · cases e
      · rename_i hd
        split at e
        · rename_i t e1
          cases e
          exact ⟨v, .ty c', _, _, tb t, rfl, .ty c', s1.ty e1 fun kvs z => hd kvs z, kit_ty (hk t (tyName_mem e1)), k _ H (s1.tail.tail.flat fun F => .bl _)⟩
        · cases e
    · cases e
  · cases e
def tbInt (t : String) : Bool := t == "int" || t == "bool"
def tbOne (c t : String) : Bool := t == c
theorem kInt : ∀ t ∈ tyNames, kitB t "int" = some (tbInt t) := by
  intro t ht
  simp only [tyNames, List.mem_cons, List.not_mem_nil, or_false] at ht
  rcases ht with rfl | rfl | rfl | rfl | rfl | rfl | rfl <;> decide +kernel
theorem kBool : ∀ t ∈ tyNames, kitB t "bool" = some (tbOne "bool" t) := by
  intro t ht
  simp only [tyNames, List.mem_cons, List.not_mem_nil, or_false] at ht
  rcases ht with rfl | rfl | rfl | rfl | rfl | rfl | rfl <;> decide +kernel
theorem kStr : ∀ t ∈ tyNames, kitB t "str" = some (tbOne "str" t) := by
  intro t ht
  simp only [tyNames, List.mem_cons, List.not_mem_nil, or_false] at ht
  rcases ht with rfl | rfl | rfl | rfl | rfl | rfl | rfl <;> decide +kernel
theorem kList : ∀ t ∈ tyNames, kitB t "list" = some (tbOne "list" t) := by
  intro t ht
  simp only [tyNames, List.mem_cons, List.not_mem_nil, or_false] at ht
  rcases ht with rfl | rfl | rfl | rfl | rfl | rfl | rfl <;> decide +kernel
theorem kTuple : ∀ t ∈ tyNames, kitB t "tuple" = some (tbOne "tuple" t) := by
  intro t ht
  simp only [tyNames, List.mem_cons, List.not_mem_nil, or_false] at ht
  rcases ht with rfl | rfl | rfl | rfl | rfl | rfl | rfl <;> decide +kernel

section
variable {X : Cx} {W : WX} {B : List Nat} {e a b o : Expr} {es : List Expr} {f g : Sl → Out PV} {fa : Sl → Out (List Arg)} {pos p apos : Pos}
/-! ### slices -/
structure QO (X : Cx) (W : WX) (e : Option Expr) (f : Sl → Out (Option Int)) : Prop where
  ex : ∃ t, PO X e t ∧ ∀ σ H ρ τ Q, Ok X.K H ρ σ τ → (match f ρ with
    | .ok i ρ' => ∀ H', Ok X.K H' ρ' σ τ → Q i H'
    | .exc x ρ' => WOk X.K W x ρ' σ τ
    | .bad => False) → t σ H Q
def oNone : Sl → Out (Option Int) := fun ρ => .ok none ρ
def oSome (f : Sl → Out PV) : Sl → Out (Option Int) := fun ρ => match f ρ with
  | .ok (.fr (.int i)) ρ1 => .ok (some i) ρ1
  | .exc x ρ1 => .exc x ρ1
  | _ => .bad
theorem qo_none : QO X W none oNone := ⟨_, po_none, fun σ H ρ τ Q I hq => hq H I⟩
theorem qo_some (he : QE X W e f) : QO X W (some e) (oSome f) := by
  obtain ⟨te, pe, se⟩ := he.ex
  refine ⟨_, po_some pe, fun σ H ρ τ Q I hq => ?_⟩
  refine se σ H ρ τ _ I ?_
  unfold oSome at hq
  split at hq
  · rename_i i ρ1 e1
    split at e1
    · rename_i j ρ2 e2
      cases e1
      rw [e2]
      intro v H1 I1
      exact ⟨_, (Ok.st1 I1).val_int, hq H1 I1.tail⟩
    · cases e1
    · cases e1
  · rename_i x ρ1 e1
    split at e1
    · cases e1
    · rename_i x2 ρ2 e2
      cases e1
      rw [e2]
      exact hq
    · cases e1
  · exact hq.elim
def cutD (xs : List D) (lo hi : Option Int) : List D := (xs.drop (HT.sIx xs.length 0 lo)).take (HT.sIx xs.length xs.length hi - HT.sIx xs.length 0 lo)
/-- xs[lo:hi] of a list; of a tuple that is not the whole -/
def eSl (f : Sl → Out PV) (fl fh : Sl → Out (Option Int)) : Sl → Out PV := fun ρ => (f ρ).bind fun p ρ1 => (fl ρ1).bind fun lo ρ2 => (fh ρ2).bind fun hi ρ3 => match lstOf p with
  | some xs => .ok (.oL (cutD xs lo hi)) ρ3
  | none => (match tupOf p with
    | some xs => if HT.sIx xs.length 0 lo = 0 ∧ HT.sIx xs.length xs.length hi = xs.length then .bad else .ok (.fr (.tup (cutD xs lo hi))) ρ3
    | none => .bad)
theorem frs_cut {K : PySem.W.Frag} {H : Hp} {l : List Pr} {xs : List D} {vs : List V} {lo hi : Option Int} (hl : xs.length = vs.length) (s : St K H (frs xs vs ++ l)) : (cutD xs lo hi).length = (cutV vs lo hi).length ∧ St K H (frs (cutD xs lo hi) (cutV vs lo hi) ++ l) := by
  obtain ⟨F, as, e, r, n⟩ := s
  obtain ⟨r1, r2⟩ := RA.of_frs hl r
  have r3 : RL K F (cutD xs lo hi) (cutV vs lo hi) := by
    unfold cutD cutV
    rw [hl]
    exact (r1.drop _).take _
  exact ⟨r3.length, F, as, e, .frs r3 r2, n⟩
theorem qe_slice {lo hi : Option Expr} {p2 : Pos} {fl fh : Sl → Out (Option Int)} (he : QE X W e f) (hlo : QO X W lo fl) (hhi : QO X W hi fh) : QE X W (.Subscript e (.Slice lo hi none p2) pos) (eSl f fl fh) := by
  obtain ⟨te, pe, se⟩ := he.ex
  obtain ⟨tl, pl, sl⟩ := hlo.ex
  obtain ⟨th, ph, sh⟩ := hhi.ex
  refine ⟨_, pe_slice (sl_list.or sl_tup) pe pl ph, fun σ H ρ τ Q I hq => ?_⟩
  refine se σ H ρ τ _ I ?_
  unfold eSl at hq
  cases e1 : f ρ with
  | ok q ρ1 =>
    rw [e1] at hq
    intro v H1 I1
    refine sl σ H1 ρ1 _ _ I1 ?_
    dsimp only [Out.bind] at hq
    cases e2 : fl ρ1 with
    | ok i ρ2 =>
      rw [e2] at hq
      intro H2 I2
      refine sh σ H2 ρ2 _ _ I2 ?_
      dsimp only [Out.bind] at hq
      cases e3 : fh ρ2 with
      | ok j ρ3 =>
        rw [e3] at hq
        intro H3 I3
        dsimp only [Out.bind] at hq
        split at hq
        · rename_i xs e4
          obtain ⟨a, vs, rfl, hs, hl, s2⟩ := (Ok.st1 I3).seqL e4
          refine .inl ⟨a, vs, rfl, hs, fun r hn => hq _ _ ?_⟩
          obtain ⟨h1, s3⟩ := frs_cut (lo := i) (hi := j) hl ((s2.perm List.perm_middle).tail)
          exact I3.fit1 (St.newL h1 hn s3)
        · split at hq
          · rename_i xs e4
            split at hq
            · exact hq.elim
            · rename_i hw
              obtain ⟨a, vs, rfl, hs, hl, s2⟩ := (Ok.st1 I3).seqT e4
              refine .inr ⟨a, vs, rfl, hs, by rw [← hl]; exact hw, fun r hn => hq _ _ ?_⟩
              obtain ⟨h1, s3⟩ := frs_cut (lo := i) (hi := j) hl ((s2.perm List.perm_middle).tail)
              exact I3.fit1 (St.newT h1 hn s3)
          · exact hq.elim
      | exc x ρ3 => rw [e3] at hq; exact WOk.strip hq
      | bad => rw [e3] at hq; exact hq.elim
    | exc x ρ2 => rw [e2] at hq; exact WOk.strip hq
    | bad => rw [e2] at hq; exact hq.elim
  | exc x ρ1 => rw [e1] at hq; exact hq
  | bad => rw [e1] at hq; exact hq.elim

/-! ### name op= e -/
def sAug (i : Nat) (h : PV → PV → Option PV) (f : Sl → Out PV) : Sl → SO := fun ρ => match ρ[i]? with
  | some (some (.fr d)) => ofE (f ρ) fun q ρ1 => (match h (.fr d) q with
    | some r => if i < ρ1.length then .nx (ρ1.set i (some r)) else .bad
    | none => .bad)
  | _ => .bad
theorem qs_aug {i : Nat} {x : Str} {op : Operator} {r : R2} {h : PV → PV → Option PV} {pos' : Pos} (ho : OpR X (inplaceOp op) r) (sem : Sem2 X.K r h) (hB : i ∉ B) (hN : X.N.Nodup) (hi : X.N[i]? = some x) (hx : Loc X.env.scope x) (he : QE X W e f) (hf : X.fn x = true ∨ X.env.scope.names.lookup x = some .local := by first | exact .inl rfl | exact .inr rfl | assumption) :
    QS X W B (.AugAssign (.Name x pos') op e pos) (sAug i h f) := by
  obtain ⟨t, p, s⟩ := he.ex
  refine ⟨_, ps_aug (ti := r) hN hi hx p ho hf, fun σ H ρ τ D I hq => ?_⟩
  unfold sAug at hq
  split at hq
  · rename_i d e0
    obtain ⟨v, ev, J⟩ := I.get e0
    have hl : i < ρ.length := (List.getElem?_eq_some_iff.mp e0).1
    have J1 : Ok X.K H ρ σ ((.fr d, v) :: τ) := by
      have J2 : Ok X.K H (ρ.set i none) σ ((.fr d, v) :: (.fr d, v) :: τ) := J.map fun l s => s.dup
      have J3 := J2.back (by simpa using hl) ev
      rw [List.set_set] at J3
      have e2 : ρ.set i (some (.fr d)) = ρ := by
        apply List.ext_getElem?
        intro j
        by_cases hj : i = j
        · subst hj; rw [e0, List.getElem?_set_self hl]
        · rw [List.getElem?_set_ne hj]
      rw [e2] at J3
      exact J3
    refine ⟨v, ev, ?_⟩
    refine s σ H ρ _ _ J1 ?_
    cases e1 : f ρ with
    | ok q ρ1 =>
      rw [e1] at hq
      intro w H1 I1
      dsimp only [ofE] at hq
      split at hq
      · rename_i res e2
        split at hq
        · rename_i hl2
          refine sem H1 (prs ρ1 σ ++ τ) (.fr d) q res v w _ (Ok.st (l := [(q, w), (.fr d, v)]) I1) e2 fun u H' s' => ?_
          exact hq _ H' (Bor.set hB) ((I1.fit1 (x := (res, u)) (τ' := τ) s').put hl2)
        · exact hq.elim
      · exact hq.elim
    | exc x ρ1 => rw [e1] at hq; exact WOk.strip (ex_bor hq)
    | bad => rw [e1] at hq; exact hq.elim
  · exact hq.elim
theorem iop_addQ : OpR X (inplaceOp .Add) (rI0 fun i j => .int (i + j)) := iop_add
theorem iop_subQ : OpR X (inplaceOp .Sub) (rI0 fun i j => .int (i - j)) := iop_sub
theorem sAddI {K : PySem.W.Frag} : Sem2 K (rI0 fun i j => .int (i + j)) (hI0 fun i j => .int (i + j)) := hI0_sem fun F i j => .int _
theorem sSubI {K : PySem.W.Frag} : Sem2 K (rI0 fun i j => .int (i - j)) (hI0 fun i j => .int (i - j)) := hI0_sem fun F i j => .int _

/-! ### xs.append(e), xs an owned list in slot i -/
def sApp (i : Nat) (f : Sl → Out PV) : Sl → SO := fun ρ => match ρ[i]? with
  | some (some (.oL _)) => ofE (f ρ) fun q ρ1 => (match ρ1[i]? with
    | some (some (.oL xs)) => if xs.length < 16777216 then .nx (ρ1.set i (some (.oL (xs ++ [q.fz])))) else .bad
    | _ => .bad)
  | _ => .bad
theorem qs_append {i : Nat} (ho : PE X o (tVar i)) (he : QE X W e f)
    (hb : attributeBase o "append" X.env (eval o X.env) = eval o X.env := by rfl) (hline : (apos.endLine == p.line) = true := by rfl)
    (hs : swapsWith (.Call (.Attribute o "append" apos) [e] [] p) none pos.line X.env = pure false := by rfl)
    (pe : ∀ {te : TE}, PE X e te → PE X (.Call (.Attribute o "append" apos) [e] [] p) (tBM X.K "list" rAppend (tVar i) (tCons te tNil))) :
    QS X W B (.Expr (.Call (.Attribute o "append" apos) [e] [] p) pos) (sApp i f) := by
  obtain ⟨te, p1, se⟩ := he.ex
  refine ⟨_, ps_expr (pe p1) hs, fun σ H ρ τ D I hq => ?_⟩
  unfold sApp at hq
  split at hq
  · rename_i xs0 e0
    obtain ⟨v, ev, J⟩ := I.get e0
    obtain ⟨a, vs0, rfl, hH0, _, _⟩ := (Ok.st1 J).rdO
    refine ⟨.ref a, ev, .inl ⟨rfl, _, .inl (.inl hH0)⟩, ?_⟩
    refine se σ H ρ τ _ I ?_
    cases e1 : f ρ with
    | ok q ρ1 =>
      rw [e1] at hq
      intro w H1 I1
      dsimp only [ofE] at hq
      split at hq
      · rename_i xs e2
        split at hq
        · rename_i hz
          have I2 : Ok X.K H1 ρ1 σ ((.fr q.fz, w) :: τ) := Ok.map (τ := (q, w) :: τ) (fun l s => St.freeze s) I1
          obtain ⟨v', ev', J2⟩ := I2.get e2
          rw [ev] at ev'
          cases ev'
          obtain ⟨a', vs, ea, hH, hl, s3⟩ := (Ok.st1 J2).rdO
          cases ea
          refine ⟨a, vs, w, rfl, rfl, hH, by rw [← hl, sizeLine_eq]; exact hz, ?_⟩
          refine hq σ _ Bor.refl ?_
          have hi : i < ρ1.length := (List.getElem?_eq_some_iff.mp e2).1
          have J3 : Ok X.K (upd H1 a (.lst (vs ++ [w]))) (ρ1.set i none) σ ((.oL (xs ++ [q.fz]), .ref a) :: τ) := by
            refine J2.fit1 (St.wrO (ds := xs) (es := xs ++ [q.fz]) (by simp [hl]) ?_)
            rw [frs_append hl, List.append_assoc]
            have s4 : St X.K H1 (frs xs vs ++ ((.oL xs, .ref a) :: (.fr q.fz, w) :: (prs (ρ1.set i none) σ ++ τ))) := s3.perm (List.Perm.append_left _ (List.Perm.cons _ List.perm_middle))
            exact s4.perm (List.Perm.append_left _ (.swap _ _ _))
          have J4 := J3.back (by simpa using hi) ev
          rw [List.set_set] at J4
          exact J4
        · exact hq.elim
      · exact hq.elim
    | exc x ρ1 => rw [e1] at hq; exact ex_bor hq
    | bad => rw [e1] at hq; exact hq.elim
  · exact hq.elim

/-! ### xs[j] = e, xs an owned list in slot i -/
def sSetI (i : Nat) (f g : Sl → Out PV) : Sl → SO := fun ρ => ofE (f ρ) fun q ρ1 => (match ρ1[i]? with
  | some (some (.oL _)) => ofE (g ρ1) fun j ρ2 => (match ρ2[i]?, j with
    | some (some (.oL xs)), .fr (.int k) => (match ixN xs.length k with
      | some m => .nx (ρ2.set i (some (.oL (xs.set m q.fz))))
      | none => .bad)
    | _, _ => .bad)
  | _ => .bad)
theorem frs_set {K : PySem.W.Frag} {H : Hp} {l : List Pr} {xs : List D} {vs : List V} {d : D} {w : V} {m : Nat} (hl : xs.length = vs.length) (s : St K H (frs xs vs ++ ((.fr d, w) :: l))) : St K H (frs (xs.set m d) (vs.set m w) ++ l) := by
  obtain ⟨F, as, e, r, n⟩ := s
  obtain ⟨r1, r2⟩ := RA.of_frs hl r
  cases r2 with
  | cons h1 h2 =>
    cases h1 with
    | fr h => exact ⟨F, _, e, .frs (r1.set h m) h2, by simpa using n⟩
theorem qs_setitem {i : Nat} {tpos : Pos} (ho : PE X o (tVar i)) (hj : QE X W b g) (he : QE X W e f)
    (ha : ∀ v, assign (.Subscript o b tpos) X.env v = (do
      let ov ← holding [v] (eval o X.env)
      let iv ← holding [v, ov] (eval b X.env)
      standAt tpos
      holding [v, ov, iv] (setItem ov iv v)
      release [v, ov, iv] []) := by intro _; rfl)
    (hs : swapsWithSole [.Subscript o b tpos] e pos.line X.env = pure false := by rfl) (hw : swappedStores [.Subscript o b tpos] e X.env = pure none := by rfl)
    (h1 : (assignEach [.Subscript o b tpos] X.env).map (·.2) = [assign (.Subscript o b tpos) X.env] := by rfl) :
    QS X W B (.Assign [.Subscript o b tpos] e pos) (sSetI i f g) := by
  obtain ⟨te, p1, se⟩ := he.ex
  obtain ⟨tj, p2, sj⟩ := hj.ex
  refine ⟨_, ps_asg p1 (pg_sub ho p2 set_list ha) hs hw h1, fun σ H ρ τ D I hq => ?_⟩
  refine se σ H ρ τ _ I ?_
  unfold sSetI at hq
  cases e1 : f ρ with
  | ok q ρ1 =>
    rw [e1] at hq
    intro w H1 I1
    dsimp only [ofE] at hq
    split at hq
    · rename_i xs0 e2
      obtain ⟨v, ev, J⟩ := I1.get e2
      obtain ⟨a, vs0, rfl, hH0, _, _⟩ := (Ok.st1 J).rdO
      refine ⟨.ref a, ev, ?_⟩
      have I1' : Ok X.K H1 ρ1 σ ((.fr q.fz, w) :: τ) := Ok.map (τ := (q, w) :: τ) (fun l s => St.freeze s) I1
      refine sj σ H1 ρ1 _ _ I1' ?_
      cases e3 : g ρ1 with
      | ok j ρ2 =>
        rw [e3] at hq
        intro jv H2 I2
        dsimp only at hq
        split at hq
        · rename_i xs k e4
          split at hq
          · rename_i m e5
            have ej := (Ok.st1 I2).val_int
            subst ej
            obtain ⟨v', ev', J2⟩ := (I2.tail).get e4
            rw [ev] at ev'
            cases ev'
            obtain ⟨a', vs, ea, hH, hl, s3⟩ := (Ok.st1 J2).rdO
            cases ea
            refine ⟨a, vs, k, m, rfl, rfl, hH, by rw [← hl]; exact e5, ?_⟩
            refine hq σ _ Bor.refl ?_
            have hi : i < ρ2.length := (List.getElem?_eq_some_iff.mp e4).1
            have J3 : Ok X.K (upd H2 a (.lst (vs.set m w))) (ρ2.set i none) σ ((.oL (xs.set m q.fz), .ref a) :: τ) := by
              refine J2.fit1 (St.wrO (ds := xs) (es := xs.set m q.fz) (by simp [hl]) ?_)
              refine frs_set hl ?_
              have s4 : St X.K H2 (frs xs vs ++ ((.oL xs, .ref a) :: (.fr q.fz, w) :: (prs (ρ2.set i none) σ ++ τ))) := s3.perm (List.Perm.append_left _ (List.Perm.cons _ List.perm_middle))
              exact s4.perm (List.Perm.append_left _ (.swap _ _ _))
            have J4 := J3.back (by simpa using hi) ev
            rw [List.set_set] at J4
            exact J4
          · exact hq.elim
        · exact hq.elim
      | exc x ρ2 => rw [e3] at hq; exact WOk.strip (ex_bor hq)
      | bad => rw [e3] at hq; exact hq.elim
    · exact hq.elim
  | exc x ρ1 => rw [e1] at hq; exact ex_bor hq
  | bad => rw [e1] at hq; exact hq.elim

/-! ### raise of an own class without __init__ -/
def sRaise (C : Addr) : Sl → SO := fun ρ => .ex ⟨C, []⟩ ρ
theorem qs_raise {x m : Str} {j : Nat} {p2 : Pos} {C : Addr} (hc : X.calm = true) (tk : Takes X W) (q : PySem.W.excIn X.K C [.type "ValueError", .type "Exception", .type "BaseException", .type "object"] "ValueError.__new__" = true) (gC : X.mg x = some (.ref C)) (kC : PySem.W.keepIn X.K (.ref C) = true) (r : Raises X (.ref C)) (hg : Gl X x := by rfl)
    (hdb : (x == ("__debug__" : Str)) = false := by decide) : QS X W B (.Raise (some (.Call (.Name x p) [.Constant (.str m) j p2] [] apos)) none pos) (sRaise C) :=
  ⟨_, ps_raise hc tk (pmk_own PySem.F.excBase_ValueError q gC kC r hg hdb), fun σ H ρ τ D I h => h σ Bor.refl none H [] ⟨rfl, .inl ⟨rfl, rfl⟩⟩ I⟩
end
end Q

namespace Q
open PySem PySem.Spec PyProof.Rows L2

/-! ### chains of any length -/
def kLast (h : PV → PV → Option PV) (g : Sl → Out PV) : PV → Sl → Out PV := fun p ρ => (g ρ).bind fun q ρ2 => match h p q with
  | some r => .ok r ρ2
  | none => .bad
def kLink (h : PV → PV → Option PV) (g : Sl → Out PV) (k : PV → Sl → Out PV) : PV → Sl → Out PV := fun p ρ => (g ρ).bind fun q ρ2 => match h p (.fr q.fz) with
  | some (.fr (.bl true)) => k (.fr q.fz) ρ2
  | some (.fr (.bl false)) => .ok (.fr (.bl false)) ρ2
  | _ => .bad
def eChn (f : Sl → Out PV) (k : PV → Sl → Out PV) : Sl → Out PV := fun ρ => (f ρ).bind fun p ρ1 => k p ρ1
structure QCt (X : Cx) (W : WX) (pos : Pos) (ops : List CmpOp) (es : List Expr) (k : PV → Sl → Out PV) : Prop where
  run : ∀ pins s σ H ρ τ p v u Q, Inv X pins σ H s → RelV v u → Ok X.K H ρ σ ((p, v) :: τ) → EPost X W (k p ρ) σ τ Q → wpAny (model X.prog X.w) X.A (compareChain pos u ops (evalEach es X.env)) (EP X pins σ Q) X.xe s
  tst : ∀ pins s σ H ρ τ p v u (Q : Bool → Hp → Prop), Inv X pins σ H s → RelV v u → Ok X.K H ρ σ ((p, v) :: τ) → TPost X W (tB1 (k p) ρ) σ τ Q → wpAny (model X.prog X.w) X.A (testChain pos u ops (evalEach es X.env)) (TP X pins σ Q) X.xe s
section
variable {X : Cx} {W : WX} {e a b : Expr} {es : List Expr} {f g : Sl → Out PV} {k : PV → Sl → Out PV} {pos : Pos} {op op' : CmpOp} {ops : List CmpOp} {r : R2} {h : PV → PV → Option PV}
theorem qc_last (ho : OpR X (compareOp op) r) (sem : Sem2 X.K r h) (hb : QE X W e g) : QCt X W pos [op] [e] (kLast h g) := by
  obtain ⟨tb, pb, sb⟩ := hb.ex
  have core : ∀ pins s σ H ρ τ p v u (Q : VK), Inv X pins σ H s → RelV v u → Ok X.K H ρ σ ((p, v) :: τ) → EPost X W (kLast h g p ρ) σ τ Q →
      wpAny (model X.prog X.w) X.A (eval e X.env) (fun b s₁ => wpAny (model X.prog X.w) X.A (compareOp op u b) (EP X pins σ Q) X.xe s₁) X.xe s := by
    intro pins s σ H ρ τ p v u Q I rv ok hq
    refine thn (pb.run pins s σ H (fun w H1 => r v w H1 Q) I (sb σ H ρ _ _ ok ?_)) fun b s1 ⟨w, H1, I1, r1, q1⟩ => ho pins s1 σ H1 v w u b Q I1 rv r1 q1
    unfold kLast at hq
    cases e1 : g ρ with
    | ok q ρ1 =>
      rw [e1] at hq
      intro w H1 ok1
      dsimp only [Out.bind] at hq
      cases e2 : h p q with
      | some res =>
        rw [e2] at hq
        exact sem H1 (prs ρ1 σ ++ τ) p q res v w Q (Ok.st (l := [(q, w), (p, v)]) ok1) e2 fun x H' s => hq x H' (ok1.fit1 s)
      | none => rw [e2] at hq; exact hq.elim
    | exc x ρ1 => rw [e1] at hq; exact WOk.strip hq
    | bad => rw [e1] at hq; exact hq.elim
  refine ⟨fun pins s σ H ρ τ p v u Q I rv ok hq => chain_last (core pins s σ H ρ τ p v u Q I rv ok hq), fun pins s σ H ρ τ p v u Q I rv ok hq => ?_⟩
  refine test_last (thn (core pins s σ H ρ τ p v u (fun x H1 => ∃ c, x = .bl c ∧ Q c H1) I rv ok ?_) fun b s1 h1 => thn h1 fun c s2 ⟨x, H2, I2, r2, d, e2, q2⟩ => ?_)
  · unfold tB1 at hq
    split at hq
    · rename_i b ρ1 e1
      rw [e1]
      exact fun v' H1 ok1 => ⟨b, (Ok.st1 ok1).val_bl, hq H1 ok1.tail⟩
    · rename_i x ρ1 e1
      rw [e1]
      exact hq
    · exact hq.elim
  · subst e2
    cases r2
    exact wpAny_truthy_bool ⟨H2, I2, q2⟩
theorem kLink_core {tb : TE} (sb : ∀ σ H ρ τ Q, Ok X.K H ρ σ τ → EPost X W (g ρ) σ τ Q → tb σ H Q) (sem : Sem2 X.K r h) {σ : L2.St} {H : Hp} {ρ : Sl} {τ : List Pr} {p : PV} {v : V} {R : V → V → Hp → Prop}
    (ok : Ok X.K H ρ σ ((p, v) :: τ)) (hq : match g ρ with
      | .ok q ρ2 => (match h p (.fr q.fz) with
        | some (.fr (.bl true)) => ∀ w H2, Ok X.K H2 ρ2 σ ((.fr q.fz, w) :: τ) → R w (.bl true) H2
        | some (.fr (.bl false)) => ∀ w H2, Ok X.K H2 ρ2 σ τ → R w (.bl false) H2
        | _ => False)
      | .exc x ρ2 => WOk X.K W x ρ2 σ τ
      | .bad => False) : tb σ H fun w H1 => r v w H1 fun z H2 => ∃ c, z = .bl c ∧ R w (.bl c) H2 := by
  refine sb σ H ρ _ _ ok ?_
  cases e1 : g ρ with
  | ok q ρ2 =>
    rw [e1] at hq
    intro w H1 ok1
    dsimp only at hq
    have ok3 : Ok X.K H1 ρ2 σ ((.fr q.fz, w) :: (p, v) :: (.fr q.fz, w) :: τ) := (ok1.map (τ' := (.fr q.fz, w) :: (.fr q.fz, w) :: (p, v) :: τ) fun l s => s.freeze.dup).perm (.cons _ (.swap _ _ _))
    split at hq
    · rename_i e3
      refine sem H1 (prs ρ2 σ ++ ((.fr q.fz, w) :: τ)) p (.fr q.fz) _ v w _ (Ok.st (l := [(.fr q.fz, w), (p, v)]) ok3) e3 fun u H3 s => ?_
      have ok4 : Ok X.K H3 ρ2 σ ((.fr (.bl true), u) :: (.fr q.fz, w) :: τ) := ok3.fit1 s
      exact ⟨true, (Ok.st1 ok4).val_bl, hq w H3 ok4.tail⟩
    · rename_i e3
      refine sem H1 (prs ρ2 σ ++ ((.fr q.fz, w) :: τ)) p (.fr q.fz) _ v w _ (Ok.st (l := [(.fr q.fz, w), (p, v)]) ok3) e3 fun u H3 s => ?_
      have ok4 : Ok X.K H3 ρ2 σ ((.fr (.bl false), u) :: (.fr q.fz, w) :: τ) := ok3.fit1 s
      exact ⟨false, (Ok.st1 ok4).val_bl, hq w H3 ok4.tail.tail⟩
    · exact hq.elim
  | exc x ρ2 => rw [e1] at hq; exact WOk.strip hq
  | bad => rw [e1] at hq; exact hq.elim
theorem qc_link {e' : Expr} (ho : OpR X (compareOp op) r) (sem : Sem2 X.K r h) (hb : QE X W e g) (hk : QCt X W pos (op' :: ops) (e' :: es) k) : QCt X W pos (op :: op' :: ops) (e :: e' :: es) (kLink h g k) := by
  obtain ⟨tb, pb, sb⟩ := hb.ex
  refine ⟨fun pins s σ H ρ τ p v u Q I rv ok hq => ?_, fun pins s σ H ρ τ p v u Q I rv ok hq => ?_⟩
  · show wpAny _ _ (compareChain pos u (op :: op' :: ops) (eval e X.env :: eval e' X.env :: evalEach es X.env)) _ _ _
    have key := kLink_core (R := fun w z H2 => ∀ pins s2 b, Inv X pins σ H2 s2 → RelV w b → (if z = .bl true then wpAny (model X.prog X.w) X.A (compareChain pos b (op' :: ops) (evalEach (e' :: es) X.env)) (EP X pins σ Q) X.xe s2 else Q z H2)) (W := W) sb sem ok (by
      unfold kLink at hq
      cases e1 : g ρ with
      | ok q ρ2 =>
        rw [e1] at hq
        dsimp only [Out.bind] at hq ⊢
        split at hq
        · exact fun w H2 ok2 pins s2 b I2 rw' => by rw [if_pos rfl]; exact hk.run pins s2 σ H2 ρ2 τ _ w b Q I2 rw' ok2 hq
        · exact fun w H2 ok2 pins s2 b I2 rw' => by rw [if_neg (by intro z; cases z)]; exact hq _ H2 (ok2.map fun l s => s.flat fun F => .bl false)
        · exact hq.elim
      | exc x ρ2 => rw [e1] at hq; exact hq
      | bad => rw [e1] at hq; exact hq.elim)
    refine chain_link (thn (pb.run pins s σ H _ I key) fun b s1 ⟨w, H1, I1, r1, q1⟩ => thn (ho pins s1 σ H1 v w u b _ I1 rv r1 q1) fun c s2 ⟨z, H2, I2, r2, d, e2, q2⟩ => ?_)
    subst e2
    cases r2
    have q3 := q2 pins s2 b I2 r1
    refine wpAny_truthy_bool ?_
    cases d with
    | true => rw [if_pos rfl] at q3 ⊢; exact q3
    | false => rw [if_neg (by intro z; cases z)] at q3; rw [if_neg Bool.false_ne_true]; exact ⟨.bl false, H2, I2, rfl, q3⟩
  · show wpAny _ _ (testChain pos u (op :: op' :: ops) (eval e X.env :: eval e' X.env :: evalEach es X.env)) _ _ _
    have key := kLink_core (R := fun w z H2 => ∀ pins s2 b, Inv X pins σ H2 s2 → RelV w b → (if z = .bl true then wpAny (model X.prog X.w) X.A (testChain pos b (op' :: ops) (evalEach (e' :: es) X.env)) (TP X pins σ Q) X.xe s2 else Q false H2)) (W := W) sb sem ok (by
      unfold tB1 kLink at hq
      cases e1 : g ρ with
      | ok q ρ2 =>
        rw [e1] at hq
        dsimp only [Out.bind] at hq ⊢
        cases e2 : h p (.fr q.fz) with
        | none => rw [e2] at hq; exact hq.elim
        | some y =>
          rw [e2] at hq
          cases y with
          | fr d =>
            cases d with
            | bl d =>
              cases d with
              | true => exact fun w H2 ok2 pins s2 b I2 rw' => by rw [if_pos rfl]; exact hk.tst pins s2 σ H2 ρ2 τ _ w b Q I2 rw' ok2 hq
              | false => exact fun w H2 ok2 pins s2 b I2 rw' => by rw [if_neg (by intro z; cases z)]; exact hq H2 ok2
            | _ => exact hq.elim
          | _ => exact hq.elim
      | exc x ρ2 => rw [e1] at hq; exact hq
      | bad => rw [e1] at hq; exact hq.elim)
    refine test_link (thn (pb.run pins s σ H _ I key) fun b s1 ⟨w, H1, I1, r1, q1⟩ => thn (ho pins s1 σ H1 v w u b _ I1 rv r1 q1) fun c s2 ⟨z, H2, I2, r2, d, e2, q2⟩ => ?_)
    subst e2
    cases r2
    have q3 := q2 pins s2 b I2 r1
    refine wpAny_truthy_bool ?_
    cases d with
    | true => rw [if_pos rfl] at q3 ⊢; exact q3
    | false => rw [if_neg (by intro z; cases z)] at q3; rw [if_neg Bool.false_ne_true]; exact ⟨H2, I2, q3⟩
theorem qe_chn {l r₁ r₂ : Expr} {rs : List Expr} {op₁ op₂ : CmpOp} (ha : QE X W l f) (hk : QCt X W pos (op₁ :: op₂ :: ops) (r₁ :: r₂ :: rs) k) (hm : lastMarks (op₁ :: op₂ :: ops) (r₁ :: r₂ :: rs) = false := by with_unfolding_all rfl) : QE X W (.Compare l (op₁ :: op₂ :: ops) (r₁ :: r₂ :: rs) pos) (eChn f k) := by
  obtain ⟨ta, pa, sa⟩ := ha.ex
  refine ⟨fun σ H Q => ta σ H fun v H1 => ∃ ρ τ p, Ok X.K H1 ρ σ ((p, v) :: τ) ∧ EPost X W (k p ρ) σ τ Q, ⟨fun pins s σ H Q I hq => Compare_chain (thn (pa.run pins s σ H _ I hq) fun u s1 ⟨v, H1, I1, r1, ρ, τ, p, ok, q1⟩ => hk.run pins s1 σ H1 ρ τ p v u Q I1 r1 ok q1) hm⟩, fun σ H ρ τ Q I hq => ?_⟩
  refine sa σ H ρ τ _ I ?_
  unfold eChn at hq
  cases e1 : f ρ with
  | ok p ρ1 => rw [e1] at hq; exact fun v H1 ok => ⟨ρ1, τ, p, ok, hq⟩
  | exc x ρ1 => rw [e1] at hq; exact hq
  | bad => rw [e1] at hq; exact hq.elim
theorem qt_chn {l r₁ r₂ : Expr} {rs : List Expr} {op₁ op₂ : CmpOp} (ha : QE X W l f) (hk : QCt X W pos (op₁ :: op₂ :: ops) (r₁ :: r₂ :: rs) k) (hm : lastMarks (op₁ :: op₂ :: ops) (r₁ :: r₂ :: rs) = false := by with_unfolding_all rfl) : QT X W (.Compare l (op₁ :: op₂ :: ops) (r₁ :: r₂ :: rs) pos) (tB1 (eChn f k)) := by
  obtain ⟨ta, pa, sa⟩ := ha.ex
  refine ⟨fun σ H Q => ta σ H fun v H1 => ∃ ρ τ p, Ok X.K H1 ρ σ ((p, v) :: τ) ∧ TPost X W (tB1 (k p) ρ) σ τ Q, ⟨fun pins s σ H Q I hq => isTrue_chain (thn (pa.run pins s σ H _ I hq) fun u s1 ⟨v, H1, I1, r1, ρ, τ, p, ok, q1⟩ => hk.tst pins s1 σ H1 ρ τ p v u Q I1 r1 ok q1) hm⟩, fun σ H ρ τ Q I hq => ?_⟩
  refine sa σ H ρ τ _ I ?_
  unfold tB1 eChn at hq
  cases e1 : f ρ with
  | ok p ρ1 => rw [e1] at hq; exact fun v H1 ok => ⟨ρ1, τ, p, ok, hq⟩
  | exc x ρ1 => rw [e1] at hq; exact hq
  | bad => rw [e1] at hq; exact hq.elim

/-! ### list(range(..)) -/
def rgOk (a b : Int) : Bool := smallI a && smallI b && decide ((b - a).toNat ≤ 16777216)
theorem rgOk_ok {a b : Int} (h : rgOk a b = true) : RgOk a b := by
  unfold rgOk at h
  rw [Bool.and_eq_true, Bool.and_eq_true] at h
  obtain ⟨h1, h2⟩ := smallI_ok h.1.1
  obtain ⟨h3, h4⟩ := smallI_ok h.1.2
  have h5 := of_decide_eq_true h.2
  exact ⟨h1, h2, h3, h4, by simpa using h5⟩
def hRg2 : PV → PV → Option PV
  | .fr (.int a), .fr (.int b) => if rgOk a b = true then some (.oL (rangeD a (b - a).toNat)) else none
  | _, _ => none
theorem rangeD_eq : ∀ (lo : Int) (n : Nat), rangeD lo n = (List.range n).map fun i => D.int (lo + (i : Nat))
  | lo, 0 => rfl
  | lo, n + 1 => by
    rw [List.range_succ_eq_map, List.map_cons, List.map_map, rangeD, rangeD_eq (lo + 1) n]
    refine List.cons_eq_cons.mpr ⟨by simp, List.map_congr_left fun i _ => ?_⟩
    simp only [Function.comp, Nat.succ_eq_add_one]
    congr 1
    omega
theorem rg_new {K : PySem.W.Frag} {H : Hp} {l : List Pr} {a b : Int} {q : Addr} (hn : H q = none) (s : St K H l) : St K (upd H q (.lst (rgV a b))) ((.oL (rangeD a (b - a).toNat), .ref q) :: l) := by
  refine St.newL (by rw [rangeD_len, rgV_length]) hn ?_
  obtain ⟨F, as, e, r, n⟩ := s
  refine ⟨F, as, e, .frs ?_ r, n⟩
  rw [rangeD_eq]
  unfold rgV
  generalize List.range (b - a).toNat = is
  induction is with
  | nil => exact .nil
  | cons i is ih => exact .cons (.int _) ih
theorem qe_listRg2 {p pos2 p2 : Pos} (hc : X.calm = true) (hmL : X.mg "list" = none) (hm : X.mg "range" = none) (ha : QE X W a f) (hb : QE X W b g) (hgL : Gl X "list" := by rfl) (hg : Gl X "range" := by rfl) (na : starEach [a, b] X.env = (false, eval a X.env) :: starEach [b] X.env := by rfl)
    (nb : starEach [b] X.env = (false, eval b X.env) :: starEach [] X.env := by rfl) (hp : (backTo pos2 (starEach [b] X.env)).any (·.1) = false := by rfl)
    (nr : starEach [Expr.Call (.Name "range" p2) [a, b] [] pos2] X.env = (false, eval (Expr.Call (.Name "range" p2) [a, b] [] pos2) X.env) :: starEach [] X.env := by rfl) :
    QE X W (.Call (.Name "list" p) [.Call (.Name "range" p2) [a, b] [] pos2] [] pos) (e2 hRg2 f g) := by
  obtain ⟨ta, pa, sa⟩ := ha.ex
  obtain ⟨tb, pb, sb⟩ := hb.ex
  refine ⟨_, pe_listRg hc hgL hmL (prg_2 hg hm pa pb na nb hp) nr, ?_⟩
  have key := e2_post (X := X) (W := W) (f := f) (g := g) (h := hRg2) (r := fun x y H Q => ∃ i j, x = .int i ∧ y = .int j ∧ (RgOk i j ∧ ∀ q, H q = none → Q (.ref q) (upd H q (.lst (rgV i j))))) (fun H l p q res v w Q s e k => ?_) sa sb
  · exact key
  · unfold hRg2 at e
    split at e
    · rename_i a1 b1
      split at e
      · rename_i hr
        cases e
        have e1 := s.val_int
        have e2 := s.tail.val_int
        subst e1 e2
        exact ⟨a1, b1, rfl, rfl, rgOk_ok hr, fun q hn => k _ _ (rg_new hn s.tail.tail)⟩
      · cases e
    · cases e
end

/-! ### defs by name -/
def FQ (P : Program) (w : World) (K : PySem.W.Frag) (mg : Str → Option Value) (base : Heap) (k : Nat) (x : Str) (ps : List Str) (fl : List Bool) (den : List PV → FO) : Prop :=
  ∃ f fd, FnOk P w K mg base (L2.CX P w) k f fd ps (spOf K fl den) ∧ Binds K fd ps [] ∧ PySem.W.keepIn K (.ref f) = true ∧ mg x = some (.ref f)
section
variable {P : Program} {w : World} {K : PySem.W.Frag} {mg : Str → Option Value} {base : Heap}
theorem FQ.mk {x qual : Str} {params : Arguments} {body : List Stmt} {scope : Scope} {f : Addr} {N ps : List Str} {k : Nat} {fl : List Bool} {g : Sl → SO} {n : Nat} (hF : ∃ fd, FunD K x qual params body scope [] [] f fd) (hmg : mg x = some (.ref f)) (S : FnScope N ps scope) (hl : fl.length = ps.length) (hN : ps.length ≤ N.length) (hn : N.length = n)
    (hb : ∀ (kV doc pm : Value) (an : Option Addr) (cdv ct : Value) (us : List Value), us.length = ps.length → bindArgs (PySem.W.fnOf x qual params body scope .none kV doc pm an cdv ct) ⟨us, []⟩ = pure (ps.zip us))
    (hbody : ∀ (cdv : Value) (A : Around) (outer : List Env) (s : Shared) (H : Hp) (E : XK), Room k (A.deeper (envOfC qual scope s.heap.objs.size f cdv)) →
      QSs (cxOf (L2.CX P w) P w K mg base N qual scope f cdv A outer s H E) (fun cls d _ H => E cls d H) (borIx fl) body g) : FQ P w K mg base (k + 1) x ps fl (dnOf fl n g) := by
  obtain ⟨fd, F⟩ := hF
  subst hn
  exact ⟨f, fd, fn_q F S hl hN hbody, F.bindsN hb, F.kp, hmg⟩
end
section
variable {X : Cx} {W : WX} {e : Expr} {es : List Expr} {fa : Sl → Out (List Arg)} {pos p : Pos} {fl : List Bool} {den : List PV → FO}
theorem qe_callQ {k : Nat} {ps : List Str} {x : Str} (tk : Takes X W) (F : FQ X.prog X.w X.K X.mg X.base k x ps fl den) (hr : Room k X.A) (ha : QA X W (e :: es) fa) (hg : Gl X x := by rfl) (hdb : (x == ("__debug__" : Str)) = false := by decide) (he : starEach (e :: es) X.env = (false, eval e X.env) :: starEach es X.env := by rfl) (hpl : (backTo pos (starEach es X.env)).any (·.1) = false := by rfl) :
    QE X W (.Call (.Name x p) (e :: es) [] pos) (eCall fl den fa) := by
  obtain ⟨f, fd, h1, h2, h3, h4⟩ := F
  exact qe_call tk h1 hr h4 h3 h2 ha hg hdb he hpl
theorem qe_gint {x : Str} {i : Int} (hm : ∃ t, X.mg x = some (.int i t)) (hg : Gl X x := by rfl) (hd : (x == ("__debug__" : Str)) = false := by decide) : QE X W (.Name x pos) (eC (.int i)) := by
  obtain ⟨t, h⟩ := hm
  exact qe_c (pe_glob (v := .int i) hg h ⟨t, rfl⟩ hd) fun _ => .int i
theorem qe_bty {x : Str} {n : String} (hm : X.mg x = none) (hv : bootBuiltins x = some (.type n)) (hg : Gl X x := by rfl) (hn : x ≠ "__name__" := by decide) (hd : (x == ("__debug__" : Str)) = false := by decide) : QE X W (.Name x pos) (eC (.ty n)) :=
  qe_c (pe_bltn (v := .ty n) hg hm hv rfl hn hd) fun _ => .ty n
end
end Q
namespace Q
theorem notIn_not {n : Nat} {vs : List Nat} {i : Nat} (h : vs.contains i = true) : i ∉ notIn n vs := fun hm => by
  have h2 := (List.mem_filter.mp hm).2
  rw [h] at h2
  cases h2
end Q

namespace L2
open PySem PySem.Spec PyProof.Rows
section
variable {X : Cx} {pos : Pos}
/-- a, b, c = x, y, z with plain local names (after HandS.Base's ps_par) -/
def tPar3 (i j k : Nat) (ta : TA) : TS := fun D σ H => ta σ H fun vs H1 => ∃ v w u, vs = [v, w, u] ∧ D.nx (((σ.set i (some v)).set j (some w)).set k (some u)) H1
theorem ps_par3 {i j k : Nat} {x y z : Str} {a b c : Expr} {ta : TA} {px py pz pt : Pos} {kt k2 pt2} (hc : X.calm = true) (hN : X.N.Nodup) (hi : X.N[i]? = some x) (hj : X.N[j]? = some y) (hk : X.N[k]? = some z) (hij : i ≠ j) (hik : i ≠ k) (hjk : j ≠ k)
    (hx : X.env.scope.names.lookup x = some .local) (hy : X.env.scope.names.lookup y = some .local) (hz : X.env.scope.names.lookup z = some .local) (ha : PA X [a, b, c] ta)
    (hw : swappedStores [.Tuple [.Name x px, .Name y py, .Name z pz] kt pt] (.Tuple [a, b, c] k2 pt2) X.env = pure (some [x, y, z]))
    (hs : swapsWithSole [.Tuple [.Name x px, .Name y py, .Name z pz] kt pt] (.Tuple [a, b, c] k2 pt2) pos.line X.env = pure false := by rfl) :
    PS X (.Assign [.Tuple [.Name x px, .Name y py, .Name z pz] kt pt] (.Tuple [a, b, c] k2 pt2) pos) (tPar3 i j k ta) := by
  refine ⟨fun pins s σ H D I h => ?_⟩
  rw [exec_Assign_arm]
  refine wpAny_bind (wpAny_standAt ?_)
  rw [hs]
  refine wpAny_bind (wpAny_pure ?_)
  rw [if_neg (by decide)]
  refine wpAny_bind (Tuple_ (thn (ha.run _ pins s σ H _ I h) fun us s1 ⟨vs, H1, I1, r1, q1⟩ => ?_))
  obtain ⟨v, w, u, e1, q1⟩ := q1
  subst e1
  obtain ⟨u1, u2, u3, rfl, rv, rw', ru⟩ : ∃ u1 u2 u3, us = [u1, u2, u3] ∧ RelV v u1 ∧ RelV w u2 ∧ RelV u u3 := by
    cases r1 with
    | cons p q =>
      cases q with
      | cons p' q' =>
        cases q' with
        | cons p'' q'' =>
          cases q''
          exact ⟨_, _, _, rfl, p, p', p''⟩
  refine wpAny_newObj_type ?_ (by show 3 ≤ sizeLine; decide)
  have I2 : Inv X pins σ H1 { s1 with heap := s1.heap.push { cls := .type "tuple", data := .seq [u1, u2, u3].toArray } } := I1.kept (t' := s1.toks) fun b o e => Heap.get?_push_of_some _ e
  rw [hw]
  refine wpAny_bind (wpAny_pure ?_)
  show wpAny (model X.prog X.w) X.A (do rule "assign.swapped-stores"; let items ← unpackItems (.ref s1.heap.objs.size) 3 none; assignInOrder [fun v => bindName X.env z v, fun v => bindName X.env y v, fun v => bindName X.env x v] items.reverse; pure Flow.next) _ _ _
  refine wpAny_bind (wpAny_rule (wpAny_bind (unpackItems_tuple (items := #[u1, u2, u3]) (I.ok.hd hc) (IsTup.new s1.heap _) fun h' hx' => ?_)))
  have I3 := I2.kept (h' := h') (t' := s1.toks) fun b o e => hx' b o (Nat.ne_of_lt (Heap.lt_size e)) e
  show wpAny _ _ (assignInOrder [fun v => bindName X.env z v, fun v => bindName X.env y v, fun v => bindName X.env x v] [u3, u2, u1] >>= fun _ => pure Flow.next) _ _ _
  refine wpAny_bind (assignInOrder_cons (wpAny_bindName (store_ok I3 hN hk (.inl hz) ru (fun s2 I4 => ?_) (.inr hz))))
  refine assignInOrder_cons (wpAny_bindName (store_ok I4 hN hj (.inl hy) rw' (fun s3 I5 => ?_) (.inr hy)))
  refine assignInOrder_cons (wpAny_bindName (store_ok I5 hN hi (.inl hx) rv (fun s4 I6 => assignInOrder_nil (wpAny_pure ?_)) (.inr hx)))
  have e : ((σ.set k (some u)).set j (some w)).set i (some v) = ((σ.set i (some v)).set j (some w)).set k (some u) := by
    rw [List.set_comm _ _ (Ne.symm hij), List.set_comm _ _ (Ne.symm hik), List.set_comm _ _ (Ne.symm hjk)]
  rw [e] at I6
  exact ⟨_, H1, I6, q1⟩
end
end L2
namespace Q
open PySem PySem.Spec PyProof.Rows L2
section
variable {X : Cx} {W : WX} {B : List Nat} {fa : Sl → Out (List Arg)} {pos : Pos}
def g3 (i j k : Nat) : List PV → Sl → Option Sl := gCons (gN i) (gCons (gN j) (gCons (gN k) gNil))
theorem qs_par3 {i j k : Nat} {x y z : Str} {a b c : Expr} {px py pz pt : Pos} {kt k2 pt2} (hBi : i ∉ B) (hBj : j ∉ B) (hBk : k ∉ B) (hc : X.calm = true) (hN : X.N.Nodup) (hi : X.N[i]? = some x) (hj : X.N[j]? = some y) (hk : X.N[k]? = some z) (hij : i ≠ j) (hik : i ≠ k) (hjk : j ≠ k)
    (hx : X.env.scope.names.lookup x = some .local) (hy : X.env.scope.names.lookup y = some .local) (hz : X.env.scope.names.lookup z = some .local) (ha : QA X W [a, b, c] fa)
    (hw : swappedStores [.Tuple [.Name x px, .Name y py, .Name z pz] kt pt] (.Tuple [a, b, c] k2 pt2) X.env = pure (some [x, y, z]) := by rfl)
    (hs : swapsWithSole [.Tuple [.Name x px, .Name y py, .Name z pz] kt pt] (.Tuple [a, b, c] k2 pt2) pos.line X.env = pure false := by rfl) :
    QS X W B (.Assign [.Tuple [.Name x px, .Name y py, .Name z pz] kt pt] (.Tuple [a, b, c] k2 pt2) pos) (sPar fa (g3 i j k)) := by
  obtain ⟨ta, pa, sa⟩ := ha.ex
  refine ⟨_, ps_par3 hc hN hi hj hk hij hik hjk hx hy hz pa hw hs, fun σ H ρ τ D I h => ?_⟩
  refine sa σ H ρ τ _ I ?_
  unfold sPar at h
  cases e1 : fa ρ with
  | ok as ρ1 =>
    rw [e1] at h
    intro vs H1 af I1
    dsimp only at h
    split at h
    · rename_i ps e2
      obtain ⟨h1, h2⟩ := valsOf_zip e2 af
      rw [h2] at I1
      split at h
      · rename_i ρ2 e3
        match ps, vs, h1 with
        | [], _, _ => cases e3
        | [p1], _, _ =>
          unfold g3 gCons gN at e3
          dsimp only at e3
          split at e3 <;> cases e3
        | [p1, p2], _, _ =>
          unfold g3 gCons gN at e3
          dsimp only at e3
          split at e3
          · split at e3 <;> cases e3
          · cases e3
        | [p1, p2, p3], [v1, v2, v3], _ =>
          unfold g3 gCons gN gNil at e3
          dsimp only at e3
          by_cases l1 : i < ρ1.length
          · rw [if_pos l1] at e3
            dsimp only at e3
            by_cases l2 : j < (ρ1.set i (some p1)).length
            · rw [if_pos l2] at e3
              dsimp only at e3
              by_cases l3 : k < ((ρ1.set i (some p1)).set j (some p2)).length
              · rw [if_pos l3] at e3
                cases e3
                refine ⟨v1, v2, v3, rfl, ?_⟩
                have I2 : Ok X.K H1 ρ1 σ ((p1, v1) :: (p2, v2) :: (p3, v3) :: τ) := I1
                exact h _ H1 (((Bor.set hBi).trans (Bor.set hBj)).trans (Bor.set hBk)) (((I2.put l1).put l2).put l3)
              · rw [if_neg l3] at e3; cases e3
            · rw [if_neg l2] at e3; cases e3
          · rw [if_neg l1] at e3; cases e3
        | _ :: _ :: _ :: _ :: _, _, _ =>
          unfold g3 gCons gN gNil at e3
          dsimp only at e3
          split at e3
          · split at e3
            · split at e3 <;> cases e3
            · cases e3
          · cases e3
      · exact h.elim
    · exact h.elim
  | exc x ρ1 => rw [e1] at h; exact ex_bor h
  | bad => rw [e1] at h; exact h.elim
/-- a, .. = x, .. in general: the tuple is made and taken apart -/
theorem qs_parN {es ts : List Expr} {k kt : Nat} {pt pt2 : Pos} {g : List PV → Sl → Option Sl} (n : Nat) (hc : X.calm = true) (ha : QA X W es fa) (hg : QGs X B ts g) (hes : es.length = n := by rfl) (hn : (assignEach ts X.env).length = n := by rfl) (hst : (assignEach ts X.env).findIdx? (·.1) = none := by rfl)
    (hsm : n ≤ 1000 := by decide) (hpl : ∀ ρ as ρ', fa ρ = .ok as ρ' → as.length = n)
    (hs : swapsWithSole [.Tuple ts kt pt] (.Tuple es k pt2) pos.line X.env = pure false := by rfl) (hw : swappedStores [.Tuple ts kt pt] (.Tuple es k pt2) X.env = pure none := by rfl)
    (h1 : (assignEach [.Tuple ts kt pt] X.env).map (·.2) = [assign (.Tuple ts kt pt) X.env] := by rfl) : QS X W B (.Assign [.Tuple ts kt pt] (.Tuple es k pt2) pos) (sPar fa g) := by
  obtain ⟨ta, pa, sa⟩ := ha.ex
  obtain ⟨tg, pg, sg⟩ := hg.ex
  refine ⟨_, ps_asg (pe_tup pa) (pg_tup hc pg hn hst) hs hw h1, fun σ H ρ τ D I h => ?_⟩
  refine sa σ H ρ τ _ I ?_
  unfold sPar at h
  cases e1 : fa ρ with
  | ok as ρ1 =>
    have hlen := hpl ρ as ρ1 e1
    rw [e1] at h
    intro vs H1 af I1
    dsimp only at h
    split at h
    · rename_i ps e2
      obtain ⟨h1', h2⟩ := valsOf_zip e2 af
      rw [h2] at I1
      have hvl : vs.length = n := by rw [← hlen]; exact af.len.symm
      split at h
      · rename_i ρ2 e3
        refine ⟨by rw [sizeLine_eq]; omega, fun p hp => ?_⟩
        refine ⟨p, vs, rfl, .of upd_same, hvl, ?_⟩
        refine sg σ _ ρ1 τ ps vs ρ2 h1' ?_ e3 _ fun σ' b I2 => h σ' _ b I2
        exact I1.fit (l := ps.zip vs) (τ' := τ) (St.upd_new hp (Ok.st (l := ps.zip vs) I1))
      · exact h.elim
    · exact h.elim
  | exc x ρ1 => rw [e1] at h; exact ex_bor h
  | bad => rw [e1] at h; exact h.elim
end
theorem RLints {K : PySem.W.Frag} {F : Hp} : ∀ ns : List Int, RL K F (ns.map D.int) (ns.map V.int)
  | [] => .nil
  | _ :: ns => .cons (.int _) (RLints ns)
theorem aVal_len {f : Sl → Out PV} {r : Sl → Out (List Arg)} {n : Nat} (h : ∀ ρ as ρ', r ρ = .ok as ρ' → as.length = n) : ∀ ρ as ρ', aVal f r ρ = .ok as ρ' → as.length = n + 1 := by
  intro ρ as ρ' e
  unfold aVal at e
  cases e1 : f ρ with
  | ok p ρ1 =>
    rw [e1] at e
    dsimp only [Out.bind] at e
    cases e2 : r ρ1 with
    | ok bs ρ2 =>
      rw [e2] at e
      cases e
      exact congrArg (· + 1) (h _ _ _ e2)
    | exc x ρ2 => rw [e2] at e; cases e
    | bad => rw [e2] at e; cases e
  | exc x ρ1 => rw [e1] at e; cases e
  | bad => rw [e1] at e; cases e
theorem aNil_len : ∀ ρ as ρ', aNil ρ = .ok as ρ' → as.length = 0 := by
  intro ρ as ρ' e
  cases e
  rfl
end Q
namespace Q
open PySem PySem.Spec PyProof.Rows L2
theorem walk_ofEW {l : PySem.W.OpenLaw} {n k : Nat} {q : Program} {loose : List Str} {XP : (Str → Option Value) → Heap → Prop} {YP : World → Heap → Prop} {d : DefRec} {x : Str}
    (hn : l.most = some n) (hn2 : n ≤ sizeLine) (hdf : d.params.defaults = []) (hr : Room k callerA)
    (F : ∀ (w : World) (mg : Str → Option Value) (fa : Addr) (h : Heap), YP w h → h.Ns mainGlobals mg → mg d.name = some (.ref fa) →
      ∃ (K : PySem.W.Frag) (fd : FuncData) (sp : Sp), K.In h ∧ (∀ (s : Shared) (u : Value), BindsTo s fd ⟨[u], []⟩ [(x, u)]) ∧
        (∀ (H : Hp) (a : Addr) (ns : List Int), ns.length ≤ n → Only H → SqL K H a (ns.map V.int) → sp [.ref a] H (fun v _ => v = .bl true) fun _ _ _ => False) ∧
        ∀ base : Heap, K.In base → base.Ns mainGlobals mg → FnOk l.prog w K mg base (L2.CX l.prog w) k fa fd [x] sp) :
    PySem.W.WalkO q loose XP YP l.row.toRowW d [] (fun f vs => PySem.call f vs) := by
  refine Att.attach_call hn hdf fun w s₀ s₁ mg mb fa o pm cd doc a vs ns G Y ho hd hcd hmg hobj hints hlen hg => ?_
  obtain ⟨K, fd, sp, KX, hb, hsp, hF⟩ := F w mg fa _ Y G.T.g hmg
  refine law_call KX G.T.g G.T.b G.T.builtins G.T.nolimit hg hobj hints (Nat.le_trans hlen hn2) hr hF hb (fun H hO hS => hsp H a ns hlen hO hS) fun H e s' z => ?_
  obtain ⟨_, _, _, _, _, _, _, _, _, _, _, _, z⟩ := z
  exact z
/-- the law's own promise, from what its def hands back -/
theorem law_sp {K : PySem.W.Frag} {den : List PV → FO} {n : Nat} (hd : ∀ ns : List Int, ns.length ≤ n → ∃ bs, den [.fr (.lst (ns.map .int))] = .ret (.fr (.bl true)) bs) (H : Hp) (a : Addr) (ns : List Int) (hl : ns.length ≤ n) (hS : SqL K H a (ns.map V.int)) :
    spOf K [false] den [.ref a] H (fun v _ => v = .bl true) fun _ _ _ => False := by
  refine ⟨[.fr (.lst (ns.map .int))], [], rfl, rfl, ⟨H, [], fun _ _ e => e, .cons (as := []) (.fr (.lst hS (RLints ns))) .nil, by simp⟩, ?_⟩
  obtain ⟨bs, e⟩ := hd ns hl
  rw [e]
  exact fun v H s => s.val_bl
/-- of a law's def by name: its object, how it is bound -/
theorem FQ.law {P : Program} {w : World} {K : PySem.W.Frag} {mg : Str → Option Value} {k : Nat} {x y : Str} {fl : List Bool} {den : List PV → FO} {f : Addr} {fd : FuncData} {qual : Str} {params : Arguments} {body : List Stmt} {scope : Scope} {N : List Str} {g : Sl → SO} {n : Nat}
    (F : FunD K x qual params body scope [] [] f fd) (S : FnScope N [y] scope) (hl : fl.length = [y].length) (hN : [y].length ≤ N.length) (hn : N.length = n)
    (hbody : ∀ (base : Heap) (cdv : Value) (A : Around) (outer : List Env) (s : Shared) (H : Hp) (E : XK), Room k (A.deeper (envOfC qual scope s.heap.objs.size f cdv)) →
      QSs (cxOf (L2.CX P w) P w K mg base N qual scope f cdv A outer s H E) (fun cls d _ H => E cls d H) (borIx fl) body g) (base : Heap) : FnOk P w K mg base (L2.CX P w) (k + 1) f fd [y] (spOf K fl (dnOf fl n g)) := by
  subst hn
  exact fn_q F S hl hN (hbody base)
end Q
namespace Q
open PySem PySem.Spec PyProof.Rows L2
/-! ### a name's list, tuple read where it stands (no freezing) -/
def eIxV (i : Nat) (g : Sl → Out PV) : Sl → Out PV := fun ρ => (g ρ).bind fun q ρ1 => match ρ1[i]? with
  | some (some p) => (match dIx p q with | some r => .ok r ρ1 | none => .bad)
  | _ => .bad
def SemK (K : PySem.W.Frag) (r : R2) (h : PV → PV → Option PV) : Prop := ∀ (H : Hp) (l : List Pr) (p q res : PV) (v w : V) (Q : VK), St K H ((q, w) :: (p, v) :: l) → h p q = some res → (∀ u, St K H ((res, u) :: (p, v) :: l) → Q u H) → r v w H Q
theorem dIx_semK {K : PySem.W.Frag} : SemK K (fun x y H Q => rIxL K x y H Q ∨ rIxT K x y H Q) dIx := by
  intro H l p q res v w Q s e k
  unfold dIx at e
  split at e
  · rename_i x e1
    cases e
    unfold dIxL at e1
    split at e1
    · rename_i xs i e2
      obtain ⟨d, e3, rfl⟩ := Option.map_eq_some_iff.mp e1
      have ew := s.val_int
      subst ew
      obtain ⟨a, vs, rfl, hq, hl, s2⟩ := s.tail.seqL e2
      obtain ⟨u, e4, hm⟩ := atI_map hl e3
      exact .inl ⟨a, vs, i, u, rfl, rfl, hq, e4, k u (s2.get_frs hm)⟩
    · cases e1
  · unfold dIxT at e
    split at e
    · rename_i xs i e2 _
      obtain ⟨d, e3, rfl⟩ := Option.map_eq_some_iff.mp e
      have ew := s.val_int
      subst ew
      obtain ⟨a, vs, rfl, hq, hl, s2⟩ := s.tail.seqT e2
      obtain ⟨u, e4, hm⟩ := atI_map hl e3
      exact .inr ⟨a, vs, i, u, rfl, rfl, hq, e4, k u (s2.get_frs hm)⟩
    · cases e
theorem Ok.slot_back {K : PySem.W.Frag} {H : Hp} {ρ : Sl} {σ : L2.St} {τ : List Pr} {i : Nat} {p : PV} {v : V} (e : ρ[i]? = some (some p)) (ev : σ[i]? = some (some v)) (J : Ok K H (ρ.set i none) σ ((p, v) :: τ)) : Ok K H ρ σ τ := by
  have hl : i < ρ.length := (List.getElem?_eq_some_iff.mp e).1
  have J3 := J.back (by simpa using hl) ev
  rw [List.set_set] at J3
  have e2 : ρ.set i (some p) = ρ := by
    apply List.ext_getElem?
    intro j
    by_cases hj : i = j
    · subst hj; rw [e, List.getElem?_set_self hl]
    · rw [List.getElem?_set_ne hj]
  rw [e2] at J3
  exact J3
section
variable {X : Cx} {W : WX} {e a b : Expr} {es : List Expr} {f g : Sl → Out PV} {pos p : Pos}
def eIxN (i : Nat) (g : Sl → Out PV) : Sl → Out PV := fun ρ => match ρ[i]? with | some (some _) => eIxV i g ρ | _ => .bad
theorem qe_idxN {i : Nat} (ha : PE X a (tVar i)) (hb : QE X W b g) (hs : PlainIx b := by intro _ _; rfl) : QE X W (.Subscript a b pos) (eIxN i g) := by
  obtain ⟨tb, pb, sb⟩ := hb.ex
  refine ⟨_, pe_ix ix_lt ha pb hs, fun σ H ρ τ Q I hq => ?_⟩
  unfold eIxN at hq
  split at hq
  · rename_i p0 e0
    obtain ⟨v, ev, _⟩ := I.get e0
    refine ⟨v, ev, ?_⟩
    refine sb σ H ρ τ _ I ?_
    unfold eIxV at hq
    cases e1 : g ρ with
    | ok q ρ1 =>
      rw [e1] at hq
      intro w H1 I1
      dsimp only [Out.bind] at hq
      split at hq
      · rename_i p1 e2
        obtain ⟨v', ev', J⟩ := I1.get e2
        rw [ev] at ev'
        cases ev'
        cases e3 : dIx p1 q with
        | some res =>
          rw [e3] at hq
          refine dIx_semK H1 (prs (ρ1.set i none) σ ++ τ) p1 q res v w Q (Ok.st (l := [(q, w), (p1, v)]) J.swap) e3 fun u s => hq u H1 ?_
          exact Ok.slot_back e2 ev ((Ok.fit (l := [(res, u), (p1, v)]) (τ' := τ) J s).swap)
        | none => rw [e3] at hq; exact hq.elim
      · exact hq.elim
    | exc x ρ1 => rw [e1] at hq; exact hq
    | bad => rw [e1] at hq; exact hq.elim
  · exact hq.elim
/-- len(x) of a name -/
def eLenN (i : Nat) : Sl → Out PV := fun ρ => match ρ[i]? with
  | some (some p) => (match hLen [p] with | some r => .ok r ρ | none => .bad)
  | _ => .bad
theorem hLen_val {K : PySem.W.Frag} {H : Hp} {l : List Pr} {p1 res : PV} {v : V} (s1 : St K H ((p1, v) :: l)) (e : hLen [p1] = some res) : ∃ n : Nat, res = .fr (.int n) ∧ LenV K v H n := by
  unfold hLen at e
  dsimp only at e
  split at e
  · rename_i xs e1
    cases e
    obtain ⟨a, ws, rfl, hq, hl2, _⟩ := s1.seqL e1
    exact ⟨xs.length, rfl, .inl ⟨ws, hq, hl2⟩⟩
  · split at e
    · rename_i xs _
      cases e
      obtain ⟨a, ws, rfl, hq, hl2, _⟩ := s1.rdT
      exact ⟨xs.length, rfl, .inr ⟨ws, hq, hl2⟩⟩
    · rename_i x _
      split at e
      · rename_i hz
        cases e
        have e1 := s1.val_str
        subst e1
        exact ⟨x.length, rfl, by rw [sizeLine_eq]; exact hz, rfl⟩
      · cases e
    · cases e
theorem qe_lenN {i : Nat} {x : Str} (hm : X.mg x = none) (hv : bootBuiltins x = some (.builtin "len")) (ha : PE X e (tVar i)) (hg : Gl X x := by rfl)
    (hn : x ≠ "__name__" := by decide) (hdb : (x == ("__debug__" : Str)) = false := by decide) (he : starEach [e] X.env = (false, eval e X.env) :: starEach [] X.env := by rfl) (hpl : (backTo pos (starEach [] X.env)).any (·.1) = false := by rfl) :
    QE X W (.Call (.Name x p) [e] [] pos) (eLenN i) := by
  refine ⟨_, pe_callB call_len hg hm hv (pa_cons ha pa_nil he) hn hdb he hpl, fun σ H ρ τ Q I hq => ?_⟩
  unfold eLenN at hq
  split at hq
  · rename_i p1 e1
    obtain ⟨v, ev, J⟩ := I.get e1
    cases e2 : hLen [p1] with
    | none => rw [e2] at hq; exact hq.elim
    | some res =>
      rw [e2] at hq
      obtain ⟨n, rfl, hl⟩ := hLen_val (Ok.st1 J) e2
      exact ⟨v, ev, v, n, rfl, hl, hq _ H (I.map fun l s => s.flat fun F => .int _)⟩
  · exact hq.elim
/-- x[lo:hi] of a name -/
def eSlN (i : Nat) (fl fh : Sl → Out (Option Int)) : Sl → Out PV := fun ρ => match ρ[i]? with
  | some (some _) => (fl ρ).bind fun lo ρ2 => (fh ρ2).bind fun hi ρ3 => (match ρ3[i]? with
    | some (some p) => (match lstOf p with
      | some xs => .ok (.oL (cutD xs lo hi)) ρ3
      | none => (match tupOf p with
        | some xs => if HT.sIx xs.length 0 lo = 0 ∧ HT.sIx xs.length xs.length hi = xs.length then .bad else .ok (.fr (.tup (cutD xs lo hi))) ρ3
        | none => .bad))
    | _ => .bad)
  | _ => .bad
theorem qe_sliceN {i : Nat} {lo hi : Option Expr} {p2 : Pos} {fl fh : Sl → Out (Option Int)} (he : PE X e (tVar i)) (hlo : QO X W lo fl) (hhi : QO X W hi fh) : QE X W (.Subscript e (.Slice lo hi none p2) pos) (eSlN i fl fh) := by
  obtain ⟨tl, pl, sl⟩ := hlo.ex
  obtain ⟨th, ph, sh⟩ := hhi.ex
  refine ⟨_, pe_slice (sl_list.or sl_tup) he pl ph, fun σ H ρ τ Q I hq => ?_⟩
  unfold eSlN at hq
  split at hq
  · rename_i p0 e0
    obtain ⟨v, ev, _⟩ := I.get e0
    refine ⟨v, ev, ?_⟩
    refine sl σ H ρ τ _ I ?_
    cases e2 : fl ρ with
    | ok i1 ρ2 =>
      rw [e2] at hq
      intro H2 I2
      refine sh σ H2 ρ2 _ _ I2 ?_
      dsimp only [Out.bind] at hq
      cases e3 : fh ρ2 with
      | ok j1 ρ3 =>
        rw [e3] at hq
        intro H3 I3
        dsimp only [Out.bind] at hq
        split at hq
        · rename_i p1 e4
          obtain ⟨v', ev', J⟩ := I3.get e4
          rw [ev] at ev'
          cases ev'
          split at hq
          · rename_i xs e5
            obtain ⟨a, vs, rfl, hs, hl, s2⟩ := (Ok.st1 J).seqL e5
            refine .inl ⟨a, vs, rfl, hs, fun r hn => hq _ _ ?_⟩
            obtain ⟨h1, s3⟩ := frs_cut (lo := i1) (hi := j1) hl s2
            have s4 := St.newL h1 hn s3
            exact Ok.slot_back e4 ev ((Ok.fit (l := [(.oL (cutD xs i1 j1), .ref r), (p1, .ref a)]) (τ' := τ) J s4).swap)
          · split at hq
            · rename_i xs e5
              split at hq
              · exact hq.elim
              · rename_i hw
                obtain ⟨a, vs, rfl, hs, hl, s2⟩ := (Ok.st1 J).seqT e5
                refine .inr ⟨a, vs, rfl, hs, by rw [← hl]; exact hw, fun r hn => hq _ _ ?_⟩
                obtain ⟨h1, s3⟩ := frs_cut (lo := i1) (hi := j1) hl s2
                have s4 := St.newT h1 hn s3
                exact Ok.slot_back e4 ev ((Ok.fit (l := [(.fr (.tup (cutD xs i1 j1)), .ref r), (p1, .ref a)]) (τ' := τ) J s4).swap)
            · exact hq.elim
        · exact hq.elim
      | exc x ρ3 => rw [e3] at hq; exact hq
      | bad => rw [e3] at hq; exact hq.elim
    | exc x ρ2 => rw [e2] at hq; exact hq
    | bad => rw [e2] at hq; exact hq.elim
  · exact hq.elim
end
end Q

/-! what the denotations give: equations for simp, loops by invariants. -/
namespace Q
open PySem L2

class HB (β : Type) where
  bad : β
instance {α : Type} : HB (Out α) := ⟨.bad⟩
instance : HB SO := ⟨.bad⟩
instance : HB FO := ⟨.bad⟩
instance {α : Type} : HB (Option α) := ⟨none⟩
section
variable {α β γ : Type} [HB β]
@[simp] theorem hb_Out : (HB.bad : Out α) = .bad := id rfl
@[simp] theorem hb_SO : (HB.bad : SO) = .bad := id rfl
@[simp] theorem hb_FO : (HB.bad : FO) = .bad := id rfl
@[simp] theorem hb_O : (HB.bad : Option α) = none := id rfl
def ob (o : Option α) (k : α → β) : β := match o with | some r => k r | none => HB.bad
@[simp] theorem ob_some (a : α) (k : α → β) : ob (some a) k = k a := id rfl
@[simp] theorem ob_none (k : α → β) : ob (none : Option α) k = HB.bad := id rfl
def o2 (o : Option (α × γ)) (k : α → γ → β) : β := match o with | some (r, q) => k r q | none => HB.bad
@[simp] theorem o2_some (a : α) (c : γ) (k : α → γ → β) : o2 (some (a, c)) k = k a c := id rfl
@[simp] theorem o2_none (k : α → γ → β) : o2 none k = HB.bad := id rfl
def gs (o : Option (Option PV)) (k : PV → β) : β := match o with | some (some p) => k p | _ => HB.bad
@[simp] theorem gs_some (p : PV) (k : PV → β) : gs (some (some p)) k = k p := id rfl
@[simp] theorem gs_n1 (k : PV → β) : gs (some none) k = HB.bad := id rfl
@[simp] theorem gs_n2 (k : PV → β) : gs none k = HB.bad := id rfl
def gf (o : Option (Option PV)) (k : D → β) : β := match o with | some (some (.fr d)) => k d | _ => HB.bad
@[simp] theorem gf_some (p : D) (k : D → β) : gf (some (some (.fr p))) k = k p := id rfl
def gl (o : Option (Option PV)) (k : List D → β) : β := match o with | some (some (.oL d)) => k d | _ => HB.bad
@[simp] theorem gl_some (p : List D) (k : List D → β) : gl (some (some (.oL p))) k = k p := id rfl
def ji (o : PV) (k : Int → β) : β := match o with | .fr (.int i) => k i | _ => HB.bad
@[simp] theorem ji_some (i : Int) (k : Int → β) : ji (.fr (.int i)) k = k i := id rfl
end
def vld (i : Nat) (p : PV) (ρ : Sl) : Out PV := match p with | .fr d => .ok (.fr d) ρ | p => .ok (.fr p.fz) (ρ.set i (some (.fr p.fz)))
@[simp] theorem vld_fr (i : Nat) (d : D) (ρ : Sl) : vld i (.fr d) ρ = .ok (.fr d) ρ := id rfl
@[simp] theorem vld_oL (i : Nat) (d : List D) (ρ : Sl) : vld i (.oL d) ρ = .ok (.fr (.lst d)) (ρ.set i (some (.fr (.lst d)))) := id rfl
def tb (o : Out PV) : Out Bool := match o with
  | .ok (.fr (.bl b)) ρ1 => .ok b ρ1
  | .exc x ρ1 => .exc x ρ1
  | _ => .bad
@[simp] theorem tb_ok (b : Bool) (ρ : Sl) : tb (.ok (.fr (.bl b)) ρ) = .ok b ρ := id rfl
@[simp] theorem tb_exc (x : Ex) (ρ : Sl) : tb (.exc x ρ) = .exc x ρ := id rfl
@[simp] theorem tb_bad : tb .bad = .bad := id rfl
def cb (o : Option PV) (a : Out PV) (ρ2 : Sl) : Out PV := match o with
  | some (.fr (.bl true)) => a
  | some (.fr (.bl false)) => .ok (.fr (.bl false)) ρ2
  | _ => .bad
@[simp] theorem cb_ok (b : Bool) (a : Out PV) (ρ : Sl) : cb (some (.fr (.bl b))) a ρ = if b = true then a else .ok (.fr (.bl false)) ρ := by cases b <;> rfl
@[simp high] theorem cb_and (b c : Bool) (ρ : Sl) : cb (some (.fr (.bl b))) (.ok (.fr (.bl c)) ρ) ρ = .ok (.fr (.bl (b && c))) ρ := by cases b <;> rfl
def fo (o : FO) (as : List Arg) (ρ2 : Sl) : Out PV := match o with
    | .ret p bs => (match putA as bs ρ2 with | some ρ3 => .ok p ρ3 | none => .bad)
    | .exc x bs => (match putA as bs ρ2 with | some ρ3 => .exc x ρ3 | none => .bad)
    | .bad => .bad
@[simp] theorem fo_ret (p : PV) (bs : List PV) (as : List Arg) (ρ : Sl) : fo (.ret p bs) as ρ = ob (putA as bs ρ) fun ρ3 => .ok p ρ3 := by
  show (match putA as bs ρ with | some ρ3 => Out.ok p ρ3 | none => .bad) = _
  cases putA as bs ρ <;> rfl
@[simp] theorem fo_exc (x : Ex) (bs : List PV) (as : List Arg) (ρ : Sl) : fo (.exc x bs) as ρ = ob (putA as bs ρ) fun ρ3 => .exc x ρ3 := by
  show (match putA as bs ρ with | some ρ3 => Out.exc x ρ3 | none => .bad) = _
  cases putA as bs ρ <;> rfl
@[simp] theorem fo_bad (as : List Arg) (ρ : Sl) : fo .bad as ρ = .bad := id rfl
def sq (o : SO) (g : Sl → SO) : SO := match o with
  | .nx ρ1 => g ρ1
  | o => o
@[simp] theorem sq_nx (ρ : Sl) (g : Sl → SO) : sq (.nx ρ) g = g ρ := id rfl
@[simp] theorem sq_rt (p : PV) (ρ : Sl) (g : Sl → SO) : sq (.rt p ρ) g = .rt p ρ := id rfl
@[simp] theorem sq_bk (ρ : Sl) (g : Sl → SO) : sq (.bk ρ) g = .bk ρ := id rfl
@[simp] theorem sq_ct (ρ : Sl) (g : Sl → SO) : sq (.ct ρ) g = .ct ρ := id rfl
@[simp] theorem sq_ex (x : Ex) (ρ : Sl) (g : Sl → SO) : sq (.ex x ρ) g = .ex x ρ := id rfl
@[simp] theorem sq_bad (g : Sl → SO) : sq .bad g = .bad := id rfl
def ofA (o : Out (List Arg)) (k : List Arg → Sl → SO) : SO := match o with
  | .ok as ρ1 => k as ρ1
  | .exc x ρ1 => .ex x ρ1
  | .bad => .bad
@[simp] theorem ofA_ok (a : List Arg) (ρ : Sl) (k : List Arg → Sl → SO) : ofA (.ok a ρ) k = k a ρ := id rfl
@[simp] theorem ofA_exc (x : Ex) (ρ : Sl) (k : List Arg → Sl → SO) : ofA (.exc x ρ) k = .ex x ρ := id rfl
def ofL (o : Out (List D)) (k : List D → Sl → SO) : SO := match o with
  | .ok as ρ1 => k as ρ1
  | .exc x ρ1 => .ex x ρ1
  | .bad => .bad
@[simp] theorem ofL_ok (a : List D) (ρ : Sl) (k : List D → Sl → SO) : ofL (.ok a ρ) k = k a ρ := id rfl
@[simp] theorem ofL_exc (x : Ex) (ρ : Sl) (k : List D → Sl → SO) : ofL (.exc x ρ) k = .ex x ρ := id rfl
def osm (o : Out PV) : Out (Option Int) := match o with
  | .ok (.fr (.int i)) ρ1 => .ok (some i) ρ1
  | .exc x ρ1 => .exc x ρ1
  | _ => .bad
@[simp] theorem osm_ok (i : Int) (ρ : Sl) : osm (.ok (.fr (.int i)) ρ) = .ok (some i) ρ := id rfl
def slc (p : PV) (lo hi : Option Int) (ρ3 : Sl) : Out PV := match lstOf p with
  | some xs => .ok (.oL (cutD xs lo hi)) ρ3
  | none => (match tupOf p with
    | some xs => if HT.sIx xs.length 0 lo = 0 ∧ HT.sIx xs.length xs.length hi = xs.length then .bad else .ok (.fr (.tup (cutD xs lo hi))) ρ3
    | none => .bad)
@[simp] theorem slc_L (xs : List D) (lo hi : Option Int) (ρ : Sl) : slc (.oL xs) lo hi ρ = .ok (.oL (cutD xs lo hi)) ρ := id rfl
@[simp] theorem slc_l (xs : List D) (lo hi : Option Int) (ρ : Sl) : slc (.fr (.lst xs)) lo hi ρ = .ok (.oL (cutD xs lo hi)) ρ := id rfl
@[simp] theorem slc_t (xs : List D) (lo hi : Option Int) (ρ : Sl) : slc (.fr (.tup xs)) lo hi ρ = if HT.sIx xs.length 0 lo = 0 ∧ HT.sIx xs.length xs.length hi = xs.length then .bad else .ok (.fr (.tup (cutD xs lo hi))) ρ := id rfl
def sqd (d : D) (ρ : Sl) : Out (List D) := match d with
  | .lst ds => .ok ds ρ
  | .tup ds => .ok ds ρ
  | _ => .bad
@[simp] theorem sqd_l (ds : List D) (ρ : Sl) : sqd (.lst ds) ρ = .ok ds ρ := id rfl
@[simp] theorem sqd_t (ds : List D) (ρ : Sl) : sqd (.tup ds) ρ = .ok ds ρ := id rfl
def lco (o : Out (List D)) : Out PV := match o with
  | .ok acc ρ2 => .ok (.oL acc) ρ2
  | _ => .bad
@[simp] theorem lco_ok (acc : List D) (ρ : Sl) : lco (.ok acc ρ) = .ok (.oL acc) ρ := id rfl
/-! loops -/
def fgo (o : SO) (k : Sl → SO) : SO := match o with
      | .nx ρ2 => k ρ2
      | .ct ρ2 => k ρ2
      | .bk ρ2 => .nx ρ2
      | .rt p ρ2 => .rt p ρ2
      | .ex x ρ2 => .ex x ρ2
      | .bad => .bad
@[simp] theorem fgo_nx (ρ : Sl) (k : Sl → SO) : fgo (.nx ρ) k = k ρ := id rfl
@[simp] theorem fgo_ct (ρ : Sl) (k : Sl → SO) : fgo (.ct ρ) k = k ρ := id rfl
@[simp] theorem fgo_bk (ρ : Sl) (k : Sl → SO) : fgo (.bk ρ) k = .nx ρ := id rfl
@[simp] theorem fgo_rt (p : PV) (ρ : Sl) (k : Sl → SO) : fgo (.rt p ρ) k = .rt p ρ := id rfl
@[simp] theorem fgo_ex (x : Ex) (ρ : Sl) (k : Sl → SO) : fgo (.ex x ρ) k = .ex x ρ := id rfl
@[simp] theorem fgo_bad (k : Sl → SO) : fgo .bad k = .bad := id rfl
theorem fg_nil (g : PV → Sl → Option Sl) (b : Sl → SO) (ρ : Sl) : forGo g b [] ρ = .nx ρ := id rfl
theorem fg_cons (g : PV → Sl → Option Sl) (b : Sl → SO) (d : D) (ds : List D) (ρ : Sl) : forGo g b (d :: ds) ρ = ob (g (.fr d) ρ) fun ρ1 => fgo (b ρ1) fun ρ2 => forGo g b ds ρ2 := by
  rw [forGo]
  cases g (.fr d) ρ with
  | none => rfl
  | some ρ1 => simp only [ob_some]; cases b ρ1 <;> rfl
theorem wg_succ (t : Sl → Out Bool) (b : Sl → SO) (n : Nat) (ρ : Sl) : whGo t b (n + 1) ρ = ofT (t ρ) fun c ρ1 => if c = true then fgo (b ρ1) fun ρ2 => whGo t b n ρ2 else .nx ρ1 := by
  rw [whGo]
  cases t ρ with
  | ok c ρ1 => cases c
               · rfl
               · dsimp only [ofT]; rw [if_pos rfl]; cases b ρ1 <;> rfl
  | exc x ρ => rfl
  | bad => rfl
section
variable {α β : Type}
@[simp] theorem ev_bind_ok (a : α) (ρ : Sl) (k : α → Sl → Out β) : (Out.ok a ρ).bind k = k a ρ := id rfl
@[simp] theorem ev_bind_exc (x : Ex) (ρ : Sl) (k : α → Sl → Out β) : (Out.exc x ρ : Out α).bind k = .exc x ρ := id rfl
@[simp] theorem ev_bind_bad (k : α → Sl → Out β) : (Out.bad : Out α).bind k = .bad := id rfl
end
@[simp] theorem ev_Var (i : Nat) (ρ : Sl) : eVar i ρ = gs ρ[i]? fun p => vld i p ρ := by
  unfold eVar gs
  rcases ρ[i]? with _ | _ | p
  · rfl
  · rfl
  · cases p <;> rfl
@[simp] theorem ev_Mov (i : Nat) (ρ : Sl) : eMov i ρ = gs ρ[i]? fun p => .ok p (ρ.set i none) := id rfl
@[simp] theorem ev_C (d : D) (ρ : Sl) : eC d ρ = .ok (.fr d) ρ := id rfl
@[simp] theorem ev_2 (h : PV → PV → Option PV) (f g : Sl → Out PV) (ρ : Sl) : e2 h f g ρ = (f ρ).bind fun p ρ1 => (g ρ1).bind fun q ρ2 => ob (h p q) fun r => .ok r ρ2 := by
  unfold e2
  congr; funext p ρ1; congr; funext q ρ2; cases h p q <;> rfl
@[simp] theorem ev_1 (h : PV → Option PV) (f : Sl → Out PV) (ρ : Sl) : e1 h f ρ = (f ρ).bind fun p ρ1 => ob (h p) fun r => .ok r ρ1 := by
  unfold e1
  congr; funext p ρ1; cases h p <;> rfl
@[simp] theorem ev_tB1 (f : Sl → Out PV) (ρ : Sl) : tB1 f ρ = tb (f ρ) := id rfl
@[simp] theorem ev_tN (f : Sl → Out Bool) (ρ : Sl) : tN f ρ = (f ρ).bind fun b ρ1 => .ok (!b) ρ1 := id rfl
@[simp] theorem ev_tA (f g : Sl → Out Bool) (ρ : Sl) : tA f g ρ = (f ρ).bind fun b ρ1 => if b = true then g ρ1 else .ok false ρ1 := id rfl
@[simp] theorem ev_tO (f g : Sl → Out Bool) (ρ : Sl) : tO f g ρ = (f ρ).bind fun b ρ1 => if b = true then .ok true ρ1 else g ρ1 := id rfl
@[simp] theorem ev_And (f g : Sl → Out PV) (ρ : Sl) : eAnd f g ρ = (tB1 f ρ).bind fun b ρ1 => if b = true then g ρ1 else .ok (.fr (.bl false)) ρ1 := id rfl
@[simp] theorem ev_Or (f g : Sl → Out PV) (ρ : Sl) : eOr f g ρ = (tB1 f ρ).bind fun b ρ1 => if b = true then .ok (.fr (.bl true)) ρ1 else g ρ1 := id rfl
@[simp] theorem ev_Not (f : Sl → Out PV) (ρ : Sl) : eNot f ρ = (tB1 f ρ).bind fun b ρ1 => .ok (.fr (.bl (!b))) ρ1 := id rfl
@[simp] theorem ev_If (t : Sl → Out Bool) (f g : Sl → Out PV) (ρ : Sl) : eIf t f g ρ = (t ρ).bind fun b ρ1 => if b = true then f ρ1 else g ρ1 := id rfl
@[simp] theorem ev_Ch (h h' : PV → PV → Option PV) (f g k : Sl → Out PV) (ρ : Sl) : eCh h h' f g k ρ = (f ρ).bind fun p ρ1 => (g ρ1).bind fun q ρ2 => cb (h p (.fr q.fz)) ((k ρ2).bind fun r ρ3 => ob (h' (.fr q.fz) r) fun z => .ok z ρ3) ρ2 := by
  unfold eCh
  congr; funext p ρ1; congr; funext q ρ2
  unfold cb
  rcases h p (.fr q.fz) with _ | d
  · rfl
  · rcases d with d | _ | _ | _ | _ | _ <;> try rfl
    cases d <;> try rfl
    rename_i b
    cases b <;> try rfl
    dsimp only
    congr; funext r ρ3; cases h' (.fr q.fz) r <;> rfl
@[simp] theorem ev_Chn (f : Sl → Out PV) (k : PV → Sl → Out PV) (ρ : Sl) : eChn f k ρ = (f ρ).bind fun p ρ1 => k p ρ1 := id rfl
@[simp] theorem ev_kLast (h : PV → PV → Option PV) (g : Sl → Out PV) (p : PV) (ρ : Sl) : kLast h g p ρ = (g ρ).bind fun q ρ2 => ob (h p q) fun r => .ok r ρ2 := by
  unfold kLast
  congr; funext q ρ2; cases h p q <;> rfl
@[simp] theorem ev_kLink (h : PV → PV → Option PV) (g : Sl → Out PV) (k : PV → Sl → Out PV) (p : PV) (ρ : Sl) : kLink h g k p ρ = (g ρ).bind fun q ρ2 => cb (h p (.fr q.fz)) (k (.fr q.fz) ρ2) ρ2 := id rfl
@[simp] theorem ev_hI (c : Int → Int → Bool) (g : Int → Int → D) (i j : Int) : hI c g (.fr (.int i)) (.fr (.int j)) = if c i j = true then some (.fr (g i j)) else none := id rfl
@[simp] theorem ev_hI0 (g : Int → Int → D) (i j : Int) : hI0 g (.fr (.int i)) (.fr (.int j)) = some (.fr (g i j)) := id rfl
@[simp] theorem ev_lst1 (xs : List D) : lstOf (.fr (.lst xs)) = some xs := id rfl
@[simp] theorem ev_lst2 (xs : List D) : lstOf (.oL xs) = some xs := id rfl
@[simp] theorem ev_lst3 (xs : List D) : lstOf (.fr (.tup xs)) = none := id rfl
@[simp] theorem ev_lst4 (i : Int) : lstOf (.fr (.int i)) = none := id rfl
@[simp] theorem ev_tup1 (xs : List D) : tupOf (.fr (.tup xs)) = some xs := id rfl
@[simp] theorem ev_tup2 (xs : List D) : tupOf (.fr (.lst xs)) = none := id rfl
@[simp] theorem ev_ix1 (xs : List D) (i : Int) : dIx (.fr (.lst xs)) (.fr (.int i)) = (atI xs i).map .fr := by
  unfold dIx dIxL dIxT
  simp only [ev_lst1, ev_tup2]
  cases atI xs i <;> rfl
@[simp] theorem ev_ix2 (xs : List D) (i : Int) : dIx (.oL xs) (.fr (.int i)) = (atI xs i).map .fr := by
  unfold dIx dIxL dIxT
  simp only [ev_lst2]
  cases atI xs i <;> rfl
@[simp] theorem ev_ix3 (xs : List D) (i : Int) : dIx (.fr (.tup xs)) (.fr (.int i)) = (atI xs i).map .fr := id rfl
theorem atI_0 (a : D) (xs : List D) : atI (a :: xs) 0 = some a := by
  unfold atI ixN
  simp
@[simp] theorem ev_at10 (a : D) (xs : List D) : atI (a :: xs) 0 = some a := atI_0 a xs
@[simp] theorem ev_at11 (a b : D) (xs : List D) : atI (a :: b :: xs) 1 = some b := atI_nat (xs := a :: b :: xs) (j := 1) rfl
@[simp] theorem ev_at12 (a b c : D) (xs : List D) : atI (a :: b :: c :: xs) 2 = some c := atI_nat (xs := a :: b :: c :: xs) (j := 2) rfl
@[simp] theorem ev_at13 (a b c d : D) (xs : List D) : atI (a :: b :: c :: d :: xs) 3 = some d := atI_nat (xs := a :: b :: c :: d :: xs) (j := 3) rfl
@[simp] theorem ev_atm1 (a : D) : atI [a] (-1) = some a := atI_last [] a
@[simp] theorem ev_atm2 (a b : D) : atI [a, b] (-1) = some b := atI_last [a] b
@[simp] theorem ev_atm3 (xs : List D) (a : D) : atI (xs ++ [a]) (-1) = some a := atI_last xs a
@[simp] theorem ev_ix10 (n : Nat) : ixN (n + 1) 0 = some 0 := by unfold ixN; simp
@[simp] theorem ev_ix11 (n : Nat) : ixN (n + 2) 1 = some 1 := by unfold ixN; simp; omega
@[simp] theorem ev_ix12 (n : Nat) : ixN (n + 3) 2 = some 2 := by unfold ixN; simp; omega
@[simp] theorem ev_addI (i j : Int) : dAdd (.fr (.int i)) (.fr (.int j)) = some (.fr (.int (i + j))) := id rfl
@[simp] theorem ev_addL (xs ys : List D) : dAdd (.oL xs) (.oL ys) = if xs.length + ys.length ≤ 16777216 then some (.oL (xs ++ ys)) else none := id rfl
@[simp] theorem ev_addL2 (xs ys : List D) : dAdd (.fr (.lst xs)) (.oL ys) = if xs.length + ys.length ≤ 16777216 then some (.oL (xs ++ ys)) else none := id rfl
@[simp] theorem ev_addL3 (xs ys : List D) : dAdd (.fr (.lst xs)) (.fr (.lst ys)) = if xs.length + ys.length ≤ 16777216 then some (.oL (xs ++ ys)) else none := id rfl
@[simp] theorem ev_addL4 (xs ys : List D) : dAdd (.oL xs) (.fr (.lst ys)) = if xs.length + ys.length ≤ 16777216 then some (.oL (xs ++ ys)) else none := id rfl
@[simp] theorem ev_addS (i j : Str) : dAdd (.fr (.str i)) (.fr (.str j)) = if i.length + j.length ≤ 16777216 then some (.fr (.str (i ++ j))) else none := by
  show (match (if i.length + j.length ≤ 16777216 then some (PV.fr (.str (i ++ j))) else none) with | some x => some x | none => none) = _
  by_cases h : i.length + j.length ≤ 16777216
  · rw [if_pos h]
  · rw [if_neg h]
@[simp] theorem ev_subI (i j : Int) : dSub (.fr (.int i)) (.fr (.int j)) = some (.fr (.int (i - j))) := id rfl
@[simp] theorem ev_mulI (i j : Int) : dMul (.fr (.int i)) (.fr (.int j)) = if mulOk i j = true then some (.fr (.int (i * j))) else none := by
  show (match (if mulOk i j = true then some (PV.fr (.int (i * j))) else none) with | some x => some x | none => none) = _
  by_cases h : mulOk i j = true
  · rw [if_pos h]
  · rw [if_neg h]
@[simp] theorem ev_mulL (xs : List D) (k : Int) : dMul (.oL xs) (.fr (.int k)) = if -9223372036854775808 ≤ k ∧ k < 9223372036854775808 ∧ xs.length * k.toNat ≤ 16777216 then some (.oL (List.replicate k.toNat xs).flatten) else none := id rfl
@[simp] theorem ev_fdivI (i j : Int) : dFdiv (.fr (.int i)) (.fr (.int j)) = if fdivOk i j = true then some (.fr (.int (i / j))) else none := id rfl
@[simp] theorem ev_modI (i j : Int) : dMod (.fr (.int i)) (.fr (.int j)) = if 0 < j then some (.fr (.int (i % j))) else none := by
  show (if decide (0 < j) = true then some (PV.fr (.int (i % j))) else none) = _
  simp
@[simp] theorem ev_powI (i j : Int) : dPow (.fr (.int i)) (.fr (.int j)) = if powOk i j = true then some (.fr (.int (i ^ j.toNat))) else none := id rfl
@[simp] theorem ev_shlI (i j : Int) : dShl (.fr (.int i)) (.fr (.int j)) = if shlOk i j = true then some (.fr (.int (i * 2 ^ j.toNat))) else none := id rfl
@[simp] theorem ev_shrI (i j : Int) : dShr (.fr (.int i)) (.fr (.int j)) = if 0 ≤ j then some (.fr (.int (i / 2 ^ j.toNat))) else none := by
  show (if decide (0 ≤ j) = true then some (PV.fr (.int (i / 2 ^ j.toNat))) else none) = _
  simp
@[simp] theorem ev_negI (i : Int) : dNeg (.fr (.int i)) = some (.fr (.int (-i))) := id rfl
@[simp] theorem ev_lt (i j : Int) : dLt (.fr (.int i)) (.fr (.int j)) = some (.fr (.bl (decide (i < j)))) := id rfl
@[simp] theorem ev_le (i j : Int) : dLe (.fr (.int i)) (.fr (.int j)) = some (.fr (.bl (decide (i ≤ j)))) := id rfl
@[simp] theorem ev_gt (i j : Int) : dGt (.fr (.int i)) (.fr (.int j)) = some (.fr (.bl (decide (j < i)))) := id rfl
@[simp] theorem ev_ge (i j : Int) : dGe (.fr (.int i)) (.fr (.int j)) = some (.fr (.bl (decide (j ≤ i)))) := id rfl
@[simp] theorem ev_eqI (i j : Int) : dEq (.fr (.int i)) (.fr (.int j)) = some (.fr (.bl (decide (i = j)))) := id rfl
@[simp] theorem ev_neI (i j : Int) : dNe (.fr (.int i)) (.fr (.int j)) = some (.fr (.bl (!decide (i = j)))) := id rfl
@[simp] theorem ev_eqS (i j : Str) : dEq (.fr (.str i)) (.fr (.str j)) = some (.fr (.bl (decide (i = j)))) := id rfl
@[simp] theorem ev_isN (d : D) : dIsN (.fr d) (.fr .non) = some (.fr (.bl (isN d))) := id rfl
@[simp] theorem ev_notN (d : D) : dNotN (.fr d) (.fr .non) = some (.fr (.bl (!isN d))) := id rfl
@[simp] theorem ev_aNil (ρ : Sl) : aNil ρ = .ok [] ρ := id rfl
@[simp] theorem ev_aVal (f : Sl → Out PV) (r : Sl → Out (List Arg)) (ρ : Sl) : aVal f r ρ = (f ρ).bind fun p ρ1 => (r ρ1).bind fun as ρ2 => .ok (.val p :: as) ρ2 := id rfl
@[simp] theorem ev_aBor (i : Nat) (r : Sl → Out (List Arg)) (ρ : Sl) : aBor i r ρ = gs ρ[i]? fun _ => (r ρ).bind fun as ρ2 => .ok (.bor i :: as) ρ2 := id rfl
@[simp] theorem ev_vals0 : valsOf [] = some [] := id rfl
@[simp] theorem ev_vals1 (p : PV) (as : List Arg) : valsOf (.val p :: as) = ob (valsOf as) fun ps => some (p :: ps) := by
  rw [valsOf]
  cases valsOf as <;> rfl
@[simp] theorem ev_V (h : List PV → Option PV) (fa : Sl → Out (List Arg)) (ρ : Sl) : eV h fa ρ = (fa ρ).bind fun as ρ1 => ob (valsOf as) fun ps => ob (h ps) fun r => .ok r ρ1 := by
  unfold eV
  congr; funext as ρ1; cases valsOf as with
  | none => rfl
  | some ps => simp only [ob_some]; cases h ps <;> rfl
@[simp] theorem ev_hTup (ps : List PV) : hTup ps = if ps.length ≤ 16777216 then some (.fr (.tup (ps.map PV.fz))) else none := id rfl
@[simp] theorem ev_hLst (ps : List PV) : hLst ps = if ps.length ≤ 16777216 then some (.oL (ps.map PV.fz)) else none := id rfl
@[simp] theorem ev_hLen1 (xs : List D) : hLen [.fr (.lst xs)] = some (.fr (.int xs.length)) := id rfl
@[simp] theorem ev_hLen2 (xs : List D) : hLen [.oL xs] = some (.fr (.int xs.length)) := id rfl
@[simp] theorem ev_hLen3 (xs : List D) : hLen [.fr (.tup xs)] = some (.fr (.int xs.length)) := id rfl
@[simp] theorem ev_hLen4 (x : Str) : hLen [.fr (.str x)] = if x.length ≤ 16777216 then some (.fr (.int x.length)) else none := id rfl
@[simp] theorem ev_hMax (i j : Int) : hMax2 [.fr (.int i), .fr (.int j)] = some (.fr (.int (if j > i then j else i))) := id rfl
@[simp] theorem ev_hMin (i j : Int) : hMin2 [.fr (.int i), .fr (.int j)] = some (.fr (.int (if j < i then j else i))) := id rfl
@[simp] theorem ev_hAbs (i : Int) : hAbs [.fr (.int i)] = some (.fr (.int (if i < 0 then -i else i))) := id rfl
@[simp] theorem ev_hInt1 (i : Int) : hInt [.fr (.int i)] = some (.fr (.int i)) := id rfl
@[simp] theorem ev_hInt2 (b : Bool) : hInt [.fr (.bl b)] = some (.fr (.int (if b then 1 else 0))) := id rfl
@[simp] theorem ev_hListOf1 (xs : List D) : hListOf [.fr (.lst xs)] = some (.oL xs) := id rfl
@[simp] theorem ev_hListOf2 (xs : List D) : hListOf [.oL xs] = some (.oL xs) := id rfl
@[simp] theorem ev_hListOf3 (xs : List D) : hListOf [.fr (.tup xs)] = some (.oL xs) := id rfl
@[simp] theorem ev_hTupOf1 (xs : List D) : hTupOf [.fr (.lst xs)] = some (.fr (.tup xs)) := id rfl
@[simp] theorem ev_hTupOf2 (xs : List D) : hTupOf [.oL xs] = some (.fr (.tup xs)) := id rfl
@[simp] theorem ev_hTupOf3 (xs : List D) : hTupOf [.fr (.tup xs)] = some (.fr (.tup xs)) := id rfl
@[simp] theorem ev_bor1 (p : PV) : isBor (.val p) = false := id rfl
@[simp] theorem ev_bor2 (i : Nat) : isBor (.bor i) = true := id rfl
@[simp] theorem ev_takeA0 (ρ : Sl) : takeA [] ρ = some ([], ρ) := id rfl
@[simp] theorem ev_takeA1 (p : PV) (as : List Arg) (ρ : Sl) : takeA (.val p :: as) ρ = o2 (takeA as ρ) fun ps ρ' => some (.fr p.fz :: ps, ρ') := by
  rw [takeA]
  rcases takeA as ρ with _ | ⟨a, b⟩ <;> rfl
@[simp] theorem ev_takeA2 (i : Nat) (as : List Arg) (ρ : Sl) : takeA (.bor i :: as) ρ = gs ρ[i]? fun p => o2 (takeA as (ρ.set i none)) fun ps ρ' => some (p :: ps, ρ') := by
  rw [takeA]
  unfold gs
  rcases ρ[i]? with _ | _ | p
  · rfl
  · rfl
  · dsimp only; rcases takeA as (ρ.set i none) with _ | ⟨a, b⟩ <;> rfl
@[simp] theorem ev_putA0 (ρ : Sl) : putA [] [] ρ = some ρ := id rfl
@[simp] theorem ev_putA1 (p : PV) (as : List Arg) (bs : List PV) (ρ : Sl) : putA (.val p :: as) bs ρ = putA as bs ρ := by cases bs <;> rfl
@[simp] theorem ev_putA2 (i : Nat) (as : List Arg) (b : PV) (bs : List PV) (ρ : Sl) : putA (.bor i :: as) (b :: bs) ρ = if i < ρ.length then putA as bs (ρ.set i (some b)) else none := id rfl
@[simp] theorem ev_Call (fl : List Bool) (den : List PV → FO) (fa : Sl → Out (List Arg)) (ρ : Sl) : eCall fl den fa ρ = (fa ρ).bind fun as ρ1 => if as.map isBor = fl then (o2 (takeA as ρ1) fun ps ρ2 => fo (den ps) as ρ2) else .bad := by
  unfold eCall
  congr; funext as ρ1
  split
  · rcases takeA as ρ1 with _ | ⟨a, b⟩
    · rfl
    · simp only [o2_some]
      rcases den a with _ | _ | _ <;> rfl
  · rfl
@[simp] theorem ev_ofE1 (p : PV) (ρ : Sl) (k : PV → Sl → SO) : ofE (.ok p ρ) k = k p ρ := id rfl
@[simp] theorem ev_ofE2 (x : Ex) (ρ : Sl) (k : PV → Sl → SO) : ofE (.exc x ρ) k = .ex x ρ := id rfl
@[simp] theorem ev_ofE3 (k : PV → Sl → SO) : ofE .bad k = .bad := id rfl
@[simp] theorem ev_ofT1 (p : Bool) (ρ : Sl) (k : Bool → Sl → SO) : ofT (.ok p ρ) k = k p ρ := id rfl
@[simp] theorem ev_ofT2 (x : Ex) (ρ : Sl) (k : Bool → Sl → SO) : ofT (.exc x ρ) k = .ex x ρ := id rfl
@[simp] theorem ev_ofT3 (k : Bool → Sl → SO) : ofT .bad k = .bad := id rfl
@[simp] theorem ev_Next (ρ : Sl) : sNext ρ = .nx ρ := id rfl
@[simp] theorem ev_Seq (f g : Sl → SO) (ρ : Sl) : sSeq f g ρ = sq (f ρ) g := id rfl
@[simp] theorem ev_Expr (f : Sl → Out PV) (ρ : Sl) : sExpr f ρ = ofE (f ρ) fun _ ρ1 => .nx ρ1 := id rfl
@[simp] theorem ev_Ret (f : Sl → Out PV) (ρ : Sl) : sRet f ρ = ofE (f ρ) fun p ρ1 => .rt p ρ1 := id rfl
@[simp] theorem ev_sIf (t : Sl → Out Bool) (f g : Sl → SO) (ρ : Sl) : sIf t f g ρ = ofT (t ρ) fun b ρ1 => if b = true then f ρ1 else g ρ1 := id rfl
@[simp] theorem ev_gN (i : Nat) (p : PV) (ρ : Sl) : gN i p ρ = if i < ρ.length then some (ρ.set i (some p)) else none := id rfl
@[simp] theorem ev_gNil (ρ : Sl) : gNil [] ρ = some ρ := id rfl
@[simp] theorem ev_gCons (g : PV → Sl → Option Sl) (r : List PV → Sl → Option Sl) (p : PV) (ps : List PV) (ρ : Sl) : gCons g r (p :: ps) ρ = ob (g p ρ) fun ρ1 => r ps ρ1 := by
  rw [gCons]
  cases g p ρ <;> rfl
@[simp] theorem ev_gT (r : List PV → Sl → Option Sl) (ds : List D) (ρ : Sl) : gT r (.fr (.tup ds)) ρ = r (ds.map .fr) ρ := id rfl
@[simp] theorem ev_g2 (i j : Nat) : g2 i j = gCons (gN i) (gCons (gN j) gNil) := id rfl
@[simp] theorem ev_g3 (i j k : Nat) : g3 i j k = gCons (gN i) (gCons (gN j) (gCons (gN k) gNil)) := id rfl
@[simp] theorem ev_Asg (f : Sl → Out PV) (g : PV → Sl → Option Sl) (ρ : Sl) : sAsg f g ρ = ofE (f ρ) fun p ρ1 => ob (g p ρ1) fun ρ2 => .nx ρ2 := by
  unfold sAsg
  congr; funext p ρ1; cases g p ρ1 <;> rfl
@[simp] theorem ev_Par (fa : Sl → Out (List Arg)) (g : List PV → Sl → Option Sl) (ρ : Sl) : sPar fa g ρ = ofA (fa ρ) fun as ρ1 => ob (valsOf as) fun ps => ob (g ps ρ1) fun ρ2 => .nx ρ2 := by
  unfold sPar
  rcases fa ρ with ⟨as, ρ1⟩ | ⟨x, ρ1⟩ | _
  · simp only [ofA_ok]
    cases valsOf as with
    | none => rfl
    | some ps => simp only [ob_some]; cases g ps ρ1 <;> rfl
  · rfl
  · rfl
@[simp] theorem ev_Aug (i : Nat) (h : PV → PV → Option PV) (f : Sl → Out PV) (ρ : Sl) : sAug i h f ρ = gf ρ[i]? fun d => ofE (f ρ) fun q ρ1 => ob (h (.fr d) q) fun r => if i < ρ1.length then .nx (ρ1.set i (some r)) else .bad := by
  unfold sAug gf
  rcases ρ[i]? with _ | _ | p
  · rfl
  · rfl
  · cases p <;> try rfl
    dsimp only
    congr; funext q ρ1
    rename_i d
    cases h (.fr d) q <;> rfl
@[simp] theorem ev_App (i : Nat) (f : Sl → Out PV) (ρ : Sl) : sApp i f ρ = gl ρ[i]? fun _ => ofE (f ρ) fun q ρ1 => gl ρ1[i]? fun xs => if xs.length < 16777216 then .nx (ρ1.set i (some (.oL (xs ++ [q.fz])))) else .bad := id rfl
@[simp] theorem ev_SetI (i : Nat) (f g : Sl → Out PV) (ρ : Sl) : sSetI i f g ρ = ofE (f ρ) fun q ρ1 => gl ρ1[i]? fun _ => ofE (g ρ1) fun j ρ2 => gl ρ2[i]? fun xs => ji j fun k => ob (ixN xs.length k) fun m => .nx (ρ2.set i (some (.oL (xs.set m q.fz)))) := by
  unfold sSetI
  congr; funext q ρ1
  unfold gl
  rcases ρ1[i]? with _ | _ | p
  · rfl
  · rfl
  · cases p <;> try rfl
    dsimp only
    congr; funext j ρ2
    rcases ρ2[i]? with _ | _ | p
    · rfl
    · rfl
    · cases p <;> try rfl
      rename_i xs
      rcases j with d | _ | _ | _ | _ | _ <;> try rfl
      cases d <;> try rfl
      rename_i k
      dsimp only [ji]
      cases ixN xs.length k <;> rfl
@[simp] theorem ev_oNone (ρ : Sl) : oNone ρ = .ok none ρ := id rfl
@[simp] theorem ev_oSome (f : Sl → Out PV) (ρ : Sl) : oSome f ρ = osm (f ρ) := id rfl
@[simp] theorem ev_Sl (f : Sl → Out PV) (fl fh : Sl → Out (Option Int)) (ρ : Sl) : eSl f fl fh ρ = (f ρ).bind fun p ρ1 => (fl ρ1).bind fun lo ρ2 => (fh ρ2).bind fun hi ρ3 => slc p lo hi ρ3 := id rfl
@[simp] theorem ev_IxN (i : Nat) (g : Sl → Out PV) (ρ : Sl) : eIxN i g ρ = gs ρ[i]? fun _ => eIxV i g ρ := id rfl
@[simp] theorem ev_IxV (i : Nat) (g : Sl → Out PV) (ρ : Sl) : eIxV i g ρ = (g ρ).bind fun q ρ1 => gs ρ1[i]? fun p => ob (dIx p q) fun r => .ok r ρ1 := by
  unfold eIxV
  congr; funext q ρ1
  unfold gs
  rcases ρ1[i]? with _ | _ | p
  · rfl
  · rfl
  · dsimp only; cases dIx p q <;> rfl
@[simp] theorem ev_LenN (i : Nat) (ρ : Sl) : eLenN i ρ = gs ρ[i]? fun p => ob (hLen [p]) fun r => .ok r ρ := by
  unfold eLenN gs
  rcases ρ[i]? with _ | _ | p
  · rfl
  · rfl
  · dsimp only; cases hLen [p] <;> rfl
@[simp] theorem ev_SlN (i : Nat) (fl fh : Sl → Out (Option Int)) (ρ : Sl) : eSlN i fl fh ρ = gs ρ[i]? fun _ => (fl ρ).bind fun lo ρ2 => (fh ρ2).bind fun hi ρ3 => gs ρ3[i]? fun p => slc p lo hi ρ3 := id rfl
@[simp] theorem ev_iSeq (f : Sl → Out PV) (ρ : Sl) : iSeq f ρ = (f ρ).bind fun p ρ1 => sqd p.fz ρ1 := id rfl
@[simp] theorem ev_iV (h : List PV → Option (List D)) (fa : Sl → Out (List Arg)) (ρ : Sl) : iV h fa ρ = (fa ρ).bind fun as ρ1 => ob (valsOf as) fun ps => ob (h ps) fun r => .ok r ρ1 := by
  unfold iV
  congr; funext as ρ1; cases valsOf as with
  | none => rfl
  | some ps => simp only [ob_some]; cases h ps <;> rfl
@[simp] theorem ev_hRng1 (j : Int) : hRng1 [.fr (.int j)] = if smallI j = true then some (rangeD 0 j.toNat) else none := id rfl
@[simp] theorem ev_hRng2 (i j : Int) : hRng2 [.fr (.int i), .fr (.int j)] = if smallI i = true ∧ smallI j = true then some (rangeD i (j - i).toNat) else none := id rfl
@[simp] theorem ev_hEnum1 (xs : List D) : hEnum [.oL xs] = some (enumD 0 xs) := id rfl
@[simp] theorem ev_hEnum2 (xs : List D) : hEnum [.fr (.lst xs)] = some (enumD 0 xs) := id rfl
@[simp] theorem ev_hZip1 (xs ys : List D) : hZip [.oL xs, .oL ys] = some (zipD xs ys) := id rfl
@[simp] theorem ev_hZip2 (xs ys : List D) : hZip [.fr (.lst xs), .fr (.lst ys)] = some (zipD xs ys) := id rfl
@[simp] theorem ev_hZip3 (xs ys : List D) : hZip [.fr (.lst xs), .oL ys] = some (zipD xs ys) := id rfl
@[simp] theorem ev_hZip4 (xs ys : List D) : hZip [.oL xs, .fr (.lst ys)] = some (zipD xs ys) := id rfl
@[simp] theorem ev_hRg2 (a b : Int) : hRg2 (.fr (.int a)) (.fr (.int b)) = if rgOk a b = true then some (.oL (rangeD a (b - a).toNat)) else none := id rfl
@[simp] theorem ev_For (fi : Sl → Out (List D)) (g : PV → Sl → Option Sl) (b : Sl → SO) (ρ : Sl) : sFor fi g b ρ = ofL (fi ρ) fun ds ρ1 => forGo g b ds ρ1 := id rfl
@[simp] theorem ev_tTrue (ρ : Sl) : tTrue ρ = .ok true ρ := id rfl
@[simp] theorem ev_wipe0 (ρ : Sl) : wipeP [] ρ = ρ := id rfl
@[simp] theorem ev_wipe1 (v : Nat) (vs : List Nat) (ρ : Sl) : wipeP (v :: vs) ρ = (wipeP vs ρ).set v none := id rfl
@[simp] theorem ev_Lc (vs : List Nat) (fi : Sl → Out (List D)) (g : PV → Sl → Option Sl) (t : Sl → Out Bool) (f : Sl → Out PV) (ρ : Sl) : eLc vs fi g t f ρ = (fi ρ).bind fun ds ρ1 => lco (lcGo vs g t f ds (wipeP vs ρ1) []) := id rfl
@[simp] theorem ev_fz1 (d : D) : PV.fz (.fr d) = d := id rfl
@[simp] theorem ev_fz2 (xs : List D) : PV.fz (.oL xs) = .lst xs := id rfl
@[simp] theorem ev_fin1 (fl : List Bool) (ρ : Sl) : fin fl (.nx ρ) = ob (pick fl ρ) fun bs => .ret (.fr .non) bs := by
  unfold fin
  dsimp only; cases pick fl ρ <;> rfl
@[simp] theorem ev_fin2 (fl : List Bool) (p : PV) (ρ : Sl) : fin fl (.rt p ρ) = ob (pick fl ρ) fun bs => .ret p bs := by
  unfold fin
  dsimp only; cases pick fl ρ <;> rfl
@[simp] theorem ev_fin3 (fl : List Bool) (x : Ex) (ρ : Sl) : fin fl (.ex x ρ) = ob (pick fl ρ) fun bs => .exc x bs := by
  unfold fin
  dsimp only; cases pick fl ρ <;> rfl
@[simp] theorem ev_pick0 (ρ : Sl) : pick [] ρ = some [] := by cases ρ <;> rfl
@[simp] theorem ev_pick1 (fl : List Bool) (p : PV) (ρ : Sl) : pick (true :: fl) (some p :: ρ) = ob (pick fl ρ) fun ps => some (p :: ps) := by
  rw [pick]
  cases pick fl ρ <;> rfl
@[simp] theorem ev_pick2 (fl : List Bool) (o : Option PV) (ρ : Sl) : pick (false :: fl) (o :: ρ) = pick fl ρ := id rfl
@[simp] theorem ev_startP (N : Nat) (ps : List PV) : startP N ps = ps.map some ++ List.replicate (N - ps.length) none := id rfl
theorem ev_dn (fl : List Bool) (N : Nat) (g : Sl → SO) (ps : List PV) : dnOf fl N g ps = fin fl (g (startP N ps)) := id rfl
@[simp] theorem smallI_of {i : Int} (h : -4611686018427387904 ≤ i) (h' : i < 4611686018427387904) : smallI i = true := by unfold smallI; simp [h, h']

/-! ### loops by invariants -/
theorem forGo_inv {g : PV → Sl → Option Sl} {b : Sl → SO} (I : Nat → Sl → Prop) : ∀ (ds : List D) (k : Nat) (ρ : Sl), I k ρ →
    (∀ (i : Nat) (d : D) (ρ : Sl), ds[i]? = some d → I (k + i) ρ → ∃ ρ1, g (.fr d) ρ = some ρ1 ∧ ∃ ρ2, (b ρ1 = .nx ρ2 ∨ b ρ1 = .ct ρ2) ∧ I (k + i + 1) ρ2) → ∃ ρ', forGo g b ds ρ = .nx ρ' ∧ I (k + ds.length) ρ'
  | [], k, ρ, h, _ => ⟨ρ, rfl, h⟩
  | d :: ds, k, ρ, h, st => by
    obtain ⟨ρ1, e1, ρ2, e2, h2⟩ := st 0 d ρ rfl h
    obtain ⟨ρ', e3, h3⟩ := forGo_inv I ds (k + 1) ρ2 h2 fun i d ρ hi h => by
      have := st (i + 1) d ρ (by simpa using hi) (by rw [show k + (i + 1) = k + 1 + i by omega]; exact h)
      rw [show k + (i + 1) = k + 1 + i by omega] at this
      exact this
    refine ⟨ρ', ?_, by rw [List.length_cons, show k + (ds.length + 1) = k + 1 + ds.length by omega]; exact h3⟩
    unfold forGo
    rw [e1]
    dsimp only
    rcases e2 with e2 | e2 <;> rw [e2] <;> exact e3
/-- a comprehension whose elements are told -/
theorem lcGo_map {vs : List Nat} {g : PV → Sl → Option Sl} {t : Sl → Out Bool} {f : Sl → Out PV} {α : Type} (inj : α → D) (out : α → D) (ρ0 : Sl) : ∀ (xs : List α) (acc : List D), acc.length + xs.length ≤ 16777216 →
    (∀ x ∈ xs, ∃ ρ1 ρ2 ρ3 p, g (.fr (inj x)) ρ0 = some ρ1 ∧ t ρ1 = .ok true ρ2 ∧ f ρ2 = .ok p ρ3 ∧ p.fz = out x ∧ wipeP vs ρ3 = ρ0) → lcGo vs g t f (xs.map inj) ρ0 acc = .ok (acc ++ xs.map out) ρ0
  | [], acc, _, _ => by simp [lcGo]
  | x :: xs, acc, hz, h => by
    obtain ⟨ρ1, ρ2, ρ3, p, h1, h2, h3, h4, h5⟩ := h x List.mem_cons_self
    rw [List.length_cons] at hz
    rw [List.map_cons, lcGo, h1]
    dsimp only
    rw [h2]
    dsimp only
    rw [h3]
    dsimp only
    rw [if_pos (by omega), h5, h4, lcGo_map inj out ρ0 xs (acc ++ [out x]) (by rw [List.length_append, List.length_singleton]; omega) fun y hy => h y (List.mem_cons_of_mem _ hy)]
    simp
end Q
namespace Dn
open PySem Q
def lt_n_row_lengths_0 : Sl → Out Bool :=
  (tB1 (e2 dGt (eIxN 1 (e1 dNeg (eC (.int 1)))) (eC (.int 2))))
def lb_n_row_lengths_0 : Sl → SO :=
  (sApp 1 (e2 dFdiv (e2 dAdd (eIxN 1 (e1 dNeg (eC (.int 1)))) (eC (.int 1))) (eC (.int 2))))
def b_n_row_lengths : Sl → SO :=
  (sSeq (sAsg (eV hLst (aVal (eVar 0) aNil)) (gN 1))
  (sSeq (whGo lt_n_row_lengths_0 lb_n_row_lengths_0 1099511627776)
  (sRet (eMov 1))))
def den_n_row_lengths : List PV → FO := dnOf [false] 2 b_n_row_lengths
def b_n_count_levels : Sl → SO :=
  (sRet (e2 dSub (eV hLen (aVal (eCall [false] den_n_row_lengths (aVal (eVar 0) aNil)) aNil)) (eC (.int 1))))
def den_n_count_levels : List PV → FO := dnOf [false] 1 b_n_count_levels
def b_n_is_int : Sl → SO :=
  (sRet (eAnd (eV (hIs "int" tbInt) (aVal (eVar 0) (aVal (eC (.ty "int")) aNil))) (eNot (eV (hIs "bool" (tbOne "bool")) (aVal (eVar 0) (aVal (eC (.ty "bool")) aNil))))))
def den_n_is_int : List PV → FO := dnOf [false] 1 b_n_is_int
def b_n_is_whole : Sl → SO :=
  (sRet (eAnd (eCall [false] den_n_is_int (aVal (eVar 0) aNil)) (eCh dLe dLe (eVar 1) (eVar 0) (eVar 2))))
def den_n_is_whole : List PV → FO := dnOf [false, false, false] 3 b_n_is_whole
def b_n_require_length : Sl → SO :=
  (sIf (tN (tB1 (eCall [false, false, false] den_n_is_whole (aVal (eVar 0) (aVal (eC (.int 1)) (aVal (eVar 1) aNil)))))) (fun _ => .bad) sNext)
def den_n_require_length : List PV → FO := dnOf [false, false] 2 b_n_require_length
def b_n_level_count : Sl → SO :=
  (sSeq (sExpr (eCall [false, false] den_n_require_length (aVal (eVar 0) (aVal (eC (.int 1000000000000000000000000000000)) aNil))))
  (sRet (eCall [false] den_n_count_levels (aVal (eVar 0) aNil))))
def den_n_level_count : List PV → FO := dnOf [false] 1 b_n_level_count
def b_n__law_spool : Sl → SO :=
  (sSeq (sAsg (eC (.int 0)) (gN 2))
  (sSeq (sIf (tB1 (e2 dLt (eVar 1) (eLenN 0))) (sAsg (eIxN 0 (eVar 1)) (gN 2)) sNext)
  (sRet (eV hLst (aVal (eV hMax2 (aVal (eC (.int 0)) (aVal (e2 dSub (eVar 2) (e2 dPow (eC (.int 10)) (eC (.int 18)))) aNil))) (aVal (e2 dAdd (e2 dMul (e2 dMod (eV hAbs (aVal (eVar 2) aNil)) (e2 dAdd (e2 dPow (eC (.int 10)) (eC (.int 42))) (eC (.int 63)))) (eC (.int 16))) (eVar 1)) (aVal (eC (.int 0)) aNil)))))))
def den_n__law_spool : List PV → FO := dnOf [false, false] 3 b_n__law_spool
def b_n__law_reel : Sl → SO :=
  (sSeq (sIf (tB1 (e2 dGt (eIxN 0 (eC (.int 0))) (eC (.int 0)))) (sSeq (sAsg (e2 dMod (eV hInt (aVal (eIxN 0 (eC (.int 0))) aNil)) (eVar 1)) (gN 2))
  (sSeq (sSetI 0 (e2 dFdiv (eIxN 0 (eC (.int 0))) (eVar 1)) (eC (.int 0)))
  (sRet (eMov 2)))) sNext)
  (sSeq (sSetI 0 (e2 dAdd (eIxN 0 (eC (.int 2))) (eC (.int 1))) (eC (.int 2)))
  (sSeq (sAsg (e2 dMod (eV hInt (aVal (e2 dPow (e2 dAdd (eIxN 0 (eC (.int 1))) (e2 dMul (eC (.int 553105253)) (eIxN 0 (eC (.int 2))))) (eC (.int 3))) aNil)) (e2 dAdd (e2 dPow (eC (.int 10)) (eC (.int 45))) (eC (.int 9)))) (gN 3))
  (sSeq (sAsg (e2 dMod (eV hInt (aVal (e2 dPow (e2 dAdd (eVar 3) (e2 dMul (eC (.int 256203161)) (eIxN 0 (eC (.int 2))))) (eC (.int 2))) aNil)) (e2 dAdd (e2 dPow (eC (.int 10)) (eC (.int 43))) (eC (.int 57)))) (gN 3))
  (sRet (e2 dMod (eV hInt (aVal (e2 dFdiv (eVar 3) (eC (.int 4194301))) aNil)) (eVar 1)))))))
def den_n__law_reel : List PV → FO := dnOf [true, false] 4 b_n__law_reel
def lg_n__law_power_0 : PV → Sl → Option Sl :=
  (gN 3)
def lb_n__law_power_0 : Sl → SO :=
  (sAsg (e2 dMul (eVar 2) (eVar 0)) (gN 2))
def b_n__law_power : Sl → SO :=
  (sSeq (sAsg (eC (.int 1)) (gN 2))
  (sSeq (sFor (iV hRng1 (aVal (eVar 1) aNil)) lg_n__law_power_0 lb_n__law_power_0)
  (sRet (eMov 2))))
def den_n__law_power : List PV → FO := dnOf [false, false] 4 b_n__law_power
def b_n__law_length : Sl → SO :=
  (sSeq (sAsg (eCall [true, false] den_n__law_reel (aBor 0 (aVal (eC (.int 5)) aNil))) (gN 1))
  (sSeq (sIf (tB1 (e2 dEq (eVar 1) (eC (.int 0)))) (sRet (e2 dAdd (eC (.int 1)) (eCall [true, false] den_n__law_reel (aBor 0 (aVal (eC (.int 24)) aNil))))) sNext)
  (sSeq (sIf (tB1 (e2 dEq (eVar 1) (eC (.int 1)))) (sRet (e2 dAdd (eC (.int 1)) (eCall [true, false] den_n__law_reel (aBor 0 (aVal (eC (.int 5000)) aNil))))) sNext)
  (sSeq (sIf (tB1 (e2 dEq (eVar 1) (eC (.int 2)))) (sRet (eV hMax2 (aVal (eC (.int 1)) (aVal (e2 dAdd (e2 dSub (eCall [false, false] den_n__law_power (aVal (eC (.int 2)) (aVal (eCall [true, false] den_n__law_reel (aBor 0 (aVal (eC (.int 100)) aNil))) aNil))) (eC (.int 3))) (eCall [true, false] den_n__law_reel (aBor 0 (aVal (eC (.int 7)) aNil)))) aNil)))) sNext)
  (sRet (e2 dAdd (eC (.int 1)) (eCall [true, false] den_n__law_reel (aBor 0 (aVal (e2 dIx (eV hLst (aVal (e2 dPow (eC (.int 10)) (eC (.int 9))) (aVal (e2 dPow (eC (.int 10)) (eC (.int 30))) aNil))) (e2 dSub (eVar 1) (eC (.int 3)))) aNil)))))))))
def den_n__law_length : List PV → FO := dnOf [true] 2 b_n__law_length
def b_n__law_spot : Sl → SO :=
  (sSeq (sAsg (eCall [true, false] den_n__law_reel (aBor 0 (aVal (eC (.int 3)) aNil))) (gN 2))
  (sSeq (sIf (tB1 (e2 dEq (eVar 2) (eC (.int 2)))) (sRet (eCall [true, false] den_n__law_reel (aBor 0 (aVal (eVar 1) aNil)))) sNext)
  (sSeq (sAsg (eCall [true, false] den_n__law_reel (aBor 0 (aVal (eV hMin2 (aVal (eVar 1) (aVal (eC (.int 12)) aNil))) aNil))) (gN 3))
  (sRet (eIf (tB1 (e2 dEq (eVar 2) (eC (.int 0)))) (eVar 3) (e2 dSub (e2 dSub (eVar 1) (eC (.int 1))) (eVar 3)))))))
def den_n__law_spot : List PV → FO := dnOf [true, false] 4 b_n__law_spot
def b_n_row_length_of : Sl → SO :=
  (sRet (e2 dIx (eCall [false] den_n_row_lengths (aVal (eVar 0) aNil)) (eVar 1)))
def den_n_row_length_of : List PV → FO := dnOf [false, false] 2 b_n_row_length_of
def b_n_require_level : Sl → SO :=
  (sIf (tN (tB1 (eCall [false, false, false] den_n_is_whole (aVal (eVar 1) (aVal (eVar 2) (aVal (eCall [false] den_n_count_levels (aVal (eVar 0) aNil)) aNil)))))) (fun _ => .bad) sNext)
def den_n_require_level : List PV → FO := dnOf [false, false, false] 3 b_n_require_level
def b_n_require_index : Sl → SO :=
  (sIf (tN (tB1 (eCall [false, false, false] den_n_is_whole (aVal (eVar 1) (aVal (eC (.int 0)) (aVal (e2 dSub (eVar 0) (eC (.int 1))) aNil)))))) (fun _ => .bad) sNext)
def den_n_require_index : List PV → FO := dnOf [false, false] 2 b_n_require_index
def b_n_span_of : Sl → SO :=
  (sSeq (sPar (aVal (e2 dShl (eVar 2) (eVar 1)) (aVal (e2 dSub (e2 dShl (eC (.int 2)) (eVar 1)) (eC (.int 2))) aNil)) (g2 3 4))
  (sRet (eV hTup (aVal (eV hMax2 (aVal (eC (.int 0)) (aVal (e2 dSub (eVar 3) (eVar 4)) aNil))) (aVal (eV hMin2 (aVal (e2 dSub (eVar 0) (eC (.int 1))) (aVal (e2 dAdd (eVar 3) (eVar 4)) aNil))) aNil)))))
def den_n_span_of : List PV → FO := dnOf [false, false, false] 5 b_n_span_of
def b_n_coarse_span : Sl → SO :=
  (sSeq (sExpr (eCall [false, false] den_n_require_length (aVal (eVar 0) (aVal (eC (.int 1000000000000000000000000000000)) aNil))))
  (sSeq (sExpr (eCall [false, false, false] den_n_require_level (aVal (eVar 0) (aVal (eVar 1) (aVal (eC (.int 0)) aNil)))))
  (sSeq (sExpr (eCall [false, false] den_n_require_index (aVal (eCall [false, false] den_n_row_length_of (aVal (eVar 0) (aVal (eVar 1) aNil))) (aVal (eVar 2) aNil))))
  (sRet (eCall [false, false, false] den_n_span_of (aVal (eVar 0) (aVal (eVar 1) (aVal (eVar 2) aNil))))))))
def den_n_coarse_span : List PV → FO := dnOf [false, false, false] 3 b_n_coarse_span
def b_n_details_length_of : Sl → SO :=
  (sRet (e2 dFdiv (e2 dIx (eCall [false] den_n_row_lengths (aVal (eVar 0) aNil)) (e2 dSub (eVar 1) (eC (.int 1)))) (eC (.int 2))))
def den_n_details_length_of : List PV → FO := dnOf [false, false] 2 b_n_details_length_of
def b_n_detail_span : Sl → SO :=
  (sSeq (sExpr (eCall [false, false] den_n_require_length (aVal (eVar 0) (aVal (eC (.int 1000000000000000000000000000000)) aNil))))
  (sSeq (sExpr (eCall [false, false, false] den_n_require_level (aVal (eVar 0) (aVal (eVar 1) (aVal (eC (.int 1)) aNil)))))
  (sSeq (sExpr (eCall [false, false] den_n_require_index (aVal (eCall [false, false] den_n_details_length_of (aVal (eVar 0) (aVal (eVar 1) aNil))) (aVal (eVar 2) aNil))))
  (sSeq (sPar (aVal (eCall [false, false] den_n_row_length_of (aVal (eVar 0) (aVal (e2 dSub (eVar 1) (eC (.int 1))) aNil))) (aVal (e2 dMul (eC (.int 2)) (eVar 2)) (aVal (e2 dAdd (e2 dMul (eC (.int 2)) (eVar 2)) (eC (.int 2))) aNil))) (g3 3 4 5))
  (sSeq (sIf (tB1 (e2 dEq (eVar 5) (eVar 3))) (sPar (aVal (e2 dSub (eVar 3) (eC (.int 4))) (aVal (e2 dSub (eVar 3) (eC (.int 1))) aNil)) (g2 4 5)) sNext)
  (sRet (eV hTup (aVal (e2 dIx (eCall [false, false, false] den_n_span_of (aVal (eVar 0) (aVal (e2 dSub (eVar 1) (eC (.int 1))) (aVal (eVar 4) aNil)))) (eC (.int 0))) (aVal (e2 dIx (eCall [false, false, false] den_n_span_of (aVal (eVar 0) (aVal (e2 dSub (eVar 1) (eC (.int 1))) (aVal (eVar 5) aNil)))) (eC (.int 1))) aNil)))))))))
def den_n_detail_span : List PV → FO := dnOf [false, false, false] 6 b_n_detail_span
def b_n_require_place : Sl → SO :=
  (sIf (tN (tB1 (eCall [false, false, false] den_n_is_whole (aVal (eVar 1) (aVal (eC (.int 0)) (aVal (e2 dSub (eVar 0) (eC (.int 1))) aNil)))))) (fun _ => .bad) sNext)
def den_n_require_place : List PV → FO := dnOf [false, false] 2 b_n_require_place
def b_n_touched_details : Sl → SO :=
  (sSeq (sPar (aVal (eV hMax2 (aVal (eC (.int 0)) (aVal (e2 dFdiv (e2 dSub (eVar 1) (eC (.int 1))) (eC (.int 2))) aNil))) (aVal (eV hMin2 (aVal (e2 dFdiv (eVar 2) (eC (.int 2))) (aVal (e2 dSub (e2 dFdiv (eVar 0) (eC (.int 2))) (eC (.int 1))) aNil))) aNil)) (g2 3 4))
  (sSeq (sIf (tA (tB1 (e2 dEq (e2 dMod (eVar 0) (eC (.int 2))) (eC (.int 0)))) (tB1 (eCh dLe dLe (eVar 1) (e2 dSub (eVar 0) (eC (.int 4))) (eVar 2)))) (sAsg (e2 dSub (e2 dFdiv (eVar 0) (eC (.int 2))) (eC (.int 1))) (gN 4)) sNext)
  (sRet (eV hTup (aVal (eVar 3) (aVal (eVar 4) aNil))))))
def den_n_touched_details : List PV → FO := dnOf [false, false, false] 5 b_n_touched_details
def lg_n_touched_parts_0 : PV → Sl → Option Sl :=
  (gT (gCons (gN 5) (gCons (gN 6) gNil)))
def lb_n_touched_parts_0 : Sl → SO :=
  (sSeq (sAsg (eCall [false, false, false] den_n_touched_details (aVal (eVar 6) (aVal (eVar 2) (aVal (eVar 3) aNil)))) (gT (gCons (gN 7) (gCons (gN 8) gNil))))
  (sSeq (sApp 4 (eV hTup (aVal (e2 dAdd (eVar 5) (eC (.int 1))) (aVal (eVar 7) (aVal (eVar 8) aNil)))))
  (sPar (aVal (eVar 7) (aVal (eV hMin2 (aVal (e2 dAdd (eVar 8) (eC (.int 1))) (aVal (e2 dFdiv (e2 dSub (eVar 6) (eC (.int 1))) (eC (.int 2))) aNil))) aNil)) (g2 2 3))))
def b_n_touched_parts : Sl → SO :=
  (sSeq (sPar (aVal (eVar 1) (aVal (eVar 1) (aVal (eV hLst aNil) aNil))) (g3 2 3 4))
  (sSeq (sFor (iV hEnum (aVal (eSl (eCall [false] den_n_row_lengths (aVal (eVar 0) aNil)) oNone (oSome (e1 dNeg (eC (.int 1))))) aNil)) lg_n_touched_parts_0 lb_n_touched_parts_0)
  (sRet (eV hTup (aVal (eV hTup (aVal (eVar 2) (aVal (eVar 3) aNil))) (aVal (eVar 4) aNil))))))
def den_n_touched_parts : List PV → FO := dnOf [false, false] 9 b_n_touched_parts
def b_n_touched : Sl → SO :=
  (sSeq (sExpr (eCall [false, false] den_n_require_length (aVal (eVar 0) (aVal (eC (.int 1000000000000000000000000000000)) aNil))))
  (sSeq (sExpr (eCall [false, false] den_n_require_place (aVal (eVar 0) (aVal (eVar 1) aNil))))
  (sRet (e2 dIx (eCall [false, false] den_n_touched_parts (aVal (eVar 0) (aVal (eVar 1) aNil))) (eC (.int 1))))))
def den_n_touched : List PV → FO := dnOf [false, false] 2 b_n_touched
def b_n_touched_top : Sl → SO :=
  (sSeq (sExpr (eCall [false, false] den_n_require_length (aVal (eVar 0) (aVal (eC (.int 1000000000000000000000000000000)) aNil))))
  (sSeq (sExpr (eCall [false, false] den_n_require_place (aVal (eVar 0) (aVal (eVar 1) aNil))))
  (sRet (e2 dIx (eCall [false, false] den_n_touched_parts (aVal (eVar 0) (aVal (eVar 1) aNil))) (eC (.int 0))))))
def den_n_touched_top : List PV → FO := dnOf [false, false] 2 b_n_touched_top
def b_n_row_length : Sl → SO :=
  (sSeq (sExpr (eCall [false, false] den_n_require_length (aVal (eVar 0) (aVal (eC (.int 1000000000000000000000000000000)) aNil))))
  (sSeq (sExpr (eCall [false, false, false] den_n_require_level (aVal (eVar 0) (aVal (eVar 1) (aVal (eC (.int 0)) aNil)))))
  (sRet (eCall [false, false] den_n_row_length_of (aVal (eVar 0) (aVal (eVar 1) aNil))))))
def den_n_row_length : List PV → FO := dnOf [false, false] 2 b_n_row_length
def b_n_details_length : Sl → SO :=
  (sSeq (sExpr (eCall [false, false] den_n_require_length (aVal (eVar 0) (aVal (eC (.int 1000000000000000000000000000000)) aNil))))
  (sSeq (sExpr (eCall [false, false, false] den_n_require_level (aVal (eVar 0) (aVal (eVar 1) (aVal (eC (.int 1)) aNil)))))
  (sRet (eCall [false, false] den_n_details_length_of (aVal (eVar 0) (aVal (eVar 1) aNil))))))
def den_n_details_length : List PV → FO := dnOf [false, false] 2 b_n_details_length
def b_n__law_within : Sl → SO :=
  (sRet (eCh dLe dLe (eIxN 0 (eC (.int 0))) (eVar 1) (eIxN 0 (eC (.int 1)))))
def den_n__law_within : List PV → FO := dnOf [false, false] 2 b_n__law_within
def b_n__law_gap : Sl → SO :=
  (sRet (eAnd (e2 dEq (eVar 1) (eC (.int 1))) (eAnd (e2 dEq (e2 dAdd (e2 dMul (eC (.int 2)) (eVar 2)) (eC (.int 2))) (eVar 0)) (e2 dEq (eVar 3) (e2 dSub (eVar 0) (eC (.int 3)))))))
def den_n__law_gap : List PV → FO := dnOf [false, false, false, false] 4 b_n__law_gap
def lg_n__law_place_right_0 : PV → Sl → Option Sl :=
  (gN 9)
def lb_n__law_place_right_0 : Sl → SO :=
  (sIf (tB1 (e2 dNe (eCh dLe dLe (eVar 6) (eVar 9) (eVar 7)) (eCall [false, false] den_n__law_within (aVal (eCall [false, false, false] den_n_coarse_span (aVal (eVar 1) (aVal (eVar 4) (aVal (eVar 9) aNil)))) (aVal (eVar 2) aNil))))) (sRet (eC (.bl false))) sNext)
def lg_n__law_place_right_2 : PV → Sl → Option Sl :=
  (gN 9)
def lb_n__law_place_right_2 : Sl → SO :=
  (sIf (tA (tB1 (eCh dLe dLt (eC (.int 0)) (eVar 9) (eVar 8))) (tN (tB1 (eCall [false, false, false, false] den_n__law_gap (aVal (eVar 1) (aVal (eVar 5) (aVal (eVar 9) (aVal (eVar 2) aNil)))))))) (sIf (tB1 (eCall [false, false] den_n__law_within (aVal (eCall [false, false, false] den_n_detail_span (aVal (eVar 1) (aVal (eVar 5) (aVal (eVar 9) aNil)))) (aVal (eVar 2) aNil)))) (sRet (eC (.bl false))) sNext) sNext)
def lg_n__law_place_right_4 : PV → Sl → Option Sl :=
  (gN 9)
def lb_n__law_place_right_4 : Sl → SO :=
  (sIf (tN (tB1 (eCall [false, false] den_n__law_within (aVal (eCall [false, false, false] den_n_detail_span (aVal (eVar 1) (aVal (eVar 5) (aVal (eVar 9) aNil)))) (aVal (eVar 2) aNil))))) (sRet (eC (.bl false))) sNext)
def lg_n__law_place_right_6 : PV → Sl → Option Sl :=
  (gT (gCons (gN 5) (gCons (gN 6) (gCons (gN 7) gNil))))
def lb_n__law_place_right_6 : Sl → SO :=
  (sSeq (sAsg (eCall [false, false] den_n_details_length (aVal (eVar 1) (aVal (eVar 5) aNil))) (gN 8))
  (sSeq (sIf (tN (tB1 (eChn (eC (.int 0)) (kLink dLe (eVar 6) (kLink dLe (eVar 7) (kLast dLt (eVar 8))))))) (sRet (eC (.bl false))) sNext)
  (sSeq (sFor (iSeq (eV hLst (aVal (eVar 6) (aVal (eVar 7) (aVal (e2 dAdd (eVar 6) (eCall [true, false] den_n__law_reel (aBor 0 (aVal (e2 dAdd (e2 dSub (eVar 7) (eVar 6)) (eC (.int 1))) aNil)))) aNil))))) lg_n__law_place_right_4 lb_n__law_place_right_4)
  (sFor (iSeq (eV hLst (aVal (e2 dSub (eVar 6) (eC (.int 1))) (aVal (e2 dAdd (eVar 7) (eC (.int 1))) aNil)))) lg_n__law_place_right_2 lb_n__law_place_right_2))))
def b_n__law_place_right : Sl → SO :=
  (sSeq (sPar (aVal (eCall [false, false] den_n_touched (aVal (eVar 1) (aVal (eVar 2) aNil))) (aVal (eCall [false] den_n_level_count (aVal (eVar 1) aNil)) aNil)) (g2 3 4))
  (sSeq (sIf (tB1 (e2 dNe (eLc [10] (iSeq (eVar 3)) (gN 10) tTrue (eIxN 10 (eC (.int 0)))) (e2 hRg2 (eC (.int 1)) (e2 dAdd (eVar 4) (eC (.int 1)))))) (sRet (eC (.bl false))) sNext)
  (sSeq (sFor (iSeq (eVar 3)) lg_n__law_place_right_6 lb_n__law_place_right_6)
  (sSeq (sAsg (eCall [false, false] den_n_touched_top (aVal (eVar 1) (aVal (eVar 2) aNil))) (gT (gCons (gN 6) (gCons (gN 7) gNil))))
  (sSeq (sFor (iV hRng1 (aVal (eCall [false, false] den_n_row_length (aVal (eVar 1) (aVal (eVar 4) aNil))) aNil)) lg_n__law_place_right_0 lb_n__law_place_right_0)
  (sRet (eC (.bl true))))))))
def den_n__law_place_right : List PV → FO := dnOf [true, false, false] 11 b_n__law_place_right
def lg_n__law_number_right_0 : PV → Sl → Option Sl :=
  (gN 6)
def lb_n__law_number_right_0 : Sl → SO :=
  (sIf (tA (tB1 (eCh dLe dLt (eC (.int 0)) (eVar 6) (eVar 1))) (tN (tB1 (eCall [false, false, false, false] den_n__law_gap (aVal (eVar 1) (aVal (eVar 2) (aVal (eVar 3) (aVal (eVar 6) aNil)))))))) (sSeq (sAsg (e2 dIx (eCall [false, false] den_n_touched (aVal (eVar 1) (aVal (eVar 6) aNil))) (e2 dSub (eVar 2) (eC (.int 1)))) (gN 7))
  (sIf (tB1 (e2 dNe (eCh dLe dLe (eIxN 7 (eC (.int 1))) (eVar 3) (eIxN 7 (eC (.int 2)))) (eCh dLe dLe (eVar 4) (eVar 6) (eVar 5)))) (sRet (eC (.bl false))) sNext)) sNext)
def b_n__law_number_right : Sl → SO :=
  (sSeq (sAsg (e2 dAdd (eC (.int 1)) (eCall [true, false] den_n__law_reel (aBor 0 (aVal (eCall [false] den_n_level_count (aVal (eVar 1) aNil)) aNil)))) (gN 2))
  (sSeq (sAsg (eCall [true, false] den_n__law_spot (aBor 0 (aVal (eCall [false, false] den_n_details_length (aVal (eVar 1) (aVal (eVar 2) aNil))) aNil))) (gN 3))
  (sSeq (sAsg (eCall [false, false, false] den_n_detail_span (aVal (eVar 1) (aVal (eVar 2) (aVal (eVar 3) aNil)))) (gT (gCons (gN 4) (gCons (gN 5) gNil))))
  (sSeq (sIf (tN (tB1 (eChn (eC (.int 0)) (kLink dLe (eVar 4) (kLink dLe (eVar 5) (kLast dLt (eVar 1))))))) (sRet (eC (.bl false))) sNext)
  (sSeq (sFor (iSeq (eV hLst (aVal (eVar 4) (aVal (eVar 5) (aVal (e2 dAdd (eVar 4) (eCall [true, false] den_n__law_reel (aBor 0 (aVal (e2 dAdd (e2 dSub (eVar 5) (eVar 4)) (eC (.int 1))) aNil)))) (aVal (e2 dSub (eVar 4) (eC (.int 1))) (aVal (e2 dAdd (eVar 5) (eC (.int 1))) aNil))))))) lg_n__law_number_right_0 lb_n__law_number_right_0)
  (sSeq (sIf (tB1 (e2 dLt (e2 dAdd (eVar 3) (eC (.int 1))) (eCall [false, false] den_n_details_length (aVal (eVar 1) (aVal (eVar 2) aNil))))) (sSeq (sAsg (eCall [false, false, false] den_n_detail_span (aVal (eVar 1) (aVal (eVar 2) (aVal (e2 dAdd (eVar 3) (eC (.int 1))) aNil)))) (gN 8))
  (sIf (tO (tB1 (e2 dLt (eIxN 8 (eC (.int 0))) (eVar 4))) (tB1 (e2 dLt (eIxN 8 (eC (.int 1))) (eVar 5)))) (sRet (eC (.bl false))) sNext)) sNext)
  (sSeq (sAsg (eCall [false, false, false] den_n_coarse_span (aVal (eVar 1) (aVal (eVar 2) (aVal (eVar 3) aNil)))) (gN 9))
  (sRet (eAnd (e2 dLe (eIxN 9 (eC (.int 0))) (eVar 4)) (e2 dLe (e2 dMul (eVar 3) (eCall [false, false] den_n__law_power (aVal (eC (.int 2)) (aVal (eVar 2) aNil)))) (eVar 5)))))))))))
def den_n__law_number_right : List PV → FO := dnOf [true, false] 10 b_n__law_number_right
def lg_n__law_order_right_0 : PV → Sl → Option Sl :=
  (gT (gCons (gN 2) (gCons (gN 3) gNil)))
def lb_n__law_order_right_0 : Sl → SO :=
  (sIf (tO (tB1 (e2 dLt (eIxN 3 (eC (.int 1))) (eIxN 2 (eC (.int 1))))) (tA (tB1 (e2 dLt (eIxN 3 (eC (.int 2))) (eIxN 2 (eC (.int 2))))) (tN (tB1 (eCall [false, false, false, false] den_n__law_gap (aVal (eVar 0) (aVal (eIxN 2 (eC (.int 0))) (aVal (eIxN 2 (eC (.int 2))) (aVal (e2 dAdd (eVar 1) (eC (.int 1))) aNil))))))))) (sRet (eC (.bl false))) sNext)
def b_n__law_order_right : Sl → SO :=
  (sSeq (sIf (tB1 (e2 dEq (e2 dAdd (eVar 1) (eC (.int 1))) (eVar 0))) (sRet (eC (.bl true))) sNext)
  (sSeq (sFor (iV hZip (aVal (eCall [false, false] den_n_touched (aVal (eVar 0) (aVal (eVar 1) aNil))) (aVal (eCall [false, false] den_n_touched (aVal (eVar 0) (aVal (e2 dAdd (eVar 1) (eC (.int 1))) aNil))) aNil))) lg_n__law_order_right_0 lb_n__law_order_right_0)
  (sSeq (sPar (aVal (eCall [false, false] den_n_touched_top (aVal (eVar 0) (aVal (eVar 1) aNil))) (aVal (eCall [false, false] den_n_touched_top (aVal (eVar 0) (aVal (e2 dAdd (eVar 1) (eC (.int 1))) aNil))) aNil)) (g2 2 3))
  (sRet (eAnd (e2 dLe (eIxN 2 (eC (.int 0))) (eIxN 3 (eC (.int 0)))) (e2 dLe (eIxN 2 (eC (.int 1))) (eIxN 3 (eC (.int 1)))))))))
def den_n__law_order_right : List PV → FO := dnOf [false, false] 4 b_n__law_order_right
def lg_n_law_0 : PV → Sl → Option Sl :=
  (gN 4)
def lb_n_law_0 : Sl → SO :=
  (sSeq (sAsg (eCall [true, false] den_n__law_spot (aBor 2 (aVal (eVar 3) aNil))) (gN 5))
  (sIf (tO (tN (tB1 (eCall [true, false, false] den_n__law_place_right (aBor 2 (aVal (eVar 3) (aVal (eVar 5) aNil)))))) (tN (tB1 (eCall [false, false] den_n__law_order_right (aVal (eVar 3) (aVal (eVar 5) aNil)))))) (sRet (eC (.bl false))) sNext))
def lg_n_law_2 : PV → Sl → Option Sl :=
  (gN 1)
def lb_n_law_2 : Sl → SO :=
  (sSeq (sAsg (eCall [false, false] den_n__law_spool (aVal (eVar 0) (aVal (eVar 1) aNil))) (gN 2))
  (sSeq (sAsg (eCall [true] den_n__law_length (aBor 2 aNil)) (gN 3))
  (sSeq (sFor (iV hRng1 (aVal (eC (.int 2)) aNil)) lg_n_law_0 lb_n_law_0)
  (sIf (tA (tB1 (e2 dGt (eCall [false] den_n_level_count (aVal (eVar 3) aNil)) (eC (.int 0)))) (tN (tB1 (eCall [true, false] den_n__law_number_right (aBor 2 (aVal (eVar 3) aNil)))))) (sRet (eC (.bl false))) sNext))))
def b_n_law : Sl → SO :=
  (sSeq (sFor (iV hRng1 (aVal (eV hMax2 (aVal (eC (.int 1)) (aVal (eV hMin2 (aVal (eC (.int 8)) (aVal (eLenN 0) aNil))) aNil))) aNil)) lg_n_law_2 lb_n_law_2)
  (sRet (eC (.bl true))))
def den_n_law : List PV → FO := dnOf [false] 6 b_n_law
end Dn
namespace Mt
open PySem Q Dn

/-! ### equality of small data -/
theorem shaped_bool (b : Bool) : SeqAt.shaped (.bool b) = true := rfl
theorem eqD_bl (a b : Bool) : eqD (.bl a) (.bl b) = some (a == b) := by
  cases a <;> cases b <;> rfl
@[simp] theorem ev_eqB (a b : Bool) : dEq (.fr (.bl a)) (.fr (.bl b)) = some (.fr (.bl (a == b))) := by
  unfold dEq; simp only [ev_fz1, eqD_bl]
@[simp] theorem ev_neB (a b : Bool) : dNe (.fr (.bl a)) (.fr (.bl b)) = some (.fr (.bl (!(a == b)))) := by
  unfold dNe; simp only [ev_fz1, eqD_bl]
theorem pyL_ints : ∀ xs : List Int, pyL (xs.map .int) = some (xs.map .int)
  | [] => rfl
  | x :: xs => by rw [List.map_cons, pyL, pyL_ints xs]; rfl
theorem canLay_ints : ∀ xs : List Int, PyData.canLayAll0 (xs.map .int) = true
  | [] => rfl
  | x :: xs => by rw [List.map_cons, PyData.canLayAll0, canLay_ints xs]; rfl
theorem depth_ints : ∀ xs : List Int, PyData.depthAll (xs.map .int) ≤ 1
  | [] => by simp [PyData.depthAll]
  | x :: xs => by
    have := depth_ints xs
    simp only [List.map_cons, PyData.depthAll, PyData.depth]
    omega
theorem shaped_ints (xs : List Int) : SeqAt.shaped (.list (xs.map .int)) = true := by
  unfold SeqAt.shaped
  rw [Bool.and_eq_true]
  refine ⟨by rw [PyData.canLay0]; exact canLay_ints xs, decide_eq_true ?_⟩
  have := depth_ints xs
  simp only [PyData.depth]
  omega
theorem eqv_ints : ∀ xs ys : List Int, PyData.eqvAll (xs.map .int) (ys.map .int) = decide (xs = ys)
  | [], [] => rfl
  | [], _ :: _ => rfl
  | _ :: _, [] => rfl
  | x :: xs, y :: ys => by
    rw [List.map_cons, List.map_cons, PyData.eqvAll, eqv_ints xs ys]
    simp only [PyData.eqv]
    by_cases h : x = y <;> by_cases h2 : xs = ys <;> simp [h, h2]
theorem eqD_ints (xs ys : List Int) : eqD (.lst (xs.map .int)) (.lst (ys.map .int)) = some (decide (xs = ys)) := by
  unfold eqD
  simp only [D.py, pyL_ints, shaped_ints, and_self, if_true, PyData.eqv, eqv_ints]

/-! ### sizes of ints -/
def Bd (k : Nat) (i : Int) : Prop := i.natAbs < 2 ^ k
theorem log2_lt {i : Int} {k : Nat} (h : i.natAbs < 2 ^ k) (hk : 0 < k) : i.natAbs.log2 < k := PySem.Flt.log2_lt_of hk h
theorem mulOk_of {i j : Int} {a b : Nat} (hi : i.natAbs < 2 ^ a) (hj : j.natAbs < 2 ^ b) (ha : 0 < a) (hb : 0 < b) (h : a + b ≤ 1000000) : mulOk i j = true := by
  have h1 := log2_lt hi ha
  have h2 := log2_lt hj hb
  unfold mulOk
  exact decide_eq_true (by omega)
theorem fdivOk_of {i j : Int} {b : Nat} (h0 : 0 < j) (hj : j.natAbs < 2 ^ b) (hb : 0 < b) (h : b ≤ 9000) : fdivOk i j = true := by
  have h2 := log2_lt hj hb
  unfold fdivOk
  rw [Bool.and_eq_true]
  exact ⟨decide_eq_true h0, decide_eq_true (by omega)⟩
theorem fdiv2 (i : Int) : fdivOk i 2 = true := fdivOk_of (b := 2) (by decide) (by decide) (by decide) (by decide)
theorem fdiv4 (i : Int) : fdivOk i 4 = true := fdivOk_of (b := 3) (by decide) (by decide) (by decide) (by decide)

end Mt

namespace Mt
open PySem Q Dn L2

theorem is_int_int (i : Int) : den_n_is_int [.fr (.int i)] = .ret (.fr (.bl true)) [] := rfl
theorem is_whole_int (i a b : Int) : den_n_is_whole [.fr (.int i), .fr (.int a), .fr (.int b)] = .ret (.fr (.bl (decide (a ≤ i ∧ i ≤ b)))) [] := by
  by_cases h : a ≤ i
  · by_cases h2 : i ≤ b <;> simp [den_n_is_whole, b_n_is_whole, ev_dn, is_int_int, h, h2]
  · simp [den_n_is_whole, b_n_is_whole, ev_dn, is_int_int, h]

/-! ### row lengths -/
def rowsF : Nat → Int → List Int
  | 0, n => [n]
  | f + 1, n => n :: (if 2 < n then rowsF f ((n + 1) / 2) else [])
def rows (n : Int) : List Int := rowsF 200 n
abbrev G30 : Int := 1000000000000000000000000000000
theorem rowsF_len : ∀ (f : Nat) (n : Int), (rowsF f n).length ≤ f + 1
  | 0, n => Nat.le_refl _
  | f + 1, n => by
    unfold rowsF
    split
    · have := rowsF_len f ((n + 1) / 2)
      simp only [List.length_cons]
      omega
    · simp
theorem rl_loop (n : Int) : ∀ (f fuel : Nat) (acc : List Int) (m : Int), f < fuel → m ≤ 2 ^ (f + 1) → acc.length + f + 1 < 16777216 →
    whGo lt_n_row_lengths_0 lb_n_row_lengths_0 fuel [some (.fr (.int n)), some (.oL ((acc ++ [m]).map .int))] = .nx [some (.fr (.int n)), some (.oL ((acc ++ rowsF f m).map .int))] := by
  intro f
  induction f with
  | zero =>
    intro fuel acc m hf hm hz
    obtain ⟨k, rfl⟩ : ∃ k, fuel = k + 1 := ⟨fuel - 1, by omega⟩
    have h2 : ¬ 2 < m := by simpa using hm
    rw [wg_succ]
    simp [lt_n_row_lengths_0, rowsF, h2]
  | succ f ih =>
    intro fuel acc m hf hm hz
    obtain ⟨k, rfl⟩ : ∃ k, fuel = k + 1 := ⟨fuel - 1, by omega⟩
    rw [wg_succ]
    unfold rowsF
    by_cases h2 : 2 < m
    · have hm2 : (m + 1) / 2 ≤ 2 ^ (f + 1) := by
        have e : (2 : Int) ^ (f + 1 + 1) = 2 * 2 ^ (f + 1) := by rw [Int.pow_succ]; omega
        rw [e] at hm
        omega
      have := ih k (acc ++ [m]) ((m + 1) / 2) (by omega) hm2 (by simp; omega)
      have hz2 : acc.length + 1 < 16777216 := by omega
      simp [lt_n_row_lengths_0, lb_n_row_lengths_0, h2, fdiv2, hz2] at this ⊢
      rw [this]
    · simp [lt_n_row_lengths_0, h2]
theorem row_lengths (n : Int) (hn : n ≤ G30) : den_n_row_lengths [.fr (.int n)] = .ret (.oL ((rows n).map .int)) [] := by
  have h := rl_loop n 200 1099511627776 [] n (by decide) (Int.le_trans hn (by decide)) (by decide)
  simp only [List.nil_append, List.map_cons, List.map_nil] at h
  simp [den_n_row_lengths, b_n_row_lengths, ev_dn, h, rows]

/-- the k-th row's length -/
def Lr (n : Int) : Nat → Int
  | 0 => n
  | k + 1 => (Lr n k + 1) / 2
theorem Lr_shift (n : Int) : ∀ k, Lr ((n + 1) / 2) k = Lr n (k + 1)
  | 0 => rfl
  | k + 1 => by show (Lr ((n + 1) / 2) k + 1) / 2 = _; rw [Lr_shift n k]; rfl
theorem rowsF_get : ∀ (f : Nat) (n : Int) (k : Nat), k < (rowsF f n).length → (rowsF f n)[k]? = some (Lr n k)
  | 0, n, k, h => by
    have : k = 0 := by simp [rowsF] at h; omega
    subst this; rfl
  | f + 1, n, 0, h => rfl
  | f + 1, n, k + 1, h => by
    unfold rowsF at h ⊢
    split at h
    · rename_i h2
      rw [if_pos h2, List.getElem?_cons_succ, rowsF_get f _ k (by simpa using h), Lr_shift]
    · simp at h
theorem rowsF_big : ∀ (f : Nat) (n : Int) (k : Nat), k + 1 < (rowsF f n).length → 2 < Lr n k
  | 0, n, k, h => by simp [rowsF] at h
  | f + 1, n, k, h => by
    unfold rowsF at h
    split at h
    · rename_i h2
      cases k with
      | zero => exact h2
      | succ k => rw [← Lr_shift]; exact rowsF_big f _ k (by simpa using h)
    · simp at h
theorem rowsF_last : ∀ (f : Nat) (n : Int), n ≤ 2 ^ (f + 1) → Lr n ((rowsF f n).length - 1) ≤ 2
  | 0, n, h => by simpa [rowsF, Lr] using h
  | f + 1, n, h => by
    unfold rowsF
    split
    · rename_i h2
      have hm2 : (n + 1) / 2 ≤ 2 ^ (f + 1) := by
        have e : (2 : Int) ^ (f + 1 + 1) = 2 * 2 ^ (f + 1) := by rw [Int.pow_succ]; omega
        rw [e] at h
        omega
      have := rowsF_last f _ hm2
      have hl : 0 < (rowsF f ((n + 1) / 2)).length := by cases f <;> simp [rowsF]
      rw [Lr_shift] at this
      rw [List.length_cons, show (rowsF f ((n + 1) / 2)).length + 1 - 1 = (rowsF f ((n + 1) / 2)).length - 1 + 1 by omega]
      exact this
    · rename_i h2
      simp [Lr]; omega
/-- the greatest level -/
def Kn (n : Int) : Nat := (rows n).length - 1
theorem rows_len (n : Int) : (rows n).length = Kn n + 1 := by
  have : 0 < (rows n).length := by unfold rows rowsF; simp
  unfold Kn
  omega
theorem Kn_le (n : Int) : Kn n ≤ 200 := by
  have := rowsF_len 200 n
  unfold Kn rows
  omega
theorem rows_get (n : Int) {k : Nat} (h : k ≤ Kn n) : (rows n)[k]? = some (Lr n k) := rowsF_get 200 n k (by have := rows_len n; unfold rows at this; omega)
theorem rows_big (n : Int) {k : Nat} (h : k < Kn n) : 2 < Lr n k := rowsF_big 200 n k (by have := rows_len n; unfold rows at this; omega)
theorem rows_last (n : Int) (hn : n ≤ G30) : Lr n (Kn n) ≤ 2 := rowsF_last 200 n (Int.le_trans hn (by decide))
theorem Lr_pos (n : Int) (hn : 1 ≤ n) : ∀ k, 1 ≤ Lr n k
  | 0 => hn
  | k + 1 => by have := Lr_pos n hn k; show 1 ≤ (Lr n k + 1) / 2; omega
theorem count_levels (n : Int) (hn : n ≤ G30) : den_n_count_levels [.fr (.int n)] = .ret (.fr (.int (Kn n))) [] := by
  have hl := rows_len n
  simp [den_n_count_levels, b_n_count_levels, ev_dn, row_lengths n hn, hl]
theorem row_length_of (n : Int) (hn : n ≤ G30) (k : Nat) (hk : k ≤ Kn n) : den_n_row_length_of [.fr (.int n), .fr (.int k)] = .ret (.fr (.int (Lr n k))) [] := by
  have h : atI ((rows n).map D.int) (k : Int) = some (.int (Lr n k)) := L2.atI_nat (by rw [List.getElem?_map, rows_get n hk]; rfl)
  simp [den_n_row_length_of, b_n_row_length_of, ev_dn, row_lengths n hn, h]
theorem details_length_of (n : Int) (hn : n ≤ G30) (k : Nat) (hk : k < Kn n) : den_n_details_length_of [.fr (.int n), .fr (.int ((k + 1 : Nat) : Int))] = .ret (.fr (.int (Lr n k / 2))) [] := by
  have e : (((k + 1 : Nat) : Int)) - 1 = (k : Int) := by omega
  have h : atI ((rows n).map D.int) (k : Int) = some (.int (Lr n k)) := L2.atI_nat (by rw [List.getElem?_map, rows_get n (Nat.le_of_lt hk)]; rfl)
  simp [den_n_details_length_of, b_n_details_length_of, ev_dn, row_lengths n hn, h, e, fdiv2]

/-! ### checks -/
theorem require_length (n : Int) (h1 : 1 ≤ n) (hn : n ≤ G30) : den_n_require_length [.fr (.int n), .fr (.int G30)] = .ret (.fr .non) [] := by
  simp [den_n_require_length, b_n_require_length, ev_dn, is_whole_int, h1, hn]
theorem require_level (n : Int) (hn : n ≤ G30) (k a : Int) (h0 : a ≤ k) (h1 : k ≤ Kn n) : den_n_require_level [.fr (.int n), .fr (.int k), .fr (.int a)] = .ret (.fr .non) [] := by
  simp [den_n_require_level, b_n_require_level, ev_dn, is_whole_int, count_levels n hn, h0, h1]
theorem require_place (n p : Int) (h0 : 0 ≤ p) (h1 : p < n) : den_n_require_place [.fr (.int n), .fr (.int p)] = .ret (.fr .non) [] := by
  have h2 : p ≤ n - 1 := by omega
  simp [den_n_require_place, b_n_require_place, ev_dn, is_whole_int, h0, h2]
theorem require_index (m i : Int) (h0 : 0 ≤ i) (h1 : i < m) : den_n_require_index [.fr (.int m), .fr (.int i)] = .ret (.fr .non) [] := by
  have h2 : i ≤ m - 1 := by omega
  simp [den_n_require_index, b_n_require_index, ev_dn, is_whole_int, h0, h2]
theorem level_count (n : Int) (h1 : 1 ≤ n) (hn : n ≤ G30) : den_n_level_count [.fr (.int n)] = .ret (.fr (.int (Kn n))) [] := by
  simp [den_n_level_count, b_n_level_count, ev_dn, require_length n h1 hn, count_levels n hn]
theorem row_length (n : Int) (h1 : 1 ≤ n) (hn : n ≤ G30) (k : Nat) (hk : k ≤ Kn n) : den_n_row_length [.fr (.int n), .fr (.int k)] = .ret (.fr (.int (Lr n k))) [] := by
  simp [den_n_row_length, b_n_row_length, ev_dn, require_length n h1 hn, require_level n hn k 0 (by omega) (by omega), row_length_of n hn k hk]
theorem details_length (n : Int) (h1 : 1 ≤ n) (hn : n ≤ G30) (k : Nat) (hk : k < Kn n) : den_n_details_length [.fr (.int n), .fr (.int ((k + 1 : Nat) : Int))] = .ret (.fr (.int (Lr n k / 2))) [] := by
  have h := details_length_of n hn k hk
  have h2 := require_level n hn ((k + 1 : Nat) : Int) 1 (by omega) (by omega)
  simp only [Int.natCast_add, Int.cast_ofNat_Int] at h h2
  simp [den_n_details_length, b_n_details_length, ev_dn, require_length n h1 hn, h2, h]
end Mt

namespace Mt
open PySem Q Dn L2

theorem cutD_last {α : List D} (h : α ≠ []) : cutD α none (some (-1)) = α.take (α.length - 1) := by
  unfold cutD
  have e0 : HT.sIx α.length 0 none = 0 := rfl
  have hl : 0 < α.length := List.length_pos_iff.mpr h
  have e1 : HT.sIx α.length α.length (some (-1)) = α.length - 1 := by
    unfold HT.sIx
    simp
    omega
  rw [e0, e1]
  simp

/-! ### touched -/
def tdB (f : Int) : Int := if (f - 1) / 2 > 0 then (f - 1) / 2 else 0
def tdE (m f l : Int) : Int := if m % 2 = 0 ∧ f ≤ m - 4 ∧ m - 4 ≤ l then m / 2 - 1 else (if m / 2 - 1 < l / 2 then m / 2 - 1 else l / 2)
theorem touched_details (m f l : Int) : den_n_touched_details [.fr (.int m), .fr (.int f), .fr (.int l)] = .ret (.fr (.tup [.int (tdB f), .int (tdE m f l)])) [] := by
  unfold tdE tdB
  by_cases h1 : m % 2 = 0
  · by_cases h2 : f ≤ m - 4
    · by_cases h3 : m - 4 ≤ l <;> simp [den_n_touched_details, b_n_touched_details, ev_dn, fdiv2, h1, h2, h3]
    · simp [den_n_touched_details, b_n_touched_details, ev_dn, fdiv2, h1, h2]
  · simp [den_n_touched_details, b_n_touched_details, ev_dn, fdiv2, h1]
def t3 (x : Int × Int × Int) : D := .tup [.int x.1, .int x.2.1, .int x.2.2]
def nxL (m f l : Int) : Int := if (m - 1) / 2 < tdE m f l + 1 then (m - 1) / 2 else tdE m f l + 1
def tpGo : Nat → List Int → Int → Int → List (Int × Int × Int) × Int × Int
  | _, [], f, l => ([], f, l)
  | k, m :: ms, f, l => let r := tpGo (k + 1) ms (tdB f) (nxL m f l); (((k : Int) + 1, tdB f, tdE m f l) :: r.1, r.2)
theorem tp_loop (n p : PV) : ∀ (ms : List Int) (k : Nat) (f l : Int) (acc : List D) (x5 x6 x7 x8 : Option PV), acc.length + ms.length < 16777216 → ∃ y5 y6 y7 y8,
    forGo lg_n_touched_parts_0 lb_n_touched_parts_0 (enumD k (ms.map .int)) [some n, some p, some (.fr (.int f)), some (.fr (.int l)), some (.oL acc), x5, x6, x7, x8] =
      .nx [some n, some p, some (.fr (.int (tpGo k ms f l).2.1)), some (.fr (.int (tpGo k ms f l).2.2)), some (.oL (acc ++ (tpGo k ms f l).1.map t3)), y5, y6, y7, y8]
  | [], k, f, l, acc, x5, x6, x7, x8, _ => ⟨x5, x6, x7, x8, by simp [enumD, fg_nil, tpGo]⟩
  | m :: ms, k, f, l, acc, x5, x6, x7, x8, hz => by
    rw [List.length_cons] at hz
    obtain ⟨y5, y6, y7, y8, h⟩ := tp_loop n p ms (k + 1) (tdB f) (nxL m f l) (acc ++ [t3 ((k : Int) + 1, tdB f, tdE m f l)]) (some (.fr (.int k))) (some (.fr (.int m))) (some (.fr (.int (tdB f)))) (some (.fr (.int (tdE m f l)))) (by simp; omega)
    refine ⟨y5, y6, y7, y8, ?_⟩
    have hz2 : acc.length < 16777216 := by omega
    unfold nxL at h
    simp only [List.map_cons, enumD, fg_cons]
    simp [lg_n_touched_parts_0, lb_n_touched_parts_0, touched_details, fdiv2, hz2, tpGo, nxL, t3] at h ⊢
    exact h
theorem rows_ne (n : Int) : (rows n).map D.int ≠ [] := by
  unfold rows rowsF
  simp
def tparts (n p : Int) : List (Int × Int × Int) × Int × Int := tpGo 0 ((rows n).take (Kn n)) p p
theorem touched_parts (n p : Int) (hn : n ≤ G30) : den_n_touched_parts [.fr (.int n), .fr (.int p)] = .ret (.fr (.tup [.tup [.int (tparts n p).2.1, .int (tparts n p).2.2], .lst ((tparts n p).1.map t3)])) [] := by
  have hl : ((rows n).map D.int).take (((rows n).map D.int).length - 1) = ((rows n).take (Kn n)).map D.int := by
    rw [List.length_map, List.map_take]; rfl
  obtain ⟨y5, y6, y7, y8, h⟩ := tp_loop (.fr (.int n)) (.fr (.int p)) ((rows n).take (Kn n)) 0 p p [] none none none none (by
    have := Kn_le n
    rw [List.length_take]
    simp
    omega)
  simp [den_n_touched_parts, b_n_touched_parts, ev_dn, row_lengths n hn, cutD_last (rows_ne n)]
  rw [List.length_map] at hl
  rw [hl]
  simp only [List.map_take] at h ⊢
  simp at h
  rw [h]
  simp [tparts]
theorem touched (n p : Int) (h1 : 1 ≤ n) (hn : n ≤ G30) (h0 : 0 ≤ p) (hp : p < n) : den_n_touched [.fr (.int n), .fr (.int p)] = .ret (.fr (.lst ((tparts n p).1.map t3))) [] := by
  simp [den_n_touched, b_n_touched, ev_dn, require_length n h1 hn, require_place n p h0 hp, touched_parts n p hn]
theorem touched_top (n p : Int) (h1 : 1 ≤ n) (hn : n ≤ G30) (h0 : 0 ≤ p) (hp : p < n) : den_n_touched_top [.fr (.int n), .fr (.int p)] = .ret (.fr (.tup [.int (tparts n p).2.1, .int (tparts n p).2.2])) [] := by
  simp [den_n_touched_top, b_n_touched_top, ev_dn, require_length n h1 hn, require_place n p h0 hp, touched_parts n p hn]

/-! ### spans -/
def spA (k : Nat) (i : Int) : Int := if i * 2 ^ k - (2 * 2 ^ k - 2) > 0 then i * 2 ^ k - (2 * 2 ^ k - 2) else 0
def spB (n : Int) (k : Nat) (i : Int) : Int := if i * 2 ^ k + (2 * 2 ^ k - 2) < n - 1 then i * 2 ^ k + (2 * 2 ^ k - 2) else n - 1
theorem shlOk_of {i : Int} {k : Nat} (hi : i.natAbs < 2 ^ 1000) (hk : k ≤ 1000) : shlOk i (k : Int) = true := by
  have h := log2_lt hi (by decide)
  unfold shlOk
  rw [Bool.and_eq_true]
  exact ⟨decide_eq_true (by omega), decide_eq_true (by omega)⟩
theorem span_of (n i : Int) (k : Nat) (hi : i.natAbs < 2 ^ 1000) (hk : k ≤ 1000) : den_n_span_of [.fr (.int n), .fr (.int k), .fr (.int i)] = .ret (.fr (.tup [.int (spA k i), .int (spB n k i)])) [] := by
  simp [den_n_span_of, b_n_span_of, ev_dn, shlOk_of hi hk, shlOk_of (i := 2) (by decide) hk, spA, spB]
end Mt

namespace Mt
open PySem Q Dn L2

/-! ### the rows -/
def P2 (k : Nat) : Int := 2 ^ k
theorem P2_zero : P2 0 = 1 := rfl
theorem P2_succ (k : Nat) : P2 (k + 1) = 2 * P2 k := by unfold P2; rw [Int.pow_succ]; omega
theorem P2_pos : ∀ k, 1 ≤ P2 k
  | 0 => by decide
  | k + 1 => by have := P2_pos k; rw [P2_succ]; omega
theorem Lr_succ (n : Int) (k : Nat) : Lr n (k + 1) = (Lr n k + 1) / 2 := rfl
theorem Lr_hi (n : Int) : ∀ k, n ≤ Lr n k * P2 k
  | 0 => by simp [Lr, P2]
  | k + 1 => by
    have h := Lr_hi n k
    have hp := P2_pos k
    have e : Lr n k ≤ 2 * Lr n (k + 1) := by rw [Lr_succ]; omega
    have := Int.mul_le_mul_of_nonneg_right e (show 0 ≤ P2 k by omega)
    rw [P2_succ]
    grind
theorem Lr_lo (n : Int) : ∀ k, (Lr n k - 1) * P2 k ≤ n - 1
  | 0 => by simp [Lr, P2]
  | k + 1 => by
    have h := Lr_lo n k
    have hp := P2_pos k
    have e : 2 * (Lr n (k + 1) - 1) ≤ Lr n k - 1 := by rw [Lr_succ]; omega
    have := Int.mul_le_mul_of_nonneg_right e (show 0 ≤ P2 k by omega)
    rw [P2_succ]
    grind
def Fk (p : Int) : Nat → Int
  | 0 => p
  | k + 1 => tdB (Fk p k)
def Lk (n p : Int) : Nat → Int
  | 0 => p
  | k + 1 => nxL (Lr n k) (Fk p k) (Lk n p k)
theorem Fk_nn (p : Int) (h0 : 0 ≤ p) : ∀ k, 0 ≤ Fk p k
  | 0 => h0
  | k + 1 => by show 0 ≤ tdB _; unfold tdB; split <;> omega
theorem tdB_le {f i : Int} (hi : 0 ≤ i) : tdB f ≤ i ↔ f ≤ 2 * i + 2 := by unfold tdB; split <;> omega
theorem Fk_le (p : Int) (h0 : 0 ≤ p) : ∀ (k : Nat) (i : Int), 0 ≤ i → (Fk p k ≤ i ↔ p - 2 * P2 k + 2 ≤ i * P2 k)
  | 0, i, hi => by simp [Fk, P2]
  | k + 1, i, hi => by
    show tdB _ ≤ i ↔ _
    rw [tdB_le hi, Fk_le p h0 k (2 * i + 2) (by omega), P2_succ]
    grind
theorem Lk_le (n p : Int) (h1 : 1 ≤ n) (h0 : 0 ≤ p) (hp : p < n) : ∀ (k : Nat), (∀ i : Int, 0 ≤ i → i < Lr n k → (i ≤ Lk n p k ↔ i * P2 k ≤ p + 2 * P2 k - 2)) ∧ Lk n p k ≤ Lr n k - 1
  | 0 => by refine ⟨fun i hi h => by simp [Lk, P2], by simp [Lk, Lr]; omega⟩
  | k + 1 => by
    obtain ⟨ih, il⟩ := Lk_le n p h1 h0 hp k
    have hp2 := P2_pos k
    have hm := Lr_pos n h1 k
    have hF := Fk_nn p h0 k
    have hl0 : 0 ≤ Lk n p k := (ih 0 (by omega) (by omega)).2 (by omega)
    refine ⟨fun i hi h => ?_, ?_⟩
    · show i ≤ nxL _ _ _ ↔ _
      rw [Lr_succ] at h
      have e : i ≤ nxL (Lr n k) (Fk p k) (Lk n p k) ↔ i - 1 ≤ tdE (Lr n k) (Fk p k) (Lk n p k) := by unfold nxL; split <;> omega
      rw [e, P2_succ]
      unfold tdE
      split
      · rename_i hc
        obtain ⟨h2, h3, h4⟩ := hc
        have hh := (ih (Lr n k - 4) (by omega) (by omega)).1 h4
        have : i * P2 k * 2 ≤ (Lr n k - 2) * P2 k := by
          have := Int.mul_le_mul_of_nonneg_right (show i * 2 ≤ Lr n k - 2 by omega) (show 0 ≤ P2 k by omega)
          grind
        constructor
        · intro _; grind
        · intro _; omega
      · by_cases hi1 : i = 0
        · subst hi1
          constructor
          · intro _; omega
          · intro _; split <;> omega
        · have hh := ih (2 * i - 2) (by omega) (by omega)
          have e2 : i - 1 ≤ (if Lr n k / 2 - 1 < Lk n p k / 2 then Lr n k / 2 - 1 else Lk n p k / 2) ↔ 2 * i - 2 ≤ Lk n p k := by split <;> omega
          rw [e2, hh]
          grind
    · show nxL _ _ _ ≤ _
      rw [Lr_succ]
      unfold nxL
      split <;> omega
/-- one row's facts, for the rest -/
structure Row (n p : Int) (k : Nat) : Prop where
  m1 : 1 ≤ Lr n k
  f0 : 0 ≤ Fk p k
  l0 : 0 ≤ Lk n p k
  lm : Lk n p k ≤ Lr n k - 1
  fl : Fk p k ≤ Lk n p k
theorem row_of {n p : Int} (h1 : 1 ≤ n) (h0 : 0 ≤ p) (hp : p < n) (k : Nat) : Row n p k := by
  obtain ⟨ih, il⟩ := Lk_le n p h1 h0 hp k
  have hp2 := P2_pos k
  have hm := Lr_pos n h1 k
  have hF := Fk_nn p h0 k
  have hfm : Fk p k ≤ Lr n k - 1 := (Fk_le p h0 k (Lr n k - 1) (by omega)).2 (by
    have := Lr_hi n k
    grind)
  refine ⟨hm, hF, (ih 0 (by omega) (by omega)).2 (by omega), il, ?_⟩
  rw [ih _ hF (by omega)]
  by_cases hz : Fk p k = 0
  · rw [hz]; omega
  · have := mt (Fk_le p h0 k (Fk p k - 1) (by omega)).2 (by omega)
    grind

/-! ### spans -/
/-- the two places of row k that detail i of level k + 1 is made from -/
def dB (m i : Int) : Int := if 2 * i + 2 = m then m - 4 else 2 * i
def dE (m i : Int) : Int := if 2 * i + 2 = m then m - 1 else 2 * i + 2
theorem spA_eq (k : Nat) (i : Int) : spA k i = if i * P2 k - (2 * P2 k - 2) > 0 then i * P2 k - (2 * P2 k - 2) else 0 := rfl
theorem spB_eq (n : Int) (k : Nat) (i : Int) : spB n k i = if i * P2 k + (2 * P2 k - 2) < n - 1 then i * P2 k + (2 * P2 k - 2) else n - 1 := rfl
theorem spA_le {k : Nat} {i p : Int} (h0 : 0 ≤ p) : spA k i ≤ p ↔ i * P2 k ≤ p + 2 * P2 k - 2 := by
  rw [spA_eq]
  split <;> omega
theorem le_spB {n : Int} {k : Nat} {i p : Int} (hp : p < n) : p ≤ spB n k i ↔ p - 2 * P2 k + 2 ≤ i * P2 k := by
  rw [spB_eq]
  split <;> omega
theorem span_iff {n p : Int} (h1 : 1 ≤ n) (h0 : 0 ≤ p) (hp : p < n) (k : Nat) {b e : Int} (hb : 0 ≤ b) (hb2 : b < Lr n k) (he : 0 ≤ e) :
    (spA k b ≤ p ∧ p ≤ spB n k e) ↔ (b ≤ Lk n p k ∧ Fk p k ≤ e) := by
  rw [spA_le h0, le_spB hp, (Lk_le n p h1 h0 hp k).1 b hb hb2, Fk_le p h0 k e he]
/-- the gap: the last detail of level 1 of an even length, at the last sample but two -/
def Gap (n : Int) (k : Nat) (i p : Int) : Prop := k = 0 ∧ 2 * i + 2 = n ∧ p = n - 3
theorem gap_of {n p : Int} (h1 : 1 ≤ n) (h0 : 0 ≤ p) (hp : p < n) (k : Nat) (hm : 4 ≤ Lr n k) (hF : Lr n k - 4 < Fk p k) (hL : Lk n p k < Lr n k - 2) : k = 0 ∧ p = n - 3 := by
  have hp2 := P2_pos k
  have a1 := mt ((Lk_le n p h1 h0 hp k).1 (Lr n k - 2) (by omega) (by omega)).2 (by omega)
  have a2 := mt (Fk_le p h0 k (Lr n k - 4) (by omega)).2 (by omega)
  have hP : P2 k = 1 := by grind
  have hk : k = 0 := by
    cases k with
    | zero => rfl
    | succ k => have := P2_pos k; rw [P2_succ] at hP; omega
  subst hk
  refine ⟨rfl, ?_⟩
  simp only [Lk, Fk, Lr] at hF hL
  omega
theorem detail_iff {n p : Int} (h1 : 1 ≤ n) (h0 : 0 ≤ p) (hp : p < n) (k : Nat) (hm : 2 < Lr n k) {i : Int} (hi : 0 ≤ i) (hi2 : i < Lr n k / 2) (hg : ¬ Gap n k i p) :
    (spA k (dB (Lr n k) i) ≤ p ∧ p ≤ spB n k (dE (Lr n k) i)) ↔ (tdB (Fk p k) ≤ i ∧ i ≤ tdE (Lr n k) (Fk p k) (Lk n p k)) := by
  obtain ⟨m1, f0, l0, lm, fl⟩ := row_of h1 h0 hp k
  rw [span_iff h1 h0 hp k (by unfold dB; split <;> omega) (by unfold dB; split <;> omega) (by unfold dE; split <;> omega), tdB_le hi]
  unfold dB dE tdE
  by_cases hl : 2 * i + 2 = Lr n k
  · rw [if_pos hl, if_pos hl]
    have hev : Lr n k % 2 = 0 := by omega
    have hng : ¬ (Lr n k - 4 < Fk p k ∧ Lk n p k < Lr n k - 2) := by
      rintro ⟨a, b⟩
      have := gap_of h1 h0 hp k (by omega) a b
      obtain ⟨rfl, e⟩ := this
      exact hg ⟨rfl, hl, e⟩
    split
    · omega
    · split <;> omega
  · rw [if_neg hl, if_neg hl]
    split
    · omega
    · split <;> omega
theorem touch_ok {n p : Int} (h1 : 1 ≤ n) (h0 : 0 ≤ p) (hp : p < n) (k : Nat) (hm : 2 < Lr n k) :
    0 ≤ tdB (Fk p k) ∧ tdB (Fk p k) ≤ tdE (Lr n k) (Fk p k) (Lk n p k) ∧ tdE (Lr n k) (Fk p k) (Lk n p k) < Lr n k / 2 := by
  obtain ⟨m1, f0, l0, lm, fl⟩ := row_of h1 h0 hp k
  unfold tdB tdE
  refine ⟨by split <;> omega, ?_, ?_⟩
  · split <;> split <;> (try split) <;> omega
  · split <;> (try split) <;> omega
/-- a touched detail's span has the place, in the gap also -/
theorem touch_in {n p : Int} (h1 : 1 ≤ n) (h0 : 0 ≤ p) (hp : p < n) (k : Nat) (hm : 2 < Lr n k) {i : Int} (hi : tdB (Fk p k) ≤ i) (hi2 : i ≤ tdE (Lr n k) (Fk p k) (Lk n p k)) :
    spA k (dB (Lr n k) i) ≤ p ∧ p ≤ spB n k (dE (Lr n k) i) := by
  obtain ⟨a, b, c⟩ := touch_ok h1 h0 hp k hm
  by_cases hg : Gap n k i p
  · obtain ⟨rfl, e1, e2⟩ := hg
    subst e2
    exfalso
    simp only [Lr, Fk, Lk] at hi2
    unfold tdE at hi2
    split at hi2
    · omega
    · split at hi2 <;> omega
  · exact (detail_iff h1 h0 hp k hm (by omega) (by omega) hg).2 ⟨hi, hi2⟩
theorem coarse_iff {n p : Int} (h1 : 1 ≤ n) (h0 : 0 ≤ p) (hp : p < n) (k : Nat) {i : Int} (hi : 0 ≤ i) (hi2 : i < Lr n k) :
    (spA k i ≤ p ∧ p ≤ spB n k i) ↔ (Fk p k ≤ i ∧ i ≤ Lk n p k) := by
  rw [span_iff h1 h0 hp k hi hi2 hi]
  exact And.comm
/-! ### order -/
theorem Fk_mono {p q : Int} (h0 : 0 ≤ p) (hq : p ≤ q) (k : Nat) : Fk p k ≤ Fk q k := by
  have := (Fk_le q (by omega) k (Fk q k) (Fk_nn q (by omega) k)).1 (Int.le_refl _)
  exact (Fk_le p h0 k (Fk q k) (Fk_nn q (by omega) k)).2 (by omega)
theorem Lk_mono {n p q : Int} (h1 : 1 ≤ n) (h0 : 0 ≤ p) (hq : p ≤ q) (hqn : q < n) (k : Nat) : Lk n p k ≤ Lk n q k := by
  obtain ⟨m1, f0, l0, lm, fl⟩ := row_of h1 h0 (by omega : p < n) k
  have := ((Lk_le n p h1 h0 (by omega) k).1 (Lk n p k) l0 (by omega)).1 (Int.le_refl _)
  exact ((Lk_le n q h1 (by omega) hqn k).1 (Lk n p k) l0 (by omega)).2 (by omega)
theorem tdB_mono {f g : Int} (h : f ≤ g) : tdB f ≤ tdB g := by unfold tdB; split <;> split <;> omega
theorem tdE_mono {n p q : Int} (h1 : 1 ≤ n) (h0 : 0 ≤ p) (hq : p ≤ q) (hqn : q < n) (k : Nat) (hm : 2 < Lr n k) (hg : ¬ Gap n k (tdE (Lr n k) (Fk p k) (Lk n p k)) q) :
    tdE (Lr n k) (Fk p k) (Lk n p k) ≤ tdE (Lr n k) (Fk q k) (Lk n q k) := by
  have hF := Fk_mono h0 hq k
  have hL := Lk_mono h1 h0 hq hqn k
  obtain ⟨m1, f0, l0, lm, fl⟩ := row_of h1 (by omega : 0 ≤ q) hqn k
  by_cases c1 : Lr n k % 2 = 0 ∧ Fk p k ≤ Lr n k - 4 ∧ Lr n k - 4 ≤ Lk n p k
  · by_cases c2 : Lr n k % 2 = 0 ∧ Fk q k ≤ Lr n k - 4 ∧ Lr n k - 4 ≤ Lk n q k
    · unfold tdE; rw [if_pos c1, if_pos c2]; omega
    · by_cases c3 : Lk n q k < Lr n k - 2
      · exfalso
        obtain ⟨e1, e2⟩ := gap_of h1 (by omega) hqn k (by omega) (by omega) c3
        apply hg
        unfold tdE
        rw [if_pos c1]
        subst e1
        simp only [Lr] at c1 ⊢
        exact ⟨rfl, by omega, e2⟩
      · unfold tdE
        rw [if_pos c1, if_neg c2]
        split <;> omega
  · unfold tdE
    rw [if_neg c1]
    split
    · split <;> omega
    · repeat' split
      all_goals omega
theorem spA_mono {k : Nat} {i j : Int} (h : i ≤ j) : spA k i ≤ spA k j := by
  have hp := P2_pos k
  have := Int.mul_le_mul_of_nonneg_right h (show 0 ≤ P2 k by omega)
  rw [spA_eq, spA_eq]
  split <;> split <;> omega
theorem spB_mono {n : Int} {k : Nat} {i j : Int} (h : i ≤ j) : spB n k i ≤ spB n k j := by
  have hp := P2_pos k
  have := Int.mul_le_mul_of_nonneg_right h (show 0 ≤ P2 k by omega)
  rw [spB_eq, spB_eq]
  split <;> split <;> omega
theorem dB_next {m i : Int} (hi : i + 1 < m / 2) : dB m i ≤ dB m (i + 1) := by unfold dB; split <;> split <;> omega
theorem dE_next {m i : Int} (hi : i + 1 < m / 2) : dE m i ≤ dE m (i + 1) := by unfold dE; split <;> split <;> omega
theorem dBE {m i : Int} (hm : 2 < m) (h0 : 0 ≤ i) (hi : i < m / 2) : 0 ≤ dB m i ∧ dB m i ≤ dE m i ∧ dE m i < m ∧ 2 * i - 2 ≤ dB m i ∧ 2 * i + 1 ≤ dE m i := by
  unfold dB dE; split <;> omega
theorem span_ok {n : Int} (h1 : 1 ≤ n) (k : Nat) {b e : Int} (hb : 0 ≤ b) (hbe : b ≤ e) (he : e < Lr n k) : 0 ≤ spA k b ∧ spA k b ≤ spB n k e ∧ spB n k e < n := by
  have hp := P2_pos k
  have h2 := Lr_lo n k
  have h3 := Int.mul_le_mul_of_nonneg_right hbe (show 0 ≤ P2 k by omega)
  have h4 := Int.mul_le_mul_of_nonneg_right (show e ≤ Lr n k - 1 by omega) (show 0 ≤ P2 k by omega)
  have h5 := Int.mul_nonneg hb (show 0 ≤ P2 k by omega)
  rw [spA_eq, spB_eq]
  split <;> split <;> omega
theorem end_ok {n : Int} (h1 : 1 ≤ n) (k : Nat) (hm : 2 < Lr n k) {i : Int} (h0 : 0 ≤ i) (hi : i < Lr n k / 2) :
    spA (k + 1) i ≤ spA k (dB (Lr n k) i) ∧ i * P2 (k + 1) ≤ spB n k (dE (Lr n k) i) := by
  obtain ⟨a, b, c, d, e⟩ := dBE hm h0 hi
  have hp := P2_pos k
  have h2 := Lr_lo n k
  have h3 := Int.mul_le_mul_of_nonneg_right d (show 0 ≤ P2 k by omega)
  have h4 := Int.mul_le_mul_of_nonneg_right e (show 0 ≤ P2 k by omega)
  have h5 := Int.mul_le_mul_of_nonneg_right (show 2 * i + 1 ≤ Lr n k - 1 by omega) (show 0 ≤ P2 k by omega)
  have h6 := Int.mul_nonneg a (show 0 ≤ P2 k by omega)
  constructor
  · rw [spA_eq, spA_eq, P2_succ]
    split <;> split <;> grind
  · rw [spB_eq, P2_succ]
    split <;> grind
end Mt

namespace Mt
open PySem Q Dn L2

/-! ### the spool -/
def Sp (N : Nat) (S : PV) : Prop := ∃ a b c : Int, S = .oL [.int a, .int b, .int c] ∧ 0 ≤ a ∧ 0 ≤ b ∧ b < 2 ^ 200 ∧ 0 ≤ c ∧ c ≤ N
theorem Sp.le {N M : Nat} {S : PV} (h : Sp N S) (hm : N ≤ M) : Sp M S := by
  obtain ⟨a, b, c, e, h1, h2, h3, h4, h5⟩ := h
  exact ⟨a, b, c, e, h1, h2, h3, h4, by omega⟩
theorem powOk_of {i : Int} {a : Nat} (hi : i.natAbs < 2 ^ a) (ha : 0 < a) (k : Nat) (h : a * k ≤ 134217728) : powOk i (k : Int) = true := by
  have h2 := log2_lt hi ha
  unfold powOk
  rw [Bool.and_eq_true]
  refine ⟨decide_eq_true (by omega), decide_eq_true ?_⟩
  have : (i.natAbs.log2 + 1) * k ≤ a * k := Nat.mul_le_mul_right k (by omega)
  have e : (((i.natAbs.log2 + 1) * k : Nat) : Int) = ((i.natAbs.log2 : Int) + 1) * (k : Int) := by simp
  omega
def M45 : Int := 1000000000000000000000000000000000000000000009
theorem M45_pos : 0 < M45 := by decide
def M43 : Int := 10000000000000000000000000000000000000000057
theorem M43_pos : 0 < M43 := by decide
@[simp high] theorem c45 (ρ : Sl) : e2 dAdd (e2 dPow (eC (.int 10)) (eC (.int 45))) (eC (.int 9)) ρ = .ok (.fr (.int M45)) ρ := by
  have h : powOk 10 45 = true := by decide
  simp [h]
  rfl
@[simp high] theorem c43 (ρ : Sl) : e2 dAdd (e2 dPow (eC (.int 10)) (eC (.int 43))) (eC (.int 57)) ρ = .ok (.fr (.int M43)) ρ := by
  have h : powOk 10 43 = true := by decide
  simp [h]
  rfl
@[simp high] theorem c42 (ρ : Sl) : e2 dAdd (e2 dPow (eC (.int 10)) (eC (.int 42))) (eC (.int 63)) ρ = .ok (.fr (.int 1000000000000000000000000000000000000000063)) ρ := by
  have h : powOk 10 42 = true := by decide
  simp [h]
theorem reel (S : PV) (N : Nat) (many : Int) (hS : Sp N S) (hN : N ≤ 1000000) (hm : 1 ≤ many) (hm2 : many < 2 ^ 200) :
    ∃ v S', den_n__law_reel [S, .fr (.int many)] = .ret (.fr (.int v)) [S'] ∧ 0 ≤ v ∧ v < many ∧ Sp (N + 1) S' := by
  obtain ⟨a, b, c, rfl, h1, h2, h3, h4, h5⟩ := hS
  have hm0 : 0 < many := by omega
  have hf : ∀ i, fdivOk i many = true := fun i => fdivOk_of (b := 200) hm0 (by omega) (by decide) (by decide)
  by_cases ha : 0 < a
  · refine ⟨a % many, .oL [.int (a / many), .int b, .int c], ?_, Int.emod_nonneg _ (by omega), Int.emod_lt_of_pos _ hm0, ⟨a / many, b, c, rfl, Int.ediv_nonneg h1 (by omega), h2, h3, h4, by omega⟩⟩
    simp [den_n__law_reel, b_n__law_reel, ev_dn, ha, hf, hm0]
  · have hc : mulOk 553105253 (c + 1) = true := mulOk_of (a := 40) (b := 40) (by decide) (by omega) (by decide) (by decide) (by decide)
    have hc2 : mulOk 256203161 (c + 1) = true := mulOk_of (a := 40) (b := 40) (by decide) (by omega) (by decide) (by decide) (by decide)
    have hp : powOk (b + 553105253 * (c + 1)) ((3 : Nat) : Int) = true := powOk_of (a := 300) (by omega) (by decide) 3 (by decide)
    have hp0 : powOk 10 ((45 : Nat) : Int) = true := by decide
    have hp1 : powOk 10 ((43 : Nat) : Int) = true := by decide
    generalize hx : (b + 553105253 * (c + 1)) ^ 3 % M45 = x at *
    have hx0 : 0 ≤ x ∧ x < M45 := by rw [← hx]; exact ⟨Int.emod_nonneg _ (by decide), Int.emod_lt_of_pos _ M45_pos⟩
    have hM : M45 < 2 ^ 200 := by decide
    have hq : powOk (x + 256203161 * (c + 1)) ((2 : Nat) : Int) = true := powOk_of (a := 300) (by omega) (by decide) 2 (by decide)
    have hf4 : ∀ i, fdivOk i 4194301 = true := fun i => fdivOk_of (b := 30) (by decide) (by decide) (by decide) (by decide)
    refine ⟨(x + 256203161 * (c + 1)) ^ 2 % M43 / 4194301 % many, .oL [.int a, .int b, .int (c + 1)], ?_, Int.emod_nonneg _ (by omega), Int.emod_lt_of_pos _ hm0, ⟨a, b, c + 1, rfl, h1, h2, h3, by omega, by omega⟩⟩
    simp only [Int.cast_ofNat_Int] at hp hq hp0 hp1
    have hx' : (b + 553105253 * (c + 1)) ^ 3 % M45 = x := hx
    simp [den_n__law_reel, b_n__law_reel, ev_dn, ha, hf, hm0, hc, hc2, M45_pos, M43_pos, hp, hp0, hp1, hq, hf4, hx']

theorem spool (xs : List Int) (k : Nat) (hk : k < 64) : ∃ S, den_n__law_spool [.fr (.lst (xs.map .int)), .fr (.int k)] = .ret S [] ∧ Sp 0 S := by
  have h18 : powOk 10 18 = true := by decide
  have fin : ∀ x : Int, ∃ S, (e2 dAdd (eC (.int 0)) (eC (.int 0)) [] = .ok (.fr (.int 0)) []) ∧ S = PV.oL [.int (if x - 1000000000000000000 > 0 then x - 1000000000000000000 else 0), .int ((if x < 0 then -x else x) % 1000000000000000000000000000000000000000063 * 16 + k), .int 0] ∧ Sp 0 S := fun x => by
    refine ⟨_, by simp, rfl, _, _, _, rfl, by split <;> omega, ?_, ?_, by omega, by omega⟩
    · have := Int.emod_nonneg (if x < 0 then -x else x) (show (1000000000000000000000000000000000000000063 : Int) ≠ 0 by decide)
      omega
    · have := Int.emod_lt_of_pos (if x < 0 then -x else x) (show (0 : Int) < 1000000000000000000000000000000000000000063 by decide)
      omega
  have hM : ∀ x : Int, mulOk (x % 1000000000000000000000000000000000000000063) 16 = true := fun x => by
    have h1 := Int.emod_nonneg x (show (1000000000000000000000000000000000000000063 : Int) ≠ 0 by decide)
    have h2 := Int.emod_lt_of_pos x (show (0 : Int) < 1000000000000000000000000000000000000000063 by decide)
    exact mulOk_of (a := 200) (b := 10) (by omega) (by decide) (by decide) (by decide) (by decide)
  by_cases hl : k < xs.length
  · have hg : atI (xs.map D.int) (k : Int) = some (.int xs[k]) := L2.atI_nat (by rw [List.getElem?_map, List.getElem?_eq_getElem hl]; rfl)
    have hl' : (k : Int) < (xs.length : Int) := by omega
    obtain ⟨S, -, e, h⟩ := fin xs[k]
    refine ⟨S, ?_, h⟩
    rw [e]
    simp [den_n__law_spool, b_n__law_spool, ev_dn, hl, hg, h18, hM]
  · have hl' : ¬ (k : Int) < (xs.length : Int) := by omega
    obtain ⟨S, -, e, h⟩ := fin 0
    refine ⟨S, ?_, h⟩
    rw [e]
    have hM0 : mulOk 0 16 = true := hM 0
    simp [den_n__law_spool, b_n__law_spool, ev_dn, hl, h18, hM0]
theorem rangeD_len : ∀ (i : Int) (k : Nat), (rangeD i k).length = k
  | i, 0 => rfl
  | i, k + 1 => by unfold rangeD; rw [List.length_cons, rangeD_len]
theorem pw_loop (t : PV) : ∀ (k : Nat) (i : Int) (j : Nat) (x3 : Option PV), j + k ≤ 1000 → ∃ y3, forGo lg_n__law_power_0 lb_n__law_power_0 (rangeD i k) [some (.fr (.int 2)), some t, some (.fr (.int (2 ^ j))), x3] = .nx [some (.fr (.int 2)), some t, some (.fr (.int (2 ^ (j + k)))), y3]
  | 0, i, j, x3, _ => ⟨x3, rfl⟩
  | k + 1, i, j, x3, h => by
    obtain ⟨y3, e⟩ := pw_loop t k (i + 1) (j + 1) (some (.fr (.int i))) (by omega)
    have hm : mulOk (2 ^ j) 2 = true := mulOk_of (a := j + 1) (b := 2) (by
      rw [Int.natAbs_pow]
      exact Nat.pow_lt_pow_right (by decide) (by omega)) (by decide) (by omega) (by decide) (by omega)
    refine ⟨y3, ?_⟩
    rw [rangeD, fg_cons]
    simp [lg_n__law_power_0, lb_n__law_power_0, hm] at e ⊢
    rw [Int.pow_succ] at e
    rw [e, Nat.add_right_comm, Nat.add_assoc]
theorem power2 (k : Nat) (hk : k ≤ 1000) : den_n__law_power [.fr (.int 2), .fr (.int k)] = .ret (.fr (.int (P2 k))) [] := by
  obtain ⟨y3, e⟩ := pw_loop (.fr (.int k)) k 0 0 none (by omega)
  have hs : smallI (k : Int) = true := smallI_of (by omega) (by omega)
  simp at e
  simp [den_n__law_power, b_n__law_power, ev_dn, hs, e, P2]
theorem P2_mono {i j : Nat} (h : i ≤ j) : P2 i ≤ P2 j := by
  induction j with
  | zero => have : i = 0 := by omega
            subst this; exact Int.le_refl _
  | succ j ih =>
    by_cases hj : i = j + 1
    · subst hj; exact Int.le_refl _
    · have := ih (by omega)
      have := P2_pos j
      rw [P2_succ]
      omega
theorem G30_eq : G30 = 1000000000000000000000000000000 := rfl
theorem length (S : PV) (N : Nat) (hS : Sp N S) (hN : N ≤ 999000) : ∃ n S', den_n__law_length [S] = .ret (.fr (.int n)) [S'] ∧ 1 ≤ n ∧ n ≤ G30 ∧ Sp (N + 3) S' := by
  obtain ⟨w, S1, e1, w0, w5, hS1⟩ := reel S N 5 hS (by omega) (by decide) (by decide)
  have hw : w = 0 ∨ w = 1 ∨ w = 2 ∨ w = 3 ∨ w = 4 := by omega
  have h9 : powOk 10 9 = true := by decide
  have h30 : powOk 10 30 = true := by decide
  rcases hw with rfl | rfl | rfl | rfl | rfl
  · obtain ⟨v, S2, e2, v0, v5, hS2⟩ := reel S1 (N + 1) 24 hS1 (by omega) (by decide) (by decide)
    refine ⟨1 + v, S2, ?_, by omega, by rw [G30_eq]; omega, hS2.le (by omega)⟩
    simp [den_n__law_length, b_n__law_length, ev_dn, e1, e2]
  · obtain ⟨v, S2, e2, v0, v5, hS2⟩ := reel S1 (N + 1) 5000 hS1 (by omega) (by decide) (by decide)
    refine ⟨1 + v, S2, ?_, by omega, by rw [G30_eq]; omega, hS2.le (by omega)⟩
    simp [den_n__law_length, b_n__law_length, ev_dn, e1, e2]
  · obtain ⟨v, S2, e2, v0, v5, hS2⟩ := reel S1 (N + 1) 100 hS1 (by omega) (by decide) (by decide)
    obtain ⟨u, S3, e3, u0, u5, hS3⟩ := reel S2 (N + 1 + 1) 7 hS2 (by omega) (by decide) (by decide)
    obtain ⟨k, rfl⟩ : ∃ k : Nat, v = k := ⟨v.toNat, by omega⟩
    have hp := power2 k (by omega)
    have hp2 : P2 k ≤ P2 99 := P2_mono (by omega)
    have hp3 : P2 99 = 633825300114114700748351602688 := by decide
    refine ⟨if P2 k - 3 + u > 1 then P2 k - 3 + u else 1, S3, ?_, by split <;> omega, by rw [G30_eq]; split <;> omega, hS3.le (by omega)⟩
    simp [den_n__law_length, b_n__law_length, ev_dn, e1, e2, hp, e3]
  · obtain ⟨v, S2, e2, v0, v5, hS2⟩ := reel S1 (N + 1) 1000000000 hS1 (by omega) (by decide) (by decide)
    refine ⟨1 + v, S2, ?_, by omega, by rw [G30_eq]; omega, hS2.le (by omega)⟩
    simp [den_n__law_length, b_n__law_length, ev_dn, e1, h9, h30, e2]
  · obtain ⟨v, S2, e2, v0, v5, hS2⟩ := reel S1 (N + 1) 1000000000000000000000000000000 hS1 (by omega) (by decide) (by decide)
    refine ⟨1 + v, S2, ?_, by omega, by rw [G30_eq]; omega, hS2.le (by omega)⟩
    simp [den_n__law_length, b_n__law_length, ev_dn, e1, h9, h30, e2]
theorem spot (S : PV) (N : Nat) (m : Int) (hS : Sp N S) (hN : N ≤ 999000) (hm : 1 ≤ m) (hm2 : m ≤ G30) : ∃ v S', den_n__law_spot [S, .fr (.int m)] = .ret (.fr (.int v)) [S'] ∧ 0 ≤ v ∧ v < m ∧ Sp (N + 2) S' := by
  rw [G30_eq] at hm2
  obtain ⟨w, S1, e1, w0, w5, hS1⟩ := reel S N 3 hS (by omega) (by decide) (by decide)
  by_cases hw : w = 2
  · subst hw
    obtain ⟨v, S2, e2, v0, v5, hS2⟩ := reel S1 (N + 1) m hS1 (by omega) hm (by omega)
    refine ⟨v, S2, ?_, v0, v5, hS2⟩
    simp [den_n__law_spot, b_n__law_spot, ev_dn, e1, e2]
  · obtain ⟨v, S2, e2, v0, v5, hS2⟩ := reel S1 (N + 1) (if 12 < m then 12 else m) hS1 (by omega) (by split <;> omega) (by split <;> omega)
    have hv : v < m := by split at v5 <;> omega
    by_cases h0 : w = 0
    · subst h0
      refine ⟨v, S2, ?_, v0, hv, hS2⟩
      simp [den_n__law_spot, b_n__law_spot, ev_dn, e1, e2]
    · refine ⟨m - 1 - v, S2, ?_, by omega, by omega, hS2⟩
      simp [den_n__law_spot, b_n__law_spot, ev_dn, e1, e2, h0, hw]
end Mt

namespace Mt
open PySem Q Dn L2

theorem Lr_le (n : Int) (h1 : 1 ≤ n) : ∀ k, Lr n k ≤ n
  | 0 => Int.le_refl _
  | k + 1 => by have := Lr_le n h1 k; have := Lr_pos n h1 k; rw [Lr_succ]; omega
theorem detail_span (n : Int) (h1 : 1 ≤ n) (hn : n ≤ G30) (k : Nat) (hk : k < Kn n) (i : Int) (h0 : 0 ≤ i) (hi : i < Lr n k / 2) :
    den_n_detail_span [.fr (.int n), .fr (.int ((k : Int) + 1)), .fr (.int i)] = .ret (.fr (.tup [.int (spA k (dB (Lr n k) i)), .int (spB n k (dE (Lr n k) i))])) [] := by
  have hK := Kn_le n
  have hm := rows_big n hk
  have hle := Lr_le n h1 k
  have hn' : n ≤ 1000000000000000000000000000000 := hn
  have a1 := require_length n h1 hn
  have a2 := require_level n hn ((k : Int) + 1) 1 (by omega) (by omega)
  have a3 := details_length_of n hn k hk
  have a4 := require_index (Lr n k / 2) i h0 hi
  have a5 := row_length_of n hn k (by omega)
  have a6 : mulOk 2 i = true := mulOk_of (a := 10) (b := 200) (by decide) (by omega) (by decide) (by decide) (by decide)
  have e : (k : Int) + 1 - 1 = k := by omega
  obtain ⟨c1, c2, c3, c4, c5⟩ := dBE hm h0 hi
  simp only [Int.natCast_add, Int.cast_ofNat_Int] at a3
  have b1 := span_of n (dB (Lr n k) i) k (by omega) (by omega)
  have b2 := span_of n (dE (Lr n k) i) k (by omega) (by omega)
  by_cases he : 2 * i + 2 = Lr n k
  · rw [dB, if_pos he] at b1
    rw [dE, if_pos he] at b2
    simp [den_n_detail_span, b_n_detail_span, ev_dn, a1, a2, a3, a4, a5, a6, e, he, b1, b2, dB, dE]
  · rw [dB, if_neg he] at b1
    rw [dE, if_neg he] at b2
    simp [den_n_detail_span, b_n_detail_span, ev_dn, a1, a2, a3, a4, a5, a6, e, he, b1, b2, dB, dE]
theorem coarse_span (n : Int) (h1 : 1 ≤ n) (hn : n ≤ G30) (k : Nat) (hk : k ≤ Kn n) (i : Int) (h0 : 0 ≤ i) (hi : i < Lr n k) :
    den_n_coarse_span [.fr (.int n), .fr (.int (k : Int)), .fr (.int i)] = .ret (.fr (.tup [.int (spA k i), .int (spB n k i)])) [] := by
  have hK := Kn_le n
  have hle := Lr_le n h1 k
  have hn' : n ≤ 1000000000000000000000000000000 := hn
  have a1 := require_length n h1 hn
  have a2 := require_level n hn (k : Int) 0 (by omega) (by omega)
  have a4 := require_index (Lr n k) i h0 hi
  have a5 := row_length_of n hn k (by omega)
  have b1 := span_of n i k (by omega) (by omega)
  simp [den_n_coarse_span, b_n_coarse_span, ev_dn, a1, a2, a4, a5, b1]

/-! ### the touched parts -/
def ent (n p : Int) (k : Nat) : Int × Int × Int := ((k : Int) + 1, tdB (Fk p k), tdE (Lr n k) (Fk p k) (Lk n p k))
theorem tpGo_eq (n p : Int) : ∀ (ms : List Int) (k : Nat), (∀ j, j < ms.length → ms[j]? = some (Lr n (k + j))) →
    tpGo k ms (Fk p k) (Lk n p k) = ((List.range' k ms.length).map (ent n p), Fk p (k + ms.length), Lk n p (k + ms.length))
  | [], k, _ => rfl
  | m :: ms, k, h => by
    have h0 := h 0 (by simp)
    simp at h0
    subst h0
    have ih := tpGo_eq n p ms (k + 1) fun j hj => by
      have := h (j + 1) (by simpa using hj)
      rw [List.getElem?_cons_succ] at this
      rw [this]
      congr 2
      omega
    have e : k + 1 + ms.length = k + (ms.length + 1) := by omega
    rw [e] at ih
    show (((k : Int) + 1, tdB (Fk p k), tdE (Lr n k) (Fk p k) (Lk n p k)) :: (tpGo (k + 1) ms (Fk p (k + 1)) (Lk n p (k + 1))).1, (tpGo (k + 1) ms (Fk p (k + 1)) (Lk n p (k + 1))).2) = _
    rw [ih]
    rfl
def ents (n p : Int) : List (Int × Int × Int) := (List.range' 0 (Kn n)).map (ent n p)
theorem tparts_eq (n p : Int) : tparts n p = (ents n p, Fk p (Kn n), Lk n p (Kn n)) := by
  have hl : ((rows n).take (Kn n)).length = Kn n := by rw [List.length_take, rows_len]; omega
  have := tpGo_eq n p ((rows n).take (Kn n)) 0 fun j hj => by
    rw [hl] at hj
    rw [List.getElem?_take_of_lt hj, rows_get n (by omega), Nat.zero_add]
  rw [hl, Nat.zero_add] at this
  exact this
theorem touched' (n p : Int) (h1 : 1 ≤ n) (hn : n ≤ G30) (h0 : 0 ≤ p) (hp : p < n) : den_n_touched [.fr (.int n), .fr (.int p)] = .ret (.fr (.lst ((ents n p).map t3))) [] := by
  rw [touched n p h1 hn h0 hp, tparts_eq]
theorem touched_top' (n p : Int) (h1 : 1 ≤ n) (hn : n ≤ G30) (h0 : 0 ≤ p) (hp : p < n) : den_n_touched_top [.fr (.int n), .fr (.int p)] = .ret (.fr (.tup [.int (Fk p (Kn n)), .int (Lk n p (Kn n))])) [] := by
  rw [touched_top n p h1 hn h0 hp, tparts_eq]
theorem ents_get (n p : Int) {k : Nat} (hk : k < Kn n) : (ents n p)[k]? = some (ent n p k) := by
  unfold ents
  rw [List.getElem?_map, List.getElem?_range' hk]
  simp
theorem ents_len (n p : Int) : (ents n p).length = Kn n := by unfold ents; simp
theorem rangeD_eq : ∀ (k : Nat) (i : Int), rangeD i k = ((List.range' 0 k).map fun j : Nat => i + (j : Int)).map D.int
  | 0, i => rfl
  | k + 1, i => by
    rw [rangeD, rangeD_eq k (i + 1), List.range'_succ, List.map_cons, List.map_cons, Int.natCast_zero, Int.add_zero, Nat.zero_add, List.range'_eq_map_range, List.range'_eq_map_range]
    simp
    intro a _
    omega
theorem within (a b p : Int) : den_n__law_within [.fr (.tup [.int a, .int b]), .fr (.int p)] = .ret (.fr (.bl (decide (a ≤ p ∧ p ≤ b)))) [] := by
  by_cases h : a ≤ p <;> by_cases h2 : p ≤ b <;> simp [den_n__law_within, b_n__law_within, ev_dn, h, h2]
instance (n : Int) (k : Nat) (i p : Int) : Decidable (Gap n k i p) := by unfold Gap; infer_instance
theorem gap (n : Int) (hn : n ≤ G30) (k : Nat) (i p : Int) (h0 : 0 ≤ i) (hi : i < n) : den_n__law_gap [.fr (.int n), .fr (.int ((k : Int) + 1)), .fr (.int i), .fr (.int p)] = .ret (.fr (.bl (decide (Gap n k i p)))) [] := by
  have hn' : n ≤ 1000000000000000000000000000000 := hn
  have a6 : mulOk 2 i = true := mulOk_of (a := 10) (b := 200) (by decide) (by omega) (by decide) (by decide) (by decide)
  have e : ((k : Int) + 1 = 1) ↔ k = 0 := by omega
  unfold Gap
  by_cases h : k = 0
  · by_cases h2 : 2 * i + 2 = n
    · simp [den_n__law_gap, b_n__law_gap, ev_dn, e, h, h2, a6]
    · simp [den_n__law_gap, b_n__law_gap, ev_dn, e, h, h2, a6]
  · simp [den_n__law_gap, b_n__law_gap, ev_dn, e, h, a6]
end Mt

namespace Mt
open PySem Q Dn L2

@[simp] theorem ev_neL (xs ys : List Int) : dNe (.oL (xs.map D.int)) (.oL (ys.map D.int)) = some (.fr (.bl (!decide (xs = ys)))) := by
  unfold dNe; simp only [ev_fz2, eqD_ints]
theorem levels_lc (n p : Int) (ρ : Sl) (h10 : ρ.length = 11) (hρ : ρ[10]? = some none) (es : List (Int × Int × Int)) (hz : es.length ≤ 16777216) :
    lcGo [10] (gN 10) tTrue (eIxN 10 (eC (.int 0))) (es.map t3) ρ [] = .ok ((es.map (·.1)).map D.int) ρ := by
  have := lcGo_map (vs := [10]) (g := gN 10) (t := tTrue) (f := eIxN 10 (eC (.int 0))) t3 (fun x => D.int x.1) ρ es [] (by simpa using hz) fun x _ => by
    refine ⟨ρ.set 10 (some (.fr (t3 x))), ρ.set 10 (some (.fr (t3 x))), ρ.set 10 (some (.fr (t3 x))), .fr (.int x.1), ?_, rfl, ?_, rfl, ?_⟩
    · simp [h10]
    · simp [h10, t3]
    · simp
      apply List.ext_getElem?
      intro i
      rw [List.getElem?_set]
      split
      · subst_vars; rw [if_pos (by omega), hρ]
      · rfl
  rw [this]
  simp [Function.comp_def]


def PI (n p : Int) (S0 : Nat) (k : Nat) (ρ : Sl) : Prop := ∃ S x5 x6 x7 x8 x9, Sp (S0 + k) S ∧
  ρ = [some S, some (.fr (.int n)), some (.fr (.int p)), some (.fr (.lst ((ents n p).map t3))), some (.fr (.int (Kn n))), x5, x6, x7, x8, x9, none]
theorem pr_part (n p : Int) (h1 : 1 ≤ n) (hn : n ≤ G30) (h0 : 0 ≤ p) (hp : p < n) (N : Nat) (hN : N ≤ 900000) (k : Nat) (hk : k < Kn n) (ρ : Sl) (hI : PI n p N k ρ) :
    ∃ ρ1, lg_n__law_place_right_6 (.fr (t3 (ent n p k))) ρ = some ρ1 ∧ ∃ ρ2, lb_n__law_place_right_6 ρ1 = .nx ρ2 ∧ PI n p N (k + 1) ρ2 := by
  obtain ⟨S1, x5, x6, x7, x8, x9, hS1, rfl⟩ := hI
  have hn' : n ≤ 1000000000000000000000000000000 := hn
  have hK := Kn_le n
  have hm := rows_big n hk
  have hle := Lr_le n h1 k
  obtain ⟨t1, t2, t4⟩ := touch_ok h1 h0 hp k hm
  have hE : ent n p k = ((k : Int) + 1, tdB (Fk p k), tdE (Lr n k) (Fk p k) (Lk n p k)) := rfl
  rw [hE]
  have tin := fun i => @touch_in n p h1 h0 hp k hm i
  have tif := fun i => @detail_iff n p h1 h0 hp k hm i
  have dl := details_length n h1 hn k hk
  simp only [Int.natCast_add, Int.cast_ofNat_Int] at dl
  have ds := fun i => detail_span n h1 hn k hk i
  have gp := fun i p => gap n hn k i p
  generalize hF : tdB (Fk p k) = F at *
  generalize hL : tdE (Lr n k) (Fk p k) (Lk n p k) = L at *
  generalize Lr n k = m at *
  obtain ⟨v, S2, e1, v0, v1, hS2⟩ := reel S1 (N + k) (L - F + 1) hS1 (by omega) (by omega) (by omega)
  have i1 := tin F (by omega) (by omega)
  have i2 := tin L (by omega) (by omega)
  have i3 := tin (F + v) (by omega) (by omega)
  have d1 := ds F (by omega) (by omega)
  have d2 := ds L (by omega) (by omega)
  have d3 := ds (F + v) (by omega) (by omega)
  refine ⟨_, by simp [lg_n__law_place_right_6, t3]; rfl, ?_⟩
  have side : ∀ (x : Int), (x < F ∨ L < x) →
      lb_n__law_place_right_2 [some S2, some (.fr (.int n)), some (.fr (.int p)), some (.fr (.lst ((ents n p).map t3))), some (.fr (.int (Kn n))), some (.fr (.int ((k : Int) + 1))), some (.fr (.int F)), some (.fr (.int L)), some (.fr (.int (m / 2))), some (.fr (.int x)), none] =
      .nx [some S2, some (.fr (.int n)), some (.fr (.int p)), some (.fr (.lst ((ents n p).map t3))), some (.fr (.int (Kn n))), some (.fr (.int ((k : Int) + 1))), some (.fr (.int F)), some (.fr (.int L)), some (.fr (.int (m / 2))), some (.fr (.int x)), none] := fun x hx => by
    by_cases c1 : 0 ≤ x
    · by_cases c2 : x < m / 2
      · by_cases c3 : Gap n k x p
        · simp [lb_n__law_place_right_2, c1, c2, c3, gp x p c1 (by omega)]
        · have hb : ¬ (spA k (dB m x) ≤ p ∧ p ≤ spB n k (dE m x)) := fun h => by
            have := (tif x c1 c2 c3).1 h
            omega
          simp [lb_n__law_place_right_2, c1, c2, c3, gp x p c1 (by omega), ds x c1 c2, within, hb]
      · simp [lb_n__law_place_right_2, c1, c2]
    · simp [lb_n__law_place_right_2, c1]
  have s1 := side (F - 1) (by omega)
  have s2 := side (L + 1) (by omega)
  refine ⟨_, ?_, S2, some (.fr (.int ((k : Int) + 1))), some (.fr (.int F)), some (.fr (.int L)), some (.fr (.int (m / 2))), some (.fr (.int (L + 1))), hS2, rfl⟩
  simp [lb_n__law_place_right_6, dl, t1, t2, t4, e1, fg_cons, fg_nil, d1, d2, d3, within, i1, i2, i3, lg_n__law_place_right_4, lb_n__law_place_right_4, lg_n__law_place_right_2, s1, s2]
end Mt

namespace Mt
open PySem Q Dn L2
theorem rangeD_get {i : Int} {k j : Nat} {d : D} (h : (rangeD i k)[j]? = some d) : j < k ∧ d = .int (i + j) := by
  rw [rangeD_eq, List.getElem?_map, List.getElem?_map] at h
  by_cases hj : j < k
  · rw [List.getElem?_range' hj] at h
    simp at h
    exact ⟨hj, h.symm⟩
  · rw [List.getElem?_eq_none (by simp; omega)] at h
    simp at h
theorem place_right (S : PV) (N : Nat) (n p : Int) (hS : Sp N S) (hN : N ≤ 900000) (h1 : 1 ≤ n) (hn : n ≤ G30) (h0 : 0 ≤ p) (hp : p < n) :
    ∃ S', den_n__law_place_right [S, .fr (.int n), .fr (.int p)] = .ret (.fr (.bl true)) [S'] ∧ Sp (N + 200) S' := by
  have hK := Kn_le n
  have hn' : n ≤ 1000000000000000000000000000000 := hn
  have a1 := touched' n p h1 hn h0 hp
  have a2 := level_count n h1 hn
  have a3 := touched_top' n p h1 hn h0 hp
  have a4 := row_length n h1 hn (Kn n) (Nat.le_refl _)
  have hlc := levels_lc n p [some S, some (.fr (.int n)), some (.fr (.int p)), some (.fr (.lst ((ents n p).map t3))), some (.fr (.int (Kn n))), none, none, none, none, none, none] rfl rfl (ents n p) (by rw [ents_len]; omega)
  have hrg : rgOk 1 ((Kn n : Int) + 1) = true := by
    unfold rgOk
    rw [smallI_of (by omega) (by omega), smallI_of (by omega) (by omega)]
    exact decide_eq_true (by omega)
  have hlv : (ents n p).map (·.1) = (List.range' 0 (Kn n)).map fun j : Nat => 1 + (j : Int) := by
    unfold ents
    rw [List.map_map]
    refine List.map_congr_left fun k _ => ?_
    show (k : Int) + 1 = 1 + k
    omega
  have hrd : rangeD 1 (Kn n) = ((ents n p).map (·.1)).map D.int := by
    rw [hlv, ← rangeD_eq]
  obtain ⟨ρ1, e1, S1, x5, x6, x7, x8, x9, hS1, rfl⟩ := forGo_inv (g := lg_n__law_place_right_6) (b := lb_n__law_place_right_6) (PI n p N) ((ents n p).map t3) 0
    [some S, some (.fr (.int n)), some (.fr (.int p)), some (.fr (.lst ((ents n p).map t3))), some (.fr (.int (Kn n))), none, none, none, none, none, none]
    ⟨S, none, none, none, none, none, hS, rfl⟩ fun k d ρ hd hI => by
      have hk : k < Kn n := by
        have := (List.getElem?_eq_some_iff.1 hd).1
        rwa [List.length_map, ents_len] at this
      rw [List.getElem?_map, ents_get n p hk] at hd
      obtain rfl : t3 (ent n p k) = d := by simpa using hd
      rw [Nat.zero_add] at hI ⊢
      obtain ⟨ρ1, e1, ρ2, e2, h2⟩ := pr_part n p h1 hn h0 hp N hN k hk ρ hI
      exact ⟨ρ1, e1, ρ2, .inl e2, h2⟩
  have hm := Lr_pos n h1 (Kn n)
  have hml := rows_last n hn
  have cs := fun i => coarse_span n h1 hn (Kn n) (Nat.le_refl _) i
  have ci := fun i => @coarse_iff n p h1 h0 hp (Kn n) i
  generalize hm' : Lr n (Kn n) = m at *
  generalize Fk p (Kn n) = F at *
  generalize Lk n p (Kn n) = L at *
  obtain ⟨ρ2, e2, y9, rfl⟩ := forGo_inv (g := lg_n__law_place_right_0) (b := lb_n__law_place_right_0)
    (fun _ ρ => ∃ y9, ρ = [some S1, some (.fr (.int n)), some (.fr (.int p)), some (.fr (.lst ((ents n p).map t3))), some (.fr (.int (Kn n))), x5, some (.fr (.int F)), some (.fr (.int L)), x8, y9, none]) (rangeD 0 m.toNat) 0 _
    ⟨x9, rfl⟩ fun i d ρ hd hI => by
      obtain ⟨y9, rfl⟩ := hI
      obtain ⟨hi, rfl⟩ := rangeD_get hd
      have c1 := cs (0 + (i : Int)) (by omega) (by omega)
      have c2 := ci (0 + (i : Int)) (by omega) (by omega)
      refine ⟨_, by simp [lg_n__law_place_right_0]; rfl, _, .inl ?_, some (.fr (.int (i : Int))), rfl⟩
      rw [Int.zero_add] at c1 c2
      by_cases h : F ≤ (i : Int)
      · by_cases h' : (i : Int) ≤ L
        · simp [lb_n__law_place_right_0, c1, within, c2, h, h']
        · simp [lb_n__law_place_right_0, c1, within, c2, h, h']
      · simp [lb_n__law_place_right_0, c1, within, c2, h]
  have hs : smallI m = true := smallI_of (by omega) (by omega)
  refine ⟨S1, ?_, hS1.le (by rw [List.length_map, ents_len]; omega)⟩
  simp [-List.map_map, den_n__law_place_right, b_n__law_place_right, ev_dn, a1, a2, a3, a4, hlc, hrg, hrd, e1, e2, hs]
end Mt

namespace Mt
open PySem Q Dn L2
theorem zipD_get : ∀ (xs ys : List D) (j : Nat) (d : D), (zipD xs ys)[j]? = some d → ∃ x y, xs[j]? = some x ∧ ys[j]? = some y ∧ d = .tup [x, y] := by
  intro xs
  induction xs with
  | nil => intro ys j d h; simp [zipD] at h
  | cons x xs ih =>
    intro ys j d h
    cases ys with
    | nil => simp [zipD] at h
    | cons y ys =>
      rw [zipD] at h
      cases j with
      | zero => simp at h; exact ⟨x, y, rfl, rfl, h.symm⟩
      | succ j => rw [List.getElem?_cons_succ] at h; exact ih ys j d h
theorem order_right (n p : Int) (h1 : 1 ≤ n) (hn : n ≤ G30) (h0 : 0 ≤ p) (hp : p < n) :
    den_n__law_order_right [.fr (.int n), .fr (.int p)] = .ret (.fr (.bl true)) [] := by
  by_cases he : p + 1 = n
  · simp [den_n__law_order_right, b_n__law_order_right, ev_dn, he]
  have a1 := touched' n p h1 hn h0 hp
  have a2 := touched' n (p + 1) h1 hn (by omega) (by omega)
  have a3 := touched_top' n p h1 hn h0 hp
  have a4 := touched_top' n (p + 1) h1 hn (by omega) (by omega)
  obtain ⟨ρ1, e1, x2, x3, rfl⟩ := forGo_inv (g := lg_n__law_order_right_0) (b := lb_n__law_order_right_0)
    (fun _ ρ => ∃ x2 x3, ρ = [some (.fr (.int n)), some (.fr (.int p)), x2, x3]) (zipD ((ents n p).map t3) ((ents n (p + 1)).map t3)) 0 [some (.fr (.int n)), some (.fr (.int p)), none, none]
    ⟨none, none, rfl⟩ fun k d ρ hd hI => by
      obtain ⟨x2, x3, rfl⟩ := hI
      obtain ⟨a, b, ha, hb, rfl⟩ := zipD_get _ _ _ _ hd
      have hk : k < Kn n := by
        have := (List.getElem?_eq_some_iff.1 ha).1
        rwa [List.length_map, ents_len] at this
      rw [List.getElem?_map, ents_get n _ hk] at ha hb
      obtain rfl : t3 (ent n p k) = a := by simpa using ha
      obtain rfl : t3 (ent n (p + 1) k) = b := by simpa using hb
      have hm := rows_big n hk
      have hle := Lr_le n h1 k
      obtain ⟨t1, t2, t4⟩ := touch_ok h1 h0 hp k hm
      have g1 := gap n hn k (tdE (Lr n k) (Fk p k) (Lk n p k)) (p + 1) (by omega) (by omega)
      have m1 : ¬ tdB (Fk (p + 1) k) < tdB (Fk p k) := by
        have := tdB_mono (Fk_mono h0 (show p ≤ p + 1 by omega) k)
        omega
      have m2 := @tdE_mono n p (p + 1) h1 h0 (by omega) (by omega) k hm
      refine ⟨_, by simp [lg_n__law_order_right_0]; rfl, _, .inl ?_, some (.fr (t3 (ent n p k))), some (.fr (t3 (ent n (p + 1) k))), rfl⟩
      by_cases c1 : tdE (Lr n k) (Fk (p + 1) k) (Lk n (p + 1) k) < tdE (Lr n k) (Fk p k) (Lk n p k)
      · have c2 : Gap n k (tdE (Lr n k) (Fk p k) (Lk n p k)) (p + 1) := Classical.byContradiction fun h => by
          have := m2 h
          omega
        simp [lb_n__law_order_right_0, t3, ent, m1, c1, g1, c2]
      · simp [lb_n__law_order_right_0, t3, ent, m1, c1]
  have b1 := Fk_mono h0 (show p ≤ p + 1 by omega) (Kn n)
  have b2 := Lk_mono h1 h0 (show p ≤ p + 1 by omega) (show p + 1 < n by omega) (Kn n)
  simp [den_n__law_order_right, b_n__law_order_right, ev_dn, he, a1, a2, a3, a4, e1, b1, b2]

/-! ### number_right -/
def NI (n i b e : Int) (k : Nat) (ρ : Sl) : Prop := ∃ S x6 x7, Sp k S ∧ ρ = [some S, some (.fr (.int n)), some (.fr (.int ((k : Int) + 1))), some (.fr (.int i)), some (.fr (.int b)), some (.fr (.int e)), x6, x7, none, none]
theorem number_right (S : PV) (N : Nat) (n : Int) (hS : Sp N S) (hN : N ≤ 900000) (h1 : 1 ≤ n) (hn : n ≤ G30) (hK0 : 0 < Kn n) :
    ∃ S', den_n__law_number_right [S, .fr (.int n)] = .ret (.fr (.bl true)) [S'] ∧ Sp (N + 4) S' := by
  have hK := Kn_le n
  have hn' : n ≤ 1000000000000000000000000000000 := hn
  have a2 := level_count n h1 hn
  obtain ⟨v, S1, e1, v0, v1, hS1⟩ := reel S N (Kn n) hS (by omega) (by omega) (by omega)
  obtain ⟨k, rfl⟩ : ∃ k : Nat, v = k := ⟨v.toNat, by omega⟩
  have hk : k < Kn n := by omega
  have dl := details_length n h1 hn k hk
  simp only [Int.natCast_add, Int.cast_ofNat_Int] at dl
  have hm := rows_big n hk
  have hle := Lr_le n h1 k
  obtain ⟨i, S2, e2, i0, i1, hS2⟩ := spot S1 (N + 1) (Lr n k / 2) hS1 (by omega) (by omega) (by show _ ≤ G30; omega)
  have ds := detail_span n h1 hn k hk i i0 i1
  obtain ⟨c1, c2, c3, c4, c5⟩ := dBE hm i0 i1
  obtain ⟨s1, s2, s3⟩ := span_ok h1 k c1 c2 c3
  have hgp := fun p => gap n hn k i p i0 (by omega)
  have hdi := fun p h0 hp hg => @detail_iff n p h1 h0 hp k hm i i0 i1 hg
  have ht := fun p h0 hp => touched' n p h1 hn h0 hp
  obtain ⟨e1', e2'⟩ := end_ok h1 k hm i0 i1
  have hcs := coarse_span n h1 hn (k + 1) (by omega) i i0 (by rw [Lr_succ]; omega)
  have hpw := power2 (k + 1) (by omega)
  have hdn := fun h => detail_span n h1 hn k hk (i + 1) (by omega) h
  have hmu : mulOk i (P2 (k + 1)) = true := by
    have h2 : P2 (k + 1) ≤ P2 300 := P2_mono (by omega)
    have h3 := P2_pos (k + 1)
    exact mulOk_of (a := 200) (b := 301) (by omega) (by unfold P2 at *; omega) (by decide) (by decide) (by decide)
  obtain ⟨w, S3, e3, w0, w1, hS3⟩ := reel S2 (N + 1 + 2) (spB n k (dE (Lr n k) i) - spA k (dB (Lr n k) i) + 1) hS2 (by omega) (by omega) (by omega)
  have nxt : i + 1 < Lr n k / 2 → ¬ (spA k (dB (Lr n k) (i + 1)) < spA k (dB (Lr n k) i)) ∧ ¬ (spB n k (dE (Lr n k) (i + 1)) < spB n k (dE (Lr n k) i)) := fun h => by
    have := spA_mono (k := k) (dB_next h)
    have := @spB_mono n k _ _ (dE_next h)
    omega
  generalize hB : spA k (dB (Lr n k) i) = B at *
  generalize hE : spB n k (dE (Lr n k) i) = E at *
  have one : ∀ (p : Int) (x6 x7 : Option PV), ∃ y7, lb_n__law_number_right_0 [some S3, some (.fr (.int n)), some (.fr (.int ((k : Int) + 1))), some (.fr (.int i)), some (.fr (.int B)), some (.fr (.int E)), some (.fr (.int p)), x7, none, none] =
      .nx [some S3, some (.fr (.int n)), some (.fr (.int ((k : Int) + 1))), some (.fr (.int i)), some (.fr (.int B)), some (.fr (.int E)), some (.fr (.int p)), y7, none, none] := fun p x6 x7 => by
    by_cases p0 : 0 ≤ p
    · by_cases pn : p < n
      · by_cases hg : Gap n k i p
        · exact ⟨x7, by simp [lb_n__law_number_right_0, p0, pn, hgp, hg]⟩
        · refine ⟨some (.fr (t3 (ent n p k))), ?_⟩
          have hat : atI ((ents n p).map t3) (k : Int) = some (t3 (ent n p k)) := L2.atI_nat (by rw [List.getElem?_map, ents_get n p hk]; rfl)
          have ek : (k : Int) + 1 - 1 = k := by omega
          have hd := hdi p p0 pn hg
          simp [lb_n__law_number_right_0, p0, pn, hgp, hg, ht p p0 pn, ek, hat, t3, ent]
          simp only [← Bool.decide_and, hd]
      · exact ⟨x7, by simp [lb_n__law_number_right_0, p0, pn]⟩
    · exact ⟨x7, by simp [lb_n__law_number_right_0, p0]⟩
  refine ⟨S3, ?_, hS3.le (by omega)⟩
  have go : ∀ (ps : List Int) (x6 x7 : Option PV), ∃ y6 y7, forGo (gN 6) lb_n__law_number_right_0 (ps.map D.int) [some S3, some (.fr (.int n)), some (.fr (.int ((k : Int) + 1))), some (.fr (.int i)), some (.fr (.int B)), some (.fr (.int E)), x6, x7, none, none] =
      .nx [some S3, some (.fr (.int n)), some (.fr (.int ((k : Int) + 1))), some (.fr (.int i)), some (.fr (.int B)), some (.fr (.int E)), y6, y7, none, none] := fun ps => by
    induction ps with
    | nil => exact fun x6 x7 => ⟨x6, x7, rfl⟩
    | cons p ps ih =>
      intro x6 x7
      obtain ⟨y7, h⟩ := one p x6 x7
      obtain ⟨z6, z7, h2⟩ := ih (some (.fr (.int p))) y7
      refine ⟨z6, z7, ?_⟩
      rw [List.map_cons, fg_cons]
      simp [h, h2]
  obtain ⟨z6, z7, g⟩ := go [B, E, B + w, B - 1, E + 1] none none
  simp at g
  have b1 : E < n := s3
  have e10 : (1 : Int) + k = k + 1 := by omega
  have hcs' := hcs
  rw [Int.natCast_add, Int.cast_ofNat_Int] at hcs' hpw
  by_cases hx : i + 1 < Lr n k / 2
  · obtain ⟨n1, n2⟩ := nxt hx
    simp [den_n__law_number_right, b_n__law_number_right, lg_n__law_number_right_0, ev_dn, a2, e1, e2, e3, e10, dl, ds, s1, s2, s3, g, hx, hdn hx, n1, n2, hcs', hpw, hmu, e1', e2']
  · simp [den_n__law_number_right, b_n__law_number_right, lg_n__law_number_right_0, ev_dn, a2, e1, e2, e3, e10, dl, ds, s1, s2, s3, g, hx, hcs', hpw, hmu, e1', e2']
end Mt

namespace Mt
open PySem Q Dn L2
theorem turn (X K : Option PV) (S : PV) (N : Nat) (n : Int) (x4 x5 : Option PV) (hS : Sp N S) (hN : N ≤ 800000) (h1 : 1 ≤ n) (hn : n ≤ G30) :
    ∃ S' y5, lb_n_law_0 [X, K, some S, some (.fr (.int n)), x4, x5] = .nx [X, K, some S', some (.fr (.int n)), x4, y5] ∧ Sp (N + 202) S' := by
  obtain ⟨p, S1, e1, p0, p1, hS1⟩ := spot S N n hS (by omega) h1 hn
  obtain ⟨S2, e2, hS2⟩ := place_right S1 (N + 2) n p hS1 (by omega) h1 hn p0 p1
  have e3 := order_right n p h1 hn p0 p1
  exact ⟨S2, some (.fr (.int p)), by simp [lb_n_law_0, e1, e2, e3], hS2.le (by omega)⟩
theorem cell (xs : List Int) (k : Nat) (hk : k < 64) (x2 x3 x4 x5 : Option PV) :
    ∃ y2 y3 y4 y5, lb_n_law_2 [some (.fr (.lst (xs.map .int))), some (.fr (.int k)), x2, x3, x4, x5] = .nx [some (.fr (.lst (xs.map .int))), some (.fr (.int k)), y2, y3, y4, y5] := by
  obtain ⟨S, e1, hS⟩ := spool xs k hk
  obtain ⟨n, S1, e2, h1, hn, hS1⟩ := length S 0 hS (by omega)
  have hlst : ∃ ds, S = .oL ds := by obtain ⟨a, b, c, e, _⟩ := hS; exact ⟨_, e⟩
  obtain ⟨S2, y5, e3, hS2⟩ := turn (some (.fr (.lst (xs.map .int)))) (some (.fr (.int k))) S1 3 n (some (.fr (.int 0))) x5 hS1 (by omega) h1 hn
  obtain ⟨S3, z5, e4, hS3⟩ := turn (some (.fr (.lst (xs.map .int)))) (some (.fr (.int k))) S2 (3 + 202) n (some (.fr (.int 1))) y5 hS2 (by omega) h1 hn
  have lc := level_count n h1 hn
  have r2 : rangeD 0 2 = [.int 0, .int 1] := rfl
  by_cases hK : 0 < Kn n
  · obtain ⟨S4, e5, hS4⟩ := number_right S3 (3 + 202 + 202) n hS3 (by omega) h1 hn hK
    refine ⟨some S4, some (.fr (.int n)), some (.fr (.int 1)), z5, ?_⟩
    simp [lb_n_law_2, e1, e2, r2, fg_cons, fg_nil, lg_n_law_0, e3, e4, lc, hK, e5]
  · refine ⟨some S3, some (.fr (.int n)), some (.fr (.int 1)), z5, ?_⟩
    simp [lb_n_law_2, e1, e2, r2, fg_cons, fg_nil, lg_n_law_0, e3, e4, lc, hK]
theorem law_true (xs : List Int) : ∃ bs, den_n_law [.fr (.lst (xs.map .int))] = .ret (.fr (.bl true)) bs := by
  obtain ⟨ρ1, e1, x1, x2, x3, x4, x5, rfl⟩ := forGo_inv (g := lg_n_law_2) (b := lb_n_law_2)
    (fun _ ρ => ∃ x1 x2 x3 x4 x5, ρ = [some (.fr (.lst (xs.map .int))), x1, x2, x3, x4, x5]) (rangeD 0 (if (if (xs.length : Int) < 8 then (xs.length : Int) else 8) > 1 then (if (xs.length : Int) < 8 then (xs.length : Int) else 8) else 1).toNat) 0 [some (.fr (.lst (xs.map .int))), none, none, none, none, none]
    ⟨none, none, none, none, none, rfl⟩ fun k d ρ hd hI => by
      obtain ⟨x1, x2, x3, x4, x5, rfl⟩ := hI
      obtain ⟨hk, rfl⟩ := rangeD_get hd
      have hk2 : k < 64 := by omega
      obtain ⟨y2, y3, y4, y5, e⟩ := cell xs k hk2 x2 x3 x4 x5
      rw [Int.zero_add]
      exact ⟨[some (.fr (.lst (xs.map .int))), some (.fr (.int k)), x2, x3, x4, x5], by simp [lg_n_law_2], _, .inl e, _, _, _, _, _, rfl⟩
  have hs : smallI (if (if (xs.length : Int) < 8 then (xs.length : Int) else 8) > 1 then (if (xs.length : Int) < 8 then (xs.length : Int) else 8) else 1) = true := smallI_of (by split <;> (try split) <;> omega) (by split <;> (try split) <;> omega)
  refine ⟨[], ?_⟩
  simp at e1 hs
  simp [den_n_law, b_n_law, ev_dn, e1, hs]
end Mt
namespace Wk
open PySem PySem.Spec PyProof.Rows L2 Q Dn
def top (i : Nat) : Stmt := PySem.Challenge.pw_liftlevels_k83_whole_spans_and_touches.main.body.getD i (.Pass ⟨0, 0, 0, 0⟩)
def fn0 : List He.DefD := [⟨("row_lengths", none), "row_lengths", "row_lengths", defArgs (top 11), defBody (top 11), defScope (top 11), [], []⟩,
  ⟨("count_levels", none), "count_levels", "count_levels", defArgs (top 12), defBody (top 12), defScope (top 12), [], []⟩,
  ⟨("is_int", none), "is_int", "is_int", defArgs (top 1), defBody (top 1), defScope (top 1), [], []⟩,
  ⟨("is_whole", none), "is_whole", "is_whole", defArgs (top 2), defBody (top 2), defScope (top 2), [], []⟩,
  ⟨("require_length", none), "require_length", "require_length", defArgs (top 15), defBody (top 15), defScope (top 15), [], []⟩,
  ⟨("level_count", none), "level_count", "level_count", defArgs (top 28), defBody (top 28), defScope (top 28), [], []⟩,
  ⟨("_law_spool", none), "_law_spool", "_law_spool", defArgs (top 32), defBody (top 32), defScope (top 32), [], []⟩,
  ⟨("_law_reel", none), "_law_reel", "_law_reel", defArgs (top 33), defBody (top 33), defScope (top 33), [], []⟩,
  ⟨("_law_power", none), "_law_power", "_law_power", defArgs (top 35), defBody (top 35), defScope (top 35), [], []⟩,
  ⟨("_law_length", none), "_law_length", "_law_length", defArgs (top 37), defBody (top 37), defScope (top 37), [], []⟩,
  ⟨("_law_spot", none), "_law_spot", "_law_spot", defArgs (top 38), defBody (top 38), defScope (top 38), [], []⟩,
  ⟨("row_length_of", none), "row_length_of", "row_length_of", defArgs (top 13), defBody (top 13), defScope (top 13), [], []⟩,
  ⟨("require_level", none), "require_level", "require_level", defArgs (top 16), defBody (top 16), defScope (top 16), [], []⟩,
  ⟨("require_index", none), "require_index", "require_index", defArgs (top 18), defBody (top 18), defScope (top 18), [], []⟩,
  ⟨("span_of", none), "span_of", "span_of", defArgs (top 22), defBody (top 22), defScope (top 22), [], []⟩,
  ⟨("coarse_span", none), "coarse_span", "coarse_span", defArgs (top 23), defBody (top 23), defScope (top 23), [], []⟩,
  ⟨("details_length_of", none), "details_length_of", "details_length_of", defArgs (top 14), defBody (top 14), defScope (top 14), [], []⟩,
  ⟨("detail_span", none), "detail_span", "detail_span", defArgs (top 24), defBody (top 24), defScope (top 24), [], []⟩,
  ⟨("require_place", none), "require_place", "require_place", defArgs (top 17), defBody (top 17), defScope (top 17), [], []⟩,
  ⟨("touched_details", none), "touched_details", "touched_details", defArgs (top 20), defBody (top 20), defScope (top 20), [], []⟩,
  ⟨("touched_parts", none), "touched_parts", "touched_parts", defArgs (top 21), defBody (top 21), defScope (top 21), [], []⟩,
  ⟨("touched", none), "touched", "touched", defArgs (top 25), defBody (top 25), defScope (top 25), [], []⟩,
  ⟨("touched_top", none), "touched_top", "touched_top", defArgs (top 26), defBody (top 26), defScope (top 26), [], []⟩,
  ⟨("row_length", none), "row_length", "row_length", defArgs (top 29), defBody (top 29), defScope (top 29), [], []⟩,
  ⟨("details_length", none), "details_length", "details_length", defArgs (top 30), defBody (top 30), defScope (top 30), [], []⟩,
  ⟨("_law_within", none), "_law_within", "_law_within", defArgs (top 39), defBody (top 39), defScope (top 39), [], []⟩,
  ⟨("_law_gap", none), "_law_gap", "_law_gap", defArgs (top 40), defBody (top 40), defScope (top 40), [], []⟩,
  ⟨("_law_place_right", none), "_law_place_right", "_law_place_right", defArgs (top 41), defBody (top 41), defScope (top 41), [], []⟩,
  ⟨("_law_number_right", none), "_law_number_right", "_law_number_right", defArgs (top 42), defBody (top 42), defScope (top 42), [], []⟩,
  ⟨("_law_order_right", none), "_law_order_right", "_law_order_right", defArgs (top 43), defBody (top 43), defScope (top 43), [], []⟩]
def fn1 : List He.DefD := [⟨("law", none), "law", "law", defArgs (top 44), defBody (top 44), defScope (top 44), [], []⟩]
def fn : List He.DefD := fn0 ++ fn1
def fa0 : List He.Fa := [.free "len",
  .free "min",
  .free "max",
  .free "range",
  .int "MOST_SAMPLES" 1000000000000000000000000000000,
  .free "int",
  .free "isinstance",
  .free "bool",
  .free "abs",
  .free "list",
  .free "enumerate",
  .free "zip",
  .glo "row_lengths",
  .glo "count_levels",
  .glo "is_int",
  .glo "is_whole",
  .glo "require_length",
  .glo "level_count",
  .glo "_law_spool",
  .glo "_law_reel",
  .glo "_law_power",
  .glo "_law_length",
  .glo "_law_spot",
  .glo "row_length_of",
  .glo "require_level",
  .glo "require_index",
  .glo "span_of",
  .glo "coarse_span",
  .glo "details_length_of",
  .glo "detail_span"]
def fa1 : List He.Fa := [.glo "require_place",
  .glo "touched_details",
  .glo "touched_parts",
  .glo "touched",
  .glo "touched_top",
  .glo "row_length",
  .glo "details_length",
  .glo "_law_within",
  .glo "_law_gap",
  .glo "_law_place_right",
  .glo "_law_number_right",
  .glo "_law_order_right",
  .glo "law"]
def fa : List He.Fa := fa0 ++ fa1
def loose0 : List Str := ["is_int",
  "is_whole",
  "CodecError",
  "InvalidLength",
  "InvalidPlace",
  "InvalidLevel",
  "InvalidIndex",
  "MOST_SAMPLES",
  "row_lengths",
  "count_levels",
  "row_length_of",
  "details_length_of",
  "require_length",
  "require_level",
  "require_place",
  "require_index",
  "touched_details",
  "touched_parts",
  "span_of",
  "coarse_span",
  "detail_span",
  "touched",
  "touched_top",
  "level_count",
  "row_length",
  "details_length",
  "_law_spool",
  "_law_reel",
  "_law_signed",
  "_law_power"]
def loose1 : List Str := ["_law_levels",
  "_law_length",
  "_law_spot",
  "_law_within",
  "_law_gap",
  "_law_place_right",
  "_law_number_right",
  "_law_order_right"]
def loose : List Str := loose0 ++ loose1

abbrev R : PySem.W.OpenRow := PySem.W.OpenLaw.row PySem.Challenge.rw_liftlevels_k83_whole_spans_and_touches
abbrev hk : PySem.W.Hook := He.hookD 5 fa fn
def ob (s : PySem.W.SharedT) : He.AlD := He.obsDG 5 fa fn (HandSHeadRun.getT s)
theorem ob_eq (s : PySem.W.SharedT) : ob s = hk.obs s.abs := He.obsDG_eq (HandSHeadRun.getT_eq s)
theorem run (w : World) : HandSHeadRun.RunEq R (PySem.W.view R.prog [44]) hk ob 20000 loose w := by
  intro os
  kernel_rfl
def Tx (K : PySem.W.Frag) (mg : Str → Option Value) : Prop := ∃ h : Heap, K.In h ∧ h.Ns mainGlobals mg ∧ He.SaysD fa fn K
section
variable {P : Program} {w : World} {K : PySem.W.Frag} {mg : Str → Option Value} {base : Heap} (T : Tx K mg)
include T
theorem f_free_n_len : mg "len" = none := let ⟨_, X, G, c⟩ := T; He.free_ok X G (c.fact 0 (f := .free "len") rfl)
theorem f_free_n_min : mg "min" = none := let ⟨_, X, G, c⟩ := T; He.free_ok X G (c.fact 1 (f := .free "min") rfl)
theorem f_free_n_max : mg "max" = none := let ⟨_, X, G, c⟩ := T; He.free_ok X G (c.fact 2 (f := .free "max") rfl)
theorem f_free_n_range : mg "range" = none := let ⟨_, X, G, c⟩ := T; He.free_ok X G (c.fact 3 (f := .free "range") rfl)
theorem f_int_n_MOST_SAMPLES : ∃ t, mg "MOST_SAMPLES" = some (.int 1000000000000000000000000000000 t) := let ⟨_, X, G, c⟩ := T; He.int_ok X G (c.fact 4 (f := .int "MOST_SAMPLES" 1000000000000000000000000000000) rfl)
theorem f_free_n_int : mg "int" = none := let ⟨_, X, G, c⟩ := T; He.free_ok X G (c.fact 5 (f := .free "int") rfl)
theorem f_free_n_isinstance : mg "isinstance" = none := let ⟨_, X, G, c⟩ := T; He.free_ok X G (c.fact 6 (f := .free "isinstance") rfl)
theorem f_free_n_bool : mg "bool" = none := let ⟨_, X, G, c⟩ := T; He.free_ok X G (c.fact 7 (f := .free "bool") rfl)
theorem f_free_n_abs : mg "abs" = none := let ⟨_, X, G, c⟩ := T; He.free_ok X G (c.fact 8 (f := .free "abs") rfl)
theorem f_free_n_list : mg "list" = none := let ⟨_, X, G, c⟩ := T; He.free_ok X G (c.fact 9 (f := .free "list") rfl)
theorem f_free_n_enumerate : mg "enumerate" = none := let ⟨_, X, G, c⟩ := T; He.free_ok X G (c.fact 10 (f := .free "enumerate") rfl)
theorem f_free_n_zip : mg "zip" = none := let ⟨_, X, G, c⟩ := T; He.free_ok X G (c.fact 11 (f := .free "zip") rfl)
theorem f_glo_n_row_lengths : mg "row_lengths" = some (.ref (He.ga K "row_lengths")) := let ⟨_, X, G, c⟩ := T; He.glo_ok X G (c.fact 12 (f := .glo "row_lengths") rfl)
theorem f_glo_n_count_levels : mg "count_levels" = some (.ref (He.ga K "count_levels")) := let ⟨_, X, G, c⟩ := T; He.glo_ok X G (c.fact 13 (f := .glo "count_levels") rfl)
theorem f_glo_n_is_int : mg "is_int" = some (.ref (He.ga K "is_int")) := let ⟨_, X, G, c⟩ := T; He.glo_ok X G (c.fact 14 (f := .glo "is_int") rfl)
theorem f_glo_n_is_whole : mg "is_whole" = some (.ref (He.ga K "is_whole")) := let ⟨_, X, G, c⟩ := T; He.glo_ok X G (c.fact 15 (f := .glo "is_whole") rfl)
theorem f_glo_n_require_length : mg "require_length" = some (.ref (He.ga K "require_length")) := let ⟨_, X, G, c⟩ := T; He.glo_ok X G (c.fact 16 (f := .glo "require_length") rfl)
theorem f_glo_n_level_count : mg "level_count" = some (.ref (He.ga K "level_count")) := let ⟨_, X, G, c⟩ := T; He.glo_ok X G (c.fact 17 (f := .glo "level_count") rfl)
theorem f_glo_n__law_spool : mg "_law_spool" = some (.ref (He.ga K "_law_spool")) := let ⟨_, X, G, c⟩ := T; He.glo_ok X G (c.fact 18 (f := .glo "_law_spool") rfl)
theorem f_glo_n__law_reel : mg "_law_reel" = some (.ref (He.ga K "_law_reel")) := let ⟨_, X, G, c⟩ := T; He.glo_ok X G (c.fact 19 (f := .glo "_law_reel") rfl)
theorem f_glo_n__law_power : mg "_law_power" = some (.ref (He.ga K "_law_power")) := let ⟨_, X, G, c⟩ := T; He.glo_ok X G (c.fact 20 (f := .glo "_law_power") rfl)
theorem f_glo_n__law_length : mg "_law_length" = some (.ref (He.ga K "_law_length")) := let ⟨_, X, G, c⟩ := T; He.glo_ok X G (c.fact 21 (f := .glo "_law_length") rfl)
theorem f_glo_n__law_spot : mg "_law_spot" = some (.ref (He.ga K "_law_spot")) := let ⟨_, X, G, c⟩ := T; He.glo_ok X G (c.fact 22 (f := .glo "_law_spot") rfl)
theorem f_glo_n_row_length_of : mg "row_length_of" = some (.ref (He.ga K "row_length_of")) := let ⟨_, X, G, c⟩ := T; He.glo_ok X G (c.fact 23 (f := .glo "row_length_of") rfl)
theorem f_glo_n_require_level : mg "require_level" = some (.ref (He.ga K "require_level")) := let ⟨_, X, G, c⟩ := T; He.glo_ok X G (c.fact 24 (f := .glo "require_level") rfl)
theorem f_glo_n_require_index : mg "require_index" = some (.ref (He.ga K "require_index")) := let ⟨_, X, G, c⟩ := T; He.glo_ok X G (c.fact 25 (f := .glo "require_index") rfl)
theorem f_glo_n_span_of : mg "span_of" = some (.ref (He.ga K "span_of")) := let ⟨_, X, G, c⟩ := T; He.glo_ok X G (c.fact 26 (f := .glo "span_of") rfl)
theorem f_glo_n_coarse_span : mg "coarse_span" = some (.ref (He.ga K "coarse_span")) := let ⟨_, X, G, c⟩ := T; He.glo_ok X G (c.fact 27 (f := .glo "coarse_span") rfl)
theorem f_glo_n_details_length_of : mg "details_length_of" = some (.ref (He.ga K "details_length_of")) := let ⟨_, X, G, c⟩ := T; He.glo_ok X G (c.fact 28 (f := .glo "details_length_of") rfl)
theorem f_glo_n_detail_span : mg "detail_span" = some (.ref (He.ga K "detail_span")) := let ⟨_, X, G, c⟩ := T; He.glo_ok X G (c.fact 29 (f := .glo "detail_span") rfl)
theorem f_glo_n_require_place : mg "require_place" = some (.ref (He.ga K "require_place")) := let ⟨_, X, G, c⟩ := T; He.glo_ok X G (c.fact 30 (f := .glo "require_place") rfl)
theorem f_glo_n_touched_details : mg "touched_details" = some (.ref (He.ga K "touched_details")) := let ⟨_, X, G, c⟩ := T; He.glo_ok X G (c.fact 31 (f := .glo "touched_details") rfl)
theorem f_glo_n_touched_parts : mg "touched_parts" = some (.ref (He.ga K "touched_parts")) := let ⟨_, X, G, c⟩ := T; He.glo_ok X G (c.fact 32 (f := .glo "touched_parts") rfl)
theorem f_glo_n_touched : mg "touched" = some (.ref (He.ga K "touched")) := let ⟨_, X, G, c⟩ := T; He.glo_ok X G (c.fact 33 (f := .glo "touched") rfl)
theorem f_glo_n_touched_top : mg "touched_top" = some (.ref (He.ga K "touched_top")) := let ⟨_, X, G, c⟩ := T; He.glo_ok X G (c.fact 34 (f := .glo "touched_top") rfl)
theorem f_glo_n_row_length : mg "row_length" = some (.ref (He.ga K "row_length")) := let ⟨_, X, G, c⟩ := T; He.glo_ok X G (c.fact 35 (f := .glo "row_length") rfl)
theorem f_glo_n_details_length : mg "details_length" = some (.ref (He.ga K "details_length")) := let ⟨_, X, G, c⟩ := T; He.glo_ok X G (c.fact 36 (f := .glo "details_length") rfl)
theorem f_glo_n__law_within : mg "_law_within" = some (.ref (He.ga K "_law_within")) := let ⟨_, X, G, c⟩ := T; He.glo_ok X G (c.fact 37 (f := .glo "_law_within") rfl)
theorem f_glo_n__law_gap : mg "_law_gap" = some (.ref (He.ga K "_law_gap")) := let ⟨_, X, G, c⟩ := T; He.glo_ok X G (c.fact 38 (f := .glo "_law_gap") rfl)
theorem f_glo_n__law_place_right : mg "_law_place_right" = some (.ref (He.ga K "_law_place_right")) := let ⟨_, X, G, c⟩ := T; He.glo_ok X G (c.fact 39 (f := .glo "_law_place_right") rfl)
theorem f_glo_n__law_number_right : mg "_law_number_right" = some (.ref (He.ga K "_law_number_right")) := let ⟨_, X, G, c⟩ := T; He.glo_ok X G (c.fact 40 (f := .glo "_law_number_right") rfl)
theorem f_glo_n__law_order_right : mg "_law_order_right" = some (.ref (He.ga K "_law_order_right")) := let ⟨_, X, G, c⟩ := T; He.glo_ok X G (c.fact 41 (f := .glo "_law_order_right") rfl)
theorem f_glo_n_law : mg "law" = some (.ref (He.ga K "law")) := let ⟨_, X, G, c⟩ := T; He.glo_ok X G (c.fact 42 (f := .glo "law") rfl)
omit T in
abbrev N_n_row_lengths : List Str := ["length", "found"]
omit T in
theorem sc_n_row_lengths : FnScope N_n_row_lengths ["length"] (defScope (top 11)) := ⟨rfl, rfl, rfl, by decide +kernel, rfl, by decide +kernel, by decide +kernel⟩
theorem ok_n_row_lengths : FQ P w K mg base 1 "row_lengths" ["length"] [false] den_n_row_lengths :=
  FQ.mk (g := b_n_row_lengths) (N := N_n_row_lengths) (f := He.ga K "row_lengths") (let ⟨_, _, _, c⟩ := T; c.def_ 0 rfl) (f_glo_n_row_lengths T) sc_n_row_lengths rfl (by decide) rfl
  (fun _ _ _ _ _ _ us hl => match us, hl with | [_], _ => rfl)
  (fun cdv A outer s H E hr => by
  unfold b_n_row_lengths
  exact (qss_cons (qs_set (i := 1) (by decide) sc_n_row_lengths.nd rfl (Or.inl rfl) (qe_lst (qa_val (qe_var (pv 0)) qa_nil)))
  (qss_cons (qs_while 1099511627776 (passes_of rfl) (qt_cmp op_gt sGt (qe_idxN (i := 1) (pv 1) (qe_neg qe_int)) qe_int (nomark _)) (qss_one (qs_append (i := 1) (pv 1) (qe_fdiv (qe_add (qe_idxN (i := 1) (pv 1) (qe_neg qe_int)) qe_int) qe_int) rfl rfl rfl (fun pe => pe_bm PySem.F.plainAttrs_list PySem.F.slot_list_append PySem.F.type_list_append mt_append (pv 1) (pa_cons pe pa_nil)))))
  (qss_one (qs_ret (qe_mov (pv 1)))))))
omit T in
abbrev N_n_count_levels : List Str := ["length"]
omit T in
theorem sc_n_count_levels : FnScope N_n_count_levels ["length"] (defScope (top 12)) := ⟨rfl, rfl, rfl, by decide +kernel, rfl, by decide +kernel, by decide +kernel⟩
theorem ok_n_count_levels : FQ P w K mg base 2 "count_levels" ["length"] [false] den_n_count_levels :=
  FQ.mk (g := b_n_count_levels) (N := N_n_count_levels) (f := He.ga K "count_levels") (let ⟨_, _, _, c⟩ := T; c.def_ 1 rfl) (f_glo_n_count_levels T) sc_n_count_levels rfl (by decide) rfl
  (fun _ _ _ _ _ _ us hl => match us, hl with | [_], _ => rfl)
  (fun cdv A outer s H E hr => by
  unfold b_n_count_levels
  exact (qss_one (qs_ret (qe_sub (qe_callB call_len hLen_sem rfl (f_free_n_len T) (by decide +kernel) (qa_val (qe_callQ (takes_of rfl rfl rfl rfl) (ok_n_row_lengths T) (hr.mono (by decide)) (qa_val (qe_var (pv 0)) qa_nil)) qa_nil)) qe_int))))
omit T in
abbrev N_n_is_int : List Str := ["value"]
omit T in
theorem sc_n_is_int : FnScope N_n_is_int ["value"] (defScope (top 1)) := ⟨rfl, rfl, rfl, by decide +kernel, rfl, by decide +kernel, by decide +kernel⟩
theorem ok_n_is_int : FQ P w K mg base 1 "is_int" ["value"] [false] den_n_is_int :=
  FQ.mk (g := b_n_is_int) (N := N_n_is_int) (f := He.ga K "is_int") (let ⟨_, _, _, c⟩ := T; c.def_ 2 rfl) (f_glo_n_is_int T) sc_n_is_int rfl (by decide) rfl
  (fun _ _ _ _ _ _ us hl => match us, hl with | [_], _ => rfl)
  (fun cdv A outer s H E hr => by
  unfold b_n_is_int
  exact (qss_one (qs_ret (qe_and (qe_callB call_isi (hIs_sem kInt) rfl (f_free_n_isinstance T) (by decide +kernel) (qa_val (qe_var (pv 0)) (qa_val (qe_bty (f_free_n_int T) (by decide +kernel)) qa_nil))) (qe_one (qe_not (qe_callB call_isi (hIs_sem kBool) rfl (f_free_n_isinstance T) (by decide +kernel) (qa_val (qe_var (pv 0)) (qa_val (qe_bty (f_free_n_bool T) (by decide +kernel)) qa_nil)))))))))
omit T in
abbrev N_n_is_whole : List Str := ["value", "low", "high"]
omit T in
theorem sc_n_is_whole : FnScope N_n_is_whole ["value", "low", "high"] (defScope (top 2)) := ⟨rfl, rfl, rfl, by decide +kernel, rfl, by decide +kernel, by decide +kernel⟩
theorem ok_n_is_whole : FQ P w K mg base 2 "is_whole" ["value", "low", "high"] [false, false, false] den_n_is_whole :=
  FQ.mk (g := b_n_is_whole) (N := N_n_is_whole) (f := He.ga K "is_whole") (let ⟨_, _, _, c⟩ := T; c.def_ 3 rfl) (f_glo_n_is_whole T) sc_n_is_whole rfl (by decide) rfl
  (fun _ _ _ _ _ _ us hl => match us, hl with | [_, _, _], _ => rfl)
  (fun cdv A outer s H E hr => by
  unfold b_n_is_whole
  exact (qss_one (qs_ret (qe_and (qe_callQ (takes_of rfl rfl rfl rfl) (ok_n_is_int T) (hr.mono (by decide)) (qa_val (qe_var (pv 0)) qa_nil)) (qe_one (qe_chain op_le sLe op_le sLe (qe_var (pv 1)) (qe_var (pv 0)) (qe_var (pv 2))))))))
omit T in
abbrev N_n_require_length : List Str := ["value", "most"]
omit T in
theorem sc_n_require_length : FnScope N_n_require_length ["value", "most"] (defScope (top 15)) := ⟨rfl, rfl, rfl, by decide +kernel, rfl, by decide +kernel, by decide +kernel⟩
theorem ok_n_require_length : FQ P w K mg base 3 "require_length" ["value", "most"] [false, false] den_n_require_length :=
  FQ.mk (g := b_n_require_length) (N := N_n_require_length) (f := He.ga K "require_length") (let ⟨_, _, _, c⟩ := T; c.def_ 4 rfl) (f_glo_n_require_length T) sc_n_require_length rfl (by decide) rfl
  (fun _ _ _ _ _ _ us hl => match us, hl with | [_, _], _ => rfl)
  (fun cdv A outer s H E hr => by
  unfold b_n_require_length
  exact (qss_one (qs_if (qt_not (qt_val (qe_callQ (takes_of rfl rfl rfl rfl) (ok_n_is_whole T) (hr.mono (by decide)) (qa_val (qe_var (pv 0)) (qa_val qe_int (qa_val (qe_var (pv 1)) qa_nil)))))) (qss_one qs_never) qss_nil)))
omit T in
abbrev N_n_level_count : List Str := ["length"]
omit T in
theorem sc_n_level_count : FnScope N_n_level_count ["length"] (defScope (top 28)) := ⟨rfl, rfl, rfl, by decide +kernel, rfl, by decide +kernel, by decide +kernel⟩
theorem ok_n_level_count : FQ P w K mg base 4 "level_count" ["length"] [false] den_n_level_count :=
  FQ.mk (g := b_n_level_count) (N := N_n_level_count) (f := He.ga K "level_count") (let ⟨_, _, _, c⟩ := T; c.def_ 5 rfl) (f_glo_n_level_count T) sc_n_level_count rfl (by decide) rfl
  (fun _ _ _ _ _ _ us hl => match us, hl with | [_], _ => rfl)
  (fun cdv A outer s H E hr => by
  unfold b_n_level_count
  exact (qss_cons (qs_expr (qe_callQ (takes_of rfl rfl rfl rfl) (ok_n_require_length T) (hr.mono (by decide)) (qa_val (qe_var (pv 0)) (qa_val (qe_gint (f_int_n_MOST_SAMPLES T)) qa_nil))))
  (qss_one (qs_ret (qe_callQ (takes_of rfl rfl rfl rfl) (ok_n_count_levels T) (hr.mono (by decide)) (qa_val (qe_var (pv 0)) qa_nil))))))
omit T in
abbrev N_n__law_spool : List Str := ["_law_script", "_law_k", "_law_cell"]
omit T in
theorem sc_n__law_spool : FnScope N_n__law_spool ["_law_script", "_law_k"] (defScope (top 32)) := ⟨rfl, rfl, rfl, by decide +kernel, rfl, by decide +kernel, by decide +kernel⟩
theorem ok_n__law_spool : FQ P w K mg base 1 "_law_spool" ["_law_script", "_law_k"] [false, false] den_n__law_spool :=
  FQ.mk (g := b_n__law_spool) (N := N_n__law_spool) (f := He.ga K "_law_spool") (let ⟨_, _, _, c⟩ := T; c.def_ 6 rfl) (f_glo_n__law_spool T) sc_n__law_spool rfl (by decide) rfl
  (fun _ _ _ _ _ _ us hl => match us, hl with | [_, _], _ => rfl)
  (fun cdv A outer s H E hr => by
  unfold b_n__law_spool
  exact (qss_cons (qs_set (i := 2) (by decide) sc_n__law_spool.nd rfl (Or.inl rfl) qe_int)
  (qss_cons (qs_if (qt_cmp op_lt sLt (qe_var (pv 1)) (qe_lenN (i := 0) (f_free_n_len T) (by decide +kernel) (pv 0)) (nomark _)) (qss_one (qs_set (i := 2) (by decide) sc_n__law_spool.nd rfl (Or.inl rfl) (qe_idxN (i := 0) (pv 0) (qe_var (pv 1))))) qss_nil)
  (qss_one (qs_ret (qe_lst (qa_val (qe_callB (call_max2 rfl) (hII_sem fun F i j => .int _) rfl (f_free_n_max T) (by decide +kernel) (qa_val qe_int (qa_val (qe_sub (qe_var (pv 2)) (qe_pow qe_int qe_int)) qa_nil))) (qa_val (qe_add (qe_mul (qe_mod (qe_callB call_abs hAbs_sem rfl (f_free_n_abs T) (by decide +kernel) (qa_val (qe_var (pv 2)) qa_nil)) (qe_add (qe_pow qe_int qe_int) qe_int)) qe_int) (qe_var (pv 1))) (qa_val qe_int qa_nil)))))))))
omit T in
abbrev N_n__law_reel : List Str := ["_law_spool_here", "_law_many", "_law_found", "_law_mixed"]
omit T in
theorem sc_n__law_reel : FnScope N_n__law_reel ["_law_spool_here", "_law_many"] (defScope (top 33)) := ⟨rfl, rfl, rfl, by decide +kernel, rfl, by decide +kernel, by decide +kernel⟩
theorem ok_n__law_reel : FQ P w K mg base 1 "_law_reel" ["_law_spool_here", "_law_many"] [true, false] den_n__law_reel :=
  FQ.mk (g := b_n__law_reel) (N := N_n__law_reel) (f := He.ga K "_law_reel") (let ⟨_, _, _, c⟩ := T; c.def_ 7 rfl) (f_glo_n__law_reel T) sc_n__law_reel rfl (by decide) rfl
  (fun _ _ _ _ _ _ us hl => match us, hl with | [_, _], _ => rfl)
  (fun cdv A outer s H E hr => by
  unfold b_n__law_reel
  exact (qss_cons (qs_if (qt_cmp op_gt sGt (qe_idxN (i := 0) (pv 0) qe_int) qe_int (nomark _)) (qss_cons (qs_set (i := 2) (by decide) sc_n__law_reel.nd rfl (Or.inl rfl) (qe_mod (qe_callTy call_int1 hInt_sem rfl (f_free_n_int T) (by decide +kernel) (qa_val (qe_idxN (i := 0) (pv 0) qe_int) qa_nil)) (qe_var (pv 1))))
  (qss_cons (qs_setitem (i := 0) (pv 0) qe_int (qe_fdiv (qe_idxN (i := 0) (pv 0) qe_int) (qe_var (pv 1))))
  (qss_one (qs_ret (qe_mov (pv 2)))))) qss_nil)
  (qss_cons (qs_setitem (i := 0) (pv 0) qe_int (qe_add (qe_idxN (i := 0) (pv 0) qe_int) qe_int))
  (qss_cons (qs_set (i := 3) (by decide) sc_n__law_reel.nd rfl (Or.inl rfl) (qe_mod (qe_callTy call_int1 hInt_sem rfl (f_free_n_int T) (by decide +kernel) (qa_val (qe_pow (qe_add (qe_idxN (i := 0) (pv 0) qe_int) (qe_mul qe_int (qe_idxN (i := 0) (pv 0) qe_int))) qe_int) qa_nil)) (qe_add (qe_pow qe_int qe_int) qe_int)))
  (qss_cons (qs_set (i := 3) (by decide) sc_n__law_reel.nd rfl (Or.inl rfl) (qe_mod (qe_callTy call_int1 hInt_sem rfl (f_free_n_int T) (by decide +kernel) (qa_val (qe_pow (qe_add (qe_var (pv 3)) (qe_mul qe_int (qe_idxN (i := 0) (pv 0) qe_int))) qe_int) qa_nil)) (qe_add (qe_pow qe_int qe_int) qe_int)))
  (qss_one (qs_ret (qe_mod (qe_callTy call_int1 hInt_sem rfl (f_free_n_int T) (by decide +kernel) (qa_val (qe_fdiv (qe_var (pv 3)) qe_int) qa_nil)) (qe_var (pv 1))))))))))
omit T in
abbrev N_n__law_power : List Str := ["_law_base", "_law_times", "_law_found", "_law_turn"]
omit T in
theorem sc_n__law_power : FnScope N_n__law_power ["_law_base", "_law_times"] (defScope (top 35)) := ⟨rfl, rfl, rfl, by decide +kernel, rfl, by decide +kernel, by decide +kernel⟩
theorem ok_n__law_power : FQ P w K mg base 1 "_law_power" ["_law_base", "_law_times"] [false, false] den_n__law_power :=
  FQ.mk (g := b_n__law_power) (N := N_n__law_power) (f := He.ga K "_law_power") (let ⟨_, _, _, c⟩ := T; c.def_ 8 rfl) (f_glo_n__law_power T) sc_n__law_power rfl (by decide) rfl
  (fun _ _ _ _ _ _ us hl => match us, hl with | [_, _], _ => rfl)
  (fun cdv A outer s H E hr => by
  unfold b_n__law_power
  exact (qss_cons (qs_set (i := 2) (by decide) sc_n__law_power.nd rfl (Or.inl rfl) qe_int)
  (qss_cons (qs_for (passes_of rfl) rfl (qi_range1 (f_free_n_range T) (qa_val (qe_var (pv 1)) qa_nil)) (qg_name (i := 3) (by decide) sc_n__law_power.nd rfl (Or.inl rfl)) (qss_one (qs_set (i := 2) (by decide) sc_n__law_power.nd rfl (Or.inl rfl) (qe_mul (qe_var (pv 2)) (qe_var (pv 0))))))
  (qss_one (qs_ret (qe_mov (pv 2)))))))
omit T in
abbrev N_n__law_length : List Str := ["_law_spool_here", "_law_way"]
omit T in
theorem sc_n__law_length : FnScope N_n__law_length ["_law_spool_here"] (defScope (top 37)) := ⟨rfl, rfl, rfl, by decide +kernel, rfl, by decide +kernel, by decide +kernel⟩
theorem ok_n__law_length : FQ P w K mg base 2 "_law_length" ["_law_spool_here"] [true] den_n__law_length :=
  FQ.mk (g := b_n__law_length) (N := N_n__law_length) (f := He.ga K "_law_length") (let ⟨_, _, _, c⟩ := T; c.def_ 9 rfl) (f_glo_n__law_length T) sc_n__law_length rfl (by decide) rfl
  (fun _ _ _ _ _ _ us hl => match us, hl with | [_], _ => rfl)
  (fun cdv A outer s H E hr => by
  unfold b_n__law_length
  exact (qss_cons (qs_set (i := 1) (by decide) sc_n__law_length.nd rfl (Or.inl rfl) (qe_callQ (takes_of rfl rfl rfl rfl) (ok_n__law_reel T) (hr.mono (by decide)) (qa_bor (pv 0) (qa_val qe_int qa_nil))))
  (qss_cons (qs_if (qt_cmp (op_eqQ hr.units) dEq_sem (qe_var (pv 1)) qe_int (nomark _)) (qss_one (qs_ret (qe_add qe_int (qe_callQ (takes_of rfl rfl rfl rfl) (ok_n__law_reel T) (hr.mono (by decide)) (qa_bor (pv 0) (qa_val qe_int qa_nil)))))) qss_nil)
  (qss_cons (qs_if (qt_cmp (op_eqQ hr.units) dEq_sem (qe_var (pv 1)) qe_int (nomark _)) (qss_one (qs_ret (qe_add qe_int (qe_callQ (takes_of rfl rfl rfl rfl) (ok_n__law_reel T) (hr.mono (by decide)) (qa_bor (pv 0) (qa_val qe_int qa_nil)))))) qss_nil)
  (qss_cons (qs_if (qt_cmp (op_eqQ hr.units) dEq_sem (qe_var (pv 1)) qe_int (nomark _)) (qss_one (qs_ret (qe_callB (call_max2 rfl) (hII_sem fun F i j => .int _) rfl (f_free_n_max T) (by decide +kernel) (qa_val qe_int (qa_val (qe_add (qe_sub (qe_callQ (takes_of rfl rfl rfl rfl) (ok_n__law_power T) (hr.mono (by decide)) (qa_val qe_int (qa_val (qe_callQ (takes_of rfl rfl rfl rfl) (ok_n__law_reel T) (hr.mono (by decide)) (qa_bor (pv 0) (qa_val qe_int qa_nil))) qa_nil))) qe_int) (qe_callQ (takes_of rfl rfl rfl rfl) (ok_n__law_reel T) (hr.mono (by decide)) (qa_bor (pv 0) (qa_val qe_int qa_nil)))) qa_nil))))) qss_nil)
  (qss_one (qs_ret (qe_add qe_int (qe_callQ (takes_of rfl rfl rfl rfl) (ok_n__law_reel T) (hr.mono (by decide)) (qa_bor (pv 0) (qa_val (qe_idx (qe_lst (qa_val (qe_pow qe_int qe_int) (qa_val (qe_pow qe_int qe_int) qa_nil))) (qe_sub (qe_var (pv 1)) qe_int)) qa_nil)))))))))))
omit T in
abbrev N_n__law_spot : List Str := ["_law_spool_here", "_law_many", "_law_way", "_law_near"]
omit T in
theorem sc_n__law_spot : FnScope N_n__law_spot ["_law_spool_here", "_law_many"] (defScope (top 38)) := ⟨rfl, rfl, rfl, by decide +kernel, rfl, by decide +kernel, by decide +kernel⟩
theorem ok_n__law_spot : FQ P w K mg base 2 "_law_spot" ["_law_spool_here", "_law_many"] [true, false] den_n__law_spot :=
  FQ.mk (g := b_n__law_spot) (N := N_n__law_spot) (f := He.ga K "_law_spot") (let ⟨_, _, _, c⟩ := T; c.def_ 10 rfl) (f_glo_n__law_spot T) sc_n__law_spot rfl (by decide) rfl
  (fun _ _ _ _ _ _ us hl => match us, hl with | [_, _], _ => rfl)
  (fun cdv A outer s H E hr => by
  unfold b_n__law_spot
  exact (qss_cons (qs_set (i := 2) (by decide) sc_n__law_spot.nd rfl (Or.inl rfl) (qe_callQ (takes_of rfl rfl rfl rfl) (ok_n__law_reel T) (hr.mono (by decide)) (qa_bor (pv 0) (qa_val qe_int qa_nil))))
  (qss_cons (qs_if (qt_cmp (op_eqQ hr.units) dEq_sem (qe_var (pv 2)) qe_int (nomark _)) (qss_one (qs_ret (qe_callQ (takes_of rfl rfl rfl rfl) (ok_n__law_reel T) (hr.mono (by decide)) (qa_bor (pv 0) (qa_val (qe_var (pv 1)) qa_nil))))) qss_nil)
  (qss_cons (qs_set (i := 3) (by decide) sc_n__law_spot.nd rfl (Or.inl rfl) (qe_callQ (takes_of rfl rfl rfl rfl) (ok_n__law_reel T) (hr.mono (by decide)) (qa_bor (pv 0) (qa_val (qe_callB (call_min2 rfl) (hII_sem fun F i j => .int _) rfl (f_free_n_min T) (by decide +kernel) (qa_val (qe_var (pv 1)) (qa_val qe_int qa_nil))) qa_nil))))
  (qss_one (qs_ret (qe_if (qt_cmp (op_eqQ hr.units) dEq_sem (qe_var (pv 2)) qe_int (nomark _)) (qe_var (pv 3)) (qe_sub (qe_sub (qe_var (pv 1)) qe_int) (qe_var (pv 3))))))))))
omit T in
abbrev N_n_row_length_of : List Str := ["length", "level"]
omit T in
theorem sc_n_row_length_of : FnScope N_n_row_length_of ["length", "level"] (defScope (top 13)) := ⟨rfl, rfl, rfl, by decide +kernel, rfl, by decide +kernel, by decide +kernel⟩
theorem ok_n_row_length_of : FQ P w K mg base 2 "row_length_of" ["length", "level"] [false, false] den_n_row_length_of :=
  FQ.mk (g := b_n_row_length_of) (N := N_n_row_length_of) (f := He.ga K "row_length_of") (let ⟨_, _, _, c⟩ := T; c.def_ 11 rfl) (f_glo_n_row_length_of T) sc_n_row_length_of rfl (by decide) rfl
  (fun _ _ _ _ _ _ us hl => match us, hl with | [_, _], _ => rfl)
  (fun cdv A outer s H E hr => by
  unfold b_n_row_length_of
  exact (qss_one (qs_ret (qe_idx (qe_callQ (takes_of rfl rfl rfl rfl) (ok_n_row_lengths T) (hr.mono (by decide)) (qa_val (qe_var (pv 0)) qa_nil)) (qe_var (pv 1))))))
omit T in
abbrev N_n_require_level : List Str := ["length", "value", "least"]
omit T in
theorem sc_n_require_level : FnScope N_n_require_level ["length", "value", "least"] (defScope (top 16)) := ⟨rfl, rfl, rfl, by decide +kernel, rfl, by decide +kernel, by decide +kernel⟩
theorem ok_n_require_level : FQ P w K mg base 3 "require_level" ["length", "value", "least"] [false, false, false] den_n_require_level :=
  FQ.mk (g := b_n_require_level) (N := N_n_require_level) (f := He.ga K "require_level") (let ⟨_, _, _, c⟩ := T; c.def_ 12 rfl) (f_glo_n_require_level T) sc_n_require_level rfl (by decide) rfl
  (fun _ _ _ _ _ _ us hl => match us, hl with | [_, _, _], _ => rfl)
  (fun cdv A outer s H E hr => by
  unfold b_n_require_level
  exact (qss_one (qs_if (qt_not (qt_val (qe_callQ (takes_of rfl rfl rfl rfl) (ok_n_is_whole T) (hr.mono (by decide)) (qa_val (qe_var (pv 1)) (qa_val (qe_var (pv 2)) (qa_val (qe_callQ (takes_of rfl rfl rfl rfl) (ok_n_count_levels T) (hr.mono (by decide)) (qa_val (qe_var (pv 0)) qa_nil)) qa_nil)))))) (qss_one qs_never) qss_nil)))
omit T in
abbrev N_n_require_index : List Str := ["many", "value"]
omit T in
theorem sc_n_require_index : FnScope N_n_require_index ["many", "value"] (defScope (top 18)) := ⟨rfl, rfl, rfl, by decide +kernel, rfl, by decide +kernel, by decide +kernel⟩
theorem ok_n_require_index : FQ P w K mg base 3 "require_index" ["many", "value"] [false, false] den_n_require_index :=
  FQ.mk (g := b_n_require_index) (N := N_n_require_index) (f := He.ga K "require_index") (let ⟨_, _, _, c⟩ := T; c.def_ 13 rfl) (f_glo_n_require_index T) sc_n_require_index rfl (by decide) rfl
  (fun _ _ _ _ _ _ us hl => match us, hl with | [_, _], _ => rfl)
  (fun cdv A outer s H E hr => by
  unfold b_n_require_index
  exact (qss_one (qs_if (qt_not (qt_val (qe_callQ (takes_of rfl rfl rfl rfl) (ok_n_is_whole T) (hr.mono (by decide)) (qa_val (qe_var (pv 1)) (qa_val qe_int (qa_val (qe_sub (qe_var (pv 0)) qe_int) qa_nil)))))) (qss_one qs_never) qss_nil)))
omit T in
abbrev N_n_span_of : List Str := ["length", "level", "index", "middle", "reach"]
omit T in
theorem sc_n_span_of : FnScope N_n_span_of ["length", "level", "index"] (defScope (top 22)) := ⟨rfl, rfl, rfl, by decide +kernel, rfl, by decide +kernel, by decide +kernel⟩
theorem ok_n_span_of : FQ P w K mg base 1 "span_of" ["length", "level", "index"] [false, false, false] den_n_span_of :=
  FQ.mk (g := b_n_span_of) (N := N_n_span_of) (f := He.ga K "span_of") (let ⟨_, _, _, c⟩ := T; c.def_ 14 rfl) (f_glo_n_span_of T) sc_n_span_of rfl (by decide) rfl
  (fun _ _ _ _ _ _ us hl => match us, hl with | [_, _, _], _ => rfl)
  (fun cdv A outer s H E hr => by
  unfold b_n_span_of
  exact (qss_cons (qs_par2 (i := 3) (j := 4) (by decide) (by decide) rfl sc_n_span_of.nd rfl rfl (by decide) rfl rfl (qa_val (qe_shl (qe_var (pv 2)) (qe_var (pv 1))) (qa_val (qe_sub (qe_shl qe_int (qe_var (pv 1))) qe_int) qa_nil)))
  (qss_one (qs_ret (qe_tup (qa_val (qe_callB (call_max2 rfl) (hII_sem fun F i j => .int _) rfl (f_free_n_max T) (by decide +kernel) (qa_val qe_int (qa_val (qe_sub (qe_var (pv 3)) (qe_var (pv 4))) qa_nil))) (qa_val (qe_callB (call_min2 rfl) (hII_sem fun F i j => .int _) rfl (f_free_n_min T) (by decide +kernel) (qa_val (qe_sub (qe_var (pv 0)) qe_int) (qa_val (qe_add (qe_var (pv 3)) (qe_var (pv 4))) qa_nil))) qa_nil)))))))
omit T in
abbrev N_n_coarse_span : List Str := ["length", "level", "index"]
omit T in
theorem sc_n_coarse_span : FnScope N_n_coarse_span ["length", "level", "index"] (defScope (top 23)) := ⟨rfl, rfl, rfl, by decide +kernel, rfl, by decide +kernel, by decide +kernel⟩
theorem ok_n_coarse_span : FQ P w K mg base 4 "coarse_span" ["length", "level", "index"] [false, false, false] den_n_coarse_span :=
  FQ.mk (g := b_n_coarse_span) (N := N_n_coarse_span) (f := He.ga K "coarse_span") (let ⟨_, _, _, c⟩ := T; c.def_ 15 rfl) (f_glo_n_coarse_span T) sc_n_coarse_span rfl (by decide) rfl
  (fun _ _ _ _ _ _ us hl => match us, hl with | [_, _, _], _ => rfl)
  (fun cdv A outer s H E hr => by
  unfold b_n_coarse_span
  exact (qss_cons (qs_expr (qe_callQ (takes_of rfl rfl rfl rfl) (ok_n_require_length T) (hr.mono (by decide)) (qa_val (qe_var (pv 0)) (qa_val (qe_gint (f_int_n_MOST_SAMPLES T)) qa_nil))))
  (qss_cons (qs_expr (qe_callQ (takes_of rfl rfl rfl rfl) (ok_n_require_level T) (hr.mono (by decide)) (qa_val (qe_var (pv 0)) (qa_val (qe_var (pv 1)) (qa_val qe_int qa_nil)))))
  (qss_cons (qs_expr (qe_callQ (takes_of rfl rfl rfl rfl) (ok_n_require_index T) (hr.mono (by decide)) (qa_val (qe_callQ (takes_of rfl rfl rfl rfl) (ok_n_row_length_of T) (hr.mono (by decide)) (qa_val (qe_var (pv 0)) (qa_val (qe_var (pv 1)) qa_nil))) (qa_val (qe_var (pv 2)) qa_nil))))
  (qss_one (qs_ret (qe_callQ (takes_of rfl rfl rfl rfl) (ok_n_span_of T) (hr.mono (by decide)) (qa_val (qe_var (pv 0)) (qa_val (qe_var (pv 1)) (qa_val (qe_var (pv 2)) qa_nil))))))))))
omit T in
abbrev N_n_details_length_of : List Str := ["length", "level"]
omit T in
theorem sc_n_details_length_of : FnScope N_n_details_length_of ["length", "level"] (defScope (top 14)) := ⟨rfl, rfl, rfl, by decide +kernel, rfl, by decide +kernel, by decide +kernel⟩
theorem ok_n_details_length_of : FQ P w K mg base 2 "details_length_of" ["length", "level"] [false, false] den_n_details_length_of :=
  FQ.mk (g := b_n_details_length_of) (N := N_n_details_length_of) (f := He.ga K "details_length_of") (let ⟨_, _, _, c⟩ := T; c.def_ 16 rfl) (f_glo_n_details_length_of T) sc_n_details_length_of rfl (by decide) rfl
  (fun _ _ _ _ _ _ us hl => match us, hl with | [_, _], _ => rfl)
  (fun cdv A outer s H E hr => by
  unfold b_n_details_length_of
  exact (qss_one (qs_ret (qe_fdiv (qe_idx (qe_callQ (takes_of rfl rfl rfl rfl) (ok_n_row_lengths T) (hr.mono (by decide)) (qa_val (qe_var (pv 0)) qa_nil)) (qe_sub (qe_var (pv 1)) qe_int)) qe_int))))
omit T in
abbrev N_n_detail_span : List Str := ["length", "level", "index", "many", "first", "last"]
omit T in
theorem sc_n_detail_span : FnScope N_n_detail_span ["length", "level", "index"] (defScope (top 24)) := ⟨rfl, rfl, rfl, by decide +kernel, rfl, by decide +kernel, by decide +kernel⟩
theorem ok_n_detail_span : FQ P w K mg base 4 "detail_span" ["length", "level", "index"] [false, false, false] den_n_detail_span :=
  FQ.mk (g := b_n_detail_span) (N := N_n_detail_span) (f := He.ga K "detail_span") (let ⟨_, _, _, c⟩ := T; c.def_ 17 rfl) (f_glo_n_detail_span T) sc_n_detail_span rfl (by decide) rfl
  (fun _ _ _ _ _ _ us hl => match us, hl with | [_, _, _], _ => rfl)
  (fun cdv A outer s H E hr => by
  unfold b_n_detail_span
  exact (qss_cons (qs_expr (qe_callQ (takes_of rfl rfl rfl rfl) (ok_n_require_length T) (hr.mono (by decide)) (qa_val (qe_var (pv 0)) (qa_val (qe_gint (f_int_n_MOST_SAMPLES T)) qa_nil))))
  (qss_cons (qs_expr (qe_callQ (takes_of rfl rfl rfl rfl) (ok_n_require_level T) (hr.mono (by decide)) (qa_val (qe_var (pv 0)) (qa_val (qe_var (pv 1)) (qa_val qe_int qa_nil)))))
  (qss_cons (qs_expr (qe_callQ (takes_of rfl rfl rfl rfl) (ok_n_require_index T) (hr.mono (by decide)) (qa_val (qe_callQ (takes_of rfl rfl rfl rfl) (ok_n_details_length_of T) (hr.mono (by decide)) (qa_val (qe_var (pv 0)) (qa_val (qe_var (pv 1)) qa_nil))) (qa_val (qe_var (pv 2)) qa_nil))))
  (qss_cons (qs_par3 (i := 3) (j := 4) (k := 5) (by decide) (by decide) (by decide) rfl sc_n_detail_span.nd rfl rfl rfl (by decide) (by decide) (by decide) rfl rfl rfl (qa_val (qe_callQ (takes_of rfl rfl rfl rfl) (ok_n_row_length_of T) (hr.mono (by decide)) (qa_val (qe_var (pv 0)) (qa_val (qe_sub (qe_var (pv 1)) qe_int) qa_nil))) (qa_val (qe_mul qe_int (qe_var (pv 2))) (qa_val (qe_add (qe_mul qe_int (qe_var (pv 2))) qe_int) qa_nil))))
  (qss_cons (qs_if (qt_cmp (op_eqQ hr.units) dEq_sem (qe_var (pv 5)) (qe_var (pv 3)) (nomark _)) (qss_one (qs_par2 (i := 4) (j := 5) (by decide) (by decide) rfl sc_n_detail_span.nd rfl rfl (by decide) rfl rfl (qa_val (qe_sub (qe_var (pv 3)) qe_int) (qa_val (qe_sub (qe_var (pv 3)) qe_int) qa_nil)))) qss_nil)
  (qss_one (qs_ret (qe_tup (qa_val (qe_idx (qe_callQ (takes_of rfl rfl rfl rfl) (ok_n_span_of T) (hr.mono (by decide)) (qa_val (qe_var (pv 0)) (qa_val (qe_sub (qe_var (pv 1)) qe_int) (qa_val (qe_var (pv 4)) qa_nil)))) qe_int) (qa_val (qe_idx (qe_callQ (takes_of rfl rfl rfl rfl) (ok_n_span_of T) (hr.mono (by decide)) (qa_val (qe_var (pv 0)) (qa_val (qe_sub (qe_var (pv 1)) qe_int) (qa_val (qe_var (pv 5)) qa_nil)))) qe_int) qa_nil)))))))))))
omit T in
abbrev N_n_require_place : List Str := ["length", "value"]
omit T in
theorem sc_n_require_place : FnScope N_n_require_place ["length", "value"] (defScope (top 17)) := ⟨rfl, rfl, rfl, by decide +kernel, rfl, by decide +kernel, by decide +kernel⟩
theorem ok_n_require_place : FQ P w K mg base 3 "require_place" ["length", "value"] [false, false] den_n_require_place :=
  FQ.mk (g := b_n_require_place) (N := N_n_require_place) (f := He.ga K "require_place") (let ⟨_, _, _, c⟩ := T; c.def_ 18 rfl) (f_glo_n_require_place T) sc_n_require_place rfl (by decide) rfl
  (fun _ _ _ _ _ _ us hl => match us, hl with | [_, _], _ => rfl)
  (fun cdv A outer s H E hr => by
  unfold b_n_require_place
  exact (qss_one (qs_if (qt_not (qt_val (qe_callQ (takes_of rfl rfl rfl rfl) (ok_n_is_whole T) (hr.mono (by decide)) (qa_val (qe_var (pv 1)) (qa_val qe_int (qa_val (qe_sub (qe_var (pv 0)) qe_int) qa_nil)))))) (qss_one qs_never) qss_nil)))
omit T in
abbrev N_n_touched_details : List Str := ["many", "first", "last", "begin", "end"]
omit T in
theorem sc_n_touched_details : FnScope N_n_touched_details ["many", "first", "last"] (defScope (top 20)) := ⟨rfl, rfl, rfl, by decide +kernel, rfl, by decide +kernel, by decide +kernel⟩
theorem ok_n_touched_details : FQ P w K mg base 1 "touched_details" ["many", "first", "last"] [false, false, false] den_n_touched_details :=
  FQ.mk (g := b_n_touched_details) (N := N_n_touched_details) (f := He.ga K "touched_details") (let ⟨_, _, _, c⟩ := T; c.def_ 19 rfl) (f_glo_n_touched_details T) sc_n_touched_details rfl (by decide) rfl
  (fun _ _ _ _ _ _ us hl => match us, hl with | [_, _, _], _ => rfl)
  (fun cdv A outer s H E hr => by
  unfold b_n_touched_details
  exact (qss_cons (qs_par2 (i := 3) (j := 4) (by decide) (by decide) rfl sc_n_touched_details.nd rfl rfl (by decide) rfl rfl (qa_val (qe_callB (call_max2 rfl) (hII_sem fun F i j => .int _) rfl (f_free_n_max T) (by decide +kernel) (qa_val qe_int (qa_val (qe_fdiv (qe_sub (qe_var (pv 1)) qe_int) qe_int) qa_nil))) (qa_val (qe_callB (call_min2 rfl) (hII_sem fun F i j => .int _) rfl (f_free_n_min T) (by decide +kernel) (qa_val (qe_fdiv (qe_var (pv 2)) qe_int) (qa_val (qe_sub (qe_fdiv (qe_var (pv 0)) qe_int) qe_int) qa_nil))) qa_nil)))
  (qss_cons (qs_if (QW.qt (qw_and (qt_cmp (op_eqQ hr.units) dEq_sem (qe_mod (qe_var (pv 0)) qe_int) qe_int (nomark _)) (qw_and1 (qt_chain op_le sLe op_le sLe (qe_var (pv 1)) (qe_sub (qe_var (pv 0)) qe_int) (qe_var (pv 2)))))) (qss_one (qs_set (i := 4) (by decide) sc_n_touched_details.nd rfl (Or.inl rfl) (qe_sub (qe_fdiv (qe_var (pv 0)) qe_int) qe_int))) qss_nil)
  (qss_one (qs_ret (qe_tup (qa_val (qe_var (pv 3)) (qa_val (qe_var (pv 4)) qa_nil))))))))
omit T in
abbrev N_n_touched_parts : List Str := ["length", "place", "first", "last", "found", "level", "many", "begin", "end"]
omit T in
theorem sc_n_touched_parts : FnScope N_n_touched_parts ["length", "place"] (defScope (top 21)) := ⟨rfl, rfl, rfl, by decide +kernel, rfl, by decide +kernel, by decide +kernel⟩
theorem ok_n_touched_parts : FQ P w K mg base 2 "touched_parts" ["length", "place"] [false, false] den_n_touched_parts :=
  FQ.mk (g := b_n_touched_parts) (N := N_n_touched_parts) (f := He.ga K "touched_parts") (let ⟨_, _, _, c⟩ := T; c.def_ 20 rfl) (f_glo_n_touched_parts T) sc_n_touched_parts rfl (by decide) rfl
  (fun _ _ _ _ _ _ us hl => match us, hl with | [_, _], _ => rfl)
  (fun cdv A outer s H E hr => by
  unfold b_n_touched_parts
  exact (qss_cons (qs_par3 (i := 2) (j := 3) (k := 4) (by decide) (by decide) (by decide) rfl sc_n_touched_parts.nd rfl rfl rfl (by decide) (by decide) (by decide) rfl rfl rfl (qa_val (qe_var (pv 1)) (qa_val (qe_var (pv 1)) (qa_val (qe_lst qa_nil) qa_nil))))
  (qss_cons (qs_for (passes_of rfl) rfl (qi_enum (f_free_n_enumerate T) (qa_val (qe_slice (qe_callQ (takes_of rfl rfl rfl rfl) (ok_n_row_lengths T) (hr.mono (by decide)) (qa_val (qe_var (pv 0)) qa_nil)) qo_none (qo_some (qe_neg qe_int))) qa_nil)) (qg_tup 2 rfl (qgs_cons (qg_name (i := 5) (by decide) sc_n_touched_parts.nd rfl (Or.inl rfl)) (qgs_cons (qg_name (i := 6) (by decide) sc_n_touched_parts.nd rfl (Or.inl rfl)) qgs_nil)) (gCons_len (gCons_len gNil_len))) (qss_cons (qs_asg (qe_callQ (takes_of rfl rfl rfl rfl) (ok_n_touched_details T) (hr.mono (by decide)) (qa_val (qe_var (pv 6)) (qa_val (qe_var (pv 2)) (qa_val (qe_var (pv 3)) qa_nil)))) (qg_tup 2 rfl (qgs_cons (qg_name (i := 7) (by decide) sc_n_touched_parts.nd rfl (Or.inl rfl)) (qgs_cons (qg_name (i := 8) (by decide) sc_n_touched_parts.nd rfl (Or.inl rfl)) qgs_nil)) (gCons_len (gCons_len gNil_len))))
  (qss_cons (qs_append (i := 4) (pv 4) (qe_tup (qa_val (qe_add (qe_var (pv 5)) qe_int) (qa_val (qe_var (pv 7)) (qa_val (qe_var (pv 8)) qa_nil)))) rfl rfl rfl (fun pe => pe_bm PySem.F.plainAttrs_list PySem.F.slot_list_append PySem.F.type_list_append mt_append (pv 4) (pa_cons pe pa_nil)))
  (qss_one (qs_par2 (i := 2) (j := 3) (by decide) (by decide) rfl sc_n_touched_parts.nd rfl rfl (by decide) rfl rfl (qa_val (qe_var (pv 7)) (qa_val (qe_callB (call_min2 rfl) (hII_sem fun F i j => .int _) rfl (f_free_n_min T) (by decide +kernel) (qa_val (qe_add (qe_var (pv 8)) qe_int) (qa_val (qe_fdiv (qe_sub (qe_var (pv 6)) qe_int) qe_int) qa_nil))) qa_nil)))))))
  (qss_one (qs_ret (qe_tup (qa_val (qe_tup (qa_val (qe_var (pv 2)) (qa_val (qe_var (pv 3)) qa_nil))) (qa_val (qe_var (pv 4)) qa_nil))))))))
omit T in
abbrev N_n_touched : List Str := ["length", "place"]
omit T in
theorem sc_n_touched : FnScope N_n_touched ["length", "place"] (defScope (top 25)) := ⟨rfl, rfl, rfl, by decide +kernel, rfl, by decide +kernel, by decide +kernel⟩
theorem ok_n_touched : FQ P w K mg base 4 "touched" ["length", "place"] [false, false] den_n_touched :=
  FQ.mk (g := b_n_touched) (N := N_n_touched) (f := He.ga K "touched") (let ⟨_, _, _, c⟩ := T; c.def_ 21 rfl) (f_glo_n_touched T) sc_n_touched rfl (by decide) rfl
  (fun _ _ _ _ _ _ us hl => match us, hl with | [_, _], _ => rfl)
  (fun cdv A outer s H E hr => by
  unfold b_n_touched
  exact (qss_cons (qs_expr (qe_callQ (takes_of rfl rfl rfl rfl) (ok_n_require_length T) (hr.mono (by decide)) (qa_val (qe_var (pv 0)) (qa_val (qe_gint (f_int_n_MOST_SAMPLES T)) qa_nil))))
  (qss_cons (qs_expr (qe_callQ (takes_of rfl rfl rfl rfl) (ok_n_require_place T) (hr.mono (by decide)) (qa_val (qe_var (pv 0)) (qa_val (qe_var (pv 1)) qa_nil))))
  (qss_one (qs_ret (qe_idx (qe_callQ (takes_of rfl rfl rfl rfl) (ok_n_touched_parts T) (hr.mono (by decide)) (qa_val (qe_var (pv 0)) (qa_val (qe_var (pv 1)) qa_nil))) qe_int))))))
omit T in
abbrev N_n_touched_top : List Str := ["length", "place"]
omit T in
theorem sc_n_touched_top : FnScope N_n_touched_top ["length", "place"] (defScope (top 26)) := ⟨rfl, rfl, rfl, by decide +kernel, rfl, by decide +kernel, by decide +kernel⟩
theorem ok_n_touched_top : FQ P w K mg base 4 "touched_top" ["length", "place"] [false, false] den_n_touched_top :=
  FQ.mk (g := b_n_touched_top) (N := N_n_touched_top) (f := He.ga K "touched_top") (let ⟨_, _, _, c⟩ := T; c.def_ 22 rfl) (f_glo_n_touched_top T) sc_n_touched_top rfl (by decide) rfl
  (fun _ _ _ _ _ _ us hl => match us, hl with | [_, _], _ => rfl)
  (fun cdv A outer s H E hr => by
  unfold b_n_touched_top
  exact (qss_cons (qs_expr (qe_callQ (takes_of rfl rfl rfl rfl) (ok_n_require_length T) (hr.mono (by decide)) (qa_val (qe_var (pv 0)) (qa_val (qe_gint (f_int_n_MOST_SAMPLES T)) qa_nil))))
  (qss_cons (qs_expr (qe_callQ (takes_of rfl rfl rfl rfl) (ok_n_require_place T) (hr.mono (by decide)) (qa_val (qe_var (pv 0)) (qa_val (qe_var (pv 1)) qa_nil))))
  (qss_one (qs_ret (qe_idx (qe_callQ (takes_of rfl rfl rfl rfl) (ok_n_touched_parts T) (hr.mono (by decide)) (qa_val (qe_var (pv 0)) (qa_val (qe_var (pv 1)) qa_nil))) qe_int))))))
omit T in
abbrev N_n_row_length : List Str := ["length", "level"]
omit T in
theorem sc_n_row_length : FnScope N_n_row_length ["length", "level"] (defScope (top 29)) := ⟨rfl, rfl, rfl, by decide +kernel, rfl, by decide +kernel, by decide +kernel⟩
theorem ok_n_row_length : FQ P w K mg base 4 "row_length" ["length", "level"] [false, false] den_n_row_length :=
  FQ.mk (g := b_n_row_length) (N := N_n_row_length) (f := He.ga K "row_length") (let ⟨_, _, _, c⟩ := T; c.def_ 23 rfl) (f_glo_n_row_length T) sc_n_row_length rfl (by decide) rfl
  (fun _ _ _ _ _ _ us hl => match us, hl with | [_, _], _ => rfl)
  (fun cdv A outer s H E hr => by
  unfold b_n_row_length
  exact (qss_cons (qs_expr (qe_callQ (takes_of rfl rfl rfl rfl) (ok_n_require_length T) (hr.mono (by decide)) (qa_val (qe_var (pv 0)) (qa_val (qe_gint (f_int_n_MOST_SAMPLES T)) qa_nil))))
  (qss_cons (qs_expr (qe_callQ (takes_of rfl rfl rfl rfl) (ok_n_require_level T) (hr.mono (by decide)) (qa_val (qe_var (pv 0)) (qa_val (qe_var (pv 1)) (qa_val qe_int qa_nil)))))
  (qss_one (qs_ret (qe_callQ (takes_of rfl rfl rfl rfl) (ok_n_row_length_of T) (hr.mono (by decide)) (qa_val (qe_var (pv 0)) (qa_val (qe_var (pv 1)) qa_nil))))))))
omit T in
abbrev N_n_details_length : List Str := ["length", "level"]
omit T in
theorem sc_n_details_length : FnScope N_n_details_length ["length", "level"] (defScope (top 30)) := ⟨rfl, rfl, rfl, by decide +kernel, rfl, by decide +kernel, by decide +kernel⟩
theorem ok_n_details_length : FQ P w K mg base 4 "details_length" ["length", "level"] [false, false] den_n_details_length :=
  FQ.mk (g := b_n_details_length) (N := N_n_details_length) (f := He.ga K "details_length") (let ⟨_, _, _, c⟩ := T; c.def_ 24 rfl) (f_glo_n_details_length T) sc_n_details_length rfl (by decide) rfl
  (fun _ _ _ _ _ _ us hl => match us, hl with | [_, _], _ => rfl)
  (fun cdv A outer s H E hr => by
  unfold b_n_details_length
  exact (qss_cons (qs_expr (qe_callQ (takes_of rfl rfl rfl rfl) (ok_n_require_length T) (hr.mono (by decide)) (qa_val (qe_var (pv 0)) (qa_val (qe_gint (f_int_n_MOST_SAMPLES T)) qa_nil))))
  (qss_cons (qs_expr (qe_callQ (takes_of rfl rfl rfl rfl) (ok_n_require_level T) (hr.mono (by decide)) (qa_val (qe_var (pv 0)) (qa_val (qe_var (pv 1)) (qa_val qe_int qa_nil)))))
  (qss_one (qs_ret (qe_callQ (takes_of rfl rfl rfl rfl) (ok_n_details_length_of T) (hr.mono (by decide)) (qa_val (qe_var (pv 0)) (qa_val (qe_var (pv 1)) qa_nil))))))))
omit T in
abbrev N_n__law_within : List Str := ["_law_span", "_law_place"]
omit T in
theorem sc_n__law_within : FnScope N_n__law_within ["_law_span", "_law_place"] (defScope (top 39)) := ⟨rfl, rfl, rfl, by decide +kernel, rfl, by decide +kernel, by decide +kernel⟩
theorem ok_n__law_within : FQ P w K mg base 1 "_law_within" ["_law_span", "_law_place"] [false, false] den_n__law_within :=
  FQ.mk (g := b_n__law_within) (N := N_n__law_within) (f := He.ga K "_law_within") (let ⟨_, _, _, c⟩ := T; c.def_ 25 rfl) (f_glo_n__law_within T) sc_n__law_within rfl (by decide) rfl
  (fun _ _ _ _ _ _ us hl => match us, hl with | [_, _], _ => rfl)
  (fun cdv A outer s H E hr => by
  unfold b_n__law_within
  exact (qss_one (qs_ret (qe_chain op_le sLe op_le sLe (qe_idxN (i := 0) (pv 0) qe_int) (qe_var (pv 1)) (qe_idxN (i := 0) (pv 0) qe_int)))))
omit T in
abbrev N_n__law_gap : List Str := ["_law_length_here", "_law_level", "_law_index", "_law_place"]
omit T in
theorem sc_n__law_gap : FnScope N_n__law_gap ["_law_length_here", "_law_level", "_law_index", "_law_place"] (defScope (top 40)) := ⟨rfl, rfl, rfl, by decide +kernel, rfl, by decide +kernel, by decide +kernel⟩
theorem ok_n__law_gap : FQ P w K mg base 1 "_law_gap" ["_law_length_here", "_law_level", "_law_index", "_law_place"] [false, false, false, false] den_n__law_gap :=
  FQ.mk (g := b_n__law_gap) (N := N_n__law_gap) (f := He.ga K "_law_gap") (let ⟨_, _, _, c⟩ := T; c.def_ 26 rfl) (f_glo_n__law_gap T) sc_n__law_gap rfl (by decide) rfl
  (fun _ _ _ _ _ _ us hl => match us, hl with | [_, _, _, _], _ => rfl)
  (fun cdv A outer s H E hr => by
  unfold b_n__law_gap
  exact (qss_one (qs_ret (qe_and (qe_cmp (op_eqQ hr.units) dEq_sem (qe_var (pv 1)) qe_int (nomark _)) (qe_and (qe_cmp (op_eqQ hr.units) dEq_sem (qe_add (qe_mul qe_int (qe_var (pv 2))) qe_int) (qe_var (pv 0)) (nomark _)) (qe_one (qe_cmp (op_eqQ hr.units) dEq_sem (qe_var (pv 3)) (qe_sub (qe_var (pv 0)) qe_int) (nomark _))))))))
omit T in
abbrev N_n__law_place_right : List Str := ["_law_spool_here", "_law_length_here", "_law_place", "_law_parts", "_law_levels_here", "_law_level", "_law_first", "_law_last", "_law_many", "_law_index", "_law_part"]
omit T in
theorem sc_n__law_place_right : FnScope N_n__law_place_right ["_law_spool_here", "_law_length_here", "_law_place"] (defScope (top 41)) := ⟨rfl, rfl, rfl, by decide +kernel, rfl, by decide +kernel, by decide +kernel⟩
theorem ok_n__law_place_right : FQ P w K mg base 5 "_law_place_right" ["_law_spool_here", "_law_length_here", "_law_place"] [true, false, false] den_n__law_place_right :=
  FQ.mk (g := b_n__law_place_right) (N := N_n__law_place_right) (f := He.ga K "_law_place_right") (let ⟨_, _, _, c⟩ := T; c.def_ 27 rfl) (f_glo_n__law_place_right T) sc_n__law_place_right rfl (by decide) rfl
  (fun _ _ _ _ _ _ us hl => match us, hl with | [_, _, _], _ => rfl)
  (fun cdv A outer s H E hr => by
  unfold b_n__law_place_right
  exact (qss_cons (qs_par2 (i := 3) (j := 4) (by decide) (by decide) rfl sc_n__law_place_right.nd rfl rfl (by decide) rfl rfl (qa_val (qe_callQ (takes_of rfl rfl rfl rfl) (ok_n_touched T) (hr.mono (by decide)) (qa_val (qe_var (pv 1)) (qa_val (qe_var (pv 2)) qa_nil))) (qa_val (qe_callQ (takes_of rfl rfl rfl rfl) (ok_n_level_count T) (hr.mono (by decide)) (qa_val (qe_var (pv 1)) qa_nil)) qa_nil)))
  (qss_cons (qs_if (qt_cmp (op_neQ hr.units) dNe_sem (qe_lc (own := [("_law_part", 10)]) rfl sc_n__law_place_right.nd (qi_seq (qe_var (pv 3))) (blkOk_by (own := [("_law_part", 10)]) (N := N_n__law_place_right) (sc := defScope (top 41)) (by decide +kernel)) (fun _ _ _ _ _ => (qg_name (i := 10) (notIn_not (by rfl)) sc_n__law_place_right.nd rfl (Or.inl rfl))) (fun _ _ _ _ _ => qts_nil) (fun _ _ _ _ _ => (qe_idxN (i := 10) (pv 10) qe_int))) (qe_listRg2 rfl (f_free_n_list T) (f_free_n_range T) qe_int (qe_add (qe_var (pv 4)) qe_int)) (nomark _)) (qss_one (qs_ret qe_bl)) qss_nil)
  (qss_cons (qs_for (passes_of rfl) rfl (qi_seq (qe_var (pv 3))) (qg_tup 3 rfl (qgs_cons (qg_name (i := 5) (by decide) sc_n__law_place_right.nd rfl (Or.inl rfl)) (qgs_cons (qg_name (i := 6) (by decide) sc_n__law_place_right.nd rfl (Or.inl rfl)) (qgs_cons (qg_name (i := 7) (by decide) sc_n__law_place_right.nd rfl (Or.inl rfl)) qgs_nil))) (gCons_len (gCons_len (gCons_len gNil_len)))) (qss_cons (qs_set (i := 8) (by decide) sc_n__law_place_right.nd rfl (Or.inl rfl) (qe_callQ (takes_of rfl rfl rfl rfl) (ok_n_details_length T) (hr.mono (by decide)) (qa_val (qe_var (pv 1)) (qa_val (qe_var (pv 5)) qa_nil))))
  (qss_cons (qs_if (qt_not (qt_chn qe_int (qc_link op_le sLe (qe_var (pv 6)) (qc_link op_le sLe (qe_var (pv 7)) (qc_last op_lt sLt (qe_var (pv 8))))))) (qss_one (qs_ret qe_bl)) qss_nil)
  (qss_cons (qs_for (passes_of rfl) rfl (qi_seq (qe_lst (qa_val (qe_var (pv 6)) (qa_val (qe_var (pv 7)) (qa_val (qe_add (qe_var (pv 6)) (qe_callQ (takes_of rfl rfl rfl rfl) (ok_n__law_reel T) (hr.mono (by decide)) (qa_bor (pv 0) (qa_val (qe_add (qe_sub (qe_var (pv 7)) (qe_var (pv 6))) qe_int) qa_nil)))) qa_nil))))) (qg_name (i := 9) (by decide) sc_n__law_place_right.nd rfl (Or.inl rfl)) (qss_one (qs_if (qt_not (qt_val (qe_callQ (takes_of rfl rfl rfl rfl) (ok_n__law_within T) (hr.mono (by decide)) (qa_val (qe_callQ (takes_of rfl rfl rfl rfl) (ok_n_detail_span T) (hr.mono (by decide)) (qa_val (qe_var (pv 1)) (qa_val (qe_var (pv 5)) (qa_val (qe_var (pv 9)) qa_nil)))) (qa_val (qe_var (pv 2)) qa_nil))))) (qss_one (qs_ret qe_bl)) qss_nil)))
  (qss_one (qs_for (passes_of rfl) rfl (qi_seq (qe_lst (qa_val (qe_sub (qe_var (pv 6)) qe_int) (qa_val (qe_add (qe_var (pv 7)) qe_int) qa_nil)))) (qg_name (i := 9) (by decide) sc_n__law_place_right.nd rfl (Or.inl rfl)) (qss_one (qs_if (QW.qt (qw_and (qt_chain op_le sLe op_lt sLt qe_int (qe_var (pv 9)) (qe_var (pv 8))) (qw_and1 (qt_not (qt_val (qe_callQ (takes_of rfl rfl rfl rfl) (ok_n__law_gap T) (hr.mono (by decide)) (qa_val (qe_var (pv 1)) (qa_val (qe_var (pv 5)) (qa_val (qe_var (pv 9)) (qa_val (qe_var (pv 2)) qa_nil)))))))))) (qss_one (qs_if (qt_val (qe_callQ (takes_of rfl rfl rfl rfl) (ok_n__law_within T) (hr.mono (by decide)) (qa_val (qe_callQ (takes_of rfl rfl rfl rfl) (ok_n_detail_span T) (hr.mono (by decide)) (qa_val (qe_var (pv 1)) (qa_val (qe_var (pv 5)) (qa_val (qe_var (pv 9)) qa_nil)))) (qa_val (qe_var (pv 2)) qa_nil)))) (qss_one (qs_ret qe_bl)) qss_nil)) qss_nil))))))))
  (qss_cons (qs_asg (qe_callQ (takes_of rfl rfl rfl rfl) (ok_n_touched_top T) (hr.mono (by decide)) (qa_val (qe_var (pv 1)) (qa_val (qe_var (pv 2)) qa_nil))) (qg_tup 2 rfl (qgs_cons (qg_name (i := 6) (by decide) sc_n__law_place_right.nd rfl (Or.inl rfl)) (qgs_cons (qg_name (i := 7) (by decide) sc_n__law_place_right.nd rfl (Or.inl rfl)) qgs_nil)) (gCons_len (gCons_len gNil_len))))
  (qss_cons (qs_for (passes_of rfl) rfl (qi_range1 (f_free_n_range T) (qa_val (qe_callQ (takes_of rfl rfl rfl rfl) (ok_n_row_length T) (hr.mono (by decide)) (qa_val (qe_var (pv 1)) (qa_val (qe_var (pv 4)) qa_nil))) qa_nil)) (qg_name (i := 9) (by decide) sc_n__law_place_right.nd rfl (Or.inl rfl)) (qss_one (qs_if (qt_cmp (op_neQ hr.units) dNe_sem (qe_chain op_le sLe op_le sLe (qe_var (pv 6)) (qe_var (pv 9)) (qe_var (pv 7))) (qe_callQ (takes_of rfl rfl rfl rfl) (ok_n__law_within T) (hr.mono (by decide)) (qa_val (qe_callQ (takes_of rfl rfl rfl rfl) (ok_n_coarse_span T) (hr.mono (by decide)) (qa_val (qe_var (pv 1)) (qa_val (qe_var (pv 4)) (qa_val (qe_var (pv 9)) qa_nil)))) (qa_val (qe_var (pv 2)) qa_nil))) (nomark _)) (qss_one (qs_ret qe_bl)) qss_nil)))
  (qss_one (qs_ret qe_bl))))))))
omit T in
abbrev N_n__law_number_right : List Str := ["_law_spool_here", "_law_length_here", "_law_level", "_law_index", "_law_begin", "_law_end", "_law_place", "_law_part", "_law_later", "_law_one"]
omit T in
theorem sc_n__law_number_right : FnScope N_n__law_number_right ["_law_spool_here", "_law_length_here"] (defScope (top 42)) := ⟨rfl, rfl, rfl, by decide +kernel, rfl, by decide +kernel, by decide +kernel⟩
theorem ok_n__law_number_right : FQ P w K mg base 5 "_law_number_right" ["_law_spool_here", "_law_length_here"] [true, false] den_n__law_number_right :=
  FQ.mk (g := b_n__law_number_right) (N := N_n__law_number_right) (f := He.ga K "_law_number_right") (let ⟨_, _, _, c⟩ := T; c.def_ 28 rfl) (f_glo_n__law_number_right T) sc_n__law_number_right rfl (by decide) rfl
  (fun _ _ _ _ _ _ us hl => match us, hl with | [_, _], _ => rfl)
  (fun cdv A outer s H E hr => by
  unfold b_n__law_number_right
  exact (qss_cons (qs_set (i := 2) (by decide) sc_n__law_number_right.nd rfl (Or.inl rfl) (qe_add qe_int (qe_callQ (takes_of rfl rfl rfl rfl) (ok_n__law_reel T) (hr.mono (by decide)) (qa_bor (pv 0) (qa_val (qe_callQ (takes_of rfl rfl rfl rfl) (ok_n_level_count T) (hr.mono (by decide)) (qa_val (qe_var (pv 1)) qa_nil)) qa_nil)))))
  (qss_cons (qs_set (i := 3) (by decide) sc_n__law_number_right.nd rfl (Or.inl rfl) (qe_callQ (takes_of rfl rfl rfl rfl) (ok_n__law_spot T) (hr.mono (by decide)) (qa_bor (pv 0) (qa_val (qe_callQ (takes_of rfl rfl rfl rfl) (ok_n_details_length T) (hr.mono (by decide)) (qa_val (qe_var (pv 1)) (qa_val (qe_var (pv 2)) qa_nil))) qa_nil))))
  (qss_cons (qs_asg (qe_callQ (takes_of rfl rfl rfl rfl) (ok_n_detail_span T) (hr.mono (by decide)) (qa_val (qe_var (pv 1)) (qa_val (qe_var (pv 2)) (qa_val (qe_var (pv 3)) qa_nil)))) (qg_tup 2 rfl (qgs_cons (qg_name (i := 4) (by decide) sc_n__law_number_right.nd rfl (Or.inl rfl)) (qgs_cons (qg_name (i := 5) (by decide) sc_n__law_number_right.nd rfl (Or.inl rfl)) qgs_nil)) (gCons_len (gCons_len gNil_len))))
  (qss_cons (qs_if (qt_not (qt_chn qe_int (qc_link op_le sLe (qe_var (pv 4)) (qc_link op_le sLe (qe_var (pv 5)) (qc_last op_lt sLt (qe_var (pv 1))))))) (qss_one (qs_ret qe_bl)) qss_nil)
  (qss_cons (qs_for (passes_of rfl) rfl (qi_seq (qe_lst (qa_val (qe_var (pv 4)) (qa_val (qe_var (pv 5)) (qa_val (qe_add (qe_var (pv 4)) (qe_callQ (takes_of rfl rfl rfl rfl) (ok_n__law_reel T) (hr.mono (by decide)) (qa_bor (pv 0) (qa_val (qe_add (qe_sub (qe_var (pv 5)) (qe_var (pv 4))) qe_int) qa_nil)))) (qa_val (qe_sub (qe_var (pv 4)) qe_int) (qa_val (qe_add (qe_var (pv 5)) qe_int) qa_nil))))))) (qg_name (i := 6) (by decide) sc_n__law_number_right.nd rfl (Or.inl rfl)) (qss_one (qs_if (QW.qt (qw_and (qt_chain op_le sLe op_lt sLt qe_int (qe_var (pv 6)) (qe_var (pv 1))) (qw_and1 (qt_not (qt_val (qe_callQ (takes_of rfl rfl rfl rfl) (ok_n__law_gap T) (hr.mono (by decide)) (qa_val (qe_var (pv 1)) (qa_val (qe_var (pv 2)) (qa_val (qe_var (pv 3)) (qa_val (qe_var (pv 6)) qa_nil)))))))))) (qss_cons (qs_set (i := 7) (by decide) sc_n__law_number_right.nd rfl (Or.inl rfl) (qe_idx (qe_callQ (takes_of rfl rfl rfl rfl) (ok_n_touched T) (hr.mono (by decide)) (qa_val (qe_var (pv 1)) (qa_val (qe_var (pv 6)) qa_nil))) (qe_sub (qe_var (pv 2)) qe_int)))
  (qss_one (qs_if (qt_cmp (op_neQ hr.units) dNe_sem (qe_chain op_le sLe op_le sLe (qe_idxN (i := 7) (pv 7) qe_int) (qe_var (pv 3)) (qe_idxN (i := 7) (pv 7) qe_int)) (qe_chain op_le sLe op_le sLe (qe_var (pv 4)) (qe_var (pv 6)) (qe_var (pv 5))) (nomark _)) (qss_one (qs_ret qe_bl)) qss_nil))) qss_nil)))
  (qss_cons (qs_if (qt_cmp op_lt sLt (qe_add (qe_var (pv 3)) qe_int) (qe_callQ (takes_of rfl rfl rfl rfl) (ok_n_details_length T) (hr.mono (by decide)) (qa_val (qe_var (pv 1)) (qa_val (qe_var (pv 2)) qa_nil))) (nomark _)) (qss_cons (qs_set (i := 8) (by decide) sc_n__law_number_right.nd rfl (Or.inl rfl) (qe_callQ (takes_of rfl rfl rfl rfl) (ok_n_detail_span T) (hr.mono (by decide)) (qa_val (qe_var (pv 1)) (qa_val (qe_var (pv 2)) (qa_val (qe_add (qe_var (pv 3)) qe_int) qa_nil)))))
  (qss_one (qs_if (QW.qt (qw_or (qt_cmp op_lt sLt (qe_idxN (i := 8) (pv 8) qe_int) (qe_var (pv 4)) (nomark _)) (qw_or1 (qt_cmp op_lt sLt (qe_idxN (i := 8) (pv 8) qe_int) (qe_var (pv 5)) (nomark _))))) (qss_one (qs_ret qe_bl)) qss_nil))) qss_nil)
  (qss_cons (qs_set (i := 9) (by decide) sc_n__law_number_right.nd rfl (Or.inl rfl) (qe_callQ (takes_of rfl rfl rfl rfl) (ok_n_coarse_span T) (hr.mono (by decide)) (qa_val (qe_var (pv 1)) (qa_val (qe_var (pv 2)) (qa_val (qe_var (pv 3)) qa_nil)))))
  (qss_one (qs_ret (qe_and (qe_cmp op_le sLe (qe_idxN (i := 9) (pv 9) qe_int) (qe_var (pv 4)) (nomark _)) (qe_one (qe_cmp op_le sLe (qe_mul (qe_var (pv 3)) (qe_callQ (takes_of rfl rfl rfl rfl) (ok_n__law_power T) (hr.mono (by decide)) (qa_val qe_int (qa_val (qe_var (pv 2)) qa_nil)))) (qe_var (pv 5)) (nomark _))))))))))))))
omit T in
abbrev N_n__law_order_right : List Str := ["_law_length_here", "_law_place", "_law_one", "_law_two"]
omit T in
theorem sc_n__law_order_right : FnScope N_n__law_order_right ["_law_length_here", "_law_place"] (defScope (top 43)) := ⟨rfl, rfl, rfl, by decide +kernel, rfl, by decide +kernel, by decide +kernel⟩
theorem ok_n__law_order_right : FQ P w K mg base 5 "_law_order_right" ["_law_length_here", "_law_place"] [false, false] den_n__law_order_right :=
  FQ.mk (g := b_n__law_order_right) (N := N_n__law_order_right) (f := He.ga K "_law_order_right") (let ⟨_, _, _, c⟩ := T; c.def_ 29 rfl) (f_glo_n__law_order_right T) sc_n__law_order_right rfl (by decide) rfl
  (fun _ _ _ _ _ _ us hl => match us, hl with | [_, _], _ => rfl)
  (fun cdv A outer s H E hr => by
  unfold b_n__law_order_right
  exact (qss_cons (qs_if (qt_cmp (op_eqQ hr.units) dEq_sem (qe_add (qe_var (pv 1)) qe_int) (qe_var (pv 0)) (nomark _)) (qss_one (qs_ret qe_bl)) qss_nil)
  (qss_cons (qs_for (passes_of rfl) rfl (qi_zip (f_free_n_zip T) (qa_val (qe_callQ (takes_of rfl rfl rfl rfl) (ok_n_touched T) (hr.mono (by decide)) (qa_val (qe_var (pv 0)) (qa_val (qe_var (pv 1)) qa_nil))) (qa_val (qe_callQ (takes_of rfl rfl rfl rfl) (ok_n_touched T) (hr.mono (by decide)) (qa_val (qe_var (pv 0)) (qa_val (qe_add (qe_var (pv 1)) qe_int) qa_nil))) qa_nil))) (qg_tup 2 rfl (qgs_cons (qg_name (i := 2) (by decide) sc_n__law_order_right.nd rfl (Or.inl rfl)) (qgs_cons (qg_name (i := 3) (by decide) sc_n__law_order_right.nd rfl (Or.inl rfl)) qgs_nil)) (gCons_len (gCons_len gNil_len))) (qss_one (qs_if (QW.qt (qw_or (qt_cmp op_lt sLt (qe_idxN (i := 3) (pv 3) qe_int) (qe_idxN (i := 2) (pv 2) qe_int) (nomark _)) (qw_or1 (QW.qt (qw_and (qt_cmp op_lt sLt (qe_idxN (i := 3) (pv 3) qe_int) (qe_idxN (i := 2) (pv 2) qe_int) (nomark _)) (qw_and1 (qt_not (qt_val (qe_callQ (takes_of rfl rfl rfl rfl) (ok_n__law_gap T) (hr.mono (by decide)) (qa_val (qe_var (pv 0)) (qa_val (qe_idxN (i := 2) (pv 2) qe_int) (qa_val (qe_idxN (i := 2) (pv 2) qe_int) (qa_val (qe_add (qe_var (pv 1)) qe_int) qa_nil))))))))))))) (qss_one (qs_ret qe_bl)) qss_nil)))
  (qss_cons (qs_par2 (i := 2) (j := 3) (by decide) (by decide) rfl sc_n__law_order_right.nd rfl rfl (by decide) rfl rfl (qa_val (qe_callQ (takes_of rfl rfl rfl rfl) (ok_n_touched_top T) (hr.mono (by decide)) (qa_val (qe_var (pv 0)) (qa_val (qe_var (pv 1)) qa_nil))) (qa_val (qe_callQ (takes_of rfl rfl rfl rfl) (ok_n_touched_top T) (hr.mono (by decide)) (qa_val (qe_var (pv 0)) (qa_val (qe_add (qe_var (pv 1)) qe_int) qa_nil))) qa_nil)))
  (qss_one (qs_ret (qe_and (qe_cmp op_le sLe (qe_idxN (i := 2) (pv 2) qe_int) (qe_idxN (i := 3) (pv 3) qe_int) (nomark _)) (qe_one (qe_cmp op_le sLe (qe_idxN (i := 2) (pv 2) qe_int) (qe_idxN (i := 3) (pv 3) qe_int) (nomark _))))))))))
omit T in
abbrev N_n_law : List Str := ["_law_script", "_law_k", "_law_spool_here", "_law_length_here", "_law_turn", "_law_place"]
omit T in
theorem sc_n_law : FnScope N_n_law ["_law_script"] (defScope (top 44)) := ⟨rfl, rfl, rfl, by decide +kernel, rfl, by decide +kernel, by decide +kernel⟩
theorem bd_n_law (cdv : Value) (A : Around) (outer : List Env) (s : Shared) (H : Hp) (E : XK) (hr : Room 5 (A.deeper (envOfC "law" (defScope (top 44)) s.heap.objs.size (He.ga K "law") cdv))) :
    QSs (cxOf (L2.CX P w) P w K mg base N_n_law "law" (defScope (top 44)) (He.ga K "law") cdv A outer s H E) (fun cls d _ H => E cls d H) (borIx [false]) (defBody (top 44)) b_n_law := by
  unfold b_n_law
  exact (qss_cons (qs_for (passes_of rfl) rfl (qi_range1 (f_free_n_range T) (qa_val (qe_callB (call_max2 rfl) (hII_sem fun F i j => .int _) rfl (f_free_n_max T) (by decide +kernel) (qa_val qe_int (qa_val (qe_callB (call_min2 rfl) (hII_sem fun F i j => .int _) rfl (f_free_n_min T) (by decide +kernel) (qa_val qe_int (qa_val (qe_lenN (i := 0) (f_free_n_len T) (by decide +kernel) (pv 0)) qa_nil))) qa_nil))) qa_nil)) (qg_name (i := 1) (by decide) sc_n_law.nd rfl (Or.inl rfl)) (qss_cons (qs_set (i := 2) (by decide) sc_n_law.nd rfl (Or.inl rfl) (qe_callQ (takes_of rfl rfl rfl rfl) (ok_n__law_spool T) (hr.mono (by decide)) (qa_val (qe_var (pv 0)) (qa_val (qe_var (pv 1)) qa_nil))))
  (qss_cons (qs_set (i := 3) (by decide) sc_n_law.nd rfl (Or.inl rfl) (qe_callQ (takes_of rfl rfl rfl rfl) (ok_n__law_length T) (hr.mono (by decide)) (qa_bor (pv 2) qa_nil)))
  (qss_cons (qs_for (passes_of rfl) rfl (qi_range1 (f_free_n_range T) (qa_val qe_int qa_nil)) (qg_name (i := 4) (by decide) sc_n_law.nd rfl (Or.inl rfl)) (qss_cons (qs_set (i := 5) (by decide) sc_n_law.nd rfl (Or.inl rfl) (qe_callQ (takes_of rfl rfl rfl rfl) (ok_n__law_spot T) (hr.mono (by decide)) (qa_bor (pv 2) (qa_val (qe_var (pv 3)) qa_nil))))
  (qss_one (qs_if (QW.qt (qw_or (qt_not (qt_val (qe_callQ (takes_of rfl rfl rfl rfl) (ok_n__law_place_right T) (hr.mono (by decide)) (qa_bor (pv 2) (qa_val (qe_var (pv 3)) (qa_val (qe_var (pv 5)) qa_nil)))))) (qw_or1 (qt_not (qt_val (qe_callQ (takes_of rfl rfl rfl rfl) (ok_n__law_order_right T) (hr.mono (by decide)) (qa_val (qe_var (pv 3)) (qa_val (qe_var (pv 5)) qa_nil)))))))) (qss_one (qs_ret qe_bl)) qss_nil))))
  (qss_one (qs_if (QW.qt (qw_and (qt_cmp op_gt sGt (qe_callQ (takes_of rfl rfl rfl rfl) (ok_n_level_count T) (hr.mono (by decide)) (qa_val (qe_var (pv 3)) qa_nil)) qe_int (nomark _)) (qw_and1 (qt_not (qt_val (qe_callQ (takes_of rfl rfl rfl rfl) (ok_n__law_number_right T) (hr.mono (by decide)) (qa_bor (pv 2) (qa_val (qe_var (pv 3)) qa_nil)))))))) (qss_one (qs_ret qe_bl)) qss_nil))))))
  (qss_one (qs_ret qe_bl)))
end

theorem facts {P : Program} {w : World} {K : PySem.W.Frag} {h : Heap} {mg : Str → Option Value} {f : Addr} (X : K.In h) (G : h.Ns mainGlobals mg) (hfa : mg ("law" : Str) = some (.ref f)) (c : He.SaysD fa fn K) :
    ∃ fd : FuncData, (∀ (s : Shared) (v : Value), BindsTo s fd ⟨[v], []⟩ [("_law_script", v)]) ∧ ∀ base : Heap, K.In base → base.Ns mainGlobals mg → FnOk P w K mg base (L2.CX P w) 6 f fd ["_law_script"] (spOf K [false] den_n_law) := by
  have T : Tx K mg := ⟨h, X, G, c⟩
  obtain ⟨fd, F⟩ := c.def_ 30 rfl
  have e := hfa.symm.trans (f_glo_n_law T)
  cases e
  have b := FunD.bindsA (ps := ["_law_script"]) F fun _ _ _ _ _ _ us hl => match us, hl with | [_], _ => rfl
  exact ⟨fd, fun s v => b s [v] rfl, fun base _ _ => fn_q F sc_n_law rfl (by decide) (bd_n_law T)⟩
end Wk
open PySem PySem.W PySem.Calls PyProof.Rows
theorem Wk.holds_of (hd : ∀ ns : List Int, ns.length ≤ 63 → ∃ bs, Dn.den_n_law [.fr (.lst (ns.map .int))] = .ret (.fr (.bl true)) bs) : PySem.Challenge.rw_liftlevels_k83_whole_spans_and_touches.Holds := by
  w_on; o_law
  refine HandSHeadRun.head_any (r := OpenLaw.row PySem.Challenge.rw_liftlevels_k83_whole_spans_and_touches) (q := view (OpenLaw.row PySem.Challenge.rw_liftlevels_k83_whole_spans_and_touches).prog [44]) (H := Wk.hk) (ob := Wk.ob) (M := 20000) (loose := Wk.loose) (d := HandSHeadRun.topDef (OpenLaw.row PySem.Challenge.rw_liftlevels_k83_whole_spans_and_touches).prog 44) (kwd := []) Wk.ob_eq
    (by kernel_rfl) (fun s => by kernel_rfl) Wk.run (by kernel_rfl) (by kernel_rfl) (by kernel_rfl) (by rfl) (by first | assumption | decide +kernel) (by decide +kernel) ⟨rfl, rfl, rfl, rfl, rfl, by decide +kernel⟩ ?hw ?hc
  case hw => w_witness2
  case hc =>
    refine Q.walk_ofEW (l := PySem.Challenge.rw_liftlevels_k83_whole_spans_and_touches) (n := 63) (k := 6) (x := "_law_script") rfl (by decide) (by kernel_rfl) ⟨rfl, by decide, by decide⟩ ?F
    intro w mg fa h Y G hmg0
    obtain ⟨K, KX, c⟩ := Y
    have hmg : mg ("law" : PySem.Str) = some (.ref fa) := by
      have e : (HandSHeadRun.topDef (OpenLaw.row PySem.Challenge.rw_liftlevels_k83_whole_spans_and_touches).prog 44).name = ("law" : PySem.Str) := by kernel_rfl
      rw [← e]
      exact hmg0
    obtain ⟨fd, hb, hF⟩ := Wk.facts (P := (PySem.Challenge.rw_liftlevels_k83_whole_spans_and_touches).prog) (w := w) KX G hmg c
    exact ⟨K, fd, Q.spOf K [false] Dn.den_n_law, KX, hb, fun H a ns hl _ hS => Q.law_sp hd H a ns hl hS, hF⟩

theorem PySem.Challenge.cw_liftlevels_k83_whole_spans_and_touches_holds : PySem.Challenge.rw_liftlevels_k83_whole_spans_and_touches.Holds :=
  Wk.holds_of fun ns _ => Mt.law_true ns
