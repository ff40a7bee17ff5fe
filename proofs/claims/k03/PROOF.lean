import PyProof.Rows.All
import Wide.All
import OpenK.AllK
import Wide.FinOn
import HandS.ForMost
import HandS.Exc
import HandS.ExcOwn
import HandS.WordsExc
import HandS.Wide
import HandS.Lambda
import HandS.TupAny
import HandS.TupMul
import HandS.TupLe
import HandS.Comp
import HandS.List
import HandS.Text
import HandS.IsInst
import HandS.Star
import HandS.Style
import HandS.RaiseMore
import HandS.Dict
import HandS.Iter
import HandS.CallSlots
import HandS.ExcCtx
import HandS.Defaults
import KE.KRevSl
import KE.KExcSuper
import HandS.ExcInit
import HandS.HeadWalk
import HandS.Property
import HandS.OwnEq
import KE.GoesMore
import KE.GoesComp
import HandS.HotCalls
import HandS.TryMany
import HandS.ExcIs
import HandS.ExcField
import KE.KTryMore
import KE.KExcIs
import KE.KExcInit
import HandS.HeadHook4
import PyProof.P3Eq
import KE.DataCmp
import HandS.Head0
import HandS.Head1
import HandS.Head2
import HandS.HeadHook1
import HandS.HeadHook2
import HandS.HeadHook3
import PySem.Challenge.RW_poolupto_k03_crews_altered
set_option Elab.async false
set_option linter.all false
set_option maxRecDepth 100000
set_option maxHeartbeats 2000000
set_option autoImplicit false
/-! PF: each def of a program as a plain function on deep values (D) and a store of lists that change (Sto). Core. -/
namespace PF
open PySem PySem.Spec PyProof.Rows L2
abbrev St := L2.St

/-- a value with all that it holds; ref n: the n-th list of the store -/
inductive D where
  | non | bl (b : Bool) | int (i : Int) | str (x : Str)
  | tup (l : List D) | lst (l : List D) | scr (l : List D) | dct (l : List (Key × D))
  | ins (c : Str) (fs : List (Str × D)) | ref (n : Nat)
  /-- a value as it is (an object under construction) -/
  | raw (v : V)
  /-- a lambda without parameters: its function at f, its code object at c, of the name q -/
  | clo (f c : Addr) (q : Str)
  /-- a caught exception at a, of the class c, its dict at d -/
  | exn (a d : Addr) (c : Str) (fs : List (Str × D))

/-- ghosts: what stands for good; where the store's lists stand; the tables of code objects -/
structure Gh where
  F : Hp
  α : List Addr
  T : List (Addr × Str)

mutual
inductive Dq (K : PySem.W.Frag) (mg : Str → Option Value) (G : Gh) : V → D → Prop
  | non : Dq K mg G .non .non
  | bl (b : Bool) : Dq K mg G (.bl b) (.bl b)
  | int (i : Int) : Dq K mg G (.int i) (.int i)
  | str (x : Str) : Dq K mg G (.str x) (.str x)
  | tup {a : Addr} {xs : List V} {ds : List D} : SqT K G.F a xs → DqA K mg G xs ds → Dq K mg G (.ref a) (.tup ds)
  | lst {a : Addr} {xs : List V} {ds : List D} : G.F a = some (.lst xs) → DqA K mg G xs ds → Dq K mg G (.ref a) (.lst ds)
  | scr {a : Addr} {xs : List V} {ds : List D} : SqL K G.F a xs → DqA K mg G xs ds → Dq K mg G (.ref a) (.scr ds)
  | dct {a : Addr} {ob : Obj} {xs : List (Key × V)} {ds : List (Key × D)} : G.F a = some (.frz ob (.dK xs)) → DqK K mg G xs ds → Dq K mg G (.ref a) (.dct ds)
  | ins {a C dx : Addr} {c : Str} {xs : List (Str × V)} {ds : List (Str × D)} : mg c = some (.ref C) → G.F a = some (.ins C dx xs) → G.F dx = some (.own a) → DqF K mg G xs ds → Dq K mg G (.ref a) (.ins c ds)
  | ref {a : Addr} {n : Nat} : G.α[n]? = some a → Dq K mg G (.ref a) (.ref n)
  | raw (v : V) : Dq K mg G v (.raw v)
  | clo {f c : Addr} {q : Str} : G.F c = some (LamX.CodeO c q) → Dq K mg G (.ref f) (.clo f c q)
  | exn {a d : Addr} {c : Str} {xs : List (Str × V)} {ds : List (Str × D)} : G.F d = some (.xd xs) → DqF K mg G xs ds → Dq K mg G (.ref a) (.exn a d c ds)
inductive DqA (K : PySem.W.Frag) (mg : Str → Option Value) (G : Gh) : List V → List D → Prop
  | nil : DqA K mg G [] []
  | cons {v : V} {d : D} {vs : List V} {ds : List D} : Dq K mg G v d → DqA K mg G vs ds → DqA K mg G (v :: vs) (d :: ds)
inductive DqK (K : PySem.W.Frag) (mg : Str → Option Value) (G : Gh) : List (Key × V) → List (Key × D) → Prop
  | nil : DqK K mg G [] []
  | cons {k : Key} {v : V} {d : D} {vs : List (Key × V)} {ds : List (Key × D)} : Dq K mg G v d → DqK K mg G vs ds → DqK K mg G ((k, v) :: vs) ((k, d) :: ds)
inductive DqF (K : PySem.W.Frag) (mg : Str → Option Value) (G : Gh) : List (Str × V) → List (Str × D) → Prop
  | nil : DqF K mg G [] []
  | cons {k : Str} {v : V} {d : D} {vs : List (Str × V)} {ds : List (Str × D)} : Dq K mg G v d → DqF K mg G vs ds → DqF K mg G ((k, v) :: vs) ((k, d) :: ds)
end

/-- ghosts grow -/
structure Gh.le (G G' : Gh) : Prop where
  f : ∀ a o, G.F a = some o → G'.F a = some o
  a : ∃ t, G'.α = G.α ++ t
  t : G'.T = G.T
theorem Gh.le.rfl' {G : Gh} : G.le G := ⟨fun _ _ h => h, ⟨[], (List.append_nil _).symm⟩, rfl⟩
theorem Gh.le.trans {G G1 G2 : Gh} (x : G.le G1) (y : G1.le G2) : G.le G2 := by
  obtain ⟨t, e⟩ := x.a
  obtain ⟨t', e'⟩ := y.a
  exact ⟨fun a o h => y.f a o (x.f a o h), ⟨t ++ t', by rw [e', e, List.append_assoc]⟩, y.t.trans x.t⟩
theorem Gh.le.at {G G' : Gh} (x : G.le G') {n : Nat} {a : Addr} (h : G.α[n]? = some a) : G'.α[n]? = some a := by
  obtain ⟨t, e⟩ := x.a
  rw [e, List.getElem?_append_left (List.getElem?_eq_some_iff.mp h).1]
  exact h
theorem sqL_mono {K : PySem.W.Frag} {F F' : Hp} {a : Addr} {xs : List V} (h : ∀ a o, F a = some o → F' a = some o) (q : SqL K F a xs) : SqL K F' a xs := by
  rcases q with (q | ⟨o, q⟩) | q
  · exact .inl (.inl (h _ _ q))
  · exact .inl (.inr ⟨o, h _ _ q⟩)
  · exact .inr q
theorem sqT_mono {K : PySem.W.Frag} {F F' : Hp} {a : Addr} {xs : List V} (h : ∀ a o, F a = some o → F' a = some o) (q : SqT K F a xs) : SqT K F' a xs := by
  rcases q with (q | ⟨o, q⟩) | q
  · exact .inl (.inl (h _ _ q))
  · exact .inl (.inr ⟨o, h _ _ q⟩)
  · exact .inr q
section
variable {K : PySem.W.Frag} {mg : Str → Option Value} {G G' : Gh}
mutual
theorem Dq.mono (x : G.le G') : ∀ {v : V} {d : D}, Dq K mg G v d → Dq K mg G' v d
  | _, _, .non => .non
  | _, _, .bl b => .bl b
  | _, _, .int i => .int i
  | _, _, .str z => .str z
  | _, _, .tup h q => .tup (sqT_mono x.f h) (DqA.mono x q)
  | _, _, .lst h q => .lst (x.f _ _ h) (DqA.mono x q)
  | _, _, .scr h q => .scr (sqL_mono x.f h) (DqA.mono x q)
  | _, _, .dct h q => .dct (x.f _ _ h) (DqK.mono x q)
  | _, _, .ins h1 h2 h3 q => .ins h1 (x.f _ _ h2) (x.f _ _ h3) (DqF.mono x q)
  | _, _, .ref h => .ref (x.at h)
  | _, _, .raw v => .raw v
  | _, _, .clo h => .clo (x.f _ _ h)
  | _, _, .exn h q => .exn (x.f _ _ h) (DqF.mono x q)
theorem DqA.mono (x : G.le G') : ∀ {v : List V} {d : List D}, DqA K mg G v d → DqA K mg G' v d
  | _, _, .nil => .nil
  | _, _, .cons h q => .cons (Dq.mono x h) (DqA.mono x q)
theorem DqK.mono (x : G.le G') : ∀ {v : List (Key × V)} {d : List (Key × D)}, DqK K mg G v d → DqK K mg G' v d
  | _, _, .nil => .nil
  | _, _, .cons h q => .cons (Dq.mono x h) (DqK.mono x q)
theorem DqF.mono (x : G.le G') : ∀ {v : List (Str × V)} {d : List (Str × D)}, DqF K mg G v d → DqF K mg G' v d
  | _, _, .nil => .nil
  | _, _, .cons h q => .cons (Dq.mono x h) (DqF.mono x q)
end
theorem DqA.length : ∀ {vs : List V} {ds : List D}, DqA K mg G vs ds → vs.length = ds.length
  | _, _, .nil => rfl
  | _, _, .cons _ q => by rw [List.length_cons, List.length_cons, DqA.length q]
theorem DqA.get : ∀ {vs : List V} {ds : List D} {i : Nat} {d : D}, DqA K mg G vs ds → ds[i]? = some d → ∃ v, vs[i]? = some v ∧ Dq K mg G v d
  | _, _, _, _, .nil, e => by simp at e
  | _, _, 0, _, .cons r _, e => by simp at e; subst e; exact ⟨_, rfl, r⟩
  | _, _, i + 1, d, .cons _ t, e => by
    obtain ⟨u, h1, h2⟩ := DqA.get (i := i) (d := d) t (by simpa using e)
    exact ⟨u, by simpa using h1, h2⟩
theorem DqA.getV : ∀ {vs : List V} {ds : List D} {i : Nat} {v : V}, DqA K mg G vs ds → vs[i]? = some v → ∃ d, ds[i]? = some d ∧ Dq K mg G v d
  | _, _, _, _, .nil, e => by simp at e
  | _, _, 0, _, .cons r _, e => by simp at e; subst e; exact ⟨_, rfl, r⟩
  | _, _, i + 1, d, .cons _ t, e => by
    obtain ⟨u, h1, h2⟩ := DqA.getV (i := i) (v := d) t (by simpa using e)
    exact ⟨u, by simpa using h1, h2⟩
theorem DqA.append : ∀ {vs ws : List V} {ds es : List D}, DqA K mg G vs ds → DqA K mg G ws es → DqA K mg G (vs ++ ws) (ds ++ es)
  | _, _, _, _, .nil, q => q
  | _, _, _, _, .cons h p, q => .cons h (DqA.append p q)
theorem DqA.take : ∀ {vs : List V} {ds : List D} (n : Nat), DqA K mg G vs ds → DqA K mg G (vs.take n) (ds.take n)
  | _, _, 0, _ => .nil
  | _, _, _ + 1, .nil => .nil
  | _, _, n + 1, .cons r t => .cons r (DqA.take n t)
theorem DqA.drop : ∀ {vs : List V} {ds : List D} (n : Nat), DqA K mg G vs ds → DqA K mg G (vs.drop n) (ds.drop n)
  | _, _, 0, r => r
  | _, _, _ + 1, .nil => .nil
  | _, _, n + 1, .cons _ t => DqA.drop n t
theorem DqA.reverse {vs : List V} {ds : List D} (h : DqA K mg G vs ds) : DqA K mg G vs.reverse ds.reverse := by
  have go : ∀ {vs ws : List V} {ds es : List D}, DqA K mg G vs ds → DqA K mg G ws es → DqA K mg G (vs.reverse ++ ws) (ds.reverse ++ es) := by
    intro vs ws ds es h
    induction vs generalizing ds ws es with
    | nil => intro q; cases h; exact q
    | cons v vs ih =>
      intro q
      cases h with
      | cons h1 h2 =>
        rw [List.reverse_cons, List.reverse_cons, List.append_assoc, List.append_assoc]
        exact ih h2 (.cons h1 q)
  have := go h .nil
  simpa using this
theorem DqA.set {v : V} {d : D} (r : Dq K mg G v d) : ∀ {vs : List V} {ds : List D} (i : Nat), DqA K mg G vs ds → DqA K mg G (vs.set i v) (ds.set i d)
  | _, _, _, .nil => .nil
  | _, _, 0, .cons _ t => .cons r t
  | _, _, i + 1, .cons q t => .cons q (DqA.set r i t)
theorem DqA.rep {v : V} {d : D} (r : Dq K mg G v d) : ∀ n : Nat, DqA K mg G (List.replicate n v) (List.replicate n d)
  | 0 => .nil
  | n + 1 => .cons r (DqA.rep r n)
theorem DqF.look : ∀ {vs : List (Str × V)} {ds : List (Str × D)} {f : Str} {d : D}, DqF K mg G vs ds → ds.lookup f = some d → ∃ v, vs.lookup f = some v ∧ Dq K mg G v d
  | _, _, _, _, .nil, e => by simp at e
  | (k, v) :: vs, (_, d0) :: ds, f, d, .cons h q, e => by
    rw [List.lookup_cons] at e ⊢
    cases hb : f == k with
    | true =>
      rw [hb] at e
      exact ⟨v, rfl, by cases e; exact h⟩
    | false =>
      rw [hb] at e
      exact DqF.look q e
theorem DqF.lookN : ∀ {vs : List (Str × V)} {ds : List (Str × D)} {f : Str}, DqF K mg G vs ds → ds.lookup f = none → vs.lookup f = none
  | _, _, _, .nil, _ => rfl
  | (k, v) :: vs, (_, d0) :: ds, f, .cons h q, e => by
    rw [List.lookup_cons] at e ⊢
    cases hb : f == k with
    | true => rw [hb] at e; cases e
    | false => rw [hb] at e; exact DqF.lookN q e
end

/-! ### the store -/
abbrev Sto := List (Option (List D))
abbrev Stt := List (Option D)
/-- what a piece of an expression comes to -/
inductive Res (β : Type) where
  | ok (a : β) (S : Sto)
  | exc (c : Str) (fs : List (Str × D)) (S : Sto)
  | bad
def Res.bind {β γ : Type} (r : Res β) (f : β → Sto → Res γ) : Res γ := match r with
  | .ok a S => f a S
  | .exc c fs S => .exc c fs S
  | .bad => .bad
abbrev EF := Stt → Sto → Res D
abbrev AF := Stt → Sto → Res (List D)
abbrev BF := Stt → Sto → Res Bool
inductive Out where
  | nx (σ : Stt) (S : Sto)
  | rt (d : D) (S : Sto)
  | bk (σ : Stt) (S : Sto)
  | ct (σ : Stt) (S : Sto)
  | exc (σ : Stt) (c : Str) (fs : List (Str × D)) (S : Sto)
  | bad
abbrev SF := Stt → Sto → Out

/-- no table of code objects -/
abbrev NT (o : HO) : Prop := ∀ ps, o ≠ .tbl ps
/-- tables and code objects stay -/
def TK (H H' : Hp) : Prop := ∀ a o, H a = some o → ((∃ ps, o = .tbl ps) ∨ ∃ φ, o = .ext φ) → H' a = some o
theorem TK.rfl' {H : Hp} : TK H H := fun _ _ h _ => h
theorem tabs_keep {T : List (Addr × Str)} {H H' : Hp} (t : LamX.Tabs T H) (k : TK H H') : LamX.Tabs T H' := fun p hp => by
  obtain ⟨ps, h1, h2, h3⟩ := t p hp
  refine ⟨ps, k _ _ h1 (.inl ⟨_, rfl⟩), h2, fun pos cv hc => ?_⟩
  obtain ⟨c, e1, e2⟩ := h3 pos cv hc
  exact ⟨c, e1, k _ _ e2 (.inr ⟨_, rfl⟩)⟩
theorem TK.new {H : Hp} {p : Addr} {o : HO} (n : H p = none) : TK H (upd H p o) := fun a u h _ => by rw [upd_ne (ne_of_none h n)]; exact h
theorem TK.at {H : Hp} {p : Addr} {o u : HO} (e : H p = some u) (n1 : NT u) (n2 : ∀ φ, u ≠ .ext φ) : TK H (upd H p o) := fun a v h hv => by
  by_cases q : a = p
  · rw [q, e] at h
    cases h
    rcases hv with ⟨ps, z⟩ | ⟨φ, z⟩
    · exact absurd z (n1 ps)
    · exact absurd z (n2 φ)
  · rw [upd_ne q]; exact h
/-- the defs of the laws that write a lambda -/
def lamMakers : List Str := (["_law_again_right", "_law_aim_right", "_law_all_read_right", "_law_all_refused", "_law_alone_right", "_law_are_proofs", "_law_asked_refused", "_law_assurance_right", "_law_below_right", "_law_bent_right", "_law_book_right", "_law_both_right", "_law_cast_right", "_law_certificate_right", "_law_core_right", "_law_crew_read_right", "_law_crew_right", "_law_cut_right", "_law_day_right", "_law_dealings_right", "_law_dealt_right", "_law_deed_right", "_law_desk_right", "_law_elder_right", "_law_endless_right", "_law_evidence_right", "_law_exceeding_right", "_law_flat_right", "_law_foreign_right", "_law_forms_right", "_law_full_right", "_law_going_right", "_law_great_right", "_law_greatest_right", "_law_greatest_stays", "_law_heights_right", "_law_hires_right", "_law_in_a_row_right", "_law_is_assurance_so", "_law_judged_right", "_law_judged_so", "_law_kind_refused", "_law_ladders_right", "_law_leap_right", "_law_led_right", "_law_life_right", "_law_limit_told", "_law_limits_right", "_law_line_right", "_law_loaded", "_law_looks_right", "_law_middles_right", "_law_mores_right", "_law_moved_right", "_law_no_crew_right", "_law_none_last", "_law_none_right", "_law_odd_refused", "_law_odd_right", "_law_office_right", "_law_one_judged", "_law_one_right", "_law_own_dealt", "_law_own_right", "_law_papers_judged", "_law_papers_right", "_law_parts_right", "_law_plan_right", "_law_pool_right", "_law_pools_right", "_law_program_right", "_law_quotas_right", "_law_readers_right", "_law_refused_right", "_law_refused_so", "_law_rise_right", "_law_role_right", "_law_roof_right", "_law_rosters_right", "_law_settled_right", "_law_shows", "_law_small_right", "_law_span_right", "_law_stairs_right", "_law_steep_right", "_law_stopped_right", "_law_sums_right", "_law_tariffs_right", "_law_texts_right", "_law_told_bounds", "_law_told_exceeding", "_law_told_right", "_law_told_roster", "_law_turned", "_law_up_to_right", "_law_values_right", "_law_wishes_by", "_law_wishes_right", "_law_world_right", "_law_written_right", "deal_layer", "dealt_to", "law"] : List String).map Str.ofString
/-- the code object of the def x, its table -/
def codeTab (K : PySem.W.Frag) (mg : Str → Option Value) (x : Str) : Option (Addr × Addr) := match mg x with
  | some (Value.ref f) => (match K.lookup f with
    | some (⟨_, _, .func fd, _⟩ : Obj) => (match fd.code with
      | Value.ref c => (match K.lookup c with
        | some (⟨_, _, .fields vs, _⟩ : Obj) => (match vs[11]? with
          | some (Value.ref P) => some (c, P)
          | _ => none)
        | _ => none)
      | _ => none)
    | _ => none)
  | _ => none
def lamQ (x : Str) : Str := x ++ ".<locals>." ++ "<lambda>"
/-- T tells the tables of these defs -/
def TabT (K : PySem.W.Frag) (mg : Str → Option Value) (T : List (Addr × Str)) : Prop := ∀ x ∈ lamMakers, ∀ c P, codeTab K mg x = some (c, P) → (P, lamQ x) ∈ T ∧ ∀ p ∈ T, p.1 = P → p.2 = lamQ x
structure Rel (K : PySem.W.Frag) (mg : Str → Option Value) (G : Gh) (S : Sto) (H : Hp) : Prop where
  sub : ∀ a o, G.F a = some o → H a = some o
  fn : ∀ a o, G.F a = some o → NT o
  len : G.α.length = S.length
  nd : G.α.Nodup
  th : ∀ a ∈ G.α, ∃ o, H a = some o ∧ NT o
  st : ∀ (n : Nat) (l : List D), S[n]? = some (some l) → ∃ a vs, G.α[n]? = some a ∧ H a = some (.lst vs) ∧ DqA K mg G vs l ∧ G.F a = none
  tabs : LamX.Tabs G.T H
  tt : TabT K mg G.T
/-- a step of the heap: what is frozen stays, new lists of the store are new, all else that was tracked stays (but code tables) -/
structure Stp (G : Gh) (H : Hp) (G' : Gh) (H' : Hp) : Prop where
  f : ∀ a o, G.F a = some o → G'.F a = some o
  t : G'.T = G.T
  a : ∃ t, G'.α = G.α ++ t ∧ ∀ x ∈ t, x ∉ G.α ∧ ∀ o, H x = some o → ¬ NT o
  fr : ∀ a o, H a = some o → NT o → a ∉ G.α → H' a = some o
  nf : ∀ a o, G'.F a = some o → G.F a = some o ∨ (∀ u, H a = some u → ¬ NT u) ∨ a ∈ G.α ∨ (∃ φ, o = .ext φ) ∨ ∃ xs, o = .xd xs
theorem Stp.le {G G' : Gh} {H H' : Hp} (s : Stp G H G' H') : G.le G' := ⟨s.f, let ⟨t, e, _⟩ := s.a; ⟨t, e⟩, s.t⟩
theorem Stp.rfl' {G : Gh} {H : Hp} : Stp G H G H := ⟨fun _ _ h => h, rfl, ⟨[], (List.append_nil _).symm, fun _ h => nomatch h⟩, fun _ _ h _ _ => h, fun _ _ h => .inl h⟩
theorem Stp.trans {G G1 G2 : Gh} {H H1 H2 : Hp} (x : Stp G H G1 H1) (y : Stp G1 H1 G2 H2) : Stp G H G2 H2 := by
  obtain ⟨t, e, n⟩ := x.a
  obtain ⟨t', e', n'⟩ := y.a
  refine ⟨fun a o h => y.f a o (x.f a o h), y.t.trans x.t, ⟨t ++ t', by rw [e', e, List.append_assoc], fun z hz => ?_⟩, fun a o h nt na => ?_, fun a o h => ?_⟩
  · rcases List.mem_append.mp hz with hz | hz
    · exact n z hz
    · obtain ⟨h1, h2⟩ := n' z hz
      have hz0 : z ∉ G.α := fun hm => h1 (by rw [e]; exact List.mem_append_left _ hm)
      exact ⟨hz0, fun o ho nt => h2 o (x.fr z o ho nt hz0) nt⟩
  · refine y.fr a o (x.fr a o h nt na) nt fun hm => ?_
    rw [e] at hm
    rcases List.mem_append.mp hm with hm | hm
    · exact na hm
    · exact (n a hm).2 o h nt
  · by_cases ha : a ∈ G.α
    · exact .inr (.inr (.inl ha))
    rcases y.nf a o h with h | h | h | h
    · exact x.nf a o h
    · exact .inr (.inl fun u hu nt => h u (x.fr a u hu nt ha) nt)
    · rw [e] at h
      rcases List.mem_append.mp h with h | h
      · exact .inr (.inr (.inl h))
      · exact .inr (.inl (n a h).2)
    · exact .inr (.inr (.inr h))
/-- a new object that stands for good -/
theorem Stp.new {K : PySem.W.Frag} {mg : Str → Option Value} {G : Gh} {S : Sto} {H : Hp} {p : Addr} {o : HO} (r : Rel K mg G S H) (n : H p = none) (nt : NT o := by exact fun _ z => nomatch z) : Stp G H { G with F := upd G.F p o } (upd H p o) ∧ Rel K mg { G with F := upd G.F p o } S (upd H p o) := by
  have nf : G.F p = none := by
    cases q : G.F p with
    | none => rfl
    | some u => rw [r.sub p u q] at n; cases n
  have np : p ∉ G.α := fun h => by
    obtain ⟨u, e, _⟩ := r.th p h
    rw [e] at n; cases n
  have s : Stp G H { G with F := upd G.F p o } (upd H p o) := by
    refine ⟨fun a u h => ?_, rfl, ⟨[], (List.append_nil _).symm, fun _ h => nomatch h⟩, fun a u h _ _ => ?_, fun a u h => ?_⟩
    · show upd G.F p o a = some u
      rw [upd_ne (ne_of_none h nf)]; exact h
    · rw [upd_ne (ne_of_none h n)]; exact h
    · have h : upd G.F p o a = some u := h
      by_cases e : a = p
      · exact .inr (.inl (by rw [e, n]; exact fun _ z => nomatch z))
      · rw [upd_ne e] at h; exact .inl h
  refine ⟨s, fun a u h => ?_, fun a u h => ?_, r.len, r.nd, fun a h => ?_, fun k l e => ?_, tabs_keep r.tabs (TK.new n), r.tt⟩
  · have h : upd G.F p o a = some u := h
    by_cases e : a = p
    · rw [e] at h ⊢
      rw [upd_same] at h ⊢
      exact h
    · rw [upd_ne e] at h ⊢
      exact r.sub a u h
  · have h : upd G.F p o a = some u := h
    by_cases e : a = p
    · rw [e, upd_same] at h; cases h; exact nt
    · rw [upd_ne e] at h
      exact r.fn a u h
  · obtain ⟨u, e1, e2⟩ := r.th a h
    exact ⟨u, by rw [upd_ne (ne_of_none e1 n)]; exact e1, e2⟩
  · obtain ⟨a, vs, h1, h2, h3, h4⟩ := r.st k l e
    have na : a ≠ p := fun z => np (z ▸ List.mem_of_getElem? h1)
    refine ⟨a, vs, h1, by rw [upd_ne na]; exact h2, DqA.mono s.le h3, ?_⟩
    show upd G.F p o a = none
    rw [upd_ne na]; exact h4

def Slots (K : PySem.W.Frag) (mg : Str → Option Value) (G : Gh) (σd : Stt) (σ : St) : Prop :=
  σd.length = σ.length ∧ ∀ (i : Nat) (d : D), σd[i]? = some (some d) → ∃ v, σ[i]? = some (some v) ∧ Dq K mg G v d
theorem Slots.mono {K : PySem.W.Frag} {mg : Str → Option Value} {G G' : Gh} {σd : Stt} {σ : St} (h : Slots K mg G σd σ) (x : G.le G') : Slots K mg G' σd σ :=
  ⟨h.1, fun i d e => let ⟨v, q, r⟩ := h.2 i d e; ⟨v, q, r.mono x⟩⟩
theorem Slots.set {K : PySem.W.Frag} {mg : Str → Option Value} {G : Gh} {σd : Stt} {σ : St} {v : V} {d : D} (h : Slots K mg G σd σ) (i : Nat) (r : Dq K mg G v d) : Slots K mg G (σd.set i (some d)) (σ.set i (some v)) := by
  refine ⟨by rw [List.length_set, List.length_set]; exact h.1, fun j e q => ?_⟩
  by_cases hj : i = j
  · subst hj
    by_cases hi : i < σd.length
    · rw [List.getElem?_set_self hi] at q
      cases q
      exact ⟨v, by rw [List.getElem?_set_self (by rw [← h.1]; exact hi)], r⟩
    · rw [List.getElem?_eq_none (by rw [List.length_set]; omega)] at q; cases q
  · rw [List.getElem?_set_ne hj] at q ⊢
    exact h.2 j e q
theorem Slots.none {K : PySem.W.Frag} {mg : Str → Option Value} {G : Gh} {σd : Stt} {σ : St} (h : Slots K mg G σd σ) (i : Nat) : Slots K mg G (σd.set i Option.none) (σ.set i Option.none) := by
  refine ⟨by rw [List.length_set, List.length_set]; exact h.1, fun j e q => ?_⟩
  by_cases hj : i = j
  · subst hj
    by_cases hi : i < σd.length
    · rw [List.getElem?_set_self hi] at q; cases q
    · rw [List.getElem?_eq_none (by rw [List.length_set]; omega)] at q; cases q
  · rw [List.getElem?_set_ne hj] at q ⊢
    exact h.2 j e q

/-! ### the readings -/
/-- how an exception's class and dict lie: cls is the class c, its dict d holds fs -/
def ExcAt (K : PySem.W.Frag) (mg : Str → Option Value) (G : Gh) (H : Hp) (c : Str) (fs : List (Str × D)) (cls : Value) (d : Option Addr) : Prop :=
  mg c = some cls ∧ ((fs = [] ∧ d = none) ∨ ∃ da xs, d = some da ∧ H da = some (.xd xs) ∧ DqF K mg G xs fs)
section
variable (K : PySem.W.Frag) (mg : Str → Option Value) (W : WX)
def PostX (G : Gh) (H : Hp) (σd : Stt) (c : Str) (fs : List (Str × D)) (S' : Sto) : Prop :=
  ∀ cls d σ' H' G', Stp G H G' H' → Rel K mg G' S' H' → Slots K mg G' σd σ' → ExcAt K mg G' H' c fs cls d → W cls d σ' H'
def PostE (G : Gh) (H : Hp) (σd : Stt) (r : Res D) (Q : VK) : Prop := match r with
  | .ok d S' => ∀ v H' G', Stp G H G' H' → Rel K mg G' S' H' → Dq K mg G' v d → Q v H'
  | .exc c fs S' => PostX K mg W G H σd c fs S'
  | .bad => False
def PostA (G : Gh) (H : Hp) (σd : Stt) (r : Res (List D)) (Q : List V → Hp → Prop) : Prop := match r with
  | .ok d S' => ∀ v H' G', Stp G H G' H' → Rel K mg G' S' H' → DqA K mg G' v d → Q v H'
  | .exc c fs S' => PostX K mg W G H σd c fs S'
  | .bad => False
def PostB (G : Gh) (H : Hp) (σd : Stt) (r : Res Bool) (Q : Bool → Hp → Prop) : Prop := match r with
  | .ok b S' => ∀ H' G', Stp G H G' H' → Rel K mg G' S' H' → Q b H'
  | .exc c fs S' => PostX K mg W G H σd c fs S'
  | .bad => False
def PostS (G : Gh) (H : Hp) (r : Out) (Dn : Ends) : Prop := match r with
  | .nx σd S' => ∀ σ' H' G', Stp G H G' H' → Rel K mg G' S' H' → Slots K mg G' σd σ' → Dn.nx σ' H'
  | .bk σd S' => ∀ σ' H' G', Stp G H G' H' → Rel K mg G' S' H' → Slots K mg G' σd σ' → Dn.bk σ' H'
  | .ct σd S' => ∀ σ' H' G', Stp G H G' H' → Rel K mg G' S' H' → Slots K mg G' σd σ' → Dn.ct σ' H'
  | .rt d S' => ∀ v H' G', Stp G H G' H' → Rel K mg G' S' H' → Dq K mg G' v d → Dn.rt v H'
  | .exc σd c fs S' => PostX K mg W G H σd c fs S'
  | .bad => False
def tE (f : EF) : TE := fun σ H Q => ∃ G σd S, Rel K mg G S H ∧ Slots K mg G σd σ ∧ PostE K mg W G H σd (f σd S) Q
def tA (f : AF) : TA := fun σ H Q => ∃ G σd S, Rel K mg G S H ∧ Slots K mg G σd σ ∧ PostA K mg W G H σd (f σd S) Q
def tB (f : BF) : TT := fun σ H Q => ∃ G σd S, Rel K mg G S H ∧ Slots K mg G σd σ ∧ PostB K mg W G H σd (f σd S) Q
def tS (f : SF) : TS := fun Dn σ H => ∃ G σd S, Rel K mg G S H ∧ Slots K mg G σd σ ∧ PostS K mg W G H (f σd S) Dn
end
theorem PostX.pre {K : PySem.W.Frag} {mg : Str → Option Value} {W : WX} {G G1 : Gh} {H H1 : Hp} {σd : Stt} {c : Str} {fs : List (Str × D)} {S' : Sto} (s : Stp G H G1 H1) (h : PostX K mg W G H σd c fs S') : PostX K mg W G1 H1 σd c fs S' :=
  fun cls d σ' H' G' s' r sl e => h cls d σ' H' G' (s.trans s') r sl e
theorem PostE.pre {K : PySem.W.Frag} {mg : Str → Option Value} {W : WX} {G G1 : Gh} {H H1 : Hp} {σd : Stt} {r : Res D} {Q : VK} (s : Stp G H G1 H1) (h : PostE K mg W G H σd r Q) : PostE K mg W G1 H1 σd r Q := by
  cases r with
  | ok d S' => exact fun v H' G' s' r d => h v H' G' (s.trans s') r d
  | exc c fs S' => exact PostX.pre s h
  | bad => exact h
theorem PostA.pre {K : PySem.W.Frag} {mg : Str → Option Value} {W : WX} {G G1 : Gh} {H H1 : Hp} {σd : Stt} {r : Res (List D)} {Q : List V → Hp → Prop} (s : Stp G H G1 H1) (h : PostA K mg W G H σd r Q) : PostA K mg W G1 H1 σd r Q := by
  cases r with
  | ok d S' => exact fun v H' G' s' r d => h v H' G' (s.trans s') r d
  | exc c fs S' => exact PostX.pre s h
  | bad => exact h
theorem PostB.pre {K : PySem.W.Frag} {mg : Str → Option Value} {W : WX} {G G1 : Gh} {H H1 : Hp} {σd : Stt} {r : Res Bool} {Q : Bool → Hp → Prop} (s : Stp G H G1 H1) (h : PostB K mg W G H σd r Q) : PostB K mg W G1 H1 σd r Q := by
  cases r with
  | ok d S' => exact fun H' G' s' r => h H' G' (s.trans s') r
  | exc c fs S' => exact PostX.pre s h
  | bad => exact h
theorem PostS.pre {K : PySem.W.Frag} {mg : Str → Option Value} {W : WX} {G G1 : Gh} {H H1 : Hp} {r : Out} {Dn : Ends} (s : Stp G H G1 H1) (h : PostS K mg W G H r Dn) : PostS K mg W G1 H1 r Dn := by
  cases r with
  | nx σd S' => exact fun σ' H' G' s' r d => h σ' H' G' (s.trans s') r d
  | bk σd S' => exact fun σ' H' G' s' r d => h σ' H' G' (s.trans s') r d
  | ct σd S' => exact fun σ' H' G' s' r d => h σ' H' G' (s.trans s') r d
  | rt d S' => exact fun v H' G' s' r d => h v H' G' (s.trans s') r d
  | exc σd c fs S' => exact PostX.pre s h
  | bad => exact h
/-- other ends -/
theorem PostS.mono {K : PySem.W.Frag} {mg : Str → Option Value} {W : WX} {G : Gh} {H : Hp} {r : Out} {Dn Dn' : Ends} (h : PostS K mg W G H r Dn) (h1 : ∀ σ H, Dn.nx σ H → Dn'.nx σ H) (h2 : ∀ v H, Dn.rt v H → Dn'.rt v H) (h3 : ∀ σ H, Dn.bk σ H → Dn'.bk σ H) (h4 : ∀ σ H, Dn.ct σ H → Dn'.ct σ H) : PostS K mg W G H r Dn' := by
  cases r with
  | nx σd S' => exact fun σ' H' G' s' r d => h1 _ _ (h σ' H' G' s' r d)
  | bk σd S' => exact fun σ' H' G' s' r d => h3 _ _ (h σ' H' G' s' r d)
  | ct σd S' => exact fun σ' H' G' s' r d => h4 _ _ (h σ' H' G' s' r d)
  | rt d S' => exact fun v H' G' s' r d => h2 _ _ (h v H' G' s' r d)
  | exc σd c fs S' => exact h
  | bad => exact h

/-! ### the judgements -/
abbrev SE (X : Cx) (W : WX) (e : Expr) (f : EF) : Prop := PE X e (tE X.K X.mg W f)
abbrev SA (X : Cx) (W : WX) (es : List Expr) (f : AF) : Prop := PA X es (tA X.K X.mg W f)
abbrev SB (X : Cx) (W : WX) (e : Expr) (f : BF) : Prop := PT X e (tB X.K X.mg W f)
abbrev SW (X : Cx) (W : WX) (e : Expr) (f : BF) : Prop := PW X e (tB X.K X.mg W f)
abbrev SS (X : Cx) (W : WX) (st : Stmt) (f : SF) : Prop := PS X st (tS X.K X.mg W f)
abbrev SSs (X : Cx) (W : WX) (st : List Stmt) (f : SF) : Prop := PSs X st (tS X.K X.mg W f)
section
variable {X : Cx} {W : WX} {e a b : Expr} {es : List Expr} {st : Stmt} {sts : List Stmt} {pos : Pos}
theorem pe_weak {t t' : TE} (h : PE X e t) (w : ∀ σ H Q, t' σ H Q → t σ H Q) : PE X e t' := ⟨fun pins s σ H Q I q => h.run pins s σ H Q I (w σ H Q q)⟩
theorem pa_weak {t t' : TA} (h : PA X es t) (w : ∀ σ H Q, t' σ H Q → t σ H Q) : PA X es t' := ⟨fun pos pins s σ H Q I q => h.run pos pins s σ H Q I (w σ H Q q)⟩
theorem pt_weak {t t' : TT} (h : PT X e t) (w : ∀ σ H Q, t' σ H Q → t σ H Q) : PT X e t' := ⟨fun pins s σ H Q I q => h.run pins s σ H Q I (w σ H Q q)⟩
theorem pw_weak {t t' : TT} (h : PW X e t) (w : ∀ σ H Q, t' σ H Q → t σ H Q) : PW X e t' := ⟨fun wh pins s σ H Q I q => h.run wh pins s σ H Q I (w σ H Q q)⟩
theorem ps_weak {t t' : TS} (h : PS X st t) (w : ∀ D σ H, t' D σ H → t D σ H) : PS X st t' := ⟨fun pins s σ H D I q => h.run pins s σ H D I (w D σ H q)⟩
theorem pss_weak {t t' : TS} (h : PSs X sts t) (w : ∀ D σ H, t' D σ H → t D σ H) : PSs X sts t' := ⟨fun pins s σ H D I q => h.run pins s σ H D I (w D σ H q)⟩

/-! ### names, constants, operators -/
def fVar (i : Nat) : EF := fun σ S => match σ[i]? with
  | some (some d) => .ok d S
  | _ => .bad
def fC (d : D) : EF := fun _ S => .ok d S
theorem se_var (i : Nat) {x : Str} (h : PE X (.Name x pos) (tVar i)) : SE X W (.Name x pos) (fVar i) := by
  refine pe_weak h fun σ H Q ⟨G, σd, S, r, sl, p⟩ => ?_
  unfold fVar at p
  cases q : σd[i]? with
  | none => rw [q] at p; exact p.elim
  | some o =>
    cases o with
    | none => rw [q] at p; exact p.elim
    | some d =>
      rw [q] at p
      obtain ⟨v, hv, dv⟩ := sl.2 i d q
      exact ⟨v, hv, p v H G Stp.rfl' r dv⟩
theorem se_c {v : V} {d : D} (h : PE X e (tC v)) (hd : ∀ G, Dq X.K X.mg G v d) : SE X W e (fC d) :=
  pe_weak h fun σ H Q ⟨G, σd, S, r, sl, p⟩ => p v H G Stp.rfl' r (hd G)
theorem se_int {i : Int} {j} : SE X W (.Constant (.int i) j pos) (fC (.int i)) := se_c pe_int fun _ => .int i
theorem se_bl {b : Bool} {j} : SE X W (.Constant (.bool b) j pos) (fC (.bl b)) := se_c pe_bl fun _ => .bl b
theorem se_non {j} : SE X W (.Constant .none j pos) (fC .non) := se_c pe_non fun _ => .non
theorem se_str {x : Str} {j} : SE X W (.Constant (.str x) j pos) (fC (.str x)) := se_c pe_str fun _ => .str x
theorem se_gint {x : Str} {i : Int} {t : Tok} (hg : Gl X x) (hm : X.mg x = some (.int i t)) (hd : (x == ("__debug__" : Str)) = false := by decide) : SE X W (.Name x pos) (fC (.int i)) :=
  se_c (pe_glob hg hm (show RelV (.int i) (.int i t) from ⟨t, rfl⟩) hd) fun _ => .int i

def f1 (h : D → Option D) (f : EF) : EF := fun σ S => (f σ S).bind fun x S1 => match h x with
  | some d => .ok d S1
  | none => .bad
def f2 (h : D → D → Option D) (f g : EF) : EF := fun σ S => (f σ S).bind fun x S1 => (g σ S1).bind fun y S2 => match h x y with
  | some d => .ok d S2
  | none => .bad
/-- an operator on values, by what it does on deep ones -/
def r2 (K : PySem.W.Frag) (mg : Str → Option Value) (h : D → D → Option D) : R2 := fun x y H Q => ∃ G S dx dy d, Rel K mg G S H ∧ Dq K mg G x dx ∧ Dq K mg G y dy ∧ h dx dy = some d ∧ ∀ v H' G', Stp G H G' H' → Rel K mg G' S H' → Dq K mg G' v d → Q v H'
def r1 (K : PySem.W.Frag) (mg : Str → Option Value) (h : D → Option D) : V → Hp → VK → Prop := fun x H Q => ∃ G S dx d, Rel K mg G S H ∧ Dq K mg G x dx ∧ h dx = some d ∧ ∀ v H' G', Stp G H G' H' → Rel K mg G' S H' → Dq K mg G' v d → Q v H'
abbrev OpF (X : Cx) (f : Value → Value → Sem Value) (h : D → D → Option D) : Prop := OpR X f (r2 X.K X.mg h)
theorem opr_weak {f : Value → Value → Sem Value} {r r' : R2} (h : OpR X f r) (w : ∀ x y H Q, r' x y H Q → r x y H Q) : OpR X f r' := fun pins s σ H x y v u Q I rx ry q => h pins s σ H x y v u Q I rx ry (w x y H Q q)
/-- from one reading to the next -/
theorem step2 {K : PySem.W.Frag} {mg : Str → Option Value} {fa fb : EF} {h : D → D → Option D} {σ : St} {H : Hp} {Q : VK} (q : tE K mg W (f2 h fa fb) σ H Q) :
    tE K mg W fa σ H fun x H1 => tE K mg W fb σ H1 fun y H2 => r2 K mg h x y H2 Q := by
  obtain ⟨G, σd, S, r, sl, p⟩ := q
  refine ⟨G, σd, S, r, sl, ?_⟩
  unfold f2 at p
  cases e : fa σd S with
  | bad => rw [e] at p; exact p
  | exc c fs S' => rw [e] at p; exact p
  | ok d S1 =>
    rw [e] at p
    intro v H1 G1 s1 r1 dv
    refine ⟨G1, σd, S1, r1, sl.mono s1.le, ?_⟩
    have p : PostE K mg W G H σd ((fb σd S1).bind fun y S2 => match h d y with | some d => .ok d S2 | none => .bad) Q := p
    cases e2 : fb σd S1 with
    | bad => rw [e2] at p; exact p
    | exc c fs S' => rw [e2] at p; exact PostX.pre s1 p
    | ok d2 S2 =>
      rw [e2] at p
      intro v2 H2 G2 s2 r2 dv2
      have p : PostE K mg W G H σd (match h d d2 with | some d => .ok d S2 | none => .bad) Q := p
      cases e3 : h d d2 with
      | none => rw [e3] at p; exact p.elim
      | some d3 =>
        rw [e3] at p
        exact ⟨G2, S2, d, d2, d3, r2, dv.mono s2.le, dv2, e3, fun v H' G' s' r' d' => p v H' G' (s1.trans (s2.trans s')) r' d'⟩
theorem step1 {K : PySem.W.Frag} {mg : Str → Option Value} {fa : EF} {h : D → Option D} {σ : St} {H : Hp} {Q : VK} (q : tE K mg W (f1 h fa) σ H Q) : tE K mg W fa σ H fun x H1 => r1 K mg h x H1 Q := by
  obtain ⟨G, σd, S, r, sl, p⟩ := q
  refine ⟨G, σd, S, r, sl, ?_⟩
  unfold f1 at p
  cases e : fa σd S with
  | bad => rw [e] at p; exact p
  | exc c fs S' => rw [e] at p; exact p
  | ok d S1 =>
    rw [e] at p
    intro v H1 G1 s1 r1 dv
    have p : PostE K mg W G H σd (match h d with | some d => .ok d S1 | none => .bad) Q := p
    cases e3 : h d with
    | none => rw [e3] at p; exact p.elim
    | some d3 =>
      rw [e3] at p
      exact ⟨G1, S1, d, d3, r1, dv, e3, fun v H' G' s' r' d' => p v H' G' (s1.trans s') r' d'⟩
theorem se_op {op : Operator} {h : D → D → Option D} {fa fb : EF} (ho : OpF X (binaryOp op) h) (ha : SE X W a fa) (hb : SE X W b fb) : SE X W (.BinOp a op b pos) (f2 h fa fb) :=
  pe_weak (pe_op ho ha hb) fun _ _ _ q => step2 q
theorem se_cmp {op : CmpOp} {h : D → D → Option D} {fa fb : EF} (ho : OpF X (compareOp op) h) (ha : SE X W a fa) (hb : SE X W b fb) (hm : behindInMarks op b = false) : SE X W (.Compare a [op] [b] pos) (f2 h fa fb) :=
  pe_weak (pe_cmpR ho ha hb hm) fun _ _ _ q => step2 q
theorem se_un {op : UnaryOp} {h : D → Option D} {fa : EF} (ho : UnR X (unaryOp op) (r1 X.K X.mg h)) (ha : SE X W a fa) : SE X W (.UnaryOp op a pos) (f1 h fa) :=
  pe_weak (pe_un ho ha) fun _ _ _ q => step1 q
end
end PF
/-! PF: operators on deep values. -/
namespace PF
open PySem PySem.Spec PyProof.Rows L2

abbrev LINE : Nat := 16777216
def addD : D → D → Option D
  | .int i, .int j => some (.int (i + j))
  | .tup l, .tup m => if l.length + m.length ≤ LINE then some (.tup (l ++ m)) else none
  | .lst l, .lst m => if l.length + m.length ≤ LINE then some (.lst (l ++ m)) else none
  | .str x, .str y => if x.length + y.length ≤ LINE then some (.str (x ++ y)) else none
  | _, _ => none
def subD : D → D → Option D
  | .int i, .int j => some (.int (i - j))
  | _, _ => none
def mulD : D → D → Option D
  | .int i, .int j => if i.natAbs.log2 + j.natAbs.log2 < 1000000 ∨ j.natAbs < 2 ^ 64 then some (.int (i * j)) else none
  | .tup l, .int k => if l ≠ [] ∧ l.length ≤ 1000 ∧ k ≤ 1000 ∧ -1000 ≤ k then some (.tup (List.replicate k.toNat l).flatten) else none
  | .lst l, .int k => if l.length ≤ 1000 ∧ k ≤ 1000 ∧ -1000 ≤ k then some (.lst (List.replicate k.toNat l).flatten) else none
  | _, _ => none
def fdivD : D → D → Option D
  | .int i, .int j => if 0 < j ∧ j.natAbs.log2 < 9000 then some (.int (i / j)) else none
  | _, _ => none
def modD : D → D → Option D
  | .int i, .int j => if 0 < j then some (.int (i % j)) else none
  | _, _ => none
def powD : D → D → Option D
  | .int i, .int j => if 0 ≤ j ∧ j ≤ 1000 ∧ i.natAbs < 2 ^ 64 then some (.int (i ^ j.toNat)) else none
  | _, _ => none
def cmpD (p : Int → Int → Bool) : D → D → Option D
  | .int i, .int j => some (.bl (p i j))
  | _, _ => none
def ltD := cmpD fun i j => decide (i < j)
def leD := cmpD fun i j => decide (i ≤ j)
def gtD := cmpD fun i j => decide (j < i)
def geD := cmpD fun i j => decide (j ≤ i)
mutual
def toP : D → Option PyData
  | .non => some .none
  | .bl b => some (.bool b)
  | .int i => some (.int i)
  | .str x => some (.str x)
  | .tup l => (toPs l).map .tuple
  | .lst l => (toPs l).map .list
  | .scr l => (toPs l).map .list
  | .dct _ => none
  | .ins _ _ => none
  | .ref _ => none
  | .raw _ => none
  | .clo _ _ _ => none
  | .exn _ _ _ _ => none
def toPs : List D → Option (List PyData)
  | [] => some []
  | d :: r => match toP d, toPs r with
    | some p, some q => some (p :: q)
    | _, _ => none
end
/-- deep == of data -/
def eqP (x y : D) : Option Bool := match toP x, toP y with
  | some p, some q => if (SeqAt.shaped p && SeqAt.shaped q) = true then some (PyData.eqv p q) else none
  | _, _ => none
def eqB : D → D → Option Bool
  | .tup [], .tup m => some m.isEmpty
  | .tup l, .tup [] => some l.isEmpty
  | .lst [], .lst m => some m.isEmpty
  | .lst l, .lst [] => some l.isEmpty
  | x, y => eqP x y
def eqD (x y : D) : Option D := (eqB x y).map .bl
def neD (x y : D) : Option D := (eqB x y).map fun b => .bl !b
/-- x is None, x is True, x is False: the right side a constant -/
def isB : D → D → Option Bool
  | .raw _, _ => none
  | .non, .non => some true
  | _, .non => some false
  | .bl a, .bl b => some (a == b)
  | _, .bl _ => some false
  | _, _ => none
def isD (x y : D) : Option D := (isB x y).map .bl
def isnD (x y : D) : Option D := (isB x y).map fun b => .bl !b

section
variable {K : PySem.W.Frag} {mg : Str → Option Value} {G : Gh} {S : Sto} {H : Hp}
theorem new_tup (r : Rel K mg G S H) {p : Addr} (n : H p = none) {xs : List V} {ds : List D} (ha : DqA K mg G xs ds) : ∃ G', Stp G H G' (upd H p (.tup xs)) ∧ Rel K mg G' S (upd H p (.tup xs)) ∧ Dq K mg G' (.ref p) (.tup ds) := by
  obtain ⟨s, r'⟩ := Stp.new (o := .tup xs) r n
  exact ⟨_, s, r', .tup (SqT.of upd_same) (ha.mono s.le)⟩
theorem new_lst (r : Rel K mg G S H) {p : Addr} (n : H p = none) {xs : List V} {ds : List D} (ha : DqA K mg G xs ds) : ∃ G', Stp G H G' (upd H p (.lst xs)) ∧ Rel K mg G' S (upd H p (.lst xs)) ∧ Dq K mg G' (.ref p) (.lst ds) := by
  obtain ⟨s, r'⟩ := Stp.new (o := .lst xs) r n
  exact ⟨_, s, r', .lst upd_same (ha.mono s.le)⟩
theorem Rel.tup (r : Rel K mg G S H) {a : Addr} {xs : List V} (h : SqT K G.F a xs) : SqT K H a xs := sqT_mono r.sub h
theorem Rel.lst (r : Rel K mg G S H) {a : Addr} {xs : List V} (h : SqL K G.F a xs) : SqL K H a xs := sqL_mono r.sub h
theorem DqA.nil_iff {xs : List V} {ds : List D} (h : DqA K mg G xs ds) : xs = [] ↔ ds = [] := by
  cases h with
  | nil => simp
  | cons _ _ => simp
theorem DqA.flat {xs : List V} {ds : List D} (h : DqA K mg G xs ds) : ∀ n : Nat, DqA K mg G (List.replicate n xs).flatten (List.replicate n ds).flatten
  | 0 => .nil
  | n + 1 => by
    rw [List.replicate_succ, List.replicate_succ, List.flatten_cons, List.flatten_cons]
    exact h.append (DqA.flat h n)
end
section
variable {X : Cx}
theorem of_int {C : Int → Int → Prop} {g : Int → Int → Int} {f : Value → Value → Sem Value} {h : D → D → Option D} (ho : OpR X f (rI C fun i j => .int (g i j)))
    (e : ∀ x y d, h x y = some d → ∃ i j, x = .int i ∧ y = .int j ∧ C i j ∧ d = .int (g i j)) : OpF X f h := by
  refine opr_weak ho fun x y H Q ⟨G, S, dx, dy, d, r, hx, hy, q, k⟩ => ?_
  obtain ⟨i, j, rfl, rfl, c, rfl⟩ := e _ _ _ q
  cases hx
  cases hy
  exact ⟨i, j, rfl, rfl, c, k _ H G Stp.rfl' r (.int _)⟩
theorem of_cmp {f : Value → Value → Sem Value} {p : Int → Int → Bool} (ho : OpR X f (rI0 fun i j => .bl (p i j))) : OpF X f (cmpD p) := by
  refine opr_weak ho fun x y H Q ⟨G, S, dx, dy, d, r, hx, hy, q, k⟩ => ?_
  unfold cmpD at q
  split at q
  · cases q
    cases hx
    cases hy
    exact ⟨_, _, rfl, rfl, k _ H G Stp.rfl' r (.bl _)⟩
  · cases q
theorem of_lt : OpF X (compareOp .Lt) ltD := of_cmp op_lt
theorem of_le : OpF X (compareOp .LtE) leD := of_cmp op_le
theorem of_gt : OpF X (compareOp .Gt) gtD := of_cmp op_gt
theorem of_ge : OpF X (compareOp .GtE) geD := of_cmp op_ge
theorem of_sub : OpF X (binaryOp .Sub) subD := by
  refine opr_weak op_sub fun x y H Q ⟨G, S, dx, dy, d, r, hx, hy, q, k⟩ => ?_
  unfold subD at q
  split at q
  · cases q; cases hx; cases hy
    exact ⟨_, _, rfl, rfl, k _ H G Stp.rfl' r (.int _)⟩
  · cases q
theorem of_fdiv : OpF X (binaryOp .FloorDiv) fdivD := of_int op_fdivW fun x y d q => by
  unfold fdivD at q
  split at q
  · split at q
    · cases q
      exact ⟨_, _, rfl, rfl, by assumption, rfl⟩
    · cases q
  · cases q
theorem of_mod : OpF X (binaryOp .Mod) modD := of_int op_mod fun x y d q => by
  unfold modD at q
  split at q
  · split at q
    · cases q
      exact ⟨_, _, rfl, rfl, by assumption, rfl⟩
    · cases q
  · cases q
theorem of_pow : OpF X (binaryOp .Pow) powD := of_int op_pow fun x y d q => by
  unfold powD at q
  split at q
  · split at q
    · rename_i hc
      cases q
      exact ⟨_, _, rfl, rfl, ⟨hc.1, by omega, hc.2.2⟩, rfl⟩
    · cases q
  · cases q
theorem of_add : OpF X (binaryOp .Add) addD := by
  intro pins s σ H x y v u Q I rx ry ⟨G, S, dx, dy, d, r, hx, hy, q, k⟩
  unfold addD at q
  split at q
  · cases q; cases hx; cases hy
    exact op_add pins s σ H _ _ v u Q I rx ry ⟨_, _, rfl, rfl, k _ H G Stp.rfl' r (.int _)⟩
  · split at q
    · rename_i l m hz
      cases q
      cases hx with
      | @tup a xs _ hs ha =>
        cases hy with
        | @tup b ys _ ht hb =>
          refine op_catA pins s σ H _ _ v u Q I rx ry ⟨a, b, xs, ys, rfl, rfl, r.tup hs, r.tup ht, by rw [ha.length, hb.length, sizeLine_eq]; exact hz, fun e => ?_, fun e e2 => ?_, fun e e2 p hp => ?_⟩
          · have e' := ha.nil_iff.mp e
            subst e'
            exact k _ H G Stp.rfl' r (.tup ht hb)
          · have e' := hb.nil_iff.mp e2
            subst e'
            rw [List.append_nil] at k
            exact k _ H G Stp.rfl' r (.tup hs ha)
          · obtain ⟨G', s', r', d'⟩ := new_tup r hp (ha.append hb)
            exact k _ _ G' s' r' d'
    · cases q
  · split at q
    · rename_i l m hz
      cases q
      cases hx with
      | @lst a xs _ hs ha =>
        cases hy with
        | @lst b ys _ ht hb =>
          refine op_cat pins s σ H _ _ v u Q I rx ry ⟨a, b, xs, ys, rfl, rfl, r.sub _ _ hs, r.sub _ _ ht, by rw [ha.length, hb.length, sizeLine_eq]; exact hz, fun p hp => ?_⟩
          obtain ⟨G', s', r', d'⟩ := new_lst r hp (ha.append hb)
          exact k _ _ G' s' r' d'
    · cases q
  · split at q
    · rename_i l m hz
      cases q; cases hx; cases hy
      exact op_add_str pins s σ H _ _ v u Q I rx ry ⟨_, _, rfl, rfl, by rw [sizeLine_eq]; exact hz, k _ H G Stp.rfl' r (.str _)⟩
    · cases q
  · cases q
end
end PF
set_option maxHeartbeats 4000000
/-! PF: tuple * int of any small int; deep ==; is; in. -/
namespace PF
open PySem PySem.Spec PyProof.Rows L2
theorem tuple_mul1 (l : Addr) (items : Array Value) (n : Nat) (dd : Option Addr) (sl : Array (Option Value)) (u : Tok) :
    Meets (Builtin.«tuple.__mul__» ⟨[.ref l, .int 1 u], []⟩) (fun _ R s => s.heap.get? l = some { cls := .type "tuple", dict := dd, data := .seq items n, slots := sl } ∧ R (.ok (.ret (Value.ref l))) s) :=
  .of_wp fun prog w A R s h => by
    obtain ⟨hp, g, d, tk, os⟩ := s
    obtain ⟨hl, h⟩ := h
    have f1 := AutoSeq1.idx_int
    wp_walk using wpAny_loadPart' hl
    repeat (first
      | (refine wpAny_ite_false (by decide) ?_; wp_walk using wpAny_loadPart' hl)
      | (refine wpAny_ite_true (by simp) ?_; wp_walk using wpAny_loadPart' hl))
    all_goals exact ⟨_, rfl, h⟩
theorem tuple_mul0 (l : Addr) (items : Array Value) (n : Nat) (dd : Option Addr) (sl : Array (Option Value)) (x : Int) (u : Tok) (c0 : (decide (x < -(2 ^ 63)) || decide (x ≥ 2 ^ 63)) = false) (c1 : (items.isEmpty || x == 1) = false) (c2 : x ≤ 0) :
    Meets (Builtin.«tuple.__mul__» ⟨[.ref l, .int x u], []⟩) (fun _ R s => s.heap.get? l = some { cls := .type "tuple", dict := dd, data := .seq items n, slots := sl } ∧
      R (.ok (.ret (Value.ref s.heap.objs.size))) { s with heap := s.heap.push { cls := Value.type "tuple", data := Data.seq #[] }, toks := s.toks }) :=
  .of_wp fun prog w A R s h => by
    obtain ⟨hp, g, d, tk, os⟩ := s
    obtain ⟨hl, h⟩ := h
    have f1 := AutoSeq1.idx_int
    wp_walk using wpAny_loadPart' hl
    repeat (first
      | (refine wpAny_ite_false (decide_eq_false (by rw [c0]; exact Bool.false_ne_true)) ?_; wp_walk using wpAny_loadPart' hl)
      | (refine wpAny_ite_false (decide_eq_false (by rw [c1]; exact Bool.false_ne_true)) ?_; wp_walk using wpAny_loadPart' hl)
      | (refine wpAny_ite_true (decide_eq_true (by rw [decide_eq_true c2]; rfl)) ?_; wp_walk using wpAny_loadPart' hl))
    all_goals exact ⟨_, rfl, h⟩
section
variable {X : Cx}
/-- t * k, t not empty, k of any sign -/
def rRepA (K : PySem.W.Frag) : R2 := fun x y H Q => ∃ l k xs, x = .ref l ∧ y = .int k ∧ SqT K H l xs ∧ xs ≠ [] ∧ -1000 ≤ k ∧ k ≤ 1000 ∧ xs.length ≤ 1000 ∧ (k = 1 → Q (.ref l) H) ∧ (k ≠ 1 → ∀ p, H p = none → Q (.ref p) (upd H p (.tup (List.replicate k.toNat xs).flatten)))
theorem op_repA : OpR X (binaryOp .Mult) (rRepA X.K) := by
  intro pins s σ H x y v u Q I rx ry h
  obtain ⟨l, k, xs, rfl, rfl, hT, hne, h1, h2, hz, q1, q2⟩ := h
  by_cases hk2 : 2 ≤ k
  · exact op_repT pins s σ H _ _ v u Q I rx ry ⟨l, k, xs, rfl, rfl, hT, hne, hk2, h2, hz, q2 (by omega)⟩
  cases rx
  obtain ⟨t, rfl⟩ := ry
  obtain ⟨its, r, ⟨⟨cls, dd, data, sl⟩, ho, hc, n, hd⟩, hs⟩ := I.tuple hT
  simp only at hc hd
  subst hc hd
  have hle : its.length = xs.length := r.length.symm
  have hi : its.toArray.isEmpty = false := by
    cases its with
    | nil => exact absurd (List.eq_nil_of_length_eq_zero hle.symm) hne
    | cons a b => rfl
  by_cases hk1 : k = 1
  · subst hk1
    refine wpAny_binaryOp_repeat_ref (T := "tuple") (U := "int") (by decide) ⟨_, ho, rfl⟩ (fun s' => typeIs_int s' 1 t) noFill_tuple_mul F.fills_int_mul F.slot_int_rmul repeat_tuple F.slot_int_index.lookup
      (call_meets F.slot_int_rmul (typeIs_int s 1 t) F.entry_int_rmul (F.args_int_rmul_2 _ _) (int_rmul_tuple 1 t l its.toArray n dd sl)
        ⟨ho, rfl, ⟨_, ho, rfl⟩, call_meets F.slot_tuple_mul ⟨_, ho, rfl⟩ F.entry_tuple_mul (F.args_tuple_mul_2 _ _) (tuple_mul1 l its.toArray n dd sl t) ⟨ho, ?_⟩⟩)
    exact ⟨.ref l, H, I, rfl, q1 rfl⟩
  · have hk0 : k ≤ 0 := by omega
    have c0 : (decide (k < -(2 ^ 63)) || decide (k ≥ 2 ^ 63)) = false := by
      rw [decide_eq_false (by omega), decide_eq_false (by omega)] <;> rfl
    have c1 : (its.toArray.isEmpty || k == 1) = false := by
      rw [hi, Bool.false_or]
      exact beq_eq_false_iff_ne.mpr hk1
    refine wpAny_binaryOp_repeat_ref (T := "tuple") (U := "int") (by decide) ⟨_, ho, rfl⟩ (fun s' => typeIs_int s' k t) noFill_tuple_mul F.fills_int_mul F.slot_int_rmul repeat_tuple F.slot_int_index.lookup
      (call_meets F.slot_int_rmul (typeIs_int s k t) F.entry_int_rmul (F.args_int_rmul_2 _ _) (int_rmul_tuple k t l its.toArray n dd sl)
        ⟨ho, rfl, ⟨_, ho, rfl⟩, call_meets F.slot_tuple_mul ⟨_, ho, rfl⟩ F.entry_tuple_mul (F.args_tuple_mul_2 _ _) (tuple_mul0 l its.toArray n dd sl k t c0 c1 hk0) ⟨ho, ?_⟩⟩)
    have e0 : (List.replicate k.toNat xs).flatten = [] := by
      have : k.toNat = 0 := by omega
      rw [this]; rfl
    have q2 := q2 hk1 s.heap.objs.size (I.hok.fresh (Nat.le_refl _))
    rw [e0] at q2
    refine ⟨.ref s.heap.objs.size, _, I.laid (t' := s.toks) (o := .tup []) (fun b ob q => Heap.get?_push_of_some _ q) (Nat.le_refl _) ?_, rfl, q2⟩
    exact ⟨Nat.zero_le _, [], .nil, IsTup.new _ _⟩
theorem of_mul : OpF X (binaryOp .Mult) mulD := by
  intro pins s σ H x y v u Q I rx ry ⟨G, S, dx, dy, d, r, hx, hy, q, k⟩
  unfold mulD at q
  split at q
  · split at q
    · rename_i hz
      cases q; cases hx; cases hy
      rcases hz with hz | hz
      · exact op_mulW pins s σ H _ _ v u Q I rx ry ⟨_, _, rfl, rfl, hz, k _ H G Stp.rfl' r (.int _)⟩
      · exact op_mul pins s σ H _ _ v u Q I rx ry ⟨_, _, rfl, rfl, .inr (by omega), k _ H G Stp.rfl' r (.int _)⟩
    · cases q
  · split at q
    · rename_i l m hz
      cases q
      cases hx with
      | @tup a xs _ hs ha =>
        cases hy
        refine op_repA pins s σ H _ _ v u Q I rx ry ⟨a, m, xs, rfl, rfl, r.tup hs, fun e => hz.1 (ha.nil_iff.mp e), hz.2.2.2, hz.2.2.1, by rw [ha.length]; exact hz.2.1, fun e => ?_, fun _ p hp => ?_⟩
        · subst e
          have e2 : (List.replicate (1 : Int).toNat l).flatten = l := by simp
          rw [e2] at k
          exact k _ H G Stp.rfl' r (.tup hs ha)
        · obtain ⟨G', s', r', d'⟩ := new_tup r hp (ha.flat m.toNat)
          exact k _ _ G' s' r' d'
    · cases q
  · split at q
    · rename_i l m hz
      cases q
      cases hx with
      | @lst a xs _ hs ha =>
        cases hy
        refine op_rep pins s σ H _ _ v u Q I rx ry ⟨a, m, xs, rfl, rfl, r.sub _ _ hs, by omega, by omega, ?_, fun p hp => ?_⟩
        · rw [ha.length, sizeLine_eq]
          have a1 : l.length * m.toNat ≤ 1000 * 1000 := Nat.mul_le_mul hz.1 (by omega)
          omega
        · obtain ⟨G', s', r', d'⟩ := new_lst r hp (ha.flat m.toNat)
          exact k _ _ G' s' r' d'
    · cases q
  · cases q
end

/-! ### is -/
theorem rel_bl {x : V} {v : Value} (r : RelV x v) (b : Bool) : (v == Value.bool b) = decide (x = .bl b) ∧ plainIs v (.bool b) = true := by
  cases x with
  | non => cases r; exact ⟨rfl, rfl⟩
  | bl a => cases r; refine ⟨?_, rfl⟩; cases a <;> cases b <;> rfl
  | int _ => obtain ⟨t, rfl⟩ := r; exact ⟨rfl, rfl⟩
  | str _ => obtain ⟨t, rfl⟩ := r; exact ⟨rfl, rfl⟩
  | byt _ => obtain ⟨t, rfl⟩ := r; exact ⟨rfl, rfl⟩
  | flt _ => obtain ⟨t, rfl⟩ := r; exact ⟨rfl, rfl⟩
  | ref _ => cases r; exact ⟨rfl, rfl⟩
  | ty _ => cases r; exact ⟨rfl, rfl⟩
theorem isB_non {K : PySem.W.Frag} {mg : Str → Option Value} {G : Gh} {x : V} {d : D} {k : Bool} (h : Dq K mg G x d) (e : isB d .non = some k) : k = decide (x = .non) := by
  cases h <;> simp [isB] at e ⊢ <;> simp [e]
theorem isB_bl {K : PySem.W.Frag} {mg : Str → Option Value} {G : Gh} {x : V} {d : D} {k : Bool} (b : Bool) (h : Dq K mg G x d) (e : isB d (.bl b) = some k) : k = decide (x = .bl b) := by
  cases h <;> simp [isB] at e ⊢ <;> try simp [e]
  rename_i a
  subst e
  cases a <;> cases b <;> simp
section
variable {X : Cx}
theorem of_is : OpF X (compareOp .Is) isD := by
  intro pins s σ H x y v u Q I rx ry ⟨G, S, dx, dy, d, r, hx, hy, q, k⟩
  unfold isD at q
  cases hy with
  | non =>
    obtain ⟨k0, e0, q⟩ := Option.map_eq_some_iff.mp q
    have e1 := isB_non hx e0
    subst e1
    cases q
    exact op_isN pins s σ H _ _ v u Q I rx ry ⟨rfl, k _ H G Stp.rfl' r (.bl _)⟩
  | bl b =>
    obtain ⟨k0, e0, q⟩ := Option.map_eq_some_iff.mp q
    have e1' := isB_bl b hx e0
    subst e1'
    cases q
    cases ry
    obtain ⟨e1, e2⟩ := rel_bl rx b
    exact wpAny_is_plain e2 (by rw [e1]; exact ⟨.bl _, H, I, rfl, k _ H G Stp.rfl' r (.bl _)⟩)
  | _ => cases dx <;> simp [isB] at q
theorem of_isn : OpF X (compareOp .IsNot) isnD := by
  intro pins s σ H x y v u Q I rx ry ⟨G, S, dx, dy, d, r, hx, hy, q, k⟩
  unfold isnD at q
  cases hy with
  | non =>
    obtain ⟨k0, e0, q⟩ := Option.map_eq_some_iff.mp q
    have e1 := isB_non hx e0
    subst e1
    cases q
    exact op_notN pins s σ H _ _ v u Q I rx ry ⟨rfl, k _ H G Stp.rfl' r (.bl _)⟩
  | bl b =>
    obtain ⟨k0, e0, q⟩ := Option.map_eq_some_iff.mp q
    have e1' := isB_bl b hx e0
    subst e1'
    cases q
    cases ry
    obtain ⟨e1, e2⟩ := rel_bl rx b
    exact wpAny_isNot_plain e2 (by rw [e1]; exact ⟨.bl _, H, I, rfl, k _ H G Stp.rfl' r (.bl _)⟩)
  | _ => cases dx <;> simp [isB] at q

/-! ### == of data -/
mutual
theorem dp_of {K : PySem.W.Frag} {mg : Str → Option Value} {G : Gh} {S : Sto} {H : Hp} (r : Rel K mg G S H) : ∀ (d : D) (x : V) (p : PyData), Dq K mg G x d → toP d = some p → Dp K H x p
  | .non, _, _, .non, e => by cases e; exact .non
  | .bl b, _, _, .bl _, e => by cases e; exact .bl b
  | .int i, _, _, .int _, e => by cases e; exact .int i
  | .str z, _, _, .str _, e => by cases e; exact .str z
  | .tup l, _, p, .tup h q, e => by
    unfold toP at e
    cases el : toPs l with
    | none => rw [el] at e; cases e
    | some ps => rw [el] at e; cases e; exact .tup (r.tup h) (dps_of r l _ ps q el)
  | .lst l, _, p, .lst h q, e => by
    unfold toP at e
    cases el : toPs l with
    | none => rw [el] at e; cases e
    | some ps => rw [el] at e; cases e; exact .lst (SqL.of (r.sub _ _ h)) (dps_of r l _ ps q el)
  | .scr l, _, p, .scr h q, e => by
    unfold toP at e
    cases el : toPs l with
    | none => rw [el] at e; cases e
    | some ps => rw [el] at e; cases e; exact .lst (r.lst h) (dps_of r l _ ps q el)
  | .dct _, _, _, _, e => by unfold toP at e; cases e
  | .ins _ _, _, _, _, e => by unfold toP at e; cases e
  | .ref _, _, _, _, e => by unfold toP at e; cases e
  | .raw _, _, _, _, e => by unfold toP at e; cases e
  | .clo _ _ _, _, _, _, e => by unfold toP at e; cases e
  | .exn _ _ _ _, _, _, _, e => by unfold toP at e; cases e
theorem dps_of {K : PySem.W.Frag} {mg : Str → Option Value} {G : Gh} {S : Sto} {H : Hp} (r : Rel K mg G S H) : ∀ (d : List D) (x : List V) (p : List PyData), DqA K mg G x d → toPs d = some p → DpAll K H x p
  | [], _, _, .nil, e => by unfold toPs at e; cases e; exact .nil
  | d :: l, _, p, .cons h q, e => by
    unfold toPs at e
    cases e1 : toP d with
    | none => rw [e1] at e; cases e
    | some p1 =>
      cases e2 : toPs l with
      | none => rw [e1, e2] at e; cases e
      | some p2 =>
        rw [e1, e2] at e
        cases e
        exact .cons (dp_of r d _ p1 h e1) (dps_of r l _ p2 q e2)
end
end
end PF
/-! PF: ==, !=, in. -/
namespace PF
open PySem PySem.Spec PyProof.Rows L2
section
variable {X : Cx}
theorem all0 {e : Nat → Bool} : (List.range 0).all e = true := rfl
theorem of_eqne (ne : Bool) {op : CmpOp} (hop : op = if ne then .NotEq else .Eq) (hu : X.A.units + 64 < cLine) {pins : List (Addr × Obj)} {s : Shared} {σ : St} {H : Hp} {x y : V} {v u : Value} {Q : VK} (I : Inv X pins σ H s) (rx : RelV x v) (ry : RelV y u)
    {G : Gh} {S : Sto} {dx dy : D} {b : Bool} (r : Rel X.K X.mg G S H) (hx : Dq X.K X.mg G x dx) (hy : Dq X.K X.mg G y dy) (q : eqB dx dy = some b) (k : Q (.bl (if ne then !b else b)) H) :
    wpAny (model X.prog X.w) X.A (compareOp op v u) (EP X pins σ Q) X.xe s := by
  have hu0 : X.A.units < cLine := by omega
  have data : eqP dx dy = some b → wpAny (model X.prog X.w) X.A (compareOp op v u) (EP X pins σ Q) X.xe s := fun q => by
    unfold eqP at q
    cases e1 : toP dx with
    | none => rw [e1] at q; cases q
    | some p1 =>
      cases e2 : toP dy with
      | none => rw [e1, e2] at q; cases q
      | some p2 =>
        rw [e1, e2] at q
        have q : (if (SeqAt.shaped p1 && SeqAt.shaped p2) = true then some (PyData.eqv p1 p2) else none) = some b := q
        split at q
        · rename_i hs
          cases q
          obtain ⟨s1, s2⟩ := Bool.and_eq_true_iff.mp hs
          subst hop
          cases ne with
          | false => exact op_eqD hu pins s σ H x y v u Q I rx ry ⟨p1, p2, dp_of r _ _ _ hx e1, dp_of r _ _ _ hy e2, s1, s2, k⟩
          | true => exact op_neD hu pins s σ H x y v u Q I rx ry ⟨p1, p2, dp_of r _ _ _ hx e1, dp_of r _ _ _ hy e2, s1, s2, k⟩
        · cases q
  have tups : ∀ {a b' : Addr} {xs ys : List V}, v = .ref a → u = .ref b' → SqT X.K H a xs → SqT X.K H b' ys → (xs = [] ∨ ys = []) → b = (xs.length == ys.length) → wpAny (model X.prog X.w) X.A (compareOp op v u) (EP X pins σ Q) X.xe s := by
    intro a b' xs ys e1 e2 h1 h2 h0 hb
    subst e1 e2
    obtain ⟨its, rv, p, _⟩ := I.tuple h1
    obtain ⟨its2, rv2, p2, _⟩ := I.tuple h2
    have l1 := rv.length
    have l2 := rv2.length
    have hno : ∀ j, j < its.toArray.size → j < its2.toArray.size → False := fun j j1 j2 => by
      rw [List.size_toArray] at j1 j2
      rcases h0 with h0 | h0 <;> (subst h0; simp only [List.length_nil] at l1 l2; omega)
    have hmin : min its.toArray.size its2.toArray.size = 0 := by
      rw [List.size_toArray, List.size_toArray]
      rcases h0 with h0 | h0 <;> (subst h0; simp only [List.length_nil] at l1 l2; omega)
    have hz : ((List.range (min its.toArray.size its2.toArray.size)).all (fun _ => true) && its.toArray.size == its2.toArray.size) = b := by
      rw [hmin, hb, List.size_toArray, List.size_toArray, l1, l2]
      rfl
    subst hop
    cases ne with
    | false => exact SeqAt.RcAt.tuples (e := fun _ => true) p p2 hu0 (fun j j1 j2 => (hno j j1 j2).elim) X.prog X.w X.xe _ ⟨.bl b, H, I, by rw [hz]; rfl, k⟩
    | true => exact SeqAt.RcNeAt.tuples (e := fun _ => true) p p2 hu0 (fun j j1 j2 => (hno j j1 j2).elim) X.prog X.w X.xe _ ⟨.bl (!b), H, I, by rw [hz]; rfl, k⟩
  have lsts : ∀ {a b' : Addr} {xs ys : List V}, v = .ref a → u = .ref b' → SqL X.K H a xs → SqL X.K H b' ys → (xs = [] ∨ ys = []) → b = (xs.length == ys.length) → wpAny (model X.prog X.w) X.A (compareOp op v u) (EP X pins σ Q) X.xe s := by
    intro a b' xs ys e1 e2 h1 h2 h0 hb
    subst e1 e2
    obtain ⟨its, rv, p, _⟩ := I.list h1
    obtain ⟨its2, rv2, p2, _⟩ := I.list h2
    have l1 := rv.length
    have l2 := rv2.length
    by_cases hsz : its.length = its2.length
    · have z1 : its.length = 0 := by rcases h0 with h0 | h0 <;> (subst h0; simp only [List.length_nil] at l1 l2; omega)
      have hb' : b = true := by rw [hb, l1, l2, hsz]; simp
      have hz : (List.range its.toArray.size).all (fun _ => true) = true := by rw [List.size_toArray, z1]; rfl
      have hsz' : its.toArray.size = its2.toArray.size := by simpa using hsz
      subst hb'
      subst hop
      cases ne with
      | false => exact SeqAt.RcAt.lists (e := fun _ => true) p.isList p2.isList hsz' hu0 (fun j j1 j2 => by rw [List.size_toArray] at j1; omega) X.prog X.w X.xe _ ⟨.bl true, H, I, by rw [hz]; rfl, k⟩
      | true => exact SeqAt.RcNeAt.lists (e := fun _ => true) p.isList p2.isList hsz' hu0 (fun j j1 j2 => by rw [List.size_toArray] at j1; omega) X.prog X.w X.xe _ ⟨.bl false, H, I, by rw [hz]; rfl, k⟩
    · have hb' : b = false := by rw [hb, l1, l2]; simpa using hsz
      have hsz' : (its.toArray.size != its2.toArray.size) = true := by simpa using hsz
      subst hb'
      subst hop
      cases ne with
      | false => exact SeqAt.RcAt.lists_lengths p.isList p2.isList hsz' hu0 X.prog X.w X.xe _ ⟨.bl false, H, I, rfl, k⟩
      | true => exact SeqAt.RcNeAt.lists_lengths p.isList p2.isList hsz' hu0 X.prog X.w X.xe _ ⟨.bl true, H, I, rfl, k⟩
  have emp : ∀ l : List D, l.isEmpty = ((0 : Nat) == l.length) := fun l => by cases l <;> simp
  have emp2 : ∀ l : List D, l.isEmpty = (l.length == (0 : Nat)) := fun l => by cases l <;> simp
  unfold eqB at q
  split at q
  · cases q
    cases hx with
    | tup h1 a1 =>
      cases hy with
      | tup h2 a2 =>
        cases a1
        exact tups rx ry (r.tup h1) (r.tup h2) (.inl rfl) (by rw [emp, ← a2.length]; rfl)
  · cases q
    cases hx with
    | tup h1 a1 =>
      cases hy with
      | tup h2 a2 =>
        cases a2
        exact tups rx ry (r.tup h1) (r.tup h2) (.inr rfl) (by rw [emp2, ← a1.length]; rfl)
  · cases q
    cases hx with
    | lst h1 a1 =>
      cases hy with
      | lst h2 a2 =>
        cases a1
        exact lsts rx ry (SqL.of (r.sub _ _ h1)) (SqL.of (r.sub _ _ h2)) (.inl rfl) (by rw [emp, ← a2.length]; rfl)
  · cases q
    cases hx with
    | lst h1 a1 =>
      cases hy with
      | lst h2 a2 =>
        cases a2
        exact lsts rx ry (SqL.of (r.sub _ _ h1)) (SqL.of (r.sub _ _ h2)) (.inr rfl) (by rw [emp2, ← a1.length]; rfl)
  · exact data q
theorem of_eq (hu : X.A.units + 64 < cLine) : OpF X (compareOp .Eq) eqD := by
  intro pins s σ H x y v u Q I rx ry ⟨G, S, dx, dy, d, r, hx, hy, q, k⟩
  unfold eqD at q
  cases e : eqB dx dy with
  | none => rw [e] at q; cases q
  | some b =>
    rw [e] at q
    cases q
    exact of_eqne false rfl hu I rx ry r hx hy e (k _ H G Stp.rfl' r (.bl _))
theorem of_ne (hu : X.A.units + 64 < cLine) : OpF X (compareOp .NotEq) neD := by
  intro pins s σ H x y v u Q I rx ry ⟨G, S, dx, dy, d, r, hx, hy, q, k⟩
  unfold neD at q
  cases e : eqB dx dy with
  | none => rw [e] at q; cases q
  | some b =>
    rw [e] at q
    cases q
    exact of_eqne true rfl hu I rx ry r hx hy e (k _ H G Stp.rfl' r (.bl _))

/-! ### in -/
def flatD : D → Option V
  | .non => some .non
  | .bl b => some (.bl b)
  | .int i => some (.int i)
  | .str x => some (.str x)
  | _ => none
def flatDs : List D → Option (List V)
  | [] => some []
  | d :: r => match flatD d, flatDs r with
    | some p, some q => some (p :: q)
    | _, _ => none
def inB : D → D → Option Bool
  | x, .tup l => match flatD x, flatDs l with
    | some v, some vs => some (inV v vs)
    | _, _ => none
  | x, .lst l => match flatD x, flatDs l with
    | some v, some vs => some (inV v vs)
    | _, _ => none
  | .str x, .str y => some (!(Builtin.Str.occurrences y x 0 y.length 1).isEmpty)
  | _, _ => none
def inD (x y : D) : Option D := (inB x y).map .bl
def ninD (x y : D) : Option D := (inB x y).map fun b => .bl !b
theorem flat_ok {K : PySem.W.Frag} {mg : Str → Option Value} {G : Gh} {x : V} {d : D} {v : V} (h : Dq K mg G x d) (e : flatD d = some v) : x = v ∧ flatV x = true := by
  cases h <;> (first | (cases e; exact ⟨rfl, rfl⟩) | (simp [flatD] at e))
theorem flats_ok {K : PySem.W.Frag} {mg : Str → Option Value} {G : Gh} : ∀ {ds : List D} {xs vs : List V}, DqA K mg G xs ds → flatDs ds = some vs → xs = vs ∧ xs.all flatV = true
  | [], _, _, .nil, e => by cases e; exact ⟨rfl, rfl⟩
  | d :: ds, _, vs, .cons h q, e => by
    unfold flatDs at e
    cases e1 : flatD d with
    | none => rw [e1] at e; cases e
    | some p =>
      cases e2 : flatDs ds with
      | none => rw [e1, e2] at e; cases e
      | some ps =>
        rw [e1, e2] at e
        cases e
        obtain ⟨a1, a2⟩ := flat_ok h e1
        obtain ⟨b1, b2⟩ := flats_ok q e2
        subst a1 b1
        exact ⟨rfl, by rw [List.all_cons, a2, b2]; rfl⟩
theorem in_core (neg : Bool) {op : CmpOp} (hop : op = if neg then .NotIn else .In) {pins : List (Addr × Obj)} {s : Shared} {σ : St} {H : Hp} {x y : V} {v u : Value} {Q : VK} (I : Inv X pins σ H s) (rx : RelV x v) (ry : RelV y u)
    {G : Gh} {S : Sto} {dx dy : D} {b : Bool} (r : Rel X.K X.mg G S H) (hx : Dq X.K X.mg G x dx) (hy : Dq X.K X.mg G y dy) (q : inB dx dy = some b) (k : Q (.bl (if neg then !b else b)) H) :
    wpAny (model X.prog X.w) X.A (compareOp op v u) (EP X pins σ Q) X.xe s := by
  have seqs : ∀ {l : List D} {a : Addr} {xs : List V}, y = .ref a → (SqL X.K H a xs ∨ SqT X.K H a xs) → DqA X.K X.mg G xs l → (match flatD dx, flatDs l with | some v, some vs => some (inV v vs) | _, _ => none) = some b → wpAny (model X.prog X.w) X.A (compareOp op v u) (EP X pins σ Q) X.xe s := by
    intro l a xs ey hs ha q
    cases e1 : flatD dx with
    | none => rw [e1] at q; cases q
    | some p =>
      cases e2 : flatDs l with
      | none => rw [e1, e2] at q; cases q
      | some ps =>
        rw [e1, e2] at q
        cases q
        obtain ⟨a1, a2⟩ := flat_ok hx e1
        obtain ⟨b1, b2⟩ := flats_ok ha e2
        subst a1 b1
        subst hop
        cases neg with
        | false => exact op_in_seq pins s σ H _ _ v u Q I rx ry ⟨a, xs, ey, hs, a2, b2, k⟩
        | true => exact op_notIn_seq pins s σ H _ _ v u Q I rx ry ⟨a, xs, ey, hs, a2, b2, k⟩
  unfold inB at q
  split at q
  · cases hy with
    | tup h1 a1 => exact seqs rfl (.inr (r.tup h1)) a1 q
  · cases hy with
    | lst h1 a1 => exact seqs rfl (.inl (SqL.of (r.sub _ _ h1))) a1 q
  · cases q
    cases hx
    cases hy
    subst hop
    cases neg with
    | false => exact op_in_str pins s σ H _ _ v u Q I rx ry ⟨_, _, rfl, rfl, k⟩
    | true => exact L2.op_notIn_str pins s σ H _ _ v u Q I rx ry ⟨_, _, rfl, rfl, k⟩
  · cases q
theorem of_in : OpF X (compareOp .In) inD := by
  intro pins s σ H x y v u Q I rx ry ⟨G, S, dx, dy, d, r, hx, hy, q, k⟩
  unfold inD at q
  cases e : inB dx dy with
  | none => rw [e] at q; cases q
  | some b =>
    rw [e] at q
    cases q
    exact in_core false rfl I rx ry r hx hy e (k _ H G Stp.rfl' r (.bl _))
theorem of_nin : OpF X (compareOp .NotIn) ninD := by
  intro pins s σ H x y v u Q I rx ry ⟨G, S, dx, dy, d, r, hx, hy, q, k⟩
  unfold ninD at q
  cases e : inB dx dy with
  | none => rw [e] at q; cases q
  | some b =>
    rw [e] at q
    cases q
    exact in_core true rfl I rx ry r hx hy e (k _ H G Stp.rfl' r (.bl _))
end
end PF
/-! PF: and, or, not, tests, displays, argument lists. -/
namespace PF
open PySem PySem.Spec PyProof.Rows L2
section
variable {X : Cx} {W : WX} {e a b c : Expr} {es rest : List Expr} {pos : Pos} {fa fb fc : EF} {ga gb : BF}
/-- the reading of one part, then what hangs on it -/
theorem bindE {K : PySem.W.Frag} {mg : Str → Option Value} {W : WX} {G : Gh} {H : Hp} {σd : Stt} {r : Res D} {g : D → Sto → Res D} {Q : VK} (p : PostE K mg W G H σd (r.bind g) Q) :
    PostE K mg W G H σd r fun x H1 => ∃ G1 d S1, Stp G H G1 H1 ∧ Rel K mg G1 S1 H1 ∧ Dq K mg G1 x d ∧ PostE K mg W G1 H1 σd (g d S1) Q := by
  cases r with
  | bad => exact p
  | exc c fs S' => exact p
  | ok d S1 =>
    intro v H1 G1 s1 r1 dv
    exact ⟨G1, d, S1, s1, r1, dv, PostE.pre s1 p⟩
theorem bindB {K : PySem.W.Frag} {mg : Str → Option Value} {W : WX} {G : Gh} {H : Hp} {σd : Stt} {r : Res D} {g : D → Sto → Res Bool} {Q : Bool → Hp → Prop} (p : PostB K mg W G H σd (r.bind g) Q) :
    PostE K mg W G H σd r fun x H1 => ∃ G1 d S1, Stp G H G1 H1 ∧ Rel K mg G1 S1 H1 ∧ Dq K mg G1 x d ∧ PostB K mg W G1 H1 σd (g d S1) Q := by
  cases r with
  | bad => exact p
  | exc c fs S' => exact p
  | ok d S1 =>
    intro v H1 G1 s1 r1 dv
    exact ⟨G1, d, S1, s1, r1, dv, PostB.pre s1 p⟩
theorem bindBE {K : PySem.W.Frag} {mg : Str → Option Value} {W : WX} {G : Gh} {H : Hp} {σd : Stt} {r : Res Bool} {g : Bool → Sto → Res D} {Q : VK} (p : PostE K mg W G H σd (r.bind g) Q) :
    PostB K mg W G H σd r fun x H1 => ∃ G1 S1, Stp G H G1 H1 ∧ Rel K mg G1 S1 H1 ∧ PostE K mg W G1 H1 σd (g x S1) Q := by
  cases r with
  | bad => exact p
  | exc c fs S' => exact p
  | ok d S1 =>
    intro H1 G1 s1 r1
    exact ⟨G1, S1, s1, r1, PostE.pre s1 p⟩
theorem bindBB {K : PySem.W.Frag} {mg : Str → Option Value} {W : WX} {G : Gh} {H : Hp} {σd : Stt} {r : Res Bool} {g : Bool → Sto → Res Bool} {Q : Bool → Hp → Prop} (p : PostB K mg W G H σd (r.bind g) Q) :
    PostB K mg W G H σd r fun x H1 => ∃ G1 S1, Stp G H G1 H1 ∧ Rel K mg G1 S1 H1 ∧ PostB K mg W G1 H1 σd (g x S1) Q := by
  cases r with
  | bad => exact p
  | exc c fs S' => exact p
  | ok d S1 =>
    intro H1 G1 s1 r1
    exact ⟨G1, S1, s1, r1, PostB.pre s1 p⟩
theorem bindA {K : PySem.W.Frag} {mg : Str → Option Value} {W : WX} {G : Gh} {H : Hp} {σd : Stt} {r : Res D} {g : D → Sto → Res (List D)} {Q : List V → Hp → Prop} (p : PostA K mg W G H σd (r.bind g) Q) :
    PostE K mg W G H σd r fun x H1 => ∃ G1 d S1, Stp G H G1 H1 ∧ Rel K mg G1 S1 H1 ∧ Dq K mg G1 x d ∧ PostA K mg W G1 H1 σd (g d S1) Q := by
  cases r with
  | bad => exact p
  | exc c fs S' => exact p
  | ok d S1 =>
    intro v H1 G1 s1 r1 dv
    exact ⟨G1, d, S1, s1, r1, dv, PostA.pre s1 p⟩
theorem bindAE {K : PySem.W.Frag} {mg : Str → Option Value} {W : WX} {G : Gh} {H : Hp} {σd : Stt} {r : Res (List D)} {g : List D → Sto → Res D} {Q : VK} (p : PostE K mg W G H σd (r.bind g) Q) :
    PostA K mg W G H σd r fun x H1 => ∃ G1 d S1, Stp G H G1 H1 ∧ Rel K mg G1 S1 H1 ∧ DqA K mg G1 x d ∧ PostE K mg W G1 H1 σd (g d S1) Q := by
  cases r with
  | bad => exact p
  | exc c fs S' => exact p
  | ok d S1 =>
    intro v H1 G1 s1 r1 dv
    exact ⟨G1, d, S1, s1, r1, dv, PostE.pre s1 p⟩
theorem PostE.mono {K : PySem.W.Frag} {mg : Str → Option Value} {W : WX} {G : Gh} {H : Hp} {σd : Stt} {r : Res D} {Q Q' : VK} (p : PostE K mg W G H σd r Q) (h : ∀ v H, Q v H → Q' v H) : PostE K mg W G H σd r Q' := by
  cases r with
  | bad => exact p
  | exc c fs S' => exact p
  | ok d S1 => exact fun v H1 G1 s1 r1 dv => h _ _ (p v H1 G1 s1 r1 dv)
theorem PostB.mono {K : PySem.W.Frag} {mg : Str → Option Value} {W : WX} {G : Gh} {H : Hp} {σd : Stt} {r : Res Bool} {Q Q' : Bool → Hp → Prop} (p : PostB K mg W G H σd r Q) (h : ∀ v H, Q v H → Q' v H) : PostB K mg W G H σd r Q' := by
  cases r with
  | bad => exact p
  | exc c fs S' => exact p
  | ok d S1 => exact fun H1 G1 s1 r1 => h _ _ (p H1 G1 s1 r1)
theorem PostA.mono {K : PySem.W.Frag} {mg : Str → Option Value} {W : WX} {G : Gh} {H : Hp} {σd : Stt} {r : Res (List D)} {Q Q' : List V → Hp → Prop} (p : PostA K mg W G H σd r Q) (h : ∀ v H, Q v H → Q' v H) : PostA K mg W G H σd r Q' := by
  cases r with
  | bad => exact p
  | exc c fs S' => exact p
  | ok d S1 => exact fun v H1 G1 s1 r1 dv => h _ _ (p v H1 G1 s1 r1 dv)
theorem tE.mono {K : PySem.W.Frag} {mg : Str → Option Value} {f : EF} {σ : St} {H : Hp} {Q Q' : VK} (p : tE K mg W f σ H Q) (h : ∀ v H, Q v H → Q' v H) : tE K mg W f σ H Q' := by
  obtain ⟨G, σd, S, r, sl, q⟩ := p
  exact ⟨G, σd, S, r, sl, q.mono h⟩

/-! ### and, or, not as values (of truths) -/
def fAnd (f g : EF) : EF := fun σ S => (f σ S).bind fun x S1 => match x with
  | .bl true => g σ S1
  | .bl false => .ok (.bl false) S1
  | _ => .bad
def fOr (f g : EF) : EF := fun σ S => (f σ S).bind fun x S1 => match x with
  | .bl false => g σ S1
  | .bl true => .ok (.bl true) S1
  | _ => .bad
def notD : D → Option D
  | .bl b => some (.bl !b)
  | _ => none
theorem se_and (ha : SE X W a fa) (hb : SE X W (.BoolOp .And (b :: rest) pos) fb) : SE X W (.BoolOp .And (a :: b :: rest) pos) (fAnd fa fb) := by
  refine pe_weak (pe_and ha hb) fun σ H Q ⟨G, σd, S, r, sl, p⟩ => ?_
  refine ⟨G, σd, S, r, sl, (bindE p).mono fun x H1 ⟨G1, d, S1, s1, r1, dv, q⟩ => ?_⟩
  cases dv with
  | bl k =>
    refine ⟨k, rfl, ?_⟩
    cases k with
    | true => exact iteT ⟨G1, σd, S1, r1, sl.mono s1.le, q⟩
    | false => exact iteF (q _ H1 G1 Stp.rfl' r1 (.bl false))
  | _ => exact q.elim
theorem se_or (ha : SE X W a fa) (hb : SE X W (.BoolOp .Or (b :: rest) pos) fb) : SE X W (.BoolOp .Or (a :: b :: rest) pos) (fOr fa fb) := by
  refine pe_weak (pe_or ha hb) fun σ H Q ⟨G, σd, S, r, sl, p⟩ => ?_
  refine ⟨G, σd, S, r, sl, (bindE p).mono fun x H1 ⟨G1, d, S1, s1, r1, dv, q⟩ => ?_⟩
  cases dv with
  | bl k =>
    refine ⟨k, rfl, ?_⟩
    cases k with
    | false => exact iteF ⟨G1, σd, S1, r1, sl.mono s1.le, q⟩
    | true => exact iteT (q _ H1 G1 Stp.rfl' r1 (.bl true))
  | _ => exact q.elim
theorem se_one {op} (h : SE X W a fa) : SE X W (.BoolOp op [a] pos) fa := pe_one h
theorem se_not (ha : SE X W a fa) : SE X W (.UnaryOp .Not a pos) (f1 notD fa) := by
  refine pe_weak (pe_not ha) fun σ H Q q => (step1 q).mono fun x H1 ⟨G, S, dx, d, r, hx, e, k⟩ => ?_
  cases hx with
  | bl b => cases e; exact ⟨b, rfl, k _ H1 G Stp.rfl' r (.bl _)⟩
  | _ => cases e
def negD : D → Option D
  | .int i => some (.int (-i))
  | _ => none
theorem of_neg : UnR X (unaryOp .USub) (r1 X.K X.mg negD) := by
  intro pins s σ H x v Q I rx ⟨G, S, dx, d, r, hx, q, k⟩
  unfold negD at q
  split at q
  · cases q; cases hx
    exact un_neg pins s σ H _ v Q I rx ⟨_, rfl, k _ H G Stp.rfl' r (.int _)⟩
  · cases q
/-- a if t else b -/
def fIf (t : BF) (f g : EF) : EF := fun σ S => (t σ S).bind fun x S1 => if x = true then f σ S1 else g σ S1
theorem se_if (ht : SB X W c ga) (ha : SE X W a fa) (hb : SE X W b fb) : SE X W (.IfExp c a b pos) (fIf ga fa fb) := by
  refine pe_weak (pe_ifExp ht ha hb) fun σ H Q ⟨G, σd, S, r, sl, p⟩ => ?_
  refine ⟨G, σd, S, r, sl, (bindBE p).mono fun x H1 ⟨G1, S1, s1, r1, q⟩ => ?_⟩
  cases x with
  | true => rw [if_pos rfl] at q ⊢; exact ⟨G1, σd, S1, r1, sl.mono s1.le, q⟩
  | false => rw [if_neg Bool.false_ne_true] at q ⊢; exact ⟨G1, σd, S1, r1, sl.mono s1.le, q⟩

/-! ### tests -/
def truB : D → Option Bool
  | .non => some false
  | .bl b => some b
  | .int i => some (i != 0)
  | .str x => if x.length ≤ LINE then some ((x.length : Int) != 0) else none
  | .tup l => some !l.isEmpty
  | .lst l => some !l.isEmpty
  | .scr l => some !l.isEmpty
  | _ => none
def bT (f : EF) : BF := fun σ S => (f σ S).bind fun d S1 => match truB d with
  | some b => .ok b S1
  | none => .bad
def bAnd (t u : BF) : BF := fun σ S => (t σ S).bind fun x S1 => if x = true then u σ S1 else .ok false S1
def bOr (t u : BF) : BF := fun σ S => (t σ S).bind fun x S1 => if x = true then .ok true S1 else u σ S1
def bNot (t : BF) : BF := fun σ S => (t σ S).bind fun x S1 => .ok (!x) S1
/-- a value that is a truth, as a test -/
def bV (f : EF) : BF := fun σ S => (f σ S).bind fun d S1 => match d with
  | .bl b => .ok b S1
  | _ => .bad
theorem isEmpty_A {K : PySem.W.Frag} {mg : Str → Option Value} {G : Gh} {xs : List V} {ds : List D} (h : DqA K mg G xs ds) : xs.isEmpty = ds.isEmpty := by
  cases h <;> rfl
theorem isEmpty_K {K : PySem.W.Frag} {mg : Str → Option Value} {G : Gh} {xs : List (Key × V)} {ds : List (Key × D)} (h : DqK K mg G xs ds) : xs.isEmpty = ds.isEmpty := by
  cases h <;> rfl
theorem tru_of {K : PySem.W.Frag} {mg : Str → Option Value} {G : Gh} {S : Sto} {H : Hp} {x : V} {d : D} {k : Bool} (r : Rel K mg G S H) (h : Dq K mg G x d) (e : truB d = some k) : TruV K x H k := by
  cases h with
  | non => cases e; rfl
  | bl b => cases e; rfl
  | int i => cases e; rfl
  | str z =>
    have e : (if z.length ≤ LINE then some ((z.length : Int) != 0) else none) = some k := e
    split at e
    · rename_i hz
      cases e
      exact ⟨by rw [sizeLine_eq]; exact hz, rfl⟩
    · cases e
  | tup h a => cases e; exact .inr (.inl ⟨_, r.tup h, by rw [isEmpty_A a]⟩)
  | lst h a => cases e; exact .inl ⟨_, SqL.of (r.sub _ _ h), by rw [isEmpty_A a]⟩
  | scr h a => cases e; exact .inl ⟨_, r.lst h, by rw [isEmpty_A a]⟩
  | dct h a => cases e
  | ins _ _ _ _ => cases e
  | ref _ => cases e
  | raw _ => cases e
  | clo _ => cases e
  | exn _ _ => cases e
theorem sb_truth (ha : SE X W a fa) (he : ∀ whole, isTrue a X.env whole = (do let v ← whole; standAt a.pos; holding [v] (truthy v)) := by intro _; rfl) : SB X W a (bT fa) := by
  refine pt_weak (pt_truth ha he) fun σ H Q ⟨G, σd, S, r, sl, p⟩ => ?_
  refine ⟨G, σd, S, r, sl, (bindB p).mono fun x H1 ⟨G1, d, S1, s1, r1, dv, q⟩ => ?_⟩
  cases e : truB d with
  | none => rw [e] at q; exact q.elim
  | some k =>
    rw [e] at q
    exact ⟨k, tru_of r1 dv e, q H1 G1 Stp.rfl' r1⟩
theorem toV {K : PySem.W.Frag} {mg : Str → Option Value} {f : EF} {σ : St} {H : Hp} {Q : Bool → Hp → Prop} (q : tB K mg W (bV f) σ H Q) : tE K mg W f σ H fun x H1 => ∃ k, x = .bl k ∧ Q k H1 := by
  obtain ⟨G, σd, S, r, sl, p⟩ := q
  refine ⟨G, σd, S, r, sl, (bindB p).mono fun x H1 ⟨G1, d, S1, s1, r1, dv, q⟩ => ?_⟩
  cases dv with
  | bl k => exact ⟨k, rfl, q H1 G1 Stp.rfl' r1⟩
  | _ => exact q.elim
theorem sb_cmp {op : CmpOp} {h : D → D → Option D} (ho : OpF X (compareOp op) h) (ha : SE X W a fa) (hb : SE X W b fb) (hm : behindInMarks op b = false) : SB X W (.Compare a [op] [b] pos) (bV (f2 h fa fb)) := by
  refine pt_weak (pt_cmpR ho ha hb hm) fun σ H Q q => ?_
  exact step2 (toV q)
theorem sw_and1 (ha : SB X W a ga) : SW X W (.BoolOp .And [a] pos) ga := pw_and1 ha
theorem sw_or1 (ha : SB X W a ga) : SW X W (.BoolOp .Or [a] pos) ga := pw_or1 ha
theorem sw_and (ha : SB X W a ga) (hb : SW X W (.BoolOp .And (b :: rest) pos) gb) : SW X W (.BoolOp .And (a :: b :: rest) pos) (bAnd ga gb) := by
  refine pw_weak (pw_and ha hb) fun σ H Q ⟨G, σd, S, r, sl, p⟩ => ?_
  refine ⟨G, σd, S, r, sl, (bindBB p).mono fun x H1 ⟨G1, S1, s1, r1, q⟩ => ?_⟩
  cases x with
  | true => rw [if_pos rfl] at q ⊢; exact ⟨G1, σd, S1, r1, sl.mono s1.le, q⟩
  | false => rw [if_neg Bool.false_ne_true] at q ⊢; exact q H1 G1 Stp.rfl' r1
theorem sw_or (ha : SB X W a ga) (hb : SW X W (.BoolOp .Or (b :: rest) pos) gb) : SW X W (.BoolOp .Or (a :: b :: rest) pos) (bOr ga gb) := by
  refine pw_weak (pw_or ha hb) fun σ H Q ⟨G, σd, S, r, sl, p⟩ => ?_
  refine ⟨G, σd, S, r, sl, (bindBB p).mono fun x H1 ⟨G1, S1, s1, r1, q⟩ => ?_⟩
  cases x with
  | true => rw [if_pos rfl] at q ⊢; exact q H1 G1 Stp.rfl' r1
  | false => rw [if_neg Bool.false_ne_true] at q ⊢; exact ⟨G1, σd, S1, r1, sl.mono s1.le, q⟩
theorem sb_not (ha : SB X W a ga) : SB X W (.UnaryOp .Not a pos) (bNot ga) := by
  refine pt_weak (pt_not ha) fun σ H Q ⟨G, σd, S, r, sl, p⟩ => ?_
  exact ⟨G, σd, S, r, sl, (bindBB p).mono fun x H1 ⟨G1, S1, s1, r1, q⟩ => q H1 G1 Stp.rfl' r1⟩
/-- a op1 b op2 c -/
def fChain (h h' : D → D → Option D) (f g k : EF) : EF := fun σ S => (f σ S).bind fun x S1 => (g σ S1).bind fun y S2 => match h x y with
  | some (.bl true) => (k σ S2).bind fun z S3 => match h' y z with
    | some d => .ok d S3
    | none => .bad
  | some (.bl false) => .ok (.bl false) S2
  | _ => .bad
theorem chain_step {K : PySem.W.Frag} {mg : Str → Option Value} {h h' : D → D → Option D} {σ : St} {H : Hp} {Q : VK} (q : tE K mg W (fChain h h' fa fb fc) σ H Q) :
    tChain (r2 K mg h) (r2 K mg h') (tE K mg W fa) (tE K mg W fb) (tE K mg W fc) σ H Q := by
  obtain ⟨G, σd, S, r, sl, p⟩ := q
  refine ⟨G, σd, S, r, sl, (bindE p).mono fun x H1 ⟨G1, d1, S1, s1, r1, dv1, p1⟩ => ?_⟩
  refine ⟨G1, σd, S1, r1, sl.mono s1.le, (bindE p1).mono fun y H2 ⟨G2, d2, S2, s2, rr2, dv2, p2⟩ => ?_⟩
  have sl2 := (sl.mono s1.le).mono s2.le
  cases e : h d1 d2 with
  | none => rw [e] at p2; exact p2.elim
  | some d =>
    refine ⟨G2, S2, d1, d2, d, rr2, dv1.mono s2.le, dv2, e, fun v H3 G3 s3 r3 dv3 => ?_⟩
    rw [e] at p2
    cases dv3 with
    | bl k =>
      refine ⟨k, rfl, ?_⟩
      cases k with
      | false => exact iteF (p2 _ H3 G3 s3 r3 (.bl false))
      | true =>
        refine iteT ⟨G3, σd, S2, r3, sl2.mono s3.le, ?_⟩
        have p3 := PostE.pre s3 (show PostE K mg W G2 H2 σd ((fc σd S2).bind fun z S3 => match h' d2 z with | some d => .ok d S3 | none => .bad) Q from p2)
        refine (bindE p3).mono fun z H4 ⟨G4, d4, S4, s4, r4, dv4, p4⟩ => ?_
        cases e2 : h' d2 d4 with
        | none => rw [e2] at p4; exact p4.elim
        | some d5 =>
          rw [e2] at p4
          exact ⟨G4, S4, d2, d4, d5, r4, (dv2.mono s3.le).mono s4.le, dv4, e2, p4⟩
    | _ => exact p2.elim
theorem se_chain {op op' : CmpOp} {h h' : D → D → Option D} (ho : OpF X (compareOp op) h) (ho' : OpF X (compareOp op') h') (ha : SE X W a fa) (hb : SE X W b fb) (hc : SE X W c fc)
    (hm : lastMarks [op, op'] [b, c] = false := by with_unfolding_all rfl) : SE X W (.Compare a [op, op'] [b, c] pos) (fChain h h' fa fb fc) :=
  pe_weak (pe_chain ho ho' ha hb hc hm) fun _ _ _ q => chain_step q
theorem sb_chain {op op' : CmpOp} {h h' : D → D → Option D} (ho : OpF X (compareOp op) h) (ho' : OpF X (compareOp op') h') (ha : SE X W a fa) (hb : SE X W b fb) (hc : SE X W c fc)
    (hm : lastMarks [op, op'] [b, c] = false := by with_unfolding_all rfl) : SB X W (.Compare a [op, op'] [b, c] pos) (bV (fChain h h' fa fb fc)) :=
  pt_weak (pt_chain ho ho' ha hb hc hm) fun σ H Q q => chain_step (toV q)

/-! ### argument lists, displays -/
def aNil : AF := fun _ S => .ok [] S
def aCons (f : EF) (r : AF) : AF := fun σ S => (f σ S).bind fun x S1 => (r σ S1).bind fun xs S2 => .ok (x :: xs) S2
theorem bindAA {K : PySem.W.Frag} {mg : Str → Option Value} {W : WX} {G : Gh} {H : Hp} {σd : Stt} {r : Res (List D)} {g : List D → Sto → Res (List D)} {Q : List V → Hp → Prop} (p : PostA K mg W G H σd (r.bind g) Q) :
    PostA K mg W G H σd r fun x H1 => ∃ G1 d S1, Stp G H G1 H1 ∧ Rel K mg G1 S1 H1 ∧ DqA K mg G1 x d ∧ PostA K mg W G1 H1 σd (g d S1) Q := by
  cases r with
  | bad => exact p
  | exc c fs S' => exact p
  | ok d S1 =>
    intro v H1 G1 s1 r1 dv
    exact ⟨G1, d, S1, s1, r1, dv, PostA.pre s1 p⟩
theorem sa_nil : SA X W [] aNil := pa_weak pa_nil fun σ H Q ⟨G, σd, S, r, sl, p⟩ => p [] H G Stp.rfl' r .nil
theorem sa_cons {fr : AF} (ha : SE X W e fa) (hr : SA X W es fr) (hs : starEach (e :: es) X.env = (false, eval e X.env) :: starEach es X.env := by rfl) : SA X W (e :: es) (aCons fa fr) := by
  refine pa_weak (pa_cons ha hr hs) fun σ H Q ⟨G, σd, S, r, sl, p⟩ => ?_
  refine ⟨G, σd, S, r, sl, (bindA p).mono fun x H1 ⟨G1, d, S1, s1, r1, dv, q⟩ => ?_⟩
  refine ⟨G1, σd, S1, r1, sl.mono s1.le, (bindAA q).mono fun xs H2 ⟨G2, ds, S2, s2, r2, dvs, q2⟩ => ?_⟩
  exact q2 (x :: xs) H2 G2 Stp.rfl' r2 (.cons (dv.mono s2.le) dvs)
def fTup (f : AF) : EF := fun σ S => (f σ S).bind fun xs S1 => if xs.length ≤ LINE then .ok (.tup xs) S1 else .bad
/-- a list that is never changed -/
def fLst (f : AF) : EF := fun σ S => (f σ S).bind fun xs S1 => if xs.length ≤ LINE then .ok (.lst xs) S1 else .bad
/-- a new list of the store -/
def fNew (f : AF) : EF := fun σ S => (f σ S).bind fun xs S1 => if xs.length ≤ LINE then .ok (.ref S1.length) (S1 ++ [some xs]) else .bad
theorem se_tup {x1} {f : AF} (h : SA X W es f) : SE X W (.Tuple es x1 pos) (fTup f) := by
  refine pe_weak (pe_tup h) fun σ H Q ⟨G, σd, S, r, sl, p⟩ => ?_
  refine ⟨G, σd, S, r, sl, (bindAE p).mono fun xs H1 ⟨G1, ds, S1, s1, r1, dv, q⟩ => ?_⟩
  split at q
  · rename_i hz
    refine ⟨by rw [dv.length, sizeLine_eq]; exact hz, fun p hp => ?_⟩
    obtain ⟨G', s', r', d'⟩ := new_tup r1 hp dv
    exact q _ _ G' s' r' d'
  · exact q.elim
theorem se_lst {f : AF} (h : SA X W es f) : SE X W (.List es pos) (fLst f) := by
  refine pe_weak (pe_lst h) fun σ H Q ⟨G, σd, S, r, sl, p⟩ => ?_
  refine ⟨G, σd, S, r, sl, (bindAE p).mono fun xs H1 ⟨G1, ds, S1, s1, r1, dv, q⟩ => ?_⟩
  split at q
  · rename_i hz
    refine ⟨by rw [dv.length, sizeLine_eq]; exact hz, fun p hp => ?_⟩
    obtain ⟨G', s', r', d'⟩ := new_lst r1 hp dv
    exact q _ _ G' s' r' d'
  · exact q.elim
/-- a new list becomes one of the store -/
theorem new_ref {K : PySem.W.Frag} {mg : Str → Option Value} {G : Gh} {S : Sto} {H : Hp} (r : Rel K mg G S H) {p : Addr} (n : H p = none) {xs : List V} {ds : List D} (ha : DqA K mg G xs ds) :
    ∃ G', Stp G H G' (upd H p (.lst xs)) ∧ Rel K mg G' (S ++ [some ds]) (upd H p (.lst xs)) ∧ Dq K mg G' (.ref p) (.ref S.length) := by
  have nf : G.F p = none := by
    cases q : G.F p with
    | none => rfl
    | some u => rw [r.sub p u q] at n; cases n
  have np : p ∉ G.α := fun h => by
    obtain ⟨u, e, _⟩ := r.th p h
    rw [e] at n; cases n
  have s : Stp G H { G with α := G.α ++ [p] } (upd H p (.lst xs)) := by
    refine ⟨fun a u h => h, rfl, ⟨[p], rfl, fun x hx => ?_⟩, fun a u h _ _ => ?_, fun a u h => .inl h⟩
    · rw [List.mem_singleton.mp hx]; exact ⟨np, fun o e => by rw [n] at e; cases e⟩
    · rw [upd_ne (ne_of_none h n)]; exact h
  refine ⟨_, s, ⟨fun a u h => ?_, r.fn, ?_, ?_, fun a h => ?_, fun k l e => ?_, tabs_keep r.tabs (TK.new n), r.tt⟩, .ref ?_⟩
  · rw [upd_ne (ne_of_none (r.sub a u h) n)]; exact r.sub a u h
  · show (G.α ++ [p]).length = (S ++ [some ds]).length
    rw [List.length_append, List.length_append, r.len]; rfl
  · show (G.α ++ [p]).Nodup
    refine List.nodup_append.mpr ⟨r.nd, by simp, fun a ha b hb => ?_⟩
    rw [List.mem_singleton.mp hb]
    exact fun e => np (e ▸ ha)
  · rcases List.mem_append.mp h with h | h
    · obtain ⟨u, e1, e2⟩ := r.th a h
      exact ⟨u, by rw [upd_ne (ne_of_none e1 n)]; exact e1, e2⟩
    · rw [List.mem_singleton.mp h, upd_same]; exact ⟨_, rfl, fun _ z => nomatch z⟩
  · by_cases hk : k < S.length
    · rw [List.getElem?_append_left hk] at e
      obtain ⟨a, vs, h1, h2, h3, h4⟩ := r.st k l e
      have na : a ≠ p := fun z => np (z ▸ List.mem_of_getElem? h1)
      refine ⟨a, vs, ?_, by rw [upd_ne na]; exact h2, h3.mono s.le, h4⟩
      show (G.α ++ [p])[k]? = some a
      rw [List.getElem?_append_left (by rw [r.len]; exact hk)]; exact h1
    · rw [List.getElem?_append_right (by omega)] at e
      have hk2 : k = S.length := by
        by_cases q : k - S.length = 0
        · omega
        · have : ([some ds] : Sto)[k - S.length]? = none := by rw [List.getElem?_eq_none]; simp; omega
          rw [this] at e; cases e
      subst hk2
      rw [Nat.sub_self] at e
      cases e
      refine ⟨p, xs, ?_, upd_same, ha.mono s.le, nf⟩
      show (G.α ++ [p])[S.length]? = some p
      rw [List.getElem?_append_right (by rw [r.len]; exact Nat.le_refl _), r.len, Nat.sub_self]; rfl
  · show (G.α ++ [p])[S.length]? = some p
    rw [List.getElem?_append_right (by rw [r.len]; exact Nat.le_refl _), r.len, Nat.sub_self]; rfl
theorem se_new {f : AF} (h : SA X W es f) : SE X W (.List es pos) (fNew f) := by
  refine pe_weak (pe_lst h) fun σ H Q ⟨G, σd, S, r, sl, p⟩ => ?_
  refine ⟨G, σd, S, r, sl, (bindAE p).mono fun xs H1 ⟨G1, ds, S1, s1, r1, dv, q⟩ => ?_⟩
  split at q
  · rename_i hz
    refine ⟨by rw [dv.length, sizeLine_eq]; exact hz, fun p hp => ?_⟩
    obtain ⟨G', s', r', d'⟩ := new_ref r1 hp dv
    exact q _ _ G' s' r' d'
  · exact q.elim
end
end PF
/-! PF: statements. -/
namespace PF
open PySem PySem.Spec PyProof.Rows L2
section
variable {X : Cx} {W : WX} {e a b c : Expr} {es rest : List Expr} {st : Stmt} {sts as bs : List Stmt} {pos : Pos} {fa fb fc : EF} {ga gb : BF} {sa sb : SF}
def Out.bind (r : Out) (g : Stt → Sto → Out) : Out := match r with
  | .nx σ S => g σ S
  | .rt d S => .rt d S
  | .bk σ S => .bk σ S
  | .ct σ S => .ct σ S
  | .exc σ c fs S => .exc σ c fs S
  | .bad => .bad
/-- an expression's end, then a statement's -/
def Res.out {β : Type} (r : Res β) (σ : Stt) (g : β → Sto → Out) : Out := match r with
  | .ok d S => g d S
  | .exc c fs S => .exc σ c fs S
  | .bad => .bad
theorem bindS {K : PySem.W.Frag} {mg : Str → Option Value} {W : WX} {G : Gh} {H : Hp} {r : Out} {g : Stt → Sto → Out} {Dn : Ends} (p : PostS K mg W G H (r.bind g) Dn) :
    PostS K mg W G H r { Dn with nx := fun σ1 H1 => ∃ G1 σd S1, Stp G H G1 H1 ∧ Rel K mg G1 S1 H1 ∧ Slots K mg G1 σd σ1 ∧ PostS K mg W G1 H1 (g σd S1) Dn } := by
  cases r with
  | nx σd S1 => exact fun σ1 H1 G1 s1 r1 sl => ⟨G1, σd, S1, s1, r1, sl, PostS.pre s1 p⟩
  | rt d S => exact p
  | bk σ S => exact p
  | ct σ S => exact p
  | exc σ c fs S => exact p
  | bad => exact p
theorem outE {K : PySem.W.Frag} {mg : Str → Option Value} {W : WX} {G : Gh} {H : Hp} {σd : Stt} {r : Res D} {g : D → Sto → Out} {Dn : Ends} (p : PostS K mg W G H (r.out σd g) Dn) :
    PostE K mg W G H σd r fun x H1 => ∃ G1 d S1, Stp G H G1 H1 ∧ Rel K mg G1 S1 H1 ∧ Dq K mg G1 x d ∧ PostS K mg W G1 H1 (g d S1) Dn := by
  cases r with
  | bad => exact p
  | exc c fs S' => exact p
  | ok d S1 => exact fun v H1 G1 s1 r1 dv => ⟨G1, d, S1, s1, r1, dv, PostS.pre s1 p⟩
theorem outB {K : PySem.W.Frag} {mg : Str → Option Value} {W : WX} {G : Gh} {H : Hp} {σd : Stt} {r : Res Bool} {g : Bool → Sto → Out} {Dn : Ends} (p : PostS K mg W G H (r.out σd g) Dn) :
    PostB K mg W G H σd r fun x H1 => ∃ G1 S1, Stp G H G1 H1 ∧ Rel K mg G1 S1 H1 ∧ PostS K mg W G1 H1 (g x S1) Dn := by
  cases r with
  | bad => exact p
  | exc c fs S' => exact p
  | ok d S1 => exact fun H1 G1 s1 r1 => ⟨G1, S1, s1, r1, PostS.pre s1 p⟩
theorem outA {K : PySem.W.Frag} {mg : Str → Option Value} {W : WX} {G : Gh} {H : Hp} {σd : Stt} {r : Res (List D)} {g : List D → Sto → Out} {Dn : Ends} (p : PostS K mg W G H (r.out σd g) Dn) :
    PostA K mg W G H σd r fun x H1 => ∃ G1 d S1, Stp G H G1 H1 ∧ Rel K mg G1 S1 H1 ∧ DqA K mg G1 x d ∧ PostS K mg W G1 H1 (g d S1) Dn := by
  cases r with
  | bad => exact p
  | exc c fs S' => exact p
  | ok d S1 => exact fun v H1 G1 s1 r1 dv => ⟨G1, d, S1, s1, r1, dv, PostS.pre s1 p⟩

def sNil : SF := fun σ S => .nx σ S
def sSeq (f g : SF) : SF := fun σ S => (f σ S).bind g
def sRet (f : EF) : SF := fun σ S => (f σ S).out σ fun d S1 => .rt d S1
def sRetN : SF := fun _ S => .rt .non S
def sIf (t : BF) (f g : SF) : SF := fun σ S => (t σ S).out σ fun b S1 => if b = true then f σ S1 else g σ S1
def sDrop (f : EF) : SF := fun σ S => (f σ S).out σ fun _ S1 => .nx σ S1
def sBrk : SF := fun σ S => .bk σ S
def sCnt : SF := fun σ S => .ct σ S
def sNever : SF := fun _ _ => .bad
theorem ss_nil : SSs X W [] sNil := pss_weak pss_nil fun D σ H ⟨G, σd, S, r, sl, p⟩ => p σ H G Stp.rfl' r sl
theorem ss_cons (h1 : SS X W st sa) (h2 : SSs X W sts sb) : SSs X W (st :: sts) (sSeq sa sb) := by
  refine pss_weak (pss_cons h1 h2) fun D σ H ⟨G, σd, S, r, sl, p⟩ => ?_
  refine ⟨G, σd, S, r, sl, (bindS p).mono (fun σ1 H1 ⟨G1, σd1, S1, s1, r1, sl1, q⟩ => ⟨G1, σd1, S1, r1, sl1, q⟩) (fun _ _ q => q) (fun _ _ q => q) (fun _ _ q => q)⟩
theorem ss_one (h1 : SS X W st sa) : SSs X W [st] sa := pss_one h1
theorem ss_pass : SS X W (.Pass pos) sNil := ps_weak ps_pass fun D σ H ⟨G, σd, S, r, sl, p⟩ => p σ H G Stp.rfl' r sl
theorem ss_brk : SS X W (.Break pos) sBrk := ps_weak ps_break fun D σ H ⟨G, σd, S, r, sl, p⟩ => p σ H G Stp.rfl' r sl
theorem ss_cnt : SS X W (.Continue pos) sCnt := ps_weak ps_continue fun D σ H ⟨G, σd, S, r, sl, p⟩ => p σ H G Stp.rfl' r sl
theorem ss_doc {x j pos'} : SS X W (.Expr (.Constant (.str x) j pos) pos') sNil := ps_weak ps_doc fun D σ H ⟨G, σd, S, r, sl, p⟩ => p σ H G Stp.rfl' r sl
theorem ss_never : SS X W st sNever := ps_weak ps_never fun D σ H ⟨G, σd, S, r, sl, p⟩ => p
theorem sss_never : SSs X W sts sNever := pss_weak pss_never fun D σ H ⟨G, σd, S, r, sl, p⟩ => p
theorem ss_ret (h : SE X W e fa) : SS X W (.Return (some e) pos) (sRet fa) := by
  refine ps_weak (ps_ret h) fun D σ H ⟨G, σd, S, r, sl, p⟩ => ?_
  exact ⟨G, σd, S, r, sl, (outE p).mono fun x H1 ⟨G1, d, S1, s1, r1, dv, q⟩ => q x H1 G1 Stp.rfl' r1 dv⟩
theorem ss_retN : SS X W (.Return none pos) sRetN := ps_weak ps_retN fun D σ H ⟨G, σd, S, r, sl, p⟩ => p .non H G Stp.rfl' r .non
theorem ss_if (ht : SB X W c ga) (ha : SSs X W as sa) (hb : SSs X W bs sb) : SS X W (.If c as bs pos) (sIf ga sa sb) := by
  refine ps_weak (ps_if ht ha hb) fun D σ H ⟨G, σd, S, r, sl, p⟩ => ?_
  refine ⟨G, σd, S, r, sl, (outB p).mono fun x H1 ⟨G1, S1, s1, r1, q⟩ => ?_⟩
  cases x with
  | true => rw [if_pos rfl] at q ⊢; exact ⟨G1, σd, S1, r1, sl.mono s1.le, q⟩
  | false => rw [if_neg Bool.false_ne_true] at q ⊢; exact ⟨G1, σd, S1, r1, sl.mono s1.le, q⟩
theorem ss_expr (he : SE X W e fa) (hs : swapsWith e none pos.line X.env = pure false := by rfl) : SS X W (.Expr e pos) (sDrop fa) := by
  refine ps_weak (ps_expr he hs) fun D σ H ⟨G, σd, S, r, sl, p⟩ => ?_
  exact ⟨G, σd, S, r, sl, (outE p).mono fun x H1 ⟨G1, d, S1, s1, r1, dv, q⟩ => q σ H1 G1 Stp.rfl' r1 (sl.mono s1.le)⟩

/-! ### targets -/
abbrev GF := D → Stt → Option Stt
abbrev GFs := List D → Stt → Option Stt
section
variable (K : PySem.W.Frag) (mg : Str → Option Value)
/-- R: how the slots may change -/
def tG (R : St → St → Prop) (g : GF) : TG := fun v σ H Q => ∃ G S d σd σd', Rel K mg G S H ∧ Slots K mg G σd σ ∧ Dq K mg G v d ∧ g d σd = some σd' ∧ ∀ σ', Slots K mg G σd' σ' → R σ σ' → Q σ' H
def tGs (R : St → St → Prop) (g : GFs) : TGs := fun v σ H Q => ∃ G S d σd σd', Rel K mg G S H ∧ Slots K mg G σd σ ∧ DqA K mg G v d ∧ g d σd = some σd' ∧ ∀ σ', Slots K mg G σd' σ' → R σ σ' → Q σ' H
end
structure RR (R : St → St → Prop) : Prop where
  rfl : ∀ σ, R σ σ
  trans : ∀ σ σ1 σ2, R σ σ1 → R σ1 σ2 → R σ σ2
def RT : St → St → Prop := fun _ _ => True
theorem rrT : RR RT := ⟨fun _ => True.intro, fun _ _ _ _ _ => True.intro⟩
def RW (vs : List Nat) : St → St → Prop := fun σ σ' => wipe σ' vs = wipe σ vs
theorem rrW (vs : List Nat) : RR (RW vs) := ⟨fun _ => rfl, fun _ _ _ h1 h2 => h2.trans h1⟩
theorem wipe_set {i : Nat} {x : Option V} : ∀ {vs : List Nat} (σ : St), i ∈ vs → wipe (σ.set i x) vs = wipe σ vs
  | v :: vs, σ, h => by
    unfold wipe
    by_cases e : i ∈ vs
    · rw [wipe_set σ e]
    · have hv : i = v := by
        rcases List.mem_cons.mp h with h | h
        · exact h
        · exact absurd h e
      subst hv
      have go : ∀ (ws : List Nat), i ∉ ws → wipe (σ.set i x) ws = (wipe σ ws).set i x := by
        intro ws
        induction ws with
        | nil => intro _; rfl
        | cons w ws ih =>
          intro hn
          unfold wipe
          rw [ih (fun z => hn (List.mem_cons_of_mem _ z)), List.set_comm _ _ (fun z => hn (by rw [z]; exact List.mem_cons_self))]
      rw [go vs e, List.set_set]
abbrev SGR (X : Cx) (R : St → St → Prop) (tg : Expr) (g : GF) : Prop := PG X tg (tG X.K X.mg R g)
abbrev SGRs (X : Cx) (R : St → St → Prop) (tg : List Expr) (g : GFs) : Prop := PGs X tg (tGs X.K X.mg R g)
abbrev SG (X : Cx) (tg : Expr) (g : GF) : Prop := SGR X RT tg g
abbrev SGs (X : Cx) (tg : List Expr) (g : GFs) : Prop := SGRs X RT tg g
theorem pg_weak {tg : Expr} {t t' : TG} (h : PG X tg t) (w : ∀ v σ H Q, t' v σ H Q → t v σ H Q) : PG X tg t' := ⟨fun pins s σ H v u Q I r q => h.run pins s σ H v u Q I r (w v σ H Q q)⟩
theorem pgs_weak {tg : List Expr} {t t' : TGs} (h : PGs X tg t) (w : ∀ v σ H Q, t' v σ H Q → t v σ H Q) : PGs X tg t' := ⟨fun pins s σ H v u Q I r q => h.run pins s σ H v u Q I r (w v σ H Q q)⟩
def gN (i : Nat) : GF := fun d σ => some (σ.set i (some d))
def gsNil : GFs := fun d σ => match d with
  | [] => some σ
  | _ => none
def gsCons (g : GF) (r : GFs) : GFs := fun d σ => match d with
  | x :: xs => (g x σ).bind (r xs)
  | [] => none
def gT (n : Nat) (g : GFs) : GF := fun d σ => match d with
  | .tup l => if l.length = n then g l σ else none
  | _ => none
theorem sg_name {R : St → St → Prop} {i : Nat} (h : PG X e (gName i)) (hR : ∀ σ v, R σ (σ.set i (some v))) : SGR X R e (gN i) := by
  refine pg_weak h fun v σ H Q ⟨G, S, d, σd, σd', r, sl, dv, q, k⟩ => ?_
  cases q
  exact k _ (sl.set i dv) (hR σ v)
theorem sgs_nil {R : St → St → Prop} (hR : RR R) : SGRs X R [] gsNil := by
  refine pgs_weak pgs_nil fun v σ H Q ⟨G, S, d, σd, σd', r, sl, dv, q, k⟩ => ?_
  cases dv with
  | nil => cases q; exact ⟨rfl, k _ sl (hR.rfl σ)⟩
  | cons _ _ => cases q
theorem sgs_cons {R : St → St → Prop} (hR : RR R) {g : GF} {gr : GFs} (h1 : SGR X R e g) (h2 : SGRs X R es gr) (hs : (assignEach (e :: es) X.env).map (·.2) = assign e X.env :: (assignEach es X.env).map (·.2) := by rfl) : SGRs X R (e :: es) (gsCons g gr) := by
  refine pgs_weak (pgs_cons h1 h2 hs) fun v σ H Q ⟨G, S, d, σd, σd', r, sl, dv, q, k⟩ => ?_
  cases dv with
  | nil => cases q
  | @cons v d vs ds h1 h2 =>
    unfold gsCons at q
    have q : (g d σd).bind (gr ds) = some σd' := q
    cases e1 : g d σd with
    | none => rw [e1] at q; cases q
    | some σ1 =>
      rw [e1] at q
      exact ⟨v, vs, rfl, G, S, d, σd, σ1, r, sl, h1, e1, fun σ' sl' hr => ⟨G, S, ds, σ1, σd', r, sl', h2, q, fun σ2 sl2 hr2 => k σ2 sl2 (hR.trans _ _ _ hr hr2)⟩⟩
theorem sg_tup {R : St → St → Prop} {g : GFs} {k n : Nat} (hc : X.calm = true) (h : SGRs X R es g) (hn : (assignEach es X.env).length = n := by rfl) (hst : (assignEach es X.env).findIdx? (·.1) = none := by rfl) : SGR X R (.Tuple es k pos) (gT n g) := by
  refine pg_weak (pg_tup hc h hn hst) fun v σ H Q ⟨G, S, d, σd, σd', r, sl, dv, q, k⟩ => ?_
  cases dv with
  | @tup a xs ds h1 h2 =>
    have q : (if ds.length = n then g ds σd else none) = some σd' := q
    split at q
    · rename_i hl
      exact ⟨a, xs, rfl, r.tup h1, by rw [h2.length]; exact hl, G, S, ds, σd, σd', r, sl, h2, q, k⟩
    · cases q
  | _ => cases q
def sAsg (f : EF) (g : GF) : SF := fun σ S => (f σ S).out σ fun d S1 => match g d σ with
  | some σ' => .nx σ' S1
  | none => .bad
theorem asg_step {g : GF} {D : Ends} {σ : St} {H : Hp} (q : tS X.K X.mg W (sAsg fa g) D σ H) : tAsg (tE X.K X.mg W fa) (tG X.K X.mg RT g) D σ H := by
  obtain ⟨G, σd, S, r, sl, p⟩ := q
  refine ⟨G, σd, S, r, sl, (outE p).mono fun x H1 ⟨G1, d, S1, s1, r1, dv, q⟩ => ?_⟩
  cases e1 : g d σd with
  | none => rw [e1] at q; exact q.elim
  | some σ' =>
    rw [e1] at q
    exact ⟨G1, S1, d, σd, σ', r1, sl.mono s1.le, dv, e1, fun σ2 sl2 _ => q σ2 H1 G1 Stp.rfl' r1 sl2⟩
theorem ss_asg {tg : Expr} {g : GF} (he : SE X W e fa) (hg : SG X tg g) (hs : swapsWithSole [tg] e pos.line X.env = pure false := by rfl) (hw : swappedStores [tg] e X.env = pure none := by rfl)
    (h1 : (assignEach [tg] X.env).map (·.2) = [assign tg X.env] := by rfl) : SS X W (.Assign [tg] e pos) (sAsg fa g) :=
  ps_weak (ps_asg he hg hs hw h1) fun D σ H q => asg_step q
/-- x = e: h is ps_set's -/
theorem ss_set {i : Nat} {tg : Expr} (h : PS X (.Assign [tg] e pos) (tAsg (tE X.K X.mg W fa) (gName i))) : SS X W (.Assign [tg] e pos) (sAsg fa (gN i)) := by
  refine ps_weak h fun D σ H ⟨G, σd, S, r, sl, p⟩ => ?_
  refine ⟨G, σd, S, r, sl, (outE p).mono fun x H1 ⟨G1, d, S1, s1, r1, dv, q⟩ => ?_⟩
  exact q _ H1 G1 Stp.rfl' r1 ((sl.mono s1.le).set i dv)
/-- a, b = e1, e2 (stored from the right, no tuple) -/
def sPar (i j : Nat) (f : AF) : SF := fun σ S => (f σ S).out σ fun ds S1 => match ds with
  | [x, y] => .nx ((σ.set i (some x)).set j (some y)) S1
  | _ => .bad
theorem ss_par {i j : Nat} {f : AF} (h : PS X st (tPar i j (tA X.K X.mg W f))) : SS X W st (sPar i j f) := by
  refine ps_weak h fun D σ H ⟨G, σd, S, r, sl, p⟩ => ?_
  refine ⟨G, σd, S, r, sl, (outA p).mono fun xs H1 ⟨G1, ds, S1, s1, r1, dv, q⟩ => ?_⟩
  cases dv with
  | nil => exact q.elim
  | cons h1 t1 =>
    cases t1 with
    | nil => exact q.elim
    | cons h2 t2 =>
      cases t2 with
      | nil => exact ⟨_, _, rfl, q _ H1 G1 Stp.rfl' r1 (((sl.mono s1.le).set i h1).set j h2)⟩
      | cons _ _ => exact q.elim

/-! ### lists of the store change -/
theorem put_ref {K : PySem.W.Frag} {mg : Str → Option Value} {G : Gh} {S : Sto} {H : Hp} (r : Rel K mg G S H) {n : Nat} {p : Addr} {l l' : List D} {xs : List V} (hn : S[n]? = some (some l)) (hp : G.α[n]? = some p) (ha : DqA K mg G xs l') (hH : ∃ ys, H p = some (.lst ys)) (hF : G.F p = none) :
    Stp G H G (upd H p (.lst xs)) ∧ Rel K mg G (S.set n (some l')) (upd H p (.lst xs)) := by
  have hlt : n < S.length := (List.getElem?_eq_some_iff.mp hn).1
  obtain ⟨ys, hH⟩ := hH
  have s : Stp G H G (upd H p (.lst xs)) := by
    refine ⟨fun _ _ h => h, rfl, ⟨[], (List.append_nil _).symm, fun _ h => nomatch h⟩, fun a u h _ na => ?_, fun a u h => .inl h⟩
    · rw [upd_ne (fun z => na (by rw [z]; exact List.mem_of_getElem? hp))]; exact h
  refine ⟨s, fun a u h => ?_, r.fn, by rw [List.length_set]; exact r.len, r.nd, fun a h => ?_, fun k m e => ?_, tabs_keep r.tabs (TK.at hH (fun _ z => nomatch z) (fun _ z => nomatch z)), r.tt⟩
  · rw [upd_ne (fun z => by rw [z, hF] at h; cases h)]; exact r.sub a u h
  · by_cases e : a = p
    · rw [e, upd_same]; exact ⟨_, rfl, fun _ z => nomatch z⟩
    · rw [upd_ne e]; exact r.th a h
  · by_cases hk : n = k
    · subst hk
      rw [List.getElem?_set_self hlt] at e
      cases e
      exact ⟨p, xs, hp, upd_same, ha, hF⟩
    · rw [List.getElem?_set_ne hk] at e
      obtain ⟨a, vs, h1, h2, h3, h4⟩ := r.st k m e
      have na : a ≠ p := fun z => by
        subst z
        obtain ⟨l1, e1⟩ := List.getElem?_eq_some_iff.mp hp
        obtain ⟨l2, e2⟩ := List.getElem?_eq_some_iff.mp h1
        exact hk ((List.getElem_inj r.nd).mp (e1.trans e2.symm))
      exact ⟨a, vs, h1, by rw [upd_ne na]; exact h2, h3, h4⟩
/-- xs.append(e), xs of the store -/
def sApp (f g : EF) : SF := fun σ S => (f σ S).out σ fun x S1 => match x with
  | .ref n => (match S1[n]? with
    | some (some _) => (g σ S1).out σ fun d S2 => (match S2[n]? with
      | some (some l) => if l.length < LINE then .nx σ (S2.set n (some (l ++ [d]))) else .bad
      | _ => .bad)
    | _ => .bad)
  | _ => .bad
theorem ss_app {o : Expr} {p1 p2 : Pos} (ho : SE X W o fa) (he : SE X W e fb) (hbase : attributeBase o "append" X.env (eval o X.env) = eval o X.env := by rfl)
    (hfew : ((backTo p2 (starEach (e :: []) X.env)).all (fun x => !x.1) && (backToKw p2 (keywordEach [] X.env)).all (fun x => x.1.isSome)
      && decide ((e :: []).length + ([] : List Keyword).length + (if ([] : List Keyword).isEmpty then 0 else 1) < 30)) = true := by rfl)
    (hline : (p1.endLine == p2.line) = true := by rfl) (hst : starEach (e :: []) X.env = (false, eval e X.env) :: starEach [] X.env := by rfl) (hplain : (backTo p2 (starEach [] X.env)).any (·.1) = false := by rfl)
    (hs : swapsWith (.Call (.Attribute o "append" p1) [e] [] p2) none pos.line X.env = pure false := by rfl) : SS X W (.Expr (.Call (.Attribute o "append" p1) [e] [] p2) pos) (sApp fa fb) := by
  refine ps_weak (ps_expr (pe_bm PySem.F.plainAttrs_list PySem.F.slot_list_append PySem.F.type_list_append mt_append ho (pa_cons he pa_nil hst) hbase hfew hline hst hplain) hs) fun D σ H ⟨G, σd, S, r, sl, p⟩ => ?_
  refine ⟨G, σd, S, r, sl, (outE p).mono fun x H1 ⟨G1, d1, S1, s1, r1, dv1, q⟩ => ?_⟩
  cases dv1 with
  | @ref a n hn =>
    have q : PostS X.K X.mg W G1 H1 (match S1[n]? with
      | some (some _) => (fb σd S1).out σd fun d S2 => (match S2[n]? with
        | some (some l) => if l.length < LINE then .nx σd (S2.set n (some (l ++ [d]))) else .bad
        | _ => .bad)
      | _ => .bad) D := q
    split at q
    · rename_i l0 hl0
      obtain ⟨a', vs0, h1, h2, h3, h4⟩ := r1.st n l0 hl0
      have ea : a = a' := by rw [hn] at h1; cases h1; rfl
      subst ea
      refine ⟨.inl ⟨rfl, _, SqL.of h2⟩, G1, σd, S1, r1, sl.mono s1.le, (outE q).mono fun y H2 ⟨G2, d2, S2, s2, r2, dv2, q2⟩ => ?_⟩
      split at q2
      · rename_i l hl
        split at q2
        · rename_i hz
          obtain ⟨a2, vs, k1, k2, k3, k4⟩ := r2.st n l hl
          have ea : a = a2 := by rw [s2.le.at hn] at k1; cases k1; rfl
          subst ea
          refine ⟨a, vs, y, rfl, rfl, k2, by rw [k3.length, sizeLine_eq]; exact hz, ?_⟩
          obtain ⟨s3, r3⟩ := put_ref r2 hl k1 (k3.append (.cons dv2 .nil)) ⟨_, k2⟩ k4
          exact q2 σ _ G2 s3 r3 ((sl.mono s1.le).mono s2.le)
        · exact q2.elim
      · exact q2.elim
    · exact q.elim
  | _ => exact q.elim
/-- xs[i] = e, xs of the store: e first -/
def sSub (f g h : EF) : SF := fun σ S => (h σ S).out σ fun d S1 => (f σ S1).out σ fun x S2 => (g σ S2).out σ fun i S3 => match x, i with
  | .ref n, .int k => (match S3[n]? with
    | some (some l) => (match ixN l.length k with
      | some j => .nx σ (S3.set n (some (l.set j d)))
      | none => .bad)
    | _ => .bad)
  | _, _ => .bad
theorem ss_sub {o i : Expr} {p1 : Pos} (ho : SE X W o fa) (hi : SE X W i fb) (he : SE X W e fc) (hg : PE X o (tE X.K X.mg W fa) → PE X i (tE X.K X.mg W fb) → PG X (.Subscript o i p1) (gSub (tE X.K X.mg W fa) (tE X.K X.mg W fb) rSetL))
    (hs : swapsWithSole [(.Subscript o i p1 : Expr)] e pos.line X.env = pure false := by rfl) (hw : swappedStores [(.Subscript o i p1 : Expr)] e X.env = pure none := by rfl)
    (h1 : (assignEach [(.Subscript o i p1 : Expr)] X.env).map (·.2) = [assign (.Subscript o i p1) X.env] := by rfl) : SS X W (.Assign [.Subscript o i p1] e pos) (sSub fa fb fc) := by
  refine ps_weak (ps_asg he (hg ho hi) hs hw h1) fun D σ H ⟨G, σd, S, r, sl, p⟩ => ?_
  refine ⟨G, σd, S, r, sl, (outE p).mono fun x H1 ⟨G1, d1, S1, s1, r1, dv1, q⟩ => ?_⟩
  refine ⟨G1, σd, S1, r1, sl.mono s1.le, (outE q).mono fun y H2 ⟨G2, d2, S2, s2, r2, dv2, q2⟩ => ?_⟩
  refine ⟨G2, σd, S2, r2, (sl.mono s1.le).mono s2.le, (outE q2).mono fun z H3 ⟨G3, d3, S3, s3, r3, dv3, q3⟩ => ?_⟩
  have dv2' := dv2.mono s3.le
  cases dv2' with
  | @ref a n hn =>
    cases dv3 with
    | int k =>
      have q3 : PostS X.K X.mg W G3 H3 (match S3[n]? with
        | some (some l) => (match ixN l.length k with
          | some j => .nx σd (S3.set n (some (l.set j d1)))
          | none => .bad)
        | _ => .bad) D := q3
      split at q3
      · rename_i l hl
        split at q3
        · rename_i j hj
          obtain ⟨a2, vs, k1, k2, k3, k4⟩ := r3.st n l hl
          have ea : a = a2 := by rw [hn] at k1; cases k1; rfl
          subst ea
          refine ⟨a, vs, k, j, rfl, rfl, k2, by rw [k3.length]; exact hj, ?_⟩
          obtain ⟨s4, r4⟩ := put_ref r3 hl k1 (k3.set ((dv1.mono s2.le).mono s3.le) j) ⟨_, k2⟩ k4
          exact q3 σ _ G3 s4 r4 (((sl.mono s1.le).mono s2.le).mono s3.le)
        · exact q3.elim
      · exact q3.elim
    | _ => exact q3.elim
  | _ => exact q3.elim

/-! ### a list of the store is frozen -/
def frz (i : Nat) (σ : Stt) (S : Sto) : Stt × Sto := match σ[i]? with
  | some (some (.ref n)) => (match S[n]? with
    | some (some l) => (σ.set i (some (.lst l)), S.set n none)
    | _ => (σ, S))
  | _ => (σ, S)
def sFrz (i : Nat) (f : SF) : SF := fun σ S => f (frz i σ S).1 (frz i σ S).2
theorem frz_ok {K : PySem.W.Frag} {mg : Str → Option Value} {G : Gh} {S : Sto} {H : Hp} {σd : Stt} {σ : St} (i : Nat) (r : Rel K mg G S H) (sl : Slots K mg G σd σ) :
    ∃ G', Stp G H G' H ∧ Rel K mg G' (frz i σd S).2 H ∧ Slots K mg G' (frz i σd S).1 σ := by
  unfold frz
  split
  · rename_i n hi
    split
    · rename_i l hl
      obtain ⟨a, vs, h1, h2, h3, h4⟩ := r.st n l hl
      have hlt : n < S.length := (List.getElem?_eq_some_iff.mp hl).1
      have s : Stp G H { G with F := upd G.F a (.lst vs) } H := by
        refine ⟨fun b o h => ?_, rfl, ⟨[], (List.append_nil _).symm, fun _ h => nomatch h⟩, fun _ _ h _ _ => h, fun b o h => ?_⟩
        · show upd G.F a (.lst vs) b = some o
          rw [upd_ne (fun z => by rw [z, h4] at h; cases h)]; exact h
        · have h : upd G.F a (.lst vs) b = some o := h
          by_cases e : b = a
          · exact .inr (.inr (.inl (by rw [e]; exact List.mem_of_getElem? h1)))
          · rw [upd_ne e] at h; exact .inl h
      refine ⟨_, s, ⟨fun b o h => ?_, fun b o h => ?_, by rw [List.length_set]; exact r.len, r.nd, r.th, fun k m e => ?_, r.tabs, r.tt⟩, ?_⟩
      · have h : upd G.F a (.lst vs) b = some o := h
        by_cases e : b = a
        · rw [e, upd_same] at h; rw [e, h2]; exact h
        · rw [upd_ne e] at h; exact r.sub b o h
      · have h : upd G.F a (.lst vs) b = some o := h
        by_cases e : b = a
        · rw [e, upd_same] at h; cases h; exact fun _ z => nomatch z
        · rw [upd_ne e] at h; exact r.fn b o h
      · by_cases hk : n = k
        · subst hk
          rw [List.getElem?_set_self hlt] at e; cases e
        · rw [List.getElem?_set_ne hk] at e
          obtain ⟨b, ws, k1, k2, k3, k4⟩ := r.st k m e
          have nb : b ≠ a := fun z => by
            subst z
            obtain ⟨l1, e1⟩ := List.getElem?_eq_some_iff.mp h1
            obtain ⟨l2, e2⟩ := List.getElem?_eq_some_iff.mp k1
            exact hk ((List.getElem_inj r.nd).mp (e1.trans e2.symm))
          refine ⟨b, ws, k1, k2, k3.mono s.le, ?_⟩
          show upd G.F a (.lst vs) b = none
          rw [upd_ne nb]; exact k4
      · obtain ⟨v, hv, dv⟩ := sl.2 i _ hi
        have sl' := (sl.mono s.le)
        refine ⟨by rw [List.length_set]; exact sl.1, fun j e q => ?_⟩
        by_cases hj : i = j
        · subst hj
          rw [List.getElem?_set_self (List.getElem?_eq_some_iff.mp hi).1] at q
          cases q
          cases dv with
          | @ref a' _ hn =>
            have ea : a' = a := by rw [hn] at h1; cases h1; rfl
            subst ea
            exact ⟨_, hv, .lst upd_same (h3.mono s.le)⟩
        · rw [List.getElem?_set_ne hj] at q
          exact sl'.2 j e q
    · exact ⟨G, Stp.rfl', r, sl⟩
  · exact ⟨G, Stp.rfl', r, sl⟩
theorem ss_frz (i : Nat) (h : SS X W st sa) : SS X W st (sFrz i sa) := by
  refine ps_weak h fun D σ H ⟨G, σd, S, r, sl, p⟩ => ?_
  obtain ⟨G', s', r', sl'⟩ := frz_ok i r sl
  exact ⟨G', _, _, r', sl', PostS.pre s' p⟩
theorem sss_frz (i : Nat) (h : SSs X W sts sa) : SSs X W sts (sFrz i sa) := by
  refine pss_weak h fun D σ H ⟨G, σd, S, r, sl, p⟩ => ?_
  obtain ⟨G', s', r', sl'⟩ := frz_ok i r sl
  exact ⟨G', _, _, r', sl', PostS.pre s' p⟩

/-! ### while -/
def sWhile (t : BF) (b : SF) : Nat → SF
  | 0 => fun _ _ => .bad
  | n + 1 => fun σ S => (t σ S).out σ fun k S1 => if k = true then (match b σ S1 with
    | .nx σ2 S2 => sWhile t b n σ2 S2
    | .ct σ2 S2 => sWhile t b n σ2 S2
    | .bk σ2 S2 => .nx σ2 S2
    | .rt d S2 => .rt d S2
    | .exc σ2 c fs S2 => .exc σ2 c fs S2
    | .bad => .bad) else .nx σ S1
/-- n: how many turns at most, told of the state ahead of the loop -/
def sWh (t : BF) (b : SF) (n : Stt → Sto → Nat) : SF := fun σ S => sWhile t b (n σ S) σ S
theorem ss_while {n : Stt → Sto → Nat} (hp : PassesOwn (model X.prog X.w) X.A X.env X.xe) (ht : SB X W c ga) (hb : SSs X W as sa) : SS X W (.While c as [] pos) (sWh ga sa n) := by
  refine ps_weak (ps_while hp ht hb) fun D σ H ⟨G, σd, S, r, sl, p⟩ => ?_
  refine ⟨fun m σ1 H1 => ∃ G σd S, Rel X.K X.mg G S H1 ∧ Slots X.K X.mg G σd σ1 ∧ PostS X.K X.mg W G H1 (sWhile ga sa m σd S) D, ⟨_, G, σd, S, r, sl, p⟩, ?_⟩
  rintro m σ1 H1 ⟨G1, σd1, S1, r1, sl1, p1⟩
  cases m with
  | zero => exact p1.elim
  | succ m =>
    refine ⟨G1, σd1, S1, r1, sl1, (outB p1).mono fun k H2 ⟨G2, S2, s2, r2, q⟩ => ?_⟩
    cases k with
    | false =>
      rw [if_neg Bool.false_ne_true] at q ⊢
      exact q σ1 H2 G2 Stp.rfl' r2 (sl1.mono s2.le)
    | true =>
      rw [if_pos rfl] at q ⊢
      refine ⟨fun σ' H' => ∃ G σd S, Rel X.K X.mg G S H' ∧ Slots X.K X.mg G σd σ' ∧ PostS X.K X.mg W G H' (sWhile ga sa m σd S) D, fun σ' H' h => ⟨m, Nat.lt_succ_self m, h⟩, ?_⟩
      refine ⟨G2, σd1, S2, r2, sl1.mono s2.le, ?_⟩
      cases e : sa σd1 S2 with
      | nx σ2 S3 => rw [e] at q; exact fun σ' H' G' s' r' sl' => ⟨G', σ2, S3, r', sl', PostS.pre s' q⟩
      | ct σ2 S3 => rw [e] at q; exact fun σ' H' G' s' r' sl' => ⟨G', σ2, S3, r', sl', PostS.pre s' q⟩
      | bk σ2 S3 => rw [e] at q; exact q
      | rt d S3 => rw [e] at q; exact q
      | exc σ2 c fs S3 => rw [e] at q; exact q
      | bad => rw [e] at q; exact q

/-! ### what is walked -/
/-- the iterator J gives the items ds one by one -/
def ItOk (K : PySem.W.Frag) (mg : Str → Option Value) (G : Gh) (J : It) (ds : List D) : Prop :=
  ∀ G' H' S', G.le G' → Rel K mg G' S' H' → ∀ i : Nat, (i < ds.length → J.go i H' ∧ ∀ x H2, J.yld i H' x H2 → ∃ G2, Stp G' H' G2 H2 ∧ Rel K mg G2 S' H2 ∧ ∃ d, ds[i]? = some d ∧ Dq K mg G2 x d) ∧ (ds.length ≤ i → J.stop i H')
theorem ItOk.mono {K : PySem.W.Frag} {mg : Str → Option Value} {G G' : Gh} {J : It} {ds : List D} (h : ItOk K mg G J ds) (x : G.le G') : ItOk K mg G' J ds := fun G2 H2 S2 y r i => h G2 H2 S2 (x.trans y) r i
def PostI (K : PySem.W.Frag) (mg : Str → Option Value) (W : WX) (G : Gh) (H : Hp) (σd : Stt) (r : Res (List D)) (R : It → Hp → Prop) : Prop := match r with
  | .ok ds S' => ∀ J H' G', Stp G H G' H' → Rel K mg G' S' H' → ItOk K mg G' J ds → R J H'
  | .exc c fs S' => PostX K mg W G H σd c fs S'
  | .bad => False
def tI (K : PySem.W.Frag) (mg : Str → Option Value) (W : WX) (f : AF) : TI := fun σ H R => ∃ G σd S, Rel K mg G S H ∧ Slots K mg G σd σ ∧ PostI K mg W G H σd (f σd S) R
abbrev SI (X : Cx) (W : WX) (tg e : Expr) (f : AF) : Prop := PI X tg e (tI X.K X.mg W f)
theorem pi_weak {tg : Expr} {t t' : TI} (h : PI X tg e t) (w : ∀ σ H Q, t' σ H Q → t σ H Q) : PI X tg e t' := ⟨fun pins s σ H Q I q => h.run pins s σ H Q I (w σ H Q q)⟩
theorem it_list {K : PySem.W.Frag} {mg : Str → Option Value} {G : Gh} {a : Addr} {xs : List V} {ds : List D} (h : SqL K G.F a xs) (q : DqA K mg G xs ds) : ItOk K mg G (Itl K a) ds := by
  intro G' H' S' x r i
  have h' : SqL K H' a xs := r.lst (sqL_mono x.f h)
  refine ⟨fun hi => ?_, fun hi => ⟨xs, h', by rw [q.length]; exact hi⟩⟩
  have hi' : i < xs.length := by rw [q.length]; exact hi
  refine ⟨⟨xs, xs[i], h', by simp [hi']⟩, fun y H2 ⟨e, k⟩ => ?_⟩
  subst e
  obtain ⟨d, e1, e2⟩ := (q.mono x).getV (k xs h')
  exact ⟨G', Stp.rfl', r, d, e1, e2⟩
theorem it_tup {K : PySem.W.Frag} {mg : Str → Option Value} {G : Gh} {a : Addr} {xs : List V} {ds : List D} (h : SqT K G.F a xs) (q : DqA K mg G xs ds) : ItOk K mg G (Itt K a) ds := by
  intro G' H' S' x r i
  have h' : SqT K H' a xs := r.tup (sqT_mono x.f h)
  refine ⟨fun hi => ?_, fun hi => ⟨xs, h', by rw [q.length]; exact hi⟩⟩
  have hi' : i < xs.length := by rw [q.length]; exact hi
  refine ⟨⟨xs, xs[i], h', by simp [hi']⟩, fun y H2 ⟨e, k⟩ => ?_⟩
  subst e
  obtain ⟨d, e1, e2⟩ := (q.mono x).getV (k xs h')
  exact ⟨G', Stp.rfl', r, d, e1, e2⟩
def rngD (lo : Int) (n : Nat) : List D := (List.range n).map fun (i : Nat) => D.int (lo + (i : Int))
theorem it_rng {K : PySem.W.Frag} {mg : Str → Option Value} {G : Gh} {lo : Int} {n : Nat} : ItOk K mg G (Itr lo n) (rngD lo n) := by
  intro G' H' S' x r i
  have hl : (rngD lo n).length = n := by simp [rngD]
  rw [hl]
  refine ⟨fun hi => ⟨hi, fun y H2 ⟨e, k⟩ => ?_⟩, fun hi => hi⟩
  subst e
  subst k
  exact ⟨G', Stp.rfl', r, .int (lo + i), by simp [rngD, hi], .int _⟩
/-- a list, a tuple, which the source tells (tup: it is a tuple) -/
def iL (f : EF) : AF := fun σ S => (f σ S).bind fun d S1 => match d with
  | .lst l => .ok l S1
  | .scr l => .ok l S1
  | _ => .bad
def iT (f : EF) : AF := fun σ S => (f σ S).bind fun d S1 => match d with
  | .tup l => .ok l S1
  | _ => .bad
theorem bindI {K : PySem.W.Frag} {mg : Str → Option Value} {W : WX} {G : Gh} {H : Hp} {σd : Stt} {r : Res D} {g : D → Sto → Res (List D)} {R : It → Hp → Prop} (p : PostI K mg W G H σd (r.bind g) R) :
    PostE K mg W G H σd r fun x H1 => ∃ G1 d S1, Stp G H G1 H1 ∧ Rel K mg G1 S1 H1 ∧ Dq K mg G1 x d ∧ PostI K mg W G1 H1 σd (g d S1) R := by
  cases r with
  | bad => exact p
  | exc c fs S' => exact p
  | ok d S1 =>
    intro v H1 G1 s1 r1 dv
    refine ⟨G1, d, S1, s1, r1, dv, ?_⟩
    have p : PostI K mg W G H σd (g d S1) R := p
    cases e : g d S1 with
    | ok ds S' => rw [e] at p; exact fun J H' G' s' => p J H' G' (s1.trans s')
    | exc c fs S' => rw [e] at p; exact PostX.pre s1 p
    | bad => rw [e] at p; exact p
theorem si_list {tg : Expr} (h : SE X W e fa) : SI X W tg e (iL fa) := by
  refine pi_weak (pi_list h) fun σ H R ⟨G, σd, S, r, sl, p⟩ => ?_
  refine ⟨G, σd, S, r, sl, (bindI p).mono fun x H1 ⟨G1, d, S1, s1, r1, dv, q⟩ => ?_⟩
  cases dv with
  | lst h1 h2 => exact ⟨_, rfl, ⟨_, SqL.of (r1.sub _ _ h1)⟩, q _ H1 G1 Stp.rfl' r1 (it_list (SqL.of h1) h2)⟩
  | scr h1 h2 => exact ⟨_, rfl, ⟨_, r1.lst h1⟩, q _ H1 G1 Stp.rfl' r1 (it_list h1 h2)⟩
  | _ => exact q.elim
theorem si_tup {tg : Expr} (h : SE X W e fa) : SI X W tg e (iT fa) := by
  refine pi_weak (pi_tup h) fun σ H R ⟨G, σd, S, r, sl, p⟩ => ?_
  refine ⟨G, σd, S, r, sl, (bindI p).mono fun x H1 ⟨G1, d, S1, s1, r1, dv, q⟩ => ?_⟩
  cases dv with
  | tup h1 h2 => exact ⟨_, rfl, ⟨_, r1.tup h1⟩, q _ H1 G1 Stp.rfl' r1 (it_tup h1 h2)⟩
  | _ => exact q.elim
def iR1 (f : AF) : AF := fun σ S => (f σ S).bind fun ds S1 => match ds with
  | [.int j] => if -(2 ^ 62) ≤ j ∧ j < 2 ^ 62 then .ok (rngD 0 j.toNat) S1 else .bad
  | _ => .bad
def iR2 (f : AF) : AF := fun σ S => (f σ S).bind fun ds S1 => match ds with
  | [.int i, .int j] => if -(2 ^ 62) ≤ i ∧ i < 2 ^ 62 ∧ -(2 ^ 62) ≤ j ∧ j < 2 ^ 62 then .ok (rngD i (j - i).toNat) S1 else .bad
  | _ => .bad
theorem bindAI {K : PySem.W.Frag} {mg : Str → Option Value} {W : WX} {G : Gh} {H : Hp} {σd : Stt} {r : Res (List D)} {g : List D → Sto → Res (List D)} {R : It → Hp → Prop} (p : PostI K mg W G H σd (r.bind g) R) :
    PostA K mg W G H σd r fun x H1 => ∃ G1 d S1, Stp G H G1 H1 ∧ Rel K mg G1 S1 H1 ∧ DqA K mg G1 x d ∧ PostI K mg W G1 H1 σd (g d S1) R := by
  cases r with
  | bad => exact p
  | exc c fs S' => exact p
  | ok d S1 =>
    intro v H1 G1 s1 r1 dv
    refine ⟨G1, d, S1, s1, r1, dv, ?_⟩
    have p : PostI K mg W G H σd (g d S1) R := p
    cases e : g d S1 with
    | ok ds S' => rw [e] at p; exact fun J H' G' s' => p J H' G' (s1.trans s')
    | exc c fs S' => rw [e] at p; exact PostX.pre s1 p
    | bad => rw [e] at p; exact p
theorem si_r1 {tg : Expr} {f : AF} (h : PI X tg e (iRng1 (tA X.K X.mg W f))) : SI X W tg e (iR1 f) := by
  refine pi_weak h fun σ H R ⟨G, σd, S, r, sl, p⟩ => ?_
  refine ⟨G, σd, S, r, sl, (bindAI p).mono fun xs H1 ⟨G1, ds, S1, s1, r1, dv, q⟩ => ?_⟩
  split at q
  · rename_i j
    split at q
    · rename_i hj
      cases dv with
      | cons h1 h2 =>
        cases h1; cases h2
        exact ⟨_, rfl, hj.1, hj.2, q _ H1 G1 Stp.rfl' r1 it_rng⟩
    · exact q.elim
  · exact q.elim
theorem si_r2 {tg : Expr} {f : AF} (h : PI X tg e (iRng2 (tA X.K X.mg W f))) : SI X W tg e (iR2 f) := by
  refine pi_weak h fun σ H R ⟨G, σd, S, r, sl, p⟩ => ?_
  refine ⟨G, σd, S, r, sl, (bindAI p).mono fun xs H1 ⟨G1, ds, S1, s1, r1, dv, q⟩ => ?_⟩
  split at q
  · rename_i i j
    split at q
    · rename_i hj
      cases dv with
      | cons h1 h2 =>
        cases h1
        cases h2 with
        | cons h3 h4 =>
          cases h3; cases h4
          exact ⟨_, _, rfl, hj, q _ H1 G1 Stp.rfl' r1 it_rng⟩
    · exact q.elim
  · exact q.elim

/-! ### for -/
def forF (g : GF) (b : SF) : List D → SF
  | [] => fun σ S => .nx σ S
  | d :: ds => fun σ S => match g d σ with
    | none => .bad
    | some σ1 => (match b σ1 S with
      | .nx σ2 S2 => forF g b ds σ2 S2
      | .ct σ2 S2 => forF g b ds σ2 S2
      | .bk σ2 S2 => .nx σ2 S2
      | .rt d S2 => .rt d S2
      | .exc σ2 c fs S2 => .exc σ2 c fs S2
      | .bad => .bad)
def sFor (f : AF) (g : GF) (b : SF) : SF := fun σ S => (f σ S).out σ fun ds S1 => forF g b ds σ S1
theorem outI {K : PySem.W.Frag} {mg : Str → Option Value} {W : WX} {G : Gh} {H : Hp} {σd : Stt} {r : Res (List D)} {g : List D → Sto → Out} {Dn : Ends} {R : It → Hp → Prop} (p : PostS K mg W G H (r.out σd g) Dn)
    (h : ∀ J H1 G1 ds S1, Stp G H G1 H1 → Rel K mg G1 S1 H1 → ItOk K mg G1 J ds → PostS K mg W G1 H1 (g ds S1) Dn → R J H1) : PostI K mg W G H σd r R := by
  cases r with
  | bad => exact p
  | exc c fs S' => exact p
  | ok d S1 => exact fun J H1 G1 s1 r1 it => h J H1 G1 d S1 s1 r1 it (PostS.pre s1 p)
theorem ss_for {tg : Expr} {f : AF} {g : GF} (hp : PassesOwn (model X.prog X.w) X.A X.env X.xe) (hc : X.calm = true) (hi : SI X W tg e f) (hg : SG X tg g) (hb : SSs X W as sa)
    (hs : ∀ x, foldedSetIterable e X.env x = pure x := by intro _; rfl) : SS X W (.For tg e as [] pos) (sFor f g sa) := by
  refine ps_weak (ps_for hp hc hi hg hb hs) fun D σ H ⟨G, σd, S, r, sl, p⟩ => ?_
  refine ⟨G, σd, S, r, sl, outI p fun J H1 G1 ds S1 s1 r1 it q => ?_⟩
  refine ⟨fun i m σ' H' => ∃ G' σd' S', G1.le G' ∧ m = ds.length - i ∧ Rel X.K X.mg G' S' H' ∧ Slots X.K X.mg G' σd' σ' ∧ PostS X.K X.mg W G' H' (forF g sa (ds.drop i) σd' S') D,
    ⟨_, G1, σd, S1, Gh.le.rfl', rfl, r1, sl.mono s1.le, by rw [List.drop_zero]; exact q⟩, ?_⟩
  rintro i m σ' H' ⟨G', σd', S', le, rfl, r', sl', p'⟩
  obtain ⟨hgo, hstop⟩ := it G' H' S' le r' i
  by_cases hi : i < ds.length
  · obtain ⟨go, yld⟩ := hgo hi
    refine .inr ⟨go, fun σ2 H2 => ∃ G2 σd2 S2, G1.le G2 ∧ Rel X.K X.mg G2 S2 H2 ∧ Slots X.K X.mg G2 σd2 σ2 ∧ PostS X.K X.mg W G2 H2 (forF g sa (ds.drop (i + 1)) σd2 S2) D, fun σ2 H2 ⟨G2, σd2, S2, a1, a2, a3, a4⟩ => ⟨ds.length - (i + 1), by omega, G2, σd2, S2, a1, rfl, a2, a3, a4⟩, fun x H2 y => ?_⟩
    obtain ⟨G2, s2, r2, d, hd, dv⟩ := yld x H2 y
    have hdrop : ds.drop i = d :: ds.drop (i + 1) := by
      rw [List.drop_eq_getElem_cons hi]
      have := List.getElem?_eq_some_iff.mp hd
      obtain ⟨_, e⟩ := this
      rw [e]
    rw [hdrop] at p'
    have p' : PostS X.K X.mg W G' H' (match g d σd' with
      | none => .bad
      | some σ1 => (match sa σ1 S' with
        | .nx σ2 S2 => forF g sa (ds.drop (i + 1)) σ2 S2
        | .ct σ2 S2 => forF g sa (ds.drop (i + 1)) σ2 S2
        | .bk σ2 S2 => .nx σ2 S2
        | .rt d S2 => .rt d S2
        | .exc σ2 c fs S2 => .exc σ2 c fs S2
        | .bad => .bad)) D := p'
    cases eg : g d σd' with
    | none => rw [eg] at p'; exact p'.elim
    | some σ1 =>
      rw [eg] at p'
      refine ⟨G2, S', d, σd', σ1, r2, sl'.mono s2.le, dv, eg, fun σ3 sl3 _ => ?_⟩
      refine ⟨G2, σ1, S', r2, sl3, ?_⟩
      have p2 := PostS.pre s2 p'
      have le2 := le.trans s2.le
      cases e : sa σ1 S' with
      | nx σ2 S3 => simp only [e] at p2; exact fun σ4 H4 G4 s4 r4 sl4 => ⟨G4, σ2, S3, le2.trans s4.le, r4, sl4, PostS.pre s4 p2⟩
      | ct σ2 S3 => simp only [e] at p2; exact fun σ4 H4 G4 s4 r4 sl4 => ⟨G4, σ2, S3, le2.trans s4.le, r4, sl4, PostS.pre s4 p2⟩
      | bk σ2 S3 => simp only [e] at p2; exact p2
      | rt d S3 => simp only [e] at p2; exact p2
      | exc σ2 c fs S3 => simp only [e] at p2; exact p2
      | bad => simp only [e] at p2; exact p2
  · refine .inl ⟨hstop (by omega), ?_⟩
    rw [List.drop_eq_nil_of_le (by omega)] at p'
    exact p' σ' H' G' Stp.rfl' r' sl'
end
end PF
/-! PF: list comprehensions. -/
namespace PF
open PySem PySem.Spec PyProof.Rows L2
/-- in a comprehension's block nothing is raised -/
abbrev W0 : WX := fun _ _ _ _ => False
section
variable {X : Cx} {W : WX}
def wipeD (σ : Stt) : List Nat → Stt
  | [] => σ
  | v :: vs => (wipeD σ vs).set v none
theorem Slots.wipe {K : PySem.W.Frag} {mg : Str → Option Value} {G : Gh} {σd : Stt} {σ : St} (h : Slots K mg G σd σ) : ∀ vs : List Nat, Slots K mg G (wipeD σd vs) (wipe σ vs)
  | [] => h
  | v :: vs => by
    unfold wipeD L2.wipe
    exact (Slots.wipe h vs).none v
theorem wipe_wipe (σ : St) : ∀ vs : List Nat, wipe (wipe σ vs) vs = wipe σ vs := fun vs => by
  have go : ∀ (us : List Nat), (∀ u ∈ us, u ∈ vs) → wipe (wipe σ us) vs = wipe σ vs := by
    intro us
    induction us with
    | nil => intro _; rfl
    | cons u us ih =>
      intro h
      show wipe ((wipe σ us).set u none) vs = wipe σ vs
      rw [wipe_set _ (h u List.mem_cons_self)]
      exact ih fun w hw => h w (List.mem_cons_of_mem _ hw)
  exact go vs fun _ h => h
/-- the items of a comprehension -/
def compF (g : GF) (t : BF) (e : EF) : List D → AF
  | [] => fun _ S => .ok [] S
  | d :: ds => fun σ S => match g d σ with
    | none => .bad
    | some σ1 => (match t σ1 S with
      | .ok true S1 => (match e σ1 S1 with
        | .ok y S2 => (match compF g t e ds σ S2 with
          | .ok ys S3 => .ok (y :: ys) S3
          | _ => .bad)
        | _ => .bad)
      | .ok false S1 => compF g t e ds σ S1
      | _ => .bad)
def fComp (vs : List Nat) (f : AF) (g : GF) (t : BF) (e : EF) : EF := fun σ S => (f σ S).bind fun ds S1 => match compF g t e ds (wipeD σ vs) S1 with
  | .ok ys S2 => if ys.length ≤ LINE then .ok (.lst ys) S2 else .bad
  | _ => .bad
/-- what is wanted behind the rest: the list so far is acc -/
def CompW (K : PySem.W.Frag) (mg : Str → Option Value) (G : Gh) (H : Hp) (acc : List D) (r : Res (List D)) (Q : VK) : Prop := match r with
  | .ok ys S2 => acc.length + ys.length ≤ LINE ∧ ∀ H' G' a, Stp G H G' H' → Rel K mg G' S2 H' → Dq K mg G' (.ref a) (.lst (acc ++ ys)) → Q (.ref a) H'
  | _ => False
def bTrue : BF := fun _ S => .ok true S
theorem sts_nil : PTs X [] (tB X.K X.mg W bTrue) := ⟨fun pins s σ H Q I ⟨G, σd, S, r, sl, p⟩ => pts_nil.run pins s σ H Q I (p H G Stp.rfl' r)⟩
theorem sts_one {c : Expr} {t : BF} (h : SB X W c t) : PTs X [c] (tB X.K X.mg W t) := pts_one h
theorem comp_read {vs : List Nat} {f : AF} {g : GF} {t : BF} {e : EF} {σ : St} {H : Hp} {Q : VK} (q : tE X.K X.mg W (fComp vs f g t e) σ H Q) :
    tLc (tI X.K X.mg W f) (tG X.K X.mg (RW vs) g) (tB X.K X.mg W0 t) (tE X.K X.mg W0 e) vs σ H Q := by
  obtain ⟨G, σd, S, r, sl, p⟩ := q
  have p : PostE X.K X.mg W G H σd ((f σd S).bind fun ds S1 => match compF g t e ds (wipeD σd vs) S1 with
    | .ok ys S2 => if ys.length ≤ LINE then .ok (.lst ys) S2 else .bad
    | _ => .bad) Q := p
  refine ⟨G, σd, S, r, sl, ?_⟩
  cases ef : f σd S with
  | bad => rw [ef] at p; exact p
  | exc c fs S' => rw [ef] at p; exact p
  | ok ds S1 =>
    rw [ef] at p
    intro J H1 G1 s1 r1 it Dl hD
    have p1 := PostE.pre s1 (show PostE X.K X.mg W G H σd (match compF g t e ds (wipeD σd vs) S1 with
      | .ok ys S2 => if ys.length ≤ LINE then .ok (.lst ys) S2 else .bad
      | _ => .bad) Q from p)
    -- the new list is tracked, not yet frozen
    have nF : G1.F Dl = none := by
      cases q : G1.F Dl with
      | none => rfl
      | some u => rw [r1.sub Dl u q] at hD; cases hD
    have nα : Dl ∉ G1.α := fun h => by
      obtain ⟨u, e, _⟩ := r1.th Dl h
      rw [e] at hD; cases hD
    have stD : ∀ {G2 : Gh} {H2 : Hp} {o : HO}, Stp G1 H1 G2 H2 → Stp G1 H1 G2 (upd H2 Dl o) := fun {G2 H2 o} s2 => by
      refine ⟨s2.f, s2.t, s2.a, fun a u h nt na => ?_, s2.nf⟩
      · rw [upd_ne (ne_of_none h hD)]; exact s2.fr a u h nt na
    have reD : ∀ {G2 : Gh} {S2 : Sto} {H2 : Hp} {xs : List V}, Rel X.K X.mg G2 S2 H2 → G2.F Dl = none → Dl ∉ G2.α → (∀ o, H2 Dl = some o → ∃ ys, o = .lst ys) → Rel X.K X.mg G2 S2 (upd H2 Dl (.lst xs)) := fun {G2 S2 H2 xs} r2 a1 a2 a3 => by
      refine ⟨fun a u h => ?_, r2.fn, r2.len, r2.nd, fun a h => ?_, fun k l q => ?_, tabs_keep r2.tabs ?_, r2.tt⟩
      · rw [upd_ne (fun z => by rw [z, a1] at h; cases h)]; exact r2.sub a u h
      · rw [upd_ne (fun z => a2 (by rw [← z]; exact h))]; exact r2.th a h
      · obtain ⟨a, vs, k1, k2, k3, k4⟩ := r2.st k l q
        exact ⟨a, vs, k1, by rw [upd_ne (fun z => a2 (by rw [← z]; exact List.mem_of_getElem? k1))]; exact k2, k3, k4⟩
      · cases q : H2 Dl with
        | none => exact TK.new q
        | some u =>
          obtain ⟨ys, z⟩ := a3 u q
          subst z
          exact TK.at q (fun _ z => nomatch z) (fun _ z => nomatch z)
    have w0 : CompW X.K X.mg G1 H1 [] (compF g t e ds (wipeD σd vs) S1) Q := by
      cases ec : compF g t e ds (wipeD σd vs) S1 with
      | bad => rw [ec] at p1; exact p1
      | exc c fs S' => rw [ec] at p1; exact p1.elim
      | ok ys S2 =>
        rw [ec] at p1
        have p1 : PostE X.K X.mg W G1 H1 σd (if ys.length ≤ LINE then .ok (.lst ys) S2 else .bad) Q := p1
        split at p1
        · rename_i hz
          exact ⟨by simpa using hz, fun H' G' a s' r' d' => p1 (.ref a) H' G' s' r' d'⟩
        · exact p1.elim
    refine ⟨fun i m H' => ∃ G' S' acc xs, Stp G1 H1 G' H' ∧ m = ds.length - i ∧ Rel X.K X.mg G' S' H' ∧ H' Dl = some (.lst xs) ∧ DqA X.K X.mg G' xs acc ∧ G'.F Dl = none ∧ Dl ∉ G'.α ∧ CompW X.K X.mg G1 H1 acc (compF g t e (ds.drop i) (wipeD σd vs) S') Q,
      ⟨_, G1, S1, [], [], stD Stp.rfl', rfl, reD r1 nF nα (fun o e => by rw [hD] at e; cases e), upd_same, .nil, nF, nα, by rw [List.drop_zero]; exact w0⟩, ?_⟩
    rintro i m H' ⟨G', S', acc, xs, sp, rfl, r', hL, ha, aF, aα, cw⟩
    have le := sp.le
    obtain ⟨hgo, hstop⟩ := it G' H' S' le r' i
    -- a step keeps the list
    have keepD : ∀ {G2 : Gh} {S2 : Sto} {H2 : Hp}, Stp G' H' G2 H2 → Rel X.K X.mg G2 S2 H2 → H2 Dl = some (.lst xs) ∧ G2.F Dl = none ∧ Dl ∉ G2.α := fun {G2 S2 H2} s2 rr2 => by
      have hL2 := s2.fr _ _ hL (fun _ z => nomatch z) aα
      refine ⟨s2.fr _ _ hL (fun _ z => nomatch z) aα, ?_, fun h => ?_⟩
      · cases q : G2.F Dl with
        | none => rfl
        | some u =>
          rcases s2.nf Dl u q with z | z | z | ⟨φ, z⟩ | ⟨ys, z⟩
          · rw [aF] at z; cases z
          · exact absurd (fun _ z => nomatch z) (z _ hL)
          · exact absurd z aα
          · have q2 := rr2.sub _ _ q
            rw [hL2, z] at q2; cases q2
          · have q2 := rr2.sub _ _ q
            rw [hL2, z] at q2; cases q2
      · obtain ⟨tl, e1, e2⟩ := s2.a
        rw [e1] at h
        rcases List.mem_append.mp h with h | h
        · exact aα h
        · exact absurd (fun _ z => nomatch z) ((e2 Dl h).2 _ hL)
    by_cases hi : i < ds.length
    · obtain ⟨go, yld⟩ := hgo hi
      refine .inr ⟨go, fun H2 => ∃ G2 S2 acc2 xs2, Stp G1 H1 G2 H2 ∧ Rel X.K X.mg G2 S2 H2 ∧ H2 Dl = some (.lst xs2) ∧ DqA X.K X.mg G2 xs2 acc2 ∧ G2.F Dl = none ∧ Dl ∉ G2.α ∧ CompW X.K X.mg G1 H1 acc2 (compF g t e (ds.drop (i + 1)) (wipeD σd vs) S2) Q,
        fun H2 ⟨G2, S2, acc2, xs2, a1, a2, a3, a4, a5, a6, a7⟩ => ⟨ds.length - (i + 1), by omega, G2, S2, acc2, xs2, a1, rfl, a2, a3, a4, a5, a6, a7⟩, fun x H2 y => ?_⟩
      obtain ⟨G2, s2, r2, d, hd, dv⟩ := yld x H2 y
      have hdrop : ds.drop i = d :: ds.drop (i + 1) := by
        rw [List.drop_eq_getElem_cons hi]
        obtain ⟨_, q⟩ := List.getElem?_eq_some_iff.mp hd
        rw [q]
      rw [hdrop] at cw
      have slw : Slots X.K X.mg G2 (wipeD σd vs) (wipe σ vs) := (sl.mono ((s1.le.trans le).trans s2.le)).wipe _
      have cw : CompW X.K X.mg G1 H1 acc (match g d (wipeD σd vs) with
        | none => .bad
        | some σ1 => (match t σ1 S' with
          | .ok true S1 => (match e σ1 S1 with
            | .ok y S2 => (match compF g t e (ds.drop (i + 1)) (wipeD σd vs) S2 with
              | .ok ys S3 => .ok (y :: ys) S3
              | _ => .bad)
            | _ => .bad)
          | .ok false S1 => compF g t e (ds.drop (i + 1)) (wipeD σd vs) S1
          | _ => .bad)) Q := cw
      cases eg : g d (wipeD σd vs) with
      | none => rw [eg] at cw; exact cw.elim
      | some σ1 =>
        rw [eg] at cw
        have hww : wipe (wipe σ vs) vs = wipe σ vs := wipe_wipe σ _
        refine ⟨G2, S', d, _, σ1, r2, slw, dv, eg, fun σ2 sl2 hw => ⟨(show wipe σ2 vs = wipe (wipe σ vs) vs from hw).trans hww, ?_⟩⟩
        refine ⟨G2, σ1, S', r2, sl2, ?_⟩
        cases et : t σ1 S' with
        | bad => simp only [et] at cw; exact cw.elim
        | exc c fs S2 => simp only [et] at cw; exact cw.elim
        | ok b S2 =>
          simp only [et] at cw
          intro H3 G3 s3 r3
          have s23 := s2.trans s3
          obtain ⟨k1, k2, k3⟩ := keepD s23 r3
          have sp3 := sp.trans s23
          cases b with
          | false =>
            rw [if_neg Bool.false_ne_true]
            exact ⟨G3, S2, acc, xs, sp3, r3, k1, ha.mono s23.le, k2, k3, cw⟩
          | true =>
            rw [if_pos rfl]
            refine ⟨G3, σ1, S2, r3, sl2.mono s3.le, ?_⟩
            cases ee : e σ1 S2 with
            | bad => simp only [ee] at cw; exact cw.elim
            | exc c fs S3 => simp only [ee] at cw; exact cw.elim
            | ok yd S3 =>
              simp only [ee] at cw
              intro yv H4 G4 s4 r4 dy
              have s24 := s23.trans s4
              obtain ⟨k1, k2, k3⟩ := keepD s24 r4
              cases ec : compF g t e (ds.drop (i + 1)) (wipeD σd vs) S3 with
              | bad => simp only [ec] at cw; exact cw.elim
              | exc c fs S5 => simp only [ec] at cw; exact cw.elim
              | ok ys S5 =>
                simp only [ec] at cw
                obtain ⟨c1, c2⟩ := cw
                have hz : acc.length + (ys.length + 1) ≤ LINE := by simpa using c1
                have hz2 : acc.length < LINE := by omega
                refine ⟨xs, k1, by rw [ha.length, sizeLine_eq]; exact hz2, G4, S3, acc ++ [yd], xs ++ [yv], stD (sp.trans s24), reD r4 k2 k3 (fun o e => by rw [k1] at e; cases e; exact ⟨_, rfl⟩), upd_same, (ha.mono s24.le).append (.cons dy .nil), k2, k3, ?_⟩
                rw [ec]
                refine ⟨by rw [List.length_append, List.length_singleton]; omega, fun H6 G6 a s6 r6 d6 => c2 H6 G6 a s6 r6 (by rw [List.append_assoc] at d6; exact d6)⟩
    · refine .inl ⟨hstop (by omega), ?_⟩
      rw [List.drop_eq_nil_of_le (by omega)] at cw
      obtain ⟨c1, c2⟩ := cw
      have s9 : Stp G1 H1 { G' with F := upd G'.F Dl (.lst xs) } H' := by
        refine ⟨fun b o h => ?_, sp.t, sp.a, sp.fr, fun b o h => ?_⟩
        · show upd G'.F Dl (.lst xs) b = some o
          rw [upd_ne (fun z => by rw [z, nF] at h; cases h)]; exact sp.f b o h
        · have h : upd G'.F Dl (.lst xs) b = some o := h
          by_cases q : b = Dl
          · exact .inr (.inl (by rw [q, hD]; exact fun _ z => nomatch z))
          · rw [upd_ne q] at h; exact sp.nf b o h
      have lef : G'.le { G' with F := upd G'.F Dl (.lst xs) } := ⟨fun b o h => by
        show upd G'.F Dl (.lst xs) b = some o
        rw [upd_ne (fun z => by rw [z, aF] at h; cases h)]; exact h, ⟨[], (List.append_nil _).symm⟩, rfl⟩
      refine c2 H' _ Dl s9 ⟨fun b o h => ?_, fun b o h => ?_, r'.len, r'.nd, r'.th, fun k l q => ?_, r'.tabs, r'.tt⟩ (.lst upd_same (by rw [List.append_nil]; exact ha.mono lef))
      · have h : upd G'.F Dl (.lst xs) b = some o := h
        by_cases q : b = Dl
        · rw [q, upd_same] at h; rw [q, hL]; exact h
        · rw [upd_ne q] at h; exact r'.sub b o h
      · have h : upd G'.F Dl (.lst xs) b = some o := h
        by_cases q : b = Dl
        · rw [q, upd_same] at h; cases h; exact fun _ z => nomatch z
        · rw [upd_ne q] at h; exact r'.fn b o h
      · obtain ⟨a, vs, k1, k2, k3, k4⟩ := r'.st k l q
        refine ⟨a, vs, k1, k2, k3.mono lef, ?_⟩
        show upd G'.F Dl (.lst xs) a = none
        rw [upd_ne (fun z => aα (by rw [← z]; exact List.mem_of_getElem? k1))]; exact k4
theorem se_comp {elt tg iter : Expr} {ifs : List Expr} {scope : Scope} {own : List (Str × Nat)} {pos : Pos} {f : AF} {g : GF} {t : BF} {e : EF} (hc : X.calm = true) (hN : X.N.Nodup) (hi : SI X W tg iter f) (ok : BlkOk X.N X.env.scope scope own)
    (hg : ∀ (s : Shared) (H : Hp) (C : Addr) (cl : List (Str × Addr)) (fp : List Addr), PG (X.blk s H scope (compEnvC scope cl C X.env) fp) tg (tG X.K X.mg (RW (own.map (·.2))) g))
    (ht : ∀ (s : Shared) (H : Hp) (C : Addr) (cl : List (Str × Addr)) (fp : List Addr), PTs (X.blk s H scope (compEnvC scope cl C X.env) fp) ifs (tB X.K X.mg W0 t))
    (he : ∀ (s : Shared) (H : Hp) (C : Addr) (cl : List (Str × Addr)) (fp : List Addr), PE (X.blk s H scope (compEnvC scope cl C X.env) fp) elt (tE X.K X.mg W0 e))
    (hs : ∀ x, foldedSetIterable iter X.env x = pure x := by intro _; rfl) : SE X W (.ListComp elt [⟨tg, iter, ifs, 0⟩] scope pos) (fComp (own.map (·.2)) f g t e) := by
  exact pe_weak (pe_lc hc hN hi ok hg ht he hs) fun σ H Q q => comp_read q
/-- y = [..] on one line -/
theorem ss_setLc {i : Nat} {y : Str} {py : Pos} {elt tg iter : Expr} {ifs : List Expr} {scope : Scope} {own : List (Str × Nat)} {pos spos : Pos} {f : AF} {g : GF} {t : BF} {e : EF} (hc : X.calm = true) (hN : X.N.Nodup) (hy : X.N[i]? = some y) (hyl : X.env.scope.names.lookup y = some .local)
    (hsw : swapsWith (.ListComp elt [⟨tg, iter, ifs, 0⟩] scope pos) (some (.Name y py)) spos.line X.env = pure true) (hi : SI X W tg iter f) (ok : BlkOk X.N X.env.scope scope own)
    (hg : ∀ (s : Shared) (H : Hp) (C : Addr) (cl : List (Str × Addr)) (fp : List Addr), PG (X.blk s H scope (compEnvC scope cl C X.env) fp) tg (tG X.K X.mg (RW (own.map (·.2))) g))
    (ht : ∀ (s : Shared) (H : Hp) (C : Addr) (cl : List (Str × Addr)) (fp : List Addr), PTs (X.blk s H scope (compEnvC scope cl C X.env) fp) ifs (tB X.K X.mg W0 t))
    (he : ∀ (s : Shared) (H : Hp) (C : Addr) (cl : List (Str × Addr)) (fp : List Addr), PE (X.blk s H scope (compEnvC scope cl C X.env) fp) elt (tE X.K X.mg W0 e))
    (hs : ∀ x, foldedSetIterable iter X.env x = pure x := by intro _; rfl) : SS X W (.Assign [.Name y py] (.ListComp elt [⟨tg, iter, ifs, 0⟩] scope pos) spos) (sAsg (fComp (own.map (·.2)) f g t e) (gN i)) := by
  refine ps_weak (ps_setLc hc hN hy hyl hsw hi ok hg ht he hs) fun D σ H ⟨G, σd, S, r, sl, p⟩ => ?_
  refine comp_read ⟨G, σd, S, r, sl, (outE p).mono fun x H1 ⟨G1, d, S1, s1, r1, dv, q⟩ => ?_⟩
  exact q _ H1 G1 Stp.rfl' r1 ((sl.mono s1.le).set i dv)
end
end PF
/-! PF: calls: built-ins, own defs, def bodies. -/
namespace PF
open PySem PySem.Spec PyProof.Rows L2

/-! ### built-ins by values -/
abbrev HB := List D → Sto → Option (D × Sto)
def rB (K : PySem.W.Frag) (mg : Str → Option Value) (h : HB) : List V → Hp → VK → Prop := fun vs H Q => ∃ G S ds d S', Rel K mg G S H ∧ DqA K mg G vs ds ∧ h ds S = some (d, S') ∧ ∀ v H' G', Stp G H G' H' → Rel K mg G' S' H' → Dq K mg G' v d → Q v H'
def fB (h : HB) (f : AF) : EF := fun σ S => (f σ S).bind fun ds S1 => match h ds S1 with
  | some (d, S2) => .ok d S2
  | none => .bad
theorem stepB {K : PySem.W.Frag} {mg : Str → Option Value} {W : WX} {f : AF} {h : HB} {σ : St} {H : Hp} {Q : VK} (q : tE K mg W (fB h f) σ H Q) : tA K mg W f σ H fun vs H1 => rB K mg h vs H1 Q := by
  obtain ⟨G, σd, S, r, sl, p⟩ := q
  refine ⟨G, σd, S, r, sl, (bindAE p).mono fun xs H1 ⟨G1, ds, S1, s1, r1, dv, q⟩ => ?_⟩
  cases e : h ds S1 with
  | none => rw [e] at q; exact q.elim
  | some x => rw [e] at q; exact ⟨G1, S1, ds, x.1, x.2, r1, dv, e, q⟩
theorem callr_weak {X : Cx} {f : Value} {r r' : List V → Hp → VK → Prop} (h : CallR X f r) (w : ∀ xs H Q, r' xs H Q → r xs H Q) : CallR X f r' := fun pins s σ H xs us Q I rs q => h pins s σ H xs us Q I rs (w xs H Q q)
section
variable {X : Cx} {W : WX} {e : Expr} {es : List Expr} {x : Str} {p pos : Pos} {f : AF} {h : HB} {id T : String}
theorem se_cb (hc : CallR X (.builtin id) (rB X.K X.mg h)) (hg : Gl X x) (hm : X.mg x = none) (hv : bootBuiltins x = some (.builtin id)) (ha : SA X W (e :: es) f) (hn : x ≠ "__name__" := by decide) (hdb : (x == ("__debug__" : Str)) = false := by decide)
    (he : starEach (e :: es) X.env = (false, eval e X.env) :: starEach es X.env := by rfl) (hpl : (backTo pos (starEach es X.env)).any (·.1) = false := by rfl) : SE X W (.Call (.Name x p) (e :: es) [] pos) (fB h f) :=
  pe_weak (pe_callB hc hg hm hv ha hn hdb he hpl) fun _ _ _ q => stepB q
theorem se_ct (hc : CallR X (.type T) (rB X.K X.mg h)) (hg : Gl X x) (hm : X.mg x = none) (hv : bootBuiltins x = some (.type T)) (ha : SA X W (e :: es) f) (hn : x ≠ "__name__" := by decide) (hdb : (x == ("__debug__" : Str)) = false := by decide)
    (he : starEach (e :: es) X.env = (false, eval e X.env) :: starEach es X.env := by rfl) (hpl : (backTo pos (starEach es X.env)).any (·.1) = false := by rfl) : SE X W (.Call (.Name x p) (e :: es) [] pos) (fB h f) :=
  pe_weak (pe_callTy hc hg hm hv ha hn hdb he hpl) fun _ _ _ q => stepB q

def lenD : HB
  | [.str y], S => if y.length ≤ LINE then some (.int y.length, S) else none
  | [.tup l], S => some (.int l.length, S)
  | [.lst l], S => some (.int l.length, S)
  | [.scr l], S => some (.int l.length, S)
  | [.ref n], S => match S[n]? with
    | some (some l) => some (.int l.length, S)
    | _ => none
  | _, _ => none
theorem one_inv {K : PySem.W.Frag} {mg : Str → Option Value} {G : Gh} {xs : List V} {d : D} (h : DqA K mg G xs [d]) : ∃ v, xs = [v] ∧ Dq K mg G v d := by
  cases h with
  | cons h1 h2 => cases h2; exact ⟨_, rfl, h1⟩
theorem two_inv {K : PySem.W.Frag} {mg : Str → Option Value} {G : Gh} {xs : List V} {d e : D} (h : DqA K mg G xs [d, e]) : ∃ v u, xs = [v, u] ∧ Dq K mg G v d ∧ Dq K mg G u e := by
  cases h with
  | cons h1 h2 =>
    obtain ⟨u, rfl, h3⟩ := one_inv h2
    exact ⟨_, _, rfl, h1, h3⟩
theorem ref_at {K : PySem.W.Frag} {mg : Str → Option Value} {G : Gh} {S : Sto} {H : Hp} {a : Addr} {n : Nat} {l : List D} (r : Rel K mg G S H) (hn : G.α[n]? = some a) (hl : S[n]? = some (some l)) : ∃ vs, H a = some (.lst vs) ∧ DqA K mg G vs l := by
  obtain ⟨a', vs, h1, h2, h3, _⟩ := r.st n l hl
  rw [hn] at h1
  cases h1
  exact ⟨vs, h2, h3⟩
theorem cb_len : CallR X (.builtin "len") (rB X.K X.mg lenD) := by
  refine callr_weak call_len fun xs H Q ⟨G, S, ds, d, S', r, ha, q, k⟩ => ?_
  unfold lenD at q
  split at q
  · split at q
    · rename_i hz
      cases q
      obtain ⟨v, rfl, hv⟩ := one_inv ha
      cases hv
      exact ⟨_, _, rfl, ⟨by rw [sizeLine_eq]; exact hz, rfl⟩, k _ H G Stp.rfl' r (.int _)⟩
    · cases q
  · cases q
    obtain ⟨v, rfl, hv⟩ := one_inv ha
    cases hv with
    | tup h1 h2 => exact ⟨_, _, rfl, .inr ⟨_, r.tup h1, h2.length.symm⟩, k _ H G Stp.rfl' r (.int _)⟩
  · cases q
    obtain ⟨v, rfl, hv⟩ := one_inv ha
    cases hv with
    | lst h1 h2 => exact ⟨_, _, rfl, .inl ⟨_, SqL.of (r.sub _ _ h1), h2.length.symm⟩, k _ H G Stp.rfl' r (.int _)⟩
  · cases q
    obtain ⟨v, rfl, hv⟩ := one_inv ha
    cases hv with
    | scr h1 h2 => exact ⟨_, _, rfl, .inl ⟨_, r.lst h1, h2.length.symm⟩, k _ H G Stp.rfl' r (.int _)⟩
  · split at q
    · rename_i l hl
      cases q
      obtain ⟨v, rfl, hv⟩ := one_inv ha
      cases hv with
      | ref hn =>
        obtain ⟨vs, h1, h2⟩ := ref_at r hn hl
        exact ⟨_, _, rfl, .inl ⟨_, SqL.of h1, h2.length.symm⟩, k _ H G Stp.rfl' r (.int _)⟩
    · cases q
  · cases q
def absD : HB
  | [.int i], S => some (.int (i.natAbs : Int), S)
  | _, _ => none
theorem cb_abs : CallR X (.builtin "abs") (rB X.K X.mg absD) := by
  refine callr_weak call_abs fun xs H Q ⟨G, S, ds, d, S', r, ha, q, k⟩ => ?_
  unfold absD at q
  split at q
  · rename_i i
    cases q
    obtain ⟨v, rfl, hv⟩ := one_inv ha
    cases hv
    have e : (if i < 0 then -i else i) = (i.natAbs : Int) := by split <;> omega
    exact ⟨i, rfl, by rw [e]; exact k _ H G Stp.rfl' r (.int _)⟩
  · cases q
def intD : HB
  | [.int i], S => some (.int i, S)
  | [.bl b], S => some (.int (if b = true then 1 else 0), S)
  | _, _ => none
theorem ct_int : CallR X (.type "int") (rB X.K X.mg intD) := by
  refine callr_weak call_int1 fun xs H Q ⟨G, S, ds, d, S', r, ha, q, k⟩ => ?_
  unfold intD at q
  split at q
  · cases q
    obtain ⟨v, rfl, hv⟩ := one_inv ha
    cases hv
    exact .inl ⟨_, rfl, k _ H G Stp.rfl' r (.int _)⟩
  · cases q
    obtain ⟨v, rfl, hv⟩ := one_inv ha
    cases hv
    exact .inr ⟨_, rfl, k _ H G Stp.rfl' r (.int _)⟩
  · cases q
def strD : HB
  | [.int i], S => if i.natAbs.log2 < 1920 then some (.str (toString i), S) else none
  | [.str y], S => some (.str y, S)
  | _, _ => none
theorem ct_str : CallR X (.type "str") (rB X.K X.mg strD) := by
  refine callr_weak (CallR.or call_str_int SkE.call_str_str) fun xs H Q ⟨G, S, ds, d, S', r, ha, q, k⟩ => ?_
  unfold strD at q
  split at q
  · split at q
    · rename_i hz
      cases q
      obtain ⟨v, rfl, hv⟩ := one_inv ha
      cases hv
      exact .inl ⟨_, rfl, hz, k _ H G Stp.rfl' r (.str _)⟩
    · cases q
  · cases q
    obtain ⟨v, rfl, hv⟩ := one_inv ha
    cases hv
    exact .inr ⟨_, rfl, k _ H G Stp.rfl' r (.str _)⟩
  · cases q
def intsD : List D → Option (List Int)
  | [] => some []
  | .int i :: r => (intsD r).map (i :: ·)
  | _ => none
def blsD : List D → Option (List Bool)
  | [] => some []
  | .bl i :: r => (blsD r).map (i :: ·)
  | _ => none
def strsD : List D → Option (List Str)
  | [] => some []
  | .str i :: r => (strsD r).map (i :: ·)
  | _ => none
theorem ints_ok {K : PySem.W.Frag} {mg : Str → Option Value} {G : Gh} : ∀ {ds : List D} {xs : List V} {ns : List Int}, DqA K mg G xs ds → intsD ds = some ns → xs = ns.map V.int
  | [], _, _, .nil, e => by cases e; rfl
  | .int i :: ds, _, ns, .cons h q, e => by
    unfold intsD at e
    cases e1 : intsD ds with
    | none => rw [e1] at e; cases e
    | some m =>
      rw [e1] at e
      cases e
      cases h
      rw [ints_ok q e1]; rfl
theorem bls_ok {K : PySem.W.Frag} {mg : Str → Option Value} {G : Gh} : ∀ {ds : List D} {xs : List V} {ns : List Bool}, DqA K mg G xs ds → blsD ds = some ns → xs = ns.map V.bl
  | [], _, _, .nil, e => by cases e; rfl
  | .bl i :: ds, _, ns, .cons h q, e => by
    unfold blsD at e
    cases e1 : blsD ds with
    | none => rw [e1] at e; cases e
    | some m =>
      rw [e1] at e
      cases e
      cases h
      rw [bls_ok q e1]; rfl
theorem strs_ok {K : PySem.W.Frag} {mg : Str → Option Value} {G : Gh} : ∀ {ds : List D} {xs : List V} {ns : List Str}, DqA K mg G xs ds → strsD ds = some ns → xs = ns.map V.str
  | [], _, _, .nil, e => by cases e; rfl
  | .str i :: ds, _, ns, .cons h q, e => by
    unfold strsD at e
    cases e1 : strsD ds with
    | none => rw [e1] at e; cases e
    | some m =>
      rw [e1] at e
      cases e
      cases h
      rw [strs_ok q e1]; rfl
/-- the items of a frozen list -/
def lItems : D → Option (List D)
  | .lst l => some l
  | .scr l => some l
  | _ => none
theorem lItems_ok {K : PySem.W.Frag} {mg : Str → Option Value} {G : Gh} {S : Sto} {H : Hp} {v : V} {d : D} {l : List D} (r : Rel K mg G S H) (h : Dq K mg G v d) (e : lItems d = some l) : ∃ a xs, v = .ref a ∧ SqL K H a xs ∧ DqA K mg G xs l := by
  cases h with
  | lst h1 h2 => cases e; exact ⟨_, _, rfl, SqL.of (r.sub _ _ h1), h2⟩
  | scr h1 h2 => cases e; exact ⟨_, _, rfl, r.lst h1, h2⟩
  | _ => cases e
def sumD : HB
  | [d], S => ((lItems d).bind intsD).map fun ns => (.int ns.sum, S)
  | _, _ => none
theorem bindO {α β : Type} {x : Option α} {f : α → Option β} {b : β} (h : x.bind f = some b) : ∃ a, x = some a ∧ f a = some b := by
  cases x with
  | none => cases h
  | some a => exact ⟨a, rfl, h⟩
theorem mapO {α β : Type} {x : Option α} {f : α → β} {b : β} (h : x.map f = some b) : ∃ a, x = some a ∧ f a = b := by
  cases x with
  | none => cases h
  | some a => cases h; exact ⟨a, rfl, rfl⟩
theorem cb_sum (hc : X.calm = true) : CallR X (.builtin "sum") (rB X.K X.mg sumD) := by
  refine callr_weak (cr_sum hc) fun xs H Q ⟨G, S, ds, d, S', r, ha, q, k⟩ => ?_
  unfold sumD at q
  split at q
  · obtain ⟨ns, e, q⟩ := mapO q
    cases q
    obtain ⟨l, e1, e2⟩ := bindO e
    obtain ⟨v, rfl, hv⟩ := one_inv ha
    obtain ⟨a, ys, rfl, h1, h2⟩ := lItems_ok r hv e1
    exact ⟨a, ns, rfl, by rw [← ints_ok h2 e2]; exact h1, k _ H G Stp.rfl' r (.int _)⟩
  · cases q
def maxD : HB
  | [.int i, .int j], S => some (.int (max i j), S)
  | [d], S => ((lItems d).bind intsD).bind fun ns => ns.max?.map fun m => (.int m, S)
  | _, _ => none
def minD : HB
  | [.int i, .int j], S => some (.int (min i j), S)
  | [d], S => ((lItems d).bind intsD).bind fun ns => ns.min?.map fun m => (.int m, S)
  | _, _ => none
theorem cb_max (hc : X.calm = true) : CallR X (.builtin "max") (rB X.K X.mg maxD) := by
  refine callr_weak (CallR.or (call_max2 hc) (cr_max hc)) fun xs H Q ⟨G, S, ds, d, S', r, ha, q, k⟩ => ?_
  unfold maxD at q
  split at q
  · rename_i i j
    cases q
    obtain ⟨v, u, rfl, hv, hu⟩ := two_inv ha
    cases hv; cases hu
    refine .inl ⟨i, j, rfl, ?_⟩
    have e : (if j > i then j else i) = max i j := by split <;> omega
    rw [e]
    exact k _ H G Stp.rfl' r (.int _)
  · obtain ⟨ns, e, q⟩ := bindO q
    obtain ⟨m, em, q⟩ := mapO q
    cases q
    obtain ⟨l, e1, e2⟩ := bindO e
    obtain ⟨v, rfl, hv⟩ := one_inv ha
    obtain ⟨a, ys, rfl, h1, h2⟩ := lItems_ok r hv e1
    refine .inr ⟨a, ns, rfl, by rw [← ints_ok h2 e2]; exact h1, ?_, fun m' hm hle => ?_⟩
    · cases ns with
      | nil => cases em
      | cons _ _ => exact Nat.succ_pos _
    · obtain ⟨hm1, hm2⟩ := List.max?_eq_some_iff.mp em
      have : m' = m := Int.le_antisymm (hm2 _ hm) (hle _ hm1)
      rw [this]
      exact k _ H G Stp.rfl' r (.int _)
  · cases q
theorem cb_min (hc : X.calm = true) : CallR X (.builtin "min") (rB X.K X.mg minD) := by
  refine callr_weak (CallR.or (call_min2 hc) (cr_min hc)) fun xs H Q ⟨G, S, ds, d, S', r, ha, q, k⟩ => ?_
  unfold minD at q
  split at q
  · rename_i i j
    cases q
    obtain ⟨v, u, rfl, hv, hu⟩ := two_inv ha
    cases hv; cases hu
    refine .inl ⟨i, j, rfl, ?_⟩
    have e : (if j < i then j else i) = min i j := by split <;> omega
    rw [e]
    exact k _ H G Stp.rfl' r (.int _)
  · obtain ⟨ns, e, q⟩ := bindO q
    obtain ⟨m, em, q⟩ := mapO q
    cases q
    obtain ⟨l, e1, e2⟩ := bindO e
    obtain ⟨v, rfl, hv⟩ := one_inv ha
    obtain ⟨a, ys, rfl, h1, h2⟩ := lItems_ok r hv e1
    refine .inr ⟨a, ns, rfl, by rw [← ints_ok h2 e2]; exact h1, ?_, fun m' hm hle => ?_⟩
    · cases ns with
      | nil => cases em
      | cons _ _ => exact Nat.succ_pos _
    · obtain ⟨hm1, hm2⟩ := List.min?_eq_some_iff.mp em
      have : m' = m := Int.le_antisymm (hle _ hm1) (hm2 _ hm)
      rw [this]
      exact k _ H G Stp.rfl' r (.int _)
  · cases q
def allD : HB
  | [d], S => ((lItems d).bind blsD).map fun ns => (.bl (ns.all fun b => b), S)
  | _, _ => none
def anyD : HB
  | [d], S => ((lItems d).bind blsD).map fun ns => (.bl (ns.any fun b => b), S)
  | _, _ => none
theorem cb_all (hc : X.calm = true) : CallR X (.builtin "all") (rB X.K X.mg allD) := by
  refine callr_weak (cr_all hc) fun xs H Q ⟨G, S, ds, d, S', r, ha, q, k⟩ => ?_
  unfold allD at q
  split at q
  · obtain ⟨ns, e, q⟩ := mapO q
    cases q
    obtain ⟨l, e1, e2⟩ := bindO e
    obtain ⟨v, rfl, hv⟩ := one_inv ha
    obtain ⟨a, ys, rfl, h1, h2⟩ := lItems_ok r hv e1
    exact ⟨a, ns, rfl, by rw [← bls_ok h2 e2]; exact h1, k _ H G Stp.rfl' r (.bl _)⟩
  · cases q
theorem cb_any (hc : X.calm = true) : CallR X (.builtin "any") (rB X.K X.mg anyD) := by
  refine callr_weak (cr_any hc) fun xs H Q ⟨G, S, ds, d, S', r, ha, q, k⟩ => ?_
  unfold anyD at q
  split at q
  · obtain ⟨ns, e, q⟩ := mapO q
    cases q
    obtain ⟨l, e1, e2⟩ := bindO e
    obtain ⟨v, rfl, hv⟩ := one_inv ha
    obtain ⟨a, ys, rfl, h1, h2⟩ := lItems_ok r hv e1
    exact ⟨a, ns, rfl, by rw [← bls_ok h2 e2]; exact h1, k _ H G Stp.rfl' r (.bl _)⟩
  · cases q
/-- sorted of at most one text -/
def sorted1D : HB
  | [d], S => (lItems d).bind fun l => (strsD l).bind fun ns => if ns.length ≤ 1 then some (.lst l, S) else none
  | _, _ => none
theorem cb_sorted1 : CallR X (.builtin "sorted") (rB X.K X.mg sorted1D) := by
  refine callr_weak cr_sortedS fun xs H Q ⟨G, S, ds, d, S', r, ha, q, k⟩ => ?_
  unfold sorted1D at q
  split at q
  · obtain ⟨l, e1, q⟩ := bindO q
    obtain ⟨ns, e2, q⟩ := bindO q
    split at q
    · rename_i hz
      cases q
      obtain ⟨v, rfl, hv⟩ := one_inv ha
      obtain ⟨a, ys, rfl, h1, h2⟩ := lItems_ok r hv e1
      have ey := strs_ok h2 e2
      refine ⟨a, ns, rfl, by rw [← ey]; exact h1, by omega, fun zs p hp _ hn => ?_⟩
      have ez : zs = ns := by
        match ns, hz, hp with
        | [], _, hp => exact List.perm_nil.mp hp
        | [z], _, hp => exact List.perm_singleton.mp hp
      subst ez
      rw [← ey]
      obtain ⟨G', s', r', d'⟩ := new_lst r hn h2
      exact k _ _ G' s' r' d'
    · cases q
  · cases q
/-- list(x), never changed -/
def listD : HB
  | [.tup l], S => some (.lst l, S)
  | [.lst l], S => some (.lst l, S)
  | [.scr l], S => some (.lst l, S)
  | [.ref n], S => match S[n]? with
    | some (some l) => some (.lst l, S)
    | _ => none
  | _, _ => none
/-- the items of a list, a tuple -/
def qItems (S : Sto) : D → Option (List D)
  | .tup l => some l
  | .lst l => some l
  | .scr l => some l
  | .ref n => match S[n]? with
    | some (some l) => some l
    | _ => none
  | _ => none
theorem qItems_ok {K : PySem.W.Frag} {mg : Str → Option Value} {G : Gh} {S : Sto} {H : Hp} {v : V} {d : D} {l : List D} (r : Rel K mg G S H) (h : Dq K mg G v d) (e : qItems S d = some l) :
    ∃ a xs, v = .ref a ∧ (SqL K H a xs ∨ (SqT K H a xs ∧ d = .tup l)) ∧ DqA K mg G xs l := by
  cases h with
  | tup h1 h2 => cases e; exact ⟨_, _, rfl, .inr ⟨r.tup h1, rfl⟩, h2⟩
  | lst h1 h2 => cases e; exact ⟨_, _, rfl, .inl (SqL.of (r.sub _ _ h1)), h2⟩
  | scr h1 h2 => cases e; exact ⟨_, _, rfl, .inl (r.lst h1), h2⟩
  | @ref a n hn =>
    have e : (match S[n]? with
      | some (some l) => some l
      | _ => none) = some l := e
    split at e
    · rename_i l' hl
      cases e
      obtain ⟨vs, h1, h2⟩ := ref_at r hn hl
      exact ⟨_, _, rfl, .inl (SqL.of h1), h2⟩
    · cases e
  | _ => cases e
def listQ : HB
  | [d], S => (qItems S d).map fun l => (.lst l, S)
  | _, _ => none
def listN : HB
  | [d], S => (qItems S d).map fun l => (.ref S.length, S ++ [some l])
  | _, _ => none
def tupleQ : HB
  | [d], S => (qItems S d).map fun l => (.tup l, S)
  | _, _ => none
theorem ct_list : CallR X (.type "list") (rB X.K X.mg listQ) := by
  refine callr_weak call_list_of fun xs H Q ⟨G, S, ds, d, S', r, ha, q, k⟩ => ?_
  unfold listQ at q
  split at q
  · obtain ⟨l, e, q⟩ := mapO q
    cases q
    obtain ⟨v, rfl, hv⟩ := one_inv ha
    obtain ⟨a, ys, rfl, h1, h2⟩ := qItems_ok r hv e
    refine ⟨a, ys, rfl, h1.imp id (·.1), fun p hp => ?_⟩
    obtain ⟨G', s', r', d'⟩ := new_lst r hp h2
    exact k _ _ G' s' r' d'
  · cases q
theorem ct_listN : CallR X (.type "list") (rB X.K X.mg listN) := by
  refine callr_weak call_list_of fun xs H Q ⟨G, S, ds, d, S', r, ha, q, k⟩ => ?_
  unfold listN at q
  split at q
  · obtain ⟨l, e, q⟩ := mapO q
    cases q
    obtain ⟨v, rfl, hv⟩ := one_inv ha
    obtain ⟨a, ys, rfl, h1, h2⟩ := qItems_ok r hv e
    refine ⟨a, ys, rfl, h1.imp id (·.1), fun p hp => ?_⟩
    obtain ⟨G', s', r', d'⟩ := new_ref r hp h2
    exact k _ _ G' s' r' d'
  · cases q
theorem ct_tuple : CallR X (.type "tuple") (rB X.K X.mg tupleQ) := by
  refine callr_weak call_tuple_of fun xs H Q ⟨G, S, ds, d, S', r, ha, q, k⟩ => ?_
  unfold tupleQ at q
  split at q
  · obtain ⟨l, e, q⟩ := mapO q
    cases q
    obtain ⟨v, rfl, hv⟩ := one_inv ha
    obtain ⟨a, ys, rfl, h1, h2⟩ := qItems_ok r hv e
    rcases h1 with h1 | ⟨h1, e2⟩
    · refine ⟨a, ys, rfl, .inl ⟨h1, fun p hp => ?_⟩⟩
      obtain ⟨G', s', r', d'⟩ := new_tup r hp h2
      exact k _ _ G' s' r' d'
    · subst e2
      exact ⟨a, ys, rfl, .inr ⟨h1, k _ H G Stp.rfl' r hv⟩⟩
  · cases q
end
end PF
/-! PF: subscripts, slices, starred items, small dicts, isinstance, methods of built-ins. -/
namespace PF
open PySem PySem.Spec PyProof.Rows L2
/-! ### a new object is held, then frozen -/
section
variable {K : PySem.W.Frag} {mg : Str → Option Value} {G G2 : Gh} {S S2 : Sto} {H H2 : Hp} {p : Addr} {o o' : HO}
theorem Rel.nF (r : Rel K mg G S H) (n : H p = none) : G.F p = none ∧ p ∉ G.α := by
  refine ⟨?_, fun h => ?_⟩
  · cases q : G.F p with
    | none => rfl
    | some u => rw [r.sub p u q] at n; cases n
  · obtain ⟨u, e, _⟩ := r.th p h
    rw [e] at n; cases n
theorem hold_new (r : Rel K mg G S H) (n : H p = none) : Stp G H G (upd H p o) ∧ Rel K mg G S (upd H p o) := by
  obtain ⟨a1, a2⟩ := r.nF n
  refine ⟨⟨fun _ _ h => h, rfl, ⟨[], (List.append_nil _).symm, fun _ h => nomatch h⟩, fun a u h _ _ => ?_, fun a u h => .inl h⟩, ⟨fun a u h => ?_, r.fn, r.len, r.nd, fun a h => ?_, fun k l q => ?_, tabs_keep r.tabs (TK.new n), r.tt⟩⟩
  · rw [upd_ne (ne_of_none h n)]; exact h
  · rw [upd_ne (fun z => by rw [z, a1] at h; cases h)]; exact r.sub a u h
  · rw [upd_ne (fun z => a2 (by rw [← z]; exact h))]; exact r.th a h
  · obtain ⟨a, vs, k1, k2, k3, k4⟩ := r.st k l q
    exact ⟨a, vs, k1, by rw [upd_ne (fun z => a2 (by rw [← z]; exact List.mem_of_getElem? k1))]; exact k2, k3, k4⟩
theorem hold_end (r : Rel K mg G S H) (n : H p = none) (nt : NT o) (s : Stp G (upd H p o) G2 H2) (r2 : Rel K mg G2 S2 H2) (ne : ∀ φ, o ≠ .ext φ := by exact fun _ z => nomatch z) (nx : ∀ xs, o ≠ .xd xs := by exact fun _ z => nomatch z) (nt' : NT o' := by exact fun _ z => nomatch z) :
    H2 p = some o ∧ Stp G H { G2 with F := upd G2.F p o' } (upd H2 p o') ∧ Rel K mg { G2 with F := upd G2.F p o' } S2 (upd H2 p o') ∧ G2.le { G2 with F := upd G2.F p o' } := by
  obtain ⟨a1, a2⟩ := r.nF n
  have hp : H2 p = some o := s.fr p o upd_same nt a2
  have b1 : G2.F p = none := by
    cases q : G2.F p with
    | none => rfl
    | some u =>
      rcases s.nf p u q with z | z | z | ⟨φ, z⟩ | ⟨xs, z⟩
      · rw [a1] at z; cases z
      · exact absurd nt (z o upd_same)
      · exact absurd z a2
      · have q2 := r2.sub _ _ q
        rw [hp, z] at q2
        exact absurd (Option.some.inj q2) (ne φ)
      · have q2 := r2.sub _ _ q
        rw [hp, z] at q2
        exact absurd (Option.some.inj q2) (nx xs)
  have b2 : p ∉ G2.α := fun h => by
    obtain ⟨tl, e1, e2⟩ := s.a
    rw [e1] at h
    rcases List.mem_append.mp h with h | h
    · exact a2 h
    · exact (e2 p h).2 o upd_same nt
  have le : G2.le { G2 with F := upd G2.F p o' } := ⟨fun b u h => by
    show upd G2.F p o' b = some u
    rw [upd_ne (fun z => by rw [z, b1] at h; cases h)]; exact h, ⟨[], (List.append_nil _).symm⟩, rfl⟩
  refine ⟨hp, ⟨fun b u h => le.f b u (s.f b u h), s.t, ?_, fun a u h nt' na => ?_, fun a u h => ?_⟩, ⟨fun a u h => ?_, fun a u h => ?_, r2.len, r2.nd, fun a h => ?_, fun k l q => ?_, tabs_keep r2.tabs (TK.at hp nt ne), r2.tt⟩, le⟩
  · obtain ⟨tl, e1, e2⟩ := s.a
    refine ⟨tl, e1, fun x hx => ⟨(e2 x hx).1, fun u hu => ?_⟩⟩
    exact (e2 x hx).2 u (by rw [upd_ne (ne_of_none hu n)]; exact hu)
  · have na' : a ≠ p := ne_of_none h n
    rw [upd_ne na']
    exact s.fr a u (by rw [upd_ne na']; exact h) nt' na
  · have h : upd G2.F p o' a = some u := h
    by_cases e : a = p
    · exact .inr (.inl (by rw [e, n]; exact fun _ z => nomatch z))
    · rw [upd_ne e] at h
      have := s.nf a u h
      rw [upd_ne e] at this
      exact this
  · have h : upd G2.F p o' a = some u := h
    by_cases e : a = p
    · rw [e, upd_same] at h ⊢; exact h
    · rw [upd_ne e] at h ⊢; exact r2.sub a u h
  · have h : upd G2.F p o' a = some u := h
    by_cases e : a = p
    · rw [e, upd_same] at h; cases h; exact nt'
    · rw [upd_ne e] at h; exact r2.fn a u h
  · by_cases e : a = p
    · rw [e, upd_same]; exact ⟨_, rfl, nt'⟩
    · rw [upd_ne e]; exact r2.th a h
  · obtain ⟨a, vs, k1, k2, k3, k4⟩ := r2.st k l q
    have na : a ≠ p := fun z => b2 (by rw [← z]; exact List.mem_of_getElem? k1)
    refine ⟨a, vs, k1, by rw [upd_ne na]; exact k2, k3.mono le, ?_⟩
    show upd G2.F p o' a = none
    rw [upd_ne na]; exact k4
end
section
variable {X : Cx} {W : WX} {e a b : Expr} {es : List Expr} {pos : Pos} {fa fb fc : EF}
theorem DqA.atI {K : PySem.W.Frag} {mg : Str → Option Value} {G : Gh} {xs : List V} {ds : List D} {i : Int} {d : D} (h : DqA K mg G xs ds) (e : L2.atI ds i = some d) : ∃ v, L2.atI xs i = some v ∧ Dq K mg G v d := by
  unfold L2.atI at e ⊢
  rw [h.length]
  obtain ⟨j, e1, e2⟩ := bindO e
  obtain ⟨v, e3, e4⟩ := h.get e2
  exact ⟨v, by rw [e1]; exact e3, e4⟩
/-! ### a[b] -/
def ixD (S : Sto) : D → D → Option D
  | .str z, .int i => if z.length ≤ LINE then (L2.atI z.cps.toList i).map fun c => .str ⟨#[c]⟩ else none
  | d, .int i => (qItems S d).bind fun l => L2.atI l i
  | _, _ => none
def fIx (f g : EF) : EF := fun σ S => (f σ S).bind fun x S1 => (g σ S1).bind fun y S2 => match ixD S2 x y with
  | some d => .ok d S2
  | none => .bad
theorem ix_ok {K : PySem.W.Frag} {mg : Str → Option Value} {G : Gh} {S : Sto} {H : Hp} {x y : V} {d e u : D} {Q : VK} (r : Rel K mg G S H) (h1 : Dq K mg G x d) (h2 : Dq K mg G y e) (q : ixD S d e = some u) (k : ∀ v, Dq K mg G v u → Q v H) : rIx K x y H Q := by
  have seq : ∀ i, e = .int i → (qItems S d).bind (fun l => L2.atI l i) = some u → rIx K x y H Q := fun i ei q9 => by
    subst ei
    cases h2
    obtain ⟨l, e1, e2⟩ := bindO q9
    obtain ⟨a, xs, rfl, hs, ha⟩ := qItems_ok r h1 e1
    obtain ⟨v, e3, e4⟩ := ha.atI e2
    rcases hs with hs | ⟨hs, _⟩
    · exact .inl ⟨a, xs, i, v, rfl, rfl, hs, e3, k v e4⟩
    · exact .inr (.inl ⟨a, xs, i, v, rfl, rfl, hs, e3, k v e4⟩)
  unfold ixD at q
  split at q
  · rename_i z i
    split at q
    · rename_i hz
      obtain ⟨c, e1, e2⟩ := mapO q
      cases h1; cases h2
      subst e2
      exact .inr (.inr ⟨z, i, c, rfl, rfl, by rw [sizeLine_eq]; exact hz, e1, k _ (.str _)⟩)
    · cases q
  · exact seq _ rfl q
  · cases q
theorem se_ix (ha : SE X W a fa) (hb : SE X W b fb) (hs : PlainIx b) : SE X W (.Subscript a b pos) (fIx fa fb) := by
  refine pe_weak (pe_ix ix_seq ha hb hs) fun σ H Q ⟨G, σd, S, r, sl, p⟩ => ?_
  refine ⟨G, σd, S, r, sl, (bindE p).mono fun x H1 ⟨G1, d1, S1, s1, r1, dv1, p1⟩ => ?_⟩
  refine ⟨G1, σd, S1, r1, sl.mono s1.le, (bindE p1).mono fun y H2 ⟨G2, d2, S2, s2, r2, dv2, p2⟩ => ?_⟩
  cases q : ixD S2 d1 d2 with
  | none => rw [q] at p2; exact p2.elim
  | some u => rw [q] at p2; exact ix_ok r2 (dv1.mono s2.le) dv2 q fun v hv => p2 v H2 G2 Stp.rfl' r2 hv
/-! ### a[lo:hi] -/
def cutD (l : List D) (lo hi : Option Int) : List D := (l.drop (HT.sIx l.length 0 lo)).take (HT.sIx l.length l.length hi - HT.sIx l.length 0 lo)
def slD : D → Option Int → Option Int → Option D
  | .tup l, lo, hi => some (.tup (cutD l lo hi))
  | .lst l, lo, hi => some (.lst (cutD l lo hi))
  | .scr l, lo, hi => some (.lst (cutD l lo hi))
  | .str z, lo, hi => if z.length ≤ LINE then some (.str (cutS z lo hi)) else none
  | _, _, _ => none
abbrev OF := Stt → Sto → Res (Option Int)
def oNone : OF := fun _ S => .ok none S
def oSome (f : EF) : OF := fun σ S => (f σ S).bind fun d S1 => match d with
  | .int i => .ok (some i) S1
  | _ => .bad
def fSl (f : EF) (lo hi : OF) : EF := fun σ S => (f σ S).bind fun x S1 => (lo σ S1).bind fun l S2 => (hi σ S2).bind fun u S3 => match slD x l u with
  | some d => .ok d S3
  | none => .bad
/-- a part and its reading -/
structure PartOk (X : Cx) (W : WX) (lo : Option Expr) (f : OF) (t : TO) : Prop where
  po : PO X lo t
  mono : ∀ {σ : St} {H : Hp} {Q Q' : Option Int → Hp → Prop}, t σ H Q → (∀ i H, Q i H → Q' i H) → t σ H Q'
  run : ∀ {G : Gh} {H : Hp} {σ : St} {σd : Stt} {S : Sto} {g : Option Int → Sto → Res D} {Q : VK}, Rel X.K X.mg G S H → Slots X.K X.mg G σd σ → PostE X.K X.mg W G H σd ((f σd S).bind g) Q →
    t σ H fun i H1 => ∃ G1 S1, Stp G H G1 H1 ∧ Rel X.K X.mg G1 S1 H1 ∧ PostE X.K X.mg W G1 H1 σd (g i S1) Q
theorem part_none : PartOk X W none oNone tNoPart := ⟨po_none, fun q h => h _ _ q, fun {G H σ σd S g Q} r sl p => ⟨G, S, Stp.rfl', r, p⟩⟩
theorem part_some (h : SE X W e fa) : PartOk X W (some e) (oSome fa) (tPart (tE X.K X.mg W fa)) := ⟨po_some h, fun q h => tE.mono q fun v H ⟨i, e, q⟩ => ⟨i, e, h _ _ q⟩, fun {G H σ σd S g Q} r sl p => by
  have p : PostE X.K X.mg W G H σd (((fa σd S).bind fun d S1 => match d with
    | .int i => .ok (some i) S1
    | _ => .bad).bind g) Q := p
  refine ⟨G, σd, S, r, sl, ?_⟩
  cases e1 : fa σd S with
  | bad => rw [e1] at p; exact p
  | exc c fs S' => rw [e1] at p; exact p
  | ok d S1 =>
    rw [e1] at p
    intro v H1 G1 s1 r1 dv
    cases dv with
    | int i => exact ⟨i, rfl, G1, S1, s1, r1, PostE.pre s1 p⟩
    | _ => exact p.elim⟩
theorem DqA.cut {K : PySem.W.Frag} {mg : Str → Option Value} {G : Gh} {xs : List V} {ds : List D} (h : DqA K mg G xs ds) (lo hi : Option Int) : DqA K mg G (cutV xs lo hi) (cutD ds lo hi) := by
  unfold cutV cutD
  rw [h.length]
  exact (h.drop _).take _
theorem cut_all (l : List D) {lo hi : Option Int} (h : HT.sIx l.length 0 lo = 0 ∧ HT.sIx l.length l.length hi = l.length) : cutD l lo hi = l := by
  unfold cutD
  rw [h.1, h.2]
  simp
theorem sl_ok {K : PySem.W.Frag} {mg : Str → Option Value} {G : Gh} {S : Sto} {H : Hp} {x : V} {d u : D} {lo hi : Option Int} {Q : VK} (r : Rel K mg G S H) (h1 : Dq K mg G x d) (q : slD d lo hi = some u)
    (k : ∀ v H' G', Stp G H G' H' → Rel K mg G' S H' → Dq K mg G' v u → Q v H') : rSlA K x lo hi H Q ∨ rSlL K x lo hi H Q ∨ rSlS x lo hi H Q := by
  cases h1 with
  | @tup a xs ds h1 h2 =>
    cases q
    refine .inl ⟨a, xs, rfl, r.tup h1, fun e => ?_, fun _ p hp => ?_⟩
    · have e' : HT.sIx ds.length 0 lo = 0 ∧ HT.sIx ds.length ds.length hi = ds.length := by rw [← h2.length]; exact e
      refine k _ H G Stp.rfl' r ?_
      rw [cut_all ds e']
      exact .tup h1 h2
    · obtain ⟨G', s', r', d'⟩ := new_tup r hp (h2.cut lo hi)
      exact k _ _ G' s' r' d'
  | @lst a xs ds h1 h2 =>
    cases q
    refine .inr (.inl ⟨a, xs, rfl, SqL.of (r.sub _ _ h1), fun p hp => ?_⟩)
    obtain ⟨G', s', r', d'⟩ := new_lst r hp (h2.cut lo hi)
    exact k _ _ G' s' r' d'
  | @scr a xs ds h1 h2 =>
    cases q
    refine .inr (.inl ⟨a, xs, rfl, r.lst h1, fun p hp => ?_⟩)
    obtain ⟨G', s', r', d'⟩ := new_lst r hp (h2.cut lo hi)
    exact k _ _ G' s' r' d'
  | str z =>
    have q : (if z.length ≤ LINE then some (D.str (cutS z lo hi)) else none) = some u := q
    split at q
    · rename_i hz
      cases q
      exact .inr (.inr ⟨z, rfl, by rw [sizeLine_eq]; exact hz, k _ H G Stp.rfl' r (.str _)⟩)
    · cases q
  | _ => cases q
theorem se_sl {lo hi : Option Expr} {fl fh : OF} {tl th : TO} {p2 : Pos} (he : SE X W e fa) (hl : PartOk X W lo fl tl) (hh : PartOk X W hi fh th) : SE X W (.Subscript e (.Slice lo hi none p2) pos) (fSl fa fl fh) := by
  refine pe_weak (pe_slice (SlR.or sl_tupA (SlR.or sl_list sl_str)) he hl.po hh.po) fun σ H Q ⟨G, σd, S, r, sl, p⟩ => ?_
  refine ⟨G, σd, S, r, sl, (bindE p).mono fun x H1 ⟨G1, d1, S1, s1, r1, dv1, p1⟩ => ?_⟩
  have sl1 := sl.mono s1.le
  refine hl.mono (hl.run (σ := σ) r1 sl1 p1) fun l H2 ⟨G2, S2, s2, r2, p2⟩ => ?_
  refine hh.mono (hh.run (σ := σ) r2 (sl1.mono s2.le) p2) fun u H3 ⟨G3, S3, s3, r3, p3⟩ => ?_
  cases q : slD d1 l u with
  | none => rw [q] at p3; exact p3.elim
  | some d => rw [q] at p3; exact sl_ok r3 ((dv1.mono s2.le).mono s3.le) q fun v H' G' s' r' d' => p3 v H' G' s' r' d'
/-! ### a[::-1] -/
def revD : D → Option D
  | .lst l => some (.lst l.reverse)
  | .scr l => some (.lst l.reverse)
  | _ => none
theorem se_revL {k : Nat} {p1 p2 p3 : Pos} (he : SE X W e fa) : SE X W (.Subscript e (.Slice none none (some (.UnaryOp .USub (.Constant (.int 1) k p1) p2)) p3) pos) (f1 revD fa) := by
  refine pe_weak (pe_revL he) fun σ H Q q => (step1 q).mono fun x H1 ⟨G, S, dx, d, r, hx, e, k⟩ => ?_
  cases hx with
  | @lst a xs ds h1 h2 =>
    cases e
    refine ⟨a, xs, rfl, SqL.of (r.sub _ _ h1), fun p hp => ?_⟩
    obtain ⟨G', s', r', d'⟩ := new_lst r hp h2.reverse
    exact k _ _ G' s' r' d'
  | @scr a xs ds h1 h2 =>
    cases e
    refine ⟨a, xs, rfl, r.lst h1, fun p hp => ?_⟩
    obtain ⟨G', s', r', d'⟩ := new_lst r hp h2.reverse
    exact k _ _ G' s' r' d'
  | _ => cases e
/-! ### *xs in an argument list or a display -/
def aStar (f : EF) (r : AF) : AF := fun σ S => (f σ S).bind fun x S1 => match qItems S1 x with
  | some l => (r σ S1).bind fun ys S2 => .ok (l ++ ys) S2
  | none => .bad
theorem sa_star {fr : AF} {p : Pos} (he : SE X W e fa) (hr : SA X W es fr) (hs : starEach (.Starred e p :: es) X.env = (true, eval e X.env) :: starEach es X.env := by rfl) : SA X W (.Starred e p :: es) (aStar fa fr) := by
  refine pa_weak (StX.pa_star he hr hs) fun σ H Q ⟨G, σd, S, r, sl, p⟩ => ?_
  refine ⟨G, σd, S, r, sl, (bindA p).mono fun x H1 ⟨G1, d, S1, s1, r1, dv, q⟩ => ?_⟩
  cases e1 : qItems S1 d with
  | none => rw [e1] at q; exact q.elim
  | some l =>
    rw [e1] at q
    obtain ⟨a, xs, rfl, hs, ha⟩ := qItems_ok r1 dv e1
    refine ⟨a, xs, rfl, ?_, G1, σd, S1, r1, sl.mono s1.le, (bindAA q).mono fun ys H2 ⟨G2, ds, S2, s2, r2, dvs, q2⟩ => ?_⟩
    · rcases hs with hs | ⟨hs, _⟩
      · exact .inr hs
      · exact .inl hs
    · exact q2 (xs ++ ys) H2 G2 Stp.rfl' r2 ((ha.mono s2.le).append dvs)
/-! ### dicts of no or one entry -/
/-- a made thing is never changed again -/
def tSeal (t : TE) : TE := fun σ H Q => t σ H fun v H1 => ∃ d u, v = .ref d ∧ H1 d = some u ∧ Mut (some u) ∧ ∀ od, Q v (upd H1 d (.frz od u))
theorem pe_seal {t : TE} (h : PE X e t) : PE X e (tSeal t) := by
  refine ⟨fun pins s σ H Q I hw => ?_⟩
  refine thn (h.run pins s σ H _ I hw) fun v s1 ⟨x, H1, I1, r, d, u, ex, hd, mu, q⟩ => ?_
  obtain ⟨od, I2⟩ := I1.lock hd mu
  exact ⟨x, _, I2, r, q od⟩
def fD0 : EF := fun _ S => .ok (.dct []) S
theorem se_d0 : SE X W (.Dict [] [] pos) fD0 := by
  refine pe_weak (pe_seal pe_dnewK) fun σ H Q ⟨G, σd, S, r, sl, p⟩ => fun q hq => ?_
  refine ⟨q, .dK [], rfl, upd_same, True.intro, fun od => ?_⟩
  rw [upd_upd]
  obtain ⟨s', r'⟩ := Stp.new (o := .frz od (.dK [])) r hq
  exact p _ _ _ s' r' (.dct upd_same .nil)
def keyD : D → Option Key
  | .int i => some (.inl i)
  | .str x => some (.inr x)
  | _ => none
theorem key_ok {K : PySem.W.Frag} {mg : Str → Option Value} {G : Gh} {v : V} {d : D} {k : Key} (h : Dq K mg G v d) (e : keyD d = some k) : v = kV k := by
  cases h <;> (first | (cases e; rfl) | cases e)
def fD1 (f g : EF) : EF := fun σ S => (f σ S).bind fun x S1 => (g σ S1).bind fun y S2 => match keyD x with
  | some k => .ok (.dct [(k, y)]) S2
  | none => .bad
theorem se_d1 (ha : SE X W a fa) (hb : SE X W b fb) : SE X W (.Dict [some a] [b] pos) (fD1 fa fb) := by
  refine pe_weak (pe_seal (pe_disp (pps_cons ha hb pps_nil) rfl rfl (List.cons_ne_nil _ _) (show 1 ≤ 15 by decide))) fun σ H Q ⟨G, σd, S, r, sl, p⟩ => fun q hq => ?_
  have p : PostE X.K X.mg W G H σd ((fa σd S).bind fun x S1 => (fb σd S1).bind fun y S2 => match keyD x with
    | some k => .ok (.dct [(k, y)]) S2
    | none => .bad) Q := p
  obtain ⟨s0, r0⟩ := hold_new (o := .dK []) r hq
  have p0 := PostE.pre s0 (show PostE X.K X.mg W G H σd ((fa σd S).bind fun x S1 => (fb σd S1).bind fun y S2 => match keyD x with
    | some k => .ok (.dct [(k, y)]) S2
    | none => .bad) Q from p)
  -- the posts are told from G, H
  refine ⟨G, σd, S, r0, sl, ?_⟩
  cases e1 : fa σd S with
  | bad => rw [e1] at p; exact p
  | exc c fs S' => rw [e1] at p0; exact p0
  | ok d1 S1 =>
    rw [e1] at p
    intro x H1 G1 s1 r1 dv1
    have p : PostE X.K X.mg W G H σd ((fb σd S1).bind fun y S2 => match keyD d1 with
      | some k => .ok (.dct [(k, y)]) S2
      | none => .bad) Q := p
    have p1 := PostE.pre (s0.trans s1) p
    refine ⟨G1, σd, S1, r1, sl.mono s1.le, ?_⟩
    cases e2 : fb σd S1 with
    | bad => rw [e2] at p; exact p
    | exc c fs S' => rw [e2] at p1; exact p1
    | ok d2 S2 =>
      rw [e2] at p
      intro y H2 G2 s2 r2 dv2
      have p : PostE X.K X.mg W G H σd (match keyD d1 with
        | some k => .ok (.dct [(k, d2)]) S2
        | none => .bad) Q := p
      cases e3 : keyD d1 with
      | none => rw [e3] at p; exact p.elim
      | some k =>
        rw [e3] at p
        have ex := key_ok dv1 e3
        subst ex
        have h1 := (hold_end (o := .dK []) (o' := .dK []) r hq (fun _ z => nomatch z) (s1.trans s2) r2).1
        refine ⟨h1, [(k, y)], rfl, (show 1 ≤ 15 by decide), q, _, rfl, upd_same, True.intro, fun od => ?_⟩
        obtain ⟨_, h2, h3, h4⟩ := hold_end (o := .dK []) (o' := .frz od (.dK (mergeK [] [(k, y)]))) r hq (fun _ z => nomatch z) (s1.trans s2) r2
        rw [upd_upd]
        refine p _ _ _ h2 h3 (.dct (ob := od) (xs := [(k, y)]) ?_ (.cons (dv2.mono h4) .nil))
        show upd G2.F q (.frz od (.dK (mergeK [] [(k, y)]))) q = _
        rw [upd_same]
        rfl
/-- d[k] of a dict -/
def lookK (l : List (Key × D)) (k : Key) : Option D := (l.find? fun p => decide (p.1 = k)).map (·.2)
def dgD : D → D → Option D
  | .dct l, y => (keyD y).bind (lookK l)
  | _, _ => none
theorem DqK.look {K : PySem.W.Frag} {mg : Str → Option Value} {G : Gh} {k : Key} : ∀ {xs : List (Key × V)} {ds : List (Key × D)} {d : D}, DqK K mg G xs ds → lookK ds k = some d → ∃ v, valV xs k = some v ∧ Dq K mg G v d
  | _, _, _, .nil, e => by cases e
  | (j, v) :: xs, (_, d0) :: ds, d, .cons h q, e => by
    unfold lookK at e
    rw [List.find?_cons] at e
    by_cases hj : j = k
    · rw [decide_eq_true hj] at e
      cases e
      exact ⟨v, valV_pos hj, h⟩
    · rw [decide_eq_false hj] at e
      obtain ⟨u, e1, e2⟩ := DqK.look q (show lookK ds k = some d from e)
      refine ⟨u, ?_, e2⟩
      unfold valV at e1 ⊢
      rw [List.find?_cons, decide_eq_false hj]
      exact e1
theorem se_dg (hu : X.A.units + 1 < cLine) (ha : SE X W a fa) (hb : SE X W b fb) (hs : NoSl b) : SE X W (.Subscript a b pos) (f2 dgD fa fb) := by
  refine pe_weak (pe_dget hu ha hb hs) fun σ H Q q => (step2 q).mono fun x H1 q1 => tE.mono q1 fun y H2 ⟨G, S, dx, dy, d, r, hx, hy, e, k⟩ => ?_
  cases hx with
  | @dct a ob xs ds h1 h2 =>
    obtain ⟨kk, e1, e2⟩ := bindO e
    obtain ⟨v, e3, e4⟩ := h2.look e2
    have ey := key_ok hy e1
    subst ey
    refine ⟨a, v, rfl, ?_, k v H2 G Stp.rfl' r e4⟩
    rw [← e3]
    exact .inl ⟨xs, kk, .inr ⟨_, r.sub _ _ h1⟩, rfl, rfl⟩
  | _ => cases e
end
end PF
/-! PF: isinstance of built-in types; methods index, join; own defs: calls, bodies. -/
namespace PF
open PySem PySem.Spec PyProof.Rows L2
/-! ### isinstance -/
inductive TT where
  | non | bool | int | str | tuple | list | dict
  deriving DecidableEq
def TT.nm : TT → String
  | .non => "NoneType" | .bool => "bool" | .int => "int" | .str => "str" | .tuple => "tuple" | .list => "list" | .dict => "dict"
def tyT (S : Sto) : D → Option TT
  | .non => some .non
  | .bl _ => some .bool
  | .int _ => some .int
  | .str _ => some .str
  | .tup _ => some .tuple
  | .lst _ => some .list
  | .scr _ => some .list
  | .dct _ => some .dict
  | .ref n => match S[n]? with
    | some (some _) => some .list
    | _ => none
  | _ => none
def subT (t c : TT) : Bool := decide (t = c) || (decide (t = .bool) && decide (c = .int))
def isaD (S : Sto) (cs : List TT) (d : D) : Option Bool := (tyT S d).map fun t => cs.any (subT t)
def fIsi (cs : List TT) (f : EF) : EF := fun σ S => (f σ S).bind fun d S1 => match isaD S1 cs d with
  | some b => .ok (.bl b) S1
  | none => .bad
theorem kit_tt {K : PySem.W.Frag} (t c : TT) (hc : c ≠ .non) : PySem.W.kitOne K (.type t.nm) (.type c.nm) = some (subT t c) := by
  cases t <;> cases c <;> first | exact absurd rfl hc | exact kit_ty (by decide +kernel)
theorem kits_tt {K : PySem.W.Frag} (t : TT) : ∀ (cs : List TT), (∀ c ∈ cs, c ≠ .non) → PySem.W.kitAny K (.type t.nm) (cs.map fun c => .type c.nm) = some (cs.any (subT t))
  | [], _ => rfl
  | c :: cs, h => by
    refine kitAny_cons (kit_tt t c (h c List.mem_cons_self)) (fun hb => ?_) (fun hb => ?_)
    · rw [List.any_cons, hb, Bool.false_or]
      exact kits_tt t cs fun c hc => h c (List.mem_cons_of_mem _ hc)
    · rw [List.any_cons, hb]; rfl
theorem rd_ty {K : PySem.W.Frag} {H : Hp} {a : Addr} {xs : List V} (h : SqL K H a xs) : TyX K H (.ref a) (.type "list") := by
  rcases h with (h | ⟨o, h⟩) | ⟨o, its, n, h1, h2, _⟩
  · exact .base (.lst h)
  · exact .base (.frz h)
  · exact .kList h1 h2
theorem rdT_ty {K : PySem.W.Frag} {H : Hp} {a : Addr} {xs : List V} (h : SqT K H a xs) : TyX K H (.ref a) (.type "tuple") := by
  rcases h with (h | ⟨o, h⟩) | ⟨o, its, n, h1, h2, _⟩
  · exact .base (.tup h)
  · exact .fTuple h
  · exact .kTuple h1 h2
theorem tyT_ok {K : PySem.W.Frag} {mg : Str → Option Value} {G : Gh} {S : Sto} {H : Hp} {v : V} {d : D} {t : TT} (r : Rel K mg G S H) (h : Dq K mg G v d) (e : tyT S d = some t) : TyX K H v (.type t.nm) := by
  cases h with
  | non => cases e; exact .base .non
  | bl b => cases e; exact .base (.bl b)
  | int i => cases e; exact .base (.int i)
  | str z => cases e; exact .base (.str z)
  | tup h1 h2 => cases e; exact rdT_ty (r.tup h1)
  | lst h1 h2 => cases e; exact rd_ty (SqL.of (r.sub _ _ h1))
  | scr h1 h2 => cases e; exact rd_ty (r.lst h1)
  | dct h1 h2 => cases e; exact .fDict (r.sub _ _ h1)
  | ins h1 h2 h3 h4 => cases e
  | raw v => cases e
  | clo _ => cases e
  | exn _ _ => cases e
  | @ref a n hn =>
    have e : (match S[n]? with
      | some (some _) => some TT.list
      | _ => none) = some t := e
    split at e
    · rename_i l hl
      cases e
      obtain ⟨vs, h1, h2⟩ := ref_at r hn hl
      exact rd_ty (SqL.of h1)
    · cases e
theorem tyx_up {K : PySem.W.Frag} {H : Hp} {tp : Addr} {v : V} {t : Value} {o : HO} (hp : H tp = none) (ty : TyX K H v t) : TyX K (upd H tp o) v t := by
  have up : ∀ {a : Addr} {u : HO}, H a = some u → upd H tp o a = some u := fun {a u} h => by rw [upd_ne (ne_of_none h hp)]; exact h
  cases ty with
  | base h =>
    refine .base ?_
    cases h with
    | non => exact .non
    | bl b => exact .bl b
    | int i => exact .int i
    | str z => exact .str z
    | flt z => exact .flt z
    | lst e => exact .lst (up e)
    | frz e => exact .frz (up e)
    | tup e => exact .tup (up e)
    | dK e => exact .dK (up e)
    | dT e => exact .dT (up e)
    | ins e h1 h2 h3 h4 h5 => exact .ins (up e) h1 h2 h3 h4 h5
  | byt b => exact .byt b
  | set e => exact .set (up e)
  | kList e c => exact .kList e c
  | kTuple e c => exact .kTuple e c
  | kDict e c => exact .kDict e c
  | fTuple e => exact .fTuple (up e)
  | fDict e => exact .fDict (up e)
section
variable {X : Cx} {W : WX} {e : Expr} {es : List Expr} {x : Str} {p p2 p3 pos : Pos} {f : AF} {fa fb : EF}
theorem stepI {cs : List TT} {σ : St} {H : Hp} {Q : VK} {K : PySem.W.Frag} {mg : Str → Option Value} (q : tE K mg W (fIsi cs fa) σ H Q) : tE K mg W fa σ H fun v H1 => ∃ t b G S, Rel K mg G S H1 ∧ TyX K H1 v (.type (TT.nm t)) ∧ cs.any (subT t) = b ∧ ∀ H' G', Stp G H1 G' H' → Rel K mg G' S H' → Q (.bl b) H' := by
  obtain ⟨G, σd, S, r, sl, p⟩ := q
  refine ⟨G, σd, S, r, sl, (bindE p).mono fun v H1 ⟨G1, d, S1, s1, r1, dv, q⟩ => ?_⟩
  cases e1 : isaD S1 cs d with
  | none => rw [e1] at q; exact q.elim
  | some b =>
    rw [e1] at q
    obtain ⟨t, e2, e3⟩ := mapO e1
    exact ⟨t, b, G1, S1, r1, tyT_ok r1 dv e2, e3, fun H' G' s' r' => q _ H' G' s' r' (.bl b)⟩
theorem se_isi {c : TT} (hc : c ≠ .non) (hg : Gl X "isinstance") (hm : X.mg "isinstance" = none) (hgT : Gl X x) (hmT : X.mg x = none) (hv : bootBuiltins x = some (.type c.nm)) (he : SE X W e fa) (hn : x ≠ "__name__" := by decide) (hdb : (x == ("__debug__" : Str)) = false := by decide)
    (h1 : starEach (e :: [.Name x p2]) X.env = (false, eval e X.env) :: starEach [.Name x p2] X.env := by rfl) (h2 : starEach (.Name x p2 :: []) X.env = (false, eval (.Name x p2) X.env) :: starEach [] X.env := by rfl) (hpl : (backTo pos (starEach [.Name x p2] X.env)).any (·.1) = false := by rfl) :
    SE X W (.Call (.Name "isinstance" p) [e, .Name x p2] [] pos) (fIsi [c] fa) := by
  refine pe_weak (pe_callB call_isi hg hm (by decide +kernel) (pa_cons he (pa_cons (pe_bltn hgT hmT hv (v := .ty c.nm) rfl hn hdb) pa_nil h2) h1) (by decide) (by decide) h1 hpl) fun σ H Q q => (stepI q).mono fun v H1 ⟨t, b, G, S, r, ty, eb, k⟩ => ?_
  refine ⟨v, .ty c.nm, _, _, b, rfl, .ty _, ty, ?_, k H1 G Stp.rfl' r⟩
  rw [kit_tt t c hc, ← eb]
  simp
/-- the types of a tuple of types -/
abbrev PTy (X : Cx) (es : List Expr) (cs : List TT) : Prop := PA X es (fun _ H Q => Q (cs.map fun c => V.ty c.nm) H)
theorem pty_nil : PTy X [] [] := pa_weak pa_nil fun σ H Q q => q
theorem pty_cons {c : TT} {cs : List TT} (hgT : Gl X x) (hmT : X.mg x = none) (hv : bootBuiltins x = some (.type c.nm)) (hr : PTy X es cs) (hn : x ≠ "__name__" := by decide) (hdb : (x == ("__debug__" : Str)) = false := by decide)
    (hs : starEach (.Name x p :: es) X.env = (false, eval (.Name x p) X.env) :: starEach es X.env := by rfl) : PTy X (.Name x p :: es) (c :: cs) := pa_weak (pa_cons (pe_bltn hgT hmT hv (v := .ty c.nm) rfl hn hdb) hr hs) fun σ H Q q => q
theorem se_isiT {cs : List TT} {k} (hc : ∀ c ∈ cs, c ≠ .non) (hl : cs.length ≤ LINE) (hg : Gl X "isinstance") (hm : X.mg "isinstance" = none) (ht : PTy X es cs) (he : SE X W e fa)
    (h1 : starEach (e :: [.Tuple es k p2]) X.env = (false, eval e X.env) :: starEach [.Tuple es k p2] X.env := by rfl) (h2 : starEach (.Tuple es k p2 :: []) X.env = (false, eval (.Tuple es k p2) X.env) :: starEach [] X.env := by rfl) (hpl : (backTo pos (starEach [.Tuple es k p2] X.env)).any (·.1) = false := by rfl) :
    SE X W (.Call (.Name "isinstance" p) [e, .Tuple es k p2] [] pos) (fIsi cs fa) := by
  refine pe_weak (pe_callB call_isiT hg hm (by decide +kernel) (pa_cons he (pa_cons (pe_tup ht) pa_nil h2) h1) (by decide) (by decide) h1 hpl) fun σ H Q q => (stepI q).mono fun v H1 ⟨t, b, G, S, r, ty, eb, k⟩ => ?_
  refine ⟨by rw [List.length_map, sizeLine_eq]; exact hl, fun tp hp => ?_⟩
  obtain ⟨s', r'⟩ := Stp.new (o := .tup (cs.map fun c => V.ty c.nm)) r hp
  have ty' := tyx_up (o := .tup (cs.map fun c => V.ty c.nm)) hp ty
  refine ⟨v, tp, _, _, cs.map fun c => .type c.nm, b, rfl, upd_same, ?_, ty', ?_, k _ _ s' r'⟩
  · have go : ∀ cs : List TT, Paired ClsV (cs.map fun c => V.ty c.nm) (cs.map fun c => Value.type c.nm) := by
      intro cs
      induction cs with
      | nil => exact .nil
      | cons c cs ih => exact .cons (.ty _) ih
    exact go cs
  · rw [kits_tt t cs hc, eb]

/-! ### xs.index(True), sep.join(texts) -/
def fIdx (f g : EF) : EF := fun σ S => (f σ S).bind fun x S1 => match (lItems x).bind blsD with
  | some bs => (g σ S1).bind fun y S2 => (match y with
    | .bl b => (match bs.findIdx? (· == b) with
      | some n => .ok (.int n) S2
      | none => .bad)
    | _ => .bad)
  | none => .bad
theorem all_bl (bs : List Bool) : (bs.map V.bl).all flatV = true := by
  rw [List.all_eq_true]
  intro x hx
  obtain ⟨b, _, rfl⟩ := List.mem_map.mp hx
  rfl
theorem se_idx {o : Expr} {p1 p2 : Pos} (ho : SE X W o fa) (he : SE X W e fb) (hbase : attributeBase o "index" X.env (eval o X.env) = eval o X.env := by rfl)
    (hfew : ((backTo p2 (starEach (e :: []) X.env)).all (fun x => !x.1) && (backToKw p2 (keywordEach [] X.env)).all (fun x => x.1.isSome)
      && decide ((e :: []).length + ([] : List Keyword).length + (if ([] : List Keyword).isEmpty then 0 else 1) < 30)) = true := by rfl)
    (hline : (p1.endLine == p2.line) = true := by rfl) (hst : starEach (e :: []) X.env = (false, eval e X.env) :: starEach [] X.env := by rfl) (hplain : (backTo p2 (starEach [] X.env)).any (·.1) = false := by rfl) :
    SE X W (.Call (.Attribute o "index" p1) [e] [] p2) (fIdx fa fb) := by
  refine pe_weak (pe_bm PySem.F.plainAttrs_list PySem.F.slot_list_index PySem.F.type_list_index mt_index ho (pa_cons he pa_nil hst) hbase hfew hline hst hplain) fun σ H Q ⟨G, σd, S, r, sl, p⟩ => ?_
  refine ⟨G, σd, S, r, sl, (bindE p).mono fun x H1 ⟨G1, d1, S1, s1, r1, dv1, p1⟩ => ?_⟩
  cases e1 : (lItems d1).bind blsD with
  | none => rw [e1] at p1; exact p1.elim
  | some bs =>
    rw [e1] at p1
    obtain ⟨l, e2, e3⟩ := bindO e1
    obtain ⟨a, xs, rfl, hs, ha⟩ := lItems_ok r1 dv1 e2
    refine ⟨.inl ⟨rfl, xs, hs⟩, G1, σd, S1, r1, sl.mono s1.le, (bindE p1).mono fun y H2 ⟨G2, d2, S2, s2, r2, dv2, p2⟩ => ?_⟩
    cases dv2 with
    | bl b =>
      have p2 : PostE X.K X.mg W G2 H2 σd (match bs.findIdx? (· == b) with
        | some n => .ok (.int n) S2
        | none => .bad) Q := p2
      cases e4 : bs.findIdx? (· == b) with
      | none => rw [e4] at p2; exact p2.elim
      | some n =>
        rw [e4] at p2
        obtain ⟨a', xs', ea, hs', ha'⟩ := lItems_ok r2 (dv1.mono s2.le) e2
        cases ea
        obtain ⟨hn, hb, hno⟩ := List.findIdx?_eq_some_iff_getElem.mp e4
        have ex := bls_ok ha' e3
        refine ⟨a, xs', .bl b, n, .bl bs[n], rfl, rfl, hs', rfl, by rw [ex]; exact all_bl bs, by rw [ex]; simp [hn], ?_, fun m z hm hz => ?_, p2 _ H2 G2 Stp.rfl' r2 (.int _)⟩
        · have : bs[n] = b := by simpa using hb
          rw [this]
          cases b <;> rfl
        · rw [ex] at hz
          have hm2 : m < bs.length := by omega
          have hz2 : z = .bl bs[m] := by
            simp [hm2] at hz
            exact hz.symm
          have h3 := hno m hm
          subst hz2
          revert h3
          cases bs[m] <;> cases b <;> simp <;> rfl
    | _ => exact p2.elim
def joinD : D → D → Option D
  | .str a, d => ((lItems d).bind strsD).bind fun ys => if (ys.map (·.length)).sum + ys.length * a.length ≤ LINE then some (.str (Txt.join a ys)) else none
  | _, _ => none
def fJoin (f g : EF) : EF := fun σ S => (f σ S).bind fun x S1 => match x with
  | .str a => (g σ S1).bind fun y S2 => (match joinD (.str a) y with
    | some d => .ok d S2
    | none => .bad)
  | _ => .bad
theorem se_join {o : Expr} {apos : Pos} (ho : SE X W o fa) (he : SE X W e fb) (hs : starEach [e] X.env = [(false, eval e X.env)] := by rfl) (hbase : attributeBase o "join" X.env (eval o X.env) = eval o X.env := by rfl) (hline : (apos.endLine == pos.line) = true := by rfl) :
    SE X W (.Call (.Attribute o "join" apos) [e] [] pos) (fJoin fa fb) := by
  refine pe_weak (pe_join ho he hs hbase hline) fun σ H Q ⟨G, σd, S, r, sl, p⟩ => ?_
  refine ⟨G, σd, S, r, sl, (bindE p).mono fun x H1 ⟨G1, d1, S1, s1, r1, dv1, p1⟩ => ?_⟩
  cases dv1 with
  | str a =>
    refine ⟨⟨a, rfl⟩, G1, σd, S1, r1, sl.mono s1.le, (bindE p1).mono fun y H2 ⟨G2, d2, S2, s2, r2, dv2, p2⟩ => ?_⟩
    cases e1 : joinD (.str a) d2 with
    | none => rw [e1] at p2; exact p2.elim
    | some d =>
      rw [e1] at p2
      obtain ⟨ys, e2, e3⟩ := bindO e1
      split at e3
      · rename_i hz
        cases e3
        obtain ⟨l, e4, e5⟩ := bindO e2
        obtain ⟨b, xs, rfl, hs, ha⟩ := lItems_ok r2 dv2 e4
        exact ⟨a, b, ys, rfl, rfl, .inl (by rw [← strs_ok ha e5]; exact hs), hz, p2 _ H2 G2 Stp.rfl' r2 (.str _)⟩
      · cases e3
  | _ => exact p1.elim

theorem passLN {X : Cx} : Passes (L2N.CX X.prog X.w) X E0 := fun _ _ _ _ _ _ _ h => by
  obtain ⟨_, _, _, _, _, _, _, _, _, _, _, _, z⟩ := h
  exact z.elim
/-- around a body nothing is let out -/
theorem takes0N {X : Cx} : L2N.Takes X (fun _ _ _ _ => False) := fun _ _ x => by
  obtain ⟨_, _, _, _, _, _, _, _, _, _, _, _, _, _, _, _, z⟩ := x
  exact z.elim
/-! ### own defs -/
abbrev FF := List D → Sto → Res D
section
variable (K : PySem.W.Frag) (mg : Str → Option Value)
def PostR (G : Gh) (H : Hp) (r : Res D) (Q : VK) (E : XK) : Prop := match r with
  | .ok d S' => ∀ v H' G', Stp G H G' H' → Rel K mg G' S' H' → Dq K mg G' v d → Q v H'
  | .exc c fs S' => ∀ cls d H' G', Stp G H G' H' → Rel K mg G' S' H' → ExcAt K mg G' H' c fs cls d → E cls d H'
  | .bad => False
/-- what a def promises: it does as F -/
def spF (n : Nat) (F : FF) : Sp := fun vs H Q E => vs.length = n ∧ ∃ G ds S, Rel K mg G S H ∧ DqA K mg G vs ds ∧ PostR K mg G H (F ds S) Q E
end
def fCall (n : Nat) (F : FF) (f : AF) : EF := fun σ S => (f σ S).bind fun ds S1 => if ds.length = n then F ds S1 else .bad
theorem stepF {K : PySem.W.Frag} {mg : Str → Option Value} {n : Nat} {F : FF} {σ : St} {H : Hp} {Q : VK} (q : tE K mg W (fCall n F f) σ H Q) : tA K mg W f σ H fun vs H1 => spF K mg n F vs H1 Q (WE W σ) := by
  obtain ⟨G, σd, S, r, sl, p⟩ := q
  refine ⟨G, σd, S, r, sl, (bindAE p).mono fun xs H1 ⟨G1, ds, S1, s1, r1, dv, q⟩ => ?_⟩
  split at q
  · rename_i hn
    refine ⟨by rw [dv.length]; exact hn, G1, ds, S1, r1, dv, ?_⟩
    cases e : F ds S1 with
    | bad => rw [e] at q; exact q
    | exc c fs S' => rw [e] at q; exact fun cls d H' G' s' r' x' => q cls d σ H' G' s' r' ((sl.mono s1.le).mono s'.le) x'
    | ok d S' => rw [e] at q; exact q
  · exact q.elim
theorem se_call {k n : Nat} {fn : Addr} {fd : FuncData} {ps : List Str} {F : FF} (FO : FnOk X.prog X.w X.K X.mg X.base (L2N.CX X.prog X.w) k fn fd ps (spF X.K X.mg n F)) (hr : Room k X.A) (tk : L2N.Takes X W) (hg : Gl X x) (hm : X.mg x = some (.ref fn)) (hk : PySem.W.keepIn X.K (.ref fn) = true)
    (hb : Binds X.K fd ps []) (ha : SA X W (e :: es) f) (hdb : (x == ("__debug__" : Str)) = false := by decide) (he : starEach (e :: es) X.env = (false, eval e X.env) :: starEach es X.env := by rfl) (hpl : (backTo pos (starEach es X.env)).any (·.1) = false := by rfl) :
    SE X W (.Call (.Name x p) (e :: es) [] pos) (fCall n F f) :=
  pe_weak (pe_callS FO hr hg hm hk hb (fun σ => L2N.passAt tk σ) ha hdb he hpl) fun _ _ _ q => stepF q
end
/-- a def's body from its parameters -/
def startD (N : Nat) (ds : List D) : Stt := ds.map some ++ List.replicate (N - ds.length) none
def Out.res (r : Out) : Res D := match r with
  | .nx _ S => .ok .non S
  | .rt d S => .ok d S
  | .exc _ c fs S => .exc c fs S
  | _ => .bad
def runF (N : Nat) (body : SF) : FF := fun ds S => (body (startD N ds) S).res
theorem slots_start {K : PySem.W.Frag} {mg : Str → Option Value} {G : Gh} {N : List Str} {vs : List V} {ds : List D} (h : DqA K mg G vs ds) : Slots K mg G (startD N.length ds) (L2.start N vs) := by
  unfold startD L2.start
  refine ⟨by simp only [List.length_append, List.length_map, List.length_replicate, h.length], fun i d e => ?_⟩
  by_cases hi : i < ds.length
  · rw [List.getElem?_append_left (by simpa using hi), List.getElem?_map] at e
    cases e2 : ds[i]? with
    | none => rw [e2] at e; cases e
    | some d2 =>
      rw [e2] at e
      cases e
      obtain ⟨v, h1, h2⟩ := h.get e2
      exact ⟨v, by rw [List.getElem?_append_left (by rw [List.length_map, h.length]; exact hi), List.getElem?_map, h1]; rfl, h2⟩
  · rw [List.getElem?_append_right (by simpa using hi), List.getElem?_replicate] at e
    split at e <;> cases e
end PF
/-! PF: small things more. -/
namespace PF
open PySem PySem.Spec PyProof.Rows L2
section
variable {X : Cx} {W : WX} {e a b c : Expr} {es : List Expr} {pos : Pos} {f : AF} {fa fb fc : EF} {ga gb : BF}
theorem sb_w (h : SW X W e ga) : SB X W e ga := h.pt
/-- xs + ys, a new list of the store -/
def fCatN (f g : EF) : EF := fun σ S => (f σ S).bind fun x S1 => (g σ S1).bind fun y S2 => match x, y with
  | .lst l, .lst m => if l.length + m.length ≤ LINE then .ok (.ref S2.length) (S2 ++ [some (l ++ m)]) else .bad
  | _, _ => .bad
theorem se_catN (ha : SE X W a fa) (hb : SE X W b fb) : SE X W (.BinOp a .Add b pos) (fCatN fa fb) := by
  refine pe_weak (pe_op op_cat ha hb) fun σ H Q ⟨G, σd, S, r, sl, p⟩ => ?_
  refine ⟨G, σd, S, r, sl, (bindE p).mono fun x H1 ⟨G1, d1, S1, s1, r1, dv1, p1⟩ => ?_⟩
  refine ⟨G1, σd, S1, r1, sl.mono s1.le, (bindE p1).mono fun y H2 ⟨G2, d2, S2, s2, r2, dv2, p2⟩ => ?_⟩
  cases dv1 with
  | @lst a xs l h1 h2 =>
    cases dv2 with
    | @lst b ys m h3 h4 =>
      have p2 : PostE X.K X.mg W G2 H2 σd (if l.length + m.length ≤ LINE then .ok (.ref S2.length) (S2 ++ [some (l ++ m)]) else .bad) Q := p2
      split at p2
      · rename_i hz
        refine ⟨a, b, xs, ys, rfl, rfl, r2.sub _ _ (s2.f _ _ h1), r2.sub _ _ h3, by rw [h2.length, h4.length, sizeLine_eq]; exact hz, fun q hq => ?_⟩
        obtain ⟨G', s', r', d'⟩ := new_ref r2 hq ((h2.mono s2.le).append h4)
        exact p2 _ _ G' s' r' d'
      · exact p2.elim
    | _ => exact p2.elim
  | _ => cases dv2 <;> exact p2.elim
/-- what is walked: a list or a tuple -/
def iQ (f : EF) : AF := fun σ S => (f σ S).bind fun d S1 => match d with
  | .lst l => .ok l S1
  | .scr l => .ok l S1
  | .tup l => .ok l S1
  | _ => .bad
theorem pi_or {tg : Expr} {t t' : TI} (h : PI X tg e t) (h' : PI X tg e t') : PI X tg e (fun σ H R => t σ H R ∨ t' σ H R) := ⟨fun pins s σ H R I q => q.elim (h.run pins s σ H R I) (h'.run pins s σ H R I)⟩
theorem si_any {tg : Expr} (h : SE X W e fa) : SI X W tg e (iQ fa) := by
  refine pi_weak (pi_or (si_list (tg := tg) h) (si_tup (tg := tg) h)) fun σ H R ⟨G, σd, S, r, sl, p⟩ => ?_
  have p : PostI X.K X.mg W G H σd ((fa σd S).bind fun d S1 => match d with
    | .lst l => .ok l S1
    | .scr l => .ok l S1
    | .tup l => .ok l S1
    | _ => .bad) R := p
  cases q : fa σd S with
  | bad => rw [q] at p; exact p.elim
  | exc c fs S' =>
    rw [q] at p
    refine .inl ⟨G, σd, S, r, sl, ?_⟩
    unfold iL
    rw [q]
    exact p
  | ok d S1 =>
    rw [q] at p
    cases d with
    | lst l => refine .inl ⟨G, σd, S, r, sl, ?_⟩; unfold iL; rw [q]; exact p
    | scr l => refine .inl ⟨G, σd, S, r, sl, ?_⟩; unfold iL; rw [q]; exact p
    | tup l => refine .inr ⟨G, σd, S, r, sl, ?_⟩; unfold iT; rw [q]; exact p
    | _ => exact p.elim
end
end PF
/-! PF: own defs by name. -/
namespace PF
open PySem PySem.Spec PyProof.Rows L2
abbrev FnP (K : PySem.W.Frag) (x qual : Str) (st : Stmt) (f : Addr) (fd : FuncData) : Prop := FunD K x qual (defArgs st) (defBody st) (defScope st) [] [] f fd
/-- the module has the def st under x -/
def DefAt (K : PySem.W.Frag) (mg : Str → Option Value) (x : Str) (st : Stmt) : Prop := ∃ f fd, FnP K x x st f fd ∧ mg x = some (.ref f)
section
variable {P : Program} {w : World} {K : PySem.W.Frag} {mg : Str → Option Value} {base : Heap}
theorem defD_ok {x qual : Str} {st : Stmt} {f : Addr} {fd : FuncData} {N ps : List Str} {k n : Nat} {body : SF} (FU : FnP K x qual st f fd) (S : FnScope N ps (defScope st)) (hn : ps.length = n)
    (hb : ∀ (cdv : Value) (A : Around) (outer : List Env) (s : Shared) (H : Hp) (E : XK), Room k (A.deeper (envOfC qual (defScope st) s.heap.objs.size f cdv)) →
      SSs (cxOf (L2N.CX P w) P w K mg base N qual (defScope st) f cdv A outer s H E) (fun cls d _ H => E cls d H) (defBody st) body) : FnOk P w K mg base (L2N.CX P w) (k + 1) f fd ps (spF K mg n (runF N.length body)) := by
  refine FU.ok S (fun vs H Q E h => by rw [h.1, hn]) (fun cdv A outer s H vs Q E hr h => ⟨_, hb cdv A outer s H E hr, ?_⟩)
  obtain ⟨hl, G, ds, S', r, ha, p⟩ := h
  refine ⟨G, startD N.length ds, S', r, slots_start ha, ?_⟩
  unfold runF Out.res at p
  show PostS K mg _ G H (body (startD N.length ds) S') _
  cases e : body (startD N.length ds) S' with
  | nx σ S1 => rw [e] at p; exact fun σ' H' G' s' r' sl' => p .non H' G' s' r' .non
  | rt d S1 => rw [e] at p; exact p
  | bk σ S1 => rw [e] at p; exact p.elim
  | ct σ S1 => rw [e] at p; exact p.elim
  | exc σ c fs S1 => rw [e] at p; exact fun cls d σ' H' G' s' r' sl' x' => p cls d H' G' s' r' x'
  | bad => rw [e] at p; exact p
/-- a def of the module that does as F -/
def Own (P : Program) (w : World) (K : PySem.W.Frag) (mg : Str → Option Value) (base : Heap) (k : Nat) (x : Str) (n : Nat) (F : FF) : Prop :=
  ∃ f fd ps, mg x = some (.ref f) ∧ PySem.W.keepIn K (.ref f) = true ∧ Binds K fd ps [] ∧ FnOk P w K mg base (L2N.CX P w) k f fd ps (spF K mg n F)
theorem Own.mono {k j n : Nat} {x : Str} {F : FF} (h : Own P w K mg base k x n F) (hk : k ≤ j) : Own P w K mg base j x n F := by
  obtain ⟨f, fd, ps, h1, h2, h3, h4⟩ := h
  exact ⟨f, fd, ps, h1, h2, h3, h4.mono hk⟩
theorem own_of {x : Str} {st : Stmt} {N ps : List Str} {k n : Nat} {body : SF} (D : DefAt K mg x st) (S : FnScope N ps (defScope st)) (hn : ps.length = n)
    (hbd : ∀ (kV doc pm : Value) (an : Option Addr) (cdv ct : Value) (us : List Value), us.length = ps.length → bindArgs (PySem.W.fnOf x x (defArgs st) (defBody st) (defScope st) .none kV doc pm an cdv ct) ⟨us, []⟩ = pure (ps.zip us))
    (hb : ∀ (f : Addr) (cdv : Value) (A : Around) (outer : List Env) (s : Shared) (H : Hp) (E : XK), Room k (A.deeper (envOfC x (defScope st) s.heap.objs.size f cdv)) →
      SSs (cxOf (L2N.CX P w) P w K mg base N x (defScope st) f cdv A outer s H E) (fun cls d _ H => E cls d H) (defBody st) body) : Own P w K mg base (k + 1) x n (runF N.length body) := by
  obtain ⟨f, fd, FU, gl⟩ := D
  exact ⟨f, fd, ps, gl, FU.kp, FU.bindsN hbd, defD_ok FU S hn (hb f)⟩
end
section
variable {X : Cx} {W : WX} {e : Expr} {es : List Expr} {x : Str} {p pos : Pos} {f : AF}
theorem se_own {k n : Nat} {F : FF} (h : Own X.prog X.w X.K X.mg X.base k x n F) (hr : Room k X.A) (tk : L2N.Takes X W) (hg : Gl X x) (ha : SA X W (e :: es) f) (hdb : (x == ("__debug__" : Str)) = false := by decide)
    (he : starEach (e :: es) X.env = (false, eval e X.env) :: starEach es X.env := by rfl) (hpl : (backTo pos (starEach es X.env)).any (·.1) = false := by rfl) : SE X W (.Call (.Name x p) (e :: es) [] pos) (fCall n F f) := by
  obtain ⟨fn, fd, ps, h1, h2, h3, h4⟩ := h
  exact se_call h4 hr tk hg h1 h2 h3 ha hdb he hpl
end
end PF
/-! PF: t[::-1] of a tuple; dicts walked. -/
namespace HT
open PySem PyProof.Rows L2
section
variable {prog : Program} {w : World} {A : Around} {E : Value → Shared → Prop} {s : Shared}
theorem sliceApplied_rev {sl : Addr} {vl vu vs : Value} {n : Nat} {Q : Int × Int × Nat → Shared → Prop} (hs : s.heap.IsSliceOf sl vl vu vs) (pl : IsPart vl none) (pu : IsPart vu none) (ps : IsPart vs (some (-1)))
    (h : Q ((n : Int) - 1, -1, n) s) : wpAny (model prog w) A (Builtin.Slice.sliceApplied (.ref sl) (pure (n : Int))) Q E s := by
  obtain ⟨os, hos, hcs, hds⟩ := id hs
  unfold Builtin.Slice.sliceApplied Builtin.Slice.sliceFields
  refine wpAny_bind (wpAny_bind (wpAny_field hos hds (x := vl) rfl (wpAny_bind (wpAny_field hos hds (x := vu) rfl (wpAny_bind (wpAny_field hos hds (x := vs) rfl (wpAny_pure ?_)))))))
  refine wpAny_bind (slicePart_ ps ?_)
  show wpAny _ _ (if ((-1 : Int) == 0) = true then _ else _) _ _ s
  rw [if_neg (by decide)]
  refine wpAny_bind (slicePart_ pl (wpAny_bind (slicePart_ pu (wpAny_bind (wpAny_pure ?_)))))
  show wpAny _ _ (pure ((n : Int) - 1, (-1 : Int), Builtin.Slice.slicePlaces ((n : Int) - 1) (-1) (-1))) _ _ s
  have e : Builtin.Slice.slicePlaces ((n : Int) - 1) (-1) (-1) = n := by
    unfold Builtin.Slice.slicePlaces
    rw [if_neg (show ¬ ((-1 : Int) > 0) by decide)]
    by_cases hn : (n : Int) - 1 > -1
    · rw [if_pos hn, show (- -1 : Int) = 1 by decide, Int.ediv_one]; omega
    · rw [if_neg hn]; omega
  rw [e]
  exact wpAny_pure h
theorem pick_rev (xs : Array Value) : ((List.range xs.size).filterMap fun (k : Nat) => xs[(((xs.size : Int) - 1) + (k : Int) * -1).toNat]?).toArray = xs.toList.reverse.toArray := by
  have h := PySem.W.krv_pick xs
  unfold slicePick at h
  rw [PySem.W.krv_bounds] at h
  have h : ((sliceRange ((xs.size : Int) - 1) (-1) (-1)).filterMap (xs[·]?)).toArray = xs.toList.reverse.toArray := h
  rw [PySem.W.krv_sliceRange, List.filterMap_map] at h
  rw [← h]
  congr 1
  have go : ∀ (l : List Nat) (f g : Nat → Option Value), (∀ k ∈ l, f k = g k) → l.filterMap f = l.filterMap g := by
    intro l f g
    induction l with
    | nil => intro _; rfl
    | cons a l ih =>
      intro h
      rw [List.filterMap_cons, List.filterMap_cons, h a List.mem_cons_self, ih fun k hk => h k (List.mem_cons_of_mem _ hk)]
  refine go _ _ _ fun k hk => ?_
  have hk := List.mem_range.mp hk
  show xs[(((xs.size : Int) - 1) + (k : Int) * -1).toNat]? = xs[xs.size - 1 - k]?
  congr 1
  omega
theorem getItem_tuple_rev {t sl : Addr} {items : Array Value} {vl vu vs : Value} {Q : Value → Shared → Prop} (ht : IsTup s.heap t items) (hs : s.heap.IsSliceOf sl vl vu vs) (pl : IsPart vl none) (pu : IsPart vu none) (ps : IsPart vs (some (-1)))
    (h : Q (.ref s.heap.objs.size) { s with heap := s.heap.push { cls := .type "tuple", data := .seq items.toList.reverse.toArray } }) (hsz : items.size ≤ sizeLine) : wpAny (model prog w) A (getItem (.ref t) (.ref sl)) Q E s := by
  have htake : sizeOk (.seq items.toList.reverse.toArray) := by
    show items.toList.reverse.toArray.size ≤ sizeLine
    rw [List.size_toArray, List.length_reverse, Array.length_toList]
    exact hsz
  obtain ⟨os, hos, hcs, hds⟩ := id hs
  have hTs : s.TypeIs (.ref sl) "slice" := ⟨os, hos, hcs⟩
  unfold getItem
  try with_reducible refine wpAny_holding ?_
  first | refine wpAny_bind (wpAny_pure ?_) | skip
  refine wpAny_bind (wpAny_sequenceKey ht.typeIs (by decide) ?_)
  refine wpAny_bind (wpAny_callSpecial?_slot (name := Str.ofString "__getitem__") ht.typeIs PyProof.Rows.slot_tuple_getitem
    (wpAny_call_entry PyProof.Rows.slot_tuple_getitem ht.typeIs entry_tuple_getitem ?_ (args_tuple_getitem _ _)))
  show wpAny _ _ (Builtin.Tuple.tupleItemsOf (.ref t) >>= _) _ _ s
  refine wpAny_bind (tupleItemsOf_ ht ?_)
  refine wpAny_bind (wpAny_typeOf hTs ?_)
  rw [if_pos (by decide)]
  refine wpAny_bind (sliceApplied_rev hs pl pu ps ?_)
  show wpAny _ _ (if ((((items.size : Int) - 1) == 0 && (-1 : Int) == 1 && items.size == items.size)) = true then _ else _) _ _ s
  rw [if_neg (by simp), pick_rev]
  first
    | exact wpAny_bind (m := Builtin.Tuple.tupleExact _) (wpAny_newObj_type (wpAny_pure ⟨_, rfl, wpAny_pure h⟩) htake)
    | exact wpAny_bind (m := Builtin.Tuple.tupleExact _) (wpAny_newObj_type (wpAny_bind (wpAny_pure (wpAny_pure ⟨_, rfl, wpAny_pure h⟩))) htake)
    | exact wpAny_bind (wpAny_bind (m := Builtin.Tuple.tupleExact _) (wpAny_newObj_type (wpAny_pure (wpAny_pure ⟨_, rfl, wpAny_pure h⟩)) htake))
    | exact wpAny_bind (wpAny_bind (m := Builtin.Tuple.tupleExact _) (wpAny_newObj_type (wpAny_pure ⟨_, rfl, wpAny_pure h⟩) htake))
end
end HT
namespace PF
open PySem PySem.Spec PyProof.Rows L2
section
variable {X : Cx} {W : WX} {e : Expr} {pos : Pos} {fa : EF}
def tRevT (K : PySem.W.Frag) (te : TE) : TE := fun σ H Q => te σ H fun x H1 => ∃ a xs, x = .ref a ∧ SqT K H1 a xs ∧ ∀ p, H1 p = none → Q (.ref p) (upd H1 p (.tup xs.reverse))
theorem pe_revT {te : TE} {k : Nat} {p1 p2 p3 pos : Pos} (he : PE X e te) : PE X (.Subscript e (.Slice none none (some (.UnaryOp .USub (.Constant (.int 1) k p1) p2)) p3) pos) (tRevT X.K te) := by
  refine ⟨fun pins s σ H Q I h => ?_⟩
  refine Subscript_ (thn (he.run pins s σ H _ I h) fun v s1 ⟨x, H1, I1, r1, q1⟩ => ?_)
  obtain ⟨a, xs, ex, hx, q⟩ := q1
  subst ex
  cases r1
  have hst : PO X (some (.UnaryOp .USub (.Constant (.int 1) k p1) p2)) (tPart (tUn (rU fun i => .int (-i)) (tC (.int 1)))) := po_some (pe_un un_neg pe_int)
  refine wpAny_Slice (thn (po_none.run pins s1 σ H1 (fun o H2 => o = none ∧ H2 = H1) I1 ⟨rfl, rfl⟩) fun vl s2 ⟨l, H2, I2, pl, el, e2⟩ => ?_)
  subst el e2
  refine thn (po_none.run pins s2 σ H2 (fun o H3 => o = none ∧ H3 = H2) I2 ⟨rfl, rfl⟩) fun vu s3 ⟨u, H3, I3, pu, eu, e3⟩ => ?_
  subst eu e3
  refine thn (hst.run pins s3 σ H3 (fun o H4 => o = some (-1) ∧ H4 = H3) I3 ⟨1, rfl, -1, rfl, rfl, rfl⟩) fun vs s4 ⟨o, H4, I4, ps, eo, e4⟩ => ?_
  subst eo e4
  have I5 : Inv X pins σ H4 { s4 with heap := s4.heap.push { cls := .type "slice", data := .fields #[vl, vu, vs] } } := I4.kept (t' := s4.toks) fun b ob q => Heap.get?_push_of_some _ q
  obtain ⟨its, r, ht, hz⟩ := I5.tuple hx
  have hlen := r.length
  show wpAny (model X.prog X.w) X.A (subscriptTail e (.Slice none none (some (.UnaryOp .USub (.Constant (.int 1) k p1) p2)) p3) (.ref a) (.ref s4.heap.objs.size)) (EP X pins σ Q) X.xe { s4 with heap := s4.heap.push { cls := .type "slice", data := .fields #[vl, vu, vs] } }
  refine tail_any (ops := [.ref a, .ref s4.heap.objs.size]) ht.typeIs (PyProof.Rows.slot_tuple_getitem.lookup) ?_ (by with_unfolding_all rfl)
  refine HT.getItem_tuple_rev ht (Heap.IsSliceOf.new _ vl vu vs) pl pu ps ?_ (by rw [List.size_toArray]; omega)
  refine ⟨.ref _, _, I5.laid (t' := s4.toks) (o := .tup xs.reverse) (fun b ob q => Heap.get?_push_of_some _ q) (Nat.le_refl _) ?_, rfl, q _ (I5.hok.fresh (Nat.le_refl _))⟩
  exact ⟨by rw [List.length_reverse]; exact hz, _, r.reverse, ⟨_, Heap.get?_push_size _ rfl, rfl, _, rfl⟩⟩
def revT : D → Option D
  | .tup l => some (.tup l.reverse)
  | _ => none
theorem se_revT {k : Nat} {p1 p2 p3 : Pos} (he : SE X W e fa) : SE X W (.Subscript e (.Slice none none (some (.UnaryOp .USub (.Constant (.int 1) k p1) p2)) p3) pos) (f1 revT fa) := by
  refine pe_weak (pe_revT he) fun σ H Q q => (step1 q).mono fun x H1 ⟨G, S, dx, d, r, hx, e, k⟩ => ?_
  cases hx with
  | @tup a xs ds h1 h2 =>
    cases e
    refine ⟨a, xs, rfl, r.tup h1, fun p hp => ?_⟩
    obtain ⟨G', s', r', d'⟩ := new_tup r hp h2.reverse
    exact k _ _ G' s' r' d'
  | _ => cases e
/-! ### for k in d -/
def keyV : Key → D
  | .inl i => .int i
  | .inr x => .str x
def iK (f : EF) : AF := fun σ S => (f σ S).bind fun d S1 => match d with
  | .dct l => .ok (l.map fun p => keyV p.1) S1
  | _ => .bad
theorem keyV_ok {K : PySem.W.Frag} {mg : Str → Option Value} {G : Gh} (k : Key) : Dq K mg G (kV k) (keyV k) := by
  cases k with
  | inl i => exact .int i
  | inr x => exact .str x
theorem DqK.length {K : PySem.W.Frag} {mg : Str → Option Value} {G : Gh} : ∀ {vs : List (Key × V)} {ds : List (Key × D)}, DqK K mg G vs ds → vs.length = ds.length
  | _, _, .nil => rfl
  | _, _, .cons _ q => by rw [List.length_cons, List.length_cons, DqK.length q]
theorem DqK.keys {K : PySem.W.Frag} {mg : Str → Option Value} {G : Gh} : ∀ {vs : List (Key × V)} {ds : List (Key × D)}, DqK K mg G vs ds → vs.map (·.1) = ds.map (·.1)
  | _, _, .nil => rfl
  | _, _, .cons _ q => by rw [List.map_cons, List.map_cons, DqK.keys q]
theorem it_keys {K : PySem.W.Frag} {mg : Str → Option Value} {G : Gh} {a : Addr} {ob : Obj} {xs : List (Key × V)} {ds : List (Key × D)} (h : G.F a = some (.frz ob (.dK xs))) (q : DqK K mg G xs ds) : ItOk K mg G (Itk a ob xs) (ds.map fun p => keyV p.1) := by
  intro G' H' S' x r i
  have h' : H' a = some (.frz ob (.dK xs)) := r.sub _ _ (x.f _ _ h)
  rw [List.length_map, ← q.length]
  refine ⟨fun hi => ⟨⟨h', hi⟩, fun y H2 ⟨e, k, v, hk, ey⟩ => ?_⟩, fun hi => ⟨h', hi⟩⟩
  subst e ey
  refine ⟨G', Stp.rfl', r, keyV k, ?_, keyV_ok k⟩
  have e1 := congrArg (fun l => l[i]?) q.keys
  simp only [List.getElem?_map, hk] at e1
  rw [List.getElem?_map]
  cases e2 : ds[i]? with
  | none => rw [e2] at e1; simp at e1
  | some p =>
    rw [e2] at e1
    simp at e1
    rw [e1]
    rfl
theorem si_keys {tg : Expr} (h : SE X W e fa) : SI X W tg e (iK fa) := by
  refine pi_weak (pi_keys h) fun σ H R ⟨G, σd, S, r, sl, p⟩ => ?_
  refine ⟨G, σd, S, r, sl, (bindI p).mono fun x H1 ⟨G1, d, S1, s1, r1, dv, q⟩ => ?_⟩
  cases dv with
  | dct h1 h2 => exact ⟨_, _, rfl, .inl ⟨_, r1.sub _ _ h1, q _ H1 G1 Stp.rfl' r1 (it_keys h1 h2)⟩⟩
  | _ => exact q.elim
end
end PF
/-! PX: an own exception class over ValueError whose __init__ says super().__init__('..'); self.f = p. -/
namespace PySem
namespace XsX
open PySem.W PySem.Calls PyProof.Rows PySem.HandSPX
/-- the text of __init__ -/
def iA (a p : Str) (p1 p2 : Pos) : Arguments := { posonlyargs := [], args := [{ arg := a, annotation := none, pos := p1 }, { arg := p, annotation := none, pos := p2 }], vararg := none, kwonlyargs := [], kw_defaults := [], kwarg := none, defaults := [] }
def iB (a p f m : Str) (j : Nat) (q1 q2 q3 q4 q5 q6 r1 r2 r3 r4 : Pos) : List Stmt :=
  [.Expr (.Call (.Attribute (.Call (.Name "super" q1) [] [] q2) "__init__" q3) [.Constant (.str m) j q4] [] q5) q6, .Assign [.Attribute (.Name a r1) f r2] (.Name p r3) r4]
/-- what the written part says of the class at C -/
structure XsTxt (prog : Program) (K : Frag) (mg : Str → Option Value) (C fI : Addr) (f : Str) : Prop where
  cls : ∃ nm q N bs bm sn sub ab col dd k0 k1 k2 k3 k5, K.lookup C = some (excClassObj nm q C N bs bm true sn sub ab col dd k0 k1 k2 k3 k5 "ValueError.__new__") ∧ refsVE bm = true
  sa : findIn K (.ref C) "__setattr__" = some (some (.builtin "object.__setattr__"))
  noF : findIn K (.ref C) f = some none
  iC : findIn K (.ref C) "__init__" = some (some (.ref fI))
  tI : typeIn K (.ref fI) = some (.type "function")
  kC : keepIn K (.ref C) = true
  exC : subIn K (.ref C) (.type "BaseException") = some true
  tyC : typeIn K (.ref C) = some (.type "type")
  veC : subIn K (.ref C) (.type "ValueError") = some true
  thp : nsIn K cStatics "thirdparty.any" = some none
  sup : nsIn K mainGlobals "super" = some none
  fn : ∃ (oc : Value) (od : Option Addr) (dV kV doc pm : Value) (an : Option Addr) (cda : Addr) (ct : Value) (osl : Array (Option Value)) (cc : Addr) (a p m qual : Str) (sc : Scope) (j : Nat) (p1 p2 q1 q2 q3 q4 q5 q6 r1 r2 r3 r4 : Pos),
    K.lookup fI = some ⟨oc, od, .func (ksFn "__init__" qual (iA a p p1 p2) (iB a p f m j q1 q2 q3 q4 q5 q6 r1 r2 r3 r4) sc dV kV doc pm an (.ref cda) ct cc), osl⟩ ∧ codeIn K (.ref cda) qual = true ∧
    (∃ oo dd vs sl file tf, K.lookup cda = some ⟨oo, dd, .fields vs, sl⟩ ∧ vs[2]? = some (.str file tf) ∧ ((prog.main.file : Str) == file) = true) ∧
    (∃ cl cld csl, K.lookup cc = some ⟨cl, cld, .cell (some (.ref C)), csl⟩) ∧
    ks_superIn K C C "__init__" = some (some (.builtin "ValueError.__init__")) ∧
    (∀ x ∈ sc.names, x.2 ≠ .cell) ∧ sc.isCoroutine = false ∧ sc.isGenerator = false ∧ sc.kind = .function ∧ sc.names.lookup a = some .local ∧ sc.names.lookup p = some .local ∧ a ≠ p ∧
    sc.names.lookup ("super" : Str) = some .globalImplicit ∧ sc.names.lookup ("__class__" : Str) = some .free ∧ (a == ("__debug__" : Str)) = false ∧ (p == ("__debug__" : Str)) = false ∧ (q3.endLine == q5.line) = true ∧
    (∀ (x v : Value), bindArgs (ksFn "__init__" qual (iA a p p1 p2) (iB a p f m j q1 q2 q3 q4 q5 q6 r1 r2 r3 r4) sc dV kV doc pm an (.ref cda) ct cc) ⟨[x, v], []⟩ = pure [(a, x), (p, v)])
  top : (prog.main.scope.names.lookup ("super" : Str)).isSome = false
section
variable {prog : Program} {w : World} {A : Around} {E : Value → Shared → Prop} {h : Heap} {g : Array GenState} {d : Drawn} {t : Nat} {os : OsState}
variable {nm q : Str} {C N : Addr} {bs bm : List Value} {hdct : Bool} {sn : List Str} {sub : List Value} {ab : Bool} {col : Option Bool} {dd : Option Addr} {k0 k1 k2 k3 k5 : Option Value} {B newId i : String} {bmB : List Value}
/-- the bound __init__ called -/
theorem call_mw {u e t0 : Addr} {rest : List Value} {Q : Value → Shared → Prop} (FB : ExcBaseFacts B newId i bmB)
    (hC : h.get? C = some (excClassObj nm q C N bs bm hdct sn sub ab col dd k0 k1 k2 k3 k5 newId)) (he : h.get? e = some (excO C t0)) (hu : h.get? u = some (kxs_mw i e)) (hrest : rest.length ≤ sizeLine)
    (hq : ∀ h' t1, (∀ b o, b ≠ e → h.get? b = some o → h'.get? b = some o) → h'.get? e = some (excO C t1) → Q .none ⟨h', g, d, t, os⟩) :
    wpAny (model prog w) A (call (.ref u) rest) Q E ⟨h, g, d, t, os⟩ := by
  refine wpAny_call (codeAny_of_tree ?_)
  show wpAny _ A.in1 (callAny (.ref u) ⟨rest, []⟩) _ _ _
  simp only [callAny]
  refine wpAny_bind (wpAny_load hu ?_)
  simp only [kxs_mw, show (Value.type "method-wrapper" == Value.type "method" || Value.type "method-wrapper" == Value.type "builtin_function_or_method" || Value.type "method-wrapper" == Value.type "method-wrapper") = true by decide, if_true]
  refine KFB.if_so (by decide) ?_
  refine wpAny_bind (check_bound_init FB.toExcCallFacts hC he rfl ?_)
  refine wpAny_bind (wpAny_pure (wpAny_pure ?_))
  refine ⟨plainId_quiet FB.init.plain _, codeAny_builtin FB.initEntry ?_⟩
  exact exc_init_tree (cls := .ref C) (t0 := t0) (dv := none) (c2 := .none) (c3 := .none) (b4 := .bool false) he hrest fun h' k e' _ => hq h' h.objs.size k e'
end
end XsX
end PySem
namespace PySem
namespace XsX
open PySem.W PySem.Calls PyProof.Rows PySem.HandSPX
section
variable {prog : Program} {w : World} {A : Around} {E : Value → Shared → Prop} {R : Result → Shared → Prop} {s : Shared} {K : Frag} {mg : Str → Option Value} {C fI : Addr} {f : Str}
theorem ldC {M : Model} {s : Shared} {env : Env} {m : Str → Option Value} {x : Str} {pos : Pos} {v : Value} {Q : Value → Shared → Prop} {A : Around} {E : Value → Shared → Prop} (hn : s.heap.Ns env.locals m) (hv : m x = some v) (h : Q v s)
    (hk : env.scope.kind = .function) (hl : env.kindOf x = some .local) (hd : (x == ("__debug__" : Str)) = false) :
    wpAny M A (eval (.Name x pos) env) Q E s := wpAny_Name (wpAny_loadName_local hk hl hn hv h) hd
theorem ns_keep {h h' : Heap} {L : Addr} {m : Str → Option Value} (hn : h.Ns L m) (k : ∀ o, h.get? L = some o → h'.get? L = some o) : h'.Ns L m := by
  obtain ⟨o, es, ep, e, r⟩ := hn
  exact ⟨o, es, ep, k o e, r⟩
theorem xs_init (T : XsTxt prog K mg C fI f) {x t0 : Addr} {v : Value} (X : K.In s.heap) (hlim : s.heap.NoLimit) (hg : s.heap.Ns mainGlobals mg) (hb : ∃ mb, s.heap.Ns builtinsNs mb ∧ mb "super" = some (.type "super"))
    (hx : s.heap.get? x = some (excO C t0)) (hnx : ∀ o, K.lookup x ≠ some o) (hroom : A.depth < recursionLimit)
    (hq : ∀ h' tk dx t1, (∀ b o, b ≠ x → s.heap.get? b = some o → h'.get? b = some o) → s.heap.objs.size ≤ dx → dx ≠ x → h'.get? x = some { cls := .ref C, dict := some dx, data := .fields #[.ref t1, .none, .none, .none, .bool false, .none] } →
      h'.Ns1 dx (fun y => if y = f then some v else none) → R (.ok (.ret .none)) { s with heap := h', toks := tk }) :
    codeAny (model prog w) A (.call (.ref fI) ⟨[.ref x, v], []⟩) R s := by
  obtain ⟨oc, od, dV, kV, doc, pm, an, cda, ct, osl, cc, a, p, m, qual, sc, j, p1, p2, q1, q2, q3, q4, q5, q6, r1, r2, r3, r4, ho, hcd, ⟨oo, odd, vs, sl, file, tf, hcode, hvs, hfile⟩, ⟨cl, cld, csl, hcell⟩, hsup, nocell, hco, hgen, hkind, ha, hp, hap, hks, hkc, hda, hdp, hline, hbind⟩ := T.fn
  obtain ⟨skind, snames, sgen, sco, smore⟩ := sc
  dsimp only at nocell hco hgen hkind ha hp hks hkc
  subst hkind hco hgen
  obtain ⟨nm, q, N, bs, bm, sn, sub, ab, col, dd, k0, k1, k2, k3, k5, hC, hbm⟩ := T.cls
  have hcl : clsIn K C = some { name := nm, bases := bs, mro := .ref C :: bm, ns := N, qualname := q, hasDict := true, slotNames := sn, subclasses := sub, abstract := ab, collection := col, hasDel := false } := by unfold clsIn; rw [hC] <;> rfl
  refine ks_codeAny_call_defAt (fd := ksFn "__init__" qual (iA a p p1 p2) (iB a p f m j q1 q2 q3 q4 q5 q6 r1 r2 r3 r4) ⟨.function, snames, false, false, smore⟩ dV kV doc pm an (.ref cda) ct cc) (body := iB a p f m j q1 q2 q3 q4 q5 q6 r1 r2 r3 r4) (binds := [(a, .ref x), (p, v)]) hroom (X _ _ ho) rfl hlim (codeRec_of X hcd) rfl
    (BindsTo.of_eq ?bind) nocell (fun y hy => ?loc) (fun h₁ hns hk => ?_) rfl rfl rfl
  case bind => exact hbind _ _
  case loc =>
    rcases List.mem_cons.mp hy with hy | hy
    · rw [hy]; exact ha
    · rw [List.mem_singleton.mp hy]; exact hp
  obtain ⟨hh, g, d, tk, os⟩ := s
  -- the frame
  have hL : hh.objs.size ≠ x := Nat.ne_of_gt (Heap.lt_size hx)
  have X₁ : K.In h₁ := X.keeps hk
  have hx₁ : h₁.get? x = some (excO C t0) := hk _ _ hx
  have hns : h₁.Ns (ksEnv qual ⟨.function, snames, false, false, smore⟩ hh.objs.size fI (.ref cda) cc).locals (fun y => ([(a, Value.ref x), (p, v)] : List (Str × Value)).reverse.lookup y) := hns
  have la : ([(a, Value.ref x), (p, v)] : List (Str × Value)).reverse.lookup a = some (.ref x) := by
    have : (a == p) = false := by simpa using hap
    simp [List.lookup, this]
  have lp : ([(a, Value.ref x), (p, v)] : List (Str × Value)).reverse.lookup p = some v := by simp [List.lookup]
  obtain ⟨mb, hb1, hb2⟩ := hb
  have I₁ : InstAt h₁ x (excO C t0) C none := ⟨hx₁, rfl, rfl, trivial⟩
  have hxC : x ≠ C := ks_ne X₁ I₁ hcl
  -- super()
  have he : eval (.Call (.Attribute (.Call (.Name "super" q1) [] [] q2) "__init__" q3) [.Constant (.str m) j q4] [] q5) (ksEnv qual ⟨.function, snames, false, false, smore⟩ hh.objs.size fI (.ref cda) cc) = (do
      let ov ← attributeBase (.Call (.Name "super" q1) [] [] q2) "__init__" (ksEnv qual ⟨.function, snames, false, false, smore⟩ hh.objs.size fI (.ref cda) cc) (eval (.Call (.Name "super" q1) [] [] q2) (ksEnv qual ⟨.function, snames, false, false, smore⟩ hh.objs.size fI (.ref cda) cc))
      standAt q3.atName
      let (f, first) ← holding [ov] (getMethod ov "__init__" (L2.plainOf (.Call (.Name "super" q1) [] [] q2) (ksEnv qual ⟨.function, snames, false, false, smore⟩ hh.objs.size fI (.ref cda) cc)))
      callWith q5 f first (backTo q5 (starEach [.Constant (.str m) j q4] (ksEnv qual ⟨.function, snames, false, false, smore⟩ hh.objs.size fI (.ref cda) cc))) []) := by
    show (do
      let ov ← attributeBase (.Call (.Name "super" q1) [] [] q2) "__init__" (ksEnv qual ⟨.function, snames, false, false, smore⟩ hh.objs.size fI (.ref cda) cc) (eval (.Call (.Name "super" q1) [] [] q2) (ksEnv qual ⟨.function, snames, false, false, smore⟩ hh.objs.size fI (.ref cda) cc))
      standAt q3.atName
      methodCall (.Call (.Name "super" q1) [] [] q2) "__init__" q3 q5 (ksEnv qual ⟨.function, snames, false, false, smore⟩ hh.objs.size fI (.ref cda) cc) ov 1 (backTo q5 (starEach [.Constant (.str m) j q4] (ksEnv qual ⟨.function, snames, false, false, smore⟩ hh.objs.size fI (.ref cda) cc))) []) = _
    congr 1
    funext ov
    congr 1
    funext _
    exact L2.mcall_line rfl hline
  refine ks_wpAt_execs_cons (ks_wpAt_Expr_any (env := ksEnv qual ⟨.function, snames, false, false, smore⟩ hh.objs.size fI (.ref cda) cc) (ks_wpAt_MethodCall (he := he) ?_) rfl rfl)
  refine ks_wpAt_super_base (env := ksEnv qual ⟨.function, snames, false, false, smore⟩ hh.objs.size fI (.ref cda) cc) hks hkc rfl rfl (X₁ _ _ ho) rfl rfl rfl (X₁ _ _ hcode) rfl hvs hfile T.top ?_
  refine ks_loadName_global rfl hks (loadGlobal_builtin (env := ksEnv qual ⟨.function, snames, false, false, smore⟩ hh.objs.size fI (.ref cda) cc) (ns_keep hg (hk _)) (mg_none_of X hg T.sup) (ns_keep hb1 (hk _)) hb2 ⟨rfl, ?_⟩)
  refine wpAny_loadName_free rfl hkc rfl ⟨_, X₁ _ _ hcell, rfl⟩ ?_
  refine wpAny_loadName_local rfl ha hns la ?_
  obtain ⟨oD, hD1, hD2⟩ : ∃ oD, h₁.get? C = some oD ∧ oD.data = .cls { name := nm, bases := bs, mro := .ref C :: bm, ns := N, qualname := q, hasDict := true, slotNames := sn, subclasses := sub, abstract := ab, collection := col, hasDel := false } := ⟨_, X₁ _ _ hC, rfl⟩
  refine ks_wpAny_isType_cls hD1 hD2 ⟨rfl, ?_⟩
  have hsubD : Looks (model prog w) h₁ (isSubtype (.ref C) (.ref C)) true := looks_mroIn X₁ (by
    unfold mroIn
    rw [hcl, Option.bind_some, if_neg (by intro z; cases z), List.contains_cons, beq_self_eq_true, Bool.true_or])
  refine ks_wpAny_call_super hD1 hD2 hx₁ rfl (fun c e => by cases e) hsubD (fun h₂ e₂ k₂ => ?_)
  -- .__init__
  have X₂ : K.In h₂ := X₁.keeps k₂
  have I₂ : InstAt h₂ x (excO C t0) C none := ⟨k₂ _ _ hx₁, rfl, rfl, trivial⟩
  have hI : Looks (model prog w) h₂ (isInstance (.ref x) (.type "ValueError")) true := I₂.type.andThen (looks_subIn X₂ T.veC)
  have hal : alongIn K "__init__" (((Value.ref C :: bm).dropWhile (· != .ref C)).drop 1) = some (some (.builtin "ValueError.__init__")) := by
    have z := hsup
    unfold ks_superIn at z
    rw [hcl] at z
    exact z
  refine kxs_getMethod kxs_ValueError (l₀ := .ref C :: bm) e₂ (looks_opaque X₂ T.thp) (fun A Q E s k q => wpAny_bind ((looks_clsIn X₂ hcl) A _ E s k (wpAny_pure q))) rfl X₂ hal hI hxC rfl ?_
  have k₃ : ∀ b o, h₂.get? b = some o → (h₂.push (kxs_mw "ValueError.__init__" x)).get? b = some o := fun b o e => Heap.get?_push_of_some _ e
  have hu₃ : (h₂.push (kxs_mw "ValueError.__init__" x)).get? h₂.objs.size = some (kxs_mw "ValueError.__init__" x) := Heap.get?_push_at rfl rfl
  have hx₃ : (h₂.push (kxs_mw "ValueError.__init__" x)).get? x = some (excO C t0) := k₃ _ _ (k₂ _ _ hx₁)
  have X₃ := X₂.keeps k₃
  refine kxs_callWith (i := "ValueError.__init__") (x := x) rfl (evalArgs_plain (Calls.spliced_cons (Calls.Constant_str (pos := q4) (k := j) (Calls.spliced_nil ⟨hu₃, ?_⟩))))
  refine call_mw F.excBase_ValueError (X₃ _ _ hC) hx₃ hu₃ (by show 1 ≤ sizeLine; rw [sizeLine_eq]; omega) fun h₄ t1 k₄ hx₄ => ?_
  -- self.f = p
  have X₄ : K.In h₄ := fun b o e => k₄ b o (fun z => by
    rw [z] at e
    exact hnx o e) (X₃ _ _ e)
  have hns₄ : h₄.Ns (ksEnv qual ⟨.function, snames, false, false, smore⟩ hh.objs.size fI (.ref cda) cc).locals (fun y => ([(a, Value.ref x), (p, v)] : List (Str × Value)).reverse.lookup y) :=
    ns_keep hns fun o e => k₄ _ _ hL (k₃ _ _ (k₂ _ _ e))
  refine ks_wpAt_execs_cons (wpAt_of_wpAny (plainObj_wpAny_Assign_Attribute ?_))
  refine ldC (v := v) hns₄ lp ?_ rfl hp hdp
  refine ldC (v := .ref x) hns₄ la ?_ rfl ha hda
  refine set_plain X₄ (ox := excO C t1) (od := none) ⟨hx₄, rfl, rfl, trivial⟩ T.sa ?_
  have old : ∀ b o, b ≠ x → hh.get? b = some o → h₄.get? b = some o := fun b o hb e => k₄ b o hb (k₃ _ _ (k₂ _ _ (hk _ _ e)))
  refine exc_osa X₄ hx₄ hcl (show refsVE (.ref C :: bm) = true from hbm) rfl T.noF (fun h₅ tk₅ dx k₅ dn dne hx₅ hn₅ => ?_)
  refine wpAt_of_wpAny (wpAny_execs_nil ?_)
  refine hq h₅ tk₅ dx t1 (fun b o hb e => k₅ b o hb (old b o hb e)) ?_ dne hx₅ hn₅
  have z : hh.objs.size < h₄.objs.size := hns₄.lt
  exact Nat.le_of_lt (Nat.lt_of_lt_of_le z dn)
/-- a made exception -/
structure OwnMade (h h' : Heap) (e C d : Addr) (f : Str) (v : Value) : Prop where
  keep : ∀ b o, h.get? b = some o → h'.get? b = some o
  new : h.objs.size ≤ e
  obj : ∃ oe vs, h'.get? e = some oe ∧ oe.cls = .ref C ∧ oe.dict = some d ∧ oe.data = .fields vs ∧ vs[1]? = some .none ∧ vs[2]? = some .none
  dbig : h.objs.size ≤ d
  dne : d ≠ e
  ns : h'.Ns1 d (fun y => if y = f then some v else none)
theorem one_size (v : Value) : [v].length ≤ sizeLine := by
  rw [sizeLine_eq]
  exact (by decide : 1 ≤ 16777216)
theorem xs_made (T : XsTxt prog K mg C fI f) {v : Value} (X : K.In s.heap) (hlim : s.heap.NoLimit) (hg : s.heap.Ns mainGlobals mg) (hb : ∃ mb, s.heap.Ns builtinsNs mb ∧ mb "super" = some (.type "super")) (hroom : A.depth + 1 < recursionLimit)
    (hq : ∀ h' tk e d, OwnMade s.heap h' e C d f v → R (.ok (.ret (.ref e))) { s with heap := h', toks := tk }) :
    codeAny (model prog w) A (.call (.ref C) ⟨[v], []⟩) R s := by
  obtain ⟨nm, q, N, bs, bm, sn, sub, ab, col, dd, k0, k1, k2, k3, k5, hC, hbm⟩ := T.cls
  obtain ⟨hp, g, dr, tk, os⟩ := s
  have k : ∀ b o, hp.get? b = some o → ((hp.push (kdv_tup [v])).push (excO C hp.objs.size)).get? b = some o := fun b o e => Heap.get?_push_of_some _ (Heap.get?_push_of_some _ e)
  have hget : ((hp.push (kdv_tup [v])).push (excO C hp.objs.size)).get? (hp.objs.size + 1) = some (excO C hp.objs.size) := by heap_get
  have hnx : ∀ o, K.lookup (hp.objs.size + 1) ≠ some o := fun o e => by
    have z : hp.get? (hp.objs.size + 1) = some o := X _ _ e
    exact absurd (Nat.lt_of_succ_lt (Heap.lt_size z)) (Nat.lt_irrefl _)
  obtain ⟨mb, hb1, hb2⟩ := hb
  refine call_own F.excBase_ValueError (fun X => refsVE_contains X bm hbm) (X _ _ hC) (looks_findIn X T.iC) (fun self => bind_fn X self T.tI) (one_size v) ?_
  refine xs_init (s := ⟨(hp.push (kdv_tup [v])).push (excO C hp.objs.size), g, dr, tk, os⟩) T (X.keeps k) (hlim.keeps k) (ns_keep hg fun o e => k _ _ e) ⟨mb, ns_keep hb1 fun o e => k _ _ e, hb2⟩ hget hnx ?_ fun h' tk' dx t1 k' dn dne hx hns => ?_
  · show A.depth + 1 < recursionLimit
    exact hroom
  · have old : ∀ b o, hp.get? b = some o → h'.get? b = some o := fun b o e => k' b o (Nat.ne_of_lt (Nat.lt_succ_of_lt (Heap.lt_size e))) (k b o e)
    have z : hp.objs.size + 1 + 1 ≤ dx := by
      first
        | (simpa only [Heap.size_push] using dn)
        | exact dn
        | (have q := dn; rw [Heap.size_push, Heap.size_push] at q; exact q)
    exact ⟨rfl, hq h' tk' (hp.objs.size + 1) dx ⟨old, Nat.le_succ _, ⟨_, _, hx, rfl, rfl, rfl, rfl, rfl⟩, Nat.le_trans (Nat.le_trans (Nat.le_succ _) (Nat.le_succ _)) z, dne, hns⟩⟩
end
end XsX
end PySem
namespace PF
open PySem PySem.Spec PyProof.Rows L2
section
variable {X : Cx} {W : WX} {C fI : Addr} {f : Str}
/-- X(e) of such a class -/
def tMkX (C : Addr) (f : Str) (ta : TA) : St → Hp → XK → Prop := fun σ H Q => ta σ H fun vs H1 => ∃ v, vs = [v] ∧ ∀ d, H1 d = none → Q (.ref C) (some d) (upd H1 d (.xd [(f, v)]))
theorem relO_one {v : V} {v' : Value} (r : RelV v v') (f g : Str) : RelO (List.lookup g [(f, v)]) (if g = f then some v' else none) := by
  rw [show List.lookup g [(f, v)] = if g = f then some v else (([] : List (Str × V)).lookup g) from lookup_put f g v []]
  by_cases h : g = f
  · rw [if_pos h, if_pos h]; exact r
  · rw [if_neg h, if_neg h]; trivial
theorem pmk_xs {a : Expr} {ta : TA} {x : Str} {p pos : Pos} {k : Nat} (T : PySem.XsX.XsTxt X.prog X.K X.mg C fI f) (gC : X.mg x = some (.ref C)) (hr : Room k X.A) (ha : PA X [a] ta) (hg : Gl X x) (hdb : (x == ("__debug__" : Str)) = false := by decide)
    (he : starEach (a :: []) X.env = (false, eval a X.env) :: starEach [] X.env := by rfl) (hpl : (backTo pos (starEach [] X.env)).any (·.1) = false := by rfl) :
    L2N.PMk X (.Call (.Name x p) [a] [] pos) (tMkX C f ta) := by
  intro pins s σ H Q I h
  refine wpAny_Call_Name_kw (ld_glob I hg gC ?_ hdb)
  refine PySem.W.callWith_K (h₀ := X.base) I.ok.mod.kin T.kC (thn (ha.run pos pins s σ H _ I h) fun us s1 hh => ?_) he hpl
  obtain ⟨vs, H1, I1, r1, v, ev, q1⟩ := hh
  subst ev
  refine ⟨I1.kIn, ?_⟩
  cases r1 with
  | cons rv rn =>
    rename_i v' us'
    cases rn
    show wpAny _ _ (call (.ref C) [v']) _ _ _
    have hlim := I1.nolimit
    obtain ⟨mb, hb1, hb2⟩ := I1.ok.mod.blt
    have hgl : s1.heap.Ns mainGlobals X.mg := I1.ok.mod.glob.keeps I1.bk
    have hbl : ∃ mb, s1.heap.Ns builtinsNs mb ∧ mb "super" = some (.type "super") := ⟨mb, hb1.keeps I1.bk, (hb2 _ (by decide)).trans (by decide +kernel)⟩
    obtain ⟨hp, g, dr, tk, os⟩ := s1
    refine wpAny_call (PySem.XsX.xs_made T I1.kIn hlim hgl hbl (by have := hr.dp; omega) fun h' tk' e d M => ?_)
    show L2N.MkP X pins σ Q (.ref e) ⟨h', g, dr, tk', os⟩
    obtain ⟨oe, fv, hoe, hc, hd, hdat, h1, h2⟩ := M.obj
    have hns := M.ns
    obtain ⟨G', g1, g2⟩ := restrict h' fun b => decide (b ≠ e)
    have gk : ∀ b, b ≠ e → G'.get? b = h'.get? b := fun b hb => g1 b (decide_eq_true hb)
    have ge : G'.get? e = none := g2 e (by simp)
    have old : ∀ b o, hp.get? b = some o → G'.get? b = some o := fun b o q => (gk b (Nat.ne_of_lt (Nat.lt_of_lt_of_le (Heap.lt_size q) M.new))).trans (M.keep b o q)
    have ob : ObjOk X.prog X.w (upd H1 d (.xd [(f, v)])) G' d (.xd [(f, v)]) :=
      ⟨_, hns.at (fun o q => (gk d M.dne).trans q), fun g => relO_one rv f g⟩
    have J : Inv X pins σ (upd H1 d (.xd [(f, v)])) ⟨G', g, dr, tk', os⟩ := I1.laid (t' := tk') old M.dbig ob
    refine ⟨e, oe, fv, ⟨G', g, dr, tk', os⟩, _, .ref C, some d, rfl, J, fun b o q => ?_, ge, hoe, ⟨hc, hd, fun vs9 e9 => by rw [hdat] at e9; cases e9; exact h2⟩, hdat, h1, ?_, rfl, I1.bare, raises_own T.exC T.tyC, q1 d (I1.hok.fresh M.dbig)⟩
    · by_cases hb : b = e
      · have q' : G'.get? b = some o := q
        rw [hb, ge] at q'; cases q'
      · exact (gk b hb).symm.trans q
    · rw [upd_ne (Ne.symm M.dne)]
      exact I1.hok.fresh M.new
/-- raise c(e), the class keeps the argument as its field fld -/
def sRaise (c fld : Str) (f : EF) : SF := fun σ S => (f σ S).out σ fun d S1 => .exc σ c [(fld, d)] S1
theorem ss_raise {a : Expr} {fa : EF} {x : Str} {p pos pos2 : Pos} {k : Nat} (hc : X.calm = true) (tk : L2N.Takes X W) (T : PySem.XsX.XsTxt X.prog X.K X.mg C fI f) (gC : X.mg x = some (.ref C)) (hr : Room k X.A) (ha : SE X W a fa) (hg : Gl X x) (hdb : (x == ("__debug__" : Str)) = false := by decide)
    (he : starEach (a :: []) X.env = (false, eval a X.env) :: starEach [] X.env := by rfl) (hpl : (backTo pos (starEach [] X.env)).any (·.1) = false := by rfl) :
    SS X W (.Raise (some (.Call (.Name x p) [a] [] pos)) none pos2) (sRaise x f fa) := by
  refine ps_weak (L2N.ps_raise hc tk (pmk_xs T gC hr (pa_cons ha pa_nil he) hg hdb he hpl)) fun D σ H ⟨G, σd, S, r, sl, p⟩ => ?_
  refine ⟨G, σd, S, r, sl, (outE p).mono fun v H1 ⟨G1, d, S1, s1, r1, dv, q⟩ => ?_⟩
  refine ⟨v, rfl, fun da hd => ?_⟩
  obtain ⟨s2, r2⟩ := hold_new (o := .xd [(f, v)]) r1 hd
  exact q (.ref C) (some da) σ _ G1 s2 r2 (sl.mono s1.le) ⟨gC, .inr ⟨da, _, rfl, upd_same, .cons dv .nil⟩⟩
end
end PF
/-! PX: an own class: isinstance, fields, properties, ==, making. -/
namespace PF
open PySem PySem.Spec PyProof.Rows L2
/-- what the written part says of the class c, at C -/
structure ClsK (K : PySem.W.Frag) (mg : Str → Option Value) (c : Str) (C : Addr) : Prop where
  gl : mg c = some (.ref C)
  cls : Cls K C
  ha : PySem.W.findIn K (.ref C) "__class__" = some (some (.builtin "object.__class__"))
  hn : PySem.W.specialIn K (.builtin "object.__class__") "__get__" = some (some (.builtin "getset_descriptor.__get__"))
  ht : PySem.W.takesIn K (.builtin "object.__class__") = some true
  hm : PySem.W.mroIn K C (.type "object") = some true
  kit : ∀ t : TT, PySem.W.kitOne K (.type t.nm) (.ref C) = some false
  sub : ∀ t : TT, PySem.W.subIn K (.type t.nm) (.ref C) = some false
section
variable {X : Cx} {W : WX} {e a b : Expr} {x : Str} {p p2 pos : Pos} {fa fb : EF} {c f : Str} {C : Addr}
/-- isinstance(e, c) of the class c -/
def isaC (S : Sto) (c : Str) : D → Option Bool
  | .ins c' _ => if c' = c then some true else none
  | d => (tyT S d).map fun _ => false
def fIsC (c : Str) (f : EF) : EF := fun σ S => (f σ S).bind fun d S1 => match isaC S1 c d with
  | some b => .ok (.bl b) S1
  | none => .bad
theorem isaC_else {S : Sto} {c : Str} {d : D} (h : ∀ c' fs, d ≠ .ins c' fs) : isaC S c d = (tyT S d).map fun _ => false := by
  cases d <;> first | rfl | exact absurd rfl (h _ _)
theorem isaC_ok {K : PySem.W.Frag} {mg : Str → Option Value} {G : Gh} {S : Sto} {H : Hp} {v : V} {d : D} {k : Bool} (T : ClsK K mg c C) (r : Rel K mg G S H) (h : Dq K mg G v d) (e : isaC S c d = some k) : ∃ t, TyX K H v t ∧ PySem.W.kitOne K t (.ref C) = some k := by
  by_cases hi : ∃ c' fs, d = .ins c' fs
  · obtain ⟨c', fs, rfl⟩ := hi
    cases h with
    | @ins a C' dx _ xs _ h1 h2 h3 h4 =>
      have e : (if c' = c then some true else none) = some k := e
      split at e
      · rename_i hc
        cases e
        subst hc
        have eC : C' = C := by rw [T.gl] at h1; cases h1; rfl
        subst eC
        refine ⟨.ref C', .base (.ins (r.sub _ _ h2) T.cls T.ha T.hn T.ht T.hm), ?_⟩
        unfold PySem.W.kitOne
        rw [if_pos (beq_self_eq_true _)]
      · cases e
  · rw [isaC_else fun c' fs z => hi ⟨c', fs, z⟩] at e
    obtain ⟨t, e1, e2⟩ := mapO e
    subst e2
    exact ⟨_, tyT_ok r h e1, T.kit t⟩
theorem se_isC (T : ClsK X.K X.mg c C) (hg : Gl X "isinstance") (hm : X.mg "isinstance" = none) (hgC : Gl X c) (he : SE X W e fa) (hdb : (c == ("__debug__" : Str)) = false := by decide)
    (h1 : starEach (e :: [.Name c p2]) X.env = (false, eval e X.env) :: starEach [.Name c p2] X.env := by rfl) (h2 : starEach (.Name c p2 :: []) X.env = (false, eval (.Name c p2) X.env) :: starEach [] X.env := by rfl) (hpl : (backTo pos (starEach [.Name c p2] X.env)).any (·.1) = false := by rfl) :
    SE X W (.Call (.Name "isinstance" p) [e, .Name c p2] [] pos) (fIsC c fa) := by
  refine pe_weak (pe_callB call_isi hg hm (by decide +kernel) (pa_cons he (pa_cons (pe_glob hgC T.gl (v := .ref C) rfl hdb) pa_nil h2) h1) (by decide) (by decide) h1 hpl) fun σ H Q ⟨G, σd, S, r, sl, p⟩ => ?_
  refine ⟨G, σd, S, r, sl, (bindE p).mono fun v H1 ⟨G1, d, S1, s1, r1, dv, q⟩ => ?_⟩
  cases e1 : isaC S1 c d with
  | none => rw [e1] at q; exact q.elim
  | some k =>
    rw [e1] at q
    obtain ⟨t, h3, h4⟩ := isaC_ok T r1 dv e1
    exact ⟨v, .ref C, _, _, k, rfl, .own C, h3, h4, q _ H1 G1 Stp.rfl' r1 (.bl k)⟩
/-- e.f, a field of an instance of c -/
def fFld (c f : Str) (g : EF) : EF := fun σ S => (g σ S).bind fun d S1 => match d with
  | .ins c' fs => if c' = c then (match fs.lookup f with
    | some u => .ok u S1
    | none => .bad) else .bad
  | _ => .bad
theorem se_fld (T : ClsK X.K X.mg c C) (na : NoAttr X.K C f) (he : SE X W e fa) (hb : attributeBase e f X.env (eval e X.env) = eval e X.env := by rfl) : SE X W (.Attribute e f pos) (fFld c f fa) := by
  refine pe_weak (pe_fld he hb) fun σ H Q ⟨G, σd, S, r, sl, p⟩ => ?_
  refine ⟨G, σd, S, r, sl, (bindE p).mono fun v H1 ⟨G1, d, S1, s1, r1, dv, q⟩ => ?_⟩
  cases dv with
  | @ins a C' dx c' xs ds h1 h2 h3 h4 =>
    have q9 : PostE X.K X.mg W G1 H1 σd (if c' = c then (match ds.lookup f with
      | some u => .ok u S1
      | none => .bad) else .bad) Q := q
    clear q
    split at q9
    · rename_i hc
      subst hc
      have eC : C' = C := by rw [T.gl] at h1; cases h1; rfl
      subst eC
      cases e2 : ds.lookup f with
      | none => rw [e2] at q9; exact q9.elim
      | some u =>
        rw [e2] at q9
        obtain ⟨w, e3, e4⟩ := h4.look e2
        exact ⟨a, C', dx, xs, w, rfl, r1.sub _ _ h2, T.cls, na, e3, q9 w H1 G1 Stp.rfl' r1 e4⟩
    · exact q9.elim
  | _ => exact q.elim
/-- e.f, a property of c that does as F -/
def fProp (c : Str) (F : FF) (g : EF) : EF := fun σ S => (g σ S).bind fun d S1 => match d with
  | .ins c' fs => if c' = c then (match F [.ins c' fs] S1 with
    | .ok u S2 => .ok u S2
    | _ => .bad) else .bad
  | _ => .bad
theorem se_prop {k : Nat} {pa fn : Addr} {fd : FuncData} {ps : List Str} {F : FF} (T : ClsK X.K X.mg c C) (hp : PropOf X.K C f pa fn) (FO : FnOk X.prog X.w X.K X.mg X.base (L2N.CX X.prog X.w) k fn fd ps (spF X.K X.mg 1 F)) (hr : Room (k + 1) X.A) (hbd : Binds X.K fd ps []) (he : SE X W e fa)
    (hb : attributeBase e f X.env (eval e X.env) = eval e X.env := by rfl) : SE X W (.Attribute e f pos) (fProp c F fa) := by
  refine pe_weak (pe_prop he T.cls hp FO hr hbd .nil (passLN (X := X.nox)) hb) fun σ H Q ⟨G, σd, S, r, sl, p⟩ => ?_
  refine ⟨G, σd, S, r, sl, (bindE p).mono fun v H1 ⟨G1, d, S1, s1, r1, dv, q⟩ => ?_⟩
  cases dv with
  | @ins a C' dx c' xs ds h1 h2 h3 h4 =>
    have q9 : PostE X.K X.mg W G1 H1 σd (if c' = c then (match F [.ins c' ds] S1 with
      | .ok u S2 => .ok u S2
      | _ => .bad) else .bad) Q := q
    clear q
    split at q9
    · rename_i hc
      subst hc
      have eC : C' = C := by rw [T.gl] at h1; cases h1; rfl
      subst eC
      refine ⟨a, dx, xs, rfl, r1.sub _ _ h2, rfl, G1, [.ins c' ds], S1, r1, .cons (.ins h1 h2 h3 h4) .nil, ?_⟩
      cases e2 : F [.ins c' ds] S1 with
      | ok u S2 => rw [e2] at q9; exact q9
      | exc c2 fs2 S2 => rw [e2] at q9; exact q9.elim
      | bad => rw [e2] at q9; exact q9.elim
    · exact q9.elim
  | _ => exact q.elim
/-- e == e', e an instance of c with the text's own == -/
def fEqI (c : Str) (F : FF) (g h : EF) : EF := fun σ S => (g σ S).bind fun x S1 => (h σ S1).bind fun y S2 => match x with
  | .ins c' fs => if c' = c ∧ (isaC S2 c y).isSome then (match F [.ins c' fs, y] S2 with
    | .ok (.bl k) S3 => .ok (.bl k) S3
    | _ => .bad) else .bad
  | _ => .bad
theorem tyX_looks {pins : List (Addr × Obj)} {σ : St} {H : Hp} {s : Shared} {v : V} {u t : Value} (I : Inv X pins σ H s) (rv : RelV v u) (ty : TyX X.K H v t) : PySem.W.Looks (model X.prog X.w) s.heap (typeOf u) t := by
  have ofObj : ∀ {a : Addr} {o : Obj}, s.heap.get? a = some o → o.cls = t → PySem.W.Looks (model X.prog X.w) s.heap (typeOf (.ref a)) t := fun {a o} h1 h2 A Q E s' k q => wpAny_typeOf_ref (k _ _ h1) (by rw [h2]; exact q)
  obtain ⟨P, Z, p, _⟩ := kit_of I rv ty
  exact fun A Q E s' k q => (Z.ty (model X.prog X.w) s.heap I.kIn p) A Q E s' k q
theorem isaC_sub {S : Sto} {K : PySem.W.Frag} {mg : Str → Option Value} {G : Gh} {H : Hp} {v : V} {d : D} (T : ClsK K mg c C) (r : Rel K mg G S H) (h : Dq K mg G v d) (e : (isaC S c d).isSome = true) : ∃ t, TyX K H v t ∧ PySem.W.notFirst K C t = true := by
  by_cases hi : ∃ c' fs, d = .ins c' fs
  · obtain ⟨c', fs, rfl⟩ := hi
    cases h with
    | @ins a C' dx _ xs _ h1 h2 h3 h4 =>
      have e : (if c' = c then some true else none).isSome = true := e
      split at e
      · rename_i hc
        subst hc
        have eC : C' = C := by rw [T.gl] at h1; cases h1; rfl
        subst eC
        refine ⟨.ref C', .base (.ins (r.sub _ _ h2) T.cls T.ha T.hn T.ht T.hm), ?_⟩
        unfold PySem.W.notFirst
        rw [beq_self_eq_true, Bool.true_or]
      · cases e
  · rw [isaC_else fun c' fs z => hi ⟨c', fs, z⟩, Option.isSome_map] at e
    obtain ⟨t, e1⟩ := Option.isSome_iff_exists.mp e
    refine ⟨_, tyT_ok r h e1, ?_⟩
    unfold PySem.W.notFirst
    rw [T.sub t, beq_self_eq_true, Bool.or_true]
theorem of_eqI {k : Nat} {fn : Addr} {fd : FuncData} {ps : List Str} {F : FF} (T : ClsK X.K X.mg c C) (hs : PySem.W.findIn X.K (.ref C) "__eq__" = some (some (.ref fn))) (hf : PySem.W.isFn X.K (.ref fn) = true)
    (FO : FnOk X.prog X.w X.K X.mg X.base (L2N.CX X.prog X.w) k fn fd ps (spF X.K X.mg 2 F)) (hr : Room k X.A) (hbd : Binds X.K fd ps []) {pins : List (Addr × Obj)} {s : Shared} {σ : St} {H : Hp} {v u : V} {v' u' : Value} {Q : VK} (I : Inv X pins σ H s) (rv : RelV v v') (ru : RelV u u')
    {G : Gh} {S : Sto} {fs : List (Str × D)} {y : D} {kk : Bool} {S3 : Sto} (r : Rel X.K X.mg G S H) (hx : Dq X.K X.mg G v (.ins c fs)) (hy : Dq X.K X.mg G u y) (hi : (isaC S c y).isSome = true) (e : F [.ins c fs, y] S = .ok (.bl kk) S3)
    (q : ∀ H' G', Stp G H G' H' → Rel X.K X.mg G' S3 H' → Q (.bl kk) H') : wpAny (model X.prog X.w) X.A (compareOp .Eq v' u') (EP X pins σ Q) X.xe s := by
  cases hx with
  | @ins a C' dx _ xs _ h1 h2 h3 h4 =>
    have eC : C' = C := by rw [T.gl] at h1; cases h1; rfl
    subst eC
    cases rv
    obtain ⟨mA, J, _⟩ := ins_get I.hok (r.sub _ _ h2)
    obtain ⟨od, J, _⟩ := J.look
    obtain ⟨m, hF⟩ := I.fr
    obtain ⟨t, ty, hn⟩ := isaC_sub T r hy hi
    show wpAny (model X.prog X.w) X.A (richCompare .Eq (.ref a) u') _ _ _
    refine PySem.W.cmp_K (op := .Eq) (tb := t) hr.units0 hF I.ok.mod.kin J (tyX_looks I ru ty) hn hs hf ?_
    have hsp : spF X.K X.mg 2 F [.ref a, u] H (fun v H' => v = .bl kk ∧ Q v H') (fun _ _ _ => False) := by
      refine ⟨rfl, G, [.ins c fs, y], S, r, .cons (.ins h1 h2 h3 h4) (.cons hy .nil), ?_⟩
      rw [e]
      intro w H' G' s' r' dw
      cases dw
      exact ⟨rfl, q H' G' s' r'⟩
    have hl := FO.len _ _ _ _ hsp
    have r2 : Vals [V.ref a, u] [Value.ref a, u'] := .cons rfl (.cons ru .nil)
    refine wpAny_call (codeAny_mono (FO.run X.A X.stack s H ⟨[.ref a, u'], []⟩ [.ref a, u'] [.ref a, u] _ (fun _ _ _ => False) hr I.env0 (by
      have := hbd s [.ref a, u'] I.kIn (by simpa using hl)
      simpa using this) r2 hsp) fun rr s' hq => ?_)
    cases rr with
    | error er => exact (passLN (X := X.nox) pins σ H s er s' (I.wish _) hq).elim
    | ok fl =>
      cases fl with
      | ret w =>
        obtain ⟨z, H', I', rz, ez, ex⟩ := I.after hq
        subst ez
        cases rz
        exact ⟨.bl kk, H', I', rfl, ex⟩
      | next => exact False.elim hq
      | brk => exact False.elim hq
      | cont => exact False.elim hq
theorem se_eqI {k : Nat} {fn : Addr} {fd : FuncData} {ps : List Str} {F : FF} (T : ClsK X.K X.mg c C) (hs : PySem.W.findIn X.K (.ref C) "__eq__" = some (some (.ref fn))) (hf : PySem.W.isFn X.K (.ref fn) = true)
    (FO : FnOk X.prog X.w X.K X.mg X.base (L2N.CX X.prog X.w) k fn fd ps (spF X.K X.mg 2 F)) (hr : Room k X.A) (hbd : Binds X.K fd ps []) (ha : SE X W a fa) (hb : SE X W b fb) : SE X W (.Compare a [.Eq] [b] pos) (fEqI c F fa fb) := by
  refine pe_weak (pe_cmpR (r := fun v u H Q => ∃ G S fs y kk S3, Rel X.K X.mg G S H ∧ Dq X.K X.mg G v (.ins c fs) ∧ Dq X.K X.mg G u y ∧ (isaC S c y).isSome = true ∧ F [.ins c fs, y] S = .ok (.bl kk) S3 ∧ ∀ H' G', Stp G H G' H' → Rel X.K X.mg G' S3 H' → Q (.bl kk) H')
    (fun pins s σ H v u v' u' Q I rv ru ⟨G, S, fs, y, kk, S3, h1, h2, h3, h4, h5, h6⟩ => of_eqI T hs hf FO hr hbd I rv ru h1 h2 h3 h4 h5 h6) ha hb (nomark _)) fun σ H Q ⟨G, σd, S, r, sl, p⟩ => ?_
  refine ⟨G, σd, S, r, sl, (bindE p).mono fun v H1 ⟨G1, d1, S1, s1, r1, dv1, p1⟩ => ?_⟩
  refine ⟨G1, σd, S1, r1, sl.mono s1.le, (bindE p1).mono fun u H2 ⟨G2, d2, S2, s2, r2, dv2, p2⟩ => ?_⟩
  cases d1 with
  | ins c' fs =>
    have p9 : PostE X.K X.mg W G2 H2 σd (if c' = c ∧ (isaC S2 c d2).isSome then (match F [.ins c' fs, d2] S2 with
      | .ok (.bl k) S3 => .ok (.bl k) S3
      | _ => .bad) else .bad) Q := p2
    clear p2
    split at p9
    · rename_i hc
      obtain ⟨hc, hi⟩ := hc
      subst hc
      cases e : F [.ins c' fs, d2] S2 with
      | ok z S3 =>
        rw [e] at p9
        cases z with
        | bl kk => exact ⟨G2, S2, fs, d2, kk, S3, r2, dv1.mono s2.le, dv2, hi, e, fun H' G' s' r' => p9 _ H' G' s' r' (.bl kk)⟩
        | _ => exact p9.elim
      | exc _ _ _ => rw [e] at p9; exact p9.elim
      | bad => rw [e] at p9; exact p9.elim
    · exact p9.elim
  | _ => exact p2.elim
/-- as a test -/
theorem sb_eqO {g : EF} (h : SE X W e g) (he : ∀ whole, isTrue e X.env whole = (do let v ← whole; standAt e.pos; holding [v] (truthy v)) := by intro _; rfl) : SB X W e (bT g) := sb_truth h he
end
end PF
/-! PX: an instance is made: C(..), its __init__ some statements and one self.f = e. -/
namespace PF
open PySem PySem.Spec PyProof.Rows L2
section
variable {X : Cx} {C f : Addr} {CX : CXT} {k : Nat} {fd : FuncData} {ps : List Str} {sp : Sp} {E : XK} {x : Str} {e : Expr} {es : List Expr} {t : TA} {p pos : Pos}
theorem run_makeS {pins : List (Addr × Obj)} {σ : St} {H : Hp} {s : Shared} {Q : VK} {us : List Value} {vs : List V} (M : Mk X.K C f) (F : FnOk X.prog X.w X.K X.mg X.base CX k f fd ps sp) (hr : Room (k + 1) X.A) (hb : Binds X.K fd ps [])
    (hx : PassesAt CX X σ E) (I : Inv X pins σ H s) (r : Vals vs us)
    (h : ∀ x dx, H x = none → H dx = none → dx ≠ x → sp (.ref x :: vs) (upd (upd H dx (.own x)) x (.ins C dx [])) (fun v H2 => v = .non ∧ Q (.ref x) H2) E) :
    wpAny (model X.prog X.w) X.A (call (.ref C) us) (EP X pins σ Q) X.xe s := by
  have hq := h (s.heap.objs.size + 1) s.heap.objs.size (I.hok.fresh (Nat.le_succ _)) (I.hok.fresh (Nat.le_refl _)) (Nat.ne_of_lt (Nat.lt_succ_self _))
  have I2 := Inv.made (C := C) I
  have r2 : Vals (V.ref (s.heap.objs.size + 1) :: vs) (Value.ref (s.heap.objs.size + 1) :: us) := .cons rfl r
  have hl : (Value.ref (s.heap.objs.size + 1) :: us ++ []).length = ps.length := by
    have e := r2.length
    rw [F.len _ _ _ _ hq] at e
    rw [List.append_nil]
    exact e.symm
  have bb := hb _ (Value.ref (s.heap.objs.size + 1) :: us) I2.kIn hl
  rw [List.append_nil] at bb
  refine wpAny_call (make_map (f := f) I.kIn M.makes M.init (beq_iff_eq.mp M.fn) (codeAny_mono (F.run _ X.stack _ _ ⟨Value.ref (s.heap.objs.size + 1) :: us, []⟩ (Value.ref (s.heap.objs.size + 1) :: us) _ _ E (hr.make C us [])
    (I2.env0.make C us []) bb r2 hq) fun r s' hq' => ?_))
  cases r with
  | error e => exact hx pins _ _ e s' I2 hq'
  | ok fl =>
    cases fl with
    | ret u =>
      obtain ⟨v, H', I3, rv, ev, q3⟩ := I2.after hq'
      subst ev
      exact ⟨rv, ⟨V.ref (s.heap.objs.size + 1), H', I3, rfl, q3⟩⟩
    | next => exact False.elim hq'
    | brk => exact False.elim hq'
    | cont => exact False.elim hq'
def tMakeS (C : Addr) (sp : Sp) (E : St → XK) (t : TA) : TE := fun σ H Q => t σ H fun vs H1 => ∀ x dx, H1 x = none → H1 dx = none → dx ≠ x →
  sp (.ref x :: vs) (upd (upd H1 dx (.own x)) x (.ins C dx [])) (fun v H2 => v = .non ∧ Q (.ref x) H2) (E σ)
theorem pe_makeS {E : St → XK} (M : Mk X.K C f) (F : FnOk X.prog X.w X.K X.mg X.base CX k f fd ps sp) (hr : Room (k + 1) X.A) (hg : Gl X x) (hm : X.mg x = some (.ref C)) (hb : Binds X.K fd ps []) (hx : ∀ σ, PassesAt CX X σ (E σ))
    (ha : PA X (e :: es) t) (hdb : (x == ("__debug__" : Str)) = false := by decide) (he : starEach (e :: es) X.env = (false, eval e X.env) :: starEach es X.env := by rfl) (hpl : (backTo pos (starEach es X.env)).any (·.1) = false := by rfl) :
    PE X (.Call (.Name x p) (e :: es) [] pos) (tMakeS C sp E t) := by
  refine ⟨fun pins s σ H Q I h => ?_⟩
  refine wpAny_Call_Name_kw (ld_glob I hg hm ?_ hdb)
  refine PySem.W.callWith_K (h₀ := X.base) I.ok.mod.kin M.kp (thn (ha.run pos pins s σ H _ I h) fun us s1 ⟨vs, H1, I1, r, q⟩ => ⟨I1.kIn, ?_⟩) he hpl
  exact run_makeS M F hr hb (hx σ) I1 r q
end
/-! ### what __init__ promises -/
abbrev FI := List D → Sto → Res (List (Str × D))
def PostI' (K : PySem.W.Frag) (mg : Str → Option Value) (C x dx : Addr) (G : Gh) (H : Hp) (r : Res (List (Str × D))) (Q : VK) (E : XK) : Prop := match r with
  | .ok fs S' => ∀ H' G' xs, Stp G H G' H' → Rel K mg G' S' H' → DqF K mg G' xs fs → H' x = some (.ins C dx []) → Q .non (upd H' x (.ins C dx xs))
  | .exc c fs S' => ∀ cls d H' G', Stp G H G' H' → Rel K mg G' S' H' → ExcAt K mg G' H' c fs cls d → E cls d H'
  | .bad => False
def spI (K : PySem.W.Frag) (mg : Str → Option Value) (C : Addr) (n : Nat) (F : FI) : Sp := fun vs H Q E => ∃ x dx ws G ds S, vs = .ref x :: ws ∧ ws.length = n ∧ H x = some (.ins C dx []) ∧ G.F x = none ∧ x ∉ G.α ∧
  Rel K mg G S H ∧ DqA K mg G ws ds ∧ PostI' K mg C x dx G H (F (.raw (.ref x) :: ds) S) Q E
/-- self is still what it was -/
def selfOk (σ : Stt) (ds : List D) : Bool := match σ[0]?, ds[0]? with
  | some (some (D.raw v)), some (D.raw u) => decide (v = u)
  | _, _ => false
/-- statements, then self.f = e -/
def initF (N : Nat) (pre : SF) (f : Str) (e : EF) : FI := fun ds S => match pre (startD N ds) S with
  | .nx σ S1 => if selfOk σ ds = true then (match e σ S1 with
    | .ok d S2 => .ok [(f, d)] S2
    | .exc c fs S2 => .exc c fs S2
    | .bad => .bad) else .bad
  | .exc _ c fs S1 => .exc c fs S1
  | _ => .bad
section
variable {P : Program} {w : World} {K : PySem.W.Frag} {mg : Str → Option Value} {base : Heap}
theorem init2_ok {qual nm : Str} {st : Stmt} {fI : Addr} {fd : FuncData} {N ps : List Str} {k n : Nat} {C : Addr} {f : Str} {s1 s2 s3 : Stmt} {a1 a2 : SF} {e : EF} {val : Expr} {q1 q2 q3 : Pos} {self : Str} (FU : FnP K nm qual st fI fd) (S : FnScope N ps (defScope st)) (hn : ps.length = n + 1)
    (cl : Cls K C) (na : NoAttr K C f) (hst : defBody st = [s1, s2, .Assign [.Attribute (.Name self q1) f q2] val q3])
    (hb : ∀ (cdv : Value) (A : Around) (outer : List Env) (s : Shared) (H : Hp) (E : XK), Room k (A.deeper (envOfC qual (defScope st) s.heap.objs.size fI cdv)) →
      SS (cxOf (L2N.CX P w) P w K mg base N qual (defScope st) fI cdv A outer s H E) (fun cls d _ H => E cls d H) s1 a1 ∧
      SS (cxOf (L2N.CX P w) P w K mg base N qual (defScope st) fI cdv A outer s H E) (fun cls d _ H => E cls d H) s2 a2 ∧
      SE (cxOf (L2N.CX P w) P w K mg base N qual (defScope st) fI cdv A outer s H E) (fun cls d _ H => E cls d H) val e ∧
      PE (cxOf (L2N.CX P w) P w K mg base N qual (defScope st) fI cdv A outer s H E) (.Name self q1) (tVar 0) ∧
      swapsWith val (some (.Attribute (.Name self q1) f q2)) q3.line (cxOf (L2N.CX P w) P w K mg base N qual (defScope st) fI cdv A outer s H E).env = pure false) :
    FnOk P w K mg base (L2N.CX P w) (k + 1) fI fd ps (spI K mg C n (initF N.length (sSeq a1 a2) f e)) := by
  refine FU.ok S (fun vs H Q E h => ?_) (fun cdv A outer s H vs Q E hr h => ?_)
  · obtain ⟨x, dx, ws, G, ds, S, rfl, hl, _⟩ := h
    rw [List.length_cons, hl, hn]
  obtain ⟨x, dx, ws, G, ds, S', rfl, hl, hx, hxF, hxα, r, ha, p⟩ := h
  obtain ⟨h1, h2, h3, h4, h5⟩ := hb cdv A outer s H E hr
  refine ⟨tSeq (tS K mg (fun cls d _ H => E cls d H) a1) (tSeq (tS K mg (fun cls d _ H => E cls d H) a2) (sFld K (tVar 0) (tE K mg (fun cls d _ H => E cls d H) e) f)), ?_, ?_⟩
  · rw [hst]
    exact pss_cons h1 (pss_cons h2 (pss_one (ps_fld h4 h3 h5)))
  -- the end
  have fin : ∀ (σ1 : St) (H1 : Hp) (G1 : Gh) (σd : Stt) (S1 : Sto), Stp G H G1 H1 → Rel K mg G1 S1 H1 → Slots K mg G1 σd σ1 →
      PostI' K mg C x dx G H (if selfOk σd (.raw (.ref x) :: ds) = true then (match e σd S1 with
        | .ok d S2 => .ok [(f, d)] S2
        | .exc c fs S2 => .exc c fs S2
        | .bad => .bad) else .bad) Q E → sFld K (tVar 0) (tE K mg (fun cls d _ H => E cls d H) e) f { nx := fun _ H' => Q .non H', rt := Q } σ1 H1 := by
    intro σ1 H1 G1 σd S1 s1 r1 sl q
    split at q
    · rename_i h0
      have h0 : σd[0]? = some (some (.raw (.ref x))) := by
        have h0 : (match σd[0]?, (some (D.raw (.ref x))) with
          | some (some (D.raw v)), some (D.raw u) => decide (v = u)
          | _, _ => false) = true := h0
        split at h0
        · rename_i v u h7 h8
          cases h8
          rw [h7, of_decide_eq_true h0]
        · cases h0
      refine ⟨G1, σd, S1, r1, sl, ?_⟩
      cases ee : e σd S1 with
      | bad => rw [ee] at q; exact q.elim
      | exc c fs S2 => rw [ee] at q; exact fun cls d σ' H' G' s' r' sl' x' => q cls d H' G' (s1.trans s') r' x'
      | ok d S2 =>
        rw [ee] at q
        intro y H2 G2 s2 r2 dv
        obtain ⟨v, hv, dvx⟩ := sl.2 0 _ h0
        cases dvx
        have hx2 : H2 x = some (.ins C dx []) := (s1.trans s2).fr x _ hx (fun _ z => nomatch z) hxα
        refine ⟨.ref x, hv, x, C, dx, [], rfl, hx2, cl, na, by decide, ?_⟩
        exact q H2 G2 [(f, y)] (s1.trans s2) r2 (.cons dv .nil) hx2
    · exact q.elim
  have p : PostI' K mg C x dx G H (match (sSeq a1 a2) (startD N.length (.raw (.ref x) :: ds)) S' with
    | .nx σ S1 => if selfOk σ (.raw (.ref x) :: ds) = true then (match e σ S1 with
      | .ok d S2 => .ok [(f, d)] S2
      | .exc c fs S2 => .exc c fs S2
      | .bad => .bad) else .bad
    | .exc _ c fs S1 => .exc c fs S1
    | _ => .bad) Q E := p
  have ha' : DqA K mg G (.ref x :: ws) (.raw (.ref x) :: ds) := .cons (.raw _) ha
  refine ⟨G, startD N.length (.raw (.ref x) :: ds), S', r, slots_start ha', ?_⟩
  have p : PostI' K mg C x dx G H (match (a1 (startD N.length (.raw (.ref x) :: ds)) S').bind a2 with
    | .nx σ S1 => if selfOk σ (.raw (.ref x) :: ds) = true then (match e σ S1 with
      | .ok d S2 => .ok [(f, d)] S2
      | .exc c fs S2 => .exc c fs S2
      | .bad => .bad) else .bad
    | .exc _ c fs S1 => .exc c fs S1
    | _ => .bad) Q E := p
  cases e1 : a1 (startD N.length (.raw (.ref x) :: ds)) S' with
  | bad => rw [e1] at p; exact p.elim
  | bk σ S1 => rw [e1] at p; exact p.elim
  | ct σ S1 => rw [e1] at p; exact p.elim
  | rt d S1 => rw [e1] at p; exact p.elim
  | exc σ c fs S1 => rw [e1] at p; exact fun cls d σ' H' G' s' r' sl' x' => p cls d H' G' s' r' x'
  | nx σ S1 =>
    rw [e1] at p
    intro σ1 H1 G1 st1 r1 sl1
    refine ⟨G1, σ, S1, r1, sl1, ?_⟩
    have p : PostI' K mg C x dx G H (match a2 σ S1 with
      | .nx σ S1 => if selfOk σ (.raw (.ref x) :: ds) = true then (match e σ S1 with
        | .ok d S2 => .ok [(f, d)] S2
        | .exc c fs S2 => .exc c fs S2
        | .bad => .bad) else .bad
      | .exc _ c fs S1 => .exc c fs S1
      | _ => .bad) Q E := p
    cases e2 : a2 σ S1 with
    | bad => rw [e2] at p; exact p.elim
    | bk σ S1 => rw [e2] at p; exact p.elim
    | ct σ S1 => rw [e2] at p; exact p.elim
    | rt d S1 => rw [e2] at p; exact p.elim
    | exc σ c fs S2 => rw [e2] at p; exact fun cls d σ' H' G' s' r' sl' x' => p cls d H' G' (st1.trans s') r' x'
    | nx σ' S2 =>
      rw [e2] at p
      intro σ2 H2 G2 st2 r2 sl2
      exact fin σ2 H2 G2 σ' S2 (st1.trans st2) r2 sl2 p
end
/-! ### C(..) -/
/-- FI's answer does not hang on where the object stands -/
def fMake (c : Str) (n : Nat) (F : FI) (f : AF) : EF := fun σ S => (f σ S).bind fun ds S1 => if ds.length = n then (match F (.raw .non :: ds) S1 with
  | .ok fs S2 => .ok (.ins c fs) S2
  | .exc c' fs S2 => .exc c' fs S2
  | .bad => .bad) else .bad
section
variable {X : Cx} {W : WX} {e : Expr} {es : List Expr} {p pos : Pos} {f : AF} {c : Str} {C fI : Addr}
theorem se_make {k n : Nat} {fd : FuncData} {ps : List Str} {F : FI} (T : ClsK X.K X.mg c C) (M : Mk X.K C fI) (FO : FnOk X.prog X.w X.K X.mg X.base (L2N.CX X.prog X.w) k fI fd ps (spI X.K X.mg C n F)) (hind : ∀ v ds S, ds.length = n → F (.raw v :: ds) S = F (.raw .non :: ds) S) (hr : Room (k + 1) X.A) (tk : L2N.Takes X W) (hg : Gl X c) (hb : Binds X.K fd ps [])
    (ha : SA X W (e :: es) f) (hdb : (c == ("__debug__" : Str)) = false := by decide) (he : starEach (e :: es) X.env = (false, eval e X.env) :: starEach es X.env := by rfl) (hpl : (backTo pos (starEach es X.env)).any (·.1) = false := by rfl) :
    SE X W (.Call (.Name c p) (e :: es) [] pos) (fMake c n F f) := by
  refine pe_weak (pe_makeS M FO hr hg T.gl hb (fun σ => L2N.passAt tk σ) ha hdb he hpl) fun σ H Q ⟨G, σd, S, r, sl, p⟩ => ?_
  refine ⟨G, σd, S, r, sl, (bindAE p).mono fun xs H1 ⟨G1, ds, S1, s1, r1, dv, q⟩ => fun x dx hx hdx hne => ?_⟩
  split at q
  · rename_i hn
    obtain ⟨sA, rA⟩ := hold_new (o := .own x) r1 hdx
    have hx2 : upd H1 dx (.own x) x = none := by rw [upd_ne (Ne.symm hne)]; exact hx
    obtain ⟨sB, rB⟩ := hold_new (o := .ins C dx []) rA hx2
    obtain ⟨nF, nα⟩ := r1.nF hx
    refine ⟨x, dx, xs, G1, ds, S1, rfl, by rw [dv.length]; exact hn, upd_same, nF, nα, rB, dv, ?_⟩
    rw [hind _ _ _ hn]
    cases ee : F (.raw .non :: ds) S1 with
    | bad => rw [ee] at q; exact q.elim
    | exc c' fs S2 => rw [ee] at q; exact fun cls d H' G' s' r' x' => q cls d σ H' G' ((sA.trans sB).trans s') r' ((sl.mono s1.le).mono s'.le) x'
    | ok fs S2 =>
      rw [ee] at q
      intro H' G' ys s' r' dF hx'
      refine ⟨rfl, ?_⟩
      obtain ⟨_, k1, k2, k3⟩ := hold_end (o := .ins C dx []) (o' := .ins C dx ys) rA hx2 (fun _ z => nomatch z) s' r'
      obtain ⟨k0, k4, k5, k6⟩ := hold_end (o := .own x) (o' := .own x) r1 hdx (fun _ z => nomatch z) k1 k2
      have ehp : upd (upd H' x (.ins C dx ys)) dx (.own x) = upd H' x (.ins C dx ys) := by
        funext b
        by_cases hb : b = dx
        · rw [hb, upd_same, k0]
        · rw [upd_ne hb]
      rw [ehp] at k4 k5
      refine q (.ref x) _ _ k4 k5 (.ins (C := C) (dx := dx) (xs := ys) T.gl ?_ ?_ ((dF.mono k3).mono k6))
      · show upd (upd G'.F x (.ins C dx ys)) dx (.own x) x = _
        rw [upd_ne (Ne.symm hne), upd_same]
      · show upd (upd G'.F x (.ins C dx ys)) dx (.own x) dx = _
        rw [upd_same]
  · exact q.elim
end
end PF
/-! PX: where an exception is handled: the end of a list's iterator, a comprehension. -/
namespace PySem
open PyProof.Rows HotX
section
variable {prog : Program} {w : World} {A : Around} {E : Value → Shared → Prop} {s : Shared}
theorem pyNext_list_end_hot {it l x1 : Addr} {i : Nat} {items : Array Value} {Q : Option Value → Shared → Prop} (hot : HotAt A x1 s.heap) (hne : x1 ≠ it) (hit : s.heap.IsListIter it l i) (hl : s.heap.IsList l items) (hx : items[i]? = none)
    (hQ : ∀ h', (∀ b o, b ≠ it → s.heap.get? b = some o → h'.get? b = some o) → Q none { s with heap := h' }) : wpAny (model prog w) A (pyNext (.ref it)) Q E s := by
  obtain ⟨o, ho, hc, hd⟩ := id hit
  obtain ⟨ol, hol, _, nl, hdl⟩ := hl
  obtain ⟨hh, o1, vs1, h1, d1, c1⟩ := hot
  unfold pyNext
  refine wpAny_bind (wpAny_attempt (wpAny_callSpecial?_slot (name := Str.ofString "__next__") hit.typeIs slot_listiter_next
    (wpAny_call_entry slot_listiter_next hit.typeIs entry_listiter_next ?_ (args_listiter_next _))))
  show wpAny _ _ (field (.ref it) 0 >>= _) _ _ s
  refine wpAny_bind (wpAny_field ho hd (x := .ref l) rfl ?_)
  show wpAny _ _ (if (Value.ref l == Value.none) = true then _ else _) _ _ s
  rw [if_neg (show ¬ ((Value.ref l == Value.none) = true) from Bool.false_ne_true)]
  show wpAny _ _ (field (.ref it) 1 >>= _) _ _ s
  refine wpAny_bind (wpAny_field ho hd (x := .int i 0) rfl ?_)
  show wpAny _ _ (seqItems? (.ref l) >>= _) _ _ s
  refine wpAny_bind (wpAny_seqItems hol hdl ?_)
  simp only [Int.toNat_natCast, hx]
  refine wpAny_bind (wpAny_rule (wpAny_bind (wpAny_setField ho hd (by simp) ?_)))
  show wpAny _ _ (newExc (.type "StopIteration") [] >>= _) _ _ _
  refine wpAny_bind ?_
  simp only [newExc, newTuple]
  refine wpAny_bind (wpAny_newObj_type ?_ (by size_fits))
  refine wpAny_bind (m := firstArgMember _ _) (wpAny_of_eq (a := Value.none) (by first | rfl | (simp only [firstArgMember]; rfl)) ?_)
  refine wpAny_newObj_type ?_ (by size_fits)
  have u1 : ∀ b u, b ≠ it → s.heap.get? b = some u → (s.heap.update it (Obj.mapFields (·.setIfInBounds 0 .none))).get? b = some u := fun b u hb e => by
    rw [Heap.get?_update_other _ _ (Ne.symm hb)]; exact e
  refine raiseNew_hot ⟨hh, o1, vs1, Heap.get?_push_of_some _ (Heap.get?_push_of_some _ (u1 _ _ hne h1)), d1, c1⟩ (Nat.ne_of_lt (Heap.lt_size (Heap.get?_push_of_some _ (u1 _ _ hne h1)))) (Heap.get?_push_size _ rfl) rfl (by first | (simp; done) | (simp; omega) | (simp only [Array.size_append]; simp; omega)) ?_
  refine wpAny_bind (wpAny_isInstance (T := "StopIteration") (b := true) ⟨_, Heap.get?_update_self _ (Heap.get?_push_size _ rfl) rfl, rfl⟩ isSubtype_stop ?_)
  refine wpAny_pure (hQ _ fun b o hb e => ?_)
  rw [Heap.get?_update_other _ _ (Nat.ne_of_gt (Heap.lt_size (Heap.get?_push_of_some _ (u1 _ _ hb e))))]
  exact Heap.get?_push_of_some _ (Heap.get?_push_of_some _ (u1 _ _ hb e))
end
end PySem
namespace PySem
open PyProof.Rows HotX
theorem Goes.listHot {prog : Program} {w : World} {A : Around} {target : Expr} (I l x1 : Addr) (hne : l ≠ I) (hx : x1 ≠ I) (hh : A.handled = some (.ref x1)) (o1 : Obj) (vs1 : Array Value) (d1 : o1.data = .fields vs1) (c1 : vs1[2]? = some .none) (items : Array Value) :
    Goes prog w A target I [I, l, x1] [I] items.size (fun i v _ => items[i]? = some v) (fun i h => h.IsListIter I l i ∧ h.IsList l items ∧ h.get? x1 = some o1) where
  sub := fun b hb => by simp at hb; simp [hb]
  frame := fun i h h' st k => ⟨st.1.at fun o e => k I (by simp) o e, st.2.1.at fun o e => k l (by simp) o e, k x1 (by simp) _ st.2.2⟩
  goes := fun i s Q E hi st hQ => by
    refine wpAny_pyNext_list_item st.1 st.2.1 (x := items[i]) (by simp [hi]) fun h' st' sb => ⟨_, rfl, ?_⟩
    obtain ⟨o, ho, hc, hd⟩ := id st'
    refine letGo_of_cls ho hc hd (by decide) ?_
    exact hQ _ h' s.toks (by simp [hi]) ⟨st', st.2.1.at fun o e => (sb.2 l hne).trans e, (sb.2 x1 hx).trans st.2.2⟩ (fun b o hb e => (sb.2 b (by simpa using hb)).trans e) (Nat.le_refl _)
  stops := fun s Q E st hQ => pyNext_list_end_hot ⟨hh, o1, vs1, st.2.2, d1, c1⟩ hx st.1 st.2.1 (by simp) fun h' k => ⟨rfl, hQ h' s.toks (fun b o hb e => k b o (by simpa using hb) e) (Nat.le_refl _)⟩
  self := fun i s Q E st h => wpAny_pyIter_listiter st.1 h
end PySem
/-! PX: [x[0] for x in e if x[1]] where an exception is handled. -/
namespace PF
open PySem PySem.Spec PyProof.Rows L2 L2H HotX
theorem nlt1 {b N a x : Nat} (ha : a < N) (hx : x < N) (h : b = N ∨ b = a ∨ b = x) : b < N + 1 := by omega
theorem noff {b N C D : Nat} (hb : b < N ∨ b = C) (hC : N + 1 ≤ C) (hD : N + 1 ≤ D) (h : D ≠ C) : ¬ (b = D ∨ b = N) := by omega
theorem nne {b N C : Nat} (hb : b < N + 1) (hC : N + 1 ≤ C) : b ≠ C := by omega
abbrev Row := Addr × Str × Bool
def pickV (rows : List Row) : List V := (rows.filter (·.2.2)).map fun r => V.str r.2.1
/-- rows: the tuples (text, truth) that are walked -/
def tHC (K : PySem.W.Frag) (te : TE) : TE := fun σ H Q => te σ H fun x H1 => ∃ (a : Addr) (rows : List Row), x = .ref a ∧ SqL K H1 a (rows.map fun r => V.ref r.1) ∧ (∀ r ∈ rows, SqT K H1 r.1 [.str r.2.1, .bl r.2.2]) ∧ rows.length ≤ 1000 ∧
  ∀ D, H1 D = none → Q (.ref D) (upd H1 D (.lst (pickV rows)))
section
variable {X : Cx}
theorem item2 {value slice : Expr} {A : Around} {E : Value → Shared → Prop} {s : Shared} {t : Addr} {its : Array Value} {i : Int} {u : Tok} {j : Nat} {x : Value} {Q : Value → Shared → Prop} (ht : IsTup s.heap t its) (hj : seqIndex? i its.size = some j) (hx : its[j]? = some x) (h1 : -(2 ^ 63) ≤ i) (h2 : i < 2 ^ 63)
    (hs : subscripted slice false (.ref t) (.int i u) = operate [.ref t, .int i u] (getItem (.ref t) (.int i u))) (h : Q x s) : wpAny (model X.prog X.w) A (subscriptTail value slice (.ref t) (.int i u)) Q E s :=
  subscriptTail_builtinR (x := x) ht.typeIs slot_tuple_getitem.lookup (PyProof.Rows.getItem_tuple (j := j) (Q := fun r s' => r = x ∧ Q r s') ht h1 h2 hj hx ⟨rfl, h⟩) hs
/-- one turn's object -/
theorem row_at {K : PySem.W.Frag} {H1 : Hp} {pins : List (Addr × Obj)} {σ : St} {s : Shared} (hK : K = X.K) (I : Inv X pins σ H1 s) {r : Row} (h : SqT K H1 r.1 [.str r.2.1, .bl r.2.2]) : ∃ tk : Tok, IsTup s.heap r.1 #[.str r.2.1 tk, .bool r.2.2] := by
  subst hK
  obtain ⟨its, rv, p, _⟩ := I.tuple h
  cases rv with
  | cons r1 r2 =>
    cases r2 with
    | cons r3 r4 =>
      cases r4
      obtain ⟨tk, rfl⟩ := r1
      cases r3
      exact ⟨tk, p⟩
theorem pe_hotComp {iter : Expr} {te : TE} {x : Str} {scope : Scope} {p1 p2 p3 p4 p5 p6 p7 pos : Pos} {j1 j2 : Nat} (hot : HotC X) (he : PE X iter te) (hkind : scope.kind = .function) (hcell : ∀ y ∈ scope.names, y.2 ≠ .cell) (hnames : ∀ y ∈ scope.names, y.2 = .local → scope.names.lookup y.1 = some .local)
    (hfree : ∀ y ∈ scope.names, y.2 ≠ .free) (hx : scope.names.lookup x = some .local) (hd : (x == ("__debug__" : Str)) = false) (hs : ∀ x, foldedSetIterable iter X.env x = pure x := by intro _; rfl) :
    PE X (.ListComp (.Subscript (.Name x p1) (.Constant (.int 0) j1 p2) p3) [⟨.Name x p4, iter, [.Subscript (.Name x p5) (.Constant (.int 1) j2 p6) p7], 0⟩] scope pos) (tHC X.K te) := by
  refine ⟨fun pins s σ H Q I h => ?_⟩
  refine ListComp_goes (cl := cloFrom X.env.cells scope.names []) (closure_ok fun y hy e => absurd e (hfree y hy)) hcell hkind hnames ?_ hs
  refine thn (he.run pins s σ H _ I h) fun v s1 ⟨v', H1, I1, rv, a, rows, ev, hl, hrows, hlen, q⟩ => ?_
  subst ev
  obtain rfl : v = Value.ref a := rv
  obtain ⟨its, rits, pl, hz⟩ := I1.list hl
  obtain ⟨p, ⟨hhd, vs1, hd1, hc1⟩, hp⟩ := hot
  have P1 := I1.pin p (List.mem_append_left _ hp)
  have hlt : a < s1.heap.objs.size := by obtain ⟨n, n1, e, _⟩ := pl; exact Heap.lt_size e
  have hxlt : p.1 < s1.heap.objs.size := Heap.lt_size P1.1
  refine wpAny_pyIter_list pl.isList ?_
  have hitsl : its.length = rows.length := by rw [← rits.length, List.length_map]
  refine ⟨_, _, _, _, _, _, rfl, Goes.listHot s1.heap.objs.size a p.1 (Nat.ne_of_lt hlt) (Nat.ne_of_lt hxlt) hhd p.2 vs1 hd1 hc1 its.toArray, by rw [List.size_toArray, hitsl, sizeLine_eq]; omega,
    ⟨⟨_, Heap.get?_push_size _ rfl, rfl, rfl⟩, pl.isList.push _, Heap.get?_push_of_some _ P1.1⟩, ?_, fun D C s₃ hB => ?_⟩
  · intro b hb
    show b < (s1.heap.push _).objs.size
    rw [Heap.size_push]
    simp only [List.mem_cons, List.not_mem_nil, or_false] at hb
    exact nlt1 hlt hxlt hb
  obtain ⟨⟨h₃, tk₃, rfl⟩, old, nD, nC, hDC, hnm⟩ := hB
  have nC' : s1.heap.objs.size + 1 ≤ C := by rw [Heap.size_push] at nC; exact nC
  have nD' : s1.heap.objs.size + 1 ≤ D := by rw [Heap.size_push] at nD; exact nD
  have kx : (compEnvC scope (cloFrom X.env.cells scope.names []) C X.env).kindOf x = some .local := lookup_relabel_local hx
  have hpc : ((compEnvC scope (cloFrom X.env.cells scope.names []) C X.env).scope.kind == .class || ((compEnvC scope (cloFrom X.env.cells scope.names []) C X.env).scope.kind == .module && (compEnvC scope (cloFrom X.env.cells scope.names []) C X.env).locals != (compEnvC scope (cloFrom X.env.cells scope.names []) C X.env).globals)) = false := by
    show (scope.kind == .class || (scope.kind == .module && _)) = false
    rw [hkind]; rfl
  refine ⟨fun i ys s' => ∃ h' tk m, s' = { s1 with heap := h', toks := tk } ∧ h'.Ns C m ∧ Vals (pickV (rows.take i)) ys ∧ ∀ b o, s1.heap.get? b = some o → h'.get? b = some o, ⟨h₃, tk₃, _, rfl, hnm, by simpa [pickV] using .nil, fun b o e => old b o (Heap.get?_push_of_some _ e)⟩, ?_, ?_, ?_⟩
  · rintro i ys s₁ h' tk ⟨h₄, tk₄, m, rfl, n₄, e₄, k₄⟩ hk' _
    have off : ∀ b : Addr, (b < s1.heap.objs.size ∨ b = C) → b ∉ D :: [s1.heap.objs.size] := fun b hb hm => by
      simp only [List.mem_cons, List.not_mem_nil, or_false] at hm
      exact noff hb nC' nD' hDC hm
    exact ⟨h', tk, m, rfl, n₄.at' fun o e => hk' _ o (off _ (.inr rfl)) e, e₄, fun b o e => hk' b o (off _ (.inl (Heap.lt_size e))) (k₄ b o e)⟩
  · rintro i v ys s₁ hi hv st ⟨h₄, tk₄, m, rfl, n₄, e₄, k₄⟩ hpl
    have hi' : i < rows.length := by rw [List.size_toArray, hitsl] at hi; exact hi
    have hv' : its[i]? = some v := by simpa using hv
    obtain ⟨u, hu, ru⟩ := rits.get (i := i) (x := V.ref (rows[i]).1) (by simp [hi'])
    rw [hv'] at hu
    cases hu
    obtain rfl : v = Value.ref (rows[i]).1 := ru
    obtain ⟨tkr, ht⟩ := row_at rfl I1 (hrows rows[i] (List.getElem_mem hi'))
    have htl : (rows[i]).1 < s1.heap.objs.size := by obtain ⟨o, e, _⟩ := id ht; exact Heap.lt_size e
    have offC : ∀ b : Addr, b < s1.heap.objs.size + 1 → b ≠ C := fun b hb => nne hb nC'
    refine wpAny_assign_Name (wpAny_storeName_local kx n₄ (fun h₅ n₅ s₅ => ?_) hpc)
    have k₅ : ∀ b o, s1.heap.get? b = some o → h₅.get? b = some o := fun b o e => s₅.extBut b o (offC b (Nat.lt_succ_of_lt (Heap.lt_size e))) (k₄ b o e)
    have ht₅ : IsTup h₅ (rows[i]).1 #[.str (rows[i]).2.1 tkr, .bool (rows[i]).2.2] := by
      obtain ⟨o, e, r⟩ := ht
      exact ⟨o, k₅ _ _ e, r⟩
    have st₅ : h₅.IsListIter s1.heap.objs.size a (i + 1) ∧ h₅.IsList a its.toArray ∧ h₅.get? p.1 = some p.2 :=
      ⟨st.1.at fun o e => s₅.extBut _ o (offC _ (Nat.lt_succ_self _)) e, st.2.1.at fun o e => s₅.extBut _ o (offC _ (Nat.lt_succ_of_lt hlt)) e, s₅.extBut _ _ (offC _ (Nat.lt_succ_of_lt hxlt)) st.2.2⟩
    have hpl₅ : h₅.PlainList D ys.toArray := hpl.at fun o e => s₅.extBut _ o hDC e
    have hls : ∀ {tk : Nat} {pp : Pos} {Q' : Value → Shared → Prop} {E' : Value → Shared → Prop}, Q' (.ref (rows[i]).1) { s1 with heap := h₅, toks := tk } →
        wpAny (model X.prog X.w) X.A (eval (.Name x pp) (compEnvC scope (cloFrom X.env.cells scope.names []) C X.env)) Q' E' { s1 with heap := h₅, toks := tk } := fun {tk pp Q' E'} hq => by
      rw [eval_Name _ _ _ hd]
      exact wpAny_bind (wpAny_standAt (wpAny_loadName_local hkind kx n₅ (v := .ref (rows[i]).1) (if_pos rfl) hq))
    have hrow : pickV (rows.take (i + 1)) = pickV (rows.take i) ++ (if (rows[i]).2.2 = true then [V.str (rows[i]).2.1] else []) := by
      unfold pickV
      rw [List.take_add_one, List.getElem?_eq_getElem hi', List.filter_append, List.map_append]
      congr 1
      cases hb : (rows[i]).2.2 <;> simp [hb]
    refine wpAny_tests_one ?_
    refine wpAny_isTrue_value (Subscript_ (hls (wpAny_Constant_int (item2 (j := 1) ht₅ rfl rfl (by decide) (by decide) rfl (wpAny_truthy_bool ?_)))))
    cases hb : (rows[i]).2.2 with
    | false =>
      rw [if_neg Bool.false_ne_true]
      refine ⟨⟨h₅, _, _, rfl, n₅, ?_, k₅⟩, st₅, hpl₅⟩
      rw [hrow, hb, if_neg Bool.false_ne_true, List.append_nil]
      exact e₄
    | true =>
      rw [if_pos rfl]
      refine Subscript_ (hls (wpAny_Constant_int (item2 (j := 0) ht₅ rfl rfl (by decide) (by decide) rfl ?_)))
      refine ⟨⟨h₅, _, _, rfl, n₅, ?_, k₅⟩, st₅, hpl₅⟩
      rw [hrow, hb, if_pos rfl]
      exact e₄.append (.cons ⟨tkr, rfl⟩ .nil)
  · rintro ys s₁ ⟨h₄, tk₄, m, rfl, n₄, e₄, k₄⟩ hpl
    refine ⟨m, n₄, fun h' hs' => ?_⟩
    have e₅ : Vals (pickV rows) ys := by
      have z : rows.take its.toArray.size = rows := List.take_of_length_le (by rw [List.size_toArray, hitsl]; exact Nat.le_refl _)
      rw [z] at e₄
      exact e₄
    have kk : ∀ b o, s1.heap.get? b = some o → h'.get? b = some o := fun b o e => hs'.extBut b o (nne (Nat.lt_succ_of_lt (Heap.lt_size e)) nC') (k₄ b o e)
    obtain ⟨n, hD⟩ := hpl.extBut hs'.extBut hDC
    have hpk : (pickV rows).length ≤ sizeLine := by
      have : (pickV rows).length ≤ rows.length := by
        unfold pickV
        rw [List.length_map]
        exact List.length_filter_le _ _
      rw [sizeLine_eq]; omega
    exact ⟨.ref D, _, I1.laid (t' := tk₄) (o := .lst (pickV rows)) kk (Nat.le_trans (Nat.le_succ _) nD') ⟨hpk, ys, n, e₅, hD⟩, rfl, q D (I1.hok.fresh (Nat.le_trans (Nat.le_succ _) nD'))⟩
end
end PF
/-! PX: except (A, B, ..) as x: a tuple of any length. -/
namespace PySem.W
open PySem PySem.Spec PySem.Calls PyProof.Rows
section
variable {M : Model} {K : Frag} {h : Heap}
theorem forIn_unit {f : Value → PUnit → Sem (ForInStep PUnit)} : ∀ {l : List Value}, (∀ c ∈ l, Looks M h (f c ⟨⟩) (.yield ⟨⟩)) → Looks M h (forIn l PUnit.unit f) ⟨⟩
  | [], _ => by
    rw [List.forIn_nil]
    exact .now
  | c :: l, hf => by
    rw [List.forIn_cons]
    exact (hf c List.mem_cons_self).andThen (forIn_unit fun c hc => hf c (List.mem_cons_of_mem _ hc))
theorem forIn_find {β : Type} {f : Value → β → Sem (ForInStep β)} {b d : β} : ∀ {l : List Value} {bs : List Bool}, l.length = bs.length → (∀ (i : Nat) c x, l[i]? = some c → bs[i]? = some x → Looks M h (f c b) (if x = true then .done d else .yield b)) → Looks M h (forIn l b f) (if bs.any id = true then d else b)
  | [], [], _, _ => by
    rw [List.forIn_nil]
    exact .now
  | [], _ :: _, hl, _ => by cases hl
  | _ :: _, [], hl, _ => by cases hl
  | c :: l, x :: bs, hl, hf => by
    rw [List.forIn_cons]
    have h0 := hf 0 c x rfl rfl
    refine h0.andThen ?_
    cases x with
    | true =>
      rw [if_pos rfl]
      show Looks M h (pure d) _
      rw [List.any_cons]
      simp only [id, Bool.true_or, if_true]
      exact .now
    | false =>
      rw [if_neg Bool.false_ne_true]
      show Looks M h (forIn l b f) _
      rw [List.any_cons]
      simp only [id, Bool.false_or]
      exact forIn_find (by simpa using hl) fun i c y h1 h2 => hf (i + 1) c y (by simpa using h1) (by simpa using h2)
theorem exm_tupN {cs : List Value} {bs : List Bool} {cls : Value} {tp e : Addr} {n : Nat} {dd : Option Addr} {sl : Array (Option Value)} (X : K.In h) (LT : Looks M h (typeOf (.ref e)) cls) (hp : h.get? tp = some { cls := .type "tuple", dict := dd, data := .seq cs.toArray n, slots := sl })
    (hl : cs.length = bs.length) (hx : ∀ (i : Nat) c x, cs[i]? = some c → bs[i]? = some x → exmOne K cls c = some x) : Looks M h (excMatches (.ref e) (.ref tp)) (bs.any id) := by
  intro A Q E s k₀ q
  obtain ⟨hh, g, d, tk, os⟩ := s
  have k : ∀ b o, h.get? b = some o → hh.get? b = some o := k₀
  have LT0 : Looks M h (isInstance (.ref tp) (.type "tuple")) true := ((Looks.ld hp).andThen .now).andThen (Looks.of_pure isSubtype_tuple_tuple)
  have get : ∀ c ∈ cs, ∃ (i : Nat) (x : Bool), cs[i]? = some c ∧ bs[i]? = some x := fun c hc => by
    obtain ⟨i, hi, e⟩ := List.mem_iff_getElem.mp hc
    exact ⟨i, bs[i]'(by omega), by rw [List.getElem?_eq_getElem hi, e], List.getElem?_eq_getElem _⟩
  have hp' := k _ _ hp
  unfold excMatches
  refine wpAny_bind ((LT0.keeps k).at ?_)
  dsimp only
  rw [if_pos rfl]
  first
    | refine wpAny_bind (wpAny_seqItems hp' rfl ?_)
    | refine wpAny_bind (wpAny_bind (wpAny_seqItems hp' rfl (wpAny_pure ?_)))
  dsimp only [Option.getD_some, Option.getD]
  first
    | refine wpAny_pure ?_
    | refine wpAny_bind (wpAny_pure ?_)
  refine wpAny_bind (Looks.at ((forIn_unit fun c hc => ?_).keeps k) ?_)
  · obtain ⟨i, x, h1, h2⟩ := get c hc
    obtain ⟨e1, _⟩ := exm_cls (M := M) X (hx i c x h1 h2)
    refine e1.andThen ?_
    simp only [Bool.not_true, Bool.false_eq_true, if_false]
    exact .now
  refine wpAny_bind ((LT.keeps k).at ?_)
  refine wpAny_bind (Looks.at ((forIn_find (d := ⟨some true, ⟨⟩⟩) hl fun i c x h1 h2 => ?_).keeps k) ?_)
  · obtain ⟨_, e2⟩ := exm_cls (M := M) X (hx i c x h1 h2)
    refine e2.andThen ?_
    cases x <;> (simp only [Bool.false_eq_true, if_false, if_true]; exact .now)
  · cases hb : bs.any id with
    | true => rw [hb] at q; exact wpAny_pure q
    | false => rw [hb] at q; exact wpAny_pure q
end
end PySem.W
/-! PX: defs called where an exception is handled; what they read of it. -/
namespace PF
open PySem PySem.Spec PyProof.Rows L2 L2H HotX
theorem _root_.L2H.RoomH.units {k : Nat} {A : Around} (r : RoomH k A) : A.units + 64 < cLine := by have := r.un; omega
/-- X holds p, the handled exception -/
def HotP (X : Cx) (p : Addr × Obj) : Prop := Hot1 X.A p ∧ p ∈ X.pn
theorem HotP.hot {X : Cx} {p : Addr × Obj} (h : HotP X p) : HotC X := ⟨p, h⟩
/-- as L2H.FnH, the exception known -/
structure FnH1 (P : Program) (w : World) (K : PySem.W.Frag) (mg : Str → Option Value) (base : Heap) (CX : CXT) (k : Nat) (p : Addr × Obj) (f : Addr) (fd : FuncData) (ps : List Str) (sp : Sp) : Prop where
  len : ∀ vs H Q E, sp vs H Q E → vs.length = ps.length
  run : ∀ (A : Around) (outer : List Env) (s : Shared) (H : Hp) (args : Args) (us : List Value) (vs : List V) (Q : VK) (E : XK), RoomH k A → Hot1 A p → PinOk outer H s p → Env0 P w K mg base A outer s H → BindsTo s fd args (ps.zip us) → Vals vs us → sp vs H Q E →
    codeAny (model P w) A (.call (.ref f) args) (CR CX outer P w H s Q E) s
theorem fn_ofH1 {CX : CXT} {P : Program} {w : World} {K : PySem.W.Frag} {mg : Str → Option Value} {base : Heap} {k : Nat} {p : Addr × Obj} {f : Addr} {name qual : Str} {params : Arguments} {body : List Stmt} {scope : Scope} {dV kV doc pm cdv ct oc : Value} {an od : Option Addr}
    {osl : Array (Option Value)} {N ps : List Str} {sp : Sp} (lk : K.lookup f = some ⟨oc, od, .func (PySem.W.fnOf name qual params body scope dV kV doc pm an cdv ct), osl⟩) (hcd : PySem.W.codeIn K cdv qual = true) (S : FnScope N ps scope)
    (len : ∀ vs H Q E, sp vs H Q E → vs.length = ps.length)
    (hbody : ∀ (A : Around) (outer : List Env) (s : Shared) (H : Hp) (vs : List V) (Q : VK) (E : XK), Hot1 A p → RoomH k (A.deeper (envOfC qual scope s.heap.objs.size f cdv)) → sp vs H Q E →
      ∃ t, PSs (cxH CX P w K mg base N qual scope f cdv A outer s H E p) body t ∧ t { nx := fun _ H' => Q .non H', rt := Q } (L2.start N vs) H) :
    FnH1 P w K mg base CX (k + 1) p f (PySem.W.fnOf name qual params body scope dV kV doc pm an cdv ct) ps sp := by
  refine ⟨len, fun A outer s H args us vs Q E hr hot hpin e0 hb r hsp => ?_⟩
  have hl := len _ _ _ _ hsp
  have KX : K.In s.heap := e0.mod.kin.keeps fun b o e => (e0.bs b o e).1
  have lim : s.heap.NoLimit := e0.mod.nolimit.keeps fun b o e => (e0.bs b o e).1
  have hkind : ∀ y ∈ ps.zip us, scope.names.lookup y.1 = some .local ∨ (scope.names.lookup y.1 = some .cell ∧ ((cellsFrom (s.heap.objs.size + 1) scope.names []).lookup y.1).isSome = true) := fun ⟨n, v⟩ hy => by
    rcases S.par n (List.of_mem_zip hy).1 with q | q
    · exact .inl q
    · exact .inr ⟨q, PySem.W.cellsFrom_some _ _ _ (.inl q)⟩
  refine codeAny_call_function hr.depth (KX _ _ lk) rfl S.co S.gen rfl (PySem.W.codeRec_of KX hcd) (hb _ _ _ _ ?_)
  refine wpAny_newFunctionEnv_cells S.kind hkind fun env he s1 x => ?_
  subst he
  refine ⟨lim.keeps x.toInCall.keep, codeAny_func ?_⟩
  obtain ⟨t, ht, hq⟩ := hbody A outer s H vs Q E hot (hr.deeper _) hsp
  have I : Inv (cxH CX P w K mg base N qual scope f cdv A outer s H E p) [] (L2.start N vs) H s1 := inv_startH S hpin e0 hl r x
  refine wpAny_mono (ht.run [] s1 (L2.start N vs) H _ I hq) (fun fl s' hs => ?_) fun e s' hs => hs
  have fin : ∀ {σ' : St} {H' : Hp} {v : V} {u : Value}, Inv (cxH CX P w K mg base N qual scope f cdv A outer s H E p) [] σ' H' s' → RelV v u → Q v H' → CE outer P w H s Q u s' :=
    fun {σ' H' v u} J rv q => ⟨v, H', J.os, J.bare, J.base, J.hok, rv, q⟩
  cases fl with
  | ret u =>
    obtain ⟨v, σ', H', J, rv, q⟩ := hs
    exact fin J rv q
  | next =>
    obtain ⟨σ', H', J, q⟩ := hs
    exact fin (v := V.non) (u := Value.none) J rfl q
  | brk =>
    obtain ⟨_, _, _, q⟩ := hs
    exact False.elim q
  | cont =>
    obtain ⟨_, _, _, q⟩ := hs
    exact False.elim q
section
variable {X : Cx} {CX : CXT} {k : Nat} {f : Addr} {p : Addr × Obj} {fd : FuncData} {ps : List Str} {sp : Sp} {E : St → XK} {x : Str} {q pos : Pos} {e : Expr} {es : List Expr} {t : TA}
theorem run_fnH1 {pins : List (Addr × Obj)} {σ : St} {H : Hp} {s : Shared} {Q : VK} {us : List Value} {vs : List V} (F : FnH1 X.prog X.w X.K X.mg X.base CX k p f fd ps sp) (hr : RoomH k X.A) (hc : HotP X p) (hb : Binds X.K fd ps []) (hx : PassesAt CX X σ (E σ))
    (I : Inv X pins σ H s) (r : Vals vs us) (h : sp vs H Q (E σ)) : wpAny (model X.prog X.w) X.A (call (.ref f) us) (EP X pins σ Q) X.xe s := by
  obtain ⟨hot, hp⟩ := hc
  have hl : us.length = ps.length := by rw [← r.length]; exact F.len _ _ _ _ h
  have b := hb s us I.kIn (by rw [List.append_nil]; exact hl)
  rw [List.append_nil] at b
  have P1 := I.pin p (List.mem_append_left _ hp)
  have hpin : PinOk X.stack H s p := ⟨P1.1, P1.2.1, fun hm => (List.mem_cons.mp (I.stkSub p.1 hm)).elim P1.2.2.1 P1.2.2.2.1, P1.2.2.2.2⟩
  refine wpAny_call (codeAny_mono (F.run X.A X.stack s H ⟨us, []⟩ us vs Q (E σ) hr hot hpin I.env0 b r h) fun r s' hq => ?_)
  cases r with
  | error e => exact hx pins H s e s' I hq
  | ok fl =>
    cases fl with
    | ret u => exact I.after hq
    | next => exact False.elim hq
    | brk => exact False.elim hq
    | cont => exact False.elim hq
theorem pe_callH1 (F : FnH1 X.prog X.w X.K X.mg X.base CX k p f fd ps sp) (hr : RoomH k X.A) (hc : HotP X p) (hg : Gl X x) (hm : X.mg x = some (.ref f)) (hk : PySem.W.keepIn X.K (.ref f) = true) (hb : Binds X.K fd ps []) (hx : ∀ σ, PassesAt CX X σ (E σ))
    (ha : PA X (e :: es) t) (hdb : (x == ("__debug__" : Str)) = false := by decide) (he : starEach (e :: es) X.env = (false, eval e X.env) :: starEach es X.env := by rfl) (hpl : (backTo pos (starEach es X.env)).any (·.1) = false := by rfl) :
    PE X (.Call (.Name x q) (e :: es) [] pos) (tCallS sp E t) := by
  refine ⟨fun pins s σ H Q I h => ?_⟩
  refine wpAny_Call_Name_kw (ld_glob I hg hm ?_ hdb)
  refine PySem.W.callWith_K (h₀ := X.base) I.ok.mod.kin hk (thn (ha.run pos pins s σ H _ I h) fun us s1 ⟨vs, H1, I1, r, q⟩ => ⟨I1.kIn, ?_⟩) he hpl
  exact run_fnH1 F hr hc hb (hx σ) I1 r q
end
/-- a def of the module that does as F where p is handled -/
def OwnH (P : Program) (w : World) (K : PySem.W.Frag) (mg : Str → Option Value) (base : Heap) (k : Nat) (p : Addr × Obj) (x : Str) (n : Nat) (F : FF) : Prop :=
  ∃ f fd ps, mg x = some (.ref f) ∧ PySem.W.keepIn K (.ref f) = true ∧ Binds K fd ps [] ∧ FnH1 P w K mg base (L2N.CX P w) k p f fd ps (spF K mg n F)
section
variable {P : Program} {w : World} {K : PySem.W.Frag} {mg : Str → Option Value} {base : Heap}
theorem ownH_of {x : Str} {st : Stmt} {N ps : List Str} {k n : Nat} {p : Addr × Obj} {body : SF} (D : DefAt K mg x st) (S : FnScope N ps (defScope st)) (hn : ps.length = n)
    (hbd : ∀ (kV doc pm : Value) (an : Option Addr) (cdv ct : Value) (us : List Value), us.length = ps.length → bindArgs (PySem.W.fnOf x x (defArgs st) (defBody st) (defScope st) .none kV doc pm an cdv ct) ⟨us, []⟩ = pure (ps.zip us))
    (hb : ∀ (f : Addr) (cdv : Value) (A : Around) (outer : List Env) (s : Shared) (H : Hp) (E : XK), Hot1 A p → RoomH k (A.deeper (envOfC x (defScope st) s.heap.objs.size f cdv)) →
      SSs (cxH (L2N.CX P w) P w K mg base N x (defScope st) f cdv A outer s H E p) (fun cls d _ H => E cls d H) (defBody st) body) : OwnH P w K mg base (k + 1) p x n (runF N.length body) := by
  obtain ⟨f, fd, FU, gl⟩ := D
  refine ⟨f, fd, ps, gl, FU.kp, FU.bindsN hbd, ?_⟩
  obtain ⟨oc, od, dV, kV, doc, pm, an, cdv, ct, osl, rfl, lk, hcd, _, _⟩ := FU.ex
  refine fn_ofH1 lk hcd S (fun vs H Q E h => by rw [h.1, hn]) fun A outer s H vs Q E hot hr h => ⟨_, hb f cdv A outer s H E hot hr, ?_⟩
  obtain ⟨hl, G, ds, S', r, ha, p⟩ := h
  refine ⟨G, startD N.length ds, S', r, slots_start ha, ?_⟩
  unfold runF Out.res at p
  show PostS K mg _ G H (body (startD N.length ds) S') _
  cases e : body (startD N.length ds) S' with
  | nx σ S1 => rw [e] at p; exact fun σ' H' G' s' r' sl' => p .non H' G' s' r' .non
  | rt d S1 => rw [e] at p; exact p
  | bk σ S1 => rw [e] at p; exact p.elim
  | ct σ S1 => rw [e] at p; exact p.elim
  | exc σ c fs S1 => rw [e] at p; exact fun cls d σ' H' G' s' r' sl' x' => p cls d H' G' s' r' x'
  | bad => rw [e] at p; exact p
end
section
variable {X : Cx} {W : WX} {e : Expr} {es : List Expr} {x : Str} {q pos : Pos} {f : AF} {p : Addr × Obj}
theorem se_ownH {k n : Nat} {F : FF} (h : OwnH X.prog X.w X.K X.mg X.base k p x n F) (hr : RoomH k X.A) (hc : HotP X p) (tk : L2N.Takes X W) (hg : Gl X x) (ha : SA X W (e :: es) f) (hdb : (x == ("__debug__" : Str)) = false := by decide)
    (he : starEach (e :: es) X.env = (false, eval e X.env) :: starEach es X.env := by rfl) (hpl : (backTo pos (starEach es X.env)).any (·.1) = false := by rfl) : SE X W (.Call (.Name x q) (e :: es) [] pos) (fCall n F f) := by
  obtain ⟨fn, fd, ps, h1, h2, h3, h4⟩ := h
  exact pe_weak (pe_callH1 h4 hr hc hg h1 h2 h3 (fun σ => L2N.passAt tk σ) ha hdb he hpl) fun _ _ _ q => stepF q
end
end PF
/-! PX: what is read of a handled exception: its class, its field. -/
namespace PF
open PySem PySem.Spec PyProof.Rows L2 L2H HotX
/-- what the written part says of the exception class at C -/
structure XcK (K : PySem.W.Frag) (C : Addr) : Prop where
  xf : XfC K C
  cl : (PySem.W.clsIn K C).isSome = true
  ha : PySem.W.findIn K (.ref C) "__class__" = some (some (.builtin "object.__class__"))
  hn : PySem.W.specialIn K (.builtin "object.__class__") "__get__" = some (some (.builtin "getset_descriptor.__get__"))
  ht : PySem.W.takesIn K (.builtin "object.__class__") = some true
  hm : PySem.W.mroIn K C (.type "object") = some true
/-- p's object is of the class at C, its dict at d -/
structure PinX (p : Addr × Obj) (C d : Addr) : Prop where
  z : Zc (.ref C) (some d) p.2
  f : ∃ vs, p.2.data = .fields vs
section
variable {X : Cx} {W : WX} {e : Expr} {x f : Str} {p : Addr × Obj} {C d : Addr} {fa : EF} {q1 q2 pos : Pos}
theorem pin_at {pins : List (Addr × Obj)} {σ : St} {H : Hp} {s : Shared} {xs : List (Str × V)} (I : Inv X pins σ H s) (hp : p ∈ X.pn) (P : PinX p C d) (h : H d = some (.xd xs)) :
    ∃ od, PySem.W.InstAt s.heap p.1 p.2 C (some od) ∧ s.heap.get? p.1 = some p.2 ∧ ∀ g, ∃ r, PySem.W.lookIn g od = some r ∧ RelO (xs.lookup g) r := by
  obtain ⟨ha, _⟩ := I.pin p (List.mem_append_left _ hp)
  obtain ⟨mA, hns, hr⟩ := (I.hok d _ h : ObjOk X.prog X.w H s.heap d (.xd xs))
  obtain ⟨od, ho, hl⟩ := lookIn_ns hns
  obtain ⟨vs, hd⟩ := P.f
  exact ⟨od, ⟨ha, P.z.1, by unfold PySem.W.notCls; rw [hd] <;> rfl, by rw [P.z.2]; exact ho⟩, ha, fun g => ⟨mA g, hl g, hr g⟩⟩
/-- isinstance(e, x): e the handled exception at a -/
def fIsX (a d : Addr) (b : Bool) (f : EF) : EF := fun σ S => (f σ S).bind fun v S1 => match v with
  | .exn a' d' _ _ => if a' = a ∧ d' = d then .ok (.bl b) S1 else .bad
  | _ => .bad
def rIsX (a d : Addr) (cv : Value) (b : Bool) : List V → Hp → VK → Prop := fun vs H Q => ∃ (c : V) (xs : List (Str × V)), vs = [.ref a, c] ∧ (∀ u, RelV c u → u = cv) ∧ H d = some (.xd xs) ∧ Q (.bl b) H
theorem call_isX {cv : Value} {b : Bool} (hp : p ∈ X.pn) (P : PinX p C d) (T : XcK X.K C) (hk : PySem.W.kitOne X.K (.ref C) cv = some b) : CallR X (.builtin "isinstance") (rIsX p.1 d cv b) := by
  intro pins s σ H vs us Q I r h
  obtain ⟨c, xs, rfl, hcv, hd, q⟩ := h
  cases r with
  | cons rx rr =>
    cases rr with
    | cons rt rr =>
      cases rr
      cases rx
      have ec := hcv _ rt
      subst ec
      obtain ⟨od, J, _, _⟩ := pin_at I hp P hd
      exact PySem.W.kia_one (PySem.W.kitx_exc T.cl T.xf.ga T.xf.gg T.xf.exC T.ha T.hn T.ht T.hm) I.kIn J hk (fun z => nomatch z) fun tk => ⟨.bl b, H, I.kept (t' := tk) fun _ _ z => z, rfl, q⟩
theorem se_isX {Cx : Addr} {b : Bool} (hp : p ∈ X.pn) (P : PinX p C d) (T : XcK X.K C) (hk : PySem.W.kitOne X.K (.ref C) (.ref Cx) = some b) (hg : Gl X "isinstance") (hm : X.mg "isinstance" = none) (hgC : Gl X x) (hmC : X.mg x = some (.ref Cx)) (he : SE X W e fa) (hdb : (x == ("__debug__" : Str)) = false := by decide)
    (h1 : starEach (e :: [.Name x q2]) X.env = (false, eval e X.env) :: starEach [.Name x q2] X.env := by rfl) (h2 : starEach (.Name x q2 :: []) X.env = (false, eval (.Name x q2) X.env) :: starEach [] X.env := by rfl) (hpl : (backTo pos (starEach [.Name x q2] X.env)).any (·.1) = false := by rfl) :
    SE X W (.Call (.Name "isinstance" q1) [e, .Name x q2] [] pos) (fIsX p.1 d b fa) := by
  refine pe_weak (pe_callB (call_isX hp P T hk) hg hm (by decide +kernel) (pa_cons he (pa_cons (pe_glob hgC hmC (v := .ref Cx) rfl hdb) pa_nil h2) h1) (by decide) (by decide) h1 hpl) fun σ H Q ⟨G, σd, S, r, sl, pp⟩ => ?_
  refine ⟨G, σd, S, r, sl, (bindE pp).mono fun v H1 ⟨G1, dd, S1, s1, r1, dv, q⟩ => ?_⟩
  cases dv with
  | @exn a' d' c' xs ds h3 h4 =>
    have q9 : PostE X.K X.mg W G1 H1 σd (if a' = p.1 ∧ d' = d then .ok (.bl b) S1 else .bad) Q := q
    clear q
    split at q9
    · rename_i hh
      obtain ⟨e1, e2⟩ := hh
      subst e1 e2
      exact ⟨.ref Cx, xs, rfl, fun u z => z, r1.sub _ _ h3, q9 _ H1 G1 Stp.rfl' r1 (.bl b)⟩
    · exact q9.elim
  | _ => exact q.elim
/-- e.f: e the handled exception -/
def fXf (a d : Addr) (f : Str) (g : EF) : EF := fun σ S => (g σ S).bind fun v S1 => match v with
  | .exn a' d' _ fs => if a' = a ∧ d' = d then (match fs.lookup f with
    | some u => .ok u S1
    | none => .bad) else .bad
  | _ => .bad
def tXg (a d : Addr) (f : Str) (te : TE) : TE := fun σ H Q => te σ H fun x H1 => x = .ref a ∧ ∃ (xs : List (Str × V)) (v : V), H1 d = some (.xd xs) ∧ xs.lookup f = some v ∧ Q v H1
theorem pe_xg {te : TE} (hp : p ∈ X.pn) (P : PinX p C d) (T : XcK X.K C) (hno : PySem.W.findIn X.K (.ref C) f = some none) (he : PE X e te) (hb : attributeBase e f X.env (eval e X.env) = eval e X.env := by rfl) : PE X (.Attribute e f pos) (tXg p.1 d f te) := by
  refine ⟨fun pins s σ H Q I h => ?_⟩
  refine attr_of hb (thn (he.run pins s σ H _ I h) fun u s1 hh => ?_)
  obtain ⟨x, H1, I1, rx, ex, xs, v, ea, l, q⟩ := hh
  subst ex
  obtain rfl : u = Value.ref p.1 := rx
  obtain ⟨od, J, _, hl⟩ := pin_at I1 hp P ea
  obtain ⟨o9, hl9, hr9⟩ := hl f
  obtain ⟨u, hu, ru⟩ := RelO.some_of (v := v) (o := o9) (by rw [← l]; exact hr9)
  exact HandSPX.exc_get I1.kIn J T.xf.ga T.xf.gg T.xf.exC (PySem.W.findObj_own T.xf.hdC hno rfl (by rw [hl9, hu])) (handed_of ru) ⟨v, H1, I1.tok _, ru, q⟩
theorem se_xf (hp : p ∈ X.pn) (P : PinX p C d) (T : XcK X.K C) (hno : PySem.W.findIn X.K (.ref C) f = some none) (he : SE X W e fa) (hb : attributeBase e f X.env (eval e X.env) = eval e X.env := by rfl) : SE X W (.Attribute e f pos) (fXf p.1 d f fa) := by
  refine pe_weak (pe_xg hp P T hno he hb) fun σ H Q ⟨G, σd, S, r, sl, pp⟩ => ?_
  refine ⟨G, σd, S, r, sl, (bindE pp).mono fun v H1 ⟨G1, dd, S1, s1, r1, dv, q⟩ => ?_⟩
  cases dv with
  | @exn a' d' c' xs ds h3 h4 =>
    have q9 : PostE X.K X.mg W G1 H1 σd (if a' = p.1 ∧ d' = d then (match ds.lookup f with
      | some u => .ok u S1
      | none => .bad) else .bad) Q := q
    clear q
    split at q9
    · rename_i hh
      obtain ⟨e1, e2⟩ := hh
      subst e1 e2
      cases e3 : ds.lookup f with
      | none => rw [e3] at q9; exact q9.elim
      | some u =>
        rw [e3] at q9
        obtain ⟨w, e4, e5⟩ := h4.look e3
        exact ⟨rfl, xs, w, r1.sub _ _ h3, e4, q9 w H1 G1 Stp.rfl' r1 e5⟩
    · exact q9.elim
  | _ => exact q.elim
/-- rows (text, truth) -/
def rowsD : List D → Option (List (Str × Bool))
  | [] => some []
  | .tup [.str a, .bl b] :: l => (rowsD l).map ((a, b) :: ·)
  | _ => none
def pickD (rows : List (Str × Bool)) : List D := (rows.filter (·.2)).map fun r => .str r.1
/-- [x[0] for x in e if x[1]] -/
def fHotC (f : EF) : EF := fun σ S => (f σ S).bind fun d S1 => match d with
  | .lst l => (match rowsD l with
    | some rows => if rows.length ≤ 1000 then .ok (.lst (pickD rows)) S1 else .bad
    | none => .bad)
  | _ => .bad
theorem rows_of {K : PySem.W.Frag} {mg : Str → Option Value} {G : Gh} : ∀ {l : List D} {vs : List V} {rows : List (Str × Bool)}, DqA K mg G vs l → rowsD l = some rows →
    ∃ rs : List Row, vs = rs.map (fun r => V.ref r.1) ∧ rs.map (·.2) = rows ∧ ∀ r ∈ rs, SqT K G.F r.1 [.str r.2.1, .bl r.2.2]
  | [], _, _, .nil, e => by
    cases e
    exact ⟨[], rfl, rfl, fun _ h => nomatch h⟩
  | d :: l, _, rows, .cons (v := v) (vs := vs) h t, e => by
    cases h with
    | @tup a xs ds h1 h2 =>
      match ds, h2, e with
      | [.str z, .bl b], h2, e =>
        have e : (rowsD l).map ((z, b) :: ·) = some rows := e
        obtain ⟨rows', e1, e2⟩ := mapO e
        obtain ⟨rs, k1, k2, k3⟩ := rows_of t e1
        cases h2 with
        | cons u1 u2 =>
          cases u2 with
          | cons u3 u4 =>
            cases u4
            cases u1
            cases u3
            refine ⟨(a, z, b) :: rs, by rw [k1]; rfl, by rw [← e2, ← k2]; rfl, fun r hr => ?_⟩
            rcases List.mem_cons.mp hr with z9 | z9
            · rw [z9]; exact h1
            · exact k3 r z9
    | _ => cases e
theorem pick_of {rs : List Row} {rows : List (Str × Bool)} (h : rs.map (·.2) = rows) {K : PySem.W.Frag} {mg : Str → Option Value} {G : Gh} : DqA K mg G (pickV rs) (pickD rows) := by
  subst h
  induction rs with
  | nil => exact .nil
  | cons r l ih =>
    obtain ⟨a, z, b⟩ := r
    cases b with
    | true => exact .cons (.str z) ih
    | false => exact ih
theorem se_hotComp {iter : Expr} {scope : Scope} {p1 p2 p3 p4 p5 p6 p7 : Pos} {j1 j2 : Nat} (hot : HotC X) (he : SE X W iter fa) (hkind : scope.kind = .function) (hcell : ∀ y ∈ scope.names, y.2 ≠ .cell) (hnames : ∀ y ∈ scope.names, y.2 = .local → scope.names.lookup y.1 = some .local)
    (hfree : ∀ y ∈ scope.names, y.2 ≠ .free) (hx : scope.names.lookup x = some .local) (hd : (x == ("__debug__" : Str)) = false) (hs : ∀ x, foldedSetIterable iter X.env x = pure x := by intro _; rfl) :
    SE X W (.ListComp (.Subscript (.Name x p1) (.Constant (.int 0) j1 p2) p3) [⟨.Name x p4, iter, [.Subscript (.Name x p5) (.Constant (.int 1) j2 p6) p7], 0⟩] scope pos) (fHotC fa) := by
  refine pe_weak (pe_hotComp hot he hkind hcell hnames hfree hx hd hs) fun σ H Q ⟨G, σd, S, r, sl, pp⟩ => ?_
  refine ⟨G, σd, S, r, sl, (bindE pp).mono fun v H1 ⟨G1, dd, S1, s1, r1, dv, q⟩ => ?_⟩
  cases dv with
  | @lst a xs ds h1 h2 =>
    cases e1 : rowsD ds with
    | none => simp only [e1] at q; exact q.elim
    | some rows =>
      simp only [e1] at q
      split at q
      · rename_i hl
        obtain ⟨rs, k1, k2, k3⟩ := rows_of h2 e1
        subst k1
        refine ⟨a, rs, rfl, .inl (.inl (r1.sub _ _ h1)), fun r9 hr9 => sqT_mono r1.sub (k3 r9 hr9), by rw [← k2, List.length_map] at hl; exact hl, fun D hD => ?_⟩
        obtain ⟨G', s', r', d'⟩ := new_lst r1 hD (pick_of k2)
        exact q _ _ G' s' r' d'
      · exact q.elim
  | _ => exact q.elim
end
end PF
/-! PX: try: body, except (A, B, ..) as x: suite. -/
namespace PF
open PySem PySem.Spec PyProof.Rows L2 L2H HotX
theorem Rel.know {K : PySem.W.Frag} {mg : Str → Option Value} {G : Gh} {S : Sto} {H : Hp} {a : Addr} {o : HO} (r : Rel K mg G S H) (h : H a = some o) (ho : (∃ φ, o = .ext φ) ∨ ∃ xs, o = .xd xs) :
    Stp G H { G with F := upd G.F a o } H ∧ Rel K mg { G with F := upd G.F a o } S H := by
  have nt : NT o := fun ps z => by
    rcases ho with ⟨φ, e⟩ | ⟨xs, e⟩ <;> (rw [e] at z; cases z)
  have nl : ∀ l, o ≠ .lst l := fun ps z => by
    rcases ho with ⟨φ, e⟩ | ⟨xs, e⟩ <;> (rw [e] at z; cases z)
  have st : Stp G H { G with F := upd G.F a o } H := by
    refine ⟨fun b u hb => ?_, rfl, ⟨[], (List.append_nil _).symm, fun _ h => nomatch h⟩, fun _ _ h _ _ => h, fun b u hb => ?_⟩
    · show upd G.F a o b = some u
      by_cases e : b = a
      · have z := r.sub b u hb
        rw [e, h] at z
        rw [e, upd_same]; exact z
      · rw [upd_ne e]; exact hb
    · have hb : upd G.F a o b = some u := hb
      by_cases e : b = a
      · rw [e, upd_same] at hb
        cases hb
        exact .inr (.inr (.inr ho))
      · rw [upd_ne e] at hb; exact .inl hb
  refine ⟨st, fun b u hb => ?_, fun b u hb => ?_, r.len, r.nd, r.th, fun n l e => ?_, r.tabs, r.tt⟩
  · have hb : upd G.F a o b = some u := hb
    by_cases e : b = a
    · rw [e, upd_same] at hb; cases hb; rw [e]; exact h
    · rw [upd_ne e] at hb; exact r.sub b u hb
  · have hb : upd G.F a o b = some u := hb
    by_cases e : b = a
    · rw [e, upd_same] at hb; cases hb; exact nt
    · rw [upd_ne e] at hb; exact r.fn b u hb
  · obtain ⟨b, vs, h1, h2, h3, h4⟩ := r.st n l e
    have nb : b ≠ a := fun z => by rw [z, h] at h2; cases h2; exact nl _ rfl
    exact ⟨b, vs, h1, h2, DqA.mono st.le h3, by show upd G.F a o b = none; rw [upd_ne nb]; exact h4⟩
/-- names of the module, their values -/
inductive NmsK (X : Cx) : List Expr → List Value → Prop
  | nil : NmsK X [] []
  | cons {x : Str} {p : Pos} {es : List Expr} {c : Value} {cs : List Value} (hg : Gl X x) (hm : X.mg x = some c) (hd : (x == ("__debug__" : Str)) = false) (r : NmsK X es cs) : NmsK X (.Name x p :: es) (c :: cs)
theorem NmsK.length {X : Cx} {es : List Expr} {cs : List Value} (h : NmsK X es cs) : es.length = cs.length := by
  induction h with
  | nil => rfl
  | cons _ _ _ _ ih => rw [List.length_cons, List.length_cons, ih]
theorem nms_eval {X Y : Cx} {pins : List (Addr × Obj)} {σ : St} {H : Hp} {s : Shared} {pos : Pos} {Q : List Value → Shared → Prop} {E : Value → Shared → Prop} (I : Inv Y pins σ H s) (hx : Y.mg = X.mg) (he : Y.env = X.env) : ∀ {es : List Expr} {cs : List Value}, NmsK X es cs → Q cs s →
    wpAny (model Y.prog Y.w) Y.A (spliced (backTo pos (starEach es Y.env))) Q E s := by
  intro es cs h
  induction h generalizing Q with
  | nil => exact fun q => Calls.spliced_nil q
  | @cons x p es c cs hg hm hd r ih =>
    intro q
    show wpAny _ _ (spliced ((false, eval (.Name x p) Y.env) :: backTo pos (starEach es Y.env))) _ _ s
    exact Calls.spliced_cons (ld_glob I (by unfold Gl at hg ⊢; rw [he]; exact hg) (by rw [hx]; exact hm) (ih q) hd)
theorem fly_up {B h h' : Heap} {l : List Env} {a : Addr} {Z : Obj → Prop} (f : HandSPX.FlyingZ B l a Z h) (k : ∀ b o, h.get? b = some o → h'.get? b = some o) : HandSPX.FlyingZ B l a Z h' := by
  obtain ⟨f1, f2, f3, oe, vs, T, oT, ts, he, hz, hd, h1, hnT, hTe, hT, hdT, h3⟩ := f
  exact ⟨fun b o e => k b o (f1 b o e), f2, f3.of_keeps fun b o e _ => ⟨o, k b o e, rfl⟩, oe, vs, T, oT, ts, k _ _ he, hz, hd, h1, hnT, hTe, k _ _ hT, hdT, h3⟩
/-- what is wished of an exception: it is of the classes cs, then the suite -/
def wTup (K : PySem.W.Frag) (Good : Value → Option Addr → Prop) (cs : List Value) (i : Nat) (ts : Addr → Value → Option Addr → TS) (D : Ends) : WX := fun cls d σ H =>
  Good cls d ∧ (∃ bs : List Bool, cs.length = bs.length ∧ bs.any id = true ∧ ∀ (i : Nat) c x, cs[i]? = some c → bs[i]? = some x → PySem.W.exmOne K cls c = some x) ∧
  ∀ a, H a = none → ts a cls d { nx := fun σ' H' => D.nx (σ'.set i none) H', rt := D.rt, bk := fun σ' H' => D.bk (σ'.set i none) H', ct := fun σ' H' => D.ct (σ'.set i none) H' } (σ.set i (some (.ref a))) H
section
variable {X : Cx} {n : Str} {es : List Expr} {cs : List Value} {i k : Nat} {body suite : List Stmt} {b₀ : Stmt} {np pos pos' : Pos} {tb : WX → TS} {ts : Addr → Value → Option Addr → TS} {Good : Value → Option Addr → Prop}
theorem ps_try_tup (hs : X.stack = X.env :: X.outer) (hf : X.env.frame = some X.env.locals) (hN : X.N.Nodup) (hi : X.N[i]? = some n) (hln : X.env.kindOf n = some .local) (hc : NmsK X es cs) (hl : cs.length ≤ sizeLine)
    (hb : ∀ (W : WX) (pn : List (Addr × Obj)) (xe : Value → Shared → Prop), L2N.Takes (X.tr pn xe) W → PassesOwn (model X.prog X.w) X.A X.env xe → PSs (X.tr pn xe) body (tb W))
    (hsu : ∀ (a : Addr) (oe : Obj) (cls : Value) (d : Option Addr) (pn : List (Addr × Obj)), Good cls d → L2N.Zn cls d oe → (∃ vs, oe.data = .fields vs) → PSs (X.suite a ((a, oe) :: pn)) (b₀ :: suite) (ts a cls d)) :
    PS X (.Try body [.ExceptHandler (some (.Tuple es k np)) (some n) (b₀ :: suite) pos'] [] [] pos) (fun D σ H => tb (wTup X.K Good cs i ts D) D σ H) := by
  refine ⟨fun pins s σ H D I h => ?_⟩
  have ok := I.ok
  have hfr : X.A.frames = some (X.env :: X.outer) := by rw [ok.frames, hs]
  have hloc : Loc X.env.scope n := .inl hln
  refine wpAny_Try_except ?_
  refine wpAny_mono ((hb (wTup X.K Good cs i ts D) (X.pn ++ pins) (fun e s₁ => wpAny (model X.prog X.w) X.A (noteFrame e X.env) (fun _ s₂ => wpAny (model X.prog X.w) X.A (setFlight e none) (fun _ s₃ =>
    wpAny (model X.prog X.w) X.A (handleBy e X.env [.ExceptHandler (some (.Tuple es k np)) (some n) (b₀ :: suite) pos']) (SP X pins D) X.xe s₃) X.xe s₂) X.xe s₁) (fun u s' xx => ?_) PassesOwn.looking).run [] s σ H D (I.toTry _) h) (fun f s1 hsp => ?_) (fun e s1 he => he)
  · -- the catch
    obtain ⟨a, B, sI, pins', σ', H', cls, d, rfl, J', nb, up, sky, na, os, ag, hgood, ⟨bs, hl1, hany, hx⟩, hyes⟩ := xx
    have J : Inv X pins σ' H' sI := J'.ofTry ok
    have sky' : L2.Sky B (X.env :: X.outer) a (L2N.Zn cls d) X.env.locals s'.heap := by rw [← hs]; exact sky
    show wpAny (model X.prog X.w) X.A (noteFrame (.ref a) X.env) _ _ _
    refine L2N.Sky.land L2N.Zn.steady hfr hf sky' fun h3 fl3 up3 => ?_
    have J3 : Inv X pins σ' H' { s' with heap := h3 } := J.landed nb fl3.1 (up.trans up3) os ag
    obtain ⟨oe3, vs3, he3, hz3, hd3⟩ := fl3.there
    have notFr : ∀ {h : Heap} {o : Obj} {vs : Array Value}, h.FunFrames B (X.env :: X.outer) → h.get? a = some o → o.data = .fields vs → a ∉ frs (X.env :: X.outer) := fun {h o vs} ff e dd hm => by
      obtain ⟨_, o', e', hnf⟩ := ff.mem hm
      rw [e] at e'; cases e'
      exact hnf _ dd
    have nfr := notFr fl3.2.2.1 he3 hd3
    have nL : a ≠ X.env.locals := fun z => nfr (List.mem_filterMap.mpr ⟨X.env, List.mem_cons_self, by rw [hf, z]⟩)
    have nF : a ∉ X.fs := fun hm => by
      obtain ⟨e, he, q⟩ := List.mem_filterMap.mp hm
      exact nfr (List.mem_filterMap.mpr ⟨e, List.mem_cons_of_mem _ he, q⟩)
    have S3 := J3.suite he3 hd3 na nL nF
    refine wpAny_handleBy_cons (codeAny_handlers_test ?_) (by intro q; cases q)
    refine wpAny_Tuple_spliced (nms_eval (X := X) (Y := X.suite a ((a, oe3) :: (X.pn ++ pins))) S3 rfl rfl hc ⟨hl, ?_⟩)
    have kp : ∀ b o, h3.get? b = some o → (h3.push { cls := .type "tuple", data := .seq cs.toArray }).get? b = some o := fun b o e => Heap.get?_push_of_some _ e
    have fl3' := fly_up fl3 kp
    have J3' : Inv X pins σ' H' { s' with heap := h3.push { cls := .type "tuple", data := .seq cs.toArray } } := J.landed nb fl3'.1 ((up.trans up3).trans (Heap.UpToSlots.of_keeps kp)) os ag
    have LT : PySem.W.Looks (model X.prog X.w) (h3.push { cls := .type "tuple", data := .seq cs.toArray }) (typeOf (.ref a)) cls := fun A Q E s k q => wpAny_typeOf_ref (k _ _ (kp _ _ he3)) (by rw [hz3.1]; exact q)
    have LM := PySem.W.exm_tupN (M := model X.prog X.w) (J3'.kIn) LT (Heap.get?_push_size _ rfl) hl1 hx
    rw [hany] at LM
    refine LM.here ?_
    refine codeAny_handlers_suite_as ?_
    refine HandSPX.lands_againZ fl3' fun h4 fl4 up4 => ?_
    have J4 : Inv X pins σ' H' { s' with heap := h4 } := J.landed nb fl4.1 (((up.trans up3).trans (Heap.UpToSlots.of_keeps kp)).trans up4) os ag
    obtain ⟨oe4, vs4, he4, hz4, hd4⟩ := fl4.there
    have S4 := J4.suite he4 hd4 na nL nF
    refine store_ok (X := X.suite a ((a, oe4) :: (X.pn ++ pins))) (v := .ref a) S4 hN hi hloc rfl (fun s5 S5 => ?_) (.inr hln)
    refine wpAny_mono ((hsu a oe4 cls d (X.pn ++ pins) hgood hz4 ⟨_, hd4⟩).run [] s5 _ H' _ S5 (hyes a na)) (fun f s6 hsp => ?_) (fun _ _ z => False.elim z)
    have end_ : ∀ {σ6 : St} {H6 : Hp} {Q : Shared → Prop}, Inv (X.suite a ((a, oe4) :: (X.pn ++ pins))) [] σ6 H6 s6 → (∀ s7, Inv X pins (σ6.set i none) H6 s7 → Q s7) →
        wpAny (model X.prog X.w) X.A (do bindName X.env n .none; unbindBehindTheSuite X.env n pos') (fun _ s7 => Q s7) X.xe s6 := fun {σ6 H6 Q} S6 hq => gone_ok (S6.unsuite ok) hN hi hln hq
    cases f with
    | next =>
      obtain ⟨σ6, H6, S6, q6⟩ := hsp
      exact end_ S6 fun s7 J7 => ⟨_, _, J7, q6⟩
    | brk =>
      obtain ⟨σ6, H6, S6, q6⟩ := hsp
      exact end_ S6 fun s7 J7 => ⟨_, _, J7, q6⟩
    | cont =>
      obtain ⟨σ6, H6, S6, q6⟩ := hsp
      exact end_ S6 fun s7 J7 => ⟨_, _, J7, q6⟩
    | ret u =>
      obtain ⟨v6, σ6, H6, S6, r6, q6⟩ := hsp
      exact end_ S6 fun s7 J7 => ⟨_, _, _, J7, r6, q6⟩
  · cases f with
    | next =>
      obtain ⟨σ', H', J', q⟩ := hsp
      exact wpAny_execs_nil ⟨σ', H', J'.ofTry ok, q⟩
    | brk =>
      obtain ⟨σ', H', J', q⟩ := hsp
      exact ⟨σ', H', J'.ofTry ok, q⟩
    | cont =>
      obtain ⟨σ', H', J', q⟩ := hsp
      exact ⟨σ', H', J'.ofTry ok, q⟩
    | ret u =>
      obtain ⟨v, σ', H', J', r, q⟩ := hsp
      exact ⟨v, σ', H', J'.ofTry ok, r, q⟩
end
end PF
/-! PY: what is handed on to be called: a lambda without parameters. -/
namespace PF
open PySem PySem.Spec PyProof.Rows L2 L2H HotX
theorem un_drop {fs0 fs1 : List Addr} {H0 H1 H2 : Hp} {h0 h1 h2 : Heap} (a : Un fs0 [] H0 H1 h0 h1) (b : Un fs1 [] H1 H2 h1 h2) (hs : ∀ c o, h0.get? c = some o → c ∈ fs1 → c ∈ fs0) : Un fs0 [] H0 H2 h0 h2 := by
  have nx : ∀ c : Addr, c ∉ ([] : List Addr) := fun c => by simp
  refine ⟨fun c o e n hc _ => ?_, fun c o e n hc _ => ?_, fun c o e n _ => ?_, fun c o e _ => ?_, fun c xs e => b.tups c xs (a.tups c xs e), fun c o u e => b.frzs c o u (a.frzs c o u e), fun c ps e => ?_⟩
  · exact b.keep c o (a.keep c o e n hc (nx c)) (a.free c o e n (nx c)) (fun z => hc (hs c o e z)) (nx c)
  · obtain ⟨sl, e1⟩ := a.slot c o e n hc (nx c)
    obtain ⟨sl2, e2⟩ := b.any e1 (a.free c o e n (nx c)) (nx c)
    exact ⟨sl2, e2⟩
  · obtain ⟨sl, e1⟩ := a.any e n (nx c)
    exact b.free c _ e1 (a.free c o e n (nx c)) (nx c)
  · obtain ⟨o1, e1⟩ := a.there c o e (nx c)
    exact b.there c o1 e1 (nx c)
  · obtain ⟨m1, e1⟩ := a.tbls c ps e
    obtain ⟨m2, e2⟩ := b.tbls c _ e1
    exact ⟨m1 ++ m2, by rw [e2, Array.append_assoc]⟩
/-- the function at f, called later, does as g -/
structure Thunk (P : Program) (w : World) (K : PySem.W.Frag) (mg : Str → Option Value) (base : Heap) (kk : Nat) (outer0 : List Env) (s0 : Shared) (H0 : Hp) (G0 : Gh) (f : Addr) (g : Sto → Res D) : Prop where
  obj : ∃ oc dd fd sl, s0.heap.get? f = some ⟨oc, dd, .func fd, sl⟩
  fn : H0 f = none
  nfr : f ∉ frs outer0
  run : ∀ (A : Around) (outer : List Env) (s1 : Shared) (H1 : Hp) (G1 : Gh) (S1 : Sto) (Q : VK) (E : XK), Room kk A → Env0 P w K mg base A outer s1 H1 → Un (frs outer0) [] H0 H1 s0.heap s1.heap → Stp G0 H0 G1 H1 → Rel K mg G1 S1 H1 → PostR K mg G1 H1 (g S1) Q E →
    codeAny (model P w) A (.call (.ref f) ⟨[], []⟩) (CR (L2N.CX P w) outer P w H1 s1 Q E) s1
theorem Thunk.later {P : Program} {w : World} {K : PySem.W.Frag} {mg : Str → Option Value} {base : Heap} {kk : Nat} {outer0 outer1 : List Env} {s0 s1 : Shared} {H0 H1 : Hp} {G0 G1 : Gh} {f : Addr} {g : Sto → Res D} (T : Thunk P w K mg base kk outer0 s0 H0 G0 f g)
    (u : Un (frs outer0) [] H0 H1 s0.heap s1.heap) (st : Stp G0 H0 G1 H1) (ho : ∀ b o, s0.heap.get? b = some o → b ∈ frs outer1 → b ∈ frs outer0) : Thunk P w K mg base kk outer1 s1 H1 G1 f g := by
  obtain ⟨oc, dd, fd, sl, e⟩ := T.obj
  exact ⟨⟨oc, dd, fd, sl, u.keep f _ e T.fn T.nfr (by simp)⟩, u.free f _ e T.fn (by simp), fun z => T.nfr (ho f _ e z), fun A outer s2 H2 G2 S2 Q E hr e0 u2 st2 r2 q => T.run A outer s2 H2 G2 S2 Q E hr e0 (un_drop u u2 ho) (st.trans st2) r2 q⟩
/-- a result's wishes: of an expression, of a def -/
theorem postR_of {K : PySem.W.Frag} {mg : Str → Option Value} {W : WX} {G : Gh} {H : Hp} {σd : Stt} {σ : St} {r : Res D} {Q : VK} (sl : Slots K mg G σd σ) (q : PostE K mg W G H σd r Q) : PostR K mg G H r Q (WE W σ) := by
  cases r with
  | bad => exact q
  | exc c fs S' => exact fun cls d H' G' s' r' x' => q cls d σ H' G' s' r' (sl.mono s'.le) x'
  | ok d S' => exact q
section
variable {Z : Cx} {W : WX} {kk i : Nat} {G0 : Gh} {f : Addr} {g : Sto → Res D} {a : Str} {p1 p2 p3 p4 p5 : Pos}
/-- what a wish at such a place says: the ghosts have grown since, the slot i holds the function -/
def tAct (K : PySem.W.Frag) (mg : Str → Option Value) (W : WX) (G0 : Gh) (H0 : Hp) (i : Nat) (f : Addr) (g : Sto → Res D) (σd : Stt) : TE := fun σ H Q =>
  ∃ G S, Stp G0 H0 G H ∧ Rel K mg G S H ∧ Slots K mg G σd σ ∧ σ[i]? = some (some (.ref f)) ∧ PostE K mg W G H σd (g S) Q
theorem pe_act {σd : Stt} (T : Thunk Z.prog Z.w Z.K Z.mg Z.base kk Z.outer Z.s_0 Z.H_0 G0 f g) (hex : Z.ex = []) (hr : Room kk Z.A) (tk : L2N.Takes Z W) (hN : Z.N[i]? = some a) (hv : Vis Z.env.scope a) (hd : (a == ("__debug__" : Str)) = false := by decide) (hcd : (a == ("__classdict__" : Str)) = false := by decide) :
    PE Z (.Call (.Name a p1) [] [] p2) (tAct Z.K Z.mg W G0 Z.H_0 i f g σd) := by
  refine ⟨fun pins s σ H Q I h => ?_⟩
  obtain ⟨G, S, st, r, sl, hi, q⟩ := h
  refine wpAny_Call_Name_kw (thn ((pe_var (pos := p1) (i := i) hN hv hd hcd).run pins s σ H (fun v H1 => v = .ref f ∧ H1 = H) I ⟨.ref f, hi, rfl, rfl⟩) fun u s1 ⟨v, H1, I1, r1, q1⟩ => ?_)
  obtain ⟨ev, eH⟩ := q1
  subst ev
  rw [eH] at I1
  obtain rfl : u = Value.ref f := r1
  have un : Un (frs Z.outer) [] Z.H_0 H Z.s_0.heap s1.heap := by have z := I1.base; rw [hex] at z; exact z
  obtain ⟨oc, dd, fd, sl9, e9⟩ := T.obj
  refine PySem.W.callWith_F0 ⟨_, _, _, _, un.keep f _ e9 T.fn T.nfr (by simp)⟩ ?_
  have rc := T.run Z.A Z.stack s1 H G S Q (WE W σ) hr I1.env0 un st r (postR_of sl q)
  refine wpAny_call (codeAny_mono rc fun r s' hq => ?_)
  cases r with
  | error e => exact L2N.passAt tk σ pins H s1 e s' I1 hq
  | ok fl =>
    cases fl with
    | ret u => exact I1.after hq
    | next => exact False.elim hq
    | brk => exact False.elim hq
    | cont => exact False.elim hq
def toldS (t : Str) (σd : Stt) (r : Res D) : Out := r.out σd fun d S1 => .rt (.tup [.str t, d]) S1
def tTold (K : PySem.W.Frag) (mg : Str → Option Value) (W : WX) (G0 : Gh) (H0 : Hp) (i : Nat) (f : Addr) (g : Sto → Res D) (t : Str) (σd : Stt) : TS := fun Dn σ H =>
  ∃ G S, Stp G0 H0 G H ∧ Rel K mg G S H ∧ Slots K mg G σd σ ∧ σ[i]? = some (some (.ref f)) ∧ PostS K mg W G H (toldS t σd (g S)) Dn
/-- return ('told', a()) -/
theorem ps_told {σd : Stt} {t : Str} {j k : Nat} (T : Thunk Z.prog Z.w Z.K Z.mg Z.base kk Z.outer Z.s_0 Z.H_0 G0 f g) (hex : Z.ex = []) (hr : Room kk Z.A) (tk : L2N.Takes Z W) (hN : Z.N[i]? = some a) (hv : Vis Z.env.scope a) (hd : (a == ("__debug__" : Str)) = false := by decide) (hcd : (a == ("__classdict__" : Str)) = false := by decide) :
    PS Z (.Return (some (.Tuple [.Constant (.str t) j p3, .Call (.Name a p1) [] [] p2] k p4)) p5) (tTold Z.K Z.mg W G0 Z.H_0 i f g t σd) := by
  refine ps_weak (ps_ret (pe_tup (pa_cons pe_str (pa_cons (pe_act (σd := σd) T hex hr tk hN hv hd hcd) pa_nil)))) fun D σ H ⟨G, S, st, r, sl, hi, q⟩ => ?_
  refine ⟨G, S, st, r, sl, hi, (outE q).mono fun x H1 ⟨G1, d, S1, s1, r1, dv, q1⟩ => ?_⟩
  refine ⟨by show 2 ≤ sizeLine; rw [sizeLine_eq]; decide, fun p hp => ?_⟩
  obtain ⟨G', s', r', d'⟩ := new_tup r1 hp (DqA.cons (.str t) (.cons dv .nil))
  exact q1 _ _ G' s' r' d'
end
end PF
/-! PY: try: return ('told', a()) except (..) as n: suite. -/
namespace PF
open PySem PySem.Spec PyProof.Rows L2 L2H HotX
def hearX (good : List (Str × Str)) (c : Str) : List (Str × D) → Option D
  | [(f, d)] => if (c, f) ∈ good then some (.tup [.str c, d]) else none
  | _ => none
/-- what is heard of g: ('told', its answer), or (the class's name, the field) -/
def hearD (good : List (Str × Str)) (g : Sto → Res D) : Sto → Res D := fun S => match g S with
  | .ok d S1 => .ok (.tup [.str "told", d]) S1
  | .exc c fs S1 => (match hearX good c fs with
    | some d => .ok d S1
    | none => .bad)
  | .bad => .bad
/-- the suite holds an exception with one field -/
theorem hearX_some {good : List (Str × Str)} {c : Str} {fs : List (Str × D)} {d : D} (h : hearX good c fs = some d) : ∃ f v, fs = [(f, v)] ∧ (c, f) ∈ good ∧ d = .tup [.str c, v] := by
  unfold hearX at h
  split at h
  · rename_i f v
    split at h
    · rename_i hm
      cases h
      exact ⟨f, v, rfl, hm, rfl⟩
    · cases h
  · cases h
section
variable {Z : Cx} {kk i : Nat} {G0 : Gh} {f : Addr} {g : Sto → Res D} {a n : Str} {p1 p2 p3 p4 p5 np pos pos' : Pos} {es : List Expr} {cs : List Value} {b₀ : Stmt} {suite : List Stmt} {good : List (Str × Str)} {fsu : Addr → Addr → Str → Str → SF} {σd : Stt}
def tHeard (K : PySem.W.Frag) (mg : Str → Option Value) (G0 : Gh) (H0 : Hp) (f : Addr) (g : Sto → Res D) (good : List (Str × Str)) (σd : Stt) : TS := fun Dn σ H =>
  ∃ G S, Stp G0 H0 G H ∧ Rel K mg G S H ∧ Slots K mg G σd σ ∧ σ[0]? = some (some (.ref f)) ∧ PostR K mg G H (hearD good g S) Dn.rt fun _ _ _ => False
theorem ps_heard {j k k2 : Nat} (hs : Z.stack = Z.env :: Z.outer) (hf : Z.env.frame = some Z.env.locals) (hex : Z.ex = []) (hN : Z.N.Nodup) (hi : Z.N[i]? = some n) (hln : Z.env.kindOf n = some .local) (hc : NmsK Z es cs) (hl : cs.length ≤ sizeLine)
    (T : Thunk Z.prog Z.w Z.K Z.mg Z.base kk Z.outer Z.s_0 Z.H_0 G0 f g) (hr : Room kk Z.A) (hNa : Z.N[0]? = some a) (hva : Vis Z.env.scope a) (hd : (a == ("__debug__" : Str)) = false) (hcd : (a == ("__classdict__" : Str)) = false)
    (hx : ∀ c fl, (c, fl) ∈ good → ∀ C, Z.mg c = some (.ref C) → ∃ bs : List Bool, cs.length = bs.length ∧ bs.any id = true ∧ ∀ (i : Nat) v x, cs[i]? = some v → bs[i]? = some x → PySem.W.exmOne Z.K (.ref C) v = some x)
    (hcl : ∀ c fl, (c, fl) ∈ good → ∃ C, Z.mg c = some (.ref C))
    (hsu : ∀ (p : Addr × Obj) (c fl : Str) (C dd : Addr) (pn : List (Addr × Obj)), (c, fl) ∈ good → Z.mg c = some (.ref C) → PinX p C dd → HotP (Z.suite p.1 (p :: pn)) p → SSs (Z.suite p.1 (p :: pn)) (fun _ _ _ _ => False) (b₀ :: suite) (fsu p.1 dd c fl))
    (hR : ∀ c fl, (c, fl) ∈ good → ∀ aa dd v S, fsu aa dd c fl (σd.set i (some (.exn aa dd c [(fl, v)]))) S = .rt (.tup [.str c, v]) S) :
    PS Z (.Try [.Return (some (.Tuple [.Constant (.str "told") j p3, .Call (.Name a p1) [] [] p2] k p4)) p5] [.ExceptHandler (some (.Tuple es k2 np)) (some n) (b₀ :: suite) pos'] [] [] pos) (tHeard Z.K Z.mg G0 Z.H_0 f g good σd) := by
  refine ps_weak (ps_try_tup (Good := fun _ _ => True) (tb := fun W => tTold Z.K Z.mg W G0 Z.H_0 0 f g "told" σd)
    (ts := fun a' cls d => fun D σ H => ∃ (c fl : Str) (C dd : Addr), (c, fl) ∈ good ∧ Z.mg c = some (.ref C) ∧ cls = .ref C ∧ d = some dd ∧ tS Z.K Z.mg (fun _ _ _ _ => False) (fsu a' dd c fl) D σ H)
    hs hf hN hi hln hc hl (fun W pn xe tk hp => ?_) (fun a' oe cls d pn _ hz hfl => ?_)) fun D σ H ⟨G, S, st, r, sl, hi0, q⟩ => ?_
  · exact pss_one (ps_told (Z := Z.tr pn xe) T hex hr tk hNa hva hd hcd)
  · refine ⟨fun pins s σ H D I ⟨c, fl, C, dd, hm, hC, ec, ed, h⟩ => ?_⟩
    subst ec ed
    obtain ⟨vs, hvs⟩ := hfl
    exact (hsu (a', oe) c fl C dd pn hm hC ⟨hz.zc, vs, hvs⟩ ⟨⟨rfl, vs, hvs, hz.2.2 vs hvs⟩, List.mem_cons_self⟩).run pins s σ H D I h
  · refine ⟨G, S, st, r, sl, hi0, ?_⟩
    unfold hearD at q
    unfold toldS Res.out
    cases e : g S with
    | bad => rw [e] at q; exact q
    | ok d S1 => rw [e] at q; exact q
    | exc c fs S1 =>
      rw [e] at q
      have q9 : PostR Z.K Z.mg G H (match hearX good c fs with
        | some d => .ok d S1
        | none => .bad) D.rt (fun _ _ _ => False) := q
      clear q
      cases e2 : hearX good c fs with
      | none => rw [e2] at q9; exact q9.elim
      | some d =>
        rw [e2] at q9
        obtain ⟨fl, v, rfl, hm, rfl⟩ := hearX_some e2
        intro cls d' σ' H' G' s' r' sl' x'
        obtain ⟨gC, ⟨z, _⟩ | ⟨dd, xs, ed, hdd, hq⟩⟩ := x'
        · cases z
        · obtain ⟨C, hC⟩ := hcl c fl hm
          rw [hC] at gC
          cases gC
          refine ⟨trivial, hx c fl hm C hC, fun a' ha' => ⟨c, fl, C, dd, hm, hC, rfl, ed, ?_⟩⟩
          obtain ⟨s2, r2⟩ := r'.know hdd (.inr ⟨xs, rfl⟩)
          refine ⟨_, σd.set i (some (.exn a' dd c [(fl, v)])), S1, r2, (sl'.mono s2.le).set i (.exn (by show upd _ _ _ _ = _; rw [upd_same]) (hq.mono s2.le)), ?_⟩
          rw [hR c fl hm]
          exact fun v9 H9 G9 s9 r9 d9 => q9 v9 H9 G9 (s'.trans (s2.trans s9)) r9 d9
end
end PF
/-! PY: the defs that hear a thunk. -/
namespace PF
open PySem PySem.Spec PyProof.Rows L2 L2H HotX
/-- the def x hears a thunk: as hearD -/
def HeardOk (P : Program) (w : World) (K : PySem.W.Frag) (mg : Str → Option Value) (base : Heap) (k kk : Nat) (x : Str) (good : List (Str × Str)) : Prop :=
  ∃ fn, mg x = some (.ref fn) ∧ PySem.W.keepIn K (.ref fn) = true ∧ ∀ (A : Around) (outer : List Env) (s : Shared) (H : Hp) (G : Gh) (S : Sto) (Q : VK) (E : XK) (f : Addr) (g : Sto → Res D), Room k A → Env0 P w K mg base A outer s H → Rel K mg G S H →
    Thunk P w K mg base kk outer s H G f g → PostR K mg G H (hearD good g S) Q (fun _ _ _ => False) → codeAny (model P w) A (.call (.ref fn) ⟨[.ref f], []⟩) (CR (L2N.CX P w) outer P w H s Q E) s
def tellsD (good : List (Str × Str)) (t : Str) (F : FF) (g : Sto → Res D) (d : D) : Sto → Res D := fun S => (hearD good g S).bind fun h S1 => F [h, .tup [.str t, d]] S1
/-- the def x tells whether a thunk answers as owed -/
def TellsOk (P : Program) (w : World) (K : PySem.W.Frag) (mg : Str → Option Value) (base : Heap) (k kk : Nat) (x : Str) (good : List (Str × Str)) (t : Str) (F : FF) : Prop :=
  ∃ fn, mg x = some (.ref fn) ∧ PySem.W.keepIn K (.ref fn) = true ∧ ∀ (A : Around) (outer : List Env) (s : Shared) (H : Hp) (G : Gh) (S : Sto) (Q : VK) (E : XK) (f : Addr) (g : Sto → Res D) (u : Value) (v : V) (d : D), Room k A → Env0 P w K mg base A outer s H → Rel K mg G S H →
    Thunk P w K mg base kk outer s H G f g → RelV v u → Dq K mg G v d → PostR K mg G H (tellsD good t F g d S) Q E → codeAny (model P w) A (.call (.ref fn) ⟨[.ref f, u], []⟩) (CR (L2N.CX P w) outer P w H s Q E) s
section
variable {P : Program} {w : World} {K : PySem.W.Frag} {mg : Str → Option Value} {base : Heap}
theorem heardOk_of {x a : Str} {st : Stmt} {N : List Str} {k kk : Nat} {good : List (Str × Str)} (Dx : DefAt K mg x st) (Sc : FnScope N [a] (defScope st))
    (hbd : ∀ (kV doc pm : Value) (an : Option Addr) (cdv ct : Value) (us : List Value), us.length = [a].length → bindArgs (PySem.W.fnOf x x (defArgs st) (defBody st) (defScope st) .none kV doc pm an cdv ct) ⟨us, []⟩ = pure ([a].zip us))
    (hb : ∀ (fn : Addr) (cdv : Value) (A : Around) (outer : List Env) (s : Shared) (H : Hp) (E : XK) (G0 : Gh) (f : Addr) (g : Sto → Res D), Room k (A.deeper (envOfC x (defScope st) s.heap.objs.size fn cdv)) → Thunk P w K mg base kk outer s H G0 f g →
      PSs (cxOf (L2N.CX P w) P w K mg base N x (defScope st) fn cdv A outer s H E) (defBody st) (tHeard K mg G0 H f g good (startD N.length [.raw (.ref f)]))) : HeardOk P w K mg base (k + 1) kk x good := by
  obtain ⟨fn, fd, FU, gl⟩ := Dx
  have hbn := FU.bindsN hbd
  have kp := FU.kp
  obtain ⟨oc, od, dV, kV, doc, pm, an, cdv, ct, osl, rfl, lk, hcd, _, _⟩ := FU.ex
  refine ⟨fn, gl, kp, fun A outer s H G S Q E f g hr e0 r T q => ?_⟩
  have KX : K.In s.heap := e0.mod.kin.keeps fun b o e => (e0.bs b o e).1
  have b := hbn s [.ref f] KX rfl
  refine LamX.run_ofS lk hcd Sc (us := [.ref f]) (vs := [.ref f]) hr e0 (by simpa using b) (.cons rfl .nil) rfl fun hr' => ⟨_, hb fn cdv A outer s H E G f g hr' T, ?_⟩
  exact ⟨G, S, Stp.rfl', r, slots_start (.cons (.raw _) .nil), rfl, q⟩
section
variable {Y : Cx} {W : WX} {k kk : Nat} {good : List (Str × Str)} {G0 : Gh} {f : Addr} {g : Sto → Res D} {x a : Str} {p1 p2 p3 : Pos} {σd : Stt}
def tHear (K : PySem.W.Frag) (mg : Str → Option Value) (G0 : Gh) (H0 : Hp) (f : Addr) (g : Sto → Res D) (good : List (Str × Str)) (σd : Stt) : TE := fun σ H Q =>
  ∃ G S, Stp G0 H0 G H ∧ Rel K mg G S H ∧ Slots K mg G σd σ ∧ σ[0]? = some (some (.ref f)) ∧ PostR K mg G H (hearD good g S) Q fun _ _ _ => False
/-- x(a), x hears, a is the thunk -/
theorem pe_hear (HO : HeardOk Y.prog Y.w Y.K Y.mg Y.base k kk x good) (T : Thunk Y.prog Y.w Y.K Y.mg Y.base kk Y.outer Y.s_0 Y.H_0 G0 f g) (hex : Y.ex = []) (hr : Room k Y.A) (tk : L2N.Takes Y W) (hg : Gl Y x) (hdb : (x == ("__debug__" : Str)) = false) (hN : Y.N[0]? = some a) (hv : Vis Y.env.scope a)
    (hd : (a == ("__debug__" : Str)) = false := by decide) (hcd : (a == ("__classdict__" : Str)) = false := by decide) : PE Y (.Call (.Name x p1) [.Name a p2] [] p3) (tHear Y.K Y.mg G0 Y.H_0 f g good σd) := by
  obtain ⟨fn, gl, kp, run⟩ := HO
  refine ⟨fun pins s σ H Q I h => ?_⟩
  obtain ⟨G, S, st, r, sl, hi, q⟩ := h
  refine wpAny_Call_Name_kw (ld_glob I hg gl ?_ hdb)
  have ha : PA Y [.Name a p2] (tCons (tVar 0) tNil) := pa_cons (pe_var (i := 0) hN hv hd hcd) pa_nil
  refine PySem.W.callWith_K (h₀ := Y.base) I.ok.mod.kin kp (thn (ha.run p3 pins s σ H (fun vs H1 => vs = [.ref f] ∧ H1 = H) I ⟨.ref f, hi, rfl, rfl⟩) fun us s1 ⟨vs, H1, I1, r1, ev, eH⟩ => ?_) rfl rfl
  subst ev
  rw [eH] at I1
  cases r1 with
  | cons ru rn =>
    cases rn
    cases ru
    refine ⟨I1.kIn, ?_⟩
    have un : Un (frs Y.outer) [] Y.H_0 H Y.s_0.heap s1.heap := by have z := I1.base; rw [hex] at z; exact z
    have T1 := T.later (outer1 := Y.stack) (s1 := s1) un st fun b o e hm => by
      rcases List.mem_cons.mp (I1.stkSub b hm) with z | z
      · have h1 := Heap.lt_size e
        have h2 := I1.ok.above
        rw [z] at h1
        exact absurd (Nat.lt_of_lt_of_le h1 h2) (Nat.lt_irrefl _)
      · exact z
    refine wpAny_call (codeAny_mono (run Y.A Y.stack s1 H G S Q (WE W σ) f g hr I1.env0 r T1 q) fun r s' hq => ?_)
    cases r with
    | error e => exact L2N.passAt tk σ pins H s1 e s' I1 hq
    | ok fl =>
      cases fl with
      | ret u => exact I1.after hq
      | next => exact False.elim hq
      | brk => exact False.elim hq
      | cont => exact False.elim hq
end
/-- def x(a, b): return same(heard(a), ('told', b)) -/
theorem tellsOk_of {x a b xh xs t : Str} {st : Stmt} {k kk : Nat} {good : List (Str × Str)} {F : FF} {p1 p2 p3 p4 p5 p6 p7 p8 p9 : Pos} {j1 j2 : Nat} (Dx : DefAt K mg x st) (Sc : FnScope [a, b] [a, b] (defScope st))
    (hbd : ∀ (kV doc pm : Value) (an : Option Addr) (cdv ct : Value) (us : List Value), us.length = [a, b].length → bindArgs (PySem.W.fnOf x x (defArgs st) (defBody st) (defScope st) .none kV doc pm an cdv ct) ⟨us, []⟩ = pure ([a, b].zip us))
    (hbody : defBody st = [.Return (some (.Call (.Name xs p1) [.Call (.Name xh p2) [.Name a p3] [] p4, .Tuple [.Constant (.str t) j1 p5, .Name b p6] j2 p7] [] p8)) p9])
    (HO : HeardOk P w K mg base k kk xh good) (FO : Own P w K mg base k xs 2 F) (hgh : (defScope st).names.lookup xh = some .globalImplicit) (hgs : (defScope st).names.lookup xs = some .globalImplicit)
    (hdh : (xh == ("__debug__" : Str)) = false) (hds : (xs == ("__debug__" : Str)) = false) (hda : (a == ("__debug__" : Str)) = false) (hca : (a == ("__classdict__" : Str)) = false) (hdb : (b == ("__debug__" : Str)) = false) (hcb : (b == ("__classdict__" : Str)) = false) :
    TellsOk P w K mg base (k + 1) kk x good t F := by
  obtain ⟨fn, fd, FU, gl⟩ := Dx
  have hbn := FU.bindsN hbd
  have kp := FU.kp
  obtain ⟨oc, od, dV, kV, doc, pm, an, cdv, ct, osl, rfl, lk, hcd, _, _⟩ := FU.ex
  refine ⟨fn, gl, kp, fun A outer s H G S Q E f g u v d hr e0 r T rv dv q => ?_⟩
  have KX : K.In s.heap := e0.mod.kin.keeps fun b o e => (e0.bs b o e).1
  have bn := hbn s [.ref f, u] KX rfl
  refine LamX.run_ofS lk hcd Sc (us := [.ref f, u]) (vs := [.ref f, v]) hr e0 (by simpa using bn) (.cons rfl (.cons rv .nil)) rfl fun hr' => ?_
  obtain ⟨fs, fds, pss, g1, g2, g3, g4⟩ := FO
  have vis : ∀ y ∈ [a, b], Vis (defScope st) y := fun y hy => by
    rcases Sc.par y hy with z | z
    · exact .inl z
    · exact .inr (.inl z)
  have tk : L2N.Takes (cxOf (L2N.CX P w) P w K mg base [a, b] x (defScope st) fn cdv A outer s H E) (fun cls d _ H => E cls d H) := L2N.takes_of rfl rfl rfl rfl
  have hh := pe_hear (Y := cxOf (L2N.CX P w) P w K mg base [a, b] x (defScope st) fn cdv A outer s H E) (σd := [some (.raw (.ref f)), some d]) (p1 := p2) (p2 := p3) (p3 := p4) HO T rfl hr' tk hgh hdh rfl (vis a (by simp)) hda hca
  have ht : SE (cxOf (L2N.CX P w) P w K mg base [a, b] x (defScope st) fn cdv A outer s H E) (fun cls d _ H => E cls d H) (.Tuple [.Constant (.str t) j1 p5, .Name b p6] j2 p7) (fTup (aCons (fC (.str t)) (aCons (fVar 1) aNil))) :=
    se_tup (sa_cons se_str (sa_cons (se_var 1 (pe_var (i := 1) rfl (vis b (by simp)) hdb hcb)) sa_nil))
  rw [hbody]
  refine ⟨_, pss_one (ps_ret (pe_callS (X := cxOf (L2N.CX P w) P w K mg base [a, b] x (defScope st) fn cdv A outer s H E) g4 hr' hgs g1 g2 g3 (fun σ => L2N.passAt tk σ) (pa_cons hh (pa_cons ht pa_nil)) hds)), ?_⟩
  have sl0 : Slots K mg G [some (.raw (.ref f)), some d] (L2.start [a, b] [.ref f, v]) := slots_start (N := [a, b]) (.cons (.raw _) (.cons dv .nil))
  refine ⟨G, S, Stp.rfl', r, sl0, rfl, ?_⟩
  unfold tellsD at q
  cases e : hearD good g S with
  | bad => rw [e] at q; exact q
  | exc c fs S1 =>
    unfold hearD at e
    split at e
    · cases e
    · split at e <;> cases e
    · cases e
  | ok h S1 =>
    rw [e] at q
    intro v1 H1 G1 s1 r1 d1
    refine ⟨G1, [some (.raw (.ref f)), some d], S1, r1, sl0.mono s1.le, ?_⟩
    intro v2 H2 G2 s2 r2 d2
    exact ⟨rfl, G2, [h, .tup [.str t, d]], S1, r2, .cons (d1.mono s2.le) (.cons d2 .nil), by
      have q9 : PostR K mg G H (F [h, .tup [.str t, d]] S1) Q E := q
      cases e9 : F [h, .tup [.str t, d]] S1 with
      | bad => rw [e9] at q9; exact q9
      | exc c fs S' => rw [e9] at q9; exact fun cls d H' G' s' r' x' => q9 cls d H' G' (s1.trans (s2.trans s')) r' x'
      | ok d' S' => rw [e9] at q9; exact fun v' H' G' s' r' x' => q9 v' H' G' (s1.trans (s2.trans s')) r' x'⟩
end
end PF
/-! PY: x(lambda: ..), x(lambda: .., e). -/
namespace PF
open PySem PySem.Spec PyProof.Rows L2 L2H HotX LamX
theorem rel_ext {K : PySem.W.Frag} {mg : Str → Option Value} {G : Gh} {S : Sto} {H H1 : Hp} (r : Rel K mg G S H) (e : ExtN H H1) (t : Tabs G.T H1) : Stp G H G H1 ∧ Rel K mg G S H1 := by
  refine ⟨⟨fun _ _ h => h, rfl, ⟨[], (List.append_nil _).symm, fun _ h => nomatch h⟩, fun a o h nt _ => e a o h nt, fun _ _ h => .inl h⟩, ⟨fun a o h => e a o (r.sub a o h) (r.fn a o h), r.fn, r.len, r.nd, fun a h => ?_, fun n l h => ?_, t, r.tt⟩⟩
  · obtain ⟨o, h1, h2⟩ := r.th a h
    exact ⟨o, e a o h1 h2, h2⟩
  · obtain ⟨a, vs, h1, h2, h3, h4⟩ := r.st n l h
    exact ⟨a, vs, h1, e a _ h2 (fun _ z => nomatch z), h3, h4⟩
/-- the context of a lambda's body; what it lets out -/
def lamCxN (X : Cx) (A : Around) (outer : List Env) (s : Shared) (H : Hp) (E : XK) (scope : Scope) (f c' : Addr) : Cx :=
  { lamCx X A outer s H E scope f c' with xe := fun e s' => wpAny (model X.prog X.w) (A.deeper (lamEnv X scope s.heap.objs.size f c')) (leaving (lamEnv X scope s.heap.objs.size f c') e) (fun _ s'' => L2N.CX X.prog X.w outer H s E e s'') (fun e' s'' => L2N.CX X.prog X.w outer H s E e' s'') s' }
section
variable {X : Cx} {pins : List (Addr × Obj)} {σ : St} {H : Hp} {s : Shared}
theorem thunk_of {G : Gh} {σd : Stt} {scope : Scope} {f c' : Addr} {pm ctv : Value} {params : Arguments} {body : Expr} {k : Nat} {fb : EF} (I : Inv X pins σ H s) (L : LamS X.env.scope scope) (sl : Slots X.K X.mg G σd σ)
    (hf : s.heap.get? f = some (PySem.W.kla_obj "<lambda>" (X.env.qual ++ "<lambda>") params body scope (cloFrom X.env.cells scope.names []) pm c' ctv)) (hfn : H f = none) (hfr : f ∉ frs X.stack) (hc : G.F c' = some (CodeO c' (X.env.qual ++ "<lambda>")))
    (hbind : bindArgs (PySem.W.kla_fn "<lambda>" (X.env.qual ++ "<lambda>") params body scope (cloFrom X.env.cells scope.names []) pm (.ref c') ctv) ⟨[], []⟩ = pure [])
    (hbody : ∀ (A : Around) (outer : List Env) (s : Shared) (H : Hp) (E : XK), Room k (A.deeper (lamEnv X scope s.heap.objs.size f c')) → SE (lamCxN X A outer s H E scope f c') (fun cls d _ H => E cls d H) body fb) :
    Thunk X.prog X.w X.K X.mg X.base (k + 1) X.stack s H G f (fun S => fb σd S) := by
  refine ⟨⟨_, _, _, _, hf⟩, hfn, hfr, fun A outer s1 H1 G1 S1 Q E hr e0 un st r1 q => ?_⟩
  have of1 := un.keep f _ hf hfn hfr (by simp)
  obtain ⟨⟨oc, vs, t, hoc, hdc, hvc⟩, _, _⟩ := e0.hok c' _ (r1.sub _ _ (st.f _ _ hc))
  refine PySem.W.kla_callFunE hr.depth of1 rfl L.co L.gen rfl ⟨c', oc, vs, t, rfl, hoc, hdc, hvc⟩ ?_
  rw [hbind]
  have lim : s1.heap.NoLimit := e0.mod.nolimit.keeps fun b o e => (e0.bs b o e).1
  refine wpAny_pure (wpAny_newFunctionEnv (fun y hy => (L.own y hy).2) (fun y hy => absurd hy (by simp)) (fun h₁ hns hsb => ⟨lim.fresh _ hsb, ?_⟩) L.kind)
  show codeAny _ _ (.expr body (lamEnv X scope s1.heap.objs.size f c')) _ _
  have kp : ∀ b o, s1.heap.get? b = some o → h₁.get? b = some o := fun b o e => hsb.extBut b o (Nat.ne_of_lt (Heap.lt_size e)) (Heap.get?_push_of_some _ e)
  have J0 : Inv (lamCx X A outer s1 H1 E scope f c') [] σ H1 { s1 with heap := h₁, toks := s1.toks + ([] : List (Str × Value)).length } := lam_start2 I L e0 hr.hd un hns kp
  have J : Inv (lamCxN X A outer s1 H1 E scope f c') [] σ H1 { s1 with heap := h₁, toks := s1.toks + ([] : List (Str × Value)).length } := J0.wish _
  refine PySem.W.kla_codeExpr (wpAny_mono ((hbody A outer s1 H1 E (hr.deeper _)).run [] _ _ H1 Q J ⟨G1, σd, S1, r1, sl.mono st.le, ?_⟩) (fun v s' hq => ?_) fun e s' hq => hq)
  · cases e9 : fb σd S1 with
    | bad => rw [e9] at q; exact q
    | exc c fs S' => rw [e9] at q; exact fun cls d σ' H' G' s' r' sl' x' => q cls d H' G' s' r' x'
    | ok d' S' => rw [e9] at q; exact q
  · obtain ⟨w', H', J', rv, q⟩ := hq
    exact ⟨w', H', J'.os, J'.bare, J'.base, J'.hok, rv, q⟩
/-- X is the def mk, which writes lambdas -/
structure MkL (X : Cx) (mk : Str) : Prop where
  ex : ∃ c P, X.env.code = .ref c ∧ codeTab X.K X.mg mk = some (c, P) ∧ TabB X.base X.mg c P
  mem : mk ∈ lamMakers
  q : X.env.qual ++ "<lambda>" = lamQ mk
  stk : X.stack = X.env :: X.outer
  fr : X.env.frame = some X.env.locals
/-- a lambda without parameters -/
structure LamK (X : Cx) (scope : Scope) (params : Arguments) (body : Expr) (k : Nat) (fb : EF) : Prop where
  L : LamS X.env.scope scope
  hdef : defaultsOf params X.env = ([], [])
  hbind : ∀ (q : Str) (cl : List (Str × Addr)) (pm cv ctv : Value), bindArgs (PySem.W.kla_fn "<lambda>" q params body scope cl pm cv ctv) ⟨[], []⟩ = pure []
  body : ∀ (A : Around) (outer : List Env) (s : Shared) (H : Hp) (E : XK) (f c' : Addr), Room k (A.deeper (lamEnv X scope s.heap.objs.size f c')) → SE (lamCxN X A outer s H E scope f c') (fun cls d _ H => E cls d H) body fb
/-- the lambda is made -/
theorem lam_mk {mk : Str} {scope : Scope} {params : Arguments} {body : Expr} {k : Nat} {fb : EF} {pos : Pos} {G : Gh} {S : Sto} {σd : Stt} {Q : Value → Shared → Prop} {E : Value → Shared → Prop} (I : Inv X pins σ H s) (M : MkL X mk) (LK : LamK X scope params body k fb) (r : Rel X.K X.mg G S H) (sl : Slots X.K X.mg G σd σ)
    (h : ∀ (f : Addr) (o : Obj) (H1 : Hp) (s' : Shared) (G1 : Gh), Inv X ((f, o) :: pins) σ H1 s' → Stp G H G1 H1 → Rel X.K X.mg G1 S H1 →
      (∀ (s2 : Shared) (H2 : Hp) (G2 : Gh) (pins2 : List (Addr × Obj)), Inv X ((f, o) :: pins2) σ H2 s2 → G1.le G2 → Thunk X.prog X.w X.K X.mg X.base (k + 1) X.stack s2 H2 G2 f (fun S => fb σd S)) → Q (.ref f) s') :
    wpAny (model X.prog X.w) X.A (eval (.Lambda params body scope pos) X.env) Q E s := by
  obtain ⟨c, P, hcode, hct, TB⟩ := M.ex
  obtain ⟨t1, t2⟩ := r.tt mk M.mem c P hct
  refine lam_make2 (T := G.T) I TB hcode (by rw [M.q]; exact t1) (by rw [M.q]; exact t2) r.tabs LK.hdef (LK.L.has I.ok) fun f c' pm ctv H1 s' I1 eN T1 hf hfn hfr hco => ?_
  obtain ⟨s1, r1⟩ := rel_ext r eN T1
  obtain ⟨s2, r2⟩ := r1.know hco (.inl ⟨_, rfl⟩)
  have nL : f ≠ X.env.locals := fun z => hfr (by rw [M.stk]; exact List.mem_filterMap.mpr ⟨X.env, List.mem_cons_self, by rw [M.fr, z]⟩)
  have nF : f ∉ X.fs := fun z => hfr (by
    rw [M.stk]
    obtain ⟨e, he, q⟩ := List.mem_filterMap.mp z
    exact List.mem_filterMap.mpr ⟨e, List.mem_cons_of_mem _ he, q⟩)
  refine h f (PySem.W.kla_obj "<lambda>" (X.env.qual ++ "<lambda>") params body scope (cloFrom X.env.cells scope.names []) pm c' ctv) H1 s' _ (I1.pins_of fun p hp => ?_) (s1.trans s2) r2 fun s3 H3 G3 pins3 I3 le3 => ?_
  · rcases List.mem_cons.mp hp with z | z
    · rw [z]
      exact ⟨hf, hfn, nL, nF, fun v z => nomatch z⟩
    · exact I1.pin p (List.mem_append_right _ z)
  · obtain ⟨p1, p2, _⟩ := I3.pin (f, _) (List.mem_append_right _ List.mem_cons_self)
    refine thunk_of I3 LK.L (sl.mono ((s1.trans s2).le.trans le3)) p1 p2 hfr (le3.f _ _ (by show upd _ _ _ _ = _; rw [upd_same])) (LK.hbind _ _ _ _ _) fun A outer s H E hr => LK.body A outer s H E f c' hr
end
section
variable {X : Cx} {W : WX} {mk x t : Str} {scope : Scope} {params : Arguments} {body oe : Expr} {k kk : Nat} {fb fo : EF} {p lpos pos : Pos} {good : List (Str × Str)} {F : FF}
/-- x(lambda: body), x hears it -/
def fHeard (good : List (Str × Str)) (fb : EF) : EF := fun σ S => hearD good (fun S => fb σ S) S
theorem se_heard (HO : HeardOk X.prog X.w X.K X.mg X.base kk (k + 1) x good) (M : MkL X mk) (LK : LamK X scope params body k fb) (hr : Room kk X.A) (tk : L2N.Takes X W) (hg : Gl X x) (hdb : (x == ("__debug__" : Str)) = false := by decide) :
    SE X W (.Call (.Name x p) [.Lambda params body scope lpos] [] pos) (fHeard good fb) := by
  obtain ⟨fn, gl, kp, run⟩ := HO
  refine ⟨fun pins s σ H Q I ⟨G, σd, S, r, sl, q⟩ => ?_⟩
  refine wpAny_Call_Name_kw (ld_glob I hg gl ?_ hdb)
  refine PySem.W.callWith_K (h₀ := X.base) I.ok.mod.kin kp ?_ (by rfl) (by rfl)
  show wpAny _ _ (spliced ((false, eval (.Lambda params body scope lpos) X.env) :: backTo pos (starEach [] X.env))) _ _ s
  refine Calls.spliced_cons (lam_mk I M LK r sl fun f o H1 s' G1 I1 st1 r1 hT => ?_)
  refine Calls.spliced_nil ⟨I1.kIn, ?_⟩
  have I1' : Inv X pins σ H1 s' := I1.pins_of fun p hp => I1.pin p (List.mem_append_right _ (List.mem_cons_of_mem _ hp))
  have q9 : PostE X.K X.mg W G1 H1 σd (hearD good (fun S => fb σd S) S) Q := PostE.pre st1 q
  refine wpAny_call (codeAny_mono (run X.A X.stack s' H1 G1 S Q (WE W σ) f (fun S => fb σd S) hr I1.env0 r1 (hT s' H1 G1 pins I1 Gh.le.rfl') ?_) fun r s2 hq => ?_)
  · cases e : hearD good (fun S => fb σd S) S with
    | bad => rw [e] at q9; exact q9
    | ok d S' => rw [e] at q9; exact q9
    | exc c fs S' =>
      unfold hearD at e
      split at e
      · cases e
      · split at e <;> cases e
      · cases e
  · cases r with
    | error e => exact L2N.passAt tk σ pins H1 s' e s2 I1' hq
    | ok fl =>
      cases fl with
      | ret u => exact I1'.after hq
      | next => exact False.elim hq
      | brk => exact False.elim hq
      | cont => exact False.elim hq
/-- x(lambda: body, e), x tells -/
def fTells (good : List (Str × Str)) (t : Str) (F : FF) (fb fo : EF) : EF := fun σ S => (fo σ S).bind fun d S1 => tellsD good t F (fun S => fb σ S) d S1
theorem se_tells (TO : TellsOk X.prog X.w X.K X.mg X.base kk (k + 1) x good t F) (M : MkL X mk) (LK : LamK X scope params body k fb) (ho : SE X W oe fo) (hr : Room kk X.A) (tk : L2N.Takes X W) (hg : Gl X x) (hdb : (x == ("__debug__" : Str)) = false := by decide)
    (h1 : starEach (.Lambda params body scope lpos :: [oe]) X.env = (false, eval (.Lambda params body scope lpos) X.env) :: starEach [oe] X.env := by rfl) (h2 : starEach [oe] X.env = (false, eval oe X.env) :: starEach [] X.env := by rfl) (hpl : (backTo pos (starEach [oe] X.env)).any (·.1) = false := by rfl) :
    SE X W (.Call (.Name x p) [.Lambda params body scope lpos, oe] [] pos) (fTells good t F fb fo) := by
  obtain ⟨fn, gl, kp, run⟩ := TO
  refine ⟨fun pins s σ H Q I ⟨G, σd, S, r, sl, q⟩ => ?_⟩
  refine wpAny_Call_Name_kw (ld_glob I hg gl ?_ hdb)
  refine PySem.W.callWith_K (h₀ := X.base) I.ok.mod.kin kp ?_ h1 hpl
  rw [h1, h2]
  show wpAny _ _ (spliced ((false, eval (.Lambda params body scope lpos) X.env) :: (false, eval oe X.env) :: backTo pos (starEach [] X.env))) _ _ s
  refine Calls.spliced_cons (lam_mk I M LK r sl fun f o H1 s' G1 I1 st1 r1 hT => ?_)
  have q9 : PostE X.K X.mg W G1 H1 σd ((fo σd S).bind fun d S1 => tellsD good t F (fun S => fb σd S) d S1) Q := PostE.pre st1 q
  refine Calls.spliced_cons (thn (ho.run ((f, o) :: pins) s' σ H1 _ I1 ⟨G1, σd, S, r1, sl.mono st1.le, bindE q9⟩) fun u s2 ⟨v, H2, I2, rv, G2, d, S2, st2, r2, dv, q2⟩ => ?_)
  refine Calls.spliced_nil ⟨I2.kIn, ?_⟩
  have I2' : Inv X pins σ H2 s2 := I2.pins_of fun p hp => I2.pin p (List.mem_append_right _ (List.mem_cons_of_mem _ hp))
  refine wpAny_call (codeAny_mono (run X.A X.stack s2 H2 G2 S2 Q (WE W σ) f (fun S => fb σd S) u v d hr I2.env0 r2 (hT s2 H2 G2 pins I2 st2.le) rv dv (postR_of (sl.mono (st1.le.trans st2.le)) q2)) fun r s3 hq => ?_)
  cases r with
  | error e => exact L2N.passAt tk σ pins H2 s2 e s3 I2' hq
  | ok fl =>
    cases fl with
    | ret u => exact I2'.after hq
    | next => exact False.elim hq
    | brk => exact False.elim hq
    | cont => exact False.elim hq
end
/-- what the written part says of the tables -/
def TabsB (K : PySem.W.Frag) (mg : Str → Option Value) (base : Heap) : Prop := ∀ x ∈ lamMakers, ∀ c P, codeTab K mg x = some (c, P) → TabB base mg c P
section
variable {P : Program} {w : World} {K : PySem.W.Frag} {mg : Str → Option Value} {base : Heap}
theorem own_ofL {x : Str} {st : Stmt} {N ps : List Str} {k n : Nat} {body : SF} (Dx : DefAt K mg x st) (B : TabsB K mg base) (hx : x ∈ lamMakers) (ht : (codeTab K mg x).isSome = true) (S : FnScope N ps (defScope st)) (hn : ps.length = n)
    (hbd : ∀ (kV doc pm : Value) (an : Option Addr) (cdv ct : Value) (us : List Value), us.length = ps.length → bindArgs (PySem.W.fnOf x x (defArgs st) (defBody st) (defScope st) .none kV doc pm an cdv ct) ⟨us, []⟩ = pure (ps.zip us))
    (hb : ∀ (f : Addr) (cdv : Value) (A : Around) (outer : List Env) (s : Shared) (H : Hp) (E : XK), Room k (A.deeper (envOfC x (defScope st) s.heap.objs.size f cdv)) → MkL (cxOf (L2N.CX P w) P w K mg base N x (defScope st) f cdv A outer s H E) x →
      SSs (cxOf (L2N.CX P w) P w K mg base N x (defScope st) f cdv A outer s H E) (fun cls d _ H => E cls d H) (defBody st) body) : Own P w K mg base (k + 1) x n (runF N.length body) := by
  obtain ⟨f, fd, FU, gl⟩ := Dx
  refine ⟨f, fd, ps, gl, FU.kp, FU.bindsN hbd, ?_⟩
  obtain ⟨oc, od, dV, kV, doc, pm, an, cdv, ct, osl, rfl, lk, hcd, _, _⟩ := FU.ex
  have hcdv : ∃ c P, cdv = .ref c ∧ codeTab K mg x = some (c, P) := by
    obtain ⟨⟨c, P⟩, e⟩ := Option.isSome_iff_exists.mp ht
    have e' := e
    unfold codeTab at e'
    simp only [gl, lk] at e'
    refine ⟨c, P, ?_, e⟩
    clear e hcd lk
    cases cdv with
    | ref c9 =>
      have e2 : (match K.lookup c9 with
        | some (⟨_, _, .fields vs, _⟩ : Obj) => (match vs[11]? with
          | some (Value.ref P) => some (c9, P)
          | _ => none)
        | _ => none) = some (c, P) := e'
      split at e2
      · split at e2
        · cases e2; rfl
        · cases e2
      · cases e2
    | _ => cases e'
  obtain ⟨c, Pt, ec, et⟩ := hcdv
  refine L2.fn_of lk hcd S (fun vs H Q E h => by rw [h.1, hn]) fun A outer s H vs Q E hr h => ⟨_, hb f cdv A outer s H E hr ⟨⟨c, Pt, ec, et, B x hx c Pt et⟩, hx, rfl, rfl, rfl⟩, ?_⟩
  obtain ⟨hl, G, ds, S', r, ha, p⟩ := h
  refine ⟨G, startD N.length ds, S', r, slots_start ha, ?_⟩
  unfold runF Out.res at p
  show PostS K mg _ G H (body (startD N.length ds) S') _
  cases e : body (startD N.length ds) S' with
  | nx σ S1 => rw [e] at p; exact fun σ' H' G' s' r' sl' => p .non H' G' s' r' .non
  | rt d S1 => rw [e] at p; exact p
  | bk σ S1 => rw [e] at p; exact p.elim
  | ct σ S1 => rw [e] at p; exact p.elim
  | exc σ c fs S1 => rw [e] at p; exact fun cls d σ' H' G' s' r' sl' x' => p cls d H' G' s' r' x'
  | bad => rw [e] at p; exact p
end
end PF
/-! PY: the exception classes of a law, by name. -/
namespace PF
open PySem PySem.Spec PyProof.Rows L2 L2H HotX
/-- the classes names, C the one of the name c -/
structure XcA (K : PySem.W.Frag) (mg : Str → Option Value) (names : List Str) (c : Str) (C : Addr) : Prop where
  k : XcK K C
  no : ∀ f ∈ (["line", "limit", "value"] : List Str), PySem.W.findIn K (.ref C) f = some none
  me : c ∈ names
  cls : ∀ x ∈ names, ∃ Cx, mg x = some (.ref Cx) ∧ PySem.W.kitOne K (.ref C) (.ref Cx) = some (decide (x = c)) ∧ PySem.W.exmOne K (.ref C) (.ref Cx) = some (decide (x = c))
def clsV (mg : Str → Option Value) (x : Str) : Value := (mg x).getD .none
theorem XcA.val {K : PySem.W.Frag} {mg : Str → Option Value} {names : List Str} {c : Str} {C : Addr} (h : XcA K mg names c C) {x : Str} (hx : x ∈ names) : ∃ Cx, mg x = some (.ref Cx) ∧ clsV mg x = .ref Cx := by
  obtain ⟨Cx, e, _⟩ := h.cls x hx
  exact ⟨Cx, e, by unfold clsV; rw [e]; rfl⟩
theorem XcA.exm {K : PySem.W.Frag} {mg : Str → Option Value} {names : List Str} {c : Str} {C : Addr} (h : XcA K mg names c C) : ∃ bs : List Bool, (names.map (clsV mg)).length = bs.length ∧ bs.any id = true ∧ ∀ (i : Nat) v x, (names.map (clsV mg))[i]? = some v → bs[i]? = some x → PySem.W.exmOne K (.ref C) v = some x := by
  refine ⟨names.map fun x => decide (x = c), by rw [List.length_map, List.length_map], ?_, fun i v x e1 e2 => ?_⟩
  · rw [List.any_map]
    exact List.any_eq_true.mpr ⟨c, h.me, by simp⟩
  · rw [List.getElem?_map] at e1 e2
    cases e : names[i]? with
    | none => rw [e] at e1; cases e1
    | some y =>
      rw [e] at e1 e2
      cases e1
      cases e2
      obtain ⟨Cx, k1, k2, k3⟩ := h.cls y (List.mem_of_getElem? e)
      show PySem.W.exmOne K (.ref C) (clsV mg y) = _
      unfold clsV
      rw [k1]
      exact k3
/-- some class of the list is there with what is asked of it: the law's own -/
def XcT (K : PySem.W.Frag) (mg : Str → Option Value) (names : List Str) (good : List (Str × Str)) : Prop := ∀ c f, (c, f) ∈ good → ∃ C, mg c = some (.ref C) ∧ XcA K mg names c C
theorem nm_of {mg : Str → Option Value} {x : Str} (h : ∃ C, mg x = some (.ref C)) : mg x = some (clsV mg x) := by
  obtain ⟨C, e⟩ := h
  unfold clsV
  rw [e]; rfl
section
variable {X : Cx} {W : WX} {e : Expr} {x c f : Str} {p : Addr × Obj} {C d : Addr} {fa : EF} {q1 q2 pos : Pos} {names : List Str}
theorem se_isXc (hp : p ∈ X.pn) (P : PinX p C d) (T : XcA X.K X.mg names c C) (hx : x ∈ names) (hg : Gl X "isinstance") (hm : X.mg "isinstance" = none) (hgC : Gl X x) (he : SE X W e fa) (hdb : (x == ("__debug__" : Str)) = false := by decide)
    (h1 : starEach (e :: [.Name x q2]) X.env = (false, eval e X.env) :: starEach [.Name x q2] X.env := by rfl) (h2 : starEach (.Name x q2 :: []) X.env = (false, eval (.Name x q2) X.env) :: starEach [] X.env := by rfl) (hpl : (backTo pos (starEach [.Name x q2] X.env)).any (·.1) = false := by rfl) :
    SE X W (.Call (.Name "isinstance" q1) [e, .Name x q2] [] pos) (fIsX p.1 d (decide (x = c)) fa) := by
  obtain ⟨Cx, k1, k2, _⟩ := T.cls x hx
  exact se_isX hp P T.k k2 hg hm hgC k1 he hdb h1 h2 hpl
theorem se_xfc (hp : p ∈ X.pn) (P : PinX p C d) (T : XcA X.K X.mg names c C) (hf : f ∈ (["line", "limit", "value"] : List Str)) (he : SE X W e fa) (hb : attributeBase e f X.env (eval e X.env) = eval e X.env := by rfl) : SE X W (.Attribute e f pos) (fXf p.1 d f fa) :=
  se_xf hp P T.k (T.no f hf) he hb
end
end PF
/-! PY: a class's methods as plain functions. -/
namespace PF
open PySem PySem.Spec PyProof.Rows L2 L2H HotX
/-- the j-th statement of a class -/
def clsAt (s : Stmt) (j : Nat) : Stmt := match s with
  | .ClassDef _ _ _ b _ _ _ _ _ _ _ => b.getD j (.Pass ⟨0, 0, 0, 0⟩)
  | _ => .Pass ⟨0, 0, 0, 0⟩
structure PropK (K : PySem.W.Frag) (C : Addr) (f q : Str) (st : Stmt) : Prop where
  ex : ∃ pa fn fd, PropOf K C f pa fn ∧ FnP K f q st fn fd
structure InitK (K : PySem.W.Frag) (C : Addr) (q : Str) (st : Stmt) : Prop where
  ex : ∃ fI fd, Mk K C fI ∧ FnP K "__init__" q st fI fd
structure EqK (K : PySem.W.Frag) (C : Addr) (q : Str) (st : Stmt) : Prop where
  ex : ∃ fn fd, PySem.W.findIn K (.ref C) "__eq__" = some (some (.ref fn)) ∧ PySem.W.isFn K (.ref fn) = true ∧ FnP K "__eq__" q st fn fd
def PropOwn (P : Program) (w : World) (K : PySem.W.Frag) (mg : Str → Option Value) (base : Heap) (k : Nat) (c f : Str) (F : FF) : Prop :=
  ∃ C pa fn fd ps, ClsK K mg c C ∧ PropOf K C f pa fn ∧ Binds K fd ps [] ∧ FnOk P w K mg base (L2N.CX P w) k fn fd ps (spF K mg 1 F)
def EqOwn (P : Program) (w : World) (K : PySem.W.Frag) (mg : Str → Option Value) (base : Heap) (k : Nat) (c : Str) (F : FF) : Prop :=
  ∃ C fn fd ps, ClsK K mg c C ∧ PySem.W.findIn K (.ref C) "__eq__" = some (some (.ref fn)) ∧ PySem.W.isFn K (.ref fn) = true ∧ Binds K fd ps [] ∧ FnOk P w K mg base (L2N.CX P w) k fn fd ps (spF K mg 2 F)
def MakeOwn (P : Program) (w : World) (K : PySem.W.Frag) (mg : Str → Option Value) (base : Heap) (k : Nat) (c : Str) (n : Nat) (F : FI) : Prop :=
  ∃ C fI fd ps, ClsK K mg c C ∧ Mk K C fI ∧ Binds K fd ps [] ∧ FnOk P w K mg base (L2N.CX P w) k fI fd ps (spI K mg C n F)
section
variable {P : Program} {w : World} {K : PySem.W.Frag} {mg : Str → Option Value} {base : Heap}
theorem propOwn_of {c f q : Str} {C : Addr} {st : Stmt} {N ps : List Str} {k : Nat} {body : SF} (T : ClsK K mg c C) (h : PropK K C f q st) (S : FnScope N ps (defScope st)) (hn : ps.length = 1)
    (hbd : ∀ (kV doc pm : Value) (an : Option Addr) (cdv ct : Value) (us : List Value), us.length = ps.length → bindArgs (PySem.W.fnOf f q (defArgs st) (defBody st) (defScope st) .none kV doc pm an cdv ct) ⟨us, []⟩ = pure (ps.zip us))
    (hb : ∀ (fn : Addr) (cdv : Value) (A : Around) (outer : List Env) (s : Shared) (H : Hp) (E : XK), Room k (A.deeper (envOfC q (defScope st) s.heap.objs.size fn cdv)) →
      SSs (cxOf (L2N.CX P w) P w K mg base N q (defScope st) fn cdv A outer s H E) (fun cls d _ H => E cls d H) (defBody st) body) : PropOwn P w K mg base (k + 1) c f (runF N.length body) := by
  obtain ⟨pa, fn, fd, hp, FU⟩ := h.ex
  exact ⟨C, pa, fn, fd, ps, T, hp, FU.bindsN hbd, defD_ok FU S hn (hb fn)⟩
theorem eqOwn_of {c q : Str} {C : Addr} {st : Stmt} {N ps : List Str} {k : Nat} {body : SF} (T : ClsK K mg c C) (h : EqK K C q st) (S : FnScope N ps (defScope st)) (hn : ps.length = 2)
    (hbd : ∀ (kV doc pm : Value) (an : Option Addr) (cdv ct : Value) (us : List Value), us.length = ps.length → bindArgs (PySem.W.fnOf "__eq__" q (defArgs st) (defBody st) (defScope st) .none kV doc pm an cdv ct) ⟨us, []⟩ = pure (ps.zip us))
    (hb : ∀ (fn : Addr) (cdv : Value) (A : Around) (outer : List Env) (s : Shared) (H : Hp) (E : XK), Room k (A.deeper (envOfC q (defScope st) s.heap.objs.size fn cdv)) →
      SSs (cxOf (L2N.CX P w) P w K mg base N q (defScope st) fn cdv A outer s H E) (fun cls d _ H => E cls d H) (defBody st) body) : EqOwn P w K mg base (k + 1) c (runF N.length body) := by
  obtain ⟨fn, fd, h1, h2, FU⟩ := h.ex
  exact ⟨C, fn, fd, ps, T, h1, h2, FU.bindsN hbd, defD_ok FU S hn (hb fn)⟩
theorem makeOwn_of {c q f self : Str} {C : Addr} {st : Stmt} {N ps : List Str} {k n : Nat} {s1 s2 : Stmt} {a1 a2 : SF} {e : EF} {val : Expr} {q1 q2 q3 : Pos} (T : ClsK K mg c C) (na : NoAttr K C f) (h : InitK K C q st) (S : FnScope N ps (defScope st)) (hn : ps.length = n + 1)
    (hbd : ∀ (kV doc pm : Value) (an : Option Addr) (cdv ct : Value) (us : List Value), us.length = ps.length → bindArgs (PySem.W.fnOf "__init__" q (defArgs st) (defBody st) (defScope st) .none kV doc pm an cdv ct) ⟨us, []⟩ = pure (ps.zip us))
    (hst : defBody st = [s1, s2, .Assign [.Attribute (.Name self q1) f q2] val q3])
    (hb : ∀ (fn : Addr) (cdv : Value) (A : Around) (outer : List Env) (s : Shared) (H : Hp) (E : XK), Room k (A.deeper (envOfC q (defScope st) s.heap.objs.size fn cdv)) →
      SS (cxOf (L2N.CX P w) P w K mg base N q (defScope st) fn cdv A outer s H E) (fun cls d _ H => E cls d H) s1 a1 ∧
      SS (cxOf (L2N.CX P w) P w K mg base N q (defScope st) fn cdv A outer s H E) (fun cls d _ H => E cls d H) s2 a2 ∧
      SE (cxOf (L2N.CX P w) P w K mg base N q (defScope st) fn cdv A outer s H E) (fun cls d _ H => E cls d H) val e ∧
      PE (cxOf (L2N.CX P w) P w K mg base N q (defScope st) fn cdv A outer s H E) (.Name self q1) (tVar 0) ∧
      swapsWith val (some (.Attribute (.Name self q1) f q2)) q3.line (cxOf (L2N.CX P w) P w K mg base N q (defScope st) fn cdv A outer s H E).env = pure false) :
    MakeOwn P w K mg base (k + 1) c n (initF N.length (sSeq a1 a2) f e) := by
  obtain ⟨fI, fd, M, FU⟩ := h.ex
  exact ⟨C, fI, fd, ps, T, M, FU.bindsN hbd, init2_ok (s3 := .Pass q1) FU S hn T.cls na hst (hb fI)⟩
end
section
variable {X : Cx} {W : WX} {e a b : Expr} {es : List Expr} {c f : Str} {p pos : Pos} {fa fb : EF} {g : AF} {k n : Nat} {F : FF}
theorem se_propO (h : PropOwn X.prog X.w X.K X.mg X.base k c f F) (hr : Room (k + 1) X.A) (he : SE X W e fa) (hb : attributeBase e f X.env (eval e X.env) = eval e X.env := by rfl) : SE X W (.Attribute e f pos) (fProp c F fa) := by
  obtain ⟨C, pa, fn, fd, ps, h1, h2, h3, h4⟩ := h
  exact se_prop h1 h2 h4 hr h3 he hb
theorem se_eqO (h : EqOwn X.prog X.w X.K X.mg X.base k c F) (hr : Room k X.A) (ha : SE X W a fa) (hb : SE X W b fb) : SE X W (.Compare a [.Eq] [b] pos) (fEqI c F fa fb) := by
  obtain ⟨C, fn, fd, ps, h1, h2, h3, h4, h5⟩ := h
  exact se_eqI h1 h2 h3 h5 hr h4 ha hb
theorem sb_eqI {k : Nat} {fn : Addr} {fd : FuncData} {ps : List Str} {F : FF} {C : Addr} (T : ClsK X.K X.mg c C) (hs : PySem.W.findIn X.K (.ref C) "__eq__" = some (some (.ref fn))) (hf : PySem.W.isFn X.K (.ref fn) = true)
    (FO : FnOk X.prog X.w X.K X.mg X.base (L2N.CX X.prog X.w) k fn fd ps (spF X.K X.mg 2 F)) (hr : Room k X.A) (hbd : Binds X.K fd ps []) (ha : SE X W a fa) (hb : SE X W b fb) : SB X W (.Compare a [.Eq] [b] pos) (bV (fEqI c F fa fb)) := by
  refine pt_weak (pt_cmpR (r := fun v u H Q => ∃ G S fs y kk S3, Rel X.K X.mg G S H ∧ Dq X.K X.mg G v (.ins c fs) ∧ Dq X.K X.mg G u y ∧ (isaC S c y).isSome = true ∧ F [.ins c fs, y] S = .ok (.bl kk) S3 ∧ ∀ H' G', Stp G H G' H' → Rel X.K X.mg G' S3 H' → Q (.bl kk) H')
    (fun pins s σ H v u v' u' Q I rv ru ⟨G, S, fs, y, kk, S3, h1, h2, h3, h4, h5, h6⟩ => of_eqI T hs hf FO hr hbd I rv ru h1 h2 h3 h4 h5 h6) ha hb (nomark _)) fun σ H Q q0 => ?_
  obtain ⟨G, σd, S, r, sl, p⟩ := toV q0
  refine ⟨G, σd, S, r, sl, (bindE p).mono fun v H1 ⟨G1, d1, S1, s1, r1, dv1, p1⟩ => ?_⟩
  refine ⟨G1, σd, S1, r1, sl.mono s1.le, (bindE p1).mono fun u H2 ⟨G2, d2, S2, s2, r2, dv2, p2⟩ => ?_⟩
  cases d1 with
  | ins c' fs =>
    have p9 : PostE X.K X.mg W G2 H2 σd (if c' = c ∧ (isaC S2 c d2).isSome then (match F [.ins c' fs, d2] S2 with
      | .ok (.bl k) S3 => .ok (.bl k) S3
      | _ => .bad) else .bad) _ := p2
    clear p2
    split at p9
    · rename_i hc
      obtain ⟨hc, hi⟩ := hc
      subst hc
      cases e : F [.ins c' fs, d2] S2 with
      | ok z S3 =>
        rw [e] at p9
        cases z with
        | bl kk => exact ⟨G2, S2, fs, d2, kk, S3, r2, dv1.mono s2.le, dv2, hi, e, fun H' G' s' r' => p9 _ H' G' s' r' (.bl kk)⟩
        | _ => exact p9.elim
      | exc _ _ _ => rw [e] at p9; exact p9.elim
      | bad => rw [e] at p9; exact p9.elim
    · exact p9.elim
  | _ => exact p2.elim
theorem sb_eqIO (h : EqOwn X.prog X.w X.K X.mg X.base k c F) (hr : Room k X.A) (ha : SE X W a fa) (hb : SE X W b fb) : SB X W (.Compare a [.Eq] [b] pos) (bV (fEqI c F fa fb)) := by
  obtain ⟨C, fn, fd, ps, h1, h2, h3, h4, h5⟩ := h
  exact sb_eqI h1 h2 h3 h5 hr h4 ha hb
theorem se_makeO {F : FI} (h : MakeOwn X.prog X.w X.K X.mg X.base k c n F) (hind : ∀ v ds S, ds.length = n → F (.raw v :: ds) S = F (.raw .non :: ds) S) (hr : Room (k + 1) X.A) (tk : L2N.Takes X W) (hg : Gl X c) (ha : SA X W (e :: es) g) (hdb : (c == ("__debug__" : Str)) = false := by decide)
    (he : starEach (e :: es) X.env = (false, eval e X.env) :: starEach es X.env := by rfl) (hpl : (backTo pos (starEach es X.env)).any (·.1) = false := by rfl) : SE X W (.Call (.Name c p) (e :: es) [] pos) (fMake c n F g) := by
  obtain ⟨C, fI, fd, ps, h1, h2, h3, h4⟩ := h
  exact se_make h1 h2 h4 hind hr tk hg h3 ha hdb he hpl
/-- the class is there -/
def ClsT (K : PySem.W.Frag) (mg : Str → Option Value) (c : Str) : Prop := ∃ C, ClsK K mg c C
theorem se_isCT {q1 q2 : Pos} (T : ClsT X.K X.mg c) (hg : Gl X "isinstance") (hm : X.mg "isinstance" = none) (hgC : Gl X c) (he : SE X W e fa) (hdb : (c == ("__debug__" : Str)) = false := by decide)
    (h1 : starEach (e :: [.Name c q2]) X.env = (false, eval e X.env) :: starEach [.Name c q2] X.env := by rfl) (h2 : starEach (.Name c q2 :: []) X.env = (false, eval (.Name c q2) X.env) :: starEach [] X.env := by rfl) (hpl : (backTo pos (starEach [.Name c q2] X.env)).any (·.1) = false := by rfl) :
    SE X W (.Call (.Name "isinstance" q1) [e, .Name c q2] [] pos) (fIsC c fa) := by
  obtain ⟨C, T⟩ := T
  exact se_isC T hg hm hgC he hdb h1 h2 hpl
theorem se_fldT (T : ∃ C, ClsK X.K X.mg c C ∧ NoAttr X.K C f) (he : SE X W e fa) (hb : attributeBase e f X.env (eval e X.env) = eval e X.env := by rfl) : SE X W (.Attribute e f pos) (fFld c f fa) := by
  obtain ⟨C, T, na⟩ := T
  exact se_fld T na he hb
/-- the exception class is there -/
def XsT (P : Program) (K : PySem.W.Frag) (mg : Str → Option Value) (c f : Str) : Prop := ∃ C fI, PySem.XsX.XsTxt P K mg C fI f ∧ mg c = some (.ref C)
theorem ss_raiseT {x : Str} {pos2 : Pos} {k : Nat} (T : XsT X.prog X.K X.mg x f) (hc : X.calm = true) (tk : L2N.Takes X W) (hr : Room k X.A) (ha : SE X W a fa) (hg : Gl X x) (hdb : (x == ("__debug__" : Str)) = false := by decide)
    (he : starEach (a :: []) X.env = (false, eval a X.env) :: starEach [] X.env := by rfl) (hpl : (backTo pos (starEach [] X.env)).any (·.1) = false := by rfl) :
    SS X W (.Raise (some (.Call (.Name x p) [a] [] pos)) none pos2) (sRaise x f fa) := by
  obtain ⟨C, fI, T, gC⟩ := T
  exact ss_raise hc tk T gC hr ha hg hdb he hpl
end
end PF
/-! PM: methods called. -/
namespace PF
open PySem PySem.Spec PyProof.Rows L2 L2H HotX
section
variable {X : Cx} {W : WX} {CX : CXT} {k : Nat} {C f : Addr} {m c : Str} {fd : FuncData} {ps : List Str} {sp : Sp} {E : St → XK} {o e : Expr} {es : List Expr} {apos pos : Pos} {ta : TE} {t : TA} {fa : EF} {g : AF} {n : Nat} {F : FF}
def tMethSD (C : Addr) (m : Str) (sp : Sp) (E : St → XK) (ta : TE) (t : TA) : TE := fun σ H Q => ta σ H fun x H1 => ∃ a dx fs, x = .ref a ∧ H1 a = some (.ins C dx fs) ∧ fs.lookup m = none ∧
  t σ H1 fun vs H2 => sp (x :: vs) H2 Q (E σ)
theorem pe_methSD {pl : Sem Bool} (he : PE X o ta) (c : Cls X.K C) (hm : Meth X.K C m f) (F : FnOk X.prog X.w X.K X.mg X.base CX k f fd ps sp) (hr : Room k X.A) (hb : Binds X.K fd ps []) (hx : ∀ σ, PassesAt CX X σ (E σ)) (ha : PA X (e :: es) t)
    (hst : starEach (e :: es) X.env = (false, eval e X.env) :: starEach es X.env := by rfl) (hpl : (backTo pos (starEach es X.env)).any (·.1) = false := by rfl)
    (ht : eval (.Call (.Attribute o m apos) (e :: es) [] pos) X.env = (do
      let ov ← eval o X.env
      standAt apos.atName
      let (f, first) ← holding [ov] (getMethod ov m pl)
      callWith pos f first (backTo pos (starEach (e :: es) X.env)) (backToKw pos (keywordEach [] X.env))) := by rfl) :
    PE X (.Call (.Attribute o m apos) (e :: es) [] pos) (tMethSD C m sp E ta t) := by
  refine ⟨fun pins s σ H Q I h => ?_⟩
  refine PySem.W.methodCall_KW (pl := pl) (thn (he.run pins s σ H _ I h) fun u s1 ⟨x, H1, I1, rx, a, dx, fs, ex, ea, l, q⟩ => ?_) ht
  subst ex
  obtain rfl : u = Value.ref a := rx
  refine getmeth_ok I1 ea c hm l ?_
  refine PySem.W.callWith_K (first := [.ref a]) (h₀ := X.base) I.ok.mod.kin hm.kp (thn (ha.run pos pins s1 σ H1 _ I1 q) fun us s2 ⟨vs, H2, I2, r, q2⟩ => ⟨I2.kIn, ?_⟩) hst hpl
  exact run_fnSD (us := .ref a :: us) (vs := .ref a :: vs) (dvs := []) (ds := []) F hr hb .nil (hx σ) I2 (.cons rfl r) (by rw [List.append_nil]; exact q2)
theorem pe_methSD0 {pl : Sem Bool} (he : PE X o ta) (c : Cls X.K C) (hm : Meth X.K C m f) (F : FnOk X.prog X.w X.K X.mg X.base CX k f fd ps sp) (hr : Room k X.A) (hb : Binds X.K fd ps []) (hx : ∀ σ, PassesAt CX X σ (E σ))
    (ht : eval (.Call (.Attribute o m apos) [] [] pos) X.env = (do
      let ov ← eval o X.env
      standAt apos.atName
      let (f, first) ← holding [ov] (getMethod ov m pl)
      callWith pos f first (backTo pos (starEach [] X.env)) (backToKw pos (keywordEach [] X.env))) := by rfl) :
    PE X (.Call (.Attribute o m apos) [] [] pos) (tMethSD C m sp E ta tNil) := by
  refine ⟨fun pins s σ H Q I h => ?_⟩
  refine PySem.W.methodCall_KW (pl := pl) (thn (he.run pins s σ H _ I h) fun u s1 ⟨x, H1, I1, rx, a, dx, fs, ex, ea, l, q⟩ => ?_) ht
  subst ex
  obtain rfl : u = Value.ref a := rx
  refine getmeth_ok I1 ea c hm l ?_
  refine PySem.W.callWith_K0 (first := [.ref a]) I1.kIn hm.kp ?_
  exact run_fnSD (us := [.ref a]) (vs := [.ref a]) (dvs := []) (ds := []) F hr hb .nil (hx σ) I1 (.cons rfl .nil) (by rw [List.append_nil]; exact q)
/-- e.m(..), a method of the class c that does as F -/
def fMeth (c m : Str) (n : Nat) (F : FF) (g : EF) (f : AF) : EF := fun σ S => (g σ S).bind fun x S1 => match x with
  | .ins c' fs => if c' = c ∧ fs.lookup m = none then (f σ S1).bind fun ds S2 => if ds.length = n then F (.ins c' fs :: ds) S2 else .bad else .bad
  | _ => .bad
theorem stepM {K : PySem.W.Frag} {mg : Str → Option Value} {σ : St} {H : Hp} {Q : VK} (T : ClsK K mg c C) (q : tE K mg W (fMeth c m n F fa g) σ H Q) :
    tMethSD C m (spF K mg (n + 1) F) (fun σ => WE W σ) (tE K mg W fa) (tA K mg W g) σ H Q := by
  obtain ⟨G, σd, S, r, sl, p⟩ := q
  refine ⟨G, σd, S, r, sl, (bindE p).mono fun v H1 ⟨G1, d, S1, s1, r1, dv, q⟩ => ?_⟩
  cases dv with
  | @ins a C' dx c' xs ds h1 h2 h3 h4 =>
    have q9 : PostE K mg W G1 H1 σd (if c' = c ∧ ds.lookup m = none then (g σd S1).bind fun es S2 => if es.length = n then F (.ins c' ds :: es) S2 else .bad else .bad) Q := q
    clear q
    split at q9
    · rename_i hc
      obtain ⟨hc, hl⟩ := hc
      subst hc
      have eC : C' = C := by rw [T.gl] at h1; cases h1; rfl
      subst eC
      refine ⟨a, dx, xs, rfl, r1.sub _ _ h2, h4.lookN hl, G1, σd, S1, r1, sl.mono s1.le, (bindAE q9).mono fun vs H2 ⟨G2, es, S2, s2, r2, dvs, q⟩ => ?_⟩
      split at q
      · rename_i hn
        refine ⟨by rw [List.length_cons, dvs.length, hn], G2, .ins c' ds :: es, S2, r2, .cons ((Dq.ins h1 h2 h3 h4).mono s2.le) dvs, ?_⟩
        cases e : F (.ins c' ds :: es) S2 with
        | bad => rw [e] at q; exact q.elim
        | exc c fs S' => rw [e] at q; exact fun cls d H' G' s' r' x' => q cls d σ H' G' s' r' (((sl.mono s1.le).mono s2.le).mono s'.le) x'
        | ok d S' => rw [e] at q; exact q
      · exact q.elim
    · exact q9.elim
  | _ => exact q.elim
end
structure MethK (K : PySem.W.Frag) (C : Addr) (m q : Str) (st : Stmt) : Prop where
  ex : ∃ fn fd, Meth K C m fn ∧ FnP K m q st fn fd
def MethOwn (P : Program) (w : World) (K : PySem.W.Frag) (mg : Str → Option Value) (base : Heap) (k : Nat) (c m : Str) (n : Nat) (F : FF) : Prop :=
  ∃ C fn fd ps, ClsK K mg c C ∧ Meth K C m fn ∧ Binds K fd ps [] ∧ FnOk P w K mg base (L2N.CX P w) k fn fd ps (spF K mg (n + 1) F)
section
variable {P : Program} {w : World} {K : PySem.W.Frag} {mg : Str → Option Value} {base : Heap}
theorem methOwn_of {c m q : Str} {C : Addr} {st : Stmt} {N ps : List Str} {k n : Nat} {body : SF} (T : ClsK K mg c C) (h : MethK K C m q st) (S : FnScope N ps (defScope st)) (hn : ps.length = n + 1)
    (hbd : ∀ (kV doc pm : Value) (an : Option Addr) (cdv ct : Value) (us : List Value), us.length = ps.length → bindArgs (PySem.W.fnOf m q (defArgs st) (defBody st) (defScope st) .none kV doc pm an cdv ct) ⟨us, []⟩ = pure (ps.zip us))
    (hb : ∀ (fn : Addr) (cdv : Value) (A : Around) (outer : List Env) (s : Shared) (H : Hp) (E : XK), Room k (A.deeper (envOfC q (defScope st) s.heap.objs.size fn cdv)) →
      SSs (cxOf (L2N.CX P w) P w K mg base N q (defScope st) fn cdv A outer s H E) (fun cls d _ H => E cls d H) (defBody st) body) : MethOwn P w K mg base (k + 1) c m n (runF N.length body) := by
  obtain ⟨fn, fd, hm, FU⟩ := h.ex
  exact ⟨C, fn, fd, ps, T, hm, FU.bindsN hbd, defD_ok FU S hn (hb fn)⟩
theorem MethOwn.mono {k j n : Nat} {c m : Str} {F : FF} (h : MethOwn P w K mg base k c m n F) (hk : k ≤ j) : MethOwn P w K mg base j c m n F := by
  obtain ⟨C, f, fd, ps, h0, h1, h2, h3⟩ := h
  exact ⟨C, f, fd, ps, h0, h1, h2, h3.mono hk⟩
end
section
variable {X : Cx} {W : WX} {e a : Expr} {es : List Expr} {c m : Str} {apos pos : Pos} {fa : EF} {g : AF} {k n : Nat} {F : FF}
theorem se_methO {pl : Sem Bool} (h : MethOwn X.prog X.w X.K X.mg X.base k c m n F) (hr : Room k X.A) (tk : L2N.Takes X W) (he : SE X W a fa) (ha : SA X W (e :: es) g)
    (hst : starEach (e :: es) X.env = (false, eval e X.env) :: starEach es X.env := by rfl) (hpl : (backTo pos (starEach es X.env)).any (·.1) = false := by rfl)
    (ht : eval (.Call (.Attribute a m apos) (e :: es) [] pos) X.env = (do
      let ov ← eval a X.env
      standAt apos.atName
      let (f, first) ← holding [ov] (getMethod ov m pl)
      callWith pos f first (backTo pos (starEach (e :: es) X.env)) (backToKw pos (keywordEach [] X.env))) := by rfl) :
    SE X W (.Call (.Attribute a m apos) (e :: es) [] pos) (fMeth c m n F fa g) := by
  obtain ⟨C, f, fd, ps, T, hm, hb, FO⟩ := h
  exact pe_weak (pe_methSD (pl := pl) he T.cls hm FO hr hb (fun σ => L2N.passAt tk σ) ha hst hpl ht) fun _ _ _ q => stepM T q
theorem se_methO0 {pl : Sem Bool} (h : MethOwn X.prog X.w X.K X.mg X.base k c m 0 F) (hr : Room k X.A) (tk : L2N.Takes X W) (he : SE X W a fa)
    (ht : eval (.Call (.Attribute a m apos) [] [] pos) X.env = (do
      let ov ← eval a X.env
      standAt apos.atName
      let (f, first) ← holding [ov] (getMethod ov m pl)
      callWith pos f first (backTo pos (starEach [] X.env)) (backToKw pos (keywordEach [] X.env))) := by rfl) :
    SE X W (.Call (.Attribute a m apos) [] [] pos) (fMeth c m 0 F fa aNil) := by
  obtain ⟨C, f, fd, ps, T, hm, hb, FO⟩ := h
  refine pe_weak (pe_methSD0 (pl := pl) he T.cls hm FO hr hb (fun σ => L2N.passAt tk σ) ht) fun σ H Q q => ?_
  refine (stepM T q).mono fun x H1 ⟨a, dx, fs, h1, h2, h3, G2, σd, S2, r2, sl2, h4⟩ => ⟨a, dx, fs, h1, h2, h3, ?_⟩
  exact h4 [] H1 G2 Stp.rfl' r2 .nil
end
end PF
/-! PM: an own exception class over another built-in one than ValueError. -/
namespace PySem
namespace XsX
open PySem.W PySem.Calls PyProof.Rows PySem.HandSPX Builtin Builtin.ObjectAttr
/-- own classes, then the base's mro -/
def refsB (t : List Value) : List Value → Bool
  | .ref _ :: r => refsB t r
  | l => l == t
structure ExF (B newId initId : String) (bmB : List Value) : Prop where
  fb : ExcBaseFacts B newId initId bmB
  kf : KxsFacts B initId
  st : StoreFacts B bmB "object.__setattr__" "object"
  ob : bmB.contains (.type "object") = true
  nr : ∀ a r, bmB ≠ .ref a :: r
  ne : bmB ≠ []
theorem exF_OverflowError : ExF "OverflowError" "OverflowError.__new__" "OverflowError.__init__" [.type "OverflowError", .type "ArithmeticError", .type "Exception", .type "BaseException", .type "object"] :=
  ⟨F.excBase_OverflowError, kxs_OverflowError, F.store_OverflowError, by decide +kernel, fun _ _ z => (nomatch z), fun z => (nomatch z)⟩
theorem exF_ValueError : ExF "ValueError" "ValueError.__new__" "ValueError.__init__" [.type "ValueError", .type "Exception", .type "BaseException", .type "object"] :=
  ⟨F.excBase_ValueError, kxs_ValueError, F.store_ValueError, by decide +kernel, fun _ _ z => (nomatch z), fun z => (nomatch z)⟩
theorem refsB_cases {t : List Value} : ∀ l : List Value, refsB t l = true → (∃ c r, l = .ref c :: r ∧ refsB t r = true) ∨ l = t
  | [], e => .inr (beq_iff_eq.mp e)
  | .ref c :: r, e => .inl ⟨c, r, rfl, e⟩
  | .none :: _, e => .inr (beq_iff_eq.mp e)
  | .ellipsis :: _, e => .inr (beq_iff_eq.mp e)
  | .notImplemented :: _, e => .inr (beq_iff_eq.mp e)
  | .bool _ :: _, e => .inr (beq_iff_eq.mp e)
  | .int _ _ :: _, e => .inr (beq_iff_eq.mp e)
  | .float _ _ :: _, e => .inr (beq_iff_eq.mp e)
  | .str _ _ :: _, e => .inr (beq_iff_eq.mp e)
  | .bytes _ _ :: _, e => .inr (beq_iff_eq.mp e)
  | .type _ :: _, e => .inr (beq_iff_eq.mp e)
  | .builtin _ :: _, e => .inr (beq_iff_eq.mp e)
section
variable {B newId initId : String} {bmB : List Value}
theorem refsB_pass (S : StoreFacts B bmB "object.__setattr__" "object") (self : Value) : ∀ l : List Value, refsB bmB l = true → refuseLoop self "__setattr__" l = pure () := by
  intro l
  induction l with
  | nil =>
    intro e
    rcases refsB_cases [] e with ⟨c, r', q, h⟩ | q
    · cases q
    · rw [q]; exact S.passes self
  | cons a r ih =>
    intro e
    rcases refsB_cases (a :: r) e with ⟨c, r', q, h⟩ | q
    · obtain ⟨rfl, rfl⟩ := List.cons.inj q
      rw [refuseLoop_ref]; exact ih h
    · rw [q]; exact S.passes self
theorem refsB_contains (FB : ExcBaseFacts B newId initId bmB) (X : String) : ∀ l : List Value, refsB bmB l = true → l.contains (.type X) = bmB.contains (.type X) := by
  intro l
  induction l with
  | nil =>
    intro e
    rcases refsB_cases [] e with ⟨c, r', q, h⟩ | q
    · cases q
    · rw [q]
  | cons a r ih =>
    intro e
    rcases refsB_cases (a :: r) e with ⟨c, r', q, h⟩ | q
    · obtain ⟨rfl, rfl⟩ := List.cons.inj q
      rw [List.contains_cons, ih h]; rfl
    · rw [q]
end
section
variable {prog : Program} {w : World} {A : Around} {R : Result → Shared → Prop} {hp : Heap} {g : Array GenState} {d : Drawn} {t : Nat} {os : OsState}
/-- self.f = v on such an exception, that has no dict yet -/
theorem exc_osaG {K : W.Frag} {name : Str} {tk : Tok} {v : Value} {x C : Addr} {fv : Array Value} {cd : ClassData}
    (X : K.In hp) (hx : hp.get? x = some { cls := .ref C, data := .fields fv }) (hcd : W.clsIn K C = some cd) (hm : ∀ self, refuseLoop self "__setattr__" cd.mro = pure ()) (hob : cd.mro.contains (.type "object") = true) (ne : cd.mro.isEmpty = false) (hh : cd.hasDict = true) (ha : W.findIn K (.ref C) name = some none)
    (hq : ∀ h' tk' dx, (∀ b o, b ≠ x → hp.get? b = some o → h'.get? b = some o) → hp.objs.size ≤ dx → dx ≠ x → h'.get? x = some { cls := .ref C, dict := some dx, data := .fields fv } →
      h'.Ns1 dx (fun y => if y = name then some v else none) → R (.ok (.ret .none)) ⟨h', g, d, tk', os⟩) :
    codeAny (model prog w) A (.call (.builtin "object.__setattr__") ⟨[.ref x, .str name tk, v], []⟩) R ⟨hp, g, d, t, os⟩ := by
  have at0 : W.InstAt hp x { cls := .ref C, data := .fields fv } C none := ⟨hx, rfl, rfl, trivial⟩
  have so := F.store_object
  have far : x ≠ hp.objs.size := Nat.ne_of_lt (Heap.lt_size hx)
  have isO : W.Looks (model prog w) hp (isInstance (.ref x) (.type "object")) true := at0.type.andThen (W.looks_mroIn X (by
    unfold W.mroIn
    rw [hcd, Option.bind_some, if_neg (by rw [ne]; decide), hob]))
  refine codeAny_call_builtin so.slot.plain so.entry (@W.check_slot (model prog w) _ _ ⟨hp, g, d, t, os⟩ "object.__setattr__" "object" "__setattr__" (.ref x) [.str name tk, v] [] _ so.kind so.split isO
    (so.args (.ref x) (.str name tk) v) ?_)
  have mroL : W.Looks (model prog w) hp (mroOf (.ref C)) cd.mro := (W.looks_clsIn X hcd).andThen .now
  have takL : W.Looks (model prog w) hp (storeTaker? none) none := .now
  have clsL : W.Looks (model prog w) hp (classData C) cd := W.looks_clsIn X hcd
  rw [W.osa_eq, refuse_eq]
  refine wpAny_bind (wpAny_bind (at0.type.at (wpAny_bind (mroL.at ?_))))
  rw [hm _]
  refine wpAny_pure (wpAny_bind (at0.type.at (wpAny_bind ((W.looks_findIn X ha).at (wpAny_bind (takL.at ?_))))))
  show wpAny _ _ (storeInOwnDict (.ref x) (.ref C) (.str name tk) name v false) _ _ _
  obtain ⟨nm, bs, mro, ns, qn, hd, sn, sb, ab, col, del⟩ := cd
  have hh2 : hd = true := hh
  subst hh2
  unfold storeInOwnDict ownDictForStores
  repeat (first | with_reducible refine store_in_new ?_ ?_ | with_reducible refine wpAny_loadPart_at hx ?_ | with_reducible refine clsL.at ?_ | wp_step)
  · exact ⟨_, #[], _, (Heap.get?_update_ne _ _ _ _ far.symm).trans (Heap.get?_push_at rfl rfl), rfl, fun e he => absurd he (by simp), fun _ => rfl⟩
  · intro h' tk' hn' hs
    have hx₁ : (hp.push { cls := .type "dict", data := .dict #[] }).get? x = some { cls := .ref C, data := .fields fv } := Heap.get?_push_of_some _ hx
    exact hq h' tk' hp.objs.size (fun b o hb ho => (hs.2 b (Nat.ne_of_lt (Heap.lt_size ho))).trans ((Heap.get?_update_ne _ _ _ _ hb).trans (Heap.get?_push_of_some _ ho))) (Nat.le_refl _) far.symm
      ((hs.2 x far).trans (Heap.get?_update_self _ hx₁ rfl)) hn'
end
/-- what the written part says of the class at C -/
structure XsTxtG (B newId initId : String) (bmB : List Value) (prog : Program) (K : Frag) (mg : Str → Option Value) (C fI : Addr) (f : Str) : Prop where
  cls : ∃ nm q N bs bm sn sub ab col dd k0 k1 k2 k3 k5, K.lookup C = some (excClassObj nm q C N bs bm true sn sub ab col dd k0 k1 k2 k3 k5 newId) ∧ refsB bmB bm = true
  sa : findIn K (.ref C) "__setattr__" = some (some (.builtin "object.__setattr__"))
  noF : findIn K (.ref C) f = some none
  iC : findIn K (.ref C) "__init__" = some (some (.ref fI))
  tI : typeIn K (.ref fI) = some (.type "function")
  kC : keepIn K (.ref C) = true
  exC : subIn K (.ref C) (.type "BaseException") = some true
  tyC : typeIn K (.ref C) = some (.type "type")
  veC : subIn K (.ref C) (.type B) = some true
  thp : nsIn K cStatics "thirdparty.any" = some none
  sup : nsIn K mainGlobals "super" = some none
  fn : ∃ (oc : Value) (od : Option Addr) (dV kV doc pm : Value) (an : Option Addr) (cda : Addr) (ct : Value) (osl : Array (Option Value)) (cc : Addr) (a p m qual : Str) (sc : Scope) (j : Nat) (p1 p2 q1 q2 q3 q4 q5 q6 r1 r2 r3 r4 : Pos),
    K.lookup fI = some ⟨oc, od, .func (ksFn "__init__" qual (iA a p p1 p2) (iB a p f m j q1 q2 q3 q4 q5 q6 r1 r2 r3 r4) sc dV kV doc pm an (.ref cda) ct cc), osl⟩ ∧ codeIn K (.ref cda) qual = true ∧
    (∃ oo dd vs sl file tf, K.lookup cda = some ⟨oo, dd, .fields vs, sl⟩ ∧ vs[2]? = some (.str file tf) ∧ ((prog.main.file : Str) == file) = true) ∧
    (∃ cl cld csl, K.lookup cc = some ⟨cl, cld, .cell (some (.ref C)), csl⟩) ∧
    ks_superIn K C C "__init__" = some (some (.builtin initId)) ∧
    (∀ x ∈ sc.names, x.2 ≠ .cell) ∧ sc.isCoroutine = false ∧ sc.isGenerator = false ∧ sc.kind = .function ∧ sc.names.lookup a = some .local ∧ sc.names.lookup p = some .local ∧ a ≠ p ∧
    sc.names.lookup ("super" : Str) = some .globalImplicit ∧ sc.names.lookup ("__class__" : Str) = some .free ∧ (a == ("__debug__" : Str)) = false ∧ (p == ("__debug__" : Str)) = false ∧ (q3.endLine == q5.line) = true ∧
    (∀ (x v : Value), bindArgs (ksFn "__init__" qual (iA a p p1 p2) (iB a p f m j q1 q2 q3 q4 q5 q6 r1 r2 r3 r4) sc dV kV doc pm an (.ref cda) ct cc) ⟨[x, v], []⟩ = pure [(a, x), (p, v)])
  top : (prog.main.scope.names.lookup ("super" : Str)).isSome = false
section
variable {prog : Program} {w : World} {A : Around} {E : Value → Shared → Prop} {R : Result → Shared → Prop} {s : Shared} {K : Frag} {mg : Str → Option Value} {C fI : Addr} {f : Str} {B newId initId : String} {bmB : List Value}
theorem xs_initG (FX : ExF B newId initId bmB) (T : XsTxtG B newId initId bmB prog K mg C fI f) {x t0 : Addr} {v : Value} (X : K.In s.heap) (hlim : s.heap.NoLimit) (hg : s.heap.Ns mainGlobals mg) (hb : ∃ mb, s.heap.Ns builtinsNs mb ∧ mb "super" = some (.type "super"))
    (hx : s.heap.get? x = some (excO C t0)) (hnx : ∀ o, K.lookup x ≠ some o) (hroom : A.depth < recursionLimit)
    (hq : ∀ h' tk dx t1, (∀ b o, b ≠ x → s.heap.get? b = some o → h'.get? b = some o) → s.heap.objs.size ≤ dx → dx ≠ x → h'.get? x = some { cls := .ref C, dict := some dx, data := .fields #[.ref t1, .none, .none, .none, .bool false, .none] } →
      h'.Ns1 dx (fun y => if y = f then some v else none) → R (.ok (.ret .none)) { s with heap := h', toks := tk }) :
    codeAny (model prog w) A (.call (.ref fI) ⟨[.ref x, v], []⟩) R s := by
  obtain ⟨oc, od, dV, kV, doc, pm, an, cda, ct, osl, cc, a, p, m, qual, sc, j, p1, p2, q1, q2, q3, q4, q5, q6, r1, r2, r3, r4, ho, hcd, ⟨oo, odd, vs, sl, file, tf, hcode, hvs, hfile⟩, ⟨cl, cld, csl, hcell⟩, hsup, nocell, hco, hgen, hkind, ha, hp, hap, hks, hkc, hda, hdp, hline, hbind⟩ := T.fn
  obtain ⟨skind, snames, sgen, sco, smore⟩ := sc
  dsimp only at nocell hco hgen hkind ha hp hks hkc
  subst hkind hco hgen
  obtain ⟨nm, q, N, bs, bm, sn, sub, ab, col, dd, k0, k1, k2, k3, k5, hC, hbm⟩ := T.cls
  have hcl : clsIn K C = some { name := nm, bases := bs, mro := .ref C :: bm, ns := N, qualname := q, hasDict := true, slotNames := sn, subclasses := sub, abstract := ab, collection := col, hasDel := false } := by unfold clsIn; rw [hC] <;> rfl
  refine ks_codeAny_call_defAt (fd := ksFn "__init__" qual (iA a p p1 p2) (iB a p f m j q1 q2 q3 q4 q5 q6 r1 r2 r3 r4) ⟨.function, snames, false, false, smore⟩ dV kV doc pm an (.ref cda) ct cc) (body := iB a p f m j q1 q2 q3 q4 q5 q6 r1 r2 r3 r4) (binds := [(a, .ref x), (p, v)]) hroom (X _ _ ho) rfl hlim (codeRec_of X hcd) rfl
    (BindsTo.of_eq ?bind) nocell (fun y hy => ?loc) (fun h₁ hns hk => ?_) rfl rfl rfl
  case bind => exact hbind _ _
  case loc =>
    rcases List.mem_cons.mp hy with hy | hy
    · rw [hy]; exact ha
    · rw [List.mem_singleton.mp hy]; exact hp
  obtain ⟨hh, g, d, tk, os⟩ := s
  -- the frame
  have hL : hh.objs.size ≠ x := Nat.ne_of_gt (Heap.lt_size hx)
  have X₁ : K.In h₁ := X.keeps hk
  have hx₁ : h₁.get? x = some (excO C t0) := hk _ _ hx
  have hns : h₁.Ns (ksEnv qual ⟨.function, snames, false, false, smore⟩ hh.objs.size fI (.ref cda) cc).locals (fun y => ([(a, Value.ref x), (p, v)] : List (Str × Value)).reverse.lookup y) := hns
  have la : ([(a, Value.ref x), (p, v)] : List (Str × Value)).reverse.lookup a = some (.ref x) := by
    have : (a == p) = false := by simpa using hap
    simp [List.lookup, this]
  have lp : ([(a, Value.ref x), (p, v)] : List (Str × Value)).reverse.lookup p = some v := by simp [List.lookup]
  obtain ⟨mb, hb1, hb2⟩ := hb
  have I₁ : InstAt h₁ x (excO C t0) C none := ⟨hx₁, rfl, rfl, trivial⟩
  have hxC : x ≠ C := ks_ne X₁ I₁ hcl
  -- super()
  have he : eval (.Call (.Attribute (.Call (.Name "super" q1) [] [] q2) "__init__" q3) [.Constant (.str m) j q4] [] q5) (ksEnv qual ⟨.function, snames, false, false, smore⟩ hh.objs.size fI (.ref cda) cc) = (do
      let ov ← attributeBase (.Call (.Name "super" q1) [] [] q2) "__init__" (ksEnv qual ⟨.function, snames, false, false, smore⟩ hh.objs.size fI (.ref cda) cc) (eval (.Call (.Name "super" q1) [] [] q2) (ksEnv qual ⟨.function, snames, false, false, smore⟩ hh.objs.size fI (.ref cda) cc))
      standAt q3.atName
      let (f, first) ← holding [ov] (getMethod ov "__init__" (L2.plainOf (.Call (.Name "super" q1) [] [] q2) (ksEnv qual ⟨.function, snames, false, false, smore⟩ hh.objs.size fI (.ref cda) cc)))
      callWith q5 f first (backTo q5 (starEach [.Constant (.str m) j q4] (ksEnv qual ⟨.function, snames, false, false, smore⟩ hh.objs.size fI (.ref cda) cc))) []) := by
    show (do
      let ov ← attributeBase (.Call (.Name "super" q1) [] [] q2) "__init__" (ksEnv qual ⟨.function, snames, false, false, smore⟩ hh.objs.size fI (.ref cda) cc) (eval (.Call (.Name "super" q1) [] [] q2) (ksEnv qual ⟨.function, snames, false, false, smore⟩ hh.objs.size fI (.ref cda) cc))
      standAt q3.atName
      methodCall (.Call (.Name "super" q1) [] [] q2) "__init__" q3 q5 (ksEnv qual ⟨.function, snames, false, false, smore⟩ hh.objs.size fI (.ref cda) cc) ov 1 (backTo q5 (starEach [.Constant (.str m) j q4] (ksEnv qual ⟨.function, snames, false, false, smore⟩ hh.objs.size fI (.ref cda) cc))) []) = _
    congr 1
    funext ov
    congr 1
    funext _
    exact L2.mcall_line rfl hline
  refine ks_wpAt_execs_cons (ks_wpAt_Expr_any (env := ksEnv qual ⟨.function, snames, false, false, smore⟩ hh.objs.size fI (.ref cda) cc) (ks_wpAt_MethodCall (he := he) ?_) rfl rfl)
  refine ks_wpAt_super_base (env := ksEnv qual ⟨.function, snames, false, false, smore⟩ hh.objs.size fI (.ref cda) cc) hks hkc rfl rfl (X₁ _ _ ho) rfl rfl rfl (X₁ _ _ hcode) rfl hvs hfile T.top ?_
  refine ks_loadName_global rfl hks (loadGlobal_builtin (env := ksEnv qual ⟨.function, snames, false, false, smore⟩ hh.objs.size fI (.ref cda) cc) (ns_keep hg (hk _)) (mg_none_of X hg T.sup) (ns_keep hb1 (hk _)) hb2 ⟨rfl, ?_⟩)
  refine wpAny_loadName_free rfl hkc rfl ⟨_, X₁ _ _ hcell, rfl⟩ ?_
  refine wpAny_loadName_local rfl ha hns la ?_
  obtain ⟨oD, hD1, hD2⟩ : ∃ oD, h₁.get? C = some oD ∧ oD.data = .cls { name := nm, bases := bs, mro := .ref C :: bm, ns := N, qualname := q, hasDict := true, slotNames := sn, subclasses := sub, abstract := ab, collection := col, hasDel := false } := ⟨_, X₁ _ _ hC, rfl⟩
  refine ks_wpAny_isType_cls hD1 hD2 ⟨rfl, ?_⟩
  have hsubD : Looks (model prog w) h₁ (isSubtype (.ref C) (.ref C)) true := looks_mroIn X₁ (by
    unfold mroIn
    rw [hcl, Option.bind_some, if_neg (by intro z; cases z), List.contains_cons, beq_self_eq_true, Bool.true_or])
  refine ks_wpAny_call_super hD1 hD2 hx₁ rfl (fun c e => by cases e) hsubD (fun h₂ e₂ k₂ => ?_)
  -- .__init__
  have X₂ : K.In h₂ := X₁.keeps k₂
  have I₂ : InstAt h₂ x (excO C t0) C none := ⟨k₂ _ _ hx₁, rfl, rfl, trivial⟩
  have hI : Looks (model prog w) h₂ (isInstance (.ref x) (.type B)) true := I₂.type.andThen (looks_subIn X₂ T.veC)
  have hal : alongIn K "__init__" (((Value.ref C :: bm).dropWhile (· != .ref C)).drop 1) = some (some (.builtin initId)) := by
    have z := hsup
    unfold ks_superIn at z
    rw [hcl] at z
    exact z
  refine kxs_getMethod FX.kf (l₀ := .ref C :: bm) e₂ (looks_opaque X₂ T.thp) (fun A Q E s k q => wpAny_bind ((looks_clsIn X₂ hcl) A _ E s k (wpAny_pure q))) rfl X₂ hal hI hxC rfl ?_
  have k₃ : ∀ b o, h₂.get? b = some o → (h₂.push (kxs_mw initId x)).get? b = some o := fun b o e => Heap.get?_push_of_some _ e
  have hu₃ : (h₂.push (kxs_mw initId x)).get? h₂.objs.size = some (kxs_mw initId x) := Heap.get?_push_at rfl rfl
  have hx₃ : (h₂.push (kxs_mw initId x)).get? x = some (excO C t0) := k₃ _ _ (k₂ _ _ hx₁)
  have X₃ := X₂.keeps k₃
  refine kxs_callWith (i := initId) (x := x) rfl (evalArgs_plain (Calls.spliced_cons (Calls.Constant_str (pos := q4) (k := j) (Calls.spliced_nil ⟨hu₃, ?_⟩))))
  refine call_mw FX.fb (X₃ _ _ hC) hx₃ hu₃ (by show 1 ≤ sizeLine; rw [sizeLine_eq]; omega) fun h₄ t1 k₄ hx₄ => ?_
  -- self.f = p
  have X₄ : K.In h₄ := fun b o e => k₄ b o (fun z => by
    rw [z] at e
    exact hnx o e) (X₃ _ _ e)
  have hns₄ : h₄.Ns (ksEnv qual ⟨.function, snames, false, false, smore⟩ hh.objs.size fI (.ref cda) cc).locals (fun y => ([(a, Value.ref x), (p, v)] : List (Str × Value)).reverse.lookup y) :=
    ns_keep hns fun o e => k₄ _ _ hL (k₃ _ _ (k₂ _ _ e))
  refine ks_wpAt_execs_cons (wpAt_of_wpAny (plainObj_wpAny_Assign_Attribute ?_))
  refine ldC (v := v) hns₄ lp ?_ rfl hp hdp
  refine ldC (v := .ref x) hns₄ la ?_ rfl ha hda
  refine set_plain X₄ (ox := excO C t1) (od := none) ⟨hx₄, rfl, rfl, trivial⟩ T.sa ?_
  have old : ∀ b o, b ≠ x → hh.get? b = some o → h₄.get? b = some o := fun b o hb e => k₄ b o hb (k₃ _ _ (k₂ _ _ (hk _ _ e)))
  refine exc_osaG X₄ hx₄ hcl (fun self => refsB_pass FX.st self (.ref C :: bm) hbm) (by rw [List.contains_cons, refsB_contains FX.fb "object" bm hbm, FX.ob, Bool.or_true]) rfl rfl T.noF (fun h₅ tk₅ dx k₅ dn dne hx₅ hn₅ => ?_)
  refine wpAt_of_wpAny (wpAny_execs_nil ?_)
  refine hq h₅ tk₅ dx t1 (fun b o hb e => k₅ b o hb (old b o hb e)) ?_ dne hx₅ hn₅
  have z : hh.objs.size < h₄.objs.size := hns₄.lt
  exact Nat.le_of_lt (Nat.lt_of_lt_of_le z dn)
theorem xs_madeG (FX : ExF B newId initId bmB) (T : XsTxtG B newId initId bmB prog K mg C fI f) {v : Value} (X : K.In s.heap) (hlim : s.heap.NoLimit) (hg : s.heap.Ns mainGlobals mg) (hb : ∃ mb, s.heap.Ns builtinsNs mb ∧ mb "super" = some (.type "super")) (hroom : A.depth + 1 < recursionLimit)
    (hq : ∀ h' tk e d, OwnMade s.heap h' e C d f v → R (.ok (.ret (.ref e))) { s with heap := h', toks := tk }) :
    codeAny (model prog w) A (.call (.ref C) ⟨[v], []⟩) R s := by
  obtain ⟨nm, q, N, bs, bm, sn, sub, ab, col, dd, k0, k1, k2, k3, k5, hC, hbm⟩ := T.cls
  obtain ⟨hp, g, dr, tk, os⟩ := s
  have k : ∀ b o, hp.get? b = some o → ((hp.push (kdv_tup [v])).push (excO C hp.objs.size)).get? b = some o := fun b o e => Heap.get?_push_of_some _ (Heap.get?_push_of_some _ e)
  have hget : ((hp.push (kdv_tup [v])).push (excO C hp.objs.size)).get? (hp.objs.size + 1) = some (excO C hp.objs.size) := by heap_get
  have hnx : ∀ o, K.lookup (hp.objs.size + 1) ≠ some o := fun o e => by
    have z : hp.get? (hp.objs.size + 1) = some o := X _ _ e
    exact absurd (Nat.lt_of_succ_lt (Heap.lt_size z)) (Nat.lt_irrefl _)
  obtain ⟨mb, hb1, hb2⟩ := hb
  refine call_own FX.fb (fun X => refsB_contains FX.fb X bm hbm) (X _ _ hC) (looks_findIn X T.iC) (fun self => bind_fn X self T.tI) (one_size v) ?_
  refine xs_initG FX (s := ⟨(hp.push (kdv_tup [v])).push (excO C hp.objs.size), g, dr, tk, os⟩) T (X.keeps k) (hlim.keeps k) (ns_keep hg fun o e => k _ _ e) ⟨mb, ns_keep hb1 fun o e => k _ _ e, hb2⟩ hget hnx ?_ fun h' tk' dx t1 k' dn dne hx hns => ?_
  · show A.depth + 1 < recursionLimit
    exact hroom
  · have old : ∀ b o, hp.get? b = some o → h'.get? b = some o := fun b o e => k' b o (Nat.ne_of_lt (Nat.lt_succ_of_lt (Heap.lt_size e))) (k b o e)
    have z : hp.objs.size + 1 + 1 ≤ dx := by
      first
        | (simpa only [Heap.size_push] using dn)
        | exact dn
        | (have q := dn; rw [Heap.size_push, Heap.size_push] at q; exact q)
    exact ⟨rfl, hq h' tk' (hp.objs.size + 1) dx ⟨old, Nat.le_succ _, ⟨_, _, hx, rfl, rfl, rfl, rfl, rfl⟩, Nat.le_trans (Nat.le_trans (Nat.le_succ _) (Nat.le_succ _)) z, dne, hns⟩⟩
end
end XsX
end PySem
namespace PF
open PySem PySem.Spec PyProof.Rows L2 He
section
variable {X : Cx} {W : WX} {C fI : Addr} {f : Str} {B newId initId : String} {bmB : List Value}
theorem pmk_xsG {a : Expr} {ta : TA} {x : Str} {p pos : Pos} {k : Nat} (FX : PySem.XsX.ExF B newId initId bmB) (T : PySem.XsX.XsTxtG B newId initId bmB X.prog X.K X.mg C fI f) (gC : X.mg x = some (.ref C)) (hr : Room k X.A) (ha : PA X [a] ta) (hg : Gl X x) (hdb : (x == ("__debug__" : Str)) = false := by decide)
    (he : starEach (a :: []) X.env = (false, eval a X.env) :: starEach [] X.env := by rfl) (hpl : (backTo pos (starEach [] X.env)).any (·.1) = false := by rfl) :
    L2N.PMk X (.Call (.Name x p) [a] [] pos) (tMkX C f ta) := by
  intro pins s σ H Q I h
  refine wpAny_Call_Name_kw (ld_glob I hg gC ?_ hdb)
  refine PySem.W.callWith_K (h₀ := X.base) I.ok.mod.kin T.kC (thn (ha.run pos pins s σ H _ I h) fun us s1 hh => ?_) he hpl
  obtain ⟨vs, H1, I1, r1, v, ev, q1⟩ := hh
  subst ev
  refine ⟨I1.kIn, ?_⟩
  cases r1 with
  | cons rv rn =>
    rename_i v' us'
    cases rn
    show wpAny _ _ (call (.ref C) [v']) _ _ _
    have hlim := I1.nolimit
    obtain ⟨mb, hb1, hb2⟩ := I1.ok.mod.blt
    have hgl : s1.heap.Ns mainGlobals X.mg := I1.ok.mod.glob.keeps I1.bk
    have hbl : ∃ mb, s1.heap.Ns builtinsNs mb ∧ mb "super" = some (.type "super") := ⟨mb, hb1.keeps I1.bk, (hb2 _ (by decide)).trans (by decide +kernel)⟩
    obtain ⟨hp, g, dr, tk, os⟩ := s1
    refine wpAny_call (PySem.XsX.xs_madeG FX T I1.kIn hlim hgl hbl (by have := hr.dp; omega) fun h' tk' e d M => ?_)
    show L2N.MkP X pins σ Q (.ref e) ⟨h', g, dr, tk', os⟩
    obtain ⟨oe, fv, hoe, hc, hd, hdat, h1, h2⟩ := M.obj
    have hns := M.ns
    obtain ⟨G', g1, g2⟩ := restrict h' fun b => decide (b ≠ e)
    have gk : ∀ b, b ≠ e → G'.get? b = h'.get? b := fun b hb => g1 b (decide_eq_true hb)
    have ge : G'.get? e = none := g2 e (by simp)
    have old : ∀ b o, hp.get? b = some o → G'.get? b = some o := fun b o q => (gk b (Nat.ne_of_lt (Nat.lt_of_lt_of_le (Heap.lt_size q) M.new))).trans (M.keep b o q)
    have ob : ObjOk X.prog X.w (upd H1 d (.xd [(f, v)])) G' d (.xd [(f, v)]) :=
      ⟨_, hns.at (fun o q => (gk d M.dne).trans q), fun g => relO_one rv f g⟩
    have J : Inv X pins σ (upd H1 d (.xd [(f, v)])) ⟨G', g, dr, tk', os⟩ := I1.laid (t' := tk') old M.dbig ob
    refine ⟨e, oe, fv, ⟨G', g, dr, tk', os⟩, _, .ref C, some d, rfl, J, fun b o q => ?_, ge, hoe, ⟨hc, hd, fun vs9 e9 => by rw [hdat] at e9; cases e9; exact h2⟩, hdat, h1, ?_, rfl, I1.bare, raises_own T.exC T.tyC, q1 d (I1.hok.fresh M.dbig)⟩
    · by_cases hb : b = e
      · have q' : G'.get? b = some o := q
        rw [hb, ge] at q'; cases q'
      · exact (gk b hb).symm.trans q
    · rw [upd_ne (Ne.symm M.dne)]
      exact I1.hok.fresh M.new
theorem ss_raiseG {a : Expr} {fa : EF} {x : Str} {p pos pos2 : Pos} {k : Nat} (hc : X.calm = true) (tk : L2N.Takes X W) (FX : PySem.XsX.ExF B newId initId bmB) (T : PySem.XsX.XsTxtG B newId initId bmB X.prog X.K X.mg C fI f) (gC : X.mg x = some (.ref C)) (hr : Room k X.A) (ha : SE X W a fa) (hg : Gl X x) (hdb : (x == ("__debug__" : Str)) = false := by decide)
    (he : starEach (a :: []) X.env = (false, eval a X.env) :: starEach [] X.env := by rfl) (hpl : (backTo pos (starEach [] X.env)).any (·.1) = false := by rfl) :
    SS X W (.Raise (some (.Call (.Name x p) [a] [] pos)) none pos2) (sRaise x f fa) := by
  refine ps_weak (L2N.ps_raise hc tk (pmk_xsG FX T gC hr (pa_cons ha pa_nil he) hg hdb he hpl)) fun D σ H ⟨G, σd, S, r, sl, p⟩ => ?_
  refine ⟨G, σd, S, r, sl, (outE p).mono fun v H1 ⟨G1, d, S1, s1, r1, dv, q⟩ => ?_⟩
  refine ⟨v, rfl, fun da hd => ?_⟩
  obtain ⟨s2, r2⟩ := hold_new (o := .xd [(f, v)]) r1 hd
  exact q (.ref C) (some da) σ _ G1 s2 r2 (sl.mono s1.le) ⟨gC, .inr ⟨da, _, rfl, upd_same, .cons dv .nil⟩⟩
/-- the exception class over the built-in one B is there -/
def XsTG (B newId initId : String) (bmB : List Value) (P : Program) (K : PySem.W.Frag) (mg : Str → Option Value) (c f : Str) : Prop := ∃ C fI, PySem.XsX.XsTxtG B newId initId bmB P K mg C fI f ∧ mg c = some (.ref C)
theorem ss_raiseTG {a : Expr} {fa : EF} {p pos : Pos} {x : Str} {pos2 : Pos} {k : Nat} (FX : PySem.XsX.ExF B newId initId bmB) (T : XsTG B newId initId bmB X.prog X.K X.mg x f) (hc : X.calm = true) (tk : L2N.Takes X W) (hr : Room k X.A) (ha : SE X W a fa) (hg : Gl X x) (hdb : (x == ("__debug__" : Str)) = false := by decide)
    (he : starEach (a :: []) X.env = (false, eval a X.env) :: starEach [] X.env := by rfl) (hpl : (backTo pos (starEach [] X.env)).any (·.1) = false := by rfl) :
    SS X W (.Raise (some (.Call (.Name x p) [a] [] pos)) none pos2) (sRaise x f fa) := by
  obtain ⟨C, fI, T, gC⟩ := T
  exact ss_raiseG hc tk FX T gC hr ha hg hdb he hpl
end
end PF
/-! PM: a def that hears a thunk and compares it with (b, c). -/
namespace PF
open PySem PySem.Spec PyProof.Rows L2 L2H HotX
def refD (good : List (Str × Str)) (F : FF) (g : Sto → Res D) (d d2 : D) : Sto → Res D := fun S => (hearD good g S).bind fun h S1 => F [h, .tup [d, d2]] S1
/-- the def x tells whether a thunk is refused as owed -/
def RefOk (P : Program) (w : World) (K : PySem.W.Frag) (mg : Str → Option Value) (base : Heap) (k kk : Nat) (x : Str) (good : List (Str × Str)) (F : FF) : Prop :=
  ∃ fn, mg x = some (.ref fn) ∧ PySem.W.keepIn K (.ref fn) = true ∧ ∀ (A : Around) (outer : List Env) (s : Shared) (H : Hp) (G : Gh) (S : Sto) (Q : VK) (E : XK) (f : Addr) (g : Sto → Res D) (u u2 : Value) (v v2 : V) (d d2 : D), Room k A → Env0 P w K mg base A outer s H → Rel K mg G S H →
    Thunk P w K mg base kk outer s H G f g → RelV v u → Dq K mg G v d → RelV v2 u2 → Dq K mg G v2 d2 → PostR K mg G H (refD good F g d d2 S) Q E → codeAny (model P w) A (.call (.ref fn) ⟨[.ref f, u, u2], []⟩) (CR (L2N.CX P w) outer P w H s Q E) s
section
variable {P : Program} {w : World} {K : PySem.W.Frag} {mg : Str → Option Value} {base : Heap}
/-- def x(a, b, c): return same(heard(a), (b, c)) -/
theorem refOk_of {x a b b2 xh xs : Str} {st : Stmt} {k kk : Nat} {good : List (Str × Str)} {F : FF} {p1 p2 p3 p4 p5 p6 p7 p8 p9 : Pos} {j2 : Nat} (Dx : DefAt K mg x st) (Sc : FnScope [a, b, b2] [a, b, b2] (defScope st))
    (hbd : ∀ (kV doc pm : Value) (an : Option Addr) (cdv ct : Value) (us : List Value), us.length = [a, b, b2].length → bindArgs (PySem.W.fnOf x x (defArgs st) (defBody st) (defScope st) .none kV doc pm an cdv ct) ⟨us, []⟩ = pure ([a, b, b2].zip us))
    (hbody : defBody st = [.Return (some (.Call (.Name xs p1) [.Call (.Name xh p2) [.Name a p3] [] p4, .Tuple [.Name b p5, .Name b2 p6] j2 p7] [] p8)) p9])
    (HO : HeardOk P w K mg base k kk xh good) (FO : Own P w K mg base k xs 2 F) (hgh : (defScope st).names.lookup xh = some .globalImplicit) (hgs : (defScope st).names.lookup xs = some .globalImplicit)
    (hdh : (xh == ("__debug__" : Str)) = false) (hds : (xs == ("__debug__" : Str)) = false) (hda : (a == ("__debug__" : Str)) = false) (hca : (a == ("__classdict__" : Str)) = false) (hdb : (b == ("__debug__" : Str)) = false) (hcb : (b == ("__classdict__" : Str)) = false) (hdb2 : (b2 == ("__debug__" : Str)) = false) (hcb2 : (b2 == ("__classdict__" : Str)) = false) :
    RefOk P w K mg base (k + 1) kk x good F := by
  obtain ⟨fn, fd, FU, gl⟩ := Dx
  have hbn := FU.bindsN hbd
  have kp := FU.kp
  obtain ⟨oc, od, dV, kV, doc, pm, an, cdv, ct, osl, rfl, lk, hcd, _, _⟩ := FU.ex
  refine ⟨fn, gl, kp, fun A outer s H G S Q E f g u u2 v v2 d d2 hr e0 r T rv dv rv2 dv2 q => ?_⟩
  have KX : K.In s.heap := e0.mod.kin.keeps fun b o e => (e0.bs b o e).1
  have bn := hbn s [.ref f, u, u2] KX rfl
  refine LamX.run_ofS lk hcd Sc (us := [.ref f, u, u2]) (vs := [.ref f, v, v2]) hr e0 (by simpa using bn) (.cons rfl (.cons rv (.cons rv2 .nil))) rfl fun hr' => ?_
  obtain ⟨fs, fds, pss, g1, g2, g3, g4⟩ := FO
  have vis : ∀ y ∈ [a, b, b2], Vis (defScope st) y := fun y hy => by
    rcases Sc.par y hy with z | z
    · exact .inl z
    · exact .inr (.inl z)
  have tk : L2N.Takes (cxOf (L2N.CX P w) P w K mg base [a, b, b2] x (defScope st) fn cdv A outer s H E) (fun cls d _ H => E cls d H) := L2N.takes_of rfl rfl rfl rfl
  have hh := pe_hear (Y := cxOf (L2N.CX P w) P w K mg base [a, b, b2] x (defScope st) fn cdv A outer s H E) (σd := [some (.raw (.ref f)), some d, some d2]) (p1 := p2) (p2 := p3) (p3 := p4) HO T rfl hr' tk hgh hdh rfl (vis a (by simp)) hda hca
  have ht : SE (cxOf (L2N.CX P w) P w K mg base [a, b, b2] x (defScope st) fn cdv A outer s H E) (fun cls d _ H => E cls d H) (.Tuple [.Name b p5, .Name b2 p6] j2 p7) (fTup (aCons (fVar 1) (aCons (fVar 2) aNil))) :=
    se_tup (sa_cons (se_var 1 (pe_var (i := 1) rfl (vis b (by simp)) hdb hcb)) (sa_cons (se_var 2 (pe_var (i := 2) rfl (vis b2 (by simp)) hdb2 hcb2)) sa_nil))
  rw [hbody]
  refine ⟨_, pss_one (ps_ret (pe_callS (X := cxOf (L2N.CX P w) P w K mg base [a, b, b2] x (defScope st) fn cdv A outer s H E) g4 hr' hgs g1 g2 g3 (fun σ => L2N.passAt tk σ) (pa_cons hh (pa_cons ht pa_nil)) hds)), ?_⟩
  have sl0 : Slots K mg G [some (.raw (.ref f)), some d, some d2] (L2.start [a, b, b2] [.ref f, v, v2]) := slots_start (N := [a, b, b2]) (.cons (.raw _) (.cons dv (.cons dv2 .nil)))
  refine ⟨G, S, Stp.rfl', r, sl0, rfl, ?_⟩
  unfold refD at q
  cases e : hearD good g S with
  | bad => rw [e] at q; exact q
  | exc c fs S1 =>
    unfold hearD at e
    split at e
    · cases e
    · split at e <;> cases e
    · cases e
  | ok h S1 =>
    rw [e] at q
    intro v1 H1 G1 s1 r1 d1
    refine ⟨G1, [some (.raw (.ref f)), some d, some d2], S1, r1, sl0.mono s1.le, ?_⟩
    intro v9 H2 G2 s2 r2 dq2
    exact ⟨rfl, G2, [h, .tup [d, d2]], S1, r2, .cons (d1.mono s2.le) (.cons dq2 .nil), by
      have q9 : PostR K mg G H (F [h, .tup [d, d2]] S1) Q E := q
      cases e9 : F [h, .tup [d, d2]] S1 with
      | bad => rw [e9] at q9; exact q9
      | exc c fs S' => rw [e9] at q9; exact fun cls d H' G' s' r' x' => q9 cls d H' G' (s1.trans (s2.trans s')) r' x'
      | ok d' S' => rw [e9] at q9; exact fun v' H' G' s' r' x' => q9 v' H' G' (s1.trans (s2.trans s')) r' x'⟩
end
section
variable {X : Cx} {W : WX} {mk x : Str} {scope : Scope} {params : Arguments} {body oe oe2 : Expr} {k kk : Nat} {fb fo fo2 : EF} {p lpos pos : Pos} {good : List (Str × Str)} {F : FF}
/-- x(lambda: body, e, e2), x tells -/
def fRefs (good : List (Str × Str)) (F : FF) (fb fo fo2 : EF) : EF := fun σ S => (fo σ S).bind fun d S1 => (fo2 σ S1).bind fun d2 S2 => refD good F (fun S => fb σ S) d d2 S2
theorem se_refs (TO : RefOk X.prog X.w X.K X.mg X.base kk (k + 1) x good F) (M : MkL X mk) (LK : LamK X scope params body k fb) (ho : SE X W oe fo) (ho2 : SE X W oe2 fo2) (hr : Room kk X.A) (tk : L2N.Takes X W) (hg : Gl X x) (hdb : (x == ("__debug__" : Str)) = false := by decide)
    (h1 : starEach (.Lambda params body scope lpos :: [oe, oe2]) X.env = (false, eval (.Lambda params body scope lpos) X.env) :: starEach [oe, oe2] X.env := by rfl) (h2 : starEach [oe, oe2] X.env = (false, eval oe X.env) :: starEach [oe2] X.env := by rfl) (h3 : starEach [oe2] X.env = (false, eval oe2 X.env) :: starEach [] X.env := by rfl) (hpl : (backTo pos (starEach [oe, oe2] X.env)).any (·.1) = false := by rfl) :
    SE X W (.Call (.Name x p) [.Lambda params body scope lpos, oe, oe2] [] pos) (fRefs good F fb fo fo2) := by
  obtain ⟨fn, gl, kp, run⟩ := TO
  refine ⟨fun pins s σ H Q I ⟨G, σd, S, r, sl, q⟩ => ?_⟩
  refine wpAny_Call_Name_kw (ld_glob I hg gl ?_ hdb)
  refine PySem.W.callWith_K (h₀ := X.base) I.ok.mod.kin kp ?_ h1 hpl
  rw [h1, h2, h3]
  show wpAny _ _ (spliced ((false, eval (.Lambda params body scope lpos) X.env) :: (false, eval oe X.env) :: (false, eval oe2 X.env) :: backTo pos (starEach [] X.env))) _ _ s
  refine Calls.spliced_cons (lam_mk I M LK r sl fun f o H1 s' G1 I1 st1 r1 hT => ?_)
  have q9 : PostE X.K X.mg W G1 H1 σd ((fo σd S).bind fun d S1 => (fo2 σd S1).bind fun d2 S2 => refD good F (fun S => fb σd S) d d2 S2) Q := PostE.pre st1 q
  refine Calls.spliced_cons (thn (ho.run ((f, o) :: pins) s' σ H1 _ I1 ⟨G1, σd, S, r1, sl.mono st1.le, bindE q9⟩) fun u s2 ⟨v, H2, I2, rv, G2, d, S2, st2, r2, dv, q2⟩ => ?_)
  have sl2 := sl.mono (st1.le.trans st2.le)
  refine Calls.spliced_cons (thn (ho2.run ((f, o) :: pins) s2 σ H2 _ I2 ⟨G2, σd, S2, r2, sl2, bindE q2⟩) fun u2 s3 ⟨v2, H3, I3, rv2, G3, d2, S3, st3, r3, dv2, q3⟩ => ?_)
  refine Calls.spliced_nil ⟨I3.kIn, ?_⟩
  have I3' : Inv X pins σ H3 s3 := I3.pins_of fun p hp => I3.pin p (List.mem_append_right _ (List.mem_cons_of_mem _ hp))
  refine wpAny_call (codeAny_mono (run X.A X.stack s3 H3 G3 S3 Q (WE W σ) f (fun S => fb σd S) u u2 v v2 d d2 hr I3.env0 r3 (hT s3 H3 G3 pins I3 (st2.le.trans st3.le)) rv (dv.mono st3.le) rv2 dv2 (postR_of (sl2.mono st3.le) q3)) fun r s4 hq => ?_)
  cases r with
  | error e => exact L2N.passAt tk σ pins H3 s3 e s4 I3' hq
  | ok fl =>
    cases fl with
    | ret u => exact I3'.after hq
    | next => exact False.elim hq
    | brk => exact False.elim hq
    | cont => exact False.elim hq
end
end PF
/-! each def as a plain function (printed by gen.py) -/
namespace K01
open PySem PySem.Spec PyProof.Rows L2 PF
def xnames : List Str := ["InvalidBody", "InvalidChoice", "InvalidCommand", "InvalidCondition", "InvalidName", "InvalidNumber", "InvalidPaper", "InvalidProgram", "InvalidSize", "InvalidState", "NothingToRedo", "NothingToUndo", "ParseError", "TooMany", "InvalidCast", "InvalidCrew", "InvalidDeed", "InvalidRise", "Unkept"]
def good : List (Str × Str) := [("InvalidCrew", "value"), ("InvalidNumber", "value"), ("TooMany", "limit")]
def B_is_integer : SF := sRet (fAnd (fIsi [.int] (fVar 0)) (f1 notD (fIsi [.bool] (fVar 0))))
def F_is_integer : FF := runF 1 B_is_integer
def B_is_between : SF := sRet (fAnd (fCall 1 F_is_integer (aCons (fVar 0) (aNil))) (fChain leD leD (fVar 1) (fVar 0) (fVar 2)))
def F_is_between : FF := runF 3 B_is_between
def B_is_row : SF := sRet (fIsi [.list, .tuple] (fVar 0))
def F_is_row : FF := runF 1 B_is_row
def B_least_of : SF := sRet (fIdx (fComp [1] (iQ (fVar 0)) (gN 1) (bTrue) (f2 isnD (fVar 1) (fC .non))) (fC (.bl true)))
def F_least_of : FF := runF 2 B_least_of
def B_quota_of : SF := sRet (f2 subD (fB lenD (aCons (fVar 0) (aNil))) (fC (.int 1)))
def F_quota_of : FF := runF 1 B_quota_of
def B_span_of : SF := sRet (f2 subD (fCall 1 F_quota_of (aCons (fVar 0) (aNil))) (fCall 1 F_least_of (aCons (fVar 0) (aNil))))
def F_span_of : FF := runF 1 B_span_of
def B_is_values : SF := sSeq (sIf (bOr (bNot (bT (fIsi [.tuple] (fVar 0)))) (bOr (bNot (bV (fChain leD leD (fC (.int 1)) (fB lenD (aCons (fVar 0) (aNil))) (fC (.int 41))))) (bV (f2 isD (fIx (fVar 0) (f1 negD (fC (.int 1)))) (fC .non))))) (sRet (fC (.bl false))) (sNil)) (sSeq (sAsg (fSl (fVar 0) (oSome (fCall 1 F_least_of (aCons (fVar 0) (aNil)))) oNone) (gN 1)) (sSeq (sIf (bNot (bT (fB allD (aCons (fComp [2] (iQ (fVar 1)) (gN 2) (bTrue) (fCall 1 F_is_integer (aCons (fVar 2) (aNil)))) (aNil))))) (sRet (fC (.bl false))) (sNil)) (sRet (fB allD (aCons (fComp [3] (iR1 (aCons (f2 subD (fB lenD (aCons (fVar 1) (aNil))) (fC (.int 1))) (aNil))) (gN 3) (bTrue) (f2 leD (fIx (fVar 1) (fVar 3)) (fIx (fVar 1) (f2 addD (fVar 3) (fC (.int 1)))))) (aNil))))))
def F_is_values : FF := runF 4 B_is_values
def B_is_many : SF := sRet (fCall 3 F_is_between (aCons (fVar 0) (aCons (fC (.int 0)) (aCons (fC (.int 1000000000000000000000000000000)) (aNil)))))
def F_is_many : FF := runF 1 B_is_many
def B_is_kind : SF := sRet (fAnd (fIsi [.tuple] (fVar 0)) (fAnd (f2 eqD (fB lenD (aCons (fVar 0) (aNil))) (fC (.int 2))) (fAnd (fCall 1 F_is_values (aCons (fIx (fVar 0) (fC (.int 0))) (aNil))) (fCall 1 F_is_many (aCons (fIx (fVar 0) (fC (.int 1))) (aNil))))))
def F_is_kind : FF := runF 1 B_is_kind
def B_look_at_many : SF := sIf (bNot (bT (fCall 1 F_is_many (aCons (fVar 0) (aNil))))) (sRaise "InvalidNumber" "value" (fVar 0)) (sNil)
def F_look_at_many : FF := runF 1 B_look_at_many
def B__law_is_whole : SF := sRet (fAnd (fIsi [.int] (fVar 0)) (f1 notD (fIsi [.bool] (fVar 0))))
def F__law_is_whole : FF := runF 1 B__law_is_whole
def B__law_pool : SF := sSeq (sAsg (fC (.int 0)) (gN 2)) (sSeq (sIf (bV (f2 ltD (fVar 1) (fB lenD (aCons (fVar 0) (aNil))))) (sAsg (fB absD (aCons (fIx (fVar 0) (fVar 1)) (aNil))) (gN 2)) (sNil)) (sSeq (sAsg (f2 modD (fB intD (aCons (f2 mulD (f2 addD (f2 addD (f2 addD (f2 modD (fB intD (aCons (fVar 2) (aNil))) (fC (.int 2147483629))) (f2 mulD (f2 mulD (fC (.int 7919)) (fVar 1)) (fVar 1))) (f2 mulD (fC (.int 31)) (fVar 1))) (fC (.int 17))) (fC (.int 48271))) (aNil))) (fC (.int 2147483647))) (gN 3)) (sRet (fNew (aCons (f2 mulD (fVar 2) (fB intD (aCons (f2 geD (fVar 2) (f2 powD (fC (.int 10)) (fC (.int 18)))) (aNil)))) (aCons (f2 modD (fB intD (aCons (f2 mulD (fVar 3) (fVar 3)) (aNil))) (fC (.int 2147483629))) (aNil)))))))
def F__law_pool : FF := runF 4 B__law_pool
def B__law_take : SF := sSeq (sIf (bV (f2 gtD (fIx (fVar 0) (fC (.int 0))) (fC (.int 0)))) (sSeq (sAsg (f2 modD (fB intD (aCons (fIx (fVar 0) (fC (.int 0))) (aNil))) (fVar 1)) (gN 2)) (sSeq (sSub (fVar 0) (fC (.int 0)) (f2 fdivD (fB intD (aCons (fIx (fVar 0) (fC (.int 0))) (aNil))) (fVar 1))) (sRet (fVar 2)))) (sNil)) (sSeq (sSub (fVar 0) (fC (.int 1)) (f2 modD (fB intD (aCons (f2 addD (f2 mulD (fIx (fVar 0) (fC (.int 1))) (fC (.int 48271))) (fC (.int 12345))) (aNil))) (fC (.int 2147483647)))) (sRet (f2 modD (fB intD (aCons (f2 fdivD (f2 modD (fB intD (aCons (f2 mulD (fIx (fVar 0) (fC (.int 1))) (fIx (fVar 0) (fC (.int 1)))) (aNil))) (fC (.int 2147483629))) (fC (.int 64))) (aNil))) (fVar 1))))
def F__law_take : FF := runF 3 B__law_take
def B__law_one : SF := sRet (fIx (fVar 1) (fCall 2 F__law_take (aCons (fVar 0) (aCons (fB lenD (aCons (fVar 1) (aNil))) (aNil)))))
def F__law_one : FF := runF 2 B__law_one
def B__law_pu_is_values : SF := sSeq (sIf (bOr (bNot (bT (fIsi [.tuple] (fVar 0)))) (bOr (bV (f2 eqD (fVar 0) (fTup (aNil)))) (bOr (bV (f2 gtD (fB lenD (aCons (fVar 0) (aNil))) (fC (.int 41)))) (bV (f2 isD (fIx (fVar 0) (f1 negD (fC (.int 1)))) (fC .non)))))) (sRet (fC (.bl false))) (sNil)) (sSeq (sAsg (fB listQ (aCons (fVar 0) (aNil))) (gN 1)) (sSeq (sWh (bV (f2 isD (fIx (fVar 1) (fC (.int 0))) (fC .non))) (sAsg (fSl (fVar 1) (oSome (fC (.int 1))) oNone) (gN 1)) (fun (σ : Stt) _ => match σ[1]? with | some (some (D.lst l)) => l.length + 1 | _ => 0)) (sSeq (sIf (bV (f2 neD (fComp [2] (iQ (fVar 1)) (gN 2) (bOr (bNot (bT (fIsi [.int] (fVar 2)))) (bT (fIsi [.bool] (fVar 2)))) (fVar 2)) (fLst (aNil)))) (sRet (fC (.bl false))) (sNil)) (sRet (f2 eqD (fComp [3] (iR2 (aCons (fC (.int 1)) (aCons (fB lenD (aCons (fVar 1) (aNil))) (aNil)))) (gN 3) (bV (f2 ltD (fIx (fVar 1) (fVar 3)) (fIx (fVar 1) (f2 subD (fVar 3) (fC (.int 1)))))) (fVar 3)) (fLst (aNil)))))))
def F__law_pu_is_values : FF := runF 4 B__law_pu_is_values
def B__law_pd_values : SF := sSeq (sAsg (fCall 2 F__law_take (aCons (fVar 0) (aCons (f2 addD (fVar 1) (fC (.int 1))) (aNil)))) (gN 2)) (sSeq (sAsg (fIf (bV (f2 eqD (fCall 2 F__law_take (aCons (fVar 0) (aCons (fC (.int 4)) (aNil)))) (fC (.int 0)))) (fCall 2 F__law_take (aCons (fVar 0) (aCons (f2 addD (fVar 2) (fC (.int 1))) (aNil)))) (fC (.int 0))) (gN 3)) (sSeq (sPar 4 5 (aCons (f2 subD (fCall 2 F__law_take (aCons (fVar 0) (aCons (fC (.int 9)) (aNil)))) (fC (.int 4))) (aCons (fCall 2 F__law_one (aCons (fVar 0) (aCons (fLst (aCons (fLst (aCons (fC (.int 0)) (aCons (fC (.int 0)) (aCons (fC (.int 1)) (aNil))))) (aCons (fLst (aCons (fC (.int 0)) (aCons (fC (.int 0)) (aCons (fC (.int 1)) (aCons (fC (.int 2)) (aNil)))))) (aCons (fLst (aCons (fC (.int 0)) (aCons (fC (.int 1)) (aCons (fC (.int 1)) (aCons (fC (.int 2)) (aCons (fC (.int 3)) (aNil))))))) (aCons (fLst (aCons (fC (.int 0)) (aCons (fC (.int 0)) (aCons (fC (.int 0)) (aCons (fC (.int 5)) (aCons (fC (.int 9)) (aNil))))))) (aCons (fLst (aCons (fC (.int 1)) (aNil))) (aCons (fLst (aCons (fC (.int 0)) (aCons (fC (.int 2)) (aNil)))) (aNil)))))))) (aNil)))) (aNil)))) (sSeq (sAsg (fCatN (f2 mulD (fLst (aCons (fC .non) (aNil))) (fVar 3)) (fLst (aCons (fVar 4) (aNil)))) (gN 6)) (sSeq (sFor (iR2 (aCons (fVar 3) (aCons (fVar 2) (aNil)))) (gN 7) (sSeq (sAsg (f2 addD (fVar 4) (fCall 2 F__law_one (aCons (fVar 0) (aCons (fVar 5) (aNil))))) (gN 4)) (sApp (fVar 6) (fVar 4)))) (sRet (fB tupleQ (aCons (fVar 6) (aNil))))))))
def F__law_pd_values : FF := runF 8 B__law_pd_values
def B__law_pd_leap : SF := sSeq (sAsg (f2 addD (fC (.int 1)) (fCall 2 F__law_take (aCons (fVar 0) (aCons (fVar 1) (aNil))))) (gN 2)) (sRet (f2 addD (f2 mulD (fTup (aCons (fC (.int 0)) (aNil))) (fVar 2)) (fTup (aCons (f2 addD (fC (.int 1)) (fCall 2 F__law_take (aCons (fVar 0) (aCons (fC (.int 9)) (aNil))))) (aNil)))))
def F__law_pd_leap : FF := runF 3 B__law_pd_leap
def B__law_pd_many : SF := sRet (fIf (bV (f2 eqD (fCall 2 F__law_take (aCons (fVar 0) (aCons (fC (.int 4)) (aNil)))) (fC (.int 0)))) (fCall 2 F__law_one (aCons (fVar 0) (aCons (fLst (aCons (fC (.int 0)) (aCons (fC (.int 1)) (aCons (fC (.int 2)) (aNil))))) (aNil)))) (fCall 2 F__law_take (aCons (fVar 0) (aCons (f2 addD (fVar 1) (fC (.int 1))) (aNil)))))
def F__law_pd_many : FF := runF 2 B__law_pd_many
def B__law_pd_great : SF := sRet (fCall 2 F__law_one (aCons (fVar 0) (aCons (fLst (aCons (f2 powD (fC (.int 10)) (fC (.int 30))) (aCons (f2 subD (f2 powD (fC (.int 10)) (fC (.int 30))) (fCall 2 F__law_take (aCons (fVar 0) (aCons (f2 powD (fC (.int 10)) (fC (.int 6))) (aNil))))) (aCons (f2 addD (f2 powD (fC (.int 10)) (fC (.int 29))) (fCall 2 F__law_take (aCons (fVar 0) (aCons (f2 powD (fC (.int 10)) (fC (.int 9))) (aNil))))) (aCons (f2 addD (f2 mulD (fC (.int 7)) (f2 powD (fC (.int 10)) (fC (.int 20)))) (fCall 2 F__law_take (aCons (fVar 0) (aCons (fC (.int 1000)) (aNil))))) (aCons (f2 addD (f2 powD (fC (.int 10)) (fC (.int 12))) (fCall 2 F__law_take (aCons (fVar 0) (aCons (fC (.int 99)) (aNil))))) (aCons (fCall 2 F__law_take (aCons (fVar 0) (aCons (f2 powD (fC (.int 10)) (fC (.int 6))) (aNil)))) (aCons (f2 addD (f2 mulD (fC (.int 3)) (f2 powD (fC (.int 10)) (fC (.int 29)))) (fC (.int 1))) (aNil))))))))) (aNil))))
def F__law_pd_great : FF := runF 1 B__law_pd_great
def B__law_pd_crew : SF := sSeq (sAsg (fNew (aNil)) (gN 4)) (sSeq (sFor (iR1 (aCons (f2 addD (fC (.int 1)) (fCall 2 F__law_take (aCons (fVar 0) (aCons (fVar 1) (aNil))))) (aNil))) (gN 5) (sSeq (sAsg (fIf (bAnd (bV (f2 gtD (fVar 2) (fC (.int 0)))) (bV (f2 eqD (fCall 2 F__law_take (aCons (fVar 0) (aCons (fC (.int 5)) (aNil)))) (fC (.int 0))))) (fCall 2 F__law_pd_leap (aCons (fVar 0) (aCons (fVar 2) (aNil)))) (fCall 2 F__law_pd_values (aCons (fVar 0) (aCons (fVar 2) (aNil))))) (gN 6)) (sApp (fVar 4) (fTup (aCons (fVar 6) (aCons (fCall 2 F__law_pd_many (aCons (fVar 0) (aCons (fVar 3) (aNil)))) (aNil))))))) (sRet (fB tupleQ (aCons (fVar 4) (aNil)))))
def F__law_pd_crew : FF := runF 7 B__law_pd_crew
def B__law_pd_some_crew : SF := sRet (fIf (bV (f2 eqD (fCall 2 F__law_take (aCons (fVar 0) (aCons (fC (.int 8)) (aNil)))) (fC (.int 0)))) (fCall 4 F__law_pd_crew (aCons (fVar 0) (aCons (fC (.int 3)) (aCons (fC (.int 12)) (aCons (fC (.int 5)) (aNil)))))) (fCall 4 F__law_pd_crew (aCons (fVar 0) (aCons (fC (.int 3)) (aCons (fCall 2 F__law_one (aCons (fVar 0) (aCons (fLst (aCons (fC (.int 2)) (aCons (fC (.int 3)) (aCons (fC (.int 4)) (aCons (fC (.int 6)) (aNil)))))) (aNil)))) (aCons (fC (.int 12)) (aNil)))))))
def F__law_pd_some_crew : FF := runF 1 B__law_pd_some_crew
def B__law_pd_great_crew : SF := sSeq (sAsg (fNew (aNil)) (gN 2)) (sSeq (sFor (iQ (fCall 4 F__law_pd_crew (aCons (fVar 0) (aCons (fC (.int 3)) (aCons (fVar 1) (aCons (fC (.int 12)) (aNil))))))) (gT 2 (gsCons (gN 3) (gsCons (gN 4) (gsNil)))) (sApp (fVar 2) (fTup (aCons (fVar 3) (aCons (fIf (bV (f2 eqD (fCall 2 F__law_take (aCons (fVar 0) (aCons (fC (.int 4)) (aNil)))) (fC (.int 0)))) (fVar 4) (fCall 1 F__law_pd_great (aCons (fVar 0) (aNil)))) (aNil)))))) (sRet (fB tupleQ (aCons (fVar 2) (aNil)))))
def F__law_pd_great_crew : FF := runF 5 B__law_pd_great_crew
def B__law_same (F : FF) : SF := sSeq (sIf (bV (f2 isD (fVar 1) (fC .non))) (sRet (f2 isD (fVar 0) (fC .non))) (sNil)) (sSeq (sIf (bT (fIsi [.bool] (fVar 1))) (sRet (fIf (bT (fVar 1)) (f2 isD (fVar 0) (fC (.bl true))) (f2 isD (fVar 0) (fC (.bl false))))) (sNil)) (sSeq (sIf (bT (fIsi [.int] (fVar 1))) (sRet (fAnd (fCall 1 F__law_is_whole (aCons (fVar 0) (aNil))) (f2 eqD (fVar 0) (fVar 1)))) (sNil)) (sSeq (sIf (bT (fIsi [.str] (fVar 1))) (sRet (fAnd (fIsi [.str] (fVar 0)) (f2 eqD (fVar 0) (fVar 1)))) (sNil)) (sSeq (sIf (bT (fIsi [.dict] (fVar 1))) (sSeq (sIf (bOr (bNot (bT (fIsi [.dict] (fVar 0)))) (bV (f2 neD (fB sorted1D (aCons (fComp [2] (iK (fVar 0)) (gN 2) (bTrue) (fB strD (aCons (fVar 2) (aNil)))) (aNil))) (fB sorted1D (aCons (fComp [2] (iK (fVar 1)) (gN 2) (bTrue) (fB strD (aCons (fVar 2) (aNil)))) (aNil)))))) (sRet (fC (.bl false))) (sNil)) (sRet (f2 eqD (fComp [2] (iK (fVar 1)) (gN 2) (bNot (bT (fCall 2 F (aCons (f2 dgD (fVar 0) (fVar 2)) (aCons (f2 dgD (fVar 1) (fVar 2)) (aNil)))))) (fVar 2)) (fLst (aNil))))) (sNil)) (sSeq (sIf (bNot (bT (fIsi [.tuple, .list] (fVar 1)))) (sNever) (sNil)) (sSeq (sIf (bOr (bAnd (bT (fIsi [.tuple] (fVar 1))) (bNot (bT (fIsi [.tuple] (fVar 0))))) (bAnd (bT (fIsi [.list] (fVar 1))) (bNot (bT (fIsi [.list] (fVar 0)))))) (sRet (fC (.bl false))) (sNil)) (sSeq (sIf (bV (f2 neD (fB lenD (aCons (fVar 0) (aNil))) (fB lenD (aCons (fVar 1) (aNil))))) (sRet (fC (.bl false))) (sNil)) (sSeq (sFor (iR1 (aCons (fB lenD (aCons (fVar 1) (aNil))) (aNil))) (gN 3) (sIf (bNot (bT (fCall 2 F (aCons (fIx (fVar 0) (fVar 3)) (aCons (fIx (fVar 1) (fVar 3)) (aNil)))))) (sRet (fC (.bl false))) (sNil))) (sRet (fC (.bl true)))))))))))
def R__law_same : Nat → FF
  | 0 => fun _ _ => .bad
  | n + 1 => runF 4 (B__law_same (R__law_same n))
def F__law_same : FF := R__law_same 8
def B__law_pu_jar_on : SF := sRet (fIf (bOr (bV (f2 isD (fVar 2) (fC .non))) (bV (f2 ltD (fVar 1) (fB lenD (aCons (fVar 0) (aNil)))))) (fCall 2 F__law_pool (aCons (fVar 0) (aCons (fVar 1) (aNil)))) (fVar 2))
def F__law_pu_jar_on : FF := runF 3 B__law_pu_jar_on
def B__law_pu_least_of : SF := sRet (fB lenD (aCons (fComp [1] (iQ (fVar 0)) (gN 1) (bV (f2 isD (fVar 1) (fC .non))) (fVar 1)) (aNil)))
def F__law_pu_least_of : FF := runF 2 B__law_pu_least_of
def B__law_pu_span : SF := sRet (fB maxD (aCons (f2 addD (fLst (aCons (fC (.int 0)) (aNil))) (fComp [1, 2] (iQ (fVar 0)) (gT 2 (gsCons (gN 1) (gsCons (gN 2) (gsNil)))) (bV (f2 gtD (fVar 2) (fC (.int 0)))) (fB intD (aCons (f2 subD (f2 subD (fB lenD (aCons (fVar 1) (aNil))) (fC (.int 1))) (fCall 1 F__law_pu_least_of (aCons (fVar 1) (aNil)))) (aNil))))) (aNil)))
def F__law_pu_span : FF := runF 3 B__law_pu_span
def B__law_pu_ends : SF := sSeq (sAsg (fB sumD (aCons (fComp [1, 2] (iQ (fVar 0)) (gT 2 (gsCons (gN 1) (gsCons (gN 2) (gsNil)))) (bTrue) (f2 mulD (fCall 1 F__law_pu_least_of (aCons (fVar 1) (aNil))) (fVar 2))) (aNil))) (gN 3)) (sRet (fTup (aCons (fVar 3) (aCons (fB sumD (aCons (fComp [1, 2] (iQ (fVar 0)) (gT 2 (gsCons (gN 1) (gsCons (gN 2) (gsNil)))) (bTrue) (f2 mulD (f2 subD (fB lenD (aCons (fVar 1) (aNil))) (fC (.int 1))) (fVar 2))) (aNil))) (aNil)))))
def F__law_pu_ends : FF := runF 4 B__law_pu_ends
def B__law_pu_classes (a d : Addr) (c : Str) : SF := sRet (fLst (aCons (fTup (aCons (fC (.str "InvalidBody")) (aCons (fIsX a d (decide (("InvalidBody" : Str) = c)) (fVar 0)) (aNil)))) (aCons (fTup (aCons (fC (.str "InvalidChoice")) (aCons (fIsX a d (decide (("InvalidChoice" : Str) = c)) (fVar 0)) (aNil)))) (aCons (fTup (aCons (fC (.str "InvalidCommand")) (aCons (fIsX a d (decide (("InvalidCommand" : Str) = c)) (fVar 0)) (aNil)))) (aCons (fTup (aCons (fC (.str "InvalidCondition")) (aCons (fIsX a d (decide (("InvalidCondition" : Str) = c)) (fVar 0)) (aNil)))) (aCons (fTup (aCons (fC (.str "InvalidName")) (aCons (fIsX a d (decide (("InvalidName" : Str) = c)) (fVar 0)) (aNil)))) (aCons (fTup (aCons (fC (.str "InvalidNumber")) (aCons (fIsX a d (decide (("InvalidNumber" : Str) = c)) (fVar 0)) (aNil)))) (aCons (fTup (aCons (fC (.str "InvalidPaper")) (aCons (fIsX a d (decide (("InvalidPaper" : Str) = c)) (fVar 0)) (aNil)))) (aCons (fTup (aCons (fC (.str "InvalidProgram")) (aCons (fIsX a d (decide (("InvalidProgram" : Str) = c)) (fVar 0)) (aNil)))) (aCons (fTup (aCons (fC (.str "InvalidSize")) (aCons (fIsX a d (decide (("InvalidSize" : Str) = c)) (fVar 0)) (aNil)))) (aCons (fTup (aCons (fC (.str "InvalidState")) (aCons (fIsX a d (decide (("InvalidState" : Str) = c)) (fVar 0)) (aNil)))) (aCons (fTup (aCons (fC (.str "NothingToRedo")) (aCons (fIsX a d (decide (("NothingToRedo" : Str) = c)) (fVar 0)) (aNil)))) (aCons (fTup (aCons (fC (.str "NothingToUndo")) (aCons (fIsX a d (decide (("NothingToUndo" : Str) = c)) (fVar 0)) (aNil)))) (aCons (fTup (aCons (fC (.str "ParseError")) (aCons (fIsX a d (decide (("ParseError" : Str) = c)) (fVar 0)) (aNil)))) (aCons (fTup (aCons (fC (.str "TooMany")) (aCons (fIsX a d (decide (("TooMany" : Str) = c)) (fVar 0)) (aNil)))) (aCons (fTup (aCons (fC (.str "InvalidCast")) (aCons (fIsX a d (decide (("InvalidCast" : Str) = c)) (fVar 0)) (aNil)))) (aCons (fTup (aCons (fC (.str "InvalidCrew")) (aCons (fIsX a d (decide (("InvalidCrew" : Str) = c)) (fVar 0)) (aNil)))) (aCons (fTup (aCons (fC (.str "InvalidDeed")) (aCons (fIsX a d (decide (("InvalidDeed" : Str) = c)) (fVar 0)) (aNil)))) (aCons (fTup (aCons (fC (.str "InvalidRise")) (aCons (fIsX a d (decide (("InvalidRise" : Str) = c)) (fVar 0)) (aNil)))) (aCons (fTup (aCons (fC (.str "Unkept")) (aCons (fIsX a d (decide (("Unkept" : Str) = c)) (fVar 0)) (aNil)))) (aNil)))))))))))))))))))))
def B__law_pu_field (a d : Addr) (c : Str) : SF := sSeq (sIf (bV (f2 eqD (fVar 0) (fC (.str "ParseError")))) (sRet (fXf a d "line" (fVar 1))) (sNil)) (sSeq (sIf (bV (f2 eqD (fVar 0) (fC (.str "TooMany")))) (sRet (fXf a d "limit" (fVar 1))) (sNil)) (sSeq (sIf (bOr (bV (f2 inD (fVar 0) (fLst (aCons (fC (.str "NothingToRedo")) (aCons (fC (.str "NothingToUndo")) (aCons (fC (.str "")) (aNil))))))) (bV (f2 inD (fC (.str " ")) (fVar 0)))) (sRet (fC .non)) (sNil)) (sRet (fXf a d "value" (fVar 1)))))
def B__law_pu_heard_suite (a d : Addr) (c : Str) : SF := sSeq (sAsg (fJoin (fC (.str " ")) (fHotC (fCall 1 (runF 1 (B__law_pu_classes a d c)) (aCons (fVar 1) (aNil))))) (gN 3)) (sRet (fTup (aCons (fVar 3) (aCons (fCall 2 (runF 2 (B__law_pu_field a d c)) (aCons (fVar 3) (aCons (fVar 1) (aNil)))) (aNil)))))
def F_Crew : FI := initF 5 (sSeq (sIf (bOr (bNot (bT (fCall 1 F_is_row (aCons (fVar 1) (aNil))))) (bNot (bV (fChain leD leD (fC (.int 1)) (fB lenD (aCons (fVar 1) (aNil))) (fC (.int 3)))))) (sRaise "InvalidCrew" "value" (fVar 1)) (sNil)) (sFor (iQ (fVar 1)) (gN 2) (sIf (bNot (bT (fCall 1 F_is_kind (aCons (fVar 2) (aNil))))) (sRaise "InvalidCrew" "value" (fVar 2)) (sNil)))) "own_kinds" (fB tupleQ (aCons (fComp [3, 4] (iQ (fVar 1)) (gT 2 (gsCons (gN 3) (gsCons (gN 4) (gsNil)))) (bTrue) (fTup (aCons (fVar 3) (aCons (fVar 4) (aNil))))) (aNil)))
def B_Crew_all_kinds : SF := sRet (fFld "Crew" "own_kinds" (fVar 0))
def F_Crew_all_kinds : FF := runF 1 B_Crew_all_kinds
def B_Crew_members : SF := sRet (fB sumD (aCons (fComp [1, 2] (iQ (fFld "Crew" "own_kinds" (fVar 0))) (gT 2 (gsCons (gN 1) (gsCons (gN 2) (gsNil)))) (bTrue) (fVar 2)) (aNil)))
def F_Crew_members : FF := runF 3 B_Crew_members
def B_Crew_least : SF := sRet (fB sumD (aCons (fComp [1, 2] (iQ (fFld "Crew" "own_kinds" (fVar 0))) (gT 2 (gsCons (gN 1) (gsCons (gN 2) (gsNil)))) (bTrue) (f2 mulD (fCall 1 F_least_of (aCons (fVar 1) (aNil))) (fVar 2))) (aNil)))
def F_Crew_least : FF := runF 3 B_Crew_least
def B_Crew_full : SF := sRet (fB sumD (aCons (fComp [1, 2] (iQ (fFld "Crew" "own_kinds" (fVar 0))) (gT 2 (gsCons (gN 1) (gsCons (gN 2) (gsNil)))) (bTrue) (f2 mulD (fCall 1 F_quota_of (aCons (fVar 1) (aNil))) (fVar 2))) (aNil)))
def F_Crew_full : FF := runF 3 B_Crew_full
def B_Crew_span : SF := sRet (fB maxD (aCons (fLst (aCons (fC (.int 0)) (aStar (fComp [1, 2] (iQ (fFld "Crew" "own_kinds" (fVar 0))) (gT 2 (gsCons (gN 1) (gsCons (gN 2) (gsNil)))) (bV (f2 gtD (fVar 2) (fC (.int 0)))) (fCall 1 F_span_of (aCons (fVar 1) (aNil)))) (aNil)))) (aNil)))
def F_Crew_span : FF := runF 3 B_Crew_span
def B_Crew___eq__ : SF := sRet (fAnd (fIsC "Crew" (fVar 1)) (f2 eqD (fFld "Crew" "own_kinds" (fVar 0)) (fFld "Crew" "own_kinds" (fVar 1))))
def F_Crew___eq__ : FF := runF 2 B_Crew___eq__
def B_Crew_look_at_kind : SF := sIf (bNot (bT (fCall 3 F_is_between (aCons (fVar 1) (aCons (fC (.int 0)) (aCons (f2 subD (fB lenD (aCons (fFld "Crew" "own_kinds" (fVar 0)) (aNil))) (fC (.int 1))) (aNil))))))) (sRaise "InvalidNumber" "value" (fVar 1)) (sNil)
def F_Crew_look_at_kind : FF := runF 2 B_Crew_look_at_kind
def B_Crew_changed : SF := sRet (fMake "Crew" 1 F_Crew (aCons (f2 addD (f2 addD (fSl (fFld "Crew" "own_kinds" (fVar 0)) oNone (oSome (fVar 1))) (fTup (aCons (fVar 2) (aNil)))) (fSl (fFld "Crew" "own_kinds" (fVar 0)) (oSome (f2 addD (fVar 1) (fC (.int 1)))) oNone)) (aNil)))
def F_Crew_changed : FF := runF 3 B_Crew_changed
def B_Crew_with_many : SF := sSeq (sDrop (fMeth "Crew" "look_at_kind" 1 F_Crew_look_at_kind (fVar 0) (aCons (fVar 1) (aNil)))) (sSeq (sDrop (fCall 1 F_look_at_many (aCons (fVar 2) (aNil)))) (sRet (fMeth "Crew" "changed" 2 F_Crew_changed (fVar 0) (aCons (fVar 1) (aCons (fTup (aCons (fIx (fIx (fFld "Crew" "own_kinds" (fVar 0)) (fVar 1)) (fC (.int 0))) (aCons (fVar 2) (aNil)))) (aNil))))))
def F_Crew_with_many : FF := runF 3 B_Crew_with_many
def B_Crew_with_kind : SF := sSeq (sIf (bNot (bT (fCall 1 F_is_values (aCons (fVar 1) (aNil))))) (sRaise "InvalidCrew" "value" (fVar 1)) (sNil)) (sSeq (sDrop (fCall 1 F_look_at_many (aCons (fVar 2) (aNil)))) (sSeq (sIf (bV (f2 eqD (fB lenD (aCons (fFld "Crew" "own_kinds" (fVar 0)) (aNil))) (fC (.int 3)))) (sRaise "TooMany" "limit" (fC (.int 3))) (sNil)) (sRet (fMake "Crew" 1 F_Crew (aCons (f2 addD (fFld "Crew" "own_kinds" (fVar 0)) (fTup (aCons (fTup (aCons (fVar 1) (aCons (fVar 2) (aNil)))) (aNil)))) (aNil))))))
def F_Crew_with_kind : FF := runF 3 B_Crew_with_kind
def B_Crew_without_kind : SF := sSeq (sDrop (fMeth "Crew" "look_at_kind" 1 F_Crew_look_at_kind (fVar 0) (aCons (fVar 1) (aNil)))) (sSeq (sIf (bV (f2 eqD (fB lenD (aCons (fFld "Crew" "own_kinds" (fVar 0)) (aNil))) (fC (.int 1)))) (sRaise "InvalidCrew" "value" (fTup (aNil))) (sNil)) (sRet (fMake "Crew" 1 F_Crew (aCons (f2 addD (fSl (fFld "Crew" "own_kinds" (fVar 0)) oNone (oSome (fVar 1))) (fSl (fFld "Crew" "own_kinds" (fVar 0)) (oSome (f2 addD (fVar 1) (fC (.int 1)))) oNone)) (aNil)))))
def F_Crew_without_kind : FF := runF 2 B_Crew_without_kind
def B_Crew_cut : SF := sSeq (sDrop (fMeth "Crew" "look_at_kind" 1 F_Crew_look_at_kind (fVar 0) (aCons (fVar 1) (aNil)))) (sSeq (sAsg (fIx (fFld "Crew" "own_kinds" (fVar 0)) (fVar 1)) (gT 2 (gsCons (gN 3) (gsCons (gN 4) (gsNil))))) (sSeq (sIf (bNot (bT (fCall 3 F_is_between (aCons (fVar 2) (aCons (fCall 1 F_least_of (aCons (fVar 3) (aNil))) (aCons (fCall 1 F_quota_of (aCons (fVar 3) (aNil))) (aNil))))))) (sRaise "InvalidNumber" "value" (fVar 2)) (sNil)) (sRet (fMeth "Crew" "changed" 2 F_Crew_changed (fVar 0) (aCons (fVar 1) (aCons (fTup (aCons (fSl (fVar 3) oNone (oSome (f2 addD (fVar 2) (fC (.int 1))))) (aCons (fVar 4) (aNil)))) (aNil)))))))
def F_Crew_cut : FF := runF 5 B_Crew_cut
def B_Crew_share : SF := sSeq (sIf (bNot (bT (fCall 3 F_is_between (aCons (fVar 1) (aCons (fC (.int 1)) (aCons (fC (.int 1000)) (aNil))))))) (sRaise "InvalidNumber" "value" (fVar 1)) (sNil)) (sSeq (sIf (bT (fB anyD (aCons (fComp [2, 3] (iQ (fFld "Crew" "own_kinds" (fVar 0))) (gT 2 (gsCons (gN 2) (gsCons (gN 3) (gsNil)))) (bTrue) (f2 neD (f2 modD (fVar 3) (fVar 1)) (fC (.int 0)))) (aNil)))) (sRaise "InvalidNumber" "value" (fVar 1)) (sNil)) (sRet (fMake "Crew" 1 F_Crew (aCons (fComp [2, 3] (iQ (fFld "Crew" "own_kinds" (fVar 0))) (gT 2 (gsCons (gN 2) (gsCons (gN 3) (gsNil)))) (bTrue) (fTup (aCons (fVar 2) (aCons (f2 fdivD (fVar 3) (fVar 1)) (aNil))))) (aNil)))))
def F_Crew_share : FF := runF 4 B_Crew_share
def B__law_pd_made : SF := sRet (fMake "Crew" 1 F_Crew (aCons (fB listQ (aCons (fVar 0) (aNil))) (aNil)))
def F__law_pd_made : FF := runF 1 B__law_pd_made
def B__law_is_crew_of : SF := sSeq (sAsg (fCall 1 F__law_pu_ends (aCons (fVar 1) (aNil))) (gT 2 (gsCons (gN 2) (gsCons (gN 3) (gsNil))))) (sSeq (sAsg (fLst (aCons (fVar 1) (aCons (fB sumD (aCons (fComp [4, 5] (iQ (fVar 1)) (gT 2 (gsCons (gN 4) (gsCons (gN 5) (gsNil)))) (bTrue) (fVar 5)) (aNil))) (aCons (fVar 2) (aCons (fVar 3) (aCons (fCall 1 F__law_pu_span (aCons (fVar 1) (aNil))) (aNil))))))) (gN 6)) (sRet (fAnd (fCall 2 F__law_same (aCons (fLst (aCons (fProp "Crew" F_Crew_all_kinds (fVar 0)) (aCons (fProp "Crew" F_Crew_members (fVar 0)) (aCons (fProp "Crew" F_Crew_least (fVar 0)) (aCons (fProp "Crew" F_Crew_full (fVar 0)) (aCons (fProp "Crew" F_Crew_span (fVar 0)) (aNil))))))) (aCons (fVar 6) (aNil)))) (fEqI "Crew" F_Crew___eq__ (fVar 0) (fCall 1 F__law_pd_made (aCons (fVar 1) (aNil)))))))
def F__law_is_crew_of : FF := runF 7 B__law_is_crew_of
def B__law_is_whole_to : SF := sRet (fAnd (fIsi [.int] (fVar 0)) (fAnd (f1 notD (fIsi [.bool] (fVar 0))) (fAnd (f2 geD (fVar 0) (fVar 1)) (f2 leD (fVar 0) (fVar 2)))))
def F__law_is_whole_to : FF := runF 3 B__law_is_whole_to
def B__law_owed_of : SF := sSeq (sAsg (fIx (fVar 1) (fC (.int 0))) (gN 2)) (sSeq (sIf (bV (f2 eqD (fVar 2) (fC (.str "share")))) (sSeq (sAsg (fAnd (fCall 3 F__law_is_whole_to (aCons (fIx (fVar 1) (fC (.int 1))) (aCons (fC (.int 1)) (aCons (fC (.int 1000)) (aNil))))) (f2 eqD (fComp [3, 4] (iQ (fVar 0)) (gT 2 (gsCons (gN 3) (gsCons (gN 4) (gsNil)))) (bV (f2 neD (f2 modD (fVar 4) (fIx (fVar 1) (fC (.int 1)))) (fC (.int 0)))) (fVar 4)) (fLst (aNil)))) (gN 5)) (sRet (fIf (bT (fVar 5)) (fTup (aCons (fC (.str "told")) (aCons (fB tupleQ (aCons (fComp [3, 4] (iQ (fVar 0)) (gT 2 (gsCons (gN 3) (gsCons (gN 4) (gsNil)))) (bTrue) (fTup (aCons (fVar 3) (aCons (f2 fdivD (fVar 4) (fIx (fVar 1) (fC (.int 1)))) (aNil))))) (aNil))) (aNil)))) (fTup (aCons (fC (.str "InvalidNumber")) (aCons (fIx (fVar 1) (fC (.int 1))) (aNil))))))) (sNil)) (sSeq (sIf (bV (f2 eqD (fVar 2) (fC (.str "with_kind")))) (sSeq (sIf (bNot (bT (fCall 1 F__law_pu_is_values (aCons (fIx (fVar 1) (fC (.int 1))) (aNil))))) (sRet (fTup (aCons (fC (.str "InvalidCrew")) (aCons (fIx (fVar 1) (fC (.int 1))) (aNil))))) (sNil)) (sSeq (sIf (bNot (bT (fCall 3 F__law_is_whole_to (aCons (fIx (fVar 1) (fC (.int 2))) (aCons (fC (.int 0)) (aCons (f2 powD (fC (.int 10)) (fC (.int 30))) (aNil))))))) (sRet (fTup (aCons (fC (.str "InvalidNumber")) (aCons (fIx (fVar 1) (fC (.int 2))) (aNil))))) (sNil)) (sRet (fIf (bV (f2 ltD (fB lenD (aCons (fVar 0) (aNil))) (fC (.int 3)))) (fTup (aCons (fC (.str "told")) (aCons (f2 addD (fVar 0) (fTup (aCons (fTup (aCons (fIx (fVar 1) (fC (.int 1))) (aCons (fIx (fVar 1) (fC (.int 2))) (aNil)))) (aNil)))) (aNil)))) (fTup (aCons (fC (.str "TooMany")) (aCons (fC (.int 3)) (aNil)))))))) (sNil)) (sSeq (sIf (bNot (bT (fCall 3 F__law_is_whole_to (aCons (fIx (fVar 1) (fC (.int 1))) (aCons (fC (.int 0)) (aCons (f2 subD (fB lenD (aCons (fVar 0) (aNil))) (fC (.int 1))) (aNil))))))) (sRet (fTup (aCons (fC (.str "InvalidNumber")) (aCons (fIx (fVar 1) (fC (.int 1))) (aNil))))) (sNil)) (sSeq (sAsg (fIx (fVar 0) (fIx (fVar 1) (fC (.int 1)))) (gT 2 (gsCons (gN 3) (gsCons (gN 4) (gsNil))))) (sSeq (sPar 6 7 (aCons (fSl (fVar 0) oNone (oSome (fIx (fVar 1) (fC (.int 1))))) (aCons (fSl (fVar 0) (oSome (f2 addD (fIx (fVar 1) (fC (.int 1))) (fC (.int 1)))) oNone) (aNil)))) (sSeq (sIf (bV (f2 eqD (fVar 2) (fC (.str "without_kind")))) (sRet (fIf (bV (f2 gtD (fB lenD (aCons (fVar 0) (aNil))) (fC (.int 1)))) (fTup (aCons (fC (.str "told")) (aCons (f2 addD (fVar 6) (fVar 7)) (aNil)))) (fTup (aCons (fC (.str "InvalidCrew")) (aCons (fTup (aNil)) (aNil)))))) (sNil)) (sSeq (sIf (bV (f2 eqD (fVar 2) (fC (.str "with_many")))) (sRet (fIf (bT (fCall 3 F__law_is_whole_to (aCons (fIx (fVar 1) (fC (.int 2))) (aCons (fC (.int 0)) (aCons (f2 powD (fC (.int 10)) (fC (.int 30))) (aNil)))))) (fTup (aCons (fC (.str "told")) (aCons (f2 addD (f2 addD (fVar 6) (fTup (aCons (fTup (aCons (fVar 3) (aCons (fIx (fVar 1) (fC (.int 2))) (aNil)))) (aNil)))) (fVar 7)) (aNil)))) (fTup (aCons (fC (.str "InvalidNumber")) (aCons (fIx (fVar 1) (fC (.int 2))) (aNil)))))) (sNil)) (sSeq (sIf (bNot (bT (fCall 3 F__law_is_whole_to (aCons (fIx (fVar 1) (fC (.int 2))) (aCons (fCall 1 F__law_pu_least_of (aCons (fVar 3) (aNil))) (aCons (f2 subD (fB lenD (aCons (fVar 3) (aNil))) (fC (.int 1))) (aNil))))))) (sRet (fTup (aCons (fC (.str "InvalidNumber")) (aCons (fIx (fVar 1) (fC (.int 2))) (aNil))))) (sNil)) (sRet (fTup (aCons (fC (.str "told")) (aCons (f2 addD (f2 addD (fVar 6) (fTup (aCons (fTup (aCons (fSl (fVar 3) oNone (oSome (f2 addD (fIx (fVar 1) (fC (.int 2))) (fC (.int 1))))) (aCons (fVar 4) (aNil)))) (aNil)))) (fVar 7)) (aNil)))))))))))))
def F__law_owed_of : FF := runF 8 B__law_owed_of
def B__law_done_to : SF := sSeq (sIf (bV (f2 eqD (fIx (fVar 1) (fC (.int 0))) (fC (.str "share")))) (sRet (fMeth "Crew" "share" 1 F_Crew_share (fVar 0) (aCons (fIx (fVar 1) (fC (.int 1))) (aNil)))) (sNil)) (sSeq (sIf (bV (f2 eqD (fIx (fVar 1) (fC (.int 0))) (fC (.str "with_kind")))) (sRet (fMeth "Crew" "with_kind" 2 F_Crew_with_kind (fVar 0) (aCons (fIx (fVar 1) (fC (.int 1))) (aCons (fIx (fVar 1) (fC (.int 2))) (aNil))))) (sNil)) (sSeq (sIf (bV (f2 eqD (fIx (fVar 1) (fC (.int 0))) (fC (.str "without_kind")))) (sRet (fMeth "Crew" "without_kind" 1 F_Crew_without_kind (fVar 0) (aCons (fIx (fVar 1) (fC (.int 1))) (aNil)))) (sNil)) (sRet (fIf (bV (f2 eqD (fIx (fVar 1) (fC (.int 0))) (fC (.str "with_many")))) (fMeth "Crew" "with_many" 2 F_Crew_with_many (fVar 0) (aCons (fIx (fVar 1) (fC (.int 1))) (aCons (fIx (fVar 1) (fC (.int 2))) (aNil)))) (fMeth "Crew" "cut" 2 F_Crew_cut (fVar 0) (aCons (fIx (fVar 1) (fC (.int 1))) (aCons (fIx (fVar 1) (fC (.int 2))) (aNil))))))))
def F__law_done_to : FF := runF 2 B__law_done_to
def B__law_kind_drawn : SF := sSeq (sIf (bV (f2 gtD (fCall 2 F__law_take (aCons (fVar 0) (aCons (fC (.int 5)) (aNil)))) (fC (.int 0)))) (sRet (fCall 2 F__law_take (aCons (fVar 0) (aCons (fB lenD (aCons (fVar 1) (aNil))) (aNil))))) (sNil)) (sRet (fCall 2 F__law_one (aCons (fVar 0) (aCons (fLst (aCons (fB lenD (aCons (fVar 1) (aNil))) (aCons (f1 negD (fC (.int 1))) (aCons (fC (.bl true)) (aCons (fC .non) (aCons (fC (.str "0")) (aCons (fTup (aCons (fC (.int 0)) (aNil))) (aCons (f2 powD (fC (.int 10)) (fC (.int 20))) (aNil))))))))) (aNil)))))
def F__law_kind_drawn : FF := runF 2 B__law_kind_drawn
def B__law_deed_drawn : SF := sSeq (sAsg (fCall 2 F__law_take (aCons (fVar 0) (aCons (fC (.int 9)) (aNil)))) (gN 2)) (sSeq (sAsg (fCall 2 F__law_one (aCons (fVar 0) (aCons (fLst (aCons (fCall 2 F__law_take (aCons (fVar 0) (aCons (fC (.int 13)) (aNil)))) (aCons (fCall 1 F__law_pd_great (aCons (fVar 0) (aNil))) (aCons (f2 powD (fC (.int 10)) (fC (.int 30))) (aCons (fC (.int 0)) (aCons (f1 negD (fC (.int 1))) (aCons (f2 addD (f2 powD (fC (.int 10)) (fC (.int 30))) (fC (.int 1))) (aCons (fC (.bl true)) (aCons (fC .non) (aCons (fC (.str "5")) (aNil))))))))))) (aNil)))) (gN 3)) (sSeq (sIf (bV (f2 ltD (fVar 2) (fC (.int 2)))) (sRet (fTup (aCons (fC (.str "with_many")) (aCons (fCall 2 F__law_kind_drawn (aCons (fVar 0) (aCons (fVar 1) (aNil)))) (aCons (fVar 3) (aNil)))))) (sNil)) (sSeq (sIf (bV (f2 ltD (fVar 2) (fC (.int 4)))) (sSeq (sAsg (fCall 2 F__law_pd_values (aCons (fVar 0) (aCons (fC (.int 6)) (aNil)))) (gN 4)) (sRet (fTup (aCons (fC (.str "with_kind")) (aCons (fCall 2 F__law_one (aCons (fVar 0) (aCons (fLst (aCons (fVar 4) (aCons (fVar 4) (aCons (fVar 4) (aCons (fB listQ (aCons (fVar 4) (aNil))) (aCons (fTup (aCons (fC .non) (aNil))) (aCons (f2 addD (fVar 4) (fTup (aCons (fC .non) (aNil)))) (aCons (fTup (aCons (fC (.bl true)) (aNil))) (aCons (fC .non) (aNil)))))))))) (aNil)))) (aCons (fVar 3) (aNil))))))) (sNil)) (sSeq (sIf (bV (f2 eqD (fVar 2) (fC (.int 4)))) (sRet (fTup (aCons (fC (.str "without_kind")) (aCons (fCall 2 F__law_kind_drawn (aCons (fVar 0) (aCons (fVar 1) (aNil)))) (aNil))))) (sNil)) (sSeq (sIf (bV (f2 ltD (fVar 2) (fC (.int 7)))) (sSeq (sAsg (fIx (fIx (fVar 1) (fCall 2 F__law_take (aCons (fVar 0) (aCons (fB lenD (aCons (fVar 1) (aNil))) (aNil))))) (fC (.int 0))) (gN 4)) (sSeq (sAsg (fCall 2 F__law_one (aCons (fVar 0) (aCons (fLst (aCons (fCall 2 F__law_take (aCons (fVar 0) (aCons (fB lenD (aCons (fVar 4) (aNil))) (aNil)))) (aCons (f2 subD (fB lenD (aCons (fVar 4) (aNil))) (fC (.int 1))) (aCons (fCall 1 F__law_pu_least_of (aCons (fVar 4) (aNil))) (aCons (f2 subD (fCall 1 F__law_pu_least_of (aCons (fVar 4) (aNil))) (fC (.int 1))) (aCons (fB lenD (aCons (fVar 4) (aNil))) (aCons (fC (.bl true)) (aCons (fC .non) (aCons (fC (.str "1")) (aNil)))))))))) (aNil)))) (gN 5)) (sRet (fTup (aCons (fC (.str "cut")) (aCons (fCall 2 F__law_kind_drawn (aCons (fVar 0) (aCons (fVar 1) (aNil)))) (aCons (fVar 5) (aNil)))))))) (sNil)) (sRet (fTup (aCons (fC (.str "share")) (aCons (fCall 2 F__law_one (aCons (fVar 0) (aCons (fLst (aCons (fC (.int 1)) (aCons (fC (.int 2)) (aCons (fC (.int 3)) (aCons (fC (.int 4)) (aCons (fC (.int 5)) (aCons (fC (.int 10)) (aCons (fC (.int 1000)) (aCons (fC (.int 0)) (aCons (fC (.int 1001)) (aCons (f1 negD (fC (.int 2))) (aCons (fC (.bl true)) (aCons (fC .non) (aCons (fC (.str "2")) (aCons (fTup (aCons (fC (.int 2)) (aNil))) (aNil)))))))))))))))) (aNil)))) (aNil))))))))))
def F__law_deed_drawn : FF := runF 6 B__law_deed_drawn
def B__law_deed_right : SF := sSeq (sAsg (fTup (aCons (fCall 1 F__law_pd_made (aCons (fVar 0) (aNil))) (aCons (fCall 2 F__law_owed_of (aCons (fVar 0) (aCons (fVar 1) (aNil)))) (aNil)))) (gT 2 (gsCons (gN 2) (gsCons (gN 3) (gsNil))))) (sSeq (sAsg (fHeard good (fCall 2 F__law_done_to (aCons (fVar 2) (aCons (fVar 1) (aNil))))) (gN 4)) (sSeq (sIf (bNot (bT (fCall 2 F__law_is_crew_of (aCons (fVar 2) (aCons (fVar 0) (aNil)))))) (sRet (fC .non)) (sNil)) (sSeq (sIf (bV (f2 neD (fIx (fVar 3) (fC (.int 0))) (fC (.str "told")))) (sRet (fIf (bT (fCall 2 F__law_same (aCons (fVar 4) (aCons (fVar 3) (aNil))))) (fVar 0) (fC .non))) (sNil)) (sRet (fIf (bAnd (bV (f2 eqD (fIx (fVar 4) (fC (.int 0))) (fC (.str "told")))) (bT (fCall 2 F__law_is_crew_of (aCons (fIx (fVar 4) (fC (.int 1))) (aCons (fIx (fVar 3) (fC (.int 1))) (aNil)))))) (fIx (fVar 3) (fC (.int 1))) (fC .non))))))
def F__law_deed_right : FF := runF 5 B__law_deed_right
def B__law_full_right : SF := sSeq (sAsg (fSl (f2 addD (f2 addD (fVar 1) (fVar 1)) (fVar 1)) oNone (oSome (fC (.int 3)))) (gN 2)) (sSeq (sAsg (fTup (aCons (fCall 1 F__law_pd_made (aCons (fVar 2) (aNil))) (aCons (fCall 2 F__law_pd_values (aCons (fVar 0) (aCons (fC (.int 4)) (aNil)))) (aNil)))) (gT 2 (gsCons (gN 3) (gsCons (gN 4) (gsNil))))) (sSeq (sIf (bNot (bT (fRefs good F__law_same (fMeth "Crew" "with_kind" 2 F_Crew_with_kind (fVar 3) (aCons (fVar 4) (aCons (fC (.int 1)) (aNil)))) (fC (.str "TooMany")) (fC (.int 3))))) (sRet (fC (.bl false))) (sNil)) (sSeq (sIf (bNot (bT (fRefs good F__law_same (fMeth "Crew" "with_kind" 2 F_Crew_with_kind (fVar 3) (aCons (fVar 4) (aCons (f1 negD (fC (.int 1))) (aNil)))) (fC (.str "InvalidNumber")) (f1 negD (fC (.int 1)))))) (sRet (fC (.bl false))) (sNil)) (sSeq (sIf (bNot (bT (fRefs good F__law_same (fMeth "Crew" "with_kind" 2 F_Crew_with_kind (fVar 3) (aCons (fLst (aNil)) (aCons (f1 negD (fC (.int 1))) (aNil)))) (fC (.str "InvalidCrew")) (fLst (aNil))))) (sRet (fC (.bl false))) (sNil)) (sSeq (sAsg (fCall 2 F__law_one (aCons (fVar 0) (aCons (fLst (aCons (fC (.int 1)) (aCons (fC (.int 2)) (aCons (fC (.int 3)) (aCons (fC (.int 7)) (aCons (fC (.int 12)) (aCons (fC (.int 1000)) (aNil)))))))) (aNil)))) (gN 5)) (sSeq (sAsg (fB tupleQ (aCons (fComp [6, 7] (iQ (fVar 1)) (gT 2 (gsCons (gN 6) (gsCons (gN 7) (gsNil)))) (bTrue) (fTup (aCons (fVar 6) (aCons (f2 mulD (fB minD (aCons (fB intD (aCons (fVar 7) (aNil))) (aCons (f2 powD (fC (.int 10)) (fC (.int 26))) (aNil)))) (fVar 5)) (aNil))))) (aNil))) (gN 8)) (sRet (f2 eqD (fCall 2 F__law_deed_right (aCons (fVar 8) (aCons (fTup (aCons (fC (.str "share")) (aCons (fVar 5) (aNil)))) (aNil)))) (fB tupleQ (aCons (fComp [6, 7] (iQ (fVar 1)) (gT 2 (gsCons (gN 6) (gsCons (gN 7) (gsNil)))) (bTrue) (fTup (aCons (fVar 6) (aCons (fB minD (aCons (fB intD (aCons (fVar 7) (aNil))) (aCons (f2 powD (fC (.int 10)) (fC (.int 26))) (aNil)))) (aNil))))) (aNil)))))))))))
def F__law_full_right : FF := runF 9 B__law_full_right
def B_law : SF := sSeq (sAsg (fC .non) (gN 1)) (sSeq (sFor (iR1 (aCons (fC (.int 3)) (aNil))) (gN 2) (sSeq (sAsg (fCall 3 F__law_pu_jar_on (aCons (fVar 0) (aCons (fVar 2) (aCons (fVar 1) (aNil))))) (gN 1)) (sSeq (sAsg (fCall 2 F__law_one (aCons (fVar 1) (aCons (fLst (aCons (fCall 1 F__law_pd_some_crew (aCons (fVar 1) (aNil))) (aCons (fCall 2 F__law_pd_great_crew (aCons (fVar 1) (aCons (fC (.int 6)) (aNil)))) (aNil)))) (aNil)))) (gN 3)) (sSeq (sFor (iR1 (aCons (fC (.int 16)) (aNil))) (gN 4) (sSeq (sAsg (fCall 2 F__law_deed_right (aCons (fVar 3) (aCons (fCall 2 F__law_deed_drawn (aCons (fVar 1) (aCons (fVar 3) (aNil)))) (aNil)))) (gN 3)) (sIf (bV (f2 isD (fVar 3) (fC .non))) (sRet (fC (.bl false))) (sNil)))) (sIf (bNot (bT (fCall 2 F__law_full_right (aCons (fVar 1) (aCons (fVar 3) (aNil)))))) (sRet (fC (.bl false))) (sNil)))))) (sRet (fC (.bl true))))
def F_law : FF := runF 5 B_law
end K01
/-! what the except suite makes, Crew's __init__ does not look at self -/
namespace K01
open PySem PySem.Spec PyProof.Rows L2 PF
theorem fIsX_at {a d : Addr} {b : Bool} {f : EF} {σ : Stt} {S : Sto} {c : Str} {fs : List (Str × D)} (h : f σ S = .ok (.exn a d c fs) S) : fIsX a d b f σ S = .ok (.bl b) S := by
  unfold fIsX
  rw [h]
  show (if a = a ∧ d = d then _ else _) = _
  rw [if_pos ⟨rfl, rfl⟩]
theorem fXf_at {a d : Addr} {f : Str} {g : EF} {σ : Stt} {S : Sto} {c : Str} {fs : List (Str × D)} {v : D} (h : g σ S = .ok (.exn a d c fs) S) (hl : fs.lookup f = some v) : fXf a d f g σ S = .ok v S := by
  unfold fXf
  rw [h]
  show (if a = a ∧ d = d then (match fs.lookup f with | some u => Res.ok u S | none => .bad) else _) = _
  rw [if_pos ⟨rfl, rfl⟩, hl]
theorem row_at9 {a d : Addr} {c n : Str} {x y : Option D} {fs : List (Str × D)} {S : Sto} {f : EF} {σ : Stt} (h : f σ S = .ok (.exn a d c fs) S) (b : Bool) :
    fTup (aCons (fC (.str n)) (aCons (fIsX a d b f) aNil)) σ S = .ok (.tup [.str n, .bl b]) S := by
  unfold fTup aCons fC
  simp only [Res.bind, fIsX_at h, aNil]
  rfl
theorem nxb {σ : Stt} {S : Sto} {g : Stt → Sto → Out} : (Out.nx σ S).bind g = g σ S := rfl
theorem hR_InvalidCrew : ∀ (f aa dd : Addr) (v : D) (S : Sto), B__law_pu_heard_suite aa dd "InvalidCrew" ((startD 4 [.raw (.ref f)]).set 1 (some (.exn aa dd "InvalidCrew" [("value", v)]))) S = .rt (.tup [.str "InvalidCrew", v]) S := by
  intro f aa dd v S
  have e1 : fVar 0 (startD 1 [.exn aa dd "InvalidCrew" [("value", v)]]) S = .ok (.exn aa dd "InvalidCrew" [("value", v)]) S := rfl
  have e2 : runF 1 (B__law_pu_classes aa dd "InvalidCrew") [.exn aa dd "InvalidCrew" [("value", v)]] S = .ok (.lst (xnames.map fun x => .tup [.str x, .bl (decide (x = "InvalidCrew"))])) S := by
    show Out.res (B__law_pu_classes aa dd "InvalidCrew" (startD 1 [.exn aa dd "InvalidCrew" [("value", v)]]) S) = _
    unfold B__law_pu_classes sRet fLst
    simp only [aCons, row_at9 (x := none) (y := none) e1, Res.bind, aNil]
    rfl
  have e3 : fHotC (fCall 1 (runF 1 (B__law_pu_classes aa dd "InvalidCrew")) (aCons (fVar 1) aNil)) [some (.raw (.ref f)), some (.exn aa dd "InvalidCrew" [("value", v)]), none, none] S = .ok (.lst [.str "InvalidCrew"]) S := by
    have e4 : fCall 1 (runF 1 (B__law_pu_classes aa dd "InvalidCrew")) (aCons (fVar 1) aNil) [some (.raw (.ref f)), some (.exn aa dd "InvalidCrew" [("value", v)]), none, none] S = .ok (.lst (xnames.map fun x => .tup [.str x, .bl (decide (x = "InvalidCrew"))])) S := e2
    unfold fHotC
    rw [e4]
    kernel_rfl
  have e5 : runF 2 (B__law_pu_field aa dd "InvalidCrew") [.str "InvalidCrew", .exn aa dd "InvalidCrew" [("value", v)]] S = .ok v S := by
    have k : fXf aa dd "value" (fVar 1) (startD 2 [.str "InvalidCrew", .exn aa dd "InvalidCrew" [("value", v)]]) S = .ok v S := fXf_at rfl (by kernel_rfl)
    show Out.res (B__law_pu_field aa dd "InvalidCrew" (startD 2 [.str "InvalidCrew", .exn aa dd "InvalidCrew" [("value", v)]]) S) = _
    have t1 : ∀ g : SF, sIf (bV (f2 eqD (fVar 0) (fC (.str "ParseError")))) g sNil (startD 2 [.str "InvalidCrew", .exn aa dd "InvalidCrew" [("value", v)]]) S = .nx (startD 2 [.str "InvalidCrew", .exn aa dd "InvalidCrew" [("value", v)]]) S := fun g => by kernel_rfl
    have t2 : ∀ g : SF, sIf (bV (f2 eqD (fVar 0) (fC (.str "TooMany")))) g sNil (startD 2 [.str "InvalidCrew", .exn aa dd "InvalidCrew" [("value", v)]]) S = .nx (startD 2 [.str "InvalidCrew", .exn aa dd "InvalidCrew" [("value", v)]]) S := fun g => by kernel_rfl
    have t3 : ∀ g : SF, sIf (bOr (bV (f2 inD (fVar 0) (fLst (aCons (fC (.str "NothingToRedo")) (aCons (fC (.str "NothingToUndo")) (aCons (fC (.str "")) (aNil))))))) (bV (f2 inD (fC (.str " ")) (fVar 0)))) g sNil (startD 2 [.str "InvalidCrew", .exn aa dd "InvalidCrew" [("value", v)]]) S = .nx (startD 2 [.str "InvalidCrew", .exn aa dd "InvalidCrew" [("value", v)]]) S := fun g => by kernel_rfl
    unfold B__law_pu_field sSeq
    rw [t1, nxb]
    rw [t2, nxb]
    rw [t3, nxb]
    show Out.res ((fXf aa dd "value" (fVar 1) _ S).out _ _) = _
    rw [k]
    rfl
  show B__law_pu_heard_suite aa dd "InvalidCrew" [some (.raw (.ref f)), some (.exn aa dd "InvalidCrew" [("value", v)]), none, none] S = _
  have e6 : fJoin (fC (.str " ")) (fHotC (fCall 1 (runF 1 (B__law_pu_classes aa dd "InvalidCrew")) (aCons (fVar 1) aNil))) [some (.raw (.ref f)), some (.exn aa dd "InvalidCrew" [("value", v)]), none, none] S = .ok (.str "InvalidCrew") S := by
    show Res.bind (fHotC _ _ S) _ = _
    rw [e3]
    kernel_rfl
  unfold B__law_pu_heard_suite sSeq sAsg
  rw [e6]
  show ((fTup (aCons (fVar 3) (aCons (fCall 2 (runF 2 (B__law_pu_field aa dd "InvalidCrew")) (aCons (fVar 3) (aCons (fVar 1) aNil))) aNil))) [some (.raw (.ref f)), some (.exn aa dd "InvalidCrew" [("value", v)]), none, some (.str "InvalidCrew")] S).out _ _ = _
  have e7 : fCall 2 (runF 2 (B__law_pu_field aa dd "InvalidCrew")) (aCons (fVar 3) (aCons (fVar 1) aNil)) [some (.raw (.ref f)), some (.exn aa dd "InvalidCrew" [("value", v)]), none, some (.str "InvalidCrew")] S = .ok v S := e5
  unfold fTup
  have e8 : aCons (fVar 3) (aCons (fCall 2 (runF 2 (B__law_pu_field aa dd "InvalidCrew")) (aCons (fVar 3) (aCons (fVar 1) aNil))) aNil) [some (.raw (.ref f)), some (.exn aa dd "InvalidCrew" [("value", v)]), none, some (.str "InvalidCrew")] S = .ok [.str "InvalidCrew", v] S := by
    unfold aCons
    show Res.bind (Res.ok (D.str "InvalidCrew") S) _ = _
    show Res.bind (Res.bind _ _) _ = _
    have e9 : (fCall 2 (runF 2 (B__law_pu_field aa dd "InvalidCrew")) fun σ S => (fVar 3 σ S).bind fun x S1 => Res.bind ((fun σ S => (fVar 1 σ S).bind fun x S1 => (aNil σ S1).bind fun xs S2 => Res.ok (x :: xs) S2) σ S1) fun xs S2 => Res.ok (x :: xs) S2) [some (.raw (.ref f)), some (.exn aa dd "InvalidCrew" [("value", v)]), none, some (.str "InvalidCrew")] S = .ok v S := e7
    rw [e9]
    rfl
  rw [e8]
  rfl
theorem hR_InvalidNumber : ∀ (f aa dd : Addr) (v : D) (S : Sto), B__law_pu_heard_suite aa dd "InvalidNumber" ((startD 4 [.raw (.ref f)]).set 1 (some (.exn aa dd "InvalidNumber" [("value", v)]))) S = .rt (.tup [.str "InvalidNumber", v]) S := by
  intro f aa dd v S
  have e1 : fVar 0 (startD 1 [.exn aa dd "InvalidNumber" [("value", v)]]) S = .ok (.exn aa dd "InvalidNumber" [("value", v)]) S := rfl
  have e2 : runF 1 (B__law_pu_classes aa dd "InvalidNumber") [.exn aa dd "InvalidNumber" [("value", v)]] S = .ok (.lst (xnames.map fun x => .tup [.str x, .bl (decide (x = "InvalidNumber"))])) S := by
    show Out.res (B__law_pu_classes aa dd "InvalidNumber" (startD 1 [.exn aa dd "InvalidNumber" [("value", v)]]) S) = _
    unfold B__law_pu_classes sRet fLst
    simp only [aCons, row_at9 (x := none) (y := none) e1, Res.bind, aNil]
    rfl
  have e3 : fHotC (fCall 1 (runF 1 (B__law_pu_classes aa dd "InvalidNumber")) (aCons (fVar 1) aNil)) [some (.raw (.ref f)), some (.exn aa dd "InvalidNumber" [("value", v)]), none, none] S = .ok (.lst [.str "InvalidNumber"]) S := by
    have e4 : fCall 1 (runF 1 (B__law_pu_classes aa dd "InvalidNumber")) (aCons (fVar 1) aNil) [some (.raw (.ref f)), some (.exn aa dd "InvalidNumber" [("value", v)]), none, none] S = .ok (.lst (xnames.map fun x => .tup [.str x, .bl (decide (x = "InvalidNumber"))])) S := e2
    unfold fHotC
    rw [e4]
    kernel_rfl
  have e5 : runF 2 (B__law_pu_field aa dd "InvalidNumber") [.str "InvalidNumber", .exn aa dd "InvalidNumber" [("value", v)]] S = .ok v S := by
    have k : fXf aa dd "value" (fVar 1) (startD 2 [.str "InvalidNumber", .exn aa dd "InvalidNumber" [("value", v)]]) S = .ok v S := fXf_at rfl (by kernel_rfl)
    show Out.res (B__law_pu_field aa dd "InvalidNumber" (startD 2 [.str "InvalidNumber", .exn aa dd "InvalidNumber" [("value", v)]]) S) = _
    have t1 : ∀ g : SF, sIf (bV (f2 eqD (fVar 0) (fC (.str "ParseError")))) g sNil (startD 2 [.str "InvalidNumber", .exn aa dd "InvalidNumber" [("value", v)]]) S = .nx (startD 2 [.str "InvalidNumber", .exn aa dd "InvalidNumber" [("value", v)]]) S := fun g => by kernel_rfl
    have t2 : ∀ g : SF, sIf (bV (f2 eqD (fVar 0) (fC (.str "TooMany")))) g sNil (startD 2 [.str "InvalidNumber", .exn aa dd "InvalidNumber" [("value", v)]]) S = .nx (startD 2 [.str "InvalidNumber", .exn aa dd "InvalidNumber" [("value", v)]]) S := fun g => by kernel_rfl
    have t3 : ∀ g : SF, sIf (bOr (bV (f2 inD (fVar 0) (fLst (aCons (fC (.str "NothingToRedo")) (aCons (fC (.str "NothingToUndo")) (aCons (fC (.str "")) (aNil))))))) (bV (f2 inD (fC (.str " ")) (fVar 0)))) g sNil (startD 2 [.str "InvalidNumber", .exn aa dd "InvalidNumber" [("value", v)]]) S = .nx (startD 2 [.str "InvalidNumber", .exn aa dd "InvalidNumber" [("value", v)]]) S := fun g => by kernel_rfl
    unfold B__law_pu_field sSeq
    rw [t1, nxb]
    rw [t2, nxb]
    rw [t3, nxb]
    show Out.res ((fXf aa dd "value" (fVar 1) _ S).out _ _) = _
    rw [k]
    rfl
  show B__law_pu_heard_suite aa dd "InvalidNumber" [some (.raw (.ref f)), some (.exn aa dd "InvalidNumber" [("value", v)]), none, none] S = _
  have e6 : fJoin (fC (.str " ")) (fHotC (fCall 1 (runF 1 (B__law_pu_classes aa dd "InvalidNumber")) (aCons (fVar 1) aNil))) [some (.raw (.ref f)), some (.exn aa dd "InvalidNumber" [("value", v)]), none, none] S = .ok (.str "InvalidNumber") S := by
    show Res.bind (fHotC _ _ S) _ = _
    rw [e3]
    kernel_rfl
  unfold B__law_pu_heard_suite sSeq sAsg
  rw [e6]
  show ((fTup (aCons (fVar 3) (aCons (fCall 2 (runF 2 (B__law_pu_field aa dd "InvalidNumber")) (aCons (fVar 3) (aCons (fVar 1) aNil))) aNil))) [some (.raw (.ref f)), some (.exn aa dd "InvalidNumber" [("value", v)]), none, some (.str "InvalidNumber")] S).out _ _ = _
  have e7 : fCall 2 (runF 2 (B__law_pu_field aa dd "InvalidNumber")) (aCons (fVar 3) (aCons (fVar 1) aNil)) [some (.raw (.ref f)), some (.exn aa dd "InvalidNumber" [("value", v)]), none, some (.str "InvalidNumber")] S = .ok v S := e5
  unfold fTup
  have e8 : aCons (fVar 3) (aCons (fCall 2 (runF 2 (B__law_pu_field aa dd "InvalidNumber")) (aCons (fVar 3) (aCons (fVar 1) aNil))) aNil) [some (.raw (.ref f)), some (.exn aa dd "InvalidNumber" [("value", v)]), none, some (.str "InvalidNumber")] S = .ok [.str "InvalidNumber", v] S := by
    unfold aCons
    show Res.bind (Res.ok (D.str "InvalidNumber") S) _ = _
    show Res.bind (Res.bind _ _) _ = _
    have e9 : (fCall 2 (runF 2 (B__law_pu_field aa dd "InvalidNumber")) fun σ S => (fVar 3 σ S).bind fun x S1 => Res.bind ((fun σ S => (fVar 1 σ S).bind fun x S1 => (aNil σ S1).bind fun xs S2 => Res.ok (x :: xs) S2) σ S1) fun xs S2 => Res.ok (x :: xs) S2) [some (.raw (.ref f)), some (.exn aa dd "InvalidNumber" [("value", v)]), none, some (.str "InvalidNumber")] S = .ok v S := e7
    rw [e9]
    rfl
  rw [e8]
  rfl
theorem hR_TooMany : ∀ (f aa dd : Addr) (v : D) (S : Sto), B__law_pu_heard_suite aa dd "TooMany" ((startD 4 [.raw (.ref f)]).set 1 (some (.exn aa dd "TooMany" [("limit", v)]))) S = .rt (.tup [.str "TooMany", v]) S := by
  intro f aa dd v S
  have e1 : fVar 0 (startD 1 [.exn aa dd "TooMany" [("limit", v)]]) S = .ok (.exn aa dd "TooMany" [("limit", v)]) S := rfl
  have e2 : runF 1 (B__law_pu_classes aa dd "TooMany") [.exn aa dd "TooMany" [("limit", v)]] S = .ok (.lst (xnames.map fun x => .tup [.str x, .bl (decide (x = "TooMany"))])) S := by
    show Out.res (B__law_pu_classes aa dd "TooMany" (startD 1 [.exn aa dd "TooMany" [("limit", v)]]) S) = _
    unfold B__law_pu_classes sRet fLst
    simp only [aCons, row_at9 (x := none) (y := none) e1, Res.bind, aNil]
    rfl
  have e3 : fHotC (fCall 1 (runF 1 (B__law_pu_classes aa dd "TooMany")) (aCons (fVar 1) aNil)) [some (.raw (.ref f)), some (.exn aa dd "TooMany" [("limit", v)]), none, none] S = .ok (.lst [.str "TooMany"]) S := by
    have e4 : fCall 1 (runF 1 (B__law_pu_classes aa dd "TooMany")) (aCons (fVar 1) aNil) [some (.raw (.ref f)), some (.exn aa dd "TooMany" [("limit", v)]), none, none] S = .ok (.lst (xnames.map fun x => .tup [.str x, .bl (decide (x = "TooMany"))])) S := e2
    unfold fHotC
    rw [e4]
    kernel_rfl
  have e5 : runF 2 (B__law_pu_field aa dd "TooMany") [.str "TooMany", .exn aa dd "TooMany" [("limit", v)]] S = .ok v S := by
    have k : fXf aa dd "limit" (fVar 1) (startD 2 [.str "TooMany", .exn aa dd "TooMany" [("limit", v)]]) S = .ok v S := fXf_at rfl (by kernel_rfl)
    show Out.res (B__law_pu_field aa dd "TooMany" (startD 2 [.str "TooMany", .exn aa dd "TooMany" [("limit", v)]]) S) = _
    have t1 : ∀ g : SF, sIf (bV (f2 eqD (fVar 0) (fC (.str "ParseError")))) g sNil (startD 2 [.str "TooMany", .exn aa dd "TooMany" [("limit", v)]]) S = .nx (startD 2 [.str "TooMany", .exn aa dd "TooMany" [("limit", v)]]) S := fun g => by kernel_rfl
    unfold B__law_pu_field sSeq
    rw [t1, nxb]
    have t2 : sIf (bV (f2 eqD (fVar 0) (fC (.str "TooMany")))) (sRet (fXf aa dd "limit" (fVar 1))) sNil (startD 2 [.str "TooMany", .exn aa dd "TooMany" [("limit", v)]]) S = .rt v S := by
      have z : bV (f2 eqD (fVar 0) (fC (.str "TooMany"))) (startD 2 [.str "TooMany", .exn aa dd "TooMany" [("limit", v)]]) S = .ok true S := by kernel_rfl
      unfold sIf
      rw [z]
      show (sRet _ _ _) = _
      unfold sRet
      rw [k]
      rfl
    rw [t2]
    rfl
  show B__law_pu_heard_suite aa dd "TooMany" [some (.raw (.ref f)), some (.exn aa dd "TooMany" [("limit", v)]), none, none] S = _
  have e6 : fJoin (fC (.str " ")) (fHotC (fCall 1 (runF 1 (B__law_pu_classes aa dd "TooMany")) (aCons (fVar 1) aNil))) [some (.raw (.ref f)), some (.exn aa dd "TooMany" [("limit", v)]), none, none] S = .ok (.str "TooMany") S := by
    show Res.bind (fHotC _ _ S) _ = _
    rw [e3]
    kernel_rfl
  unfold B__law_pu_heard_suite sSeq sAsg
  rw [e6]
  show ((fTup (aCons (fVar 3) (aCons (fCall 2 (runF 2 (B__law_pu_field aa dd "TooMany")) (aCons (fVar 3) (aCons (fVar 1) aNil))) aNil))) [some (.raw (.ref f)), some (.exn aa dd "TooMany" [("limit", v)]), none, some (.str "TooMany")] S).out _ _ = _
  have e7 : fCall 2 (runF 2 (B__law_pu_field aa dd "TooMany")) (aCons (fVar 3) (aCons (fVar 1) aNil)) [some (.raw (.ref f)), some (.exn aa dd "TooMany" [("limit", v)]), none, some (.str "TooMany")] S = .ok v S := e5
  unfold fTup
  have e8 : aCons (fVar 3) (aCons (fCall 2 (runF 2 (B__law_pu_field aa dd "TooMany")) (aCons (fVar 3) (aCons (fVar 1) aNil))) aNil) [some (.raw (.ref f)), some (.exn aa dd "TooMany" [("limit", v)]), none, some (.str "TooMany")] S = .ok [.str "TooMany", v] S := by
    unfold aCons
    show Res.bind (Res.ok (D.str "TooMany") S) _ = _
    show Res.bind (Res.bind _ _) _ = _
    have e9 : (fCall 2 (runF 2 (B__law_pu_field aa dd "TooMany")) fun σ S => (fVar 3 σ S).bind fun x S1 => Res.bind ((fun σ S => (fVar 1 σ S).bind fun x S1 => (aNil σ S1).bind fun xs S2 => Res.ok (x :: xs) S2) σ S1) fun xs S2 => Res.ok (x :: xs) S2) [some (.raw (.ref f)), some (.exn aa dd "TooMany" [("limit", v)]), none, some (.str "TooMany")] S = .ok v S := e7
    rw [e9]
    rfl
  rw [e8]
  rfl
theorem hR : ∀ (f : Addr) (c fl : Str), (c, fl) ∈ good → ∀ aa dd v S, B__law_pu_heard_suite aa dd c ((startD 4 [.raw (.ref f)]).set 1 (some (.exn aa dd c [(fl, v)]))) S = .rt (.tup [.str c, v]) S := by
  intro f c fl hm aa dd v S
  simp only [good, List.mem_cons, List.not_mem_nil, or_false, Prod.mk.injEq] at hm
  rcases hm with ⟨rfl, rfl⟩ | ⟨rfl, rfl⟩ | ⟨rfl, rfl⟩
  · exact hR_InvalidCrew f aa dd v S
  · exact hR_InvalidNumber f aa dd v S
  · exact hR_TooMany f aa dd v S
end K01
/-! functions that do not look at the slot 0 -/
namespace PF
open PySem PySem.Spec PyProof.Rows L2
def m0 (u : Option D) (σ : Stt) : Stt := σ.set 0 u
/-- e does not look at the slot 0 -/
def Ind {β : Type} (e : Stt → Sto → Res β) : Prop := ∀ u σ S, e (m0 u σ) S = e σ S
def Out.on (f : Stt → Stt) : Out → Out
  | .nx σ S => .nx (f σ) S
  | .rt d S => .rt d S
  | .bk σ S => .bk (f σ) S
  | .ct σ S => .ct (f σ) S
  | .exc σ c fs S => .exc (f σ) c fs S
  | .bad => .bad
def IndS (s : SF) : Prop := ∀ u σ S, s (m0 u σ) S = (s σ S).on (m0 u)
def IndG (g : GF) : Prop := ∀ u d σ, g d (m0 u σ) = (g d σ).map (m0 u)
section
variable {f g k : EF} {t t' : BF} {a b : SF} {r : AF}
theorem ind_var {i : Nat} (h : i ≠ 0) : Ind (fVar i) := fun u σ S => by
  unfold fVar m0
  rw [List.getElem?_set_ne (Ne.symm h)]
theorem ind_c {d : D} : Ind (fC d) := fun _ _ _ => rfl
theorem ind_nil : Ind aNil := fun _ _ _ => rfl
theorem ind_cons (hf : Ind f) (hr : Ind r) : Ind (aCons f r) := fun u σ S => by
  unfold aCons
  rw [hf u σ S]
  simp only [hr u σ]
theorem ind_call {n : Nat} {F : FF} (hr : Ind r) : Ind (fCall n F r) := fun u σ S => by
  unfold fCall
  rw [hr u σ S]
theorem ind_b {h : HB} (hr : Ind r) : Ind (fB h r) := fun u σ S => by
  unfold fB
  rw [hr u σ S]
theorem ind_q (hf : Ind f) : Ind (iQ f) := fun u σ S => by
  unfold iQ
  rw [hf u σ S]
theorem ind_chain {h h' : D → D → Option D} (hf : Ind f) (hg : Ind g) (hk : Ind k) : Ind (fChain h h' f g k) := fun u σ S => by
  unfold fChain
  rw [hf u σ S]
  simp only [hg u σ, hk u σ]
theorem ind_bT (hf : Ind f) : Ind (bT f) := fun u σ S => by
  unfold bT
  rw [hf u σ S]
theorem ind_bV (hf : Ind f) : Ind (bV f) := fun u σ S => by
  unfold bV
  rw [hf u σ S]
theorem ind_not (h : Ind t) : Ind (bNot t) := fun u σ S => by
  unfold bNot
  rw [h u σ S]
theorem ind_or (h : Ind t) (h' : Ind t') : Ind (bOr t t') := fun u σ S => by
  unfold bOr
  rw [h u σ S]
  simp only [h' u σ]
theorem inds_nil : IndS sNil := fun _ _ _ => rfl
theorem inds_raise {c fl : Str} (hf : Ind f) : IndS (sRaise c fl f) := fun u σ S => by
  unfold sRaise
  rw [hf u σ S]
  cases f σ S <;> rfl
theorem inds_if (h : Ind t) (ha : IndS a) (hb : IndS b) : IndS (sIf t a b) := fun u σ S => by
  unfold sIf
  rw [h u σ S]
  cases t σ S with
  | ok x S1 => cases x with
    | true => exact ha u σ S1
    | false => exact hb u σ S1
  | exc c fs S1 => rfl
  | bad => rfl
theorem inds_seq (ha : IndS a) (hb : IndS b) : IndS (sSeq a b) := fun u σ S => by
  unfold sSeq
  rw [ha u σ S]
  cases a σ S with
  | nx σ1 S1 => exact hb u σ1 S1
  | _ => rfl
theorem indg_n {i : Nat} (h : i ≠ 0) : IndG (gN i) := fun u d σ => by
  unfold gN m0
  show some _ = some _
  rw [List.set_comm _ _ (Ne.symm h)]
theorem ind_for {g : GF} (hg : IndG g) (hb : IndS b) : ∀ (ds : List D) (u : Option D) (σ : Stt) (S : Sto), forF g b ds (m0 u σ) S = (forF g b ds σ S).on (m0 u)
  | [], u, σ, S => rfl
  | d :: ds, u, σ, S => by
    unfold forF
    rw [hg u d σ]
    cases g d σ with
    | none => rfl
    | some σ1 =>
      simp only [Option.map, hb u σ1 S]
      cases e : b σ1 S with
      | nx σ2 S2 => exact ind_for hg hb ds u σ2 S2
      | ct σ2 S2 => exact ind_for hg hb ds u σ2 S2
      | _ => rfl
theorem inds_for {g : GF} (hr : Ind r) (hg : IndG g) (hb : IndS b) : IndS (sFor r g b) := fun u σ S => by
  unfold sFor
  rw [hr u σ S]
  cases r σ S with
  | ok ds S1 => exact ind_for hg hb ds u σ S1
  | _ => rfl
theorem wipe_m0 {u : Option D} {σ : Stt} : ∀ {vs : List Nat}, 0 ∉ vs → wipeD (m0 u σ) vs = m0 u (wipeD σ vs)
  | [], _ => rfl
  | v :: vs, h => by
    unfold wipeD
    rw [wipe_m0 fun z => h (List.mem_cons_of_mem _ z)]
    unfold m0
    rw [List.set_comm _ _ fun z => h (by rw [z]; exact List.mem_cons_self)]
def IndGs (g : GFs) : Prop := ∀ u d σ, g d (m0 u σ) = (g d σ).map (m0 u)
theorem indgs_nil : IndGs gsNil := fun u d σ => by cases d <;> rfl
theorem indgs_cons {g : GF} {r : GFs} (hg : IndG g) (hr : IndGs r) : IndGs (gsCons g r) := fun u d σ => by
  cases d with
  | nil => rfl
  | cons x xs =>
    show (g x (m0 u σ)).bind (r xs) = ((g x σ).bind (r xs)).map (m0 u)
    rw [hg u x σ]
    cases g x σ with
    | none => rfl
    | some σ1 => exact hr u xs σ1
theorem indg_t {n : Nat} {g : GFs} (h : IndGs g) : IndG (gT n g) := fun u d σ => by
  cases d with
  | tup l =>
    show (if l.length = n then g l (m0 u σ) else none) = (if l.length = n then g l σ else none).map (m0 u)
    split
    · exact h u l σ
    · rfl
  | _ => rfl
theorem ind_compF {g : GF} (hg : IndG g) (ht : Ind t) (hf : Ind f) : ∀ (ds : List D), Ind (compF g t f ds)
  | [], u, σ, S => rfl
  | d :: ds, u, σ, S => by
    unfold compF
    rw [hg u d σ]
    cases g d σ with
    | none => rfl
    | some σ1 =>
      simp only [Option.map, ht u σ1 S]
      cases t σ1 S with
      | ok x S1 =>
        cases x with
        | true =>
          simp only [hf u σ1 S1]
          cases f σ1 S1 with
          | ok y S2 => simp only [ind_compF hg ht hf ds u σ S2]
          | _ => rfl
        | false => exact ind_compF hg ht hf ds u σ S1
      | _ => rfl
theorem ind_true : Ind bTrue := fun _ _ _ => rfl
theorem ind_tup (h : Ind r) : Ind (fTup r) := fun u σ S => by
  unfold fTup
  rw [h u σ S]
theorem ind_comp {vs : List Nat} {g : GF} (hv : 0 ∉ vs) (hr : Ind r) (hg : IndG g) (ht : Ind t) (hf : Ind f) : Ind (fComp vs r g t f) := fun u σ S => by
  unfold fComp
  rw [hr u σ S]
  cases r σ S with
  | ok ds S1 =>
    show (match compF g t f ds (wipeD (m0 u σ) vs) S1 with | .ok ys S2 => _ | _ => _) = _
    rw [wipe_m0 hv, ind_compF hg ht hf ds u _ S1]
    rfl
  | _ => rfl
def Out.len (n : Nat) : Out → Prop
  | .nx σ _ => σ.length = n
  | .bk σ _ => σ.length = n
  | .ct σ _ => σ.length = n
  | _ => True
def LenS (s : SF) : Prop := ∀ σ S, (s σ S).len σ.length
theorem lens_nil : LenS sNil := fun _ _ => rfl
theorem lens_raise {c fl : Str} : LenS (sRaise c fl f) := fun σ S => by
  unfold sRaise
  cases f σ S <;> exact True.intro
theorem lens_if (ha : LenS a) (hb : LenS b) : LenS (sIf t a b) := fun σ S => by
  unfold sIf
  cases t σ S with
  | ok x S1 => cases x with
    | true => exact ha σ S1
    | false => exact hb σ S1
  | _ => exact True.intro
theorem lens_seq (ha : LenS a) (hb : LenS b) : LenS (sSeq a b) := fun σ S => by
  unfold sSeq
  have h := ha σ S
  cases e : a σ S with
  | nx σ1 S1 =>
    rw [e] at h
    have h2 := hb σ1 S1
    rw [show σ1.length = σ.length from h] at h2
    exact h2
  | _ => rw [e] at h; exact h
theorem len_for {g : GF} (hg : ∀ d σ σ1, g d σ = some σ1 → σ1.length = σ.length) (hb : LenS b) : ∀ (ds : List D) (σ : Stt) (S : Sto), (forF g b ds σ S).len σ.length
  | [], σ, S => rfl
  | d :: ds, σ, S => by
    unfold forF
    cases e : g d σ with
    | none => exact True.intro
    | some σ1 =>
      have h1 := hg d σ σ1 e
      have h2 := hb σ1 S
      rw [h1] at h2
      dsimp only
      cases e2 : b σ1 S with
      | nx σ2 S2 =>
        rw [e2] at h2
        have h3 := len_for hg hb ds σ2 S2
        rw [show σ2.length = σ.length from h2] at h3
        exact h3
      | ct σ2 S2 =>
        rw [e2] at h2
        have h3 := len_for hg hb ds σ2 S2
        rw [show σ2.length = σ.length from h2] at h3
        exact h3
      | bk σ2 S2 => rw [e2] at h2; exact h2
      | _ => exact True.intro
theorem lens_for {g : GF} (hg : ∀ d σ σ1, g d σ = some σ1 → σ1.length = σ.length) (hb : LenS b) : LenS (sFor r g b) := fun σ S => by
  unfold sFor
  cases r σ S with
  | ok ds S1 => exact len_for hg hb ds σ S1
  | _ => exact True.intro
theorem len_n {i : Nat} : ∀ d σ σ1, gN i d σ = some σ1 → σ1.length = σ.length := fun d σ σ1 e => by
  unfold gN at e
  cases e
  rw [List.length_set]
theorem keep0 {N : Nat} {pre : SF} {ds : List D} {S : Sto} (h : IndS pre) (hl : LenS pre) (v : V) (σ : Stt) (S1 : Sto) (e : pre (startD N (.raw v :: ds)) S = .nx σ S1) : σ[0]? = some (some (.raw v)) := by
  have h1 := h (some (.raw v)) (startD N (.raw v :: ds)) S
  have h2 := hl (startD N (.raw v :: ds)) S
  rw [show m0 (some (.raw v)) (startD N (.raw v :: ds)) = startD N (.raw v :: ds) from rfl, e] at h1
  rw [e] at h2
  have h3 : σ = m0 (some (.raw v)) σ := by
    have z : Out.nx σ S1 = Out.nx (m0 (some (.raw v)) σ) S1 := h1
    injection z
  have h4 : 0 < σ.length := by
    have z : σ.length = (startD N (.raw v :: ds)).length := h2
    rw [z]
    unfold startD
    simp
  rw [h3]
  unfold m0
  exact List.getElem?_set_self h4
/-- __init__ with no look at self -/
theorem initF_ind {N : Nat} {pre : SF} {fl : Str} {e : EF} (h : IndS pre) (hl : LenS pre) (he : Ind e) (v : V) (ds : List D) (S : Sto) : initF N pre fl e (.raw v :: ds) S = initF N pre fl e (.raw .non :: ds) S := by
  have hs : startD N (.raw v :: ds) = m0 (some (.raw v)) (startD N (.raw .non :: ds)) := rfl
  have hk : ∀ v σ S1, pre (startD N (.raw v :: ds)) S = .nx σ S1 → σ[0]? = some (some (.raw v)) := fun v σ S1 e => keep0 h hl v σ S1 e
  have hp := h (some (.raw v)) (startD N (.raw .non :: ds)) S
  unfold initF
  rw [hs, hp]
  cases e1 : pre (startD N (.raw .non :: ds)) S with
  | nx σ S1 =>
    have k1 := hk .non σ S1 e1
    have k2 : (m0 (some (.raw v)) σ)[0]? = some (some (.raw v)) := hk v _ S1 (by rw [hs, hp, e1]; rfl)
    have s1 : selfOk σ (.raw .non :: ds) = true := by
      unfold selfOk
      rw [k1]
      rfl
    have s2 : selfOk (m0 (some (.raw v)) σ) (.raw v :: ds) = true := by
      unfold selfOk
      rw [k2]
      exact decide_eq_true rfl
    simp only [Out.on, s1, s2, if_true, he _ _ _]
  | _ => rfl
end
end PF
namespace K01
open PySem PySem.Spec PyProof.Rows L2 PF
theorem hind_crew (v : V) (ds : List D) (S : Sto) (_h : ds.length = 1) : F_Crew (.raw v :: ds) S = F_Crew (.raw .non :: ds) S := by
  have n1 : (1 : Nat) ≠ 0 := by decide
  have n2 : (2 : Nat) ≠ 0 := by decide
  have n3 : (3 : Nat) ≠ 0 := by decide
  have n4 : (4 : Nat) ≠ 0 := by decide
  unfold F_Crew
  refine initF_ind (inds_seq (inds_if (ind_or (ind_not (ind_bT (ind_call (ind_cons (ind_var n1) ind_nil)))) (ind_not (ind_bV (ind_chain ind_c (ind_b (ind_cons (ind_var n1) ind_nil)) ind_c)))) (inds_raise (ind_var n1)) inds_nil) (inds_for (ind_q (ind_var n1)) (indg_n n2) (inds_if (ind_not (ind_bT (ind_call (ind_cons (ind_var n2) ind_nil)))) (inds_raise (ind_var n2)) inds_nil)))
    (lens_seq (lens_if lens_raise lens_nil) (lens_for len_n (lens_if lens_raise lens_nil))) (ind_b (ind_cons (ind_comp (by decide) (ind_q (ind_var n1)) (indg_t (indgs_cons (indg_n n3) (indgs_cons (indg_n n4) indgs_nil))) ind_true (ind_tup (ind_cons (ind_var n3) (ind_cons (ind_var n4) ind_nil)))) ind_nil)) v ds S
end K01
/-! the walk of each def (printed by gen.py) -/
namespace K01
open PySem PySem.Spec PyProof.Rows L2 PF
def top (i : Nat) : Stmt := PySem.Challenge.pw_poolupto_k03_crews_altered.main.body.getD i (.Pass ⟨0, 0, 0, 0⟩)
structure Txt (P : Program) (K : PySem.W.Frag) (mg : Str → Option Value) (base : Heap) : Prop where
  tb : TabsB K mg base
  xc : XcT K mg xnames good
  nm : ∀ x ∈ xnames, ∃ C, mg x = some (.ref C)
  b_abs : mg "abs" = none
  b_all : mg "all" = none
  b_any : mg "any" = none
  b_bool : mg "bool" = none
  b_dict : mg "dict" = none
  b_int : mg "int" = none
  b_isinstance : mg "isinstance" = none
  b_len : mg "len" = none
  b_list : mg "list" = none
  b_max : mg "max" = none
  b_min : mg "min" = none
  b_range : mg "range" = none
  b_sorted : mg "sorted" = none
  b_str : mg "str" = none
  b_sum : mg "sum" = none
  b_tuple : mg "tuple" = none
  i_MOST_ENTRIES : ∃ t, mg "MOST_ENTRIES" = some (.int 41 t)
  i_MOST_KINDS : ∃ t, mg "MOST_KINDS" = some (.int 3 t)
  i_MOST_MANY : ∃ t, mg "MOST_MANY" = some (.int 1000000000000000000000000000000 t)
  i_MOST_OFFICES : ∃ t, mg "MOST_OFFICES" = some (.int 1000 t)
  d_is_integer : DefAt K mg "is_integer" (top 1)
  d_is_between : DefAt K mg "is_between" (top 2)
  d_is_row : DefAt K mg "is_row" (top 3)
  d_least_of : DefAt K mg "least_of" (top 31)
  d_quota_of : DefAt K mg "quota_of" (top 32)
  d_span_of : DefAt K mg "span_of" (top 33)
  d_is_values : DefAt K mg "is_values" (top 34)
  d_is_many : DefAt K mg "is_many" (top 35)
  d_is_kind : DefAt K mg "is_kind" (top 36)
  d_look_at_many : DefAt K mg "look_at_many" (top 37)
  d__law_is_whole : DefAt K mg "_law_is_whole" (top 40)
  d__law_pool : DefAt K mg "_law_pool" (top 47)
  d__law_take : DefAt K mg "_law_take" (top 48)
  d__law_one : DefAt K mg "_law_one" (top 49)
  d__law_pu_is_values : DefAt K mg "_law_pu_is_values" (top 50)
  d__law_pd_values : DefAt K mg "_law_pd_values" (top 51)
  d__law_pd_leap : DefAt K mg "_law_pd_leap" (top 52)
  d__law_pd_many : DefAt K mg "_law_pd_many" (top 53)
  d__law_pd_great : DefAt K mg "_law_pd_great" (top 54)
  d__law_pd_crew : DefAt K mg "_law_pd_crew" (top 55)
  d__law_pd_some_crew : DefAt K mg "_law_pd_some_crew" (top 56)
  d__law_pd_great_crew : DefAt K mg "_law_pd_great_crew" (top 57)
  d__law_same : DefAt K mg "_law_same" (top 41)
  d__law_pu_jar_on : DefAt K mg "_law_pu_jar_on" (top 46)
  d__law_pu_least_of : DefAt K mg "_law_pu_least_of" (top 59)
  d__law_pu_span : DefAt K mg "_law_pu_span" (top 60)
  d__law_pu_ends : DefAt K mg "_law_pu_ends" (top 61)
  d__law_pu_classes : DefAt K mg "_law_pu_classes" (top 42)
  d__law_pu_field : DefAt K mg "_law_pu_field" (top 43)
  d__law_pu_heard : DefAt K mg "_law_pu_heard" (top 44)
  d__law_pu_refuses : DefAt K mg "_law_pu_refuses" (top 45)
  d__law_pd_made : DefAt K mg "_law_pd_made" (top 58)
  d__law_is_crew_of : DefAt K mg "_law_is_crew_of" (top 62)
  d__law_is_whole_to : DefAt K mg "_law_is_whole_to" (top 63)
  d__law_owed_of : DefAt K mg "_law_owed_of" (top 64)
  d__law_done_to : DefAt K mg "_law_done_to" (top 65)
  d__law_kind_drawn : DefAt K mg "_law_kind_drawn" (top 66)
  d__law_deed_drawn : DefAt K mg "_law_deed_drawn" (top 67)
  d__law_deed_right : DefAt K mg "_law_deed_right" (top 68)
  d__law_full_right : DefAt K mg "_law_full_right" (top 69)
  d_law : DefAt K mg "law" (top 70)
  in_Crew : ∃ C, ClsK K mg "Crew" C ∧ NoAttr K C "own_kinds" ∧ InitK K C "Crew.__init__" (clsAt (top 38) 0)
  pr_Crew_all_kinds : ∃ C, ClsK K mg "Crew" C ∧ PropK K C "all_kinds" "Crew.all_kinds" (clsAt (top 38) 1)
  pr_Crew_members : ∃ C, ClsK K mg "Crew" C ∧ PropK K C "members" "Crew.members" (clsAt (top 38) 2)
  pr_Crew_least : ∃ C, ClsK K mg "Crew" C ∧ PropK K C "least" "Crew.least" (clsAt (top 38) 3)
  pr_Crew_full : ∃ C, ClsK K mg "Crew" C ∧ PropK K C "full" "Crew.full" (clsAt (top 38) 4)
  pr_Crew_span : ∃ C, ClsK K mg "Crew" C ∧ PropK K C "span" "Crew.span" (clsAt (top 38) 5)
  eq_Crew : ∃ C, ClsK K mg "Crew" C ∧ EqK K C "Crew.__eq__" (clsAt (top 38) 6)
  me_Crew_look_at_kind : ∃ C, ClsK K mg "Crew" C ∧ MethK K C "look_at_kind" "Crew.look_at_kind" (clsAt (top 38) 7)
  me_Crew_changed : ∃ C, ClsK K mg "Crew" C ∧ MethK K C "changed" "Crew.changed" (clsAt (top 38) 8)
  me_Crew_with_many : ∃ C, ClsK K mg "Crew" C ∧ MethK K C "with_many" "Crew.with_many" (clsAt (top 38) 9)
  me_Crew_with_kind : ∃ C, ClsK K mg "Crew" C ∧ MethK K C "with_kind" "Crew.with_kind" (clsAt (top 38) 10)
  me_Crew_without_kind : ∃ C, ClsK K mg "Crew" C ∧ MethK K C "without_kind" "Crew.without_kind" (clsAt (top 38) 11)
  me_Crew_cut : ∃ C, ClsK K mg "Crew" C ∧ MethK K C "cut" "Crew.cut" (clsAt (top 38) 12)
  me_Crew_share : ∃ C, ClsK K mg "Crew" C ∧ MethK K C "share" "Crew.share" (clsAt (top 38) 13)
  t__law_deed_right : (codeTab K mg "_law_deed_right").isSome = true
  t__law_full_right : (codeTab K mg "_law_full_right").isSome = true
  xs_InvalidCrew : XsT P K mg "InvalidCrew" "value"
  xs_InvalidNumber : XsT P K mg "InvalidNumber" "value"
  xs_TooMany : XsTG "OverflowError" "OverflowError.__new__" "OverflowError.__init__" [.type "OverflowError", .type "ArithmeticError", .type "Exception", .type "BaseException", .type "object"] P K mg "TooMany" "limit"
  ct_Crew : ClsT K mg "Crew"
  fl_Crew_own_kinds : ∃ C, ClsK K mg "Crew" C ∧ NoAttr K C "own_kinds"
abbrev s_is_integer : Stmt := top 1
theorem sc_is_integer : FnScope ["value"] ["value"] (defScope s_is_integer) := ⟨rfl, rfl, rfl, by decide +kernel, rfl, by decide +kernel, by decide +kernel⟩
theorem ok_is_integer {P : Program} {w : World} {K : PySem.W.Frag} {mg : Str → Option Value} {base : Heap} (T : Txt P K mg base) : Own P w K mg base 1 "is_integer" 1 F_is_integer := by
  have nd : (["value"] : List Str).Nodup := sc_is_integer.nd
  refine own_of (k := 0) T.d_is_integer sc_is_integer rfl (fun _ _ _ _ _ _ us hl => match us, hl with | [_], _ => rfl) (fun f cdv A outer s H E hr => ?_)
  unfold B_is_integer
  exact (ss_one (ss_ret (se_and (se_isi (c := .int) (by decide) rfl T.b_isinstance rfl T.b_int (by decide +kernel) (se_var 0 (pv 0))) (se_one (se_not (se_isi (c := .bool) (by decide) rfl T.b_isinstance rfl T.b_bool (by decide +kernel) (se_var 0 (pv 0))))))))
abbrev s_is_between : Stmt := top 2
theorem sc_is_between : FnScope ["value", "least", "most"] ["value", "least", "most"] (defScope s_is_between) := ⟨rfl, rfl, rfl, by decide +kernel, rfl, by decide +kernel, by decide +kernel⟩
theorem ok_is_between {P : Program} {w : World} {K : PySem.W.Frag} {mg : Str → Option Value} {base : Heap} (T : Txt P K mg base) : Own P w K mg base 2 "is_between" 3 F_is_between := by
  have nd : (["value", "least", "most"] : List Str).Nodup := sc_is_between.nd
  refine own_of (k := 1) T.d_is_between sc_is_between rfl (fun _ _ _ _ _ _ us hl => match us, hl with | [_, _, _], _ => rfl) (fun f cdv A outer s H E hr => ?_)
  unfold B_is_between
  exact (ss_one (ss_ret (se_and (se_own (ok_is_integer T) (hr.mono (by decide)) (L2N.takes_of rfl rfl rfl rfl) rfl (sa_cons (se_var 0 (pv 0)) sa_nil)) (se_one (se_chain of_le of_le (se_var 1 (pv 1)) (se_var 0 (pv 0)) (se_var 2 (pv 2)))))))
abbrev s_is_row : Stmt := top 3
theorem sc_is_row : FnScope ["value"] ["value"] (defScope s_is_row) := ⟨rfl, rfl, rfl, by decide +kernel, rfl, by decide +kernel, by decide +kernel⟩
theorem ok_is_row {P : Program} {w : World} {K : PySem.W.Frag} {mg : Str → Option Value} {base : Heap} (T : Txt P K mg base) : Own P w K mg base 1 "is_row" 1 F_is_row := by
  have nd : (["value"] : List Str).Nodup := sc_is_row.nd
  refine own_of (k := 0) T.d_is_row sc_is_row rfl (fun _ _ _ _ _ _ us hl => match us, hl with | [_], _ => rfl) (fun f cdv A outer s H E hr => ?_)
  unfold B_is_row
  exact (ss_one (ss_ret (se_isiT (by decide) (by decide) rfl T.b_isinstance (pty_cons (c := .list) rfl T.b_list (by decide +kernel) (pty_cons (c := .tuple) rfl T.b_tuple (by decide +kernel) pty_nil)) (se_var 0 (pv 0)))))
abbrev s_least_of : Stmt := top 31
theorem sc_least_of : FnScope ["values", "value"] ["values"] (defScope s_least_of) := ⟨rfl, rfl, rfl, by decide +kernel, rfl, by decide +kernel, by decide +kernel⟩
theorem ok_least_of {P : Program} {w : World} {K : PySem.W.Frag} {mg : Str → Option Value} {base : Heap} (T : Txt P K mg base) : Own P w K mg base 1 "least_of" 1 F_least_of := by
  have nd : (["values", "value"] : List Str).Nodup := sc_least_of.nd
  refine own_of (k := 0) T.d_least_of sc_least_of rfl (fun _ _ _ _ _ _ us hl => match us, hl with | [_], _ => rfl) (fun f cdv A outer s H E hr => ?_)
  unfold B_least_of
  exact (ss_one (ss_ret (se_idx (se_comp (own := [("value", 1)]) rfl nd (si_any (se_var 0 (pv 0))) (blkOk_by (by kernel_rfl)) (fun s H C cl fp => (sg_name (pg_name (i := 1) nd rfl (by first | exact Or.inl rfl | exact Or.inr rfl)) (fun σ v => wipe_set σ (by simp)))) (fun s H C cl fp => sts_nil) (fun s H C cl fp => (se_cmp of_isn (se_var 1 (pv 1)) se_non (nomark _)))) se_bl)))
abbrev s_quota_of : Stmt := top 32
theorem sc_quota_of : FnScope ["values"] ["values"] (defScope s_quota_of) := ⟨rfl, rfl, rfl, by decide +kernel, rfl, by decide +kernel, by decide +kernel⟩
theorem ok_quota_of {P : Program} {w : World} {K : PySem.W.Frag} {mg : Str → Option Value} {base : Heap} (T : Txt P K mg base) : Own P w K mg base 1 "quota_of" 1 F_quota_of := by
  have nd : (["values"] : List Str).Nodup := sc_quota_of.nd
  refine own_of (k := 0) T.d_quota_of sc_quota_of rfl (fun _ _ _ _ _ _ us hl => match us, hl with | [_], _ => rfl) (fun f cdv A outer s H E hr => ?_)
  unfold B_quota_of
  exact (ss_one (ss_ret (se_op of_sub (se_cb cb_len rfl T.b_len (by decide +kernel) (sa_cons (se_var 0 (pv 0)) sa_nil)) se_int)))
abbrev s_span_of : Stmt := top 33
theorem sc_span_of : FnScope ["values"] ["values"] (defScope s_span_of) := ⟨rfl, rfl, rfl, by decide +kernel, rfl, by decide +kernel, by decide +kernel⟩
theorem ok_span_of {P : Program} {w : World} {K : PySem.W.Frag} {mg : Str → Option Value} {base : Heap} (T : Txt P K mg base) : Own P w K mg base 2 "span_of" 1 F_span_of := by
  have nd : (["values"] : List Str).Nodup := sc_span_of.nd
  refine own_of (k := 1) T.d_span_of sc_span_of rfl (fun _ _ _ _ _ _ us hl => match us, hl with | [_], _ => rfl) (fun f cdv A outer s H E hr => ?_)
  unfold B_span_of
  exact (ss_one (ss_ret (se_op of_sub (se_own (ok_quota_of T) (hr.mono (by decide)) (L2N.takes_of rfl rfl rfl rfl) rfl (sa_cons (se_var 0 (pv 0)) sa_nil)) (se_own (ok_least_of T) (hr.mono (by decide)) (L2N.takes_of rfl rfl rfl rfl) rfl (sa_cons (se_var 0 (pv 0)) sa_nil)))))
abbrev s_is_values : Stmt := top 34
theorem sc_is_values : FnScope ["value", "known", "one", "place"] ["value"] (defScope s_is_values) := ⟨rfl, rfl, rfl, by decide +kernel, rfl, by decide +kernel, by decide +kernel⟩
theorem ok_is_values {P : Program} {w : World} {K : PySem.W.Frag} {mg : Str → Option Value} {base : Heap} (T : Txt P K mg base) : Own P w K mg base 2 "is_values" 1 F_is_values := by
  have nd : (["value", "known", "one", "place"] : List Str).Nodup := sc_is_values.nd
  refine own_of (k := 1) T.d_is_values sc_is_values rfl (fun _ _ _ _ _ _ us hl => match us, hl with | [_], _ => rfl) (fun f cdv A outer s H E hr => ?_)
  unfold B_is_values
  exact (ss_cons (ss_if (sb_w (sw_or (sb_not (sb_truth (se_isi (c := .tuple) (by decide) rfl T.b_isinstance rfl T.b_tuple (by decide +kernel) (se_var 0 (pv 0))))) (sw_or (sb_not (sb_chain of_le of_le se_int (se_cb cb_len rfl T.b_len (by decide +kernel) (sa_cons (se_var 0 (pv 0)) sa_nil)) (se_gint rfl (T.i_MOST_ENTRIES).choose_spec))) (sw_or1 (sb_cmp of_is (se_ix (se_var 0 (pv 0)) (se_un of_neg se_int) (fun _ _ => rfl)) se_non (nomark _)))))) (ss_one (ss_ret se_bl)) ss_nil) (ss_cons (ss_set (ps_set (i := 1) nd rfl (by first | exact Or.inl rfl | exact Or.inr rfl) (se_sl (se_var 0 (pv 0)) (part_some (se_own (ok_least_of T) (hr.mono (by decide)) (L2N.takes_of rfl rfl rfl rfl) rfl (sa_cons (se_var 0 (pv 0)) sa_nil))) part_none))) (ss_cons (ss_if (sb_not (sb_truth (se_cb (cb_all rfl) rfl T.b_all (by decide +kernel) (sa_cons (se_comp (own := [("one", 2)]) rfl nd (si_any (se_var 1 (pv 1))) (blkOk_by (by kernel_rfl)) (fun s H C cl fp => (sg_name (pg_name (i := 2) nd rfl (by first | exact Or.inl rfl | exact Or.inr rfl)) (fun σ v => wipe_set σ (by simp)))) (fun s H C cl fp => sts_nil) (fun s H C cl fp => (se_own (ok_is_integer T) (hr.mono (by decide)) takes0N rfl (sa_cons (se_var 2 (pv 2)) sa_nil)))) sa_nil)))) (ss_one (ss_ret se_bl)) ss_nil) (ss_one (ss_ret (se_cb (cb_all rfl) rfl T.b_all (by decide +kernel) (sa_cons (se_comp (own := [("place", 3)]) rfl nd (si_r1 (pi_range1 rfl T.b_range (sa_cons (se_op of_sub (se_cb cb_len rfl T.b_len (by decide +kernel) (sa_cons (se_var 1 (pv 1)) sa_nil)) se_int) sa_nil))) (blkOk_by (by kernel_rfl)) (fun s H C cl fp => (sg_name (pg_name (i := 3) nd rfl (by first | exact Or.inl rfl | exact Or.inr rfl)) (fun σ v => wipe_set σ (by simp)))) (fun s H C cl fp => sts_nil) (fun s H C cl fp => (se_cmp of_le (se_ix (se_var 1 (pv 1)) (se_var 3 (pv 3)) (fun _ _ => rfl)) (se_ix (se_var 1 (pv 1)) (se_op of_add (se_var 3 (pv 3)) se_int) (fun _ _ => rfl)) (nomark _)))) sa_nil)))))))
abbrev s_is_many : Stmt := top 35
theorem sc_is_many : FnScope ["value"] ["value"] (defScope s_is_many) := ⟨rfl, rfl, rfl, by decide +kernel, rfl, by decide +kernel, by decide +kernel⟩
theorem ok_is_many {P : Program} {w : World} {K : PySem.W.Frag} {mg : Str → Option Value} {base : Heap} (T : Txt P K mg base) : Own P w K mg base 3 "is_many" 1 F_is_many := by
  have nd : (["value"] : List Str).Nodup := sc_is_many.nd
  refine own_of (k := 2) T.d_is_many sc_is_many rfl (fun _ _ _ _ _ _ us hl => match us, hl with | [_], _ => rfl) (fun f cdv A outer s H E hr => ?_)
  unfold B_is_many
  exact (ss_one (ss_ret (se_own (ok_is_between T) (hr.mono (by decide)) (L2N.takes_of rfl rfl rfl rfl) rfl (sa_cons (se_var 0 (pv 0)) (sa_cons se_int (sa_cons (se_gint rfl (T.i_MOST_MANY).choose_spec) sa_nil))))))
abbrev s_is_kind : Stmt := top 36
theorem sc_is_kind : FnScope ["value"] ["value"] (defScope s_is_kind) := ⟨rfl, rfl, rfl, by decide +kernel, rfl, by decide +kernel, by decide +kernel⟩
theorem ok_is_kind {P : Program} {w : World} {K : PySem.W.Frag} {mg : Str → Option Value} {base : Heap} (T : Txt P K mg base) : Own P w K mg base 4 "is_kind" 1 F_is_kind := by
  have nd : (["value"] : List Str).Nodup := sc_is_kind.nd
  refine own_of (k := 3) T.d_is_kind sc_is_kind rfl (fun _ _ _ _ _ _ us hl => match us, hl with | [_], _ => rfl) (fun f cdv A outer s H E hr => ?_)
  unfold B_is_kind
  exact (ss_one (ss_ret (se_and (se_isi (c := .tuple) (by decide) rfl T.b_isinstance rfl T.b_tuple (by decide +kernel) (se_var 0 (pv 0))) (se_and (se_cmp (of_eq hr.units) (se_cb cb_len rfl T.b_len (by decide +kernel) (sa_cons (se_var 0 (pv 0)) sa_nil)) se_int (nomark _)) (se_and (se_own (ok_is_values T) (hr.mono (by decide)) (L2N.takes_of rfl rfl rfl rfl) rfl (sa_cons (se_ix (se_var 0 (pv 0)) se_int (fun _ _ => rfl)) sa_nil)) (se_one (se_own (ok_is_many T) (hr.mono (by decide)) (L2N.takes_of rfl rfl rfl rfl) rfl (sa_cons (se_ix (se_var 0 (pv 0)) se_int (fun _ _ => rfl)) sa_nil))))))))
abbrev s_look_at_many : Stmt := top 37
theorem sc_look_at_many : FnScope ["many"] ["many"] (defScope s_look_at_many) := ⟨rfl, rfl, rfl, by decide +kernel, rfl, by decide +kernel, by decide +kernel⟩
theorem ok_look_at_many {P : Program} {w : World} {K : PySem.W.Frag} {mg : Str → Option Value} {base : Heap} (T : Txt P K mg base) : Own P w K mg base 4 "look_at_many" 1 F_look_at_many := by
  have nd : (["many"] : List Str).Nodup := sc_look_at_many.nd
  refine own_of (k := 3) T.d_look_at_many sc_look_at_many rfl (fun _ _ _ _ _ _ us hl => match us, hl with | [_], _ => rfl) (fun f cdv A outer s H E hr => ?_)
  unfold B_look_at_many
  exact (ss_one (ss_if (sb_not (sb_truth (se_own (ok_is_many T) (hr.mono (by decide)) (L2N.takes_of rfl rfl rfl rfl) rfl (sa_cons (se_var 0 (pv 0)) sa_nil)))) (ss_one (ss_raiseT (k := 1) T.xs_InvalidNumber rfl (L2N.takes_of rfl rfl rfl rfl) (hr.mono (by decide)) (se_var 0 (pv 0)) rfl)) ss_nil))
abbrev s__law_is_whole : Stmt := top 40
theorem sc__law_is_whole : FnScope ["thing"] ["thing"] (defScope s__law_is_whole) := ⟨rfl, rfl, rfl, by decide +kernel, rfl, by decide +kernel, by decide +kernel⟩
theorem ok__law_is_whole {P : Program} {w : World} {K : PySem.W.Frag} {mg : Str → Option Value} {base : Heap} (T : Txt P K mg base) : Own P w K mg base 1 "_law_is_whole" 1 F__law_is_whole := by
  have nd : (["thing"] : List Str).Nodup := sc__law_is_whole.nd
  refine own_of (k := 0) T.d__law_is_whole sc__law_is_whole rfl (fun _ _ _ _ _ _ us hl => match us, hl with | [_], _ => rfl) (fun f cdv A outer s H E hr => ?_)
  unfold B__law_is_whole
  exact (ss_one (ss_ret (se_and (se_isi (c := .int) (by decide) rfl T.b_isinstance rfl T.b_int (by decide +kernel) (se_var 0 (pv 0))) (se_one (se_not (se_isi (c := .bool) (by decide) rfl T.b_isinstance rfl T.b_bool (by decide +kernel) (se_var 0 (pv 0))))))))
abbrev s__law_pool : Stmt := top 47
theorem sc__law_pool : FnScope ["script", "k", "cell", "mixed"] ["script", "k"] (defScope s__law_pool) := ⟨rfl, rfl, rfl, by decide +kernel, rfl, by decide +kernel, by decide +kernel⟩
theorem ok__law_pool {P : Program} {w : World} {K : PySem.W.Frag} {mg : Str → Option Value} {base : Heap} (T : Txt P K mg base) : Own P w K mg base 1 "_law_pool" 2 F__law_pool := by
  have nd : (["script", "k", "cell", "mixed"] : List Str).Nodup := sc__law_pool.nd
  refine own_of (k := 0) T.d__law_pool sc__law_pool rfl (fun _ _ _ _ _ _ us hl => match us, hl with | [_, _], _ => rfl) (fun f cdv A outer s H E hr => ?_)
  unfold B__law_pool
  exact (ss_cons (ss_set (ps_set (i := 2) nd rfl (by first | exact Or.inl rfl | exact Or.inr rfl) se_int)) (ss_cons (ss_if (sb_cmp of_lt (se_var 1 (pv 1)) (se_cb cb_len rfl T.b_len (by decide +kernel) (sa_cons (se_var 0 (pv 0)) sa_nil)) (nomark _)) (ss_one (ss_set (ps_set (i := 2) nd rfl (by first | exact Or.inl rfl | exact Or.inr rfl) (se_cb cb_abs rfl T.b_abs (by decide +kernel) (sa_cons (se_ix (se_var 0 (pv 0)) (se_var 1 (pv 1)) (fun _ _ => rfl)) sa_nil))))) ss_nil) (ss_cons (ss_set (ps_set (i := 3) nd rfl (by first | exact Or.inl rfl | exact Or.inr rfl) (se_op of_mod (se_ct ct_int rfl T.b_int (by decide +kernel) (sa_cons (se_op of_mul (se_op of_add (se_op of_add (se_op of_add (se_op of_mod (se_ct ct_int rfl T.b_int (by decide +kernel) (sa_cons (se_var 2 (pv 2)) sa_nil)) se_int) (se_op of_mul (se_op of_mul se_int (se_var 1 (pv 1))) (se_var 1 (pv 1)))) (se_op of_mul se_int (se_var 1 (pv 1)))) se_int) se_int) sa_nil)) se_int))) (ss_one (ss_ret (se_new (sa_cons (se_op of_mul (se_var 2 (pv 2)) (se_ct ct_int rfl T.b_int (by decide +kernel) (sa_cons (se_cmp of_ge (se_var 2 (pv 2)) (se_op of_pow se_int se_int) (nomark _)) sa_nil))) (sa_cons (se_op of_mod (se_ct ct_int rfl T.b_int (by decide +kernel) (sa_cons (se_op of_mul (se_var 3 (pv 3)) (se_var 3 (pv 3))) sa_nil)) se_int) sa_nil))))))))
abbrev s__law_take : Stmt := top 48
theorem sc__law_take : FnScope ["pool", "many", "found"] ["pool", "many"] (defScope s__law_take) := ⟨rfl, rfl, rfl, by decide +kernel, rfl, by decide +kernel, by decide +kernel⟩
theorem ok__law_take {P : Program} {w : World} {K : PySem.W.Frag} {mg : Str → Option Value} {base : Heap} (T : Txt P K mg base) : Own P w K mg base 1 "_law_take" 2 F__law_take := by
  have nd : (["pool", "many", "found"] : List Str).Nodup := sc__law_take.nd
  refine own_of (k := 0) T.d__law_take sc__law_take rfl (fun _ _ _ _ _ _ us hl => match us, hl with | [_, _], _ => rfl) (fun f cdv A outer s H E hr => ?_)
  unfold B__law_take
  exact (ss_cons (ss_if (sb_cmp of_gt (se_ix (se_var 0 (pv 0)) se_int (fun _ _ => rfl)) se_int (nomark _)) (ss_cons (ss_set (ps_set (i := 2) nd rfl (by first | exact Or.inl rfl | exact Or.inr rfl) (se_op of_mod (se_ct ct_int rfl T.b_int (by decide +kernel) (sa_cons (se_ix (se_var 0 (pv 0)) se_int (fun _ _ => rfl)) sa_nil)) (se_var 1 (pv 1))))) (ss_cons (ss_sub (se_var 0 (pv 0)) se_int (se_op of_fdiv (se_ct ct_int rfl T.b_int (by decide +kernel) (sa_cons (se_ix (se_var 0 (pv 0)) se_int (fun _ _ => rfl)) sa_nil)) (se_var 1 (pv 1))) (fun ho hi => pg_sub ho hi set_list)) (ss_one (ss_ret (se_var 2 (pv 2)))))) ss_nil) (ss_cons (ss_sub (se_var 0 (pv 0)) se_int (se_op of_mod (se_ct ct_int rfl T.b_int (by decide +kernel) (sa_cons (se_op of_add (se_op of_mul (se_ix (se_var 0 (pv 0)) se_int (fun _ _ => rfl)) se_int) se_int) sa_nil)) se_int) (fun ho hi => pg_sub ho hi set_list)) (ss_one (ss_ret (se_op of_mod (se_ct ct_int rfl T.b_int (by decide +kernel) (sa_cons (se_op of_fdiv (se_op of_mod (se_ct ct_int rfl T.b_int (by decide +kernel) (sa_cons (se_op of_mul (se_ix (se_var 0 (pv 0)) se_int (fun _ _ => rfl)) (se_ix (se_var 0 (pv 0)) se_int (fun _ _ => rfl))) sa_nil)) se_int) se_int) sa_nil)) (se_var 1 (pv 1)))))))
abbrev s__law_one : Stmt := top 49
theorem sc__law_one : FnScope ["jar", "some"] ["jar", "some"] (defScope s__law_one) := ⟨rfl, rfl, rfl, by decide +kernel, rfl, by decide +kernel, by decide +kernel⟩
theorem ok__law_one {P : Program} {w : World} {K : PySem.W.Frag} {mg : Str → Option Value} {base : Heap} (T : Txt P K mg base) : Own P w K mg base 2 "_law_one" 2 F__law_one := by
  have nd : (["jar", "some"] : List Str).Nodup := sc__law_one.nd
  refine own_of (k := 1) T.d__law_one sc__law_one rfl (fun _ _ _ _ _ _ us hl => match us, hl with | [_, _], _ => rfl) (fun f cdv A outer s H E hr => ?_)
  unfold B__law_one
  exact (ss_one (ss_ret (se_ix (se_var 1 (pv 1)) (se_own (ok__law_take T) (hr.mono (by decide)) (L2N.takes_of rfl rfl rfl rfl) rfl (sa_cons (se_var 0 (pv 0)) (sa_cons (se_cb cb_len rfl T.b_len (by decide +kernel) (sa_cons (se_var 1 (pv 1)) sa_nil)) sa_nil))) (fun _ _ => rfl))))
abbrev s__law_pu_is_values : Stmt := top 50
theorem sc__law_pu_is_values : FnScope ["thing", "rest", "one", "at"] ["thing"] (defScope s__law_pu_is_values) := ⟨rfl, rfl, rfl, by decide +kernel, rfl, by decide +kernel, by decide +kernel⟩
theorem ok__law_pu_is_values {P : Program} {w : World} {K : PySem.W.Frag} {mg : Str → Option Value} {base : Heap} (T : Txt P K mg base) : Own P w K mg base 1 "_law_pu_is_values" 1 F__law_pu_is_values := by
  have nd : (["thing", "rest", "one", "at"] : List Str).Nodup := sc__law_pu_is_values.nd
  refine own_of (k := 0) T.d__law_pu_is_values sc__law_pu_is_values rfl (fun _ _ _ _ _ _ us hl => match us, hl with | [_], _ => rfl) (fun f cdv A outer s H E hr => ?_)
  unfold B__law_pu_is_values
  exact (ss_cons (ss_if (sb_w (sw_or (sb_not (sb_truth (se_isi (c := .tuple) (by decide) rfl T.b_isinstance rfl T.b_tuple (by decide +kernel) (se_var 0 (pv 0))))) (sw_or (sb_cmp (of_eq hr.units) (se_var 0 (pv 0)) (se_tup sa_nil) (nomark _)) (sw_or (sb_cmp of_gt (se_cb cb_len rfl T.b_len (by decide +kernel) (sa_cons (se_var 0 (pv 0)) sa_nil)) se_int (nomark _)) (sw_or1 (sb_cmp of_is (se_ix (se_var 0 (pv 0)) (se_un of_neg se_int) (fun _ _ => rfl)) se_non (nomark _))))))) (ss_one (ss_ret se_bl)) ss_nil) (ss_cons (ss_set (ps_set (i := 1) nd rfl (by first | exact Or.inl rfl | exact Or.inr rfl) (se_ct ct_list rfl T.b_list (by decide +kernel) (sa_cons (se_var 0 (pv 0)) sa_nil)))) (ss_cons (ss_while (passes_of rfl) (sb_cmp of_is (se_ix (se_var 1 (pv 1)) se_int (fun _ _ => rfl)) se_non (nomark _)) (ss_one (ss_set (ps_set (i := 1) nd rfl (by first | exact Or.inl rfl | exact Or.inr rfl) (se_sl (se_var 1 (pv 1)) (part_some se_int) part_none))))) (ss_cons (ss_if (sb_cmp (of_ne hr.units) (se_comp (own := [("one", 2)]) rfl nd (si_any (se_var 1 (pv 1))) (blkOk_by (by kernel_rfl)) (fun s H C cl fp => (sg_name (pg_name (i := 2) nd rfl (by first | exact Or.inl rfl | exact Or.inr rfl)) (fun σ v => wipe_set σ (by simp)))) (fun s H C cl fp => (sts_one (sb_w (sw_or (sb_not (sb_truth (se_isi (c := .int) (by decide) rfl T.b_isinstance rfl T.b_int (by decide +kernel) (se_var 2 (pv 2))))) (sw_or1 (sb_truth (se_isi (c := .bool) (by decide) rfl T.b_isinstance rfl T.b_bool (by decide +kernel) (se_var 2 (pv 2))))))))) (fun s H C cl fp => (se_var 2 (pv 2)))) (se_lst sa_nil) (nomark _)) (ss_one (ss_ret se_bl)) ss_nil) (ss_one (ss_ret (se_cmp (of_eq hr.units) (se_comp (own := [("at", 3)]) rfl nd (si_r2 (pi_range2 rfl T.b_range (sa_cons se_int (sa_cons (se_cb cb_len rfl T.b_len (by decide +kernel) (sa_cons (se_var 1 (pv 1)) sa_nil)) sa_nil)))) (blkOk_by (by kernel_rfl)) (fun s H C cl fp => (sg_name (pg_name (i := 3) nd rfl (by first | exact Or.inl rfl | exact Or.inr rfl)) (fun σ v => wipe_set σ (by simp)))) (fun s H C cl fp => (sts_one (sb_cmp of_lt (se_ix (se_var 1 (pv 1)) (se_var 3 (pv 3)) (fun _ _ => rfl)) (se_ix (se_var 1 (pv 1)) (se_op of_sub (se_var 3 (pv 3)) se_int) (fun _ _ => rfl)) (nomark _)))) (fun s H C cl fp => (se_var 3 (pv 3)))) (se_lst sa_nil) (nomark _))))))))
abbrev s__law_pd_values : Stmt := top 51
theorem sc__law_pd_values : FnScope ["jar", "most", "quota", "least", "value", "steps", "found", "n"] ["jar", "most"] (defScope s__law_pd_values) := ⟨rfl, rfl, rfl, by decide +kernel, rfl, by decide +kernel, by decide +kernel⟩
theorem ok__law_pd_values {P : Program} {w : World} {K : PySem.W.Frag} {mg : Str → Option Value} {base : Heap} (T : Txt P K mg base) : Own P w K mg base 3 "_law_pd_values" 2 F__law_pd_values := by
  have nd : (["jar", "most", "quota", "least", "value", "steps", "found", "n"] : List Str).Nodup := sc__law_pd_values.nd
  refine own_of (k := 2) T.d__law_pd_values sc__law_pd_values rfl (fun _ _ _ _ _ _ us hl => match us, hl with | [_, _], _ => rfl) (fun f cdv A outer s H E hr => ?_)
  unfold B__law_pd_values
  exact (ss_cons (ss_set (ps_set (i := 2) nd rfl (by first | exact Or.inl rfl | exact Or.inr rfl) (se_own (ok__law_take T) (hr.mono (by decide)) (L2N.takes_of rfl rfl rfl rfl) rfl (sa_cons (se_var 0 (pv 0)) (sa_cons (se_op of_add (se_var 1 (pv 1)) se_int) sa_nil))))) (ss_cons (ss_set (ps_set (i := 3) nd rfl (by first | exact Or.inl rfl | exact Or.inr rfl) (se_if (sb_cmp (of_eq hr.units) (se_own (ok__law_take T) (hr.mono (by decide)) (L2N.takes_of rfl rfl rfl rfl) rfl (sa_cons (se_var 0 (pv 0)) (sa_cons se_int sa_nil))) se_int (nomark _)) (se_own (ok__law_take T) (hr.mono (by decide)) (L2N.takes_of rfl rfl rfl rfl) rfl (sa_cons (se_var 0 (pv 0)) (sa_cons (se_op of_add (se_var 2 (pv 2)) se_int) sa_nil))) se_int))) (ss_cons (ss_par (ps_par (i := 4) (j := 5) rfl nd rfl rfl (by decide) rfl rfl (sa_cons (se_op of_sub (se_own (ok__law_take T) (hr.mono (by decide)) (L2N.takes_of rfl rfl rfl rfl) rfl (sa_cons (se_var 0 (pv 0)) (sa_cons se_int sa_nil))) se_int) (sa_cons (se_own (ok__law_one T) (hr.mono (by decide)) (L2N.takes_of rfl rfl rfl rfl) rfl (sa_cons (se_var 0 (pv 0)) (sa_cons (se_lst (sa_cons (se_lst (sa_cons se_int (sa_cons se_int (sa_cons se_int sa_nil)))) (sa_cons (se_lst (sa_cons se_int (sa_cons se_int (sa_cons se_int (sa_cons se_int sa_nil))))) (sa_cons (se_lst (sa_cons se_int (sa_cons se_int (sa_cons se_int (sa_cons se_int (sa_cons se_int sa_nil)))))) (sa_cons (se_lst (sa_cons se_int (sa_cons se_int (sa_cons se_int (sa_cons se_int (sa_cons se_int sa_nil)))))) (sa_cons (se_lst (sa_cons se_int sa_nil)) (sa_cons (se_lst (sa_cons se_int (sa_cons se_int sa_nil))) sa_nil))))))) sa_nil))) sa_nil)) (by first | rfl | with_unfolding_all rfl))) (ss_cons (ss_set (ps_set (i := 6) nd rfl (by first | exact Or.inl rfl | exact Or.inr rfl) (se_catN (se_op of_mul (se_lst (sa_cons se_non sa_nil)) (se_var 3 (pv 3))) (se_lst (sa_cons (se_var 4 (pv 4)) sa_nil))))) (ss_cons (ss_for (passes_of rfl) rfl (si_r2 (pi_range2 rfl T.b_range (sa_cons (se_var 3 (pv 3)) (sa_cons (se_var 2 (pv 2)) sa_nil)))) (sg_name (pg_name (i := 7) nd rfl (by first | exact Or.inl rfl | exact Or.inr rfl)) (fun _ _ => trivial)) (ss_cons (ss_set (ps_set (i := 4) nd rfl (by first | exact Or.inl rfl | exact Or.inr rfl) (se_op of_add (se_var 4 (pv 4)) (se_own (ok__law_one T) (hr.mono (by decide)) (L2N.takes_of rfl rfl rfl rfl) rfl (sa_cons (se_var 0 (pv 0)) (sa_cons (se_var 5 (pv 5)) sa_nil)))))) (ss_one (ss_app (se_var 6 (pv 6)) (se_var 4 (pv 4)))))) (ss_one (ss_ret (se_ct ct_tuple rfl T.b_tuple (by decide +kernel) (sa_cons (se_var 6 (pv 6)) sa_nil)))))))))
abbrev s__law_pd_leap : Stmt := top 52
theorem sc__law_pd_leap : FnScope ["jar", "most", "quota"] ["jar", "most"] (defScope s__law_pd_leap) := ⟨rfl, rfl, rfl, by decide +kernel, rfl, by decide +kernel, by decide +kernel⟩
theorem ok__law_pd_leap {P : Program} {w : World} {K : PySem.W.Frag} {mg : Str → Option Value} {base : Heap} (T : Txt P K mg base) : Own P w K mg base 2 "_law_pd_leap" 2 F__law_pd_leap := by
  have nd : (["jar", "most", "quota"] : List Str).Nodup := sc__law_pd_leap.nd
  refine own_of (k := 1) T.d__law_pd_leap sc__law_pd_leap rfl (fun _ _ _ _ _ _ us hl => match us, hl with | [_, _], _ => rfl) (fun f cdv A outer s H E hr => ?_)
  unfold B__law_pd_leap
  exact (ss_cons (ss_set (ps_set (i := 2) nd rfl (by first | exact Or.inl rfl | exact Or.inr rfl) (se_op of_add se_int (se_own (ok__law_take T) (hr.mono (by decide)) (L2N.takes_of rfl rfl rfl rfl) rfl (sa_cons (se_var 0 (pv 0)) (sa_cons (se_var 1 (pv 1)) sa_nil)))))) (ss_one (ss_ret (se_op of_add (se_op of_mul (se_tup (sa_cons se_int sa_nil)) (se_var 2 (pv 2))) (se_tup (sa_cons (se_op of_add se_int (se_own (ok__law_take T) (hr.mono (by decide)) (L2N.takes_of rfl rfl rfl rfl) rfl (sa_cons (se_var 0 (pv 0)) (sa_cons se_int sa_nil)))) sa_nil))))))
abbrev s__law_pd_many : Stmt := top 53
theorem sc__law_pd_many : FnScope ["jar", "most"] ["jar", "most"] (defScope s__law_pd_many) := ⟨rfl, rfl, rfl, by decide +kernel, rfl, by decide +kernel, by decide +kernel⟩
theorem ok__law_pd_many {P : Program} {w : World} {K : PySem.W.Frag} {mg : Str → Option Value} {base : Heap} (T : Txt P K mg base) : Own P w K mg base 3 "_law_pd_many" 2 F__law_pd_many := by
  have nd : (["jar", "most"] : List Str).Nodup := sc__law_pd_many.nd
  refine own_of (k := 2) T.d__law_pd_many sc__law_pd_many rfl (fun _ _ _ _ _ _ us hl => match us, hl with | [_, _], _ => rfl) (fun f cdv A outer s H E hr => ?_)
  unfold B__law_pd_many
  exact (ss_one (ss_ret (se_if (sb_cmp (of_eq hr.units) (se_own (ok__law_take T) (hr.mono (by decide)) (L2N.takes_of rfl rfl rfl rfl) rfl (sa_cons (se_var 0 (pv 0)) (sa_cons se_int sa_nil))) se_int (nomark _)) (se_own (ok__law_one T) (hr.mono (by decide)) (L2N.takes_of rfl rfl rfl rfl) rfl (sa_cons (se_var 0 (pv 0)) (sa_cons (se_lst (sa_cons se_int (sa_cons se_int (sa_cons se_int sa_nil)))) sa_nil))) (se_own (ok__law_take T) (hr.mono (by decide)) (L2N.takes_of rfl rfl rfl rfl) rfl (sa_cons (se_var 0 (pv 0)) (sa_cons (se_op of_add (se_var 1 (pv 1)) se_int) sa_nil))))))
abbrev s__law_pd_great : Stmt := top 54
theorem sc__law_pd_great : FnScope ["jar"] ["jar"] (defScope s__law_pd_great) := ⟨rfl, rfl, rfl, by decide +kernel, rfl, by decide +kernel, by decide +kernel⟩
theorem ok__law_pd_great {P : Program} {w : World} {K : PySem.W.Frag} {mg : Str → Option Value} {base : Heap} (T : Txt P K mg base) : Own P w K mg base 3 "_law_pd_great" 1 F__law_pd_great := by
  have nd : (["jar"] : List Str).Nodup := sc__law_pd_great.nd
  refine own_of (k := 2) T.d__law_pd_great sc__law_pd_great rfl (fun _ _ _ _ _ _ us hl => match us, hl with | [_], _ => rfl) (fun f cdv A outer s H E hr => ?_)
  unfold B__law_pd_great
  exact (ss_one (ss_ret (se_own (ok__law_one T) (hr.mono (by decide)) (L2N.takes_of rfl rfl rfl rfl) rfl (sa_cons (se_var 0 (pv 0)) (sa_cons (se_lst (sa_cons (se_op of_pow se_int se_int) (sa_cons (se_op of_sub (se_op of_pow se_int se_int) (se_own (ok__law_take T) (hr.mono (by decide)) (L2N.takes_of rfl rfl rfl rfl) rfl (sa_cons (se_var 0 (pv 0)) (sa_cons (se_op of_pow se_int se_int) sa_nil)))) (sa_cons (se_op of_add (se_op of_pow se_int se_int) (se_own (ok__law_take T) (hr.mono (by decide)) (L2N.takes_of rfl rfl rfl rfl) rfl (sa_cons (se_var 0 (pv 0)) (sa_cons (se_op of_pow se_int se_int) sa_nil)))) (sa_cons (se_op of_add (se_op of_mul se_int (se_op of_pow se_int se_int)) (se_own (ok__law_take T) (hr.mono (by decide)) (L2N.takes_of rfl rfl rfl rfl) rfl (sa_cons (se_var 0 (pv 0)) (sa_cons se_int sa_nil)))) (sa_cons (se_op of_add (se_op of_pow se_int se_int) (se_own (ok__law_take T) (hr.mono (by decide)) (L2N.takes_of rfl rfl rfl rfl) rfl (sa_cons (se_var 0 (pv 0)) (sa_cons se_int sa_nil)))) (sa_cons (se_own (ok__law_take T) (hr.mono (by decide)) (L2N.takes_of rfl rfl rfl rfl) rfl (sa_cons (se_var 0 (pv 0)) (sa_cons (se_op of_pow se_int se_int) sa_nil))) (sa_cons (se_op of_add (se_op of_mul se_int (se_op of_pow se_int se_int)) se_int) sa_nil)))))))) sa_nil)))))
abbrev s__law_pd_crew : Stmt := top 55
theorem sc__law_pd_crew : FnScope ["jar", "kinds", "most", "most_many", "found", "go", "entries"] ["jar", "kinds", "most", "most_many"] (defScope s__law_pd_crew) := ⟨rfl, rfl, rfl, by decide +kernel, rfl, by decide +kernel, by decide +kernel⟩
theorem ok__law_pd_crew {P : Program} {w : World} {K : PySem.W.Frag} {mg : Str → Option Value} {base : Heap} (T : Txt P K mg base) : Own P w K mg base 4 "_law_pd_crew" 4 F__law_pd_crew := by
  have nd : (["jar", "kinds", "most", "most_many", "found", "go", "entries"] : List Str).Nodup := sc__law_pd_crew.nd
  refine own_of (k := 3) T.d__law_pd_crew sc__law_pd_crew rfl (fun _ _ _ _ _ _ us hl => match us, hl with | [_, _, _, _], _ => rfl) (fun f cdv A outer s H E hr => ?_)
  unfold B__law_pd_crew
  exact (ss_cons (ss_set (ps_set (i := 4) nd rfl (by first | exact Or.inl rfl | exact Or.inr rfl) (se_new sa_nil))) (ss_cons (ss_for (passes_of rfl) rfl (si_r1 (pi_range1 rfl T.b_range (sa_cons (se_op of_add se_int (se_own (ok__law_take T) (hr.mono (by decide)) (L2N.takes_of rfl rfl rfl rfl) rfl (sa_cons (se_var 0 (pv 0)) (sa_cons (se_var 1 (pv 1)) sa_nil)))) sa_nil))) (sg_name (pg_name (i := 5) nd rfl (by first | exact Or.inl rfl | exact Or.inr rfl)) (fun _ _ => trivial)) (ss_cons (ss_set (ps_set (i := 6) nd rfl (by first | exact Or.inl rfl | exact Or.inr rfl) (se_if (sb_w (sw_and (sb_cmp of_gt (se_var 2 (pv 2)) se_int (nomark _)) (sw_and1 (sb_cmp (of_eq hr.units) (se_own (ok__law_take T) (hr.mono (by decide)) (L2N.takes_of rfl rfl rfl rfl) rfl (sa_cons (se_var 0 (pv 0)) (sa_cons se_int sa_nil))) se_int (nomark _))))) (se_own (ok__law_pd_leap T) (hr.mono (by decide)) (L2N.takes_of rfl rfl rfl rfl) rfl (sa_cons (se_var 0 (pv 0)) (sa_cons (se_var 2 (pv 2)) sa_nil))) (se_own (ok__law_pd_values T) (hr.mono (by decide)) (L2N.takes_of rfl rfl rfl rfl) rfl (sa_cons (se_var 0 (pv 0)) (sa_cons (se_var 2 (pv 2)) sa_nil)))))) (ss_one (ss_app (se_var 4 (pv 4)) (se_tup (sa_cons (se_var 6 (pv 6)) (sa_cons (se_own (ok__law_pd_many T) (hr.mono (by decide)) (L2N.takes_of rfl rfl rfl rfl) rfl (sa_cons (se_var 0 (pv 0)) (sa_cons (se_var 3 (pv 3)) sa_nil))) sa_nil))))))) (ss_one (ss_ret (se_ct ct_tuple rfl T.b_tuple (by decide +kernel) (sa_cons (se_var 4 (pv 4)) sa_nil))))))
abbrev s__law_pd_some_crew : Stmt := top 56
theorem sc__law_pd_some_crew : FnScope ["jar"] ["jar"] (defScope s__law_pd_some_crew) := ⟨rfl, rfl, rfl, by decide +kernel, rfl, by decide +kernel, by decide +kernel⟩
theorem ok__law_pd_some_crew {P : Program} {w : World} {K : PySem.W.Frag} {mg : Str → Option Value} {base : Heap} (T : Txt P K mg base) : Own P w K mg base 5 "_law_pd_some_crew" 1 F__law_pd_some_crew := by
  have nd : (["jar"] : List Str).Nodup := sc__law_pd_some_crew.nd
  refine own_of (k := 4) T.d__law_pd_some_crew sc__law_pd_some_crew rfl (fun _ _ _ _ _ _ us hl => match us, hl with | [_], _ => rfl) (fun f cdv A outer s H E hr => ?_)
  unfold B__law_pd_some_crew
  exact (ss_one (ss_ret (se_if (sb_cmp (of_eq hr.units) (se_own (ok__law_take T) (hr.mono (by decide)) (L2N.takes_of rfl rfl rfl rfl) rfl (sa_cons (se_var 0 (pv 0)) (sa_cons se_int sa_nil))) se_int (nomark _)) (se_own (ok__law_pd_crew T) (hr.mono (by decide)) (L2N.takes_of rfl rfl rfl rfl) rfl (sa_cons (se_var 0 (pv 0)) (sa_cons se_int (sa_cons se_int (sa_cons se_int sa_nil))))) (se_own (ok__law_pd_crew T) (hr.mono (by decide)) (L2N.takes_of rfl rfl rfl rfl) rfl (sa_cons (se_var 0 (pv 0)) (sa_cons se_int (sa_cons (se_own (ok__law_one T) (hr.mono (by decide)) (L2N.takes_of rfl rfl rfl rfl) rfl (sa_cons (se_var 0 (pv 0)) (sa_cons (se_lst (sa_cons se_int (sa_cons se_int (sa_cons se_int (sa_cons se_int sa_nil))))) sa_nil))) (sa_cons se_int sa_nil))))))))
abbrev s__law_pd_great_crew : Stmt := top 57
theorem sc__law_pd_great_crew : FnScope ["jar", "most", "found", "entries", "many"] ["jar", "most"] (defScope s__law_pd_great_crew) := ⟨rfl, rfl, rfl, by decide +kernel, rfl, by decide +kernel, by decide +kernel⟩
theorem ok__law_pd_great_crew {P : Program} {w : World} {K : PySem.W.Frag} {mg : Str → Option Value} {base : Heap} (T : Txt P K mg base) : Own P w K mg base 5 "_law_pd_great_crew" 2 F__law_pd_great_crew := by
  have nd : (["jar", "most", "found", "entries", "many"] : List Str).Nodup := sc__law_pd_great_crew.nd
  refine own_of (k := 4) T.d__law_pd_great_crew sc__law_pd_great_crew rfl (fun _ _ _ _ _ _ us hl => match us, hl with | [_, _], _ => rfl) (fun f cdv A outer s H E hr => ?_)
  unfold B__law_pd_great_crew
  exact (ss_cons (ss_set (ps_set (i := 2) nd rfl (by first | exact Or.inl rfl | exact Or.inr rfl) (se_new sa_nil))) (ss_cons (ss_for (passes_of rfl) rfl (si_any (se_own (ok__law_pd_crew T) (hr.mono (by decide)) (L2N.takes_of rfl rfl rfl rfl) rfl (sa_cons (se_var 0 (pv 0)) (sa_cons se_int (sa_cons (se_var 1 (pv 1)) (sa_cons se_int sa_nil)))))) (sg_tup rfl (sgs_cons rrT (sg_name (pg_name (i := 3) nd rfl (by first | exact Or.inl rfl | exact Or.inr rfl)) (fun _ _ => trivial)) (sgs_cons rrT (sg_name (pg_name (i := 4) nd rfl (by first | exact Or.inl rfl | exact Or.inr rfl)) (fun _ _ => trivial)) (sgs_nil rrT)))) (ss_one (ss_app (se_var 2 (pv 2)) (se_tup (sa_cons (se_var 3 (pv 3)) (sa_cons (se_if (sb_cmp (of_eq hr.units) (se_own (ok__law_take T) (hr.mono (by decide)) (L2N.takes_of rfl rfl rfl rfl) rfl (sa_cons (se_var 0 (pv 0)) (sa_cons se_int sa_nil))) se_int (nomark _)) (se_var 4 (pv 4)) (se_own (ok__law_pd_great T) (hr.mono (by decide)) (L2N.takes_of rfl rfl rfl rfl) rfl (sa_cons (se_var 0 (pv 0)) sa_nil))) sa_nil)))))) (ss_one (ss_ret (se_ct ct_tuple rfl T.b_tuple (by decide +kernel) (sa_cons (se_var 2 (pv 2)) sa_nil))))))
abbrev s__law_same : Stmt := top 41
theorem sc__law_same : FnScope ["heard", "owed", "key", "at"] ["heard", "owed"] (defScope s__law_same) := ⟨rfl, rfl, rfl, by decide +kernel, rfl, by decide +kernel, by decide +kernel⟩
theorem okR__law_same {P : Program} {w : World} {K : PySem.W.Frag} {mg : Str → Option Value} {base : Heap} (T : Txt P K mg base) : ∀ n : Nat, Own P w K mg base (1 + 1 + n) "_law_same" 2 (R__law_same n)
  | 0 => (show Own P w K mg base _ _ _ (runF _ sNever) from (own_of (k := 1) T.d__law_same sc__law_same rfl (fun _ _ _ _ _ _ us hl => match us, hl with | [_, _], _ => rfl) (fun f cdv A outer s H E hr => sss_never)))
  | n + 1 => by
    have IH := okR__law_same (P := P) (w := w) (base := base) T n
    have nd : (["heard", "owed", "key", "at"] : List Str).Nodup := sc__law_same.nd
    refine own_of (k := 1 + 1 + n) T.d__law_same sc__law_same rfl (fun _ _ _ _ _ _ us hl => match us, hl with | [_, _], _ => rfl) (fun f cdv A outer s H E hr => ?_)
    unfold B__law_same
    exact (ss_cons (ss_if (sb_cmp of_is (se_var 1 (pv 1)) se_non (nomark _)) (ss_one (ss_ret (se_cmp of_is (se_var 0 (pv 0)) se_non (nomark _)))) ss_nil) (ss_cons (ss_if (sb_truth (se_isi (c := .bool) (by decide) rfl T.b_isinstance rfl T.b_bool (by decide +kernel) (se_var 1 (pv 1)))) (ss_one (ss_ret (se_if (sb_truth (se_var 1 (pv 1))) (se_cmp of_is (se_var 0 (pv 0)) se_bl (nomark _)) (se_cmp of_is (se_var 0 (pv 0)) se_bl (nomark _))))) ss_nil) (ss_cons (ss_if (sb_truth (se_isi (c := .int) (by decide) rfl T.b_isinstance rfl T.b_int (by decide +kernel) (se_var 1 (pv 1)))) (ss_one (ss_ret (se_and (se_own (ok__law_is_whole T) (hr.mono (by omega)) (L2N.takes_of rfl rfl rfl rfl) rfl (sa_cons (se_var 0 (pv 0)) sa_nil)) (se_one (se_cmp (of_eq hr.units) (se_var 0 (pv 0)) (se_var 1 (pv 1)) (nomark _)))))) ss_nil) (ss_cons (ss_if (sb_truth (se_isi (c := .str) (by decide) rfl T.b_isinstance rfl T.b_str (by decide +kernel) (se_var 1 (pv 1)))) (ss_one (ss_ret (se_and (se_isi (c := .str) (by decide) rfl T.b_isinstance rfl T.b_str (by decide +kernel) (se_var 0 (pv 0))) (se_one (se_cmp (of_eq hr.units) (se_var 0 (pv 0)) (se_var 1 (pv 1)) (nomark _)))))) ss_nil) (ss_cons (ss_if (sb_truth (se_isi (c := .dict) (by decide) rfl T.b_isinstance rfl T.b_dict (by decide +kernel) (se_var 1 (pv 1)))) (ss_cons (ss_if (sb_w (sw_or (sb_not (sb_truth (se_isi (c := .dict) (by decide) rfl T.b_isinstance rfl T.b_dict (by decide +kernel) (se_var 0 (pv 0))))) (sw_or1 (sb_cmp (of_ne hr.units) (se_cb cb_sorted1 rfl T.b_sorted (by decide +kernel) (sa_cons (se_comp (own := [("key", 2)]) rfl nd (si_keys (se_var 0 (pv 0))) (blkOk_by (by kernel_rfl)) (fun s H C cl fp => (sg_name (pg_name (i := 2) nd rfl (by first | exact Or.inl rfl | exact Or.inr rfl)) (fun σ v => wipe_set σ (by simp)))) (fun s H C cl fp => sts_nil) (fun s H C cl fp => (se_ct ct_str rfl T.b_str (by decide +kernel) (sa_cons (se_var 2 (pv 2)) sa_nil)))) sa_nil)) (se_cb cb_sorted1 rfl T.b_sorted (by decide +kernel) (sa_cons (se_comp (own := [("key", 2)]) rfl nd (si_keys (se_var 1 (pv 1))) (blkOk_by (by kernel_rfl)) (fun s H C cl fp => (sg_name (pg_name (i := 2) nd rfl (by first | exact Or.inl rfl | exact Or.inr rfl)) (fun σ v => wipe_set σ (by simp)))) (fun s H C cl fp => sts_nil) (fun s H C cl fp => (se_ct ct_str rfl T.b_str (by decide +kernel) (sa_cons (se_var 2 (pv 2)) sa_nil)))) sa_nil)) (nomark _))))) (ss_one (ss_ret se_bl)) ss_nil) (ss_one (ss_ret (se_cmp (of_eq hr.units) (se_comp (own := [("key", 2)]) rfl nd (si_keys (se_var 1 (pv 1))) (blkOk_by (by kernel_rfl)) (fun s H C cl fp => (sg_name (pg_name (i := 2) nd rfl (by first | exact Or.inl rfl | exact Or.inr rfl)) (fun σ v => wipe_set σ (by simp)))) (fun s H C cl fp => (sts_one (sb_not (sb_truth (se_own IH (hr.mono (by omega)) takes0N rfl (sa_cons (se_dg (hu_of hr) (se_var 0 (pv 0)) (se_var 2 (pv 2)) (fun _ _ => rfl)) (sa_cons (se_dg (hu_of hr) (se_var 1 (pv 1)) (se_var 2 (pv 2)) (fun _ _ => rfl)) sa_nil))))))) (fun s H C cl fp => (se_var 2 (pv 2)))) (se_lst sa_nil) (nomark _))))) ss_nil) (ss_cons (ss_if (sb_not (sb_truth (se_isiT (by decide) (by decide) rfl T.b_isinstance (pty_cons (c := .tuple) rfl T.b_tuple (by decide +kernel) (pty_cons (c := .list) rfl T.b_list (by decide +kernel) pty_nil)) (se_var 1 (pv 1))))) (ss_one ss_never) ss_nil) (ss_cons (ss_if (sb_w (sw_or (sb_w (sw_and (sb_truth (se_isi (c := .tuple) (by decide) rfl T.b_isinstance rfl T.b_tuple (by decide +kernel) (se_var 1 (pv 1)))) (sw_and1 (sb_not (sb_truth (se_isi (c := .tuple) (by decide) rfl T.b_isinstance rfl T.b_tuple (by decide +kernel) (se_var 0 (pv 0)))))))) (sw_or1 (sb_w (sw_and (sb_truth (se_isi (c := .list) (by decide) rfl T.b_isinstance rfl T.b_list (by decide +kernel) (se_var 1 (pv 1)))) (sw_and1 (sb_not (sb_truth (se_isi (c := .list) (by decide) rfl T.b_isinstance rfl T.b_list (by decide +kernel) (se_var 0 (pv 0))))))))))) (ss_one (ss_ret se_bl)) ss_nil) (ss_cons (ss_if (sb_cmp (of_ne hr.units) (se_cb cb_len rfl T.b_len (by decide +kernel) (sa_cons (se_var 0 (pv 0)) sa_nil)) (se_cb cb_len rfl T.b_len (by decide +kernel) (sa_cons (se_var 1 (pv 1)) sa_nil)) (nomark _)) (ss_one (ss_ret se_bl)) ss_nil) (ss_cons (ss_for (passes_of rfl) rfl (si_r1 (pi_range1 rfl T.b_range (sa_cons (se_cb cb_len rfl T.b_len (by decide +kernel) (sa_cons (se_var 1 (pv 1)) sa_nil)) sa_nil))) (sg_name (pg_name (i := 3) nd rfl (by first | exact Or.inl rfl | exact Or.inr rfl)) (fun _ _ => trivial)) (ss_one (ss_if (sb_not (sb_truth (se_own IH (hr.mono (by omega)) (L2N.takes_of rfl rfl rfl rfl) rfl (sa_cons (se_ix (se_var 0 (pv 0)) (se_var 3 (pv 3)) (fun _ _ => rfl)) (sa_cons (se_ix (se_var 1 (pv 1)) (se_var 3 (pv 3)) (fun _ _ => rfl)) sa_nil))))) (ss_one (ss_ret se_bl)) ss_nil))) (ss_one (ss_ret se_bl)))))))))))
theorem ok__law_same {P : Program} {w : World} {K : PySem.W.Frag} {mg : Str → Option Value} {base : Heap} (T : Txt P K mg base) : Own P w K mg base 10 "_law_same" 2 F__law_same := okR__law_same T 8
abbrev s__law_pu_jar_on : Stmt := top 46
theorem sc__law_pu_jar_on : FnScope ["script", "go", "jar"] ["script", "go", "jar"] (defScope s__law_pu_jar_on) := ⟨rfl, rfl, rfl, by decide +kernel, rfl, by decide +kernel, by decide +kernel⟩
theorem ok__law_pu_jar_on {P : Program} {w : World} {K : PySem.W.Frag} {mg : Str → Option Value} {base : Heap} (T : Txt P K mg base) : Own P w K mg base 2 "_law_pu_jar_on" 3 F__law_pu_jar_on := by
  have nd : (["script", "go", "jar"] : List Str).Nodup := sc__law_pu_jar_on.nd
  refine own_of (k := 1) T.d__law_pu_jar_on sc__law_pu_jar_on rfl (fun _ _ _ _ _ _ us hl => match us, hl with | [_, _, _], _ => rfl) (fun f cdv A outer s H E hr => ?_)
  unfold B__law_pu_jar_on
  exact (ss_one (ss_ret (se_if (sb_w (sw_or (sb_cmp of_is (se_var 2 (pv 2)) se_non (nomark _)) (sw_or1 (sb_cmp of_lt (se_var 1 (pv 1)) (se_cb cb_len rfl T.b_len (by decide +kernel) (sa_cons (se_var 0 (pv 0)) sa_nil)) (nomark _))))) (se_own (ok__law_pool T) (hr.mono (by decide)) (L2N.takes_of rfl rfl rfl rfl) rfl (sa_cons (se_var 0 (pv 0)) (sa_cons (se_var 1 (pv 1)) sa_nil))) (se_var 2 (pv 2)))))
abbrev s__law_pu_least_of : Stmt := top 59
theorem sc__law_pu_least_of : FnScope ["entries", "one"] ["entries"] (defScope s__law_pu_least_of) := ⟨rfl, rfl, rfl, by decide +kernel, rfl, by decide +kernel, by decide +kernel⟩
theorem ok__law_pu_least_of {P : Program} {w : World} {K : PySem.W.Frag} {mg : Str → Option Value} {base : Heap} (T : Txt P K mg base) : Own P w K mg base 1 "_law_pu_least_of" 1 F__law_pu_least_of := by
  have nd : (["entries", "one"] : List Str).Nodup := sc__law_pu_least_of.nd
  refine own_of (k := 0) T.d__law_pu_least_of sc__law_pu_least_of rfl (fun _ _ _ _ _ _ us hl => match us, hl with | [_], _ => rfl) (fun f cdv A outer s H E hr => ?_)
  unfold B__law_pu_least_of
  exact (ss_one (ss_ret (se_cb cb_len rfl T.b_len (by decide +kernel) (sa_cons (se_comp (own := [("one", 1)]) rfl nd (si_any (se_var 0 (pv 0))) (blkOk_by (by kernel_rfl)) (fun s H C cl fp => (sg_name (pg_name (i := 1) nd rfl (by first | exact Or.inl rfl | exact Or.inr rfl)) (fun σ v => wipe_set σ (by simp)))) (fun s H C cl fp => (sts_one (sb_cmp of_is (se_var 1 (pv 1)) se_non (nomark _)))) (fun s H C cl fp => (se_var 1 (pv 1)))) sa_nil))))
abbrev s__law_pu_span : Stmt := top 60
theorem sc__law_pu_span : FnScope ["kinds", "entries", "many"] ["kinds"] (defScope s__law_pu_span) := ⟨rfl, rfl, rfl, by decide +kernel, rfl, by decide +kernel, by decide +kernel⟩
theorem ok__law_pu_span {P : Program} {w : World} {K : PySem.W.Frag} {mg : Str → Option Value} {base : Heap} (T : Txt P K mg base) : Own P w K mg base 2 "_law_pu_span" 1 F__law_pu_span := by
  have nd : (["kinds", "entries", "many"] : List Str).Nodup := sc__law_pu_span.nd
  refine own_of (k := 1) T.d__law_pu_span sc__law_pu_span rfl (fun _ _ _ _ _ _ us hl => match us, hl with | [_], _ => rfl) (fun f cdv A outer s H E hr => ?_)
  unfold B__law_pu_span
  exact (ss_one (ss_ret (se_cb (cb_max rfl) rfl T.b_max (by decide +kernel) (sa_cons (se_op of_add (se_lst (sa_cons se_int sa_nil)) (se_comp (own := [("entries", 1), ("many", 2)]) rfl nd (si_any (se_var 0 (pv 0))) (blkOk_by (by kernel_rfl)) (fun s H C cl fp => (sg_tup rfl (sgs_cons (rrW _) (sg_name (pg_name (i := 1) nd rfl (by first | exact Or.inl rfl | exact Or.inr rfl)) (fun σ v => wipe_set σ (by simp))) (sgs_cons (rrW _) (sg_name (pg_name (i := 2) nd rfl (by first | exact Or.inl rfl | exact Or.inr rfl)) (fun σ v => wipe_set σ (by simp))) (sgs_nil (rrW _)))))) (fun s H C cl fp => (sts_one (sb_cmp of_gt (se_var 2 (pv 2)) se_int (nomark _)))) (fun s H C cl fp => (se_ct ct_int rfl T.b_int (by decide +kernel) (sa_cons (se_op of_sub (se_op of_sub (se_cb cb_len rfl T.b_len (by decide +kernel) (sa_cons (se_var 1 (pv 1)) sa_nil)) se_int) (se_own (ok__law_pu_least_of T) (hr.mono (by decide)) takes0N rfl (sa_cons (se_var 1 (pv 1)) sa_nil))) sa_nil))))) sa_nil))))
abbrev s__law_pu_ends : Stmt := top 61
theorem sc__law_pu_ends : FnScope ["kinds", "entries", "many", "least"] ["kinds"] (defScope s__law_pu_ends) := ⟨rfl, rfl, rfl, by decide +kernel, rfl, by decide +kernel, by decide +kernel⟩
theorem ok__law_pu_ends {P : Program} {w : World} {K : PySem.W.Frag} {mg : Str → Option Value} {base : Heap} (T : Txt P K mg base) : Own P w K mg base 2 "_law_pu_ends" 1 F__law_pu_ends := by
  have nd : (["kinds", "entries", "many", "least"] : List Str).Nodup := sc__law_pu_ends.nd
  refine own_of (k := 1) T.d__law_pu_ends sc__law_pu_ends rfl (fun _ _ _ _ _ _ us hl => match us, hl with | [_], _ => rfl) (fun f cdv A outer s H E hr => ?_)
  unfold B__law_pu_ends
  exact (ss_cons (ss_set (ps_set (i := 3) nd rfl (by first | exact Or.inl rfl | exact Or.inr rfl) (se_cb (cb_sum rfl) rfl T.b_sum (by decide +kernel) (sa_cons (se_comp (own := [("entries", 1), ("many", 2)]) rfl nd (si_any (se_var 0 (pv 0))) (blkOk_by (by kernel_rfl)) (fun s H C cl fp => (sg_tup rfl (sgs_cons (rrW _) (sg_name (pg_name (i := 1) nd rfl (by first | exact Or.inl rfl | exact Or.inr rfl)) (fun σ v => wipe_set σ (by simp))) (sgs_cons (rrW _) (sg_name (pg_name (i := 2) nd rfl (by first | exact Or.inl rfl | exact Or.inr rfl)) (fun σ v => wipe_set σ (by simp))) (sgs_nil (rrW _)))))) (fun s H C cl fp => sts_nil) (fun s H C cl fp => (se_op of_mul (se_own (ok__law_pu_least_of T) (hr.mono (by decide)) takes0N rfl (sa_cons (se_var 1 (pv 1)) sa_nil)) (se_var 2 (pv 2))))) sa_nil)))) (ss_one (ss_ret (se_tup (sa_cons (se_var 3 (pv 3)) (sa_cons (se_cb (cb_sum rfl) rfl T.b_sum (by decide +kernel) (sa_cons (se_comp (own := [("entries", 1), ("many", 2)]) rfl nd (si_any (se_var 0 (pv 0))) (blkOk_by (by kernel_rfl)) (fun s H C cl fp => (sg_tup rfl (sgs_cons (rrW _) (sg_name (pg_name (i := 1) nd rfl (by first | exact Or.inl rfl | exact Or.inr rfl)) (fun σ v => wipe_set σ (by simp))) (sgs_cons (rrW _) (sg_name (pg_name (i := 2) nd rfl (by first | exact Or.inl rfl | exact Or.inr rfl)) (fun σ v => wipe_set σ (by simp))) (sgs_nil (rrW _)))))) (fun s H C cl fp => sts_nil) (fun s H C cl fp => (se_op of_mul (se_op of_sub (se_cb cb_len rfl T.b_len (by decide +kernel) (sa_cons (se_var 1 (pv 1)) sa_nil)) se_int) (se_var 2 (pv 2))))) sa_nil)) sa_nil))))))
abbrev s__law_pu_classes : Stmt := top 42
theorem sc__law_pu_classes : FnScope ["refused_one"] ["refused_one"] (defScope s__law_pu_classes) := ⟨rfl, rfl, rfl, by decide +kernel, rfl, by decide +kernel, by decide +kernel⟩
theorem ok__law_pu_classes {P : Program} {w : World} {K : PySem.W.Frag} {mg : Str → Option Value} {base : Heap} (T : Txt P K mg base) {p : Addr × Obj} {c : Str} {C d : Addr} (PX : PinX p C d) (XA : XcA K mg xnames c C) : OwnH P w K mg base 1 p "_law_pu_classes" 1 (runF 1 (B__law_pu_classes p.1 d c)) := by
  have nd : (["refused_one"] : List Str).Nodup := sc__law_pu_classes.nd
  refine ownH_of (k := 0) T.d__law_pu_classes sc__law_pu_classes rfl (fun _ _ _ _ _ _ us hl => match us, hl with | [_], _ => rfl) (fun f cdv A outer s H E hot hr => ?_)
  unfold B__law_pu_classes
  exact (ss_one (ss_ret (se_lst (sa_cons (se_tup (sa_cons se_str (sa_cons (se_isXc List.mem_cons_self PX XA (by decide +kernel) rfl T.b_isinstance rfl (se_var 0 (pv 0))) sa_nil))) (sa_cons (se_tup (sa_cons se_str (sa_cons (se_isXc List.mem_cons_self PX XA (by decide +kernel) rfl T.b_isinstance rfl (se_var 0 (pv 0))) sa_nil))) (sa_cons (se_tup (sa_cons se_str (sa_cons (se_isXc List.mem_cons_self PX XA (by decide +kernel) rfl T.b_isinstance rfl (se_var 0 (pv 0))) sa_nil))) (sa_cons (se_tup (sa_cons se_str (sa_cons (se_isXc List.mem_cons_self PX XA (by decide +kernel) rfl T.b_isinstance rfl (se_var 0 (pv 0))) sa_nil))) (sa_cons (se_tup (sa_cons se_str (sa_cons (se_isXc List.mem_cons_self PX XA (by decide +kernel) rfl T.b_isinstance rfl (se_var 0 (pv 0))) sa_nil))) (sa_cons (se_tup (sa_cons se_str (sa_cons (se_isXc List.mem_cons_self PX XA (by decide +kernel) rfl T.b_isinstance rfl (se_var 0 (pv 0))) sa_nil))) (sa_cons (se_tup (sa_cons se_str (sa_cons (se_isXc List.mem_cons_self PX XA (by decide +kernel) rfl T.b_isinstance rfl (se_var 0 (pv 0))) sa_nil))) (sa_cons (se_tup (sa_cons se_str (sa_cons (se_isXc List.mem_cons_self PX XA (by decide +kernel) rfl T.b_isinstance rfl (se_var 0 (pv 0))) sa_nil))) (sa_cons (se_tup (sa_cons se_str (sa_cons (se_isXc List.mem_cons_self PX XA (by decide +kernel) rfl T.b_isinstance rfl (se_var 0 (pv 0))) sa_nil))) (sa_cons (se_tup (sa_cons se_str (sa_cons (se_isXc List.mem_cons_self PX XA (by decide +kernel) rfl T.b_isinstance rfl (se_var 0 (pv 0))) sa_nil))) (sa_cons (se_tup (sa_cons se_str (sa_cons (se_isXc List.mem_cons_self PX XA (by decide +kernel) rfl T.b_isinstance rfl (se_var 0 (pv 0))) sa_nil))) (sa_cons (se_tup (sa_cons se_str (sa_cons (se_isXc List.mem_cons_self PX XA (by decide +kernel) rfl T.b_isinstance rfl (se_var 0 (pv 0))) sa_nil))) (sa_cons (se_tup (sa_cons se_str (sa_cons (se_isXc List.mem_cons_self PX XA (by decide +kernel) rfl T.b_isinstance rfl (se_var 0 (pv 0))) sa_nil))) (sa_cons (se_tup (sa_cons se_str (sa_cons (se_isXc List.mem_cons_self PX XA (by decide +kernel) rfl T.b_isinstance rfl (se_var 0 (pv 0))) sa_nil))) (sa_cons (se_tup (sa_cons se_str (sa_cons (se_isXc List.mem_cons_self PX XA (by decide +kernel) rfl T.b_isinstance rfl (se_var 0 (pv 0))) sa_nil))) (sa_cons (se_tup (sa_cons se_str (sa_cons (se_isXc List.mem_cons_self PX XA (by decide +kernel) rfl T.b_isinstance rfl (se_var 0 (pv 0))) sa_nil))) (sa_cons (se_tup (sa_cons se_str (sa_cons (se_isXc List.mem_cons_self PX XA (by decide +kernel) rfl T.b_isinstance rfl (se_var 0 (pv 0))) sa_nil))) (sa_cons (se_tup (sa_cons se_str (sa_cons (se_isXc List.mem_cons_self PX XA (by decide +kernel) rfl T.b_isinstance rfl (se_var 0 (pv 0))) sa_nil))) (sa_cons (se_tup (sa_cons se_str (sa_cons (se_isXc List.mem_cons_self PX XA (by decide +kernel) rfl T.b_isinstance rfl (se_var 0 (pv 0))) sa_nil))) sa_nil))))))))))))))))))))))
abbrev s__law_pu_field : Stmt := top 43
theorem sc__law_pu_field : FnScope ["name", "refused_one"] ["name", "refused_one"] (defScope s__law_pu_field) := ⟨rfl, rfl, rfl, by decide +kernel, rfl, by decide +kernel, by decide +kernel⟩
theorem ok__law_pu_field {P : Program} {w : World} {K : PySem.W.Frag} {mg : Str → Option Value} {base : Heap} (T : Txt P K mg base) {p : Addr × Obj} {c : Str} {C d : Addr} (PX : PinX p C d) (XA : XcA K mg xnames c C) : OwnH P w K mg base 1 p "_law_pu_field" 2 (runF 2 (B__law_pu_field p.1 d c)) := by
  have nd : (["name", "refused_one"] : List Str).Nodup := sc__law_pu_field.nd
  refine ownH_of (k := 0) T.d__law_pu_field sc__law_pu_field rfl (fun _ _ _ _ _ _ us hl => match us, hl with | [_, _], _ => rfl) (fun f cdv A outer s H E hot hr => ?_)
  unfold B__law_pu_field
  exact (ss_cons (ss_if (sb_cmp (of_eq hr.units) (se_var 0 (pv 0)) se_str (nomark _)) (ss_one (ss_ret (se_xfc List.mem_cons_self PX XA (by decide) (se_var 1 (pv 1))))) ss_nil) (ss_cons (ss_if (sb_cmp (of_eq hr.units) (se_var 0 (pv 0)) se_str (nomark _)) (ss_one (ss_ret (se_xfc List.mem_cons_self PX XA (by decide) (se_var 1 (pv 1))))) ss_nil) (ss_cons (ss_if (sb_w (sw_or (sb_cmp of_in (se_var 0 (pv 0)) (se_lst (sa_cons se_str (sa_cons se_str (sa_cons se_str sa_nil)))) rfl) (sw_or1 (sb_cmp of_in se_str (se_var 0 (pv 0)) rfl)))) (ss_one (ss_ret se_non)) ss_nil) (ss_one (ss_ret (se_xfc List.mem_cons_self PX XA (by decide) (se_var 1 (pv 1))))))))
abbrev s__law_pu_heard : Stmt := top 44
theorem sc__law_pu_heard : FnScope ["deed", "refused_one", "line", "name"] ["deed"] (defScope s__law_pu_heard) := ⟨rfl, rfl, rfl, by decide +kernel, rfl, by decide +kernel, by decide +kernel⟩
theorem hR__law_pu_heard (f : Addr) : ∀ c fl, (c, fl) ∈ good → ∀ aa dd v S, B__law_pu_heard_suite aa dd c ((startD 4 [.raw (.ref f)]).set 1 (some (.exn aa dd c [(fl, v)]))) S = .rt (.tup [.str c, v]) S := by
  exact hR f
theorem ok__law_pu_heard {P : Program} {w : World} {K : PySem.W.Frag} {mg : Str → Option Value} {base : Heap} (T : Txt P K mg base) : HeardOk P w K mg base 13 12 "_law_pu_heard" good := by
  have nd : (["deed", "refused_one", "line", "name"] : List Str).Nodup := sc__law_pu_heard.nd
  refine heardOk_of (k := 12) T.d__law_pu_heard sc__law_pu_heard (fun _ _ _ _ _ _ us hl => match us, hl with | [_], _ => rfl) (fun fn cdv A outer s H E G0 f g hr TH => pss_one ?_)
  refine ps_heard (fsu := fun a d c _ => B__law_pu_heard_suite a d c) (cs := xnames.map (clsV mg)) (i := 1) rfl rfl rfl nd rfl rfl (.cons rfl (nm_of (T.nm "InvalidBody" (by decide +kernel))) rfl (.cons rfl (nm_of (T.nm "InvalidChoice" (by decide +kernel))) rfl (.cons rfl (nm_of (T.nm "InvalidCommand" (by decide +kernel))) rfl (.cons rfl (nm_of (T.nm "InvalidCondition" (by decide +kernel))) rfl (.cons rfl (nm_of (T.nm "InvalidName" (by decide +kernel))) rfl (.cons rfl (nm_of (T.nm "InvalidNumber" (by decide +kernel))) rfl (.cons rfl (nm_of (T.nm "InvalidPaper" (by decide +kernel))) rfl (.cons rfl (nm_of (T.nm "InvalidProgram" (by decide +kernel))) rfl (.cons rfl (nm_of (T.nm "InvalidSize" (by decide +kernel))) rfl (.cons rfl (nm_of (T.nm "InvalidState" (by decide +kernel))) rfl (.cons rfl (nm_of (T.nm "NothingToRedo" (by decide +kernel))) rfl (.cons rfl (nm_of (T.nm "NothingToUndo" (by decide +kernel))) rfl (.cons rfl (nm_of (T.nm "ParseError" (by decide +kernel))) rfl (.cons rfl (nm_of (T.nm "TooMany" (by decide +kernel))) rfl (.cons rfl (nm_of (T.nm "InvalidCast" (by decide +kernel))) rfl (.cons rfl (nm_of (T.nm "InvalidCrew" (by decide +kernel))) rfl (.cons rfl (nm_of (T.nm "InvalidDeed" (by decide +kernel))) rfl (.cons rfl (nm_of (T.nm "InvalidRise" (by decide +kernel))) rfl (.cons rfl (nm_of (T.nm "Unkept" (by decide +kernel))) rfl .nil))))))))))))))))))) (by rw [List.length_map, sizeLine_eq]; exact (by decide : xnames.length ≤ 16777216)) TH hr rfl (.inl rfl) rfl rfl ?_ ?_ ?_ (hR__law_pu_heard f)
  · intro c fl hm C hC
    obtain ⟨C', e, XA⟩ := T.xc c fl hm
    have e2 : mg c = some (.ref C) := hC
    rw [e2] at e; cases e
    exact XA.exm
  · intro c fl hm
    obtain ⟨C', e, XA⟩ := T.xc c fl hm
    exact ⟨C', e⟩
  · intro p c fl C d pn hm hC PX hot
    obtain ⟨C', e, XA⟩ := T.xc c fl hm
    have e2 : mg c = some (.ref C) := hC
    rw [e2] at e; cases e
    have hh : L2H.RoomH 12 ((cxOf (L2N.CX P w) P w K mg base ["deed", "refused_one", "line", "name"] "_law_pu_heard" (defScope s__law_pu_heard) fn cdv A outer s H E).suite p.1 (p :: pn)).A := ⟨hr.dp, hr.un⟩
    unfold B__law_pu_heard_suite
    exact (ss_cons (ss_set (ps_set (i := 3) nd rfl (by first | exact Or.inl rfl | exact Or.inr rfl) (se_join se_str (se_hotComp hot.hot (se_ownH (ok__law_pu_classes T PX XA) (hh.mono (by decide)) hot takes0N rfl (sa_cons (se_var 1 (pv 1)) sa_nil)) rfl (by decide +kernel) (by decide +kernel) (by decide +kernel) rfl rfl)))) (ss_one (ss_ret (se_tup (sa_cons (se_var 3 (pv 3)) (sa_cons (se_ownH (ok__law_pu_field T PX XA) (hh.mono (by decide)) hot takes0N rfl (sa_cons (se_var 3 (pv 3)) (sa_cons (se_var 1 (pv 1)) sa_nil))) sa_nil))))))
abbrev s__law_pu_refuses : Stmt := top 45
theorem sc__law_pu_refuses : FnScope ["deed", "name", "what"] ["deed", "name", "what"] (defScope s__law_pu_refuses) := ⟨rfl, rfl, rfl, by decide +kernel, rfl, by decide +kernel, by decide +kernel⟩
theorem ok__law_pu_refuses {P : Program} {w : World} {K : PySem.W.Frag} {mg : Str → Option Value} {base : Heap} (T : Txt P K mg base) : RefOk P w K mg base 14 12 "_law_pu_refuses" good F__law_same :=
  refOk_of (k := 13) T.d__law_pu_refuses sc__law_pu_refuses (fun _ _ _ _ _ _ us hl => match us, hl with | [_, _, _], _ => rfl) rfl (ok__law_pu_heard T) ((ok__law_same T).mono (by decide)) rfl rfl rfl rfl rfl rfl rfl rfl rfl rfl
abbrev s_Crew : Stmt := clsAt (top 38) 0
theorem sc_Crew : FnScope ["self", "kinds", "kind", "values", "many"] ["self", "kinds"] (defScope s_Crew) := ⟨rfl, rfl, rfl, by decide +kernel, rfl, by decide +kernel, by decide +kernel⟩
theorem ok_Crew {P : Program} {w : World} {K : PySem.W.Frag} {mg : Str → Option Value} {base : Heap} (T : Txt P K mg base) : MakeOwn P w K mg base 5 "Crew" 1 F_Crew := by
  have nd : (["self", "kinds", "kind", "values", "many"] : List Str).Nodup := sc_Crew.nd
  obtain ⟨C, h1, h2, h3⟩ := T.in_Crew
  refine makeOwn_of (k := 4) h1 h2 h3 sc_Crew rfl (fun _ _ _ _ _ _ us hl => match us, hl with | [_, _], _ => rfl) rfl (fun f cdv A outer s H E hr => ⟨?_, ?_, ?_, pv 0, by first | rfl | with_unfolding_all rfl⟩)
  · exact (ss_if (sb_w (sw_or (sb_not (sb_truth (se_own (ok_is_row T) (hr.mono (by decide)) (L2N.takes_of rfl rfl rfl rfl) rfl (sa_cons (se_var 1 (pv 1)) sa_nil)))) (sw_or1 (sb_not (sb_chain of_le of_le se_int (se_cb cb_len rfl T.b_len (by decide +kernel) (sa_cons (se_var 1 (pv 1)) sa_nil)) (se_gint rfl (T.i_MOST_KINDS).choose_spec)))))) (ss_one (ss_raiseT (k := 1) T.xs_InvalidCrew rfl (L2N.takes_of rfl rfl rfl rfl) (hr.mono (by decide)) (se_var 1 (pv 1)) rfl)) ss_nil)
  · exact (ss_for (passes_of rfl) rfl (si_any (se_var 1 (pv 1))) (sg_name (pg_name (i := 2) nd rfl (by first | exact Or.inl rfl | exact Or.inr rfl)) (fun _ _ => trivial)) (ss_one (ss_if (sb_not (sb_truth (se_own (ok_is_kind T) (hr.mono (by decide)) (L2N.takes_of rfl rfl rfl rfl) rfl (sa_cons (se_var 2 (pv 2)) sa_nil)))) (ss_one (ss_raiseT (k := 1) T.xs_InvalidCrew rfl (L2N.takes_of rfl rfl rfl rfl) (hr.mono (by decide)) (se_var 2 (pv 2)) rfl)) ss_nil)))
  · exact (se_ct ct_tuple rfl T.b_tuple (by decide +kernel) (sa_cons (se_comp (own := [("values", 3), ("many", 4)]) rfl nd (si_any (se_var 1 (pv 1))) (blkOk_by (by kernel_rfl)) (fun s H C cl fp => (sg_tup rfl (sgs_cons (rrW _) (sg_name (pg_name (i := 3) nd rfl (by first | exact Or.inl rfl | exact Or.inr rfl)) (fun σ v => wipe_set σ (by simp))) (sgs_cons (rrW _) (sg_name (pg_name (i := 4) nd rfl (by first | exact Or.inl rfl | exact Or.inr rfl)) (fun σ v => wipe_set σ (by simp))) (sgs_nil (rrW _)))))) (fun s H C cl fp => sts_nil) (fun s H C cl fp => (se_tup (sa_cons (se_var 3 (pv 3)) (sa_cons (se_var 4 (pv 4)) sa_nil))))) sa_nil))
theorem hind_Crew : ∀ v ds S, ds.length = 1 → F_Crew (.raw v :: ds) S = F_Crew (.raw .non :: ds) S := by
  exact fun v ds S h => hind_crew v ds S h
abbrev s_Crew_all_kinds : Stmt := clsAt (top 38) 1
theorem sc_Crew_all_kinds : FnScope ["self"] ["self"] (defScope s_Crew_all_kinds) := ⟨rfl, rfl, rfl, by decide +kernel, rfl, by decide +kernel, by decide +kernel⟩
theorem ok_Crew_all_kinds {P : Program} {w : World} {K : PySem.W.Frag} {mg : Str → Option Value} {base : Heap} (T : Txt P K mg base) : PropOwn P w K mg base 1 "Crew" "all_kinds" F_Crew_all_kinds := by
  have nd : (["self"] : List Str).Nodup := sc_Crew_all_kinds.nd
  obtain ⟨C, h1, h2⟩ := T.pr_Crew_all_kinds
  refine propOwn_of (k := 0) h1 h2 sc_Crew_all_kinds rfl (fun _ _ _ _ _ _ us hl => match us, hl with | [_], _ => rfl) (fun f cdv A outer s H E hr => ?_)
  unfold B_Crew_all_kinds
  exact (ss_one (ss_ret (se_fldT T.fl_Crew_own_kinds (se_var 0 (pv 0)))))
abbrev s_Crew_members : Stmt := clsAt (top 38) 2
theorem sc_Crew_members : FnScope ["self", "values", "many"] ["self"] (defScope s_Crew_members) := ⟨rfl, rfl, rfl, by decide +kernel, rfl, by decide +kernel, by decide +kernel⟩
theorem ok_Crew_members {P : Program} {w : World} {K : PySem.W.Frag} {mg : Str → Option Value} {base : Heap} (T : Txt P K mg base) : PropOwn P w K mg base 1 "Crew" "members" F_Crew_members := by
  have nd : (["self", "values", "many"] : List Str).Nodup := sc_Crew_members.nd
  obtain ⟨C, h1, h2⟩ := T.pr_Crew_members
  refine propOwn_of (k := 0) h1 h2 sc_Crew_members rfl (fun _ _ _ _ _ _ us hl => match us, hl with | [_], _ => rfl) (fun f cdv A outer s H E hr => ?_)
  unfold B_Crew_members
  exact (ss_one (ss_ret (se_cb (cb_sum rfl) rfl T.b_sum (by decide +kernel) (sa_cons (se_comp (own := [("values", 1), ("many", 2)]) rfl nd (si_any (se_fldT T.fl_Crew_own_kinds (se_var 0 (pv 0)))) (blkOk_by (by kernel_rfl)) (fun s H C cl fp => (sg_tup rfl (sgs_cons (rrW _) (sg_name (pg_name (i := 1) nd rfl (by first | exact Or.inl rfl | exact Or.inr rfl)) (fun σ v => wipe_set σ (by simp))) (sgs_cons (rrW _) (sg_name (pg_name (i := 2) nd rfl (by first | exact Or.inl rfl | exact Or.inr rfl)) (fun σ v => wipe_set σ (by simp))) (sgs_nil (rrW _)))))) (fun s H C cl fp => sts_nil) (fun s H C cl fp => (se_var 2 (pv 2)))) sa_nil))))
abbrev s_Crew_least : Stmt := clsAt (top 38) 3
theorem sc_Crew_least : FnScope ["self", "values", "many"] ["self"] (defScope s_Crew_least) := ⟨rfl, rfl, rfl, by decide +kernel, rfl, by decide +kernel, by decide +kernel⟩
theorem ok_Crew_least {P : Program} {w : World} {K : PySem.W.Frag} {mg : Str → Option Value} {base : Heap} (T : Txt P K mg base) : PropOwn P w K mg base 2 "Crew" "least" F_Crew_least := by
  have nd : (["self", "values", "many"] : List Str).Nodup := sc_Crew_least.nd
  obtain ⟨C, h1, h2⟩ := T.pr_Crew_least
  refine propOwn_of (k := 1) h1 h2 sc_Crew_least rfl (fun _ _ _ _ _ _ us hl => match us, hl with | [_], _ => rfl) (fun f cdv A outer s H E hr => ?_)
  unfold B_Crew_least
  exact (ss_one (ss_ret (se_cb (cb_sum rfl) rfl T.b_sum (by decide +kernel) (sa_cons (se_comp (own := [("values", 1), ("many", 2)]) rfl nd (si_any (se_fldT T.fl_Crew_own_kinds (se_var 0 (pv 0)))) (blkOk_by (by kernel_rfl)) (fun s H C cl fp => (sg_tup rfl (sgs_cons (rrW _) (sg_name (pg_name (i := 1) nd rfl (by first | exact Or.inl rfl | exact Or.inr rfl)) (fun σ v => wipe_set σ (by simp))) (sgs_cons (rrW _) (sg_name (pg_name (i := 2) nd rfl (by first | exact Or.inl rfl | exact Or.inr rfl)) (fun σ v => wipe_set σ (by simp))) (sgs_nil (rrW _)))))) (fun s H C cl fp => sts_nil) (fun s H C cl fp => (se_op of_mul (se_own (ok_least_of T) (hr.mono (by decide)) takes0N rfl (sa_cons (se_var 1 (pv 1)) sa_nil)) (se_var 2 (pv 2))))) sa_nil))))
abbrev s_Crew_full : Stmt := clsAt (top 38) 4
theorem sc_Crew_full : FnScope ["self", "values", "many"] ["self"] (defScope s_Crew_full) := ⟨rfl, rfl, rfl, by decide +kernel, rfl, by decide +kernel, by decide +kernel⟩
theorem ok_Crew_full {P : Program} {w : World} {K : PySem.W.Frag} {mg : Str → Option Value} {base : Heap} (T : Txt P K mg base) : PropOwn P w K mg base 2 "Crew" "full" F_Crew_full := by
  have nd : (["self", "values", "many"] : List Str).Nodup := sc_Crew_full.nd
  obtain ⟨C, h1, h2⟩ := T.pr_Crew_full
  refine propOwn_of (k := 1) h1 h2 sc_Crew_full rfl (fun _ _ _ _ _ _ us hl => match us, hl with | [_], _ => rfl) (fun f cdv A outer s H E hr => ?_)
  unfold B_Crew_full
  exact (ss_one (ss_ret (se_cb (cb_sum rfl) rfl T.b_sum (by decide +kernel) (sa_cons (se_comp (own := [("values", 1), ("many", 2)]) rfl nd (si_any (se_fldT T.fl_Crew_own_kinds (se_var 0 (pv 0)))) (blkOk_by (by kernel_rfl)) (fun s H C cl fp => (sg_tup rfl (sgs_cons (rrW _) (sg_name (pg_name (i := 1) nd rfl (by first | exact Or.inl rfl | exact Or.inr rfl)) (fun σ v => wipe_set σ (by simp))) (sgs_cons (rrW _) (sg_name (pg_name (i := 2) nd rfl (by first | exact Or.inl rfl | exact Or.inr rfl)) (fun σ v => wipe_set σ (by simp))) (sgs_nil (rrW _)))))) (fun s H C cl fp => sts_nil) (fun s H C cl fp => (se_op of_mul (se_own (ok_quota_of T) (hr.mono (by decide)) takes0N rfl (sa_cons (se_var 1 (pv 1)) sa_nil)) (se_var 2 (pv 2))))) sa_nil))))
abbrev s_Crew_span : Stmt := clsAt (top 38) 5
theorem sc_Crew_span : FnScope ["self", "values", "many"] ["self"] (defScope s_Crew_span) := ⟨rfl, rfl, rfl, by decide +kernel, rfl, by decide +kernel, by decide +kernel⟩
theorem ok_Crew_span {P : Program} {w : World} {K : PySem.W.Frag} {mg : Str → Option Value} {base : Heap} (T : Txt P K mg base) : PropOwn P w K mg base 3 "Crew" "span" F_Crew_span := by
  have nd : (["self", "values", "many"] : List Str).Nodup := sc_Crew_span.nd
  obtain ⟨C, h1, h2⟩ := T.pr_Crew_span
  refine propOwn_of (k := 2) h1 h2 sc_Crew_span rfl (fun _ _ _ _ _ _ us hl => match us, hl with | [_], _ => rfl) (fun f cdv A outer s H E hr => ?_)
  unfold B_Crew_span
  exact (ss_one (ss_ret (se_cb (cb_max rfl) rfl T.b_max (by decide +kernel) (sa_cons (se_lst (sa_cons se_int (sa_star (se_comp (own := [("values", 1), ("many", 2)]) rfl nd (si_any (se_fldT T.fl_Crew_own_kinds (se_var 0 (pv 0)))) (blkOk_by (by kernel_rfl)) (fun s H C cl fp => (sg_tup rfl (sgs_cons (rrW _) (sg_name (pg_name (i := 1) nd rfl (by first | exact Or.inl rfl | exact Or.inr rfl)) (fun σ v => wipe_set σ (by simp))) (sgs_cons (rrW _) (sg_name (pg_name (i := 2) nd rfl (by first | exact Or.inl rfl | exact Or.inr rfl)) (fun σ v => wipe_set σ (by simp))) (sgs_nil (rrW _)))))) (fun s H C cl fp => (sts_one (sb_cmp of_gt (se_var 2 (pv 2)) se_int (nomark _)))) (fun s H C cl fp => (se_own (ok_span_of T) (hr.mono (by decide)) takes0N rfl (sa_cons (se_var 1 (pv 1)) sa_nil)))) sa_nil))) sa_nil))))
abbrev s_Crew___eq__ : Stmt := clsAt (top 38) 6
theorem sc_Crew___eq__ : FnScope ["self", "other"] ["self", "other"] (defScope s_Crew___eq__) := ⟨rfl, rfl, rfl, by decide +kernel, rfl, by decide +kernel, by decide +kernel⟩
theorem ok_Crew___eq__ {P : Program} {w : World} {K : PySem.W.Frag} {mg : Str → Option Value} {base : Heap} (T : Txt P K mg base) : EqOwn P w K mg base 1 "Crew" F_Crew___eq__ := by
  have nd : (["self", "other"] : List Str).Nodup := sc_Crew___eq__.nd
  obtain ⟨C, h1, h2⟩ := T.eq_Crew
  refine eqOwn_of (k := 0) h1 h2 sc_Crew___eq__ rfl (fun _ _ _ _ _ _ us hl => match us, hl with | [_, _], _ => rfl) (fun f cdv A outer s H E hr => ?_)
  unfold B_Crew___eq__
  exact (ss_one (ss_ret (se_and (se_isCT T.ct_Crew rfl T.b_isinstance rfl (se_var 1 (pv 1))) (se_one (se_cmp (of_eq hr.units) (se_fldT T.fl_Crew_own_kinds (se_var 0 (pv 0))) (se_fldT T.fl_Crew_own_kinds (se_var 1 (pv 1))) (nomark _))))))
abbrev s_Crew_look_at_kind : Stmt := clsAt (top 38) 7
theorem sc_Crew_look_at_kind : FnScope ["self", "kind"] ["self", "kind"] (defScope s_Crew_look_at_kind) := ⟨rfl, rfl, rfl, by decide +kernel, rfl, by decide +kernel, by decide +kernel⟩
theorem ok_Crew_look_at_kind {P : Program} {w : World} {K : PySem.W.Frag} {mg : Str → Option Value} {base : Heap} (T : Txt P K mg base) : MethOwn P w K mg base 3 "Crew" "look_at_kind" 1 F_Crew_look_at_kind := by
  have nd : (["self", "kind"] : List Str).Nodup := sc_Crew_look_at_kind.nd
  obtain ⟨C, h1, h2⟩ := T.me_Crew_look_at_kind
  refine methOwn_of (k := 2) h1 h2 sc_Crew_look_at_kind rfl (fun _ _ _ _ _ _ us hl => match us, hl with | [_, _], _ => rfl) (fun f cdv A outer s H E hr => ?_)
  unfold B_Crew_look_at_kind
  exact (ss_one (ss_if (sb_not (sb_truth (se_own (ok_is_between T) (hr.mono (by decide)) (L2N.takes_of rfl rfl rfl rfl) rfl (sa_cons (se_var 1 (pv 1)) (sa_cons se_int (sa_cons (se_op of_sub (se_cb cb_len rfl T.b_len (by decide +kernel) (sa_cons (se_fldT T.fl_Crew_own_kinds (se_var 0 (pv 0))) sa_nil)) se_int) sa_nil)))))) (ss_one (ss_raiseT (k := 1) T.xs_InvalidNumber rfl (L2N.takes_of rfl rfl rfl rfl) (hr.mono (by decide)) (se_var 1 (pv 1)) rfl)) ss_nil))
abbrev s_Crew_changed : Stmt := clsAt (top 38) 8
theorem sc_Crew_changed : FnScope ["self", "kind", "entry"] ["self", "kind", "entry"] (defScope s_Crew_changed) := ⟨rfl, rfl, rfl, by decide +kernel, rfl, by decide +kernel, by decide +kernel⟩
theorem ok_Crew_changed {P : Program} {w : World} {K : PySem.W.Frag} {mg : Str → Option Value} {base : Heap} (T : Txt P K mg base) : MethOwn P w K mg base 7 "Crew" "changed" 2 F_Crew_changed := by
  have nd : (["self", "kind", "entry"] : List Str).Nodup := sc_Crew_changed.nd
  obtain ⟨C, h1, h2⟩ := T.me_Crew_changed
  refine methOwn_of (k := 6) h1 h2 sc_Crew_changed rfl (fun _ _ _ _ _ _ us hl => match us, hl with | [_, _, _], _ => rfl) (fun f cdv A outer s H E hr => ?_)
  unfold B_Crew_changed
  exact (ss_one (ss_ret (se_makeO (ok_Crew T) hind_Crew (hr.mono (by decide)) (L2N.takes_of rfl rfl rfl rfl) rfl (sa_cons (se_op of_add (se_op of_add (se_sl (se_fldT T.fl_Crew_own_kinds (se_var 0 (pv 0))) part_none (part_some (se_var 1 (pv 1)))) (se_tup (sa_cons (se_var 2 (pv 2)) sa_nil))) (se_sl (se_fldT T.fl_Crew_own_kinds (se_var 0 (pv 0))) (part_some (se_op of_add (se_var 1 (pv 1)) se_int)) part_none)) sa_nil))))
abbrev s_Crew_with_many : Stmt := clsAt (top 38) 9
theorem sc_Crew_with_many : FnScope ["self", "kind", "many"] ["self", "kind", "many"] (defScope s_Crew_with_many) := ⟨rfl, rfl, rfl, by decide +kernel, rfl, by decide +kernel, by decide +kernel⟩
theorem ok_Crew_with_many {P : Program} {w : World} {K : PySem.W.Frag} {mg : Str → Option Value} {base : Heap} (T : Txt P K mg base) : MethOwn P w K mg base 8 "Crew" "with_many" 2 F_Crew_with_many := by
  have nd : (["self", "kind", "many"] : List Str).Nodup := sc_Crew_with_many.nd
  obtain ⟨C, h1, h2⟩ := T.me_Crew_with_many
  refine methOwn_of (k := 7) h1 h2 sc_Crew_with_many rfl (fun _ _ _ _ _ _ us hl => match us, hl with | [_, _, _], _ => rfl) (fun f cdv A outer s H E hr => ?_)
  unfold B_Crew_with_many
  exact (ss_cons (ss_expr (se_methO (ok_Crew_look_at_kind T) (hr.mono (by decide)) (L2N.takes_of rfl rfl rfl rfl) (se_var 0 (pv 0)) (sa_cons (se_var 1 (pv 1)) sa_nil))) (ss_cons (ss_expr (se_own (ok_look_at_many T) (hr.mono (by decide)) (L2N.takes_of rfl rfl rfl rfl) rfl (sa_cons (se_var 2 (pv 2)) sa_nil))) (ss_one (ss_ret (se_methO (ok_Crew_changed T) (hr.mono (by decide)) (L2N.takes_of rfl rfl rfl rfl) (se_var 0 (pv 0)) (sa_cons (se_var 1 (pv 1)) (sa_cons (se_tup (sa_cons (se_ix (se_ix (se_fldT T.fl_Crew_own_kinds (se_var 0 (pv 0))) (se_var 1 (pv 1)) (fun _ _ => rfl)) se_int (fun _ _ => rfl)) (sa_cons (se_var 2 (pv 2)) sa_nil))) sa_nil)))))))
abbrev s_Crew_with_kind : Stmt := clsAt (top 38) 10
theorem sc_Crew_with_kind : FnScope ["self", "values", "many"] ["self", "values", "many"] (defScope s_Crew_with_kind) := ⟨rfl, rfl, rfl, by decide +kernel, rfl, by decide +kernel, by decide +kernel⟩
theorem ok_Crew_with_kind {P : Program} {w : World} {K : PySem.W.Frag} {mg : Str → Option Value} {base : Heap} (T : Txt P K mg base) : MethOwn P w K mg base 7 "Crew" "with_kind" 2 F_Crew_with_kind := by
  have nd : (["self", "values", "many"] : List Str).Nodup := sc_Crew_with_kind.nd
  obtain ⟨C, h1, h2⟩ := T.me_Crew_with_kind
  refine methOwn_of (k := 6) h1 h2 sc_Crew_with_kind rfl (fun _ _ _ _ _ _ us hl => match us, hl with | [_, _, _], _ => rfl) (fun f cdv A outer s H E hr => ?_)
  unfold B_Crew_with_kind
  exact (ss_cons (ss_if (sb_not (sb_truth (se_own (ok_is_values T) (hr.mono (by decide)) (L2N.takes_of rfl rfl rfl rfl) rfl (sa_cons (se_var 1 (pv 1)) sa_nil)))) (ss_one (ss_raiseT (k := 1) T.xs_InvalidCrew rfl (L2N.takes_of rfl rfl rfl rfl) (hr.mono (by decide)) (se_var 1 (pv 1)) rfl)) ss_nil) (ss_cons (ss_expr (se_own (ok_look_at_many T) (hr.mono (by decide)) (L2N.takes_of rfl rfl rfl rfl) rfl (sa_cons (se_var 2 (pv 2)) sa_nil))) (ss_cons (ss_if (sb_cmp (of_eq hr.units) (se_cb cb_len rfl T.b_len (by decide +kernel) (sa_cons (se_fldT T.fl_Crew_own_kinds (se_var 0 (pv 0))) sa_nil)) (se_gint rfl (T.i_MOST_KINDS).choose_spec) (nomark _)) (ss_one (ss_raiseTG (k := 1) PySem.XsX.exF_OverflowError T.xs_TooMany rfl (L2N.takes_of rfl rfl rfl rfl) (hr.mono (by decide)) (se_gint rfl (T.i_MOST_KINDS).choose_spec) rfl)) ss_nil) (ss_one (ss_ret (se_makeO (ok_Crew T) hind_Crew (hr.mono (by decide)) (L2N.takes_of rfl rfl rfl rfl) rfl (sa_cons (se_op of_add (se_fldT T.fl_Crew_own_kinds (se_var 0 (pv 0))) (se_tup (sa_cons (se_tup (sa_cons (se_var 1 (pv 1)) (sa_cons (se_var 2 (pv 2)) sa_nil))) sa_nil))) sa_nil)))))))
abbrev s_Crew_without_kind : Stmt := clsAt (top 38) 11
theorem sc_Crew_without_kind : FnScope ["self", "kind"] ["self", "kind"] (defScope s_Crew_without_kind) := ⟨rfl, rfl, rfl, by decide +kernel, rfl, by decide +kernel, by decide +kernel⟩
theorem ok_Crew_without_kind {P : Program} {w : World} {K : PySem.W.Frag} {mg : Str → Option Value} {base : Heap} (T : Txt P K mg base) : MethOwn P w K mg base 7 "Crew" "without_kind" 1 F_Crew_without_kind := by
  have nd : (["self", "kind"] : List Str).Nodup := sc_Crew_without_kind.nd
  obtain ⟨C, h1, h2⟩ := T.me_Crew_without_kind
  refine methOwn_of (k := 6) h1 h2 sc_Crew_without_kind rfl (fun _ _ _ _ _ _ us hl => match us, hl with | [_, _], _ => rfl) (fun f cdv A outer s H E hr => ?_)
  unfold B_Crew_without_kind
  exact (ss_cons (ss_expr (se_methO (ok_Crew_look_at_kind T) (hr.mono (by decide)) (L2N.takes_of rfl rfl rfl rfl) (se_var 0 (pv 0)) (sa_cons (se_var 1 (pv 1)) sa_nil))) (ss_cons (ss_if (sb_cmp (of_eq hr.units) (se_cb cb_len rfl T.b_len (by decide +kernel) (sa_cons (se_fldT T.fl_Crew_own_kinds (se_var 0 (pv 0))) sa_nil)) se_int (nomark _)) (ss_one (ss_raiseT (k := 1) T.xs_InvalidCrew rfl (L2N.takes_of rfl rfl rfl rfl) (hr.mono (by decide)) (se_tup sa_nil) rfl)) ss_nil) (ss_one (ss_ret (se_makeO (ok_Crew T) hind_Crew (hr.mono (by decide)) (L2N.takes_of rfl rfl rfl rfl) rfl (sa_cons (se_op of_add (se_sl (se_fldT T.fl_Crew_own_kinds (se_var 0 (pv 0))) part_none (part_some (se_var 1 (pv 1)))) (se_sl (se_fldT T.fl_Crew_own_kinds (se_var 0 (pv 0))) (part_some (se_op of_add (se_var 1 (pv 1)) se_int)) part_none)) sa_nil))))))
abbrev s_Crew_cut : Stmt := clsAt (top 38) 12
theorem sc_Crew_cut : FnScope ["self", "kind", "quota", "values", "many"] ["self", "kind", "quota"] (defScope s_Crew_cut) := ⟨rfl, rfl, rfl, by decide +kernel, rfl, by decide +kernel, by decide +kernel⟩
theorem ok_Crew_cut {P : Program} {w : World} {K : PySem.W.Frag} {mg : Str → Option Value} {base : Heap} (T : Txt P K mg base) : MethOwn P w K mg base 8 "Crew" "cut" 2 F_Crew_cut := by
  have nd : (["self", "kind", "quota", "values", "many"] : List Str).Nodup := sc_Crew_cut.nd
  obtain ⟨C, h1, h2⟩ := T.me_Crew_cut
  refine methOwn_of (k := 7) h1 h2 sc_Crew_cut rfl (fun _ _ _ _ _ _ us hl => match us, hl with | [_, _, _], _ => rfl) (fun f cdv A outer s H E hr => ?_)
  unfold B_Crew_cut
  exact (ss_cons (ss_expr (se_methO (ok_Crew_look_at_kind T) (hr.mono (by decide)) (L2N.takes_of rfl rfl rfl rfl) (se_var 0 (pv 0)) (sa_cons (se_var 1 (pv 1)) sa_nil))) (ss_cons (ss_asg (se_ix (se_fldT T.fl_Crew_own_kinds (se_var 0 (pv 0))) (se_var 1 (pv 1)) (fun _ _ => rfl)) (sg_tup rfl (sgs_cons rrT (sg_name (pg_name (i := 3) nd rfl (by first | exact Or.inl rfl | exact Or.inr rfl)) (fun _ _ => trivial)) (sgs_cons rrT (sg_name (pg_name (i := 4) nd rfl (by first | exact Or.inl rfl | exact Or.inr rfl)) (fun _ _ => trivial)) (sgs_nil rrT))))) (ss_cons (ss_if (sb_not (sb_truth (se_own (ok_is_between T) (hr.mono (by decide)) (L2N.takes_of rfl rfl rfl rfl) rfl (sa_cons (se_var 2 (pv 2)) (sa_cons (se_own (ok_least_of T) (hr.mono (by decide)) (L2N.takes_of rfl rfl rfl rfl) rfl (sa_cons (se_var 3 (pv 3)) sa_nil)) (sa_cons (se_own (ok_quota_of T) (hr.mono (by decide)) (L2N.takes_of rfl rfl rfl rfl) rfl (sa_cons (se_var 3 (pv 3)) sa_nil)) sa_nil)))))) (ss_one (ss_raiseT (k := 1) T.xs_InvalidNumber rfl (L2N.takes_of rfl rfl rfl rfl) (hr.mono (by decide)) (se_var 2 (pv 2)) rfl)) ss_nil) (ss_one (ss_ret (se_methO (ok_Crew_changed T) (hr.mono (by decide)) (L2N.takes_of rfl rfl rfl rfl) (se_var 0 (pv 0)) (sa_cons (se_var 1 (pv 1)) (sa_cons (se_tup (sa_cons (se_sl (se_var 3 (pv 3)) part_none (part_some (se_op of_add (se_var 2 (pv 2)) se_int))) (sa_cons (se_var 4 (pv 4)) sa_nil))) sa_nil))))))))
abbrev s_Crew_share : Stmt := clsAt (top 38) 13
theorem sc_Crew_share : FnScope ["self", "offices", "values", "many"] ["self", "offices"] (defScope s_Crew_share) := ⟨rfl, rfl, rfl, by decide +kernel, rfl, by decide +kernel, by decide +kernel⟩
theorem ok_Crew_share {P : Program} {w : World} {K : PySem.W.Frag} {mg : Str → Option Value} {base : Heap} (T : Txt P K mg base) : MethOwn P w K mg base 7 "Crew" "share" 1 F_Crew_share := by
  have nd : (["self", "offices", "values", "many"] : List Str).Nodup := sc_Crew_share.nd
  obtain ⟨C, h1, h2⟩ := T.me_Crew_share
  refine methOwn_of (k := 6) h1 h2 sc_Crew_share rfl (fun _ _ _ _ _ _ us hl => match us, hl with | [_, _], _ => rfl) (fun f cdv A outer s H E hr => ?_)
  unfold B_Crew_share
  exact (ss_cons (ss_if (sb_not (sb_truth (se_own (ok_is_between T) (hr.mono (by decide)) (L2N.takes_of rfl rfl rfl rfl) rfl (sa_cons (se_var 1 (pv 1)) (sa_cons se_int (sa_cons (se_gint rfl (T.i_MOST_OFFICES).choose_spec) sa_nil)))))) (ss_one (ss_raiseT (k := 1) T.xs_InvalidNumber rfl (L2N.takes_of rfl rfl rfl rfl) (hr.mono (by decide)) (se_var 1 (pv 1)) rfl)) ss_nil) (ss_cons (ss_if (sb_truth (se_cb (cb_any rfl) rfl T.b_any (by decide +kernel) (sa_cons (se_comp (own := [("values", 2), ("many", 3)]) rfl nd (si_any (se_fldT T.fl_Crew_own_kinds (se_var 0 (pv 0)))) (blkOk_by (by kernel_rfl)) (fun s H C cl fp => (sg_tup rfl (sgs_cons (rrW _) (sg_name (pg_name (i := 2) nd rfl (by first | exact Or.inl rfl | exact Or.inr rfl)) (fun σ v => wipe_set σ (by simp))) (sgs_cons (rrW _) (sg_name (pg_name (i := 3) nd rfl (by first | exact Or.inl rfl | exact Or.inr rfl)) (fun σ v => wipe_set σ (by simp))) (sgs_nil (rrW _)))))) (fun s H C cl fp => sts_nil) (fun s H C cl fp => (se_cmp (of_ne hr.units) (se_op of_mod (se_var 3 (pv 3)) (se_var 1 (pv 1))) se_int (nomark _)))) sa_nil))) (ss_one (ss_raiseT (k := 1) T.xs_InvalidNumber rfl (L2N.takes_of rfl rfl rfl rfl) (hr.mono (by decide)) (se_var 1 (pv 1)) rfl)) ss_nil) (ss_one (ss_ret (se_makeO (ok_Crew T) hind_Crew (hr.mono (by decide)) (L2N.takes_of rfl rfl rfl rfl) rfl (sa_cons (se_comp (own := [("values", 2), ("many", 3)]) rfl nd (si_any (se_fldT T.fl_Crew_own_kinds (se_var 0 (pv 0)))) (blkOk_by (by kernel_rfl)) (fun s H C cl fp => (sg_tup rfl (sgs_cons (rrW _) (sg_name (pg_name (i := 2) nd rfl (by first | exact Or.inl rfl | exact Or.inr rfl)) (fun σ v => wipe_set σ (by simp))) (sgs_cons (rrW _) (sg_name (pg_name (i := 3) nd rfl (by first | exact Or.inl rfl | exact Or.inr rfl)) (fun σ v => wipe_set σ (by simp))) (sgs_nil (rrW _)))))) (fun s H C cl fp => sts_nil) (fun s H C cl fp => (se_tup (sa_cons (se_var 2 (pv 2)) (sa_cons (se_op of_fdiv (se_var 3 (pv 3)) (se_var 1 (pv 1))) sa_nil))))) sa_nil))))))
abbrev s__law_pd_made : Stmt := top 58
theorem sc__law_pd_made : FnScope ["kinds"] ["kinds"] (defScope s__law_pd_made) := ⟨rfl, rfl, rfl, by decide +kernel, rfl, by decide +kernel, by decide +kernel⟩
theorem ok__law_pd_made {P : Program} {w : World} {K : PySem.W.Frag} {mg : Str → Option Value} {base : Heap} (T : Txt P K mg base) : Own P w K mg base 7 "_law_pd_made" 1 F__law_pd_made := by
  have nd : (["kinds"] : List Str).Nodup := sc__law_pd_made.nd
  refine own_of (k := 6) T.d__law_pd_made sc__law_pd_made rfl (fun _ _ _ _ _ _ us hl => match us, hl with | [_], _ => rfl) (fun f cdv A outer s H E hr => ?_)
  unfold B__law_pd_made
  exact (ss_one (ss_ret (se_makeO (ok_Crew T) hind_Crew (hr.mono (by decide)) (L2N.takes_of rfl rfl rfl rfl) rfl (sa_cons (se_ct ct_list rfl T.b_list (by decide +kernel) (sa_cons (se_var 0 (pv 0)) sa_nil)) sa_nil))))
abbrev s__law_is_crew_of : Stmt := top 62
theorem sc__law_is_crew_of : FnScope ["thing", "kinds", "least", "full", "row", "many", "owed"] ["thing", "kinds"] (defScope s__law_is_crew_of) := ⟨rfl, rfl, rfl, by decide +kernel, rfl, by decide +kernel, by decide +kernel⟩
theorem ok__law_is_crew_of {P : Program} {w : World} {K : PySem.W.Frag} {mg : Str → Option Value} {base : Heap} (T : Txt P K mg base) : Own P w K mg base 11 "_law_is_crew_of" 2 F__law_is_crew_of := by
  have nd : (["thing", "kinds", "least", "full", "row", "many", "owed"] : List Str).Nodup := sc__law_is_crew_of.nd
  refine own_of (k := 10) T.d__law_is_crew_of sc__law_is_crew_of rfl (fun _ _ _ _ _ _ us hl => match us, hl with | [_, _], _ => rfl) (fun f cdv A outer s H E hr => ?_)
  unfold B__law_is_crew_of
  exact (ss_cons (ss_asg (se_own (ok__law_pu_ends T) (hr.mono (by decide)) (L2N.takes_of rfl rfl rfl rfl) rfl (sa_cons (se_var 1 (pv 1)) sa_nil)) (sg_tup rfl (sgs_cons rrT (sg_name (pg_name (i := 2) nd rfl (by first | exact Or.inl rfl | exact Or.inr rfl)) (fun _ _ => trivial)) (sgs_cons rrT (sg_name (pg_name (i := 3) nd rfl (by first | exact Or.inl rfl | exact Or.inr rfl)) (fun _ _ => trivial)) (sgs_nil rrT))))) (ss_cons (ss_set (ps_set (i := 6) nd rfl (by first | exact Or.inl rfl | exact Or.inr rfl) (se_lst (sa_cons (se_var 1 (pv 1)) (sa_cons (se_cb (cb_sum rfl) rfl T.b_sum (by decide +kernel) (sa_cons (se_comp (own := [("row", 4), ("many", 5)]) rfl nd (si_any (se_var 1 (pv 1))) (blkOk_by (by kernel_rfl)) (fun s H C cl fp => (sg_tup rfl (sgs_cons (rrW _) (sg_name (pg_name (i := 4) nd rfl (by first | exact Or.inl rfl | exact Or.inr rfl)) (fun σ v => wipe_set σ (by simp))) (sgs_cons (rrW _) (sg_name (pg_name (i := 5) nd rfl (by first | exact Or.inl rfl | exact Or.inr rfl)) (fun σ v => wipe_set σ (by simp))) (sgs_nil (rrW _)))))) (fun s H C cl fp => sts_nil) (fun s H C cl fp => (se_var 5 (pv 5)))) sa_nil)) (sa_cons (se_var 2 (pv 2)) (sa_cons (se_var 3 (pv 3)) (sa_cons (se_own (ok__law_pu_span T) (hr.mono (by decide)) (L2N.takes_of rfl rfl rfl rfl) rfl (sa_cons (se_var 1 (pv 1)) sa_nil)) sa_nil)))))))) (ss_one (ss_ret (se_and (se_own (ok__law_same T) (hr.mono (by decide)) (L2N.takes_of rfl rfl rfl rfl) rfl (sa_cons (se_lst (sa_cons (se_propO (ok_Crew_all_kinds T) (hr.mono (by decide)) (se_var 0 (pv 0))) (sa_cons (se_propO (ok_Crew_members T) (hr.mono (by decide)) (se_var 0 (pv 0))) (sa_cons (se_propO (ok_Crew_least T) (hr.mono (by decide)) (se_var 0 (pv 0))) (sa_cons (se_propO (ok_Crew_full T) (hr.mono (by decide)) (se_var 0 (pv 0))) (sa_cons (se_propO (ok_Crew_span T) (hr.mono (by decide)) (se_var 0 (pv 0))) sa_nil)))))) (sa_cons (se_var 6 (pv 6)) sa_nil))) (se_one (se_eqO (ok_Crew___eq__ T) (hr.mono (by decide)) (se_var 0 (pv 0)) (se_own (ok__law_pd_made T) (hr.mono (by decide)) (L2N.takes_of rfl rfl rfl rfl) rfl (sa_cons (se_var 1 (pv 1)) sa_nil)))))))))
abbrev s__law_is_whole_to : Stmt := top 63
theorem sc__law_is_whole_to : FnScope ["thing", "least", "most"] ["thing", "least", "most"] (defScope s__law_is_whole_to) := ⟨rfl, rfl, rfl, by decide +kernel, rfl, by decide +kernel, by decide +kernel⟩
theorem ok__law_is_whole_to {P : Program} {w : World} {K : PySem.W.Frag} {mg : Str → Option Value} {base : Heap} (T : Txt P K mg base) : Own P w K mg base 1 "_law_is_whole_to" 3 F__law_is_whole_to := by
  have nd : (["thing", "least", "most"] : List Str).Nodup := sc__law_is_whole_to.nd
  refine own_of (k := 0) T.d__law_is_whole_to sc__law_is_whole_to rfl (fun _ _ _ _ _ _ us hl => match us, hl with | [_, _, _], _ => rfl) (fun f cdv A outer s H E hr => ?_)
  unfold B__law_is_whole_to
  exact (ss_one (ss_ret (se_and (se_isi (c := .int) (by decide) rfl T.b_isinstance rfl T.b_int (by decide +kernel) (se_var 0 (pv 0))) (se_and (se_not (se_isi (c := .bool) (by decide) rfl T.b_isinstance rfl T.b_bool (by decide +kernel) (se_var 0 (pv 0)))) (se_and (se_cmp of_ge (se_var 0 (pv 0)) (se_var 1 (pv 1)) (nomark _)) (se_one (se_cmp of_le (se_var 0 (pv 0)) (se_var 2 (pv 2)) (nomark _))))))))
abbrev s__law_owed_of : Stmt := top 64
theorem sc__law_owed_of : FnScope ["kinds", "deed", "word", "row", "many", "fits", "ahead", "behind"] ["kinds", "deed"] (defScope s__law_owed_of) := ⟨rfl, rfl, rfl, by decide +kernel, rfl, by decide +kernel, by decide +kernel⟩
theorem ok__law_owed_of {P : Program} {w : World} {K : PySem.W.Frag} {mg : Str → Option Value} {base : Heap} (T : Txt P K mg base) : Own P w K mg base 2 "_law_owed_of" 2 F__law_owed_of := by
  have nd : (["kinds", "deed", "word", "row", "many", "fits", "ahead", "behind"] : List Str).Nodup := sc__law_owed_of.nd
  refine own_of (k := 1) T.d__law_owed_of sc__law_owed_of rfl (fun _ _ _ _ _ _ us hl => match us, hl with | [_, _], _ => rfl) (fun f cdv A outer s H E hr => ?_)
  unfold B__law_owed_of
  exact (ss_cons (ss_set (ps_set (i := 2) nd rfl (by first | exact Or.inl rfl | exact Or.inr rfl) (se_ix (se_var 1 (pv 1)) se_int (fun _ _ => rfl)))) (ss_cons (ss_if (sb_cmp (of_eq hr.units) (se_var 2 (pv 2)) se_str (nomark _)) (ss_cons (ss_set (ps_set (i := 5) nd rfl (by first | exact Or.inl rfl | exact Or.inr rfl) (se_and (se_own (ok__law_is_whole_to T) (hr.mono (by decide)) (L2N.takes_of rfl rfl rfl rfl) rfl (sa_cons (se_ix (se_var 1 (pv 1)) se_int (fun _ _ => rfl)) (sa_cons se_int (sa_cons se_int sa_nil)))) (se_one (se_cmp (of_eq hr.units) (se_comp (own := [("row", 3), ("many", 4)]) rfl nd (si_any (se_var 0 (pv 0))) (blkOk_by (by kernel_rfl)) (fun s H C cl fp => (sg_tup rfl (sgs_cons (rrW _) (sg_name (pg_name (i := 3) nd rfl (by first | exact Or.inl rfl | exact Or.inr rfl)) (fun σ v => wipe_set σ (by simp))) (sgs_cons (rrW _) (sg_name (pg_name (i := 4) nd rfl (by first | exact Or.inl rfl | exact Or.inr rfl)) (fun σ v => wipe_set σ (by simp))) (sgs_nil (rrW _)))))) (fun s H C cl fp => (sts_one (sb_cmp (of_ne hr.units) (se_op of_mod (se_var 4 (pv 4)) (se_ix (se_var 1 (pv 1)) se_int (fun _ _ => rfl))) se_int (nomark _)))) (fun s H C cl fp => (se_var 4 (pv 4)))) (se_lst sa_nil) (nomark _)))))) (ss_one (ss_ret (se_if (sb_truth (se_var 5 (pv 5))) (se_tup (sa_cons se_str (sa_cons (se_ct ct_tuple rfl T.b_tuple (by decide +kernel) (sa_cons (se_comp (own := [("row", 3), ("many", 4)]) rfl nd (si_any (se_var 0 (pv 0))) (blkOk_by (by kernel_rfl)) (fun s H C cl fp => (sg_tup rfl (sgs_cons (rrW _) (sg_name (pg_name (i := 3) nd rfl (by first | exact Or.inl rfl | exact Or.inr rfl)) (fun σ v => wipe_set σ (by simp))) (sgs_cons (rrW _) (sg_name (pg_name (i := 4) nd rfl (by first | exact Or.inl rfl | exact Or.inr rfl)) (fun σ v => wipe_set σ (by simp))) (sgs_nil (rrW _)))))) (fun s H C cl fp => sts_nil) (fun s H C cl fp => (se_tup (sa_cons (se_var 3 (pv 3)) (sa_cons (se_op of_fdiv (se_var 4 (pv 4)) (se_ix (se_var 1 (pv 1)) se_int (fun _ _ => rfl))) sa_nil))))) sa_nil)) sa_nil))) (se_tup (sa_cons se_str (sa_cons (se_ix (se_var 1 (pv 1)) se_int (fun _ _ => rfl)) sa_nil))))))) ss_nil) (ss_cons (ss_if (sb_cmp (of_eq hr.units) (se_var 2 (pv 2)) se_str (nomark _)) (ss_cons (ss_if (sb_not (sb_truth (se_own (ok__law_pu_is_values T) (hr.mono (by decide)) (L2N.takes_of rfl rfl rfl rfl) rfl (sa_cons (se_ix (se_var 1 (pv 1)) se_int (fun _ _ => rfl)) sa_nil)))) (ss_one (ss_ret (se_tup (sa_cons se_str (sa_cons (se_ix (se_var 1 (pv 1)) se_int (fun _ _ => rfl)) sa_nil))))) ss_nil) (ss_cons (ss_if (sb_not (sb_truth (se_own (ok__law_is_whole_to T) (hr.mono (by decide)) (L2N.takes_of rfl rfl rfl rfl) rfl (sa_cons (se_ix (se_var 1 (pv 1)) se_int (fun _ _ => rfl)) (sa_cons se_int (sa_cons (se_op of_pow se_int se_int) sa_nil)))))) (ss_one (ss_ret (se_tup (sa_cons se_str (sa_cons (se_ix (se_var 1 (pv 1)) se_int (fun _ _ => rfl)) sa_nil))))) ss_nil) (ss_one (ss_ret (se_if (sb_cmp of_lt (se_cb cb_len rfl T.b_len (by decide +kernel) (sa_cons (se_var 0 (pv 0)) sa_nil)) se_int (nomark _)) (se_tup (sa_cons se_str (sa_cons (se_op of_add (se_var 0 (pv 0)) (se_tup (sa_cons (se_tup (sa_cons (se_ix (se_var 1 (pv 1)) se_int (fun _ _ => rfl)) (sa_cons (se_ix (se_var 1 (pv 1)) se_int (fun _ _ => rfl)) sa_nil))) sa_nil))) sa_nil))) (se_tup (sa_cons se_str (sa_cons se_int sa_nil)))))))) ss_nil) (ss_cons (ss_if (sb_not (sb_truth (se_own (ok__law_is_whole_to T) (hr.mono (by decide)) (L2N.takes_of rfl rfl rfl rfl) rfl (sa_cons (se_ix (se_var 1 (pv 1)) se_int (fun _ _ => rfl)) (sa_cons se_int (sa_cons (se_op of_sub (se_cb cb_len rfl T.b_len (by decide +kernel) (sa_cons (se_var 0 (pv 0)) sa_nil)) se_int) sa_nil)))))) (ss_one (ss_ret (se_tup (sa_cons se_str (sa_cons (se_ix (se_var 1 (pv 1)) se_int (fun _ _ => rfl)) sa_nil))))) ss_nil) (ss_cons (ss_asg (se_ix (se_var 0 (pv 0)) (se_ix (se_var 1 (pv 1)) se_int (fun _ _ => rfl)) (fun _ _ => rfl)) (sg_tup rfl (sgs_cons rrT (sg_name (pg_name (i := 3) nd rfl (by first | exact Or.inl rfl | exact Or.inr rfl)) (fun _ _ => trivial)) (sgs_cons rrT (sg_name (pg_name (i := 4) nd rfl (by first | exact Or.inl rfl | exact Or.inr rfl)) (fun _ _ => trivial)) (sgs_nil rrT))))) (ss_cons (ss_par (ps_par (i := 6) (j := 7) rfl nd rfl rfl (by decide) rfl rfl (sa_cons (se_sl (se_var 0 (pv 0)) part_none (part_some (se_ix (se_var 1 (pv 1)) se_int (fun _ _ => rfl)))) (sa_cons (se_sl (se_var 0 (pv 0)) (part_some (se_op of_add (se_ix (se_var 1 (pv 1)) se_int (fun _ _ => rfl)) se_int)) part_none) sa_nil)) (by first | rfl | with_unfolding_all rfl))) (ss_cons (ss_if (sb_cmp (of_eq hr.units) (se_var 2 (pv 2)) se_str (nomark _)) (ss_one (ss_ret (se_if (sb_cmp of_gt (se_cb cb_len rfl T.b_len (by decide +kernel) (sa_cons (se_var 0 (pv 0)) sa_nil)) se_int (nomark _)) (se_tup (sa_cons se_str (sa_cons (se_op of_add (se_var 6 (pv 6)) (se_var 7 (pv 7))) sa_nil))) (se_tup (sa_cons se_str (sa_cons (se_tup sa_nil) sa_nil)))))) ss_nil) (ss_cons (ss_if (sb_cmp (of_eq hr.units) (se_var 2 (pv 2)) se_str (nomark _)) (ss_one (ss_ret (se_if (sb_truth (se_own (ok__law_is_whole_to T) (hr.mono (by decide)) (L2N.takes_of rfl rfl rfl rfl) rfl (sa_cons (se_ix (se_var 1 (pv 1)) se_int (fun _ _ => rfl)) (sa_cons se_int (sa_cons (se_op of_pow se_int se_int) sa_nil))))) (se_tup (sa_cons se_str (sa_cons (se_op of_add (se_op of_add (se_var 6 (pv 6)) (se_tup (sa_cons (se_tup (sa_cons (se_var 3 (pv 3)) (sa_cons (se_ix (se_var 1 (pv 1)) se_int (fun _ _ => rfl)) sa_nil))) sa_nil))) (se_var 7 (pv 7))) sa_nil))) (se_tup (sa_cons se_str (sa_cons (se_ix (se_var 1 (pv 1)) se_int (fun _ _ => rfl)) sa_nil)))))) ss_nil) (ss_cons (ss_if (sb_not (sb_truth (se_own (ok__law_is_whole_to T) (hr.mono (by decide)) (L2N.takes_of rfl rfl rfl rfl) rfl (sa_cons (se_ix (se_var 1 (pv 1)) se_int (fun _ _ => rfl)) (sa_cons (se_own (ok__law_pu_least_of T) (hr.mono (by decide)) (L2N.takes_of rfl rfl rfl rfl) rfl (sa_cons (se_var 3 (pv 3)) sa_nil)) (sa_cons (se_op of_sub (se_cb cb_len rfl T.b_len (by decide +kernel) (sa_cons (se_var 3 (pv 3)) sa_nil)) se_int) sa_nil)))))) (ss_one (ss_ret (se_tup (sa_cons se_str (sa_cons (se_ix (se_var 1 (pv 1)) se_int (fun _ _ => rfl)) sa_nil))))) ss_nil) (ss_one (ss_ret (se_tup (sa_cons se_str (sa_cons (se_op of_add (se_op of_add (se_var 6 (pv 6)) (se_tup (sa_cons (se_tup (sa_cons (se_sl (se_var 3 (pv 3)) part_none (part_some (se_op of_add (se_ix (se_var 1 (pv 1)) se_int (fun _ _ => rfl)) se_int))) (sa_cons (se_var 4 (pv 4)) sa_nil))) sa_nil))) (se_var 7 (pv 7))) sa_nil))))))))))))))
abbrev s__law_done_to : Stmt := top 65
theorem sc__law_done_to : FnScope ["crew", "deed"] ["crew", "deed"] (defScope s__law_done_to) := ⟨rfl, rfl, rfl, by decide +kernel, rfl, by decide +kernel, by decide +kernel⟩
theorem ok__law_done_to {P : Program} {w : World} {K : PySem.W.Frag} {mg : Str → Option Value} {base : Heap} (T : Txt P K mg base) : Own P w K mg base 9 "_law_done_to" 2 F__law_done_to := by
  have nd : (["crew", "deed"] : List Str).Nodup := sc__law_done_to.nd
  refine own_of (k := 8) T.d__law_done_to sc__law_done_to rfl (fun _ _ _ _ _ _ us hl => match us, hl with | [_, _], _ => rfl) (fun f cdv A outer s H E hr => ?_)
  unfold B__law_done_to
  exact (ss_cons (ss_if (sb_cmp (of_eq hr.units) (se_ix (se_var 1 (pv 1)) se_int (fun _ _ => rfl)) se_str (nomark _)) (ss_one (ss_ret (se_methO (ok_Crew_share T) (hr.mono (by decide)) (L2N.takes_of rfl rfl rfl rfl) (se_var 0 (pv 0)) (sa_cons (se_ix (se_var 1 (pv 1)) se_int (fun _ _ => rfl)) sa_nil)))) ss_nil) (ss_cons (ss_if (sb_cmp (of_eq hr.units) (se_ix (se_var 1 (pv 1)) se_int (fun _ _ => rfl)) se_str (nomark _)) (ss_one (ss_ret (se_methO (ok_Crew_with_kind T) (hr.mono (by decide)) (L2N.takes_of rfl rfl rfl rfl) (se_var 0 (pv 0)) (sa_cons (se_ix (se_var 1 (pv 1)) se_int (fun _ _ => rfl)) (sa_cons (se_ix (se_var 1 (pv 1)) se_int (fun _ _ => rfl)) sa_nil))))) ss_nil) (ss_cons (ss_if (sb_cmp (of_eq hr.units) (se_ix (se_var 1 (pv 1)) se_int (fun _ _ => rfl)) se_str (nomark _)) (ss_one (ss_ret (se_methO (ok_Crew_without_kind T) (hr.mono (by decide)) (L2N.takes_of rfl rfl rfl rfl) (se_var 0 (pv 0)) (sa_cons (se_ix (se_var 1 (pv 1)) se_int (fun _ _ => rfl)) sa_nil)))) ss_nil) (ss_one (ss_ret (se_if (sb_cmp (of_eq hr.units) (se_ix (se_var 1 (pv 1)) se_int (fun _ _ => rfl)) se_str (nomark _)) (se_methO (ok_Crew_with_many T) (hr.mono (by decide)) (L2N.takes_of rfl rfl rfl rfl) (se_var 0 (pv 0)) (sa_cons (se_ix (se_var 1 (pv 1)) se_int (fun _ _ => rfl)) (sa_cons (se_ix (se_var 1 (pv 1)) se_int (fun _ _ => rfl)) sa_nil))) (se_methO (ok_Crew_cut T) (hr.mono (by decide)) (L2N.takes_of rfl rfl rfl rfl) (se_var 0 (pv 0)) (sa_cons (se_ix (se_var 1 (pv 1)) se_int (fun _ _ => rfl)) (sa_cons (se_ix (se_var 1 (pv 1)) se_int (fun _ _ => rfl)) sa_nil)))))))))
abbrev s__law_kind_drawn : Stmt := top 66
theorem sc__law_kind_drawn : FnScope ["jar", "kinds"] ["jar", "kinds"] (defScope s__law_kind_drawn) := ⟨rfl, rfl, rfl, by decide +kernel, rfl, by decide +kernel, by decide +kernel⟩
theorem ok__law_kind_drawn {P : Program} {w : World} {K : PySem.W.Frag} {mg : Str → Option Value} {base : Heap} (T : Txt P K mg base) : Own P w K mg base 3 "_law_kind_drawn" 2 F__law_kind_drawn := by
  have nd : (["jar", "kinds"] : List Str).Nodup := sc__law_kind_drawn.nd
  refine own_of (k := 2) T.d__law_kind_drawn sc__law_kind_drawn rfl (fun _ _ _ _ _ _ us hl => match us, hl with | [_, _], _ => rfl) (fun f cdv A outer s H E hr => ?_)
  unfold B__law_kind_drawn
  exact (ss_cons (ss_if (sb_cmp of_gt (se_own (ok__law_take T) (hr.mono (by decide)) (L2N.takes_of rfl rfl rfl rfl) rfl (sa_cons (se_var 0 (pv 0)) (sa_cons se_int sa_nil))) se_int (nomark _)) (ss_one (ss_ret (se_own (ok__law_take T) (hr.mono (by decide)) (L2N.takes_of rfl rfl rfl rfl) rfl (sa_cons (se_var 0 (pv 0)) (sa_cons (se_cb cb_len rfl T.b_len (by decide +kernel) (sa_cons (se_var 1 (pv 1)) sa_nil)) sa_nil))))) ss_nil) (ss_one (ss_ret (se_own (ok__law_one T) (hr.mono (by decide)) (L2N.takes_of rfl rfl rfl rfl) rfl (sa_cons (se_var 0 (pv 0)) (sa_cons (se_lst (sa_cons (se_cb cb_len rfl T.b_len (by decide +kernel) (sa_cons (se_var 1 (pv 1)) sa_nil)) (sa_cons (se_un of_neg se_int) (sa_cons se_bl (sa_cons se_non (sa_cons se_str (sa_cons (se_tup (sa_cons se_int sa_nil)) (sa_cons (se_op of_pow se_int se_int) sa_nil)))))))) sa_nil))))))
abbrev s__law_deed_drawn : Stmt := top 67
theorem sc__law_deed_drawn : FnScope ["jar", "kinds", "form", "many", "row", "quota"] ["jar", "kinds"] (defScope s__law_deed_drawn) := ⟨rfl, rfl, rfl, by decide +kernel, rfl, by decide +kernel, by decide +kernel⟩
theorem ok__law_deed_drawn {P : Program} {w : World} {K : PySem.W.Frag} {mg : Str → Option Value} {base : Heap} (T : Txt P K mg base) : Own P w K mg base 4 "_law_deed_drawn" 2 F__law_deed_drawn := by
  have nd : (["jar", "kinds", "form", "many", "row", "quota"] : List Str).Nodup := sc__law_deed_drawn.nd
  refine own_of (k := 3) T.d__law_deed_drawn sc__law_deed_drawn rfl (fun _ _ _ _ _ _ us hl => match us, hl with | [_, _], _ => rfl) (fun f cdv A outer s H E hr => ?_)
  unfold B__law_deed_drawn
  exact (ss_cons (ss_set (ps_set (i := 2) nd rfl (by first | exact Or.inl rfl | exact Or.inr rfl) (se_own (ok__law_take T) (hr.mono (by decide)) (L2N.takes_of rfl rfl rfl rfl) rfl (sa_cons (se_var 0 (pv 0)) (sa_cons se_int sa_nil))))) (ss_cons (ss_set (ps_set (i := 3) nd rfl (by first | exact Or.inl rfl | exact Or.inr rfl) (se_own (ok__law_one T) (hr.mono (by decide)) (L2N.takes_of rfl rfl rfl rfl) rfl (sa_cons (se_var 0 (pv 0)) (sa_cons (se_lst (sa_cons (se_own (ok__law_take T) (hr.mono (by decide)) (L2N.takes_of rfl rfl rfl rfl) rfl (sa_cons (se_var 0 (pv 0)) (sa_cons se_int sa_nil))) (sa_cons (se_own (ok__law_pd_great T) (hr.mono (by decide)) (L2N.takes_of rfl rfl rfl rfl) rfl (sa_cons (se_var 0 (pv 0)) sa_nil)) (sa_cons (se_op of_pow se_int se_int) (sa_cons se_int (sa_cons (se_un of_neg se_int) (sa_cons (se_op of_add (se_op of_pow se_int se_int) se_int) (sa_cons se_bl (sa_cons se_non (sa_cons se_str sa_nil)))))))))) sa_nil))))) (ss_cons (ss_if (sb_cmp of_lt (se_var 2 (pv 2)) se_int (nomark _)) (ss_one (ss_ret (se_tup (sa_cons se_str (sa_cons (se_own (ok__law_kind_drawn T) (hr.mono (by decide)) (L2N.takes_of rfl rfl rfl rfl) rfl (sa_cons (se_var 0 (pv 0)) (sa_cons (se_var 1 (pv 1)) sa_nil))) (sa_cons (se_var 3 (pv 3)) sa_nil)))))) ss_nil) (ss_cons (ss_if (sb_cmp of_lt (se_var 2 (pv 2)) se_int (nomark _)) (ss_cons (ss_set (ps_set (i := 4) nd rfl (by first | exact Or.inl rfl | exact Or.inr rfl) (se_own (ok__law_pd_values T) (hr.mono (by decide)) (L2N.takes_of rfl rfl rfl rfl) rfl (sa_cons (se_var 0 (pv 0)) (sa_cons se_int sa_nil))))) (ss_one (ss_ret (se_tup (sa_cons se_str (sa_cons (se_own (ok__law_one T) (hr.mono (by decide)) (L2N.takes_of rfl rfl rfl rfl) rfl (sa_cons (se_var 0 (pv 0)) (sa_cons (se_lst (sa_cons (se_var 4 (pv 4)) (sa_cons (se_var 4 (pv 4)) (sa_cons (se_var 4 (pv 4)) (sa_cons (se_ct ct_list rfl T.b_list (by decide +kernel) (sa_cons (se_var 4 (pv 4)) sa_nil)) (sa_cons (se_tup (sa_cons se_non sa_nil)) (sa_cons (se_op of_add (se_var 4 (pv 4)) (se_tup (sa_cons se_non sa_nil))) (sa_cons (se_tup (sa_cons se_bl sa_nil)) (sa_cons se_non sa_nil))))))))) sa_nil))) (sa_cons (se_var 3 (pv 3)) sa_nil))))))) ss_nil) (ss_cons (ss_if (sb_cmp (of_eq hr.units) (se_var 2 (pv 2)) se_int (nomark _)) (ss_one (ss_ret (se_tup (sa_cons se_str (sa_cons (se_own (ok__law_kind_drawn T) (hr.mono (by decide)) (L2N.takes_of rfl rfl rfl rfl) rfl (sa_cons (se_var 0 (pv 0)) (sa_cons (se_var 1 (pv 1)) sa_nil))) sa_nil))))) ss_nil) (ss_cons (ss_if (sb_cmp of_lt (se_var 2 (pv 2)) se_int (nomark _)) (ss_cons (ss_set (ps_set (i := 4) nd rfl (by first | exact Or.inl rfl | exact Or.inr rfl) (se_ix (se_ix (se_var 1 (pv 1)) (se_own (ok__law_take T) (hr.mono (by decide)) (L2N.takes_of rfl rfl rfl rfl) rfl (sa_cons (se_var 0 (pv 0)) (sa_cons (se_cb cb_len rfl T.b_len (by decide +kernel) (sa_cons (se_var 1 (pv 1)) sa_nil)) sa_nil))) (fun _ _ => rfl)) se_int (fun _ _ => rfl)))) (ss_cons (ss_set (ps_set (i := 5) nd rfl (by first | exact Or.inl rfl | exact Or.inr rfl) (se_own (ok__law_one T) (hr.mono (by decide)) (L2N.takes_of rfl rfl rfl rfl) rfl (sa_cons (se_var 0 (pv 0)) (sa_cons (se_lst (sa_cons (se_own (ok__law_take T) (hr.mono (by decide)) (L2N.takes_of rfl rfl rfl rfl) rfl (sa_cons (se_var 0 (pv 0)) (sa_cons (se_cb cb_len rfl T.b_len (by decide +kernel) (sa_cons (se_var 4 (pv 4)) sa_nil)) sa_nil))) (sa_cons (se_op of_sub (se_cb cb_len rfl T.b_len (by decide +kernel) (sa_cons (se_var 4 (pv 4)) sa_nil)) se_int) (sa_cons (se_own (ok__law_pu_least_of T) (hr.mono (by decide)) (L2N.takes_of rfl rfl rfl rfl) rfl (sa_cons (se_var 4 (pv 4)) sa_nil)) (sa_cons (se_op of_sub (se_own (ok__law_pu_least_of T) (hr.mono (by decide)) (L2N.takes_of rfl rfl rfl rfl) rfl (sa_cons (se_var 4 (pv 4)) sa_nil)) se_int) (sa_cons (se_cb cb_len rfl T.b_len (by decide +kernel) (sa_cons (se_var 4 (pv 4)) sa_nil)) (sa_cons se_bl (sa_cons se_non (sa_cons se_str sa_nil))))))))) sa_nil))))) (ss_one (ss_ret (se_tup (sa_cons se_str (sa_cons (se_own (ok__law_kind_drawn T) (hr.mono (by decide)) (L2N.takes_of rfl rfl rfl rfl) rfl (sa_cons (se_var 0 (pv 0)) (sa_cons (se_var 1 (pv 1)) sa_nil))) (sa_cons (se_var 5 (pv 5)) sa_nil)))))))) ss_nil) (ss_one (ss_ret (se_tup (sa_cons se_str (sa_cons (se_own (ok__law_one T) (hr.mono (by decide)) (L2N.takes_of rfl rfl rfl rfl) rfl (sa_cons (se_var 0 (pv 0)) (sa_cons (se_lst (sa_cons se_int (sa_cons se_int (sa_cons se_int (sa_cons se_int (sa_cons se_int (sa_cons se_int (sa_cons se_int (sa_cons se_int (sa_cons se_int (sa_cons (se_un of_neg se_int) (sa_cons se_bl (sa_cons se_non (sa_cons se_str (sa_cons (se_tup (sa_cons se_int sa_nil)) sa_nil))))))))))))))) sa_nil))) sa_nil)))))))))))
abbrev s__law_deed_right : Stmt := top 68
theorem sc__law_deed_right : FnScope ["kinds", "deed", "crew", "owed", "heard"] ["kinds", "deed"] (defScope s__law_deed_right) := ⟨rfl, rfl, rfl, by decide +kernel, rfl, by decide +kernel, by decide +kernel⟩
theorem ok__law_deed_right {P : Program} {w : World} {K : PySem.W.Frag} {mg : Str → Option Value} {base : Heap} (T : Txt P K mg base) : Own P w K mg base 15 "_law_deed_right" 2 F__law_deed_right := by
  have nd : (["kinds", "deed", "crew", "owed", "heard"] : List Str).Nodup := sc__law_deed_right.nd
  refine own_ofL (k := 14) T.d__law_deed_right T.tb (by decide +kernel) T.t__law_deed_right sc__law_deed_right rfl (fun _ _ _ _ _ _ us hl => match us, hl with | [_, _], _ => rfl) (fun f cdv A outer s H E hr M => ?_)
  unfold B__law_deed_right
  exact (ss_cons (ss_asg (se_tup (sa_cons (se_own (ok__law_pd_made T) (hr.mono (by decide)) (L2N.takes_of rfl rfl rfl rfl) rfl (sa_cons (se_var 0 (pv 0)) sa_nil)) (sa_cons (se_own (ok__law_owed_of T) (hr.mono (by decide)) (L2N.takes_of rfl rfl rfl rfl) rfl (sa_cons (se_var 0 (pv 0)) (sa_cons (se_var 1 (pv 1)) sa_nil))) sa_nil))) (sg_tup rfl (sgs_cons rrT (sg_name (pg_name (i := 2) nd rfl (by first | exact Or.inl rfl | exact Or.inr rfl)) (fun _ _ => trivial)) (sgs_cons rrT (sg_name (pg_name (i := 3) nd rfl (by first | exact Or.inl rfl | exact Or.inr rfl)) (fun _ _ => trivial)) (sgs_nil rrT))))) (ss_cons (ss_set (ps_set (i := 4) nd rfl (by first | exact Or.inl rfl | exact Or.inr rfl) (se_heard (k := 11) (ok__law_pu_heard T) M ⟨LamX.lamS_by (by kernel_rfl), rfl, fun _ _ _ _ _ => rfl, fun A outer s H E f9 c9 hr => (se_own (ok__law_done_to T) (hr.mono (by decide)) (L2N.takes_of rfl rfl rfl rfl) rfl (sa_cons (se_var 2 (pv 2)) (sa_cons (se_var 1 (pv 1)) sa_nil)))⟩ (hr.mono (by decide)) (L2N.takes_of rfl rfl rfl rfl) rfl))) (ss_cons (ss_if (sb_not (sb_truth (se_own (ok__law_is_crew_of T) (hr.mono (by decide)) (L2N.takes_of rfl rfl rfl rfl) rfl (sa_cons (se_var 2 (pv 2)) (sa_cons (se_var 0 (pv 0)) sa_nil))))) (ss_one (ss_ret se_non)) ss_nil) (ss_cons (ss_if (sb_cmp (of_ne hr.units) (se_ix (se_var 3 (pv 3)) se_int (fun _ _ => rfl)) se_str (nomark _)) (ss_one (ss_ret (se_if (sb_truth (se_own (ok__law_same T) (hr.mono (by decide)) (L2N.takes_of rfl rfl rfl rfl) rfl (sa_cons (se_var 4 (pv 4)) (sa_cons (se_var 3 (pv 3)) sa_nil)))) (se_var 0 (pv 0)) se_non))) ss_nil) (ss_one (ss_ret (se_if (sb_w (sw_and (sb_cmp (of_eq hr.units) (se_ix (se_var 4 (pv 4)) se_int (fun _ _ => rfl)) se_str (nomark _)) (sw_and1 (sb_truth (se_own (ok__law_is_crew_of T) (hr.mono (by decide)) (L2N.takes_of rfl rfl rfl rfl) rfl (sa_cons (se_ix (se_var 4 (pv 4)) se_int (fun _ _ => rfl)) (sa_cons (se_ix (se_var 3 (pv 3)) se_int (fun _ _ => rfl)) sa_nil))))))) (se_ix (se_var 3 (pv 3)) se_int (fun _ _ => rfl)) se_non)))))))
abbrev s__law_full_right : Stmt := top 69
theorem sc__law_full_right : FnScope ["jar", "kinds", "three", "crew", "row", "parts", "one", "many", "many_kinds"] ["jar", "kinds"] (defScope s__law_full_right) := ⟨rfl, rfl, rfl, by decide +kernel, rfl, by decide +kernel, by decide +kernel⟩
theorem ok__law_full_right {P : Program} {w : World} {K : PySem.W.Frag} {mg : Str → Option Value} {base : Heap} (T : Txt P K mg base) : Own P w K mg base 16 "_law_full_right" 2 F__law_full_right := by
  have nd : (["jar", "kinds", "three", "crew", "row", "parts", "one", "many", "many_kinds"] : List Str).Nodup := sc__law_full_right.nd
  refine own_ofL (k := 15) T.d__law_full_right T.tb (by decide +kernel) T.t__law_full_right sc__law_full_right rfl (fun _ _ _ _ _ _ us hl => match us, hl with | [_, _], _ => rfl) (fun f cdv A outer s H E hr M => ?_)
  unfold B__law_full_right
  exact (ss_cons (ss_set (ps_set (i := 2) nd rfl (by first | exact Or.inl rfl | exact Or.inr rfl) (se_sl (se_op of_add (se_op of_add (se_var 1 (pv 1)) (se_var 1 (pv 1))) (se_var 1 (pv 1))) part_none (part_some se_int)))) (ss_cons (ss_asg (se_tup (sa_cons (se_own (ok__law_pd_made T) (hr.mono (by decide)) (L2N.takes_of rfl rfl rfl rfl) rfl (sa_cons (se_var 2 (pv 2)) sa_nil)) (sa_cons (se_own (ok__law_pd_values T) (hr.mono (by decide)) (L2N.takes_of rfl rfl rfl rfl) rfl (sa_cons (se_var 0 (pv 0)) (sa_cons se_int sa_nil))) sa_nil))) (sg_tup rfl (sgs_cons rrT (sg_name (pg_name (i := 3) nd rfl (by first | exact Or.inl rfl | exact Or.inr rfl)) (fun _ _ => trivial)) (sgs_cons rrT (sg_name (pg_name (i := 4) nd rfl (by first | exact Or.inl rfl | exact Or.inr rfl)) (fun _ _ => trivial)) (sgs_nil rrT))))) (ss_cons (ss_if (sb_not (sb_truth (se_refs (k := 11) (ok__law_pu_refuses T) M ⟨LamX.lamS_by (by kernel_rfl), rfl, fun _ _ _ _ _ => rfl, fun A outer s H E f9 c9 hr => (se_methO (ok_Crew_with_kind T) (hr.mono (by decide)) (L2N.takes_of rfl rfl rfl rfl) (se_var 3 (pv 3)) (sa_cons (se_var 4 (pv 4)) (sa_cons se_int sa_nil)))⟩ se_str se_int (hr.mono (by decide)) (L2N.takes_of rfl rfl rfl rfl) rfl))) (ss_one (ss_ret se_bl)) ss_nil) (ss_cons (ss_if (sb_not (sb_truth (se_refs (k := 11) (ok__law_pu_refuses T) M ⟨LamX.lamS_by (by kernel_rfl), rfl, fun _ _ _ _ _ => rfl, fun A outer s H E f9 c9 hr => (se_methO (ok_Crew_with_kind T) (hr.mono (by decide)) (L2N.takes_of rfl rfl rfl rfl) (se_var 3 (pv 3)) (sa_cons (se_var 4 (pv 4)) (sa_cons (se_un of_neg se_int) sa_nil)))⟩ se_str (se_un of_neg se_int) (hr.mono (by decide)) (L2N.takes_of rfl rfl rfl rfl) rfl))) (ss_one (ss_ret se_bl)) ss_nil) (ss_cons (ss_if (sb_not (sb_truth (se_refs (k := 11) (ok__law_pu_refuses T) M ⟨LamX.lamS_by (by kernel_rfl), rfl, fun _ _ _ _ _ => rfl, fun A outer s H E f9 c9 hr => (se_methO (ok_Crew_with_kind T) (hr.mono (by decide)) (L2N.takes_of rfl rfl rfl rfl) (se_var 3 (pv 3)) (sa_cons (se_lst sa_nil) (sa_cons (se_un of_neg se_int) sa_nil)))⟩ se_str (se_lst sa_nil) (hr.mono (by decide)) (L2N.takes_of rfl rfl rfl rfl) rfl))) (ss_one (ss_ret se_bl)) ss_nil) (ss_cons (ss_set (ps_set (i := 5) nd rfl (by first | exact Or.inl rfl | exact Or.inr rfl) (se_own (ok__law_one T) (hr.mono (by decide)) (L2N.takes_of rfl rfl rfl rfl) rfl (sa_cons (se_var 0 (pv 0)) (sa_cons (se_lst (sa_cons se_int (sa_cons se_int (sa_cons se_int (sa_cons se_int (sa_cons se_int (sa_cons se_int sa_nil))))))) sa_nil))))) (ss_cons (ss_set (ps_set (i := 8) nd rfl (by first | exact Or.inl rfl | exact Or.inr rfl) (se_ct ct_tuple rfl T.b_tuple (by decide +kernel) (sa_cons (se_comp (own := [("one", 6), ("many", 7)]) rfl nd (si_any (se_var 1 (pv 1))) (blkOk_by (by kernel_rfl)) (fun s H C cl fp => (sg_tup rfl (sgs_cons (rrW _) (sg_name (pg_name (i := 6) nd rfl (by first | exact Or.inl rfl | exact Or.inr rfl)) (fun σ v => wipe_set σ (by simp))) (sgs_cons (rrW _) (sg_name (pg_name (i := 7) nd rfl (by first | exact Or.inl rfl | exact Or.inr rfl)) (fun σ v => wipe_set σ (by simp))) (sgs_nil (rrW _)))))) (fun s H C cl fp => sts_nil) (fun s H C cl fp => (se_tup (sa_cons (se_var 6 (pv 6)) (sa_cons (se_op of_mul (se_cb (cb_min rfl) rfl T.b_min (by decide +kernel) (sa_cons (se_ct ct_int rfl T.b_int (by decide +kernel) (sa_cons (se_var 7 (pv 7)) sa_nil)) (sa_cons (se_op of_pow se_int se_int) sa_nil))) (se_var 5 (pv 5))) sa_nil))))) sa_nil)))) (ss_one (ss_ret (se_cmp (of_eq hr.units) (se_own (ok__law_deed_right T) (hr.mono (by decide)) (L2N.takes_of rfl rfl rfl rfl) rfl (sa_cons (se_var 8 (pv 8)) (sa_cons (se_tup (sa_cons se_str (sa_cons (se_var 5 (pv 5)) sa_nil))) sa_nil))) (se_ct ct_tuple rfl T.b_tuple (by decide +kernel) (sa_cons (se_comp (own := [("one", 6), ("many", 7)]) rfl nd (si_any (se_var 1 (pv 1))) (blkOk_by (by kernel_rfl)) (fun s H C cl fp => (sg_tup rfl (sgs_cons (rrW _) (sg_name (pg_name (i := 6) nd rfl (by first | exact Or.inl rfl | exact Or.inr rfl)) (fun σ v => wipe_set σ (by simp))) (sgs_cons (rrW _) (sg_name (pg_name (i := 7) nd rfl (by first | exact Or.inl rfl | exact Or.inr rfl)) (fun σ v => wipe_set σ (by simp))) (sgs_nil (rrW _)))))) (fun s H C cl fp => sts_nil) (fun s H C cl fp => (se_tup (sa_cons (se_var 6 (pv 6)) (sa_cons (se_cb (cb_min rfl) rfl T.b_min (by decide +kernel) (sa_cons (se_ct ct_int rfl T.b_int (by decide +kernel) (sa_cons (se_var 7 (pv 7)) sa_nil)) (sa_cons (se_op of_pow se_int se_int) sa_nil))) sa_nil))))) sa_nil)) (nomark _)))))))))))
abbrev s_law : Stmt := top 70
theorem sc_law : FnScope ["script", "jar", "go", "kinds", "turn"] ["script"] (defScope s_law) := ⟨rfl, rfl, rfl, by decide +kernel, rfl, by decide +kernel, by decide +kernel⟩
theorem ok_law {P : Program} {w : World} {K : PySem.W.Frag} {mg : Str → Option Value} {base : Heap} (T : Txt P K mg base) : Own P w K mg base 17 "law" 1 F_law := by
  have nd : (["script", "jar", "go", "kinds", "turn"] : List Str).Nodup := sc_law.nd
  refine own_of (k := 16) T.d_law sc_law rfl (fun _ _ _ _ _ _ us hl => match us, hl with | [_], _ => rfl) (fun f cdv A outer s H E hr => ?_)
  unfold B_law
  exact (ss_cons (ss_set (ps_set (i := 1) nd rfl (by first | exact Or.inl rfl | exact Or.inr rfl) se_non)) (ss_cons (ss_for (passes_of rfl) rfl (si_r1 (pi_range1 rfl T.b_range (sa_cons se_int sa_nil))) (sg_name (pg_name (i := 2) nd rfl (by first | exact Or.inl rfl | exact Or.inr rfl)) (fun _ _ => trivial)) (ss_cons (ss_set (ps_set (i := 1) nd rfl (by first | exact Or.inl rfl | exact Or.inr rfl) (se_own (ok__law_pu_jar_on T) (hr.mono (by decide)) (L2N.takes_of rfl rfl rfl rfl) rfl (sa_cons (se_var 0 (pv 0)) (sa_cons (se_var 2 (pv 2)) (sa_cons (se_var 1 (pv 1)) sa_nil)))))) (ss_cons (ss_set (ps_set (i := 3) nd rfl (by first | exact Or.inl rfl | exact Or.inr rfl) (se_own (ok__law_one T) (hr.mono (by decide)) (L2N.takes_of rfl rfl rfl rfl) rfl (sa_cons (se_var 1 (pv 1)) (sa_cons (se_lst (sa_cons (se_own (ok__law_pd_some_crew T) (hr.mono (by decide)) (L2N.takes_of rfl rfl rfl rfl) rfl (sa_cons (se_var 1 (pv 1)) sa_nil)) (sa_cons (se_own (ok__law_pd_great_crew T) (hr.mono (by decide)) (L2N.takes_of rfl rfl rfl rfl) rfl (sa_cons (se_var 1 (pv 1)) (sa_cons se_int sa_nil))) sa_nil))) sa_nil))))) (ss_cons (ss_for (passes_of rfl) rfl (si_r1 (pi_range1 rfl T.b_range (sa_cons se_int sa_nil))) (sg_name (pg_name (i := 4) nd rfl (by first | exact Or.inl rfl | exact Or.inr rfl)) (fun _ _ => trivial)) (ss_cons (ss_set (ps_set (i := 3) nd rfl (by first | exact Or.inl rfl | exact Or.inr rfl) (se_own (ok__law_deed_right T) (hr.mono (by decide)) (L2N.takes_of rfl rfl rfl rfl) rfl (sa_cons (se_var 3 (pv 3)) (sa_cons (se_own (ok__law_deed_drawn T) (hr.mono (by decide)) (L2N.takes_of rfl rfl rfl rfl) rfl (sa_cons (se_var 1 (pv 1)) (sa_cons (se_var 3 (pv 3)) sa_nil))) sa_nil))))) (ss_one (ss_if (sb_cmp of_is (se_var 3 (pv 3)) se_non (nomark _)) (ss_one (ss_ret se_bl)) ss_nil)))) (ss_one (ss_if (sb_not (sb_truth (se_own (ok__law_full_right T) (hr.mono (by decide)) (L2N.takes_of rfl rfl rfl rfl) rfl (sa_cons (se_var 1 (pv 1)) (sa_cons (se_var 3 (pv 3)) sa_nil))))) (ss_one (ss_ret se_bl)) ss_nil)))))) (ss_one (ss_ret se_bl))))
theorem law_fn {P : Program} {w : World} {K : PySem.W.Frag} {mg : Str → Option Value} {base : Heap} (T : Txt P K mg base) {f : Addr} {fd : FuncData} (FU : FnP K "law" "law" s_law f fd) : FnOk P w K mg base (L2N.CX P w) 17 f fd ["script"] (spF K mg 1 F_law) := by
  have nd : (["script", "jar", "go", "kinds", "turn"] : List Str).Nodup := sc_law.nd
  refine defD_ok (k := 16) FU sc_law rfl (fun cdv A outer s H E hr => ?_)
  unfold B_law
  exact (ss_cons (ss_set (ps_set (i := 1) nd rfl (by first | exact Or.inl rfl | exact Or.inr rfl) se_non)) (ss_cons (ss_for (passes_of rfl) rfl (si_r1 (pi_range1 rfl T.b_range (sa_cons se_int sa_nil))) (sg_name (pg_name (i := 2) nd rfl (by first | exact Or.inl rfl | exact Or.inr rfl)) (fun _ _ => trivial)) (ss_cons (ss_set (ps_set (i := 1) nd rfl (by first | exact Or.inl rfl | exact Or.inr rfl) (se_own (ok__law_pu_jar_on T) (hr.mono (by decide)) (L2N.takes_of rfl rfl rfl rfl) rfl (sa_cons (se_var 0 (pv 0)) (sa_cons (se_var 2 (pv 2)) (sa_cons (se_var 1 (pv 1)) sa_nil)))))) (ss_cons (ss_set (ps_set (i := 3) nd rfl (by first | exact Or.inl rfl | exact Or.inr rfl) (se_own (ok__law_one T) (hr.mono (by decide)) (L2N.takes_of rfl rfl rfl rfl) rfl (sa_cons (se_var 1 (pv 1)) (sa_cons (se_lst (sa_cons (se_own (ok__law_pd_some_crew T) (hr.mono (by decide)) (L2N.takes_of rfl rfl rfl rfl) rfl (sa_cons (se_var 1 (pv 1)) sa_nil)) (sa_cons (se_own (ok__law_pd_great_crew T) (hr.mono (by decide)) (L2N.takes_of rfl rfl rfl rfl) rfl (sa_cons (se_var 1 (pv 1)) (sa_cons se_int sa_nil))) sa_nil))) sa_nil))))) (ss_cons (ss_for (passes_of rfl) rfl (si_r1 (pi_range1 rfl T.b_range (sa_cons se_int sa_nil))) (sg_name (pg_name (i := 4) nd rfl (by first | exact Or.inl rfl | exact Or.inr rfl)) (fun _ _ => trivial)) (ss_cons (ss_set (ps_set (i := 3) nd rfl (by first | exact Or.inl rfl | exact Or.inr rfl) (se_own (ok__law_deed_right T) (hr.mono (by decide)) (L2N.takes_of rfl rfl rfl rfl) rfl (sa_cons (se_var 3 (pv 3)) (sa_cons (se_own (ok__law_deed_drawn T) (hr.mono (by decide)) (L2N.takes_of rfl rfl rfl rfl) rfl (sa_cons (se_var 1 (pv 1)) (sa_cons (se_var 3 (pv 3)) sa_nil))) sa_nil))))) (ss_one (ss_if (sb_cmp of_is (se_var 3 (pv 3)) se_non (nomark _)) (ss_one (ss_ret se_bl)) ss_nil)))) (ss_one (ss_if (sb_not (sb_truth (se_own (ok__law_full_right T) (hr.mono (by decide)) (L2N.takes_of rfl rfl rfl rfl) rfl (sa_cons (se_var 1 (pv 1)) (sa_cons (se_var 3 (pv 3)) sa_nil))))) (ss_one (ss_ret se_bl)) ss_nil)))))) (ss_one (ss_ret se_bl))))
end K01
/-! what a function's answer is: rules for plain proofs -/
namespace PF
open PySem PySem.Spec PyProof.Rows L2
def okR {β : Type} (r : Res β) (Q : β → Sto → Prop) : Prop := match r with
  | .ok d S => Q d S
  | _ => False
def okS (r : Out) (N : Stt → Sto → Prop) (R : D → Sto → Prop) : Prop := match r with
  | .nx σ S => N σ S
  | .rt d S => R d S
  | _ => False
theorem okR.mono {β : Type} {r : Res β} {Q Q' : β → Sto → Prop} (h : okR r Q) (w : ∀ d S, Q d S → Q' d S) : okR r Q' := by
  cases r with
  | ok d S => exact w d S h
  | _ => exact h
theorem okS.mono {r : Out} {N N' : Stt → Sto → Prop} {R R' : D → Sto → Prop} (h : okS r N R) (w : ∀ d S, N d S → N' d S) (w' : ∀ d S, R d S → R' d S) : okS r N' R' := by
  cases r with
  | nx d S => exact w d S h
  | rt d S => exact w' d S h
  | _ => exact h
theorem okR.get {β : Type} {r : Res β} {Q : β → Sto → Prop} (h : okR r Q) : ∃ d S, r = .ok d S ∧ Q d S := by
  cases r with
  | ok d S => exact ⟨d, S, rfl, h⟩
  | _ => exact h.elim
section
variable {β γ : Type} {f g k : EF} {t u : BF} {a b : SF} {r : AF} {o lo hi : OF} {σ : Stt} {S : Sto} {i j n : Nat} {Q : D → Sto → Prop} {N : Stt → Sto → Prop} {R : D → Sto → Prop}
theorem w_bind {x : Res β} {h : β → Sto → Res γ} {Q : γ → Sto → Prop} : okR (x.bind h) Q ↔ okR x fun d S => okR (h d S) Q := by
  cases x <;> exact Iff.rfl
theorem w_out {x : Res β} {h : β → Sto → Out} : okS (x.out σ h) N R ↔ okR x fun d S => okS (h d S) N R := by
  cases x <;> exact Iff.rfl
theorem w_opt {x : Option D} : okR (match x with | some d => Res.ok d S | none => .bad) Q ↔ ∃ d, x = some d ∧ Q d S := by
  cases x with
  | none => exact ⟨fun h => h.elim, fun ⟨_, e, _⟩ => nomatch e⟩
  | some d => exact ⟨fun h => ⟨d, rfl, h⟩, fun ⟨_, e, h⟩ => by cases e; exact h⟩
theorem w_var : okR (fVar i σ S) Q ↔ ∃ d, σ[i]? = some (some d) ∧ Q d S := by
  unfold fVar
  cases e : σ[i]? with
  | none => exact ⟨fun h => h.elim, fun ⟨_, e, _⟩ => nomatch e⟩
  | some x => cases x with
    | none => exact ⟨fun h => h.elim, fun ⟨_, e, _⟩ => nomatch e⟩
    | some d => exact ⟨fun h => ⟨d, rfl, h⟩, fun ⟨_, e, h⟩ => by cases e; exact h⟩
theorem w_c {d : D} : okR (fC d σ S) Q ↔ Q d S := Iff.rfl
theorem w_nil {Q : List D → Sto → Prop} : okR (aNil σ S) Q ↔ Q [] S := Iff.rfl
theorem w_cons {Q : List D → Sto → Prop} : okR (aCons f r σ S) Q ↔ okR (f σ S) fun d S1 => okR (r σ S1) fun ds S2 => Q (d :: ds) S2 := by
  unfold aCons; rw [w_bind]; simp only [w_bind]; exact Iff.rfl
theorem w_f1 {h : D → Option D} : okR (f1 h f σ S) Q ↔ okR (f σ S) fun x S1 => ∃ d, h x = some d ∧ Q d S1 := by
  unfold f1; rw [w_bind]
  refine iff_of_eq (congrArg _ (funext fun x => funext fun S1 => propext ?_))
  cases e : h x with
  | none => exact ⟨fun z => z.elim, fun ⟨_, e, _⟩ => nomatch e⟩
  | some d => exact ⟨fun z => ⟨d, rfl, z⟩, fun ⟨_, e, z⟩ => by cases e; exact z⟩
theorem w_f2 {h : D → D → Option D} : okR (f2 h f g σ S) Q ↔ okR (f σ S) fun x S1 => okR (g σ S1) fun y S2 => ∃ d, h x y = some d ∧ Q d S2 := by
  unfold f2; simp only [w_bind]
  refine iff_of_eq (congrArg _ (funext fun x => funext fun S1 => congrArg _ (funext fun y => funext fun S2 => propext ?_)))
  cases e : h x y with
  | none => exact ⟨fun z => z.elim, fun ⟨_, e, _⟩ => nomatch e⟩
  | some d => exact ⟨fun z => ⟨d, rfl, z⟩, fun ⟨_, e, z⟩ => by cases e; exact z⟩
theorem w_chain {h h' : D → D → Option D} : okR (fChain h h' f g k σ S) Q ↔ okR (f σ S) fun x S1 => okR (g σ S1) fun y S2 => ∃ b, h x y = some (.bl b) ∧ (b = true → okR (k σ S2) fun z S3 => ∃ d, h' y z = some d ∧ Q d S3) ∧ (b = false → Q (.bl false) S2) := by
  unfold fChain
  simp only [w_bind]
  refine iff_of_eq (congrArg _ (funext fun x => funext fun S1 => congrArg _ (funext fun y => funext fun S2 => propext ?_)))
  cases e : h x y with
  | none => exact ⟨fun z => z.elim, fun ⟨_, z, _⟩ => nomatch z⟩
  | some d =>
    cases d with
    | bl b =>
      cases b with
      | true =>
        show okR (Res.bind _ _) Q ↔ _
        rw [w_bind]
        have e9 : (okR (k σ S2) fun z S3 => okR (match h' y z with
          | some d => Res.ok d S3
          | none => .bad) Q) = okR (k σ S2) fun z S3 => ∃ d, h' y z = some d ∧ Q d S3 := congrArg _ (funext fun z => funext fun S3 => propext w_opt)
        exact ⟨fun z => ⟨true, rfl, fun _ => e9 ▸ z, fun z => nomatch z⟩, fun ⟨b, e, z, _⟩ => by cases e; exact e9.symm ▸ z rfl⟩
      | false => exact ⟨fun z => ⟨false, rfl, (fun z => nomatch z), fun _ => z⟩, fun ⟨b, e, _, z⟩ => by cases e; exact z rfl⟩
    | _ => exact ⟨fun z => z.elim, fun ⟨_, z, _⟩ => nomatch z⟩
theorem w_call {F : FF} : okR (fCall n F r σ S) Q ↔ okR (r σ S) fun ds S1 => ds.length = n ∧ okR (F ds S1) Q := by
  unfold fCall
  rw [w_bind]
  refine iff_of_eq (congrArg _ (funext fun x => funext fun S1 => propext ?_))
  by_cases e : x.length = n
  · rw [if_pos e]; exact ⟨fun z => ⟨e, z⟩, fun z => z.2⟩
  · rw [if_neg e]; exact ⟨fun z => z.elim, fun z => e z.1⟩
theorem w_b {h : HB} : okR (fB h r σ S) Q ↔ okR (r σ S) fun ds S1 => ∃ d S2, h ds S1 = some (d, S2) ∧ Q d S2 := by
  unfold fB
  rw [w_bind]
  refine iff_of_eq (congrArg _ (funext fun x => funext fun S1 => propext ?_))
  cases e : h x S1 with
  | none => exact ⟨fun z => z.elim, fun ⟨_, _, z, _⟩ => nomatch z⟩
  | some p => exact ⟨fun z => ⟨p.1, p.2, rfl, z⟩, fun ⟨_, _, z, q⟩ => by cases z; exact q⟩
theorem w_and : okR (fAnd f g σ S) Q ↔ okR (f σ S) fun x S1 => ∃ b, x = .bl b ∧ (b = true → okR (g σ S1) Q) ∧ (b = false → Q (.bl false) S1) := by
  unfold fAnd
  rw [w_bind]
  refine iff_of_eq (congrArg _ (funext fun x => funext fun S1 => propext ?_))
  cases x with
  | bl b => cases b with
    | true => exact ⟨fun z => ⟨true, rfl, fun _ => z, fun z => nomatch z⟩, fun ⟨b, e, z, _⟩ => by cases e; exact z rfl⟩
    | false => exact ⟨fun z => ⟨false, rfl, (fun z => nomatch z), fun _ => z⟩, fun ⟨b, e, _, z⟩ => by cases e; exact z rfl⟩
  | _ => exact ⟨fun z => z.elim, fun ⟨_, z, _⟩ => nomatch z⟩
theorem w_if : okR (fIf t f g σ S) Q ↔ okR (t σ S) fun b S1 => (b = true → okR (f σ S1) Q) ∧ (b = false → okR (g σ S1) Q) := by
  unfold fIf
  rw [w_bind]
  refine iff_of_eq (congrArg _ (funext fun x => funext fun S1 => propext ?_))
  cases x with
  | true => exact ⟨fun z => ⟨fun _ => z, fun z => nomatch z⟩, fun z => z.1 rfl⟩
  | false => exact ⟨fun z => ⟨(fun z => nomatch z), fun _ => z⟩, fun z => z.2 rfl⟩
theorem w_bV {Q : Bool → Sto → Prop} : okR (bV f σ S) Q ↔ okR (f σ S) fun x S1 => ∃ b, x = .bl b ∧ Q b S1 := by
  unfold bV
  rw [w_bind]
  refine iff_of_eq (congrArg _ (funext fun x => funext fun S1 => propext ?_))
  cases x with
  | bl b => exact ⟨fun z => ⟨b, rfl, z⟩, fun ⟨_, e, z⟩ => by cases e; exact z⟩
  | _ => exact ⟨fun z => z.elim, fun ⟨_, z, _⟩ => nomatch z⟩
theorem w_bT {Q : Bool → Sto → Prop} : okR (bT f σ S) Q ↔ okR (f σ S) fun x S1 => ∃ b, truB x = some b ∧ Q b S1 := by
  unfold bT
  rw [w_bind]
  refine iff_of_eq (congrArg _ (funext fun x => funext fun S1 => propext ?_))
  cases e : truB x with
  | none => exact ⟨fun z => z.elim, fun ⟨_, z, _⟩ => nomatch z⟩
  | some b => exact ⟨fun z => ⟨b, rfl, z⟩, fun ⟨_, e, z⟩ => by cases e; exact z⟩
theorem w_not {Q : Bool → Sto → Prop} : okR (bNot t σ S) Q ↔ okR (t σ S) fun x S1 => Q (!x) S1 := by
  unfold bNot; rw [w_bind]; exact Iff.rfl
theorem w_or {Q : Bool → Sto → Prop} : okR (bOr t u σ S) Q ↔ okR (t σ S) fun x S1 => (x = true → Q true S1) ∧ (x = false → okR (u σ S1) Q) := by
  unfold bOr
  rw [w_bind]
  refine iff_of_eq (congrArg _ (funext fun x => funext fun S1 => propext ?_))
  cases x with
  | true => exact ⟨fun z => ⟨fun _ => z, fun z => nomatch z⟩, fun z => z.1 rfl⟩
  | false => exact ⟨fun z => ⟨(fun z => nomatch z), fun _ => z⟩, fun z => z.2 rfl⟩
theorem w_bAnd {Q : Bool → Sto → Prop} : okR (bAnd t u σ S) Q ↔ okR (t σ S) fun x S1 => (x = true → okR (u σ S1) Q) ∧ (x = false → Q false S1) := by
  unfold bAnd
  rw [w_bind]
  refine iff_of_eq (congrArg _ (funext fun x => funext fun S1 => propext ?_))
  cases x with
  | true => exact ⟨fun z => ⟨fun _ => z, fun z => nomatch z⟩, fun z => z.1 rfl⟩
  | false => exact ⟨fun z => ⟨(fun z => nomatch z), fun _ => z⟩, fun z => z.2 rfl⟩
theorem w_ix : okR (fIx f g σ S) Q ↔ okR (f σ S) fun x S1 => okR (g σ S1) fun y S2 => ∃ d, ixD S2 x y = some d ∧ Q d S2 := by
  unfold fIx; simp only [w_bind]
  refine iff_of_eq (congrArg _ (funext fun x => funext fun S1 => congrArg _ (funext fun y => funext fun S2 => propext ?_)))
  cases e : ixD S2 x y with
  | none => exact ⟨fun z => z.elim, fun ⟨_, e, _⟩ => nomatch e⟩
  | some d => exact ⟨fun z => ⟨d, rfl, z⟩, fun ⟨_, e, z⟩ => by cases e; exact z⟩
theorem w_isi {cs : List TT} : okR (fIsi cs f σ S) Q ↔ okR (f σ S) fun x S1 => ∃ b, isaD S1 cs x = some b ∧ Q (.bl b) S1 := by
  unfold fIsi
  rw [w_bind]
  refine iff_of_eq (congrArg _ (funext fun x => funext fun S1 => propext ?_))
  cases e : isaD S1 cs x with
  | none => exact ⟨fun z => z.elim, fun ⟨_, z, _⟩ => nomatch z⟩
  | some b => exact ⟨fun z => ⟨b, rfl, z⟩, fun ⟨_, e, z⟩ => by cases e; exact z⟩
theorem w_tup : okR (fTup r σ S) Q ↔ okR (r σ S) fun ds S1 => ds.length ≤ LINE ∧ Q (.tup ds) S1 := by
  unfold fTup
  rw [w_bind]
  refine iff_of_eq (congrArg _ (funext fun x => funext fun S1 => propext ?_))
  by_cases e : x.length ≤ LINE
  · rw [if_pos e]; exact ⟨fun z => ⟨e, z⟩, fun z => z.2⟩
  · rw [if_neg e]; exact ⟨fun z => z.elim, fun z => e z.1⟩
theorem w_lst : okR (fLst r σ S) Q ↔ okR (r σ S) fun ds S1 => ds.length ≤ LINE ∧ Q (.lst ds) S1 := by
  unfold fLst
  rw [w_bind]
  refine iff_of_eq (congrArg _ (funext fun x => funext fun S1 => propext ?_))
  by_cases e : x.length ≤ LINE
  · rw [if_pos e]; exact ⟨fun z => ⟨e, z⟩, fun z => z.2⟩
  · rw [if_neg e]; exact ⟨fun z => z.elim, fun z => e z.1⟩
theorem w_new : okR (fNew r σ S) Q ↔ okR (r σ S) fun ds S1 => ds.length ≤ LINE ∧ Q (.ref S1.length) (S1 ++ [some ds]) := by
  unfold fNew
  rw [w_bind]
  refine iff_of_eq (congrArg _ (funext fun x => funext fun S1 => propext ?_))
  by_cases e : x.length ≤ LINE
  · rw [if_pos e]; exact ⟨fun z => ⟨e, z⟩, fun z => z.2⟩
  · rw [if_neg e]; exact ⟨fun z => z.elim, fun z => e z.1⟩
theorem w_q {Q : List D → Sto → Prop} : okR (iQ f σ S) Q ↔ okR (f σ S) fun x S1 => ∃ l, (x = .lst l ∨ x = .scr l ∨ x = .tup l) ∧ Q l S1 := by
  unfold iQ
  rw [w_bind]
  refine iff_of_eq (congrArg _ (funext fun x => funext fun S1 => propext ?_))
  cases x with
  | lst l => exact ⟨fun z => ⟨l, .inl rfl, z⟩, fun ⟨_, e, z⟩ => by rcases e with e | e | e <;> cases e; exact z⟩
  | scr l => exact ⟨fun z => ⟨l, .inr (.inl rfl), z⟩, fun ⟨_, e, z⟩ => by rcases e with e | e | e <;> cases e; exact z⟩
  | tup l => exact ⟨fun z => ⟨l, .inr (.inr rfl), z⟩, fun ⟨_, e, z⟩ => by rcases e with e | e | e <;> cases e; exact z⟩
  | _ => exact ⟨fun z => z.elim, fun ⟨_, e, z⟩ => by rcases e with e | e | e <;> cases e⟩
theorem w_r1 {Q : List D → Sto → Prop} : okR (iR1 r σ S) Q ↔ okR (r σ S) fun ds S1 => ∃ j : Int, ds = [.int j] ∧ -(2 ^ 62) ≤ j ∧ j < 2 ^ 62 ∧ Q (rngD 0 j.toNat) S1 := by
  unfold iR1
  rw [w_bind]
  refine iff_of_eq (congrArg _ (funext fun x => funext fun S1 => propext ?_))
  constructor
  · intro z
    split at z
    · rename_i j
      split at z
      · rename_i h; exact ⟨j, rfl, h.1, h.2, z⟩
      · exact z.elim
    · exact z.elim
  · rintro ⟨j, rfl, h1, h2, z⟩
    show okR (if _ then _ else _) Q
    rw [if_pos ⟨h1, h2⟩]; exact z
theorem w_r2 {Q : List D → Sto → Prop} : okR (iR2 r σ S) Q ↔ okR (r σ S) fun ds S1 => ∃ i j : Int, ds = [.int i, .int j] ∧ (-(2 ^ 62) ≤ i ∧ i < 2 ^ 62 ∧ -(2 ^ 62) ≤ j ∧ j < 2 ^ 62) ∧ Q (rngD i (j - i).toNat) S1 := by
  unfold iR2
  rw [w_bind]
  refine iff_of_eq (congrArg _ (funext fun x => funext fun S1 => propext ?_))
  constructor
  · intro z
    split at z
    · rename_i i j
      split at z
      · rename_i h; exact ⟨i, j, rfl, h, z⟩
      · exact z.elim
    · exact z.elim
  · rintro ⟨i, j, rfl, h, z⟩
    show okR (if _ then _ else _) Q
    rw [if_pos h]; exact z
theorem w_oN {Q : Option Int → Sto → Prop} : okR (oNone σ S) Q ↔ Q none S := Iff.rfl
theorem w_oS {Q : Option Int → Sto → Prop} : okR (oSome f σ S) Q ↔ okR (f σ S) fun d S1 => ∃ i, d = .int i ∧ Q (some i) S1 := by
  unfold oSome
  rw [w_bind]
  refine iff_of_eq (congrArg _ (funext fun x => funext fun S1 => propext ?_))
  cases x with
  | int i => exact ⟨fun z => ⟨i, rfl, z⟩, fun ⟨_, e, z⟩ => by cases e; exact z⟩
  | _ => exact ⟨fun z => z.elim, fun ⟨_, z, _⟩ => nomatch z⟩
theorem w_sl : okR (fSl f lo hi σ S) Q ↔ okR (f σ S) fun x S1 => okR (lo σ S1) fun l S2 => okR (hi σ S2) fun u S3 => ∃ d, slD x l u = some d ∧ Q d S3 := by
  unfold fSl; simp only [w_bind]
  refine iff_of_eq (congrArg _ (funext fun x => funext fun S1 => congrArg _ (funext fun y => funext fun S2 => congrArg _ (funext fun u => funext fun S3 => propext ?_))))
  cases e : slD x y u with
  | none => exact ⟨fun z => z.elim, fun ⟨_, e, _⟩ => nomatch e⟩
  | some d => exact ⟨fun z => ⟨d, rfl, z⟩, fun ⟨_, e, z⟩ => by cases e; exact z⟩
theorem w_runF {b : SF} {ds : List D} : okR (runF n b ds S) Q ↔ okS (b (startD n ds) S) (fun _ S' => Q .non S') Q := by
  unfold runF Out.res
  cases b (startD n ds) S <;> exact Iff.rfl
theorem w_snil : okS (sNil σ S) N R ↔ N σ S := Iff.rfl
theorem w_seq : okS (sSeq a b σ S) N R ↔ okS (a σ S) (fun σ1 S1 => okS (b σ1 S1) N R) R := by
  unfold sSeq
  cases a σ S <;> exact Iff.rfl
theorem w_ret : okS (sRet f σ S) N R ↔ okR (f σ S) R := by
  unfold sRet; rw [w_out]; exact Iff.rfl
theorem w_sif : okS (sIf t a b σ S) N R ↔ okR (t σ S) fun x S1 => (x = true → okS (a σ S1) N R) ∧ (x = false → okS (b σ S1) N R) := by
  unfold sIf
  rw [w_out]
  refine iff_of_eq (congrArg _ (funext fun x => funext fun S1 => propext ?_))
  cases x with
  | true => exact ⟨fun z => ⟨fun _ => z, fun z => nomatch z⟩, fun z => z.1 rfl⟩
  | false => exact ⟨fun z => ⟨(fun z => nomatch z), fun _ => z⟩, fun z => z.2 rfl⟩
theorem w_asg {g : GF} : okS (sAsg f g σ S) N R ↔ okR (f σ S) fun d S1 => ∃ σ1, g d σ = some σ1 ∧ N σ1 S1 := by
  unfold sAsg
  rw [w_out]
  refine iff_of_eq (congrArg _ (funext fun x => funext fun S1 => propext ?_))
  cases e : g x σ with
  | none => exact ⟨fun z => z.elim, fun ⟨_, z, _⟩ => nomatch z⟩
  | some b => exact ⟨fun z => ⟨b, rfl, z⟩, fun ⟨_, e, z⟩ => by cases e; exact z⟩
theorem w_par : okS (sPar i j r σ S) N R ↔ okR (r σ S) fun ds S1 => ∃ x y, ds = [x, y] ∧ N ((σ.set i (some x)).set j (some y)) S1 := by
  unfold sPar
  rw [w_out]
  refine iff_of_eq (congrArg _ (funext fun x => funext fun S1 => propext ?_))
  constructor
  · intro z
    split at z
    · rename_i x y; exact ⟨x, y, rfl, z⟩
    · exact z.elim
  · rintro ⟨x, y, rfl, z⟩; exact z
theorem w_sub : okS (sSub f g k σ S) N R ↔ okR (k σ S) fun d S1 => okR (f σ S1) fun x S2 => okR (g σ S2) fun i S3 => ∃ n m l j, x = .ref n ∧ i = .int m ∧ S3[n]? = some (some l) ∧ ixN l.length m = some j ∧ N σ (S3.set n (some (l.set j d))) := by
  unfold sSub
  simp only [w_out]
  refine iff_of_eq (congrArg _ (funext fun d => funext fun S1 => congrArg _ (funext fun x => funext fun S2 => congrArg _ (funext fun i => funext fun S3 => propext ?_))))
  constructor
  · intro z
    split at z
    · rename_i n m
      split at z
      · rename_i l hl
        split at z
        · rename_i j hj; exact ⟨n, m, l, j, rfl, rfl, hl, hj, z⟩
        · exact z.elim
      · exact z.elim
    · exact z.elim
  · rintro ⟨n, m, l, j, rfl, rfl, h1, h2, z⟩
    simp only [h1, h2]; exact z
theorem w_app : okS (sApp f g σ S) N R ↔ okR (f σ S) fun x S1 => ∃ n l0, x = .ref n ∧ S1[n]? = some (some l0) ∧ okR (g σ S1) fun d S2 => ∃ l, S2[n]? = some (some l) ∧ l.length < LINE ∧ N σ (S2.set n (some (l ++ [d]))) := by
  unfold sApp
  simp only [w_out]
  refine iff_of_eq (congrArg _ (funext fun x => funext fun S1 => propext ?_))
  constructor
  · intro z
    split at z
    · rename_i n
      split at z
      · rename_i l0 hl0
        rw [w_out] at z
        refine ⟨n, l0, rfl, hl0, z.mono fun d S2 z => ?_⟩
        split at z
        · rename_i l hl
          split at z
          · rename_i h; exact ⟨l, hl, h, z⟩
          · exact z.elim
        · exact z.elim
      · exact z.elim
    · exact z.elim
  · rintro ⟨n, l0, rfl, h1, z⟩
    simp only [h1, w_out]
    refine z.mono fun d S2 ⟨l, h2, h3, z⟩ => ?_
    simp only [h2, if_pos h3]; exact z
theorem w_for {g : GF} : okS (sFor r g b σ S) N R ↔ okR (r σ S) fun ds S1 => okS (forF g b ds σ S1) N R := by
  unfold sFor; rw [w_out]
/-- a loop, by what holds ahead of each turn -/
theorem for_inv {g : GF} (I : List D → Stt → Sto → Prop) (step : ∀ d ds σ S, I (d :: ds) σ S → ∃ σ1, g d σ = some σ1 ∧ okS (b σ1 S) (fun σ2 S2 => I ds σ2 S2) R) (hend : ∀ σ S, I [] σ S → N σ S) : ∀ (ds : List D) (σ : Stt) (S : Sto), I ds σ S → okS (forF g b ds σ S) N R
  | [], σ, S, h => hend σ S h
  | d :: ds, σ, S, h => by
    obtain ⟨σ1, e, h1⟩ := step d ds σ S h
    unfold forF
    rw [e]
    dsimp only
    cases e2 : b σ1 S with
    | nx σ2 S2 => rw [e2] at h1; exact for_inv I step hend ds σ2 S2 h1
    | rt d S2 => rw [e2] at h1; exact h1
    | _ => rw [e2] at h1; exact h1.elim
/-- a comprehension that changes nothing -/
theorem comp_pure {g : GF} {p : D → Bool} {h : D → D} : ∀ {ds : List D}, (∀ d ∈ ds, ∃ σ1, g d σ = some σ1 ∧ t σ1 S = .ok (p d) S ∧ (p d = true → f σ1 S = .ok (h d) S)) → compF g t f ds σ S = .ok ((ds.filter p).map h) S
  | [], _ => rfl
  | d :: ds, hd => by
    obtain ⟨σ1, e1, e2, e3⟩ := hd d List.mem_cons_self
    have ih := comp_pure (ds := ds) fun x hx => hd x (List.mem_cons_of_mem _ hx)
    unfold compF
    rw [e1]
    dsimp only
    rw [e2]
    cases hp : p d with
    | true =>
      dsimp only
      rw [e3 hp]
      dsimp only
      rw [ih, List.filter_cons_of_pos hp]
      rfl
    | false =>
      dsimp only
      rw [ih, List.filter_cons_of_neg (by rw [hp]; exact Bool.false_ne_true)]
theorem w_comp {vs : List Nat} {g : GF} : okR (fComp vs r g t f σ S) Q ↔ okR (r σ S) fun ds S1 => ∃ ys S2, compF g t f ds (wipeD σ vs) S1 = .ok ys S2 ∧ ys.length ≤ LINE ∧ Q (.lst ys) S2 := by
  unfold fComp
  rw [w_bind]
  refine iff_of_eq (congrArg _ (funext fun ds => funext fun S1 => propext ?_))
  cases e : compF g t f ds (wipeD σ vs) S1 with
  | ok ys S2 =>
    dsimp only
    by_cases hl : ys.length ≤ LINE
    · rw [if_pos hl]; exact ⟨fun z => ⟨ys, S2, rfl, hl, z⟩, fun ⟨_, _, e, _, z⟩ => by cases e; exact z⟩
    · rw [if_neg hl]; exact ⟨fun z => z.elim, fun ⟨_, _, e, h, _⟩ => by cases e; exact hl h⟩
  | _ => exact ⟨fun z => z.elim, fun ⟨_, _, e, _⟩ => nomatch e⟩
end
end PF
/-! the draws -/
namespace K01
open PySem PySem.Spec PyProof.Rows L2 PF
/-- a pool of draws stands at j -/
def Jar (S : Sto) (j : Nat) : Prop := ∃ a b : Int, S[j]? = some (some [.int a, .int b]) ∧ 0 ≤ a ∧ 0 ≤ b ∧ b < 2147483648
/-- draws from j were made; other lists stay, new ones may stand behind -/
structure Ev (j : Nat) (S S' : Sto) : Prop where
  jar : Jar S' j
  len : S.length ≤ S'.length
  keep : ∀ i, i < S.length → i ≠ j → S'[i]? = S[i]?
theorem Ev.trans {j : Nat} {S S1 S2 : Sto} (x : Ev j S S1) (y : Ev j S1 S2) : Ev j S S2 :=
  ⟨y.jar, Nat.le_trans x.len y.len, fun i h n => (y.keep i (Nat.lt_of_lt_of_le h x.len) n).trans (x.keep i h n)⟩
theorem Ev.rfl' {j : Nat} {S : Sto} (h : Jar S j) : Ev j S S := ⟨h, Nat.le_refl _, fun _ _ _ => rfl⟩
theorem Jar.lt {S : Sto} {j : Nat} (h : Jar S j) : j < S.length := by
  obtain ⟨a, b, e, _⟩ := h
  exact (List.getElem?_eq_some_iff.mp e).1
theorem Ev.set {S : Sto} {j : Nat} {a b : Int} (hj : j < S.length) (ha : 0 ≤ a) (hb : 0 ≤ b) (hb2 : b < 2147483648) : Ev j S (S.set j (some [.int a, .int b])) :=
  ⟨⟨a, b, by rw [List.getElem?_set_self hj], ha, hb, hb2⟩, by rw [List.length_set]; exact Nat.le_refl _, fun i _ n => by rw [List.getElem?_set_ne (Ne.symm n)]⟩
theorem ix_ref {S : Sto} {n : Nat} {l : List D} {k : Int} {d : D} (h : S[n]? = some (some l)) (e : L2.atI l k = some d) : ixD S (.ref n) (.int k) = some d := by
  show (qItems S (.ref n)).bind _ = _
  have q : qItems S (.ref n) = some l := by
    show (match S[n]? with | some (some l) => some l | _ => none) = some l
    rw [h]
  rw [q]
  exact e
theorem modD_ok {i j : Int} (h : 0 < j) : modD (.int i) (.int j) = some (.int (i % j)) := if_pos h
theorem fdivD_ok {i j : Int} (h : 0 < j) (h2 : j.natAbs.log2 < 9000) : fdivD (.int i) (.int j) = some (.int (i / j)) := if_pos ⟨h, h2⟩
theorem mulD_ok {i j : Int} (h : j.natAbs < 2 ^ 64) : mulD (.int i) (.int j) = some (.int (i * j)) := if_pos (.inr h)
theorem mulD_ok2 {i j : Int} (h : i.natAbs.log2 + j.natAbs.log2 < 1000000) : mulD (.int i) (.int j) = some (.int (i * j)) := if_pos (.inl h)
theorem powD_ok {i j : Int} (h : 0 ≤ j) (h2 : j ≤ 1000) (h3 : i.natAbs < 2 ^ 64) : powD (.int i) (.int j) = some (.int (i ^ j.toNat)) := if_pos ⟨h, h2, h3⟩
theorem take_ok {S : Sto} {j : Nat} {m : Int} {Q : D → Sto → Prop} (hj : Jar S j) (hm : 0 < m) (hm2 : m.natAbs.log2 < 9000) (h : ∀ r S', 0 ≤ r → r < m → Ev j S S' → Q (.int r) S') : okR (F__law_take [.ref j, .int m] S) Q := by
  have hlt := hj.lt
  obtain ⟨a, b, hS, ha, hb, hb2⟩ := hj
  unfold F__law_take
  rw [w_runF]
  show okS (B__law_take [some (.ref j), some (.int m), none] S) _ _
  unfold B__law_take
  simp only [w_seq, w_sif, w_bV, w_bT, w_bAnd, w_or, w_not, w_f1, w_f2, w_chain, w_ix, w_isi, w_tup, w_lst, w_new, w_and, w_if, w_c, w_asg, w_par, w_sub, w_app, w_for, w_ret, w_snil, w_b, w_call, w_cons, w_nil, w_q, w_r1, w_r2, w_oN, w_oS, w_sl, w_comp, w_runF, w_var]
  simp only [List.getElem?_cons_zero, List.getElem?_cons_succ, List.set_cons_zero, List.set_cons_succ, List.length_cons, List.length_nil, Option.some.injEq, exists_eq_left', exists_eq_left, D.int.injEq, D.bl.injEq, D.ref.injEq, D.lst.injEq, D.tup.injEq, D.str.injEq, and_true, true_and, List.cons.injEq, gN, forall_eq, forall_const]
  have i0 : ixD S (.ref j) (.int 0) = some (.int a) := ix_ref hS rfl
  have i1 : ixD S (.ref j) (.int 1) = some (.int b) := ix_ref hS rfl
  refine ⟨_, i0, _, rfl, _, rfl, fun _ => ?_, fun _ => ?_⟩
  · refine ⟨_, i0, _, _, rfl, _, modD_ok hm, _, i0, _, _, rfl, _, fdivD_ok hm hm2, j, 0, _, _, rfl, rfl, hS, rfl, ?_⟩
    exact h _ _ (Int.emod_nonneg _ (Int.ne_of_gt hm)) (Int.emod_lt_of_pos _ hm) (Ev.set hlt (Int.ediv_nonneg ha (Int.le_of_lt hm)) hb hb2)
  · have hc : (0 : Int) ≤ (b * 48271 + 12345) % 2147483647 := Int.emod_nonneg _ (by decide)
    have hc2 : (b * 48271 + 12345) % 2147483647 < 2147483647 := Int.emod_lt_of_pos _ (by decide)
    have e2 := Ev.set (S := S) (a := a) hlt ha hc (by omega)
    have hS2 : (S.set j (some [.int a, .int ((b * 48271 + 12345) % 2147483647)]))[j]? = some (some [.int a, .int ((b * 48271 + 12345) % 2147483647)]) := List.getElem?_set_self hlt
    have i2 : ixD (S.set j (some [.int a, .int ((b * 48271 + 12345) % 2147483647)])) (.ref j) (.int 1) = some (.int ((b * 48271 + 12345) % 2147483647)) := ix_ref hS2 rfl
    refine ⟨_, i1, _, mulD_ok (by decide), _, rfl, _, _, rfl, _, modD_ok (by decide), j, 1, _, _, rfl, rfl, hS, rfl, ?_⟩
    refine ⟨_, i2, _, i2, _, mulD_ok (by omega), _, _, rfl, _, modD_ok (by decide), _, fdivD_ok (by decide) (by decide), _, _, rfl, _, modD_ok hm, ?_⟩
    exact h _ _ (Int.emod_nonneg _ (Int.ne_of_gt hm)) (Int.emod_lt_of_pos _ hm) e2
theorem atI_of {l : List D} {r : Int} (h : 0 ≤ r) (h2 : r < l.length) : ∃ d, L2.atI l r = some d ∧ d ∈ l := by
  have h3 : r.toNat < l.length := by omega
  refine ⟨l[r.toNat], ?_, List.getElem_mem h3⟩
  unfold L2.atI L2.ixN
  rw [if_pos h, if_pos h2]
  exact List.getElem?_eq_getElem h3
theorem ix_lst {S : Sto} {l : List D} {k : Int} {d : D} (e : L2.atI l k = some d) : ixD S (.lst l) (.int k) = some d := e
theorem ix_tup {S : Sto} {l : List D} {k : Int} {d : D} (e : L2.atI l k = some d) : ixD S (.tup l) (.int k) = some d := e
theorem ix_scr {S : Sto} {l : List D} {k : Int} {d : D} (e : L2.atI l k = some d) : ixD S (.scr l) (.int k) = some d := e
theorem one_ok {S : Sto} {j : Nat} {l : List D} {Q : D → Sto → Prop} (hj : Jar S j) (hl : l ≠ []) (hl2 : l.length < 1000) (h : ∀ d S', d ∈ l → Ev j S S' → Q d S') : okR (F__law_one [.ref j, .lst l] S) Q := by
  unfold F__law_one
  rw [w_runF]
  show okS (B__law_one [some (.ref j), some (.lst l)] S) _ _
  unfold B__law_one
  simp only [w_seq, w_sif, w_bV, w_bT, w_bAnd, w_or, w_not, w_f1, w_f2, w_chain, w_ix, w_isi, w_tup, w_lst, w_new, w_and, w_if, w_c, w_asg, w_par, w_sub, w_app, w_for, w_ret, w_snil, w_b, w_call, w_cons, w_nil, w_q, w_r1, w_r2, w_oN, w_oS, w_sl, w_comp, w_runF, w_var]
  simp only [List.getElem?_cons_zero, List.getElem?_cons_succ, List.set_cons_zero, List.set_cons_succ, List.length_cons, List.length_nil, Option.some.injEq, exists_eq_left', exists_eq_left, D.int.injEq, D.bl.injEq, D.ref.injEq, D.lst.injEq, D.tup.injEq, D.str.injEq, and_true, true_and, List.cons.injEq, gN, forall_eq, forall_const]
  have hp : 0 < l.length := List.length_pos_iff.mpr hl
  have hb : ((l.length : Int)).natAbs.log2 < 9000 := by
    have e : (l.length : Int).natAbs = l.length := rfl
    rw [e]
    exact Nat.lt_of_le_of_lt (Nat.log2_le_self _) (Nat.lt_trans hl2 (by decide))
  refine ⟨_, _, rfl, take_ok hj (by omega) hb fun r S' h0 h1 ev => ?_⟩
  obtain ⟨d, e1, e2⟩ := atI_of h0 h1
  exact ⟨d, ix_lst e1, h d S' e2 ev⟩
/-- the script is a list of whole numbers -/
theorem pool_ok {S : Sto} {ns : List Int} {k : Int} {Q : D → Sto → Prop} (hk : 0 ≤ k) (hk2 : k < 100) (h : ∀ S', Jar S' S.length → S'.length = S.length + 1 → (∀ i, i < S.length → S'[i]? = S[i]?) → Q (.ref S.length) S') : okR (F__law_pool [.scr (ns.map .int), .int k] S) Q := by
  unfold F__law_pool
  rw [w_runF]
  show okS (B__law_pool [some (.scr (ns.map .int)), some (.int k), none, none] S) _ _
  unfold B__law_pool
  have fin : ∀ c : Int, 0 ≤ c → okS (sSeq (sAsg (f2 modD (fB intD (aCons (f2 mulD (f2 addD (f2 addD (f2 addD (f2 modD (fB intD (aCons (fVar 2) (aNil))) (fC (.int 2147483629))) (f2 mulD (f2 mulD (fC (.int 7919)) (fVar 1)) (fVar 1))) (f2 mulD (fC (.int 31)) (fVar 1))) (fC (.int 17))) (fC (.int 48271))) (aNil))) (fC (.int 2147483647))) (gN 3)) (sRet (fNew (aCons (f2 mulD (fVar 2) (fB intD (aCons (f2 geD (fVar 2) (f2 powD (fC (.int 10)) (fC (.int 18)))) (aNil)))) (aCons (f2 modD (fB intD (aCons (f2 mulD (fVar 3) (fVar 3)) (aNil))) (fC (.int 2147483629))) (aNil))))) [some (.scr (ns.map .int)), some (.int k), some (.int c), none] S) (fun _ S' => Q .non S') Q := by
    intro c hc
    simp only [w_seq, w_sif, w_bV, w_bT, w_bAnd, w_or, w_not, w_f1, w_f2, w_chain, w_ix, w_isi, w_tup, w_lst, w_new, w_and, w_if, w_c, w_asg, w_par, w_sub, w_app, w_for, w_ret, w_snil, w_b, w_call, w_cons, w_nil, w_q, w_r1, w_r2, w_oN, w_oS, w_sl, w_comp, w_runF, w_var]
    simp only [List.getElem?_cons_zero, List.getElem?_cons_succ, List.set_cons_zero, List.set_cons_succ, List.length_cons, List.length_nil, Option.some.injEq, exists_eq_left', exists_eq_left, D.int.injEq, D.bl.injEq, D.ref.injEq, D.lst.injEq, D.tup.injEq, D.str.injEq, and_true, true_and, List.cons.injEq, gN, forall_eq, forall_const]
    have z1 : 0 ≤ (((c % 2147483629 + 7919 * k * k + 31 * k + 17) * 48271) % 2147483647) := Int.emod_nonneg _ (by decide)
    have z2 : (((c % 2147483629 + 7919 * k * k + 31 * k + 17) * 48271) % 2147483647) < 2147483647 := Int.emod_lt_of_pos _ (by decide)
    refine ⟨_, _, rfl, _, modD_ok (by decide), _, mulD_ok (by omega), _, mulD_ok (by omega), _, rfl, _, mulD_ok (by omega), _, rfl, _, rfl, _, mulD_ok (by decide), _, _, rfl, _, modD_ok (by decide), ?_⟩
    refine ⟨_, powD_ok (by decide) (by decide) (by decide), _, rfl, _, _, rfl, _, mulD_ok ?_, _, mulD_ok (by omega), _, _, rfl, _, modD_ok (by decide), by decide, ?_⟩
    · split <;> decide
    · refine h _ ⟨_, _, List.getElem?_concat_length, Int.mul_nonneg hc (by split <;> decide), Int.emod_nonneg _ (by decide), ?_⟩ (by simp) (fun i hi => by rw [List.getElem?_append_left hi])
      · have := Int.emod_lt_of_pos ((((c % 2147483629 + 7919 * k * k + 31 * k + 17) * 48271) % 2147483647) * (((c % 2147483629 + 7919 * k * k + 31 * k + 17) * 48271) % 2147483647)) (show (0 : Int) < 2147483629 by decide)
        omega
  obtain ⟨T, hT⟩ : ∃ T : SF, T = (sSeq (sAsg (f2 modD (fB intD (aCons (f2 mulD (f2 addD (f2 addD (f2 addD (f2 modD (fB intD (aCons (fVar 2) (aNil))) (fC (.int 2147483629))) (f2 mulD (f2 mulD (fC (.int 7919)) (fVar 1)) (fVar 1))) (f2 mulD (fC (.int 31)) (fVar 1))) (fC (.int 17))) (fC (.int 48271))) (aNil))) (fC (.int 2147483647))) (gN 3)) (sRet (fNew (aCons (f2 mulD (fVar 2) (fB intD (aCons (f2 geD (fVar 2) (f2 powD (fC (.int 10)) (fC (.int 18)))) (aNil)))) (aCons (f2 modD (fB intD (aCons (f2 mulD (fVar 3) (fVar 3)) (aNil))) (fC (.int 2147483629))) (aNil)))))) := ⟨_, rfl⟩
  rw [← hT] at fin ⊢
  simp only [w_seq, w_sif, w_bV, w_bT, w_bAnd, w_or, w_not, w_f1, w_f2, w_chain, w_ix, w_isi, w_tup, w_lst, w_new, w_and, w_if, w_c, w_asg, w_par, w_sub, w_app, w_for, w_ret, w_snil, w_b, w_call, w_cons, w_nil, w_q, w_r1, w_r2, w_oN, w_oS, w_sl, w_comp, w_runF, w_var]
  simp only [List.getElem?_cons_zero, List.getElem?_cons_succ, List.set_cons_zero, List.set_cons_succ, List.length_cons, List.length_nil, Option.some.injEq, exists_eq_left', exists_eq_left, D.int.injEq, D.bl.injEq, D.ref.injEq, D.lst.injEq, D.tup.injEq, D.str.injEq, and_true, true_and, List.cons.injEq, gN, forall_eq, forall_const]
  refine ⟨_, _, rfl, _, rfl, _, rfl, fun hb => ?_, fun hb => ?_⟩
  · have hb := of_decide_eq_true hb
    obtain ⟨d, e1, e2⟩ := atI_of hk hb
    obtain ⟨n, hn, rfl⟩ := List.mem_map.mp e2
    refine ⟨_, ix_scr e1, _, _, rfl, ?_⟩
    exact fin (n.natAbs : Int) (by omega)
  · exact fin 0 (by decide)
end K01
/-! rows of values, kinds -/
namespace K01
open PySem PySem.Spec PyProof.Rows L2 PF
def Asc : List Int → Prop
  | [] => True
  | [_] => True
  | a :: b :: l => a ≤ b ∧ Asc (b :: l)
theorem asc_snoc {v w : Int} (h : v ≤ w) : ∀ {xs : List Int}, Asc (xs ++ [v]) → Asc (xs ++ [v] ++ [w])
  | [], _ => ⟨h, True.intro⟩
  | [a], q => ⟨q.1, h, True.intro⟩
  | a :: b :: l, q => ⟨q.1, asc_snoc (xs := b :: l) h q.2⟩
/-- None behind None, then numbers that do not fall -/
def Row (l : List D) : Prop := ∃ (n : Nat) (xs : List Int), l = List.replicate n .non ++ xs.map .int ∧ xs ≠ [] ∧ Asc xs
theorem eqI (a b : Int) : eqD (.int a) (.int b) = some (.bl (decide (a = b))) := by
  rfl
section
variable {f g : EF} {σ : Stt} {S : Sto} {Q : D → Sto → Prop}
theorem w_catN : okR (fCatN f g σ S) Q ↔ okR (f σ S) fun x S1 => okR (g σ S1) fun y S2 => ∃ l m, x = .lst l ∧ y = .lst m ∧ l.length + m.length ≤ LINE ∧ Q (.ref S2.length) (S2 ++ [some (l ++ m)]) := by
  unfold fCatN
  simp only [w_bind]
  refine iff_of_eq (congrArg _ (funext fun x => funext fun S1 => congrArg _ (funext fun y => funext fun S2 => propext ?_)))
  constructor
  · intro z
    split at z
    · rename_i l m
      split at z
      · rename_i h; exact ⟨l, m, rfl, rfl, h, z⟩
      · exact z.elim
    · exact z.elim
  · rintro ⟨l, m, rfl, rfl, h, z⟩
    show okR (if _ then _ else _) Q
    rw [if_pos h]; exact z
theorem seq_cut {a b : SF} {N : Stt → Sto → Prop} {R : D → Sto → Prop} (I : Stt → Sto → Prop) (h1 : ∀ J : Stt → Sto → Prop, (∀ σ S, I σ S → J σ S) → okS (a σ S) J R) (h2 : ∀ σ1 S1, I σ1 S1 → okS (b σ1 S1) N R) : okS (sSeq a b σ S) N R :=
  w_seq.mpr ((h1 I fun _ _ z => z).mono h2 fun _ _ z => z)
theorem for_cut {b : SF} {g : GF} {N : Stt → Sto → Prop} {R : D → Sto → Prop} (I : List D → Stt → Sto → Prop) {ds : List D} (h0 : I ds σ S) (step : ∀ d ds σ S, I (d :: ds) σ S → ∀ J : Stt → Sto → Prop, (∀ σ S, I ds σ S → J σ S) → ∃ σ1, g d σ = some σ1 ∧ okS (b σ1 S) J R) (hend : ∀ σ S, I [] σ S → N σ S) : okS (forF g b ds σ S) N R :=
  for_inv I (fun d ds σ S h => step d ds σ S h _ fun _ _ z => z) hend ds σ S h0
end
theorem Ev.setN {j n : Nat} {S S6 : Sto} {x : Option (List D)} (ev : Ev j S S6) (hn : S.length ≤ n) (hnj : n ≠ j) : Ev j S (S6.set n x) := by
  obtain ⟨a9, b9, q1, q2⟩ := ev.jar
  refine ⟨⟨a9, b9, by rw [List.getElem?_set_ne hnj]; exact q1, q2⟩, by rw [List.length_set]; exact ev.len, fun i hi hi' => ?_⟩
  rw [List.getElem?_set_ne (by omega)]
  exact ev.keep i hi hi'
theorem Ev.snoc {j : Nat} {S S6 : Sto} {x : Option (List D)} (ev : Ev j S S6) : Ev j S (S6 ++ [x]) := by
  obtain ⟨a9, b9, q1, q2⟩ := ev.jar
  have hl := ev.jar.lt
  refine ⟨⟨a9, b9, by rw [List.getElem?_append_left hl]; exact q1, q2⟩, by rw [List.length_append]; exact Nat.le_trans ev.len (Nat.le_add_right _ _), fun i hi hi' => ?_⟩
  rw [List.getElem?_append_left (Nat.lt_of_lt_of_le hi ev.len)]
  exact ev.keep i hi hi'
theorem len_rep {n : Nat} {xs : List Int} : (List.replicate n D.non ++ xs.map D.int).length = n + xs.length := by
  rw [List.length_append, List.length_replicate, List.length_map]
theorem flat_non (n : Nat) : (List.replicate n [D.non]).flatten = List.replicate n .non := by
  induction n with
  | zero => rfl
  | succ n ih => rw [List.replicate_succ, List.flatten_cons, ih, List.replicate_succ]; rfl
theorem log2_small {m : Int} (h : 0 ≤ m) (h2 : m < 10 ^ 12) : m.natAbs.log2 < 9000 := by
  have : m.natAbs < 2 ^ 9000 := by
    have h3 : m.natAbs < 10 ^ 12 := by omega
    exact Nat.lt_trans h3 (by decide +kernel)
  by_cases h0 : m.natAbs = 0
  · rw [h0]; decide
  · exact (Nat.log2_lt h0).mpr this
theorem values_ok {S : Sto} {j : Nat} {m : Int} {Q : D → Sto → Prop} (hj : Jar S j) (hm : 0 ≤ m) (hm2 : m ≤ 20) (h : ∀ l S', Row l → (l.length : Int) ≤ m + 1 → Ev j S S' → Q (.tup l) S') : okR (F__law_pd_values [.ref j, .int m] S) Q := by
  unfold F__law_pd_values
  rw [w_runF]
  show okS (B__law_pd_values [some (.ref j), some (.int m), none, none, none, none, none, none] S) _ _
  unfold B__law_pd_values
  refine seq_cut (fun σ S1 => ∃ q : Int, σ = [some (.ref j), some (.int m), some (.int q), none, none, none, none, none] ∧ 0 ≤ q ∧ q ≤ m ∧ Ev j S S1) ?_ ?_
  · intro J hJ
    simp only [w_seq, w_sif, w_bV, w_bT, w_bAnd, w_or, w_not, w_f1, w_f2, w_chain, w_ix, w_isi, w_tup, w_lst, w_new, w_and, w_if, w_c, w_asg, w_par, w_sub, w_app, w_for, w_ret, w_snil, w_b, w_call, w_cons, w_nil, w_q, w_r1, w_r2, w_oN, w_oS, w_sl, w_comp, w_runF, w_var]
    simp only [List.getElem?_cons_zero, List.getElem?_cons_succ, List.set_cons_zero, List.set_cons_succ, List.length_cons, List.length_nil, Option.some.injEq, exists_eq_left', exists_eq_left, D.int.injEq, D.bl.injEq, D.ref.injEq, D.lst.injEq, D.tup.injEq, D.str.injEq, and_true, true_and, List.cons.injEq, gN, forall_eq, forall_const]
    refine ⟨_, rfl, take_ok hj (by omega) (log2_small (by omega) (by omega)) fun r S1 h0 h1 ev => hJ _ _ ⟨r, rfl, h0, by omega, ev⟩⟩
  rintro σ1 S1 ⟨q, rfl, hq0, hq1, ev1⟩
  refine seq_cut (fun σ S2 => ∃ e : Int, σ = [some (.ref j), some (.int m), some (.int q), some (.int e), none, none, none, none] ∧ 0 ≤ e ∧ e ≤ q ∧ Ev j S S2) ?_ ?_
  · intro J hJ
    simp only [w_seq, w_sif, w_bV, w_bT, w_bAnd, w_or, w_not, w_f1, w_f2, w_chain, w_ix, w_isi, w_tup, w_lst, w_new, w_and, w_if, w_c, w_asg, w_par, w_sub, w_app, w_for, w_ret, w_snil, w_b, w_call, w_cons, w_nil, w_q, w_r1, w_r2, w_oN, w_oS, w_sl, w_comp, w_runF, w_var]
    simp only [List.getElem?_cons_zero, List.getElem?_cons_succ, List.set_cons_zero, List.set_cons_succ, List.length_cons, List.length_nil, Option.some.injEq, exists_eq_left', exists_eq_left, D.int.injEq, D.bl.injEq, D.ref.injEq, D.lst.injEq, D.tup.injEq, D.str.injEq, and_true, true_and, List.cons.injEq, gN, forall_eq, forall_const]
    refine take_ok ev1.jar (by decide) (by decide) fun r S2 h0 h1 ev2 => ⟨_, eqI _ _, _, rfl, fun _ => ⟨_, rfl, take_ok ev2.jar (by omega) (log2_small (by omega) (by omega)) fun e S3 g0 g1 ev3 => hJ _ _ ⟨e, rfl, g0, by omega, (ev1.trans ev2).trans ev3⟩⟩, fun _ => hJ _ _ ⟨0, rfl, by decide, hq0, ev1.trans ev2⟩⟩
  rintro σ2 S2 ⟨e, rfl, he0, he1, ev2⟩
  refine seq_cut (fun σ S3 => ∃ (v : Int) (st : List D), σ = [some (.ref j), some (.int m), some (.int q), some (.int e), some (.int v), some (.lst st), none, none] ∧ st ≠ [] ∧ st.length < 1000 ∧ (∀ d ∈ st, ∃ i : Int, d = .int i ∧ 0 ≤ i) ∧ Ev j S S3) ?_ ?_
  · intro J hJ
    simp only [w_seq, w_sif, w_bV, w_bT, w_bAnd, w_or, w_not, w_f1, w_f2, w_chain, w_ix, w_isi, w_tup, w_lst, w_new, w_and, w_if, w_c, w_asg, w_par, w_sub, w_app, w_for, w_ret, w_snil, w_b, w_call, w_cons, w_nil, w_q, w_r1, w_r2, w_oN, w_oS, w_sl, w_comp, w_runF, w_var]
    simp only [List.getElem?_cons_zero, List.getElem?_cons_succ, List.set_cons_zero, List.set_cons_succ, List.length_cons, List.length_nil, Option.some.injEq, exists_eq_left', exists_eq_left, D.int.injEq, D.bl.injEq, D.ref.injEq, D.lst.injEq, D.tup.injEq, D.str.injEq, and_true, true_and, List.cons.injEq, gN, forall_eq, forall_const]
    refine take_ok ev2.jar (by decide) (by decide) fun r S3 h0 h1 ev3 => ⟨_, rfl, by decide, by decide, by decide, by decide, by decide, by decide, by decide, one_ok ev3.jar (by simp) (by simp) fun d S4 hd ev4 => ⟨_, _, ⟨rfl, rfl⟩, ?_⟩⟩
    have hs : ∃ st : List D, d = .lst st ∧ st ≠ [] ∧ st.length < 1000 ∧ ∀ x ∈ st, ∃ i : Int, x = .int i ∧ 0 ≤ i := by
      simp only [List.mem_cons, List.not_mem_nil, or_false] at hd
      rcases hd with rfl | rfl | rfl | rfl | rfl | rfl <;> exact ⟨_, rfl, by simp, by simp, by simp⟩
    obtain ⟨st, rfl, k1, k2, k3⟩ := hs
    exact hJ _ _ ⟨_, st, rfl, k1, k2, k3, (ev2.trans ev3).trans ev4⟩
  rintro σ3 S3 ⟨v, st, rfl, hs1, hs2, hs3, ev3⟩
  refine seq_cut (fun σ S4 => ∃ n : Nat, σ = [some (.ref j), some (.int m), some (.int q), some (.int e), some (.int v), some (.lst st), some (.ref n), none] ∧ n ≠ j ∧ S.length ≤ n ∧ S4[n]? = some (some (List.replicate e.toNat .non ++ [v].map .int)) ∧ Ev j S S4) ?_ ?_
  · intro J hJ
    simp only [w_catN, w_seq, w_sif, w_bV, w_bT, w_bAnd, w_or, w_not, w_f1, w_f2, w_chain, w_ix, w_isi, w_tup, w_lst, w_new, w_and, w_if, w_c, w_asg, w_par, w_sub, w_app, w_for, w_ret, w_snil, w_b, w_call, w_cons, w_nil, w_q, w_r1, w_r2, w_oN, w_oS, w_sl, w_comp, w_runF, w_var]
    simp only [List.getElem?_cons_zero, List.getElem?_cons_succ, List.set_cons_zero, List.set_cons_succ, List.length_cons, List.length_nil, Option.some.injEq, exists_eq_left', exists_eq_left, D.int.injEq, D.bl.injEq, D.ref.injEq, D.lst.injEq, D.tup.injEq, D.str.injEq, and_true, true_and, List.cons.injEq, gN, forall_eq, forall_const]
    have hl := hj.lt
    have hl3 := ev3.jar.lt
    have hle := ev3.len
    refine ⟨by decide, _, if_pos ⟨by simp, by omega, by omega⟩, by decide, _, _, rfl, rfl, ?_, hJ _ _ ⟨S3.length, rfl, by omega, hle, ?_, ev3.snoc⟩⟩
    · rw [flat_non, List.length_replicate]
      show e.toNat + 1 ≤ 16777216
      omega
    · rw [List.getElem?_concat_length, flat_non]; rfl
  rintro σ4 S4 ⟨n, rfl, hnj, hnS, hn, ev4⟩
  refine seq_cut (fun σ S5 => ∃ (w : Int) (y : Option D) (xs : List Int), σ = [some (.ref j), some (.int m), some (.int q), some (.int e), some (.int w), some (.lst st), some (.ref n), y] ∧ S5[n]? = some (some (List.replicate e.toNat .non ++ (xs ++ [w]).map .int)) ∧ Asc (xs ++ [w]) ∧ (xs.length : Int) ≤ q - e ∧ Ev j S S5) ?_ ?_
  · intro J hJ
    simp only [w_for, w_r2, w_cons, w_nil, w_var]
    simp only [List.getElem?_cons_zero, List.getElem?_cons_succ, List.set_cons_zero, List.set_cons_succ, List.length_cons, List.length_nil, Option.some.injEq, exists_eq_left', exists_eq_left, D.int.injEq, D.bl.injEq, D.ref.injEq, D.lst.injEq, D.tup.injEq, D.str.injEq, and_true, true_and, List.cons.injEq, gN, forall_eq, forall_const]
    refine ⟨_, _, ⟨rfl, rfl⟩, by omega, ?_⟩
    refine for_cut (fun ds σ S5 => ∃ (w : Int) (y : Option D) (xs : List Int), σ = [some (.ref j), some (.int m), some (.int q), some (.int e), some (.int w), some (.lst st), some (.ref n), y] ∧ S5[n]? = some (some (List.replicate e.toNat .non ++ (xs ++ [w]).map .int)) ∧ Asc (xs ++ [w]) ∧ (xs.length : Int) + ds.length ≤ q - e ∧ Ev j S S5) ⟨v, none, [], rfl, hn, True.intro, ?_, ev4⟩ ?_ ?_
    · unfold rngD
      rw [List.length_map, List.length_range]
      simp
      omega
    · rintro d ds σ S5 ⟨w, y, xs, rfl, k1, k2, k3, ev5⟩ J2 hJ2
      refine ⟨_, rfl, ?_⟩
      simp only [w_seq, w_sif, w_bV, w_bT, w_bAnd, w_or, w_not, w_f1, w_f2, w_chain, w_ix, w_isi, w_tup, w_lst, w_new, w_and, w_if, w_c, w_asg, w_par, w_sub, w_app, w_for, w_ret, w_snil, w_b, w_call, w_cons, w_nil, w_q, w_r1, w_r2, w_oN, w_oS, w_sl, w_comp, w_runF, w_var]
      simp only [List.getElem?_cons_zero, List.getElem?_cons_succ, List.set_cons_zero, List.set_cons_succ, List.length_cons, List.length_nil, Option.some.injEq, exists_eq_left', exists_eq_left, D.int.injEq, D.bl.injEq, D.ref.injEq, D.lst.injEq, D.tup.injEq, D.str.injEq, and_true, true_and, List.cons.injEq, gN, forall_eq, forall_const]
      refine one_ok ev5.jar hs1 hs2 fun x S6 hx ev6 => ?_
      obtain ⟨i, rfl, hi⟩ := hs3 x hx
      have hnl : n < S5.length := (List.getElem?_eq_some_iff.mp k1).1
      have k1' : S6[n]? = some (some (List.replicate e.toNat .non ++ (xs ++ [w]).map .int)) := (ev6.keep n hnl hnj).trans k1
      have hnl6 : n < S6.length := (List.getElem?_eq_some_iff.mp k1').1
      rw [List.length_cons] at k3
      refine ⟨_, rfl, n, _, rfl, k1', _, k1', ?_, hJ2 _ _ ⟨w + i, _, xs ++ [w], rfl, ?_, asc_snoc (by omega) k2, ?_, (ev5.trans ev6).setN hnS hnj⟩⟩
      · rw [len_rep, List.length_append]
        show e.toNat + (xs.length + 1) < 16777216
        omega
      · rw [List.getElem?_set_self hnl6, List.append_assoc]
        simp
      · rw [List.length_append]
        show ((xs.length + 1 : Nat) : Int) + ds.length ≤ q - e
        omega
    · rintro σ S5 ⟨w, y, xs, rfl, k1, k2, k3, ev5⟩
      exact hJ _ _ ⟨w, y, xs, rfl, k1, k2, by simpa using k3, ev5⟩
  rintro σ5 S5 ⟨w, y, xs, rfl, k1, k2, k3, ev5⟩
  simp only [w_seq, w_sif, w_bV, w_bT, w_bAnd, w_or, w_not, w_f1, w_f2, w_chain, w_ix, w_isi, w_tup, w_lst, w_new, w_and, w_if, w_c, w_asg, w_par, w_sub, w_app, w_for, w_ret, w_snil, w_b, w_call, w_cons, w_nil, w_q, w_r1, w_r2, w_oN, w_oS, w_sl, w_comp, w_runF, w_var]
  simp only [List.getElem?_cons_zero, List.getElem?_cons_succ, List.set_cons_zero, List.set_cons_succ, List.length_cons, List.length_nil, Option.some.injEq, exists_eq_left', exists_eq_left, D.int.injEq, D.bl.injEq, D.ref.injEq, D.lst.injEq, D.tup.injEq, D.str.injEq, and_true, true_and, List.cons.injEq, gN, forall_eq, forall_const]
  have hq : qItems S5 (.ref n) = some (List.replicate e.toNat .non ++ (xs ++ [w]).map .int) := by
    show (match S5[n]? with | some (some l) => some l | _ => none) = _
    rw [k1]
  refine ⟨_, _, by show (qItems S5 (.ref n)).map _ = _; rw [hq]; rfl, h _ _ ⟨e.toNat, xs ++ [w], rfl, by simp, k2⟩ ?_ ev5⟩
  rw [len_rep, List.length_append]
  show ((e.toNat + (xs.length + 1) : Nat) : Int) ≤ m + 1
  omega
end K01
/-! crews drawn -/
namespace K01
open PySem PySem.Spec PyProof.Rows L2 PF
def M30 : Int := 1000000000000000000000000000000
def KindD (d : D) : Prop := ∃ (row : List D) (m : Int), d = .tup [.tup row, .int m] ∧ Row row ∧ row.length ≤ 13 ∧ 0 ≤ m ∧ m ≤ M30
def KindsD (l : List D) : Prop := l ≠ [] ∧ l.length ≤ 3 ∧ ∀ d ∈ l, KindD d
theorem flat_int (n : Nat) (x : Int) : (List.replicate n [D.int x]).flatten = (List.replicate n x).map .int := by
  induction n with
  | zero => rfl
  | succ n ih => rw [List.replicate_succ, List.flatten_cons, ih, List.replicate_succ]; rfl
theorem asc_rep {v : Int} : ∀ n : Nat, Asc (List.replicate n v)
  | 0 => True.intro
  | 1 => True.intro
  | n + 2 => ⟨Int.le_refl _, asc_rep (n + 1)⟩
theorem asc_rep_snoc {v w : Int} (h : v ≤ w) : ∀ n : Nat, Asc (List.replicate n v ++ [w])
  | 0 => True.intro
  | n + 1 => by
    have := asc_snoc h (xs := List.replicate n v) (by rw [← List.replicate_succ']; exact asc_rep _)
    rw [List.replicate_succ']
    exact this
theorem leap_ok {S : Sto} {j : Nat} {m : Int} {Q : D → Sto → Prop} (hj : Jar S j) (hm : 0 < m) (hm2 : m ≤ 12) (h : ∀ l S', Row l → l.length ≤ 13 → Ev j S S' → Q (.tup l) S') : okR (F__law_pd_leap [.ref j, .int m] S) Q := by
  unfold F__law_pd_leap
  rw [w_runF]
  show okS (B__law_pd_leap [some (.ref j), some (.int m), none] S) _ _
  unfold B__law_pd_leap
  simp only [w_seq, w_sif, w_bV, w_bT, w_bAnd, w_or, w_not, w_f1, w_f2, w_chain, w_ix, w_isi, w_tup, w_lst, w_new, w_and, w_if, w_c, w_asg, w_par, w_sub, w_app, w_for, w_ret, w_snil, w_b, w_call, w_cons, w_nil, w_q, w_r1, w_r2, w_oN, w_oS, w_sl, w_comp, w_runF, w_var]
  simp only [List.getElem?_cons_zero, List.getElem?_cons_succ, List.set_cons_zero, List.set_cons_succ, List.length_cons, List.length_nil, Option.some.injEq, exists_eq_left', exists_eq_left, D.int.injEq, D.bl.injEq, D.ref.injEq, D.lst.injEq, D.tup.injEq, D.str.injEq, and_true, true_and, List.cons.injEq, gN, forall_eq, forall_const]
  refine take_ok hj hm (log2_small (by omega) (by omega)) fun r S1 h0 h1 ev1 => ⟨_, rfl, by decide, _, if_pos ⟨by simp, by simp, by omega, by omega⟩, take_ok ev1.jar (by decide) (by decide) fun t S2 g0 g1 ev2 => ⟨_, rfl, by decide, ?_⟩⟩
  rw [flat_int]
  have hl : ((List.replicate (1 + r).toNat (0 : Int)).map D.int).length + 1 ≤ LINE := by
    rw [List.length_map, List.length_replicate]
    show (1 + r).toNat + 1 ≤ 16777216
    omega
  refine ⟨_, if_pos hl, h _ _ ⟨0, List.replicate (1 + r).toNat 0 ++ [1 + t], by simp, by simp, asc_rep_snoc (by omega) _⟩ ?_ (ev1.trans ev2)⟩
  rw [List.length_append, List.length_map, List.length_replicate]
  show (1 + r).toNat + 1 ≤ 13
  omega
theorem many_ok {S : Sto} {j : Nat} {m : Int} {Q : D → Sto → Prop} (hj : Jar S j) (hm : 0 ≤ m) (hm2 : m ≤ 12) (h : ∀ r S', 0 ≤ r → r ≤ M30 → Ev j S S' → Q (.int r) S') : okR (F__law_pd_many [.ref j, .int m] S) Q := by
  unfold F__law_pd_many
  rw [w_runF]
  show okS (B__law_pd_many [some (.ref j), some (.int m)] S) _ _
  unfold B__law_pd_many
  simp only [w_seq, w_sif, w_bV, w_bT, w_bAnd, w_or, w_not, w_f1, w_f2, w_chain, w_ix, w_isi, w_tup, w_lst, w_new, w_and, w_if, w_c, w_asg, w_par, w_sub, w_app, w_for, w_ret, w_snil, w_b, w_call, w_cons, w_nil, w_q, w_r1, w_r2, w_oN, w_oS, w_sl, w_comp, w_runF, w_var]
  simp only [List.getElem?_cons_zero, List.getElem?_cons_succ, List.set_cons_zero, List.set_cons_succ, List.length_cons, List.length_nil, Option.some.injEq, exists_eq_left', exists_eq_left, D.int.injEq, D.bl.injEq, D.ref.injEq, D.lst.injEq, D.tup.injEq, D.str.injEq, and_true, true_and, List.cons.injEq, gN, forall_eq, forall_const]
  refine take_ok hj (by decide) (by decide) fun r S1 h0 h1 ev1 => ⟨_, eqI _ _, _, rfl, fun _ => ⟨by decide, one_ok ev1.jar (by simp) (by simp) fun d S2 hd ev2 => ?_⟩, fun _ => ⟨_, rfl, take_ok ev1.jar (by omega) (log2_small (by omega) (by omega)) fun t S2 g0 g1 ev2 => h _ _ g0 (by unfold M30; omega) (ev1.trans ev2)⟩⟩
  simp only [List.mem_cons, List.not_mem_nil, or_false] at hd
  rcases hd with rfl | rfl | rfl <;> exact h _ _ (by decide) (by decide) (ev1.trans ev2)
theorem great_ok {S : Sto} {j : Nat} {Q : D → Sto → Prop} (hj : Jar S j) (h : ∀ r S', 0 ≤ r → r ≤ M30 → Ev j S S' → Q (.int r) S') : okR (F__law_pd_great [.ref j] S) Q := by
  unfold F__law_pd_great
  rw [w_runF]
  show okS (B__law_pd_great [some (.ref j)] S) _ _
  unfold B__law_pd_great
  simp only [w_seq, w_sif, w_bV, w_bT, w_bAnd, w_or, w_not, w_f1, w_f2, w_chain, w_ix, w_isi, w_tup, w_lst, w_new, w_and, w_if, w_c, w_asg, w_par, w_sub, w_app, w_for, w_ret, w_snil, w_b, w_call, w_cons, w_nil, w_q, w_r1, w_r2, w_oN, w_oS, w_sl, w_comp, w_runF, w_var]
  simp only [List.getElem?_cons_zero, List.getElem?_cons_succ, List.set_cons_zero, List.set_cons_succ, List.length_cons, List.length_nil, Option.some.injEq, exists_eq_left', exists_eq_left, D.int.injEq, D.bl.injEq, D.ref.injEq, D.lst.injEq, D.tup.injEq, D.str.injEq, and_true, true_and, List.cons.injEq, gN, forall_eq, forall_const]
  have p30 : powD (.int 10) (.int 30) = some (.int M30) := by rw [powD_ok (by decide) (by decide) (by decide)]; rfl
  have pw : ∀ (n : Int) (v : Int), 0 ≤ n → n ≤ 1000 → v = 10 ^ n.toNat → powD (.int 10) (.int n) = some (.int v) := fun n v h1 h2 h3 => by rw [powD_ok h1 h2 (by decide), h3]
  have p6 := pw 6 1000000 (by decide) (by decide) (by decide)
  have p9 := pw 9 1000000000 (by decide) (by decide) (by decide)
  have p12 := pw 12 1000000000000 (by decide) (by decide) (by decide)
  have p20 := pw 20 100000000000000000000 (by decide) (by decide) (by decide)
  have p29 := pw 29 100000000000000000000000000000 (by decide) (by decide) (by decide)
  refine ⟨_, p30, _, p30, _, p6, take_ok hj (by decide) (by decide) fun r1 S1 a1 b1 ev1 => ⟨_, rfl, _, p29, _, p9, take_ok ev1.jar (by decide) (by decide) fun r2 S2 a2 b2 ev2 => ⟨_, rfl, _, p20, _, mulD_ok2 (by decide +kernel), take_ok ev2.jar (by decide) (by decide) fun r3 S3 a3 b3 ev3 => ⟨_, rfl, _, p12, take_ok ev3.jar (by decide) (by decide) fun r4 S4 a4 b4 ev4 => ⟨_, rfl, _, p6, take_ok ev4.jar (by decide) (by decide) fun r5 S5 a5 b5 ev5 => ⟨_, p29, _, mulD_ok2 (by decide +kernel), _, rfl, by decide, one_ok ev5.jar (by simp) (by simp) fun d S6 hd ev6 => ?_⟩⟩⟩⟩⟩⟩
  have ev := ((((ev1.trans ev2).trans ev3).trans ev4).trans ev5).trans ev6
  simp only [List.mem_cons, List.not_mem_nil, or_false] at hd
  unfold M30 at h
  rcases hd with rfl | rfl | rfl | rfl | rfl | rfl | rfl <;> exact h _ _ (by first | omega | (unfold M30; omega)) (by first | omega | (unfold M30; omega)) ev
theorem w_gT2 {a b : Nat} {σ : Stt} {x y : D} : gT 2 (gsCons (gN a) (gsCons (gN b) gsNil)) (.tup [x, y]) σ = some ((σ.set a (some x)).set b (some y)) := rfl
theorem crew_ok {S : Sto} {j : Nat} {m mm : Int} {Q : D → Sto → Prop} (hj : Jar S j) (hm : 0 ≤ m) (hm2 : m ≤ 12) (hmm : 0 ≤ mm) (hmm2 : mm ≤ 12) (h : ∀ l S', KindsD l → Ev j S S' → Q (.tup l) S') : okR (F__law_pd_crew [.ref j, .int 3, .int m, .int mm] S) Q := by
  unfold F__law_pd_crew
  rw [w_runF]
  show okS (B__law_pd_crew [some (.ref j), some (.int 3), some (.int m), some (.int mm), none, none, none] S) _ _
  unfold B__law_pd_crew
  have hl := hj.lt
  refine seq_cut (fun σ S4 => ∃ n : Nat, σ = [some (.ref j), some (.int 3), some (.int m), some (.int mm), some (.ref n), none, none] ∧ n ≠ j ∧ S.length ≤ n ∧ S4[n]? = some (some []) ∧ Ev j S S4) ?_ ?_
  · intro J hJ
    simp only [w_seq, w_sif, w_bV, w_bT, w_bAnd, w_or, w_not, w_f1, w_f2, w_chain, w_ix, w_isi, w_tup, w_lst, w_new, w_and, w_if, w_c, w_asg, w_par, w_sub, w_app, w_for, w_ret, w_snil, w_b, w_call, w_cons, w_nil, w_q, w_r1, w_r2, w_oN, w_oS, w_sl, w_comp, w_runF, w_var]
    simp only [List.getElem?_cons_zero, List.getElem?_cons_succ, List.set_cons_zero, List.set_cons_succ, List.length_cons, List.length_nil, Option.some.injEq, exists_eq_left', exists_eq_left, D.int.injEq, D.bl.injEq, D.ref.injEq, D.lst.injEq, D.tup.injEq, D.str.injEq, and_true, true_and, List.cons.injEq, gN, forall_eq, forall_const]
    exact ⟨by decide, hJ _ _ ⟨S.length, rfl, by omega, Nat.le_refl _, List.getElem?_concat_length, (Ev.rfl' hj).snoc⟩⟩
  rintro σ1 S1 ⟨n, rfl, hnj, hnS, hn, ev1⟩
  refine seq_cut (fun σ S5 => ∃ (x y : Option D) (l : List D), σ = [some (.ref j), some (.int 3), some (.int m), some (.int mm), some (.ref n), x, y] ∧ S5[n]? = some (some l) ∧ KindsD l ∧ Ev j S S5) ?_ ?_
  · intro J hJ
    simp only [w_for, w_r1, w_cons, w_nil, w_f2, w_c, w_call, w_var]
    simp only [List.getElem?_cons_zero, List.getElem?_cons_succ, List.set_cons_zero, List.set_cons_succ, List.length_cons, List.length_nil, Option.some.injEq, exists_eq_left', exists_eq_left, D.int.injEq, D.bl.injEq, D.ref.injEq, D.lst.injEq, D.tup.injEq, D.str.injEq, and_true, true_and, List.cons.injEq, gN, forall_eq, forall_const]
    refine take_ok ev1.jar (by decide) (by decide) fun r S2 h0 h1 ev2 => ⟨_, rfl, _, rfl, by omega, by omega, ?_⟩
    have hnl : n < S1.length := (List.getElem?_eq_some_iff.mp hn).1
    refine for_cut (fun ds σ S5 => ∃ (x y : Option D) (l : List D), σ = [some (.ref j), some (.int 3), some (.int m), some (.int mm), some (.ref n), x, y] ∧ S5[n]? = some (some l) ∧ (∀ d ∈ l, KindD d) ∧ (l.length : Int) + ds.length = 1 + r ∧ Ev j S S5) ⟨none, none, [], rfl, (ev2.keep n hnl hnj).trans hn, by simp, ?_, ev1.trans ev2⟩ ?_ ?_
    · unfold rngD
      rw [List.length_map, List.length_range]
      simp
      omega
    · rintro d ds σ S5 ⟨x, y, l, rfl, k1, k2, k3, ev5⟩ J2 hJ2
      refine ⟨_, rfl, ?_⟩
      have hnl5 : n < S5.length := (List.getElem?_eq_some_iff.mp k1).1
      refine seq_cut (fun σ S6 => ∃ row : List D, σ = [some (.ref j), some (.int 3), some (.int m), some (.int mm), some (.ref n), some d, some (.tup row)] ∧ Row row ∧ row.length ≤ 13 ∧ S6[n]? = some (some l) ∧ Ev j S S6) ?_ ?_
      · intro J3 hJ3
        simp only [w_seq, w_sif, w_bV, w_bT, w_bAnd, w_or, w_not, w_f1, w_f2, w_chain, w_ix, w_isi, w_tup, w_lst, w_new, w_and, w_if, w_c, w_asg, w_par, w_sub, w_app, w_for, w_ret, w_snil, w_b, w_call, w_cons, w_nil, w_q, w_r1, w_r2, w_oN, w_oS, w_sl, w_comp, w_runF, w_var]
        simp only [List.getElem?_cons_zero, List.getElem?_cons_succ, List.set_cons_zero, List.set_cons_succ, List.length_cons, List.length_nil, Option.some.injEq, exists_eq_left', exists_eq_left, D.int.injEq, D.bl.injEq, D.ref.injEq, D.lst.injEq, D.tup.injEq, D.str.injEq, and_true, true_and, List.cons.injEq, gN, forall_eq, forall_const]
        have fin : ∀ l9 S6, Row l9 → l9.length ≤ 13 → Ev j S5 S6 → J3 [some (.ref j), some (.int 3), some (.int m), some (.int mm), some (.ref n), some d, some (.tup l9)] S6 := fun l9 S6 q1 q2 ev6 => hJ3 _ _ ⟨l9, rfl, q1, q2, (ev6.keep n hnl5 hnj).trans k1, ev5.trans ev6⟩
        have vals : ∀ S6, Ev j S5 S6 → okR (F__law_pd_values [.ref j, .int m] S6) fun v S7 => J3 [some (.ref j), some (.int 3), some (.int m), some (.int mm), some (.ref n), some d, some v] S7 := fun S6 ev6 => values_ok ev6.jar hm (by omega) fun l9 S7 q1 q2 ev7 => fin l9 S7 q1 (by omega) (ev6.trans ev7)
        refine ⟨_, rfl, _, rfl, fun hb => ?_, fun hb => ⟨fun z => (nomatch z), vals S5 (Ev.rfl' ev5.jar)⟩⟩
        refine take_ok ev5.jar (by decide) (by decide) fun r9 S6 g0 g1 ev6 => ⟨_, eqI _ _, _, rfl, fun _ => leap_ok ev6.jar (of_decide_eq_true hb) hm2 fun l9 S7 q1 q2 ev7 => fin l9 S7 q1 q2 (ev6.trans ev7), fun _ => vals S6 ev6⟩
      · rintro σ6 S6 ⟨row, rfl, hr1, hr2, k1', ev6⟩
        have hnl6 : n < S6.length := (List.getElem?_eq_some_iff.mp k1').1
        simp only [w_seq, w_sif, w_bV, w_bT, w_bAnd, w_or, w_not, w_f1, w_f2, w_chain, w_ix, w_isi, w_tup, w_lst, w_new, w_and, w_if, w_c, w_asg, w_par, w_sub, w_app, w_for, w_ret, w_snil, w_b, w_call, w_cons, w_nil, w_q, w_r1, w_r2, w_oN, w_oS, w_sl, w_comp, w_runF, w_var]
        simp only [List.getElem?_cons_zero, List.getElem?_cons_succ, List.set_cons_zero, List.set_cons_succ, List.length_cons, List.length_nil, Option.some.injEq, exists_eq_left', exists_eq_left, D.int.injEq, D.bl.injEq, D.ref.injEq, D.lst.injEq, D.tup.injEq, D.str.injEq, and_true, true_and, List.cons.injEq, gN, forall_eq, forall_const]
        rw [List.length_cons] at k3
        refine ⟨n, _, rfl, k1', many_ok ev6.jar hmm hmm2 fun r9 S7 g0 g1 ev7 => ⟨by decide, _, (ev7.keep n hnl6 hnj).trans k1', ?_, hJ2 _ _ ⟨_, _, l ++ [.tup [.tup row, .int r9]], rfl, ?_, ?_, ?_, (ev6.trans ev7).setN hnS hnj⟩⟩⟩
        · show l.length < 16777216
          omega
        · rw [List.getElem?_set_self (Nat.lt_of_lt_of_le hnl6 ev7.len)]
        · intro d9 hd9
          rcases List.mem_append.mp hd9 with z | z
          · exact k2 d9 z
          · rw [List.mem_singleton] at z
            exact ⟨row, r9, z, hr1, hr2, g0, g1⟩
        · rw [List.length_append]
          show ((l.length + 1 : Nat) : Int) + ds.length = 1 + r
          omega
    · rintro σ S5 ⟨x, y, l, rfl, k1, k2, k3, ev5⟩
      refine hJ _ _ ⟨x, y, l, rfl, k1, ⟨?_, ?_, k2⟩, ev5⟩
      · intro z
        subst z
        simp at k3
        omega
      · simp at k3
        omega
  rintro σ5 S5 ⟨x, y, l, rfl, k1, k2, ev5⟩
  simp only [w_seq, w_sif, w_bV, w_bT, w_bAnd, w_or, w_not, w_f1, w_f2, w_chain, w_ix, w_isi, w_tup, w_lst, w_new, w_and, w_if, w_c, w_asg, w_par, w_sub, w_app, w_for, w_ret, w_snil, w_b, w_call, w_cons, w_nil, w_q, w_r1, w_r2, w_oN, w_oS, w_sl, w_comp, w_runF, w_var]
  simp only [List.getElem?_cons_zero, List.getElem?_cons_succ, List.set_cons_zero, List.set_cons_succ, List.length_cons, List.length_nil, Option.some.injEq, exists_eq_left', exists_eq_left, D.int.injEq, D.bl.injEq, D.ref.injEq, D.lst.injEq, D.tup.injEq, D.str.injEq, and_true, true_and, List.cons.injEq, gN, forall_eq, forall_const]
  have hq : qItems S5 (.ref n) = some l := by
    show (match S5[n]? with | some (some l) => some l | _ => none) = _
    rw [k1]
  exact ⟨_, _, by show (qItems S5 (.ref n)).map _ = _; rw [hq]; rfl, h _ _ k2 ev5⟩
theorem some_crew_ok {S : Sto} {j : Nat} {Q : D → Sto → Prop} (hj : Jar S j) (h : ∀ l S', KindsD l → Ev j S S' → Q (.tup l) S') : okR (F__law_pd_some_crew [.ref j] S) Q := by
  unfold F__law_pd_some_crew
  rw [w_runF]
  show okS (B__law_pd_some_crew [some (.ref j)] S) _ _
  unfold B__law_pd_some_crew
  simp only [w_seq, w_sif, w_bV, w_bT, w_bAnd, w_or, w_not, w_f1, w_f2, w_chain, w_ix, w_isi, w_tup, w_lst, w_new, w_and, w_if, w_c, w_asg, w_par, w_sub, w_app, w_for, w_ret, w_snil, w_b, w_call, w_cons, w_nil, w_q, w_r1, w_r2, w_oN, w_oS, w_sl, w_comp, w_runF, w_var]
  simp only [List.getElem?_cons_zero, List.getElem?_cons_succ, List.set_cons_zero, List.set_cons_succ, List.length_cons, List.length_nil, Option.some.injEq, exists_eq_left', exists_eq_left, D.int.injEq, D.bl.injEq, D.ref.injEq, D.lst.injEq, D.tup.injEq, D.str.injEq, and_true, true_and, List.cons.injEq, gN, forall_eq, forall_const]
  refine take_ok hj (by decide) (by decide) fun r S1 h0 h1 ev1 => ⟨_, eqI _ _, _, rfl, fun _ => crew_ok ev1.jar (by decide) (by decide) (by decide) (by decide) fun l S2 k ev2 => h l S2 k (ev1.trans ev2), fun _ => ⟨by decide, one_ok ev1.jar (by simp) (by simp) fun d S2 hd ev2 => ?_⟩⟩
  simp only [List.mem_cons, List.not_mem_nil, or_false] at hd
  rcases hd with rfl | rfl | rfl | rfl <;> exact crew_ok ev2.jar (by decide) (by decide) (by decide) (by decide) fun l S3 k ev3 => h l S3 k ((ev1.trans ev2).trans ev3)
theorem great_crew_ok {S : Sto} {j : Nat} {Q : D → Sto → Prop} (hj : Jar S j) (h : ∀ l S', KindsD l → Ev j S S' → Q (.tup l) S') : okR (F__law_pd_great_crew [.ref j, .int 6] S) Q := by
  unfold F__law_pd_great_crew
  rw [w_runF]
  show okS (B__law_pd_great_crew [some (.ref j), some (.int 6), none, none, none] S) _ _
  unfold B__law_pd_great_crew
  have hl := hj.lt
  refine seq_cut (fun σ S4 => ∃ n : Nat, σ = [some (.ref j), some (.int 6), some (.ref n), none, none] ∧ n ≠ j ∧ S.length ≤ n ∧ S4[n]? = some (some []) ∧ Ev j S S4) ?_ ?_
  · intro J hJ
    simp only [w_seq, w_sif, w_bV, w_bT, w_bAnd, w_or, w_not, w_f1, w_f2, w_chain, w_ix, w_isi, w_tup, w_lst, w_new, w_and, w_if, w_c, w_asg, w_par, w_sub, w_app, w_for, w_ret, w_snil, w_b, w_call, w_cons, w_nil, w_q, w_r1, w_r2, w_oN, w_oS, w_sl, w_comp, w_runF, w_var]
    simp only [List.getElem?_cons_zero, List.getElem?_cons_succ, List.set_cons_zero, List.set_cons_succ, List.length_cons, List.length_nil, Option.some.injEq, exists_eq_left', exists_eq_left, D.int.injEq, D.bl.injEq, D.ref.injEq, D.lst.injEq, D.tup.injEq, D.str.injEq, and_true, true_and, List.cons.injEq, gN, forall_eq, forall_const]
    exact ⟨by decide, hJ _ _ ⟨S.length, rfl, by omega, Nat.le_refl _, List.getElem?_concat_length, (Ev.rfl' hj).snoc⟩⟩
  rintro σ1 S1 ⟨n, rfl, hnj, hnS, hn, ev1⟩
  refine seq_cut (fun σ S5 => ∃ (x y : Option D) (l : List D), σ = [some (.ref j), some (.int 6), some (.ref n), x, y] ∧ S5[n]? = some (some l) ∧ KindsD l ∧ Ev j S S5) ?_ ?_
  · intro J hJ
    simp only [w_for, w_q, w_cons, w_nil, w_f2, w_c, w_call, w_var]
    simp only [List.getElem?_cons_zero, List.getElem?_cons_succ, List.set_cons_zero, List.set_cons_succ, List.length_cons, List.length_nil, Option.some.injEq, exists_eq_left', exists_eq_left, D.int.injEq, D.bl.injEq, D.ref.injEq, D.lst.injEq, D.tup.injEq, D.str.injEq, and_true, true_and, List.cons.injEq, gN, forall_eq, forall_const]
    have hnl : n < S1.length := (List.getElem?_eq_some_iff.mp hn).1
    refine crew_ok ev1.jar (by decide) (by decide) (by decide) (by decide) fun l0 S2 hk ev2 => ⟨l0, .inr (.inr rfl), ?_⟩
    obtain ⟨hk1, hk2, hk3⟩ := hk
    have hpos : 0 < l0.length := List.length_pos_iff.mpr hk1
    refine for_cut (fun ds σ S5 => ∃ (x y : Option D) (l : List D), σ = [some (.ref j), some (.int 6), some (.ref n), x, y] ∧ S5[n]? = some (some l) ∧ (∀ d ∈ l, KindD d) ∧ (∀ d ∈ ds, KindD d) ∧ l.length + ds.length = l0.length ∧ Ev j S S5) ⟨none, none, [], rfl, (ev2.keep n hnl hnj).trans hn, by simp, hk3, by simp, ev1.trans ev2⟩ ?_ ?_
    · rintro d ds σ S5 ⟨x, y, l, rfl, k1, k2, k4, k3, ev5⟩ J2 hJ2
      have hnl5 : n < S5.length := (List.getElem?_eq_some_iff.mp k1).1
      obtain ⟨row, mm, rfl, q1, q2, q3, q4⟩ := k4 d List.mem_cons_self
      refine ⟨_, w_gT2, ?_⟩
      rw [List.length_cons] at k3
      simp only [w_seq, w_sif, w_bV, w_bT, w_bAnd, w_or, w_not, w_f1, w_f2, w_chain, w_ix, w_isi, w_tup, w_lst, w_new, w_and, w_if, w_c, w_asg, w_par, w_sub, w_app, w_for, w_ret, w_snil, w_b, w_call, w_cons, w_nil, w_q, w_r1, w_r2, w_oN, w_oS, w_sl, w_comp, w_runF, w_var]
      simp only [List.getElem?_cons_zero, List.getElem?_cons_succ, List.set_cons_zero, List.set_cons_succ, List.length_cons, List.length_nil, Option.some.injEq, exists_eq_left', exists_eq_left, D.int.injEq, D.bl.injEq, D.ref.injEq, D.lst.injEq, D.tup.injEq, D.str.injEq, and_true, true_and, List.cons.injEq, gN, forall_eq, forall_const]
      have fin : ∀ r9 S7, 0 ≤ r9 → r9 ≤ M30 → Ev j S5 S7 → 0 + 1 + 1 ≤ LINE ∧ ∃ l_1, S7[n]? = some (some l_1) ∧ l_1.length < LINE ∧ J2 [some (.ref j), some (.int 6), some (.ref n), some (.tup row), some (.int mm)] (S7.set n (some (l_1 ++ [.tup [.tup row, .int r9]]))) := fun r9 S7 g0 g1 ev7 => by
        refine ⟨by decide, _, (ev7.keep n hnl5 hnj).trans k1, ?_, hJ2 _ _ ⟨_, _, l ++ [.tup [.tup row, .int r9]], rfl, ?_, ?_, fun d hd => k4 d (List.mem_cons_of_mem _ hd), ?_, (ev5.trans ev7).setN hnS hnj⟩⟩
        · show l.length < 16777216
          omega
        · rw [List.getElem?_set_self (Nat.lt_of_lt_of_le hnl5 ev7.len)]
        · intro d9 hd9
          rcases List.mem_append.mp hd9 with z | z
          · exact k2 d9 z
          · rw [List.mem_singleton] at z
            exact ⟨row, r9, z, q1, q2, g0, g1⟩
        · rw [List.length_append]
          show l.length + 1 + ds.length = l0.length
          omega
      exact ⟨n, _, rfl, k1, take_ok ev5.jar (by decide) (by decide) fun r9 S6 g0 g1 ev6 => ⟨_, eqI _ _, _, rfl, fun _ => fin _ _ q3 q4 ev6, fun _ => great_ok ev6.jar fun r8 S7 f0 f1 ev7 => fin _ _ f0 f1 (ev6.trans ev7)⟩⟩
    · rintro σ S5 ⟨x, y, l, rfl, k1, k2, _, k3, ev5⟩
      rw [List.length_nil, Nat.add_zero] at k3
      refine hJ _ _ ⟨x, y, l, rfl, k1, ⟨?_, by omega, k2⟩, ev5⟩
      intro z
      subst z
      simp at k3
      omega
  rintro σ5 S5 ⟨x, y, l, rfl, k1, k2, ev5⟩
  simp only [w_seq, w_sif, w_bV, w_bT, w_bAnd, w_or, w_not, w_f1, w_f2, w_chain, w_ix, w_isi, w_tup, w_lst, w_new, w_and, w_if, w_c, w_asg, w_par, w_sub, w_app, w_for, w_ret, w_snil, w_b, w_call, w_cons, w_nil, w_q, w_r1, w_r2, w_oN, w_oS, w_sl, w_comp, w_runF, w_var]
  simp only [List.getElem?_cons_zero, List.getElem?_cons_succ, List.set_cons_zero, List.set_cons_succ, List.length_cons, List.length_nil, Option.some.injEq, exists_eq_left', exists_eq_left, D.int.injEq, D.bl.injEq, D.ref.injEq, D.lst.injEq, D.tup.injEq, D.str.injEq, and_true, true_and, List.cons.injEq, gN, forall_eq, forall_const]
  have hq : qItems S5 (.ref n) = some l := by
    show (match S5[n]? with | some (some l) => some l | _ => none) = _
    rw [k1]
  exact ⟨_, _, by show (qItems S5 (.ref n)).map _ = _; rw [hq]; rfl, h _ _ k2 ev5⟩
end K01
/-! crews of like prices; the pool on -/
namespace K01
open PySem PySem.Spec PyProof.Rows L2 PF
theorem asc_range {e : Int} (he : 0 ≤ e) : ∀ k : Nat, Asc ((List.range k).map fun n : Nat => e * (n : Int))
  | 0 => True.intro
  | 1 => True.intro
  | k + 2 => by
    have ih := asc_range he (k + 1)
    rw [List.range_succ, List.map_append] at ih
    rw [List.range_succ, List.map_append, List.range_succ, List.map_append]
    refine asc_snoc ?_ ih
    exact Int.mul_le_mul_of_nonneg_left (by omega) he
end K01
/-! what values, kinds are: the program's look, the law's own -/
namespace K01
open PySem PySem.Spec PyProof.Rows L2 PF
/-- a plain value -/
inductive Pl : D → Prop
  | non : Pl .non
  | bl (b : Bool) : Pl (.bl b)
  | int (i : Int) : Pl (.int i)
  | str (x : Str) : Pl (.str x)
  | tup {l : List D} : (∀ d ∈ l, Pl d) → l.length ≤ 1000 → Pl (.tup l)
  | lst {l : List D} : (∀ d ∈ l, Pl d) → l.length ≤ 1000 → Pl (.lst l)
  | dct0 : Pl (.dct [])
  | dct1 {i : Int} {d : D} : Pl d → i.natAbs < 10 → Pl (.dct [(Sum.inl i, d)])
def isNon : D → Bool
  | .non => true
  | _ => false
def isInt : D → Bool
  | .int _ => true
  | _ => false
theorem integer_eq {d : D} (h : Pl d) (S : Sto) : F_is_integer [d] S = .ok (.bl (isInt d)) S := by
  cases h <;> rfl
theorem isn_eq {d : D} (h : Pl d) : isnD d .non = some (.bl (!isNon d)) := by
  cases h <;> rfl
theorem is_eq {d : D} (h : Pl d) : isD d .non = some (.bl (isNon d)) := by
  cases h <;> rfl
theorem bls_map {β : Type} (f : β → Bool) : ∀ l : List β, blsD (l.map fun d => D.bl (f d)) = some (l.map f)
  | [] => rfl
  | d :: l => by
    show (blsD (l.map fun d => D.bl (f d))).map (f d :: ·) = _
    rw [bls_map f l]; rfl
theorem all_map {β : Type} (f : β → Bool) (l : List β) (S : Sto) : allD [.lst (l.map fun d => D.bl (f d))] S = some (.bl ((l.map f).all fun b => b), S) := by
  show ((lItems (.lst (l.map fun d => D.bl (f d)))).bind blsD).map _ = _
  rw [show (lItems (D.lst (l.map fun d => D.bl (f d)))).bind blsD = some (l.map f) from bls_map f l]
  rfl
theorem find_non : ∀ {l : List D}, (∃ d ∈ l, isNon d = false) → (l.map fun d => !isNon d).findIdx? (· == true) = some (l.takeWhile isNon).length
  | [], ⟨_, h, _⟩ => by cases h
  | d :: l, h => by
    rw [List.map_cons, List.findIdx?_cons, List.takeWhile_cons]
    cases e : isNon d with
    | false => rfl
    | true =>
      have h' : ∃ d ∈ l, isNon d = false := by
        obtain ⟨x, h1, h2⟩ := h
        rcases List.mem_cons.mp h1 with z | z
        · rw [z, e] at h2; cases h2
        · exact ⟨x, z, h2⟩
      simp only [Bool.not_true, Bool.false_eq_true, if_false, if_true, List.length_cons]
      rw [find_non h']
      rfl
/-- all that a comprehension over one name makes, if its condition is empty -/
theorem comp_map {g : GF} {f : EF} {σ : Stt} {S : Sto} {h : D → D} {ds : List D} (hd : ∀ d ∈ ds, ∃ σ1, g d σ = some σ1 ∧ f σ1 S = .ok (h d) S) : compF g bTrue f ds σ S = .ok (ds.map h) S := by
  have e := comp_pure (g := g) (t := bTrue) (f := f) (σ := σ) (S := S) (p := fun _ => true) (h := h) (ds := ds) fun d hm => by
    obtain ⟨σ1, e1, e2⟩ := hd d hm
    exact ⟨σ1, e1, rfl, fun _ => e2⟩
  rw [List.filter_eq_self.mpr (fun _ _ => rfl)] at e
  exact e
theorem least_eq {l : List D} (hl : ∀ d ∈ l, Pl d) (hz : l.length ≤ 1000) (hn : ∃ d ∈ l, isNon d = false) (S : Sto) : F_least_of [.tup l] S = .ok (.int (l.takeWhile isNon).length) S := by
  have hc : compF (gN 1) bTrue (f2 isnD (fVar 1) (fC .non)) l (wipeD [some (.tup l), none] [1]) S = .ok (l.map fun d => .bl (!isNon d)) S := comp_map fun d hd => by
    refine ⟨_, rfl, ?_⟩
    show (match isnD d .non with | some d => Res.ok d S | none => .bad) = _
    rw [isn_eq (hl d hd)]
  have h1 : okR (F_least_of [.tup l] S) fun d S' => d = .int (l.takeWhile isNon).length ∧ S' = S := by
    unfold F_least_of
    rw [w_runF]
    show okS (B_least_of [some (.tup l), none] S) _ _
    unfold B_least_of
    rw [w_ret]
    have e : fComp [1] (iQ (fVar 0)) (gN 1) bTrue (f2 isnD (fVar 1) (fC .non)) [some (.tup l), none] S = .ok (.lst (l.map fun d => .bl (!isNon d))) S := by
      show (match compF (gN 1) bTrue (f2 isnD (fVar 1) (fC .non)) l (wipeD [some (.tup l), none] [1]) S with | .ok ys S2 => if ys.length ≤ LINE then Res.ok (D.lst ys) S2 else .bad | _ => .bad) = _
      rw [hc]
      show (if _ then _ else _) = _
      rw [if_pos (by rw [List.length_map]; exact Nat.le_trans hz (by decide))]
    unfold fIdx
    rw [w_bind, e]
    show okR (match (lItems (.lst (l.map fun d => .bl (!isNon d)))).bind blsD with | some bs => _ | none => _) _
    have e2 : (lItems (.lst (l.map fun d => D.bl (!isNon d)))).bind blsD = some (l.map fun d => !isNon d) := bls_map _ l
    rw [e2]
    show okR (match (l.map fun d => !isNon d).findIdx? (· == true) with | some n => Res.ok (D.int n) S | none => .bad) _
    rw [find_non hn]
    exact ⟨rfl, rfl⟩
  obtain ⟨d, S', e, rfl, rfl⟩ := h1.get
  exact e
theorem drop_take (p : D → Bool) : ∀ l : List D, l.drop (l.takeWhile p).length = l.dropWhile p
  | [] => rfl
  | d :: l => by
    rw [List.takeWhile_cons, List.dropWhile_cons]
    cases p d with
    | true => exact drop_take p l
    | false => rfl
/-- numbers do not fall, looked at place by place -/
def ascB (xs : List Int) : Bool := (List.range (xs.length - 1)).all fun i => decide (xs.getD i 0 ≤ xs.getD (i + 1) 0)
def unI : D → Int
  | .int i => i
  | _ => 0
def valuesB : D → Bool
  | .tup l => decide (1 ≤ l.length) && (decide (l.length ≤ 41) && (!isNon (l.getLastD .non) && ((l.dropWhile isNon).all isInt && ascB ((l.dropWhile isNon).map unI))))
  | _ => false
theorem valuesB_tup (l : List D) : valuesB (.tup l) = (decide (1 ≤ l.length) && (decide (l.length ≤ 41) && (!isNon (l.getLastD .non) && ((l.dropWhile isNon).all isInt && ascB ((l.dropWhile isNon).map unI))))) := rfl
theorem dw_nil : ∀ {l : List D}, l.dropWhile isNon = [] → ∀ x ∈ l, isNon x = true
  | [], _, _, h => nomatch h
  | d :: l, e, x, h => by
    rw [List.dropWhile_cons] at e
    cases hd : isNon d with
    | false => rw [hd] at e; cases e
    | true =>
      rw [hd] at e
      rcases List.mem_cons.mp h with z | z
      · rw [z]; exact hd
      · exact dw_nil e x z
theorem last_at {l : List D} (h : l ≠ []) : L2.atI l (-1) = some (l.getLastD .non) := by
  have hp : 0 < l.length := List.length_pos_iff.mpr h
  unfold L2.atI L2.ixN
  rw [if_neg (by decide), if_pos (by omega)]
  show l[((-1 : Int) + (l.length : Int)).toNat]? = _
  have e : ((-1 : Int) + (l.length : Int)).toNat = l.length - 1 := by omega
  rw [e, ← List.getLast?_eq_getElem?, List.getLastD_eq_getLast?]
  obtain ⟨x, hx⟩ : ∃ x, l.getLast? = some x := ⟨l.getLast h, List.getLast?_eq_some_getLast h⟩
  rw [hx]
  rfl
theorem ints_of {l : List D} (h : l.all isInt = true) : l = (l.map unI).map .int := by
  rw [List.map_map]
  refine (List.map_id _).symm.trans (List.map_congr_left fun d hd => ?_)
  have := List.all_eq_true.mp h d hd
  cases d <;> first | rfl | cases this
theorem at_int {xs : List Int} {i : Nat} (h : i < xs.length) : L2.atI (xs.map D.int) (i : Int) = some (.int (xs.getD i 0)) := by
  unfold L2.atI L2.ixN
  rw [if_pos (by omega), if_pos (by rw [List.length_map]; omega)]
  show (xs.map D.int)[(i : Int).toNat]? = _
  rw [Int.toNat_natCast, List.getElem?_map, List.getElem?_eq_getElem h, List.getD_eq_getElem?_getD, List.getElem?_eq_getElem h]
  rfl
theorem guard {t : BF} {f : EF} {rest : SF} {σ : Stt} {S : Sto} {N : Stt → Sto → Prop} {R : D → Sto → Prop} (C : Bool) (h0 : okR (t σ S) fun c S' => c = C ∧ S' = S) (h1 : C = true → okR (f σ S) R) (h2 : C = false → okS (rest σ S) N R) : okS (sSeq (sIf t (sRet f) sNil) rest σ S) N R := by
  rw [w_seq, w_sif]
  refine h0.mono fun c S' ⟨e1, e2⟩ => ?_
  subst e1 e2
  exact ⟨fun z => w_ret.mpr (h1 z), fun z => h2 z⟩
theorem values_eq {d : D} (h : Pl d) (S : Sto) : okR (F_is_values [d] S) fun r S' => r = .bl (valuesB d) ∧ S' = S := by
  cases h with
  | @tup l hl hz =>
    unfold F_is_values
    rw [w_runF]
    show okS (B_is_values [some (.tup l), none, none, none] S) _ _
    unfold B_is_values
    have hlen : lenD [.tup l] S = some (.int l.length, S) := rfl
    refine guard (!(decide (1 ≤ l.length) && decide (l.length ≤ 41)) || isNon (l.getLastD .non)) ?_ ?_ ?_
    · simp only [w_seq, w_sif, w_bV, w_bT, w_bAnd, w_or, w_not, w_f1, w_f2, w_chain, w_ix, w_isi, w_tup, w_lst, w_new, w_and, w_if, w_c, w_asg, w_par, w_sub, w_app, w_for, w_ret, w_snil, w_b, w_call, w_cons, w_nil, w_q, w_r1, w_r2, w_oN, w_oS, w_sl, w_comp, w_runF, w_var]
      simp only [List.getElem?_cons_zero, List.getElem?_cons_succ, List.set_cons_zero, List.set_cons_succ, List.length_cons, List.length_nil, Option.some.injEq, exists_eq_left', exists_eq_left, D.int.injEq, D.bl.injEq, D.ref.injEq, D.lst.injEq, D.tup.injEq, D.str.injEq, and_true, true_and, List.cons.injEq, gN, forall_eq, forall_const]
      refine ⟨_, rfl, _, rfl, ?_⟩
      refine ⟨fun z => (nomatch (show false = true from z)), fun _ => ⟨_, _, rfl, _, rfl, ?_⟩⟩
      refine ⟨fun h1 => ⟨_, rfl, _, rfl, ?_⟩, fun h1 => ?_⟩
      refine ⟨fun h2 => ?_, fun h2 => ?_⟩
      · refine ⟨?_, rfl⟩
        have h1 := of_decide_eq_true h1
        have h2 : ¬ ((l.length : Int) ≤ 41) := by simpa using h2
        rw [decide_eq_false (show ¬ l.length ≤ 41 by omega)]
        simp
      · have h1 := of_decide_eq_true h1
        have h2 : ((l.length : Int) ≤ 41) := by simpa using h2
        have hne : l ≠ [] := fun z => by rw [z] at h1; simp at h1
        refine ⟨_, rfl, _, ix_tup (last_at hne), _, is_eq ?_, _, rfl, ?_, rfl⟩
        · rw [List.getLastD_eq_getLast?, List.getLast?_eq_some_getLast hne]
          exact hl _ (List.getLast_mem hne)
        · rw [decide_eq_true (show 1 ≤ l.length by omega), decide_eq_true (show l.length ≤ 41 by omega)]
          rfl
      · refine ⟨fun _ => ⟨?_, rfl⟩, fun z => nomatch z⟩
        have h1 : ¬ ((1 : Int) ≤ l.length) := of_decide_eq_false h1
        rw [decide_eq_false (show ¬ 1 ≤ l.length by omega)]
        simp
    · intro hc
      refine ⟨?_, rfl⟩
      show D.bl false = D.bl _
      rw [valuesB_tup]
      revert hc
      cases decide (1 ≤ l.length) <;> cases decide (l.length ≤ 41) <;> cases isNon (l.getLastD .non) <;> intro hc <;> first | rfl | cases hc
    intro hc
    have hc3 : decide (1 ≤ l.length) = true ∧ decide (l.length ≤ 41) = true ∧ isNon (l.getLastD .non) = false := by
      revert hc
      cases decide (1 ≤ l.length) <;> cases decide (l.length ≤ 41) <;> cases isNon (l.getLastD .non) <;> intro hc <;> first | exact ⟨rfl, rfl, rfl⟩ | cases hc
    obtain ⟨c1, c2, c3⟩ := hc3
    have hne : l ≠ [] := fun z => by rw [z] at c1; exact nomatch c1
    have hlast : ∃ d ∈ l, isNon d = false := ⟨l.getLastD .non, by rw [List.getLastD_eq_getLast?, List.getLast?_eq_some_getLast hne]; exact List.getLast_mem hne, c3⟩
    have hkn : ∀ d ∈ l.dropWhile isNon, Pl d := fun d hd => hl d ((List.dropWhile_sublist _).subset hd)
    have hknl : (l.dropWhile isNon).length ≤ 41 := Nat.le_trans (List.dropWhile_sublist _).length_le (of_decide_eq_true c2)
    have hkn0 : (l.dropWhile isNon) ≠ [] := fun z => by
      obtain ⟨x, h1, h2⟩ := hlast
      have z2 := dw_nil z x h1
      rw [h2] at z2
      cases z2
    refine seq_cut (fun σ S1 => σ = [some (.tup l), some (.tup (l.dropWhile isNon)), none, none] ∧ S1 = S) ?_ ?_
    · intro J hJ
      simp only [w_seq, w_sif, w_bV, w_bT, w_bAnd, w_or, w_not, w_f1, w_f2, w_chain, w_ix, w_isi, w_tup, w_lst, w_new, w_and, w_if, w_c, w_asg, w_par, w_sub, w_app, w_for, w_ret, w_snil, w_b, w_call, w_cons, w_nil, w_q, w_r1, w_r2, w_oN, w_oS, w_sl, w_comp, w_runF, w_var]
      simp only [List.getElem?_cons_zero, List.getElem?_cons_succ, List.set_cons_zero, List.set_cons_succ, List.length_cons, List.length_nil, Option.some.injEq, exists_eq_left', exists_eq_left, D.int.injEq, D.bl.injEq, D.ref.injEq, D.lst.injEq, D.tup.injEq, D.str.injEq, and_true, true_and, List.cons.injEq, gN, forall_eq, forall_const]
      rw [least_eq hl hz hlast S]
      refine ⟨_, rfl, _, rfl, hJ _ _ ⟨?_, rfl⟩⟩
      have e : PF.cutD l (some ((l.takeWhile isNon).length : Int)) none = l.dropWhile isNon := by
        unfold PF.cutD
        rw [HT.sIx_nat, HT.sIx_none, Nat.min_eq_left (List.takeWhile_sublist _).length_le, drop_take]
        refine List.take_of_length_le ?_
        have e9 := congrArg List.length (List.takeWhile_append_dropWhile (p := isNon) (l := l))
        rw [List.length_append] at e9
        omega
      rw [e]
    rintro σ1 S1 ⟨rfl, rfl⟩
    have hv : ∀ X : Bool, (l.dropWhile isNon).all isInt = true → X = ascB ((l.dropWhile isNon).map unI) → valuesB (.tup l) = X := fun X q1 q2 => by
      rw [valuesB_tup, c1, c2, c3, q1, q2]
      rfl
    refine guard (!(l.dropWhile isNon).all isInt) ?_ ?_ ?_
    · simp only [w_seq, w_sif, w_bV, w_bT, w_bAnd, w_or, w_not, w_f1, w_f2, w_chain, w_ix, w_isi, w_tup, w_lst, w_new, w_and, w_if, w_c, w_asg, w_par, w_sub, w_app, w_for, w_ret, w_snil, w_b, w_call, w_cons, w_nil, w_q, w_r1, w_r2, w_oN, w_oS, w_sl, w_comp, w_runF, w_var]
      simp only [List.getElem?_cons_zero, List.getElem?_cons_succ, List.set_cons_zero, List.set_cons_succ, List.length_cons, List.length_nil, Option.some.injEq, exists_eq_left', exists_eq_left, D.int.injEq, D.bl.injEq, D.ref.injEq, D.lst.injEq, D.tup.injEq, D.str.injEq, and_true, true_and, List.cons.injEq, gN, forall_eq, forall_const]
      refine ⟨_, .inr (.inr rfl), _, _, comp_map (h := fun d => .bl (isInt d)) fun d hd => ⟨_, rfl, ?_⟩, by rw [List.length_map]; exact Nat.le_trans hknl (by decide), _, _, by show ((lItems _).bind blsD).map _ = _; rw [show (lItems (D.lst ((l.dropWhile isNon).map fun d => D.bl (isInt d)))).bind blsD = some ((l.dropWhile isNon).map isInt) from bls_map _ _]; rfl, _, rfl, ?_, rfl⟩
      · show F_is_integer [d] S1 = _
        exact integer_eq (hkn d hd) S1
      · rw [List.all_map]
        rfl
    · intro hc
      refine ⟨?_, rfl⟩
      have : (l.dropWhile isNon).all isInt = false := by simpa using hc
      rw [valuesB_tup, c1, c2, c3, this]
      rfl
    intro hc
    have hint : (l.dropWhile isNon).all isInt = true := by simpa using hc
    have e0 := ints_of hint
    have hxl : ((l.dropWhile isNon).map unI).length = (l.dropWhile isNon).length := List.length_map _
    simp only [w_seq, w_sif, w_bV, w_bT, w_bAnd, w_or, w_not, w_f1, w_f2, w_chain, w_ix, w_isi, w_tup, w_lst, w_new, w_and, w_if, w_c, w_asg, w_par, w_sub, w_app, w_for, w_ret, w_snil, w_b, w_call, w_cons, w_nil, w_q, w_r1, w_r2, w_oN, w_oS, w_sl, w_comp, w_runF, w_var]
    simp only [List.getElem?_cons_zero, List.getElem?_cons_succ, List.set_cons_zero, List.set_cons_succ, List.length_cons, List.length_nil, Option.some.injEq, exists_eq_left', exists_eq_left, D.int.injEq, D.bl.injEq, D.ref.injEq, D.lst.injEq, D.tup.injEq, D.str.injEq, and_true, true_and, List.cons.injEq, gN, forall_eq, forall_const]
    have hpos : 0 < (l.dropWhile isNon).length := List.length_pos_iff.mpr hkn0
    refine ⟨_, _, rfl, _, rfl, _, rfl, by omega, by omega, _, _, comp_map (h := fun d => .bl (decide (((l.dropWhile isNon).map unI).getD (unI d).toNat 0 ≤ ((l.dropWhile isNon).map unI).getD ((unI d).toNat + 1) 0))) fun d hd => ?_, ?_, _, _, all_map _ _ _, ?_, rfl⟩
    · obtain ⟨i, hi, rfl⟩ := List.mem_map.mp hd
      have hi := List.mem_range.mp hi
      refine ⟨_, rfl, ?_⟩
      have k1 : L2.atI (l.dropWhile isNon) (0 + (i : Int)) = some (.int (((l.dropWhile isNon).map unI).getD i 0)) := by
        rw [Int.zero_add]
        have := at_int (xs := (l.dropWhile isNon).map unI) (i := i) (by rw [hxl]; omega)
        rw [← e0] at this
        exact this
      have k2 : L2.atI (l.dropWhile isNon) (0 + (i : Int) + 1) = some (.int (((l.dropWhile isNon).map unI).getD (i + 1) 0)) := by
        rw [Int.zero_add]
        have := at_int (xs := (l.dropWhile isNon).map unI) (i := i + 1) (by rw [hxl]; omega)
        rw [← e0] at this
        exact this
      have q : okR ((f2 leD (fIx (fVar 1) (fVar 3)) (fIx (fVar 1) (f2 addD (fVar 3) (fC (.int 1))))) [some (.tup l), some (.tup (l.dropWhile isNon)), none, some (.int (0 + (i : Int)))] S1) fun d S' => d = .bl (decide (((l.dropWhile isNon).map unI).getD i 0 ≤ ((l.dropWhile isNon).map unI).getD (i + 1) 0)) ∧ S' = S1 := by
        simp only [w_seq, w_sif, w_bV, w_bT, w_bAnd, w_or, w_not, w_f1, w_f2, w_chain, w_ix, w_isi, w_tup, w_lst, w_new, w_and, w_if, w_c, w_asg, w_par, w_sub, w_app, w_for, w_ret, w_snil, w_b, w_call, w_cons, w_nil, w_q, w_r1, w_r2, w_oN, w_oS, w_sl, w_comp, w_runF, w_var]
        simp only [List.getElem?_cons_zero, List.getElem?_cons_succ, List.set_cons_zero, List.set_cons_succ, List.length_cons, List.length_nil, Option.some.injEq, exists_eq_left', exists_eq_left, D.int.injEq, D.bl.injEq, D.ref.injEq, D.lst.injEq, D.tup.injEq, D.str.injEq, and_true, true_and, List.cons.injEq, gN, forall_eq, forall_const]
        exact ⟨_, ix_tup k1, _, rfl, _, ix_tup k2, by first | exact rfl | exact ⟨_, rfl, rfl⟩ | exact ⟨_, rfl, rfl, rfl⟩⟩
      obtain ⟨d9, S9, e9, rfl, rfl⟩ := q.get
      refine e9.trans ?_
      have e8 : (unI (.int (0 + (i : Int)))).toNat = i := by show (0 + (i : Int)).toNat = i; omega
      rw [e8]
    · unfold rngD
      rw [List.length_map, List.length_map, List.length_range]
      show _ ≤ 16777216
      omega
    · refine congrArg D.bl (hv _ hint ?_).symm
      unfold ascB rngD
      rw [List.all_map, List.all_map, hxl]
      have e7 : ((l.dropWhile isNon).length - 1 : Int).toNat = (l.dropWhile isNon).length - 1 := by omega
      rw [e7]
      refine congrArg (List.all _) (funext fun i => ?_)
      have e8 : (unI (.int (0 + (i : Int)))).toNat = i := by show (0 + (i : Int)).toNat = i; omega
      show decide (((l.dropWhile isNon).map unI).getD (unI (.int (0 + (i : Int)))).toNat 0 ≤ ((l.dropWhile isNon).map unI).getD ((unI (.int (0 + (i : Int)))).toNat + 1) 0) = _
      rw [e8]
  | _ => exact (show D.bl false = D.bl false ∧ S = S from ⟨rfl, rfl⟩)
end K01
/-! the law's own look at values -/
namespace K01
open PySem PySem.Spec PyProof.Rows L2 PF
theorem eqT0 (l : List D) : eqD (.tup l) (.tup []) = some (.bl l.isEmpty) := by
  cases l <;> rfl
theorem eqL0 (l : List D) : eqD (.lst l) (.lst []) = some (.bl l.isEmpty) := by
  cases l <;> rfl
theorem neL0 (l : List D) : neD (.lst l) (.lst []) = some (.bl !l.isEmpty) := by
  cases l <;> rfl
theorem at_zero (d : D) (l : List D) : L2.atI (d :: l) 0 = some d := by
  unfold L2.atI L2.ixN
  rw [if_pos (by decide), if_pos (by rw [List.length_cons]; omega)]
  rfl
theorem skip_non {x : Option D} {S : Sto} {R : D → Sto → Prop} : ∀ (l : List D) (fuel : Nat), l.length < fuel → (∃ d ∈ l, isNon d = false) → (∀ d ∈ l, Pl d) →
    okS (sWhile (bV (f2 isD (fIx (fVar 1) (fC (.int 0))) (fC .non))) (sAsg (fSl (fVar 1) (oSome (fC (.int 1))) oNone) (gN 1)) fuel [x, some (.lst l), none, none] S) (fun σ S' => σ = [x, some (.lst (l.dropWhile isNon)), none, none] ∧ S' = S) R
  | [], _, _, ⟨_, h, _⟩, _ => nomatch h
  | d :: l, 0, h, _, _ => by simp at h
  | d :: l, fuel + 1, h, hn, hp => by
    have e : (bV (f2 isD (fIx (fVar 1) (fC (.int 0))) (fC .non))) [x, some (.lst (d :: l)), none, none] S = .ok (isNon d) S := by
      have q : okR ((bV (f2 isD (fIx (fVar 1) (fC (.int 0))) (fC .non))) [x, some (.lst (d :: l)), none, none] S) fun b S' => b = isNon d ∧ S' = S := by
        simp only [w_seq, w_sif, w_bV, w_bT, w_bAnd, w_or, w_not, w_f1, w_f2, w_chain, w_ix, w_isi, w_tup, w_lst, w_new, w_and, w_if, w_c, w_asg, w_par, w_sub, w_app, w_for, w_ret, w_snil, w_b, w_call, w_cons, w_nil, w_q, w_r1, w_r2, w_oN, w_oS, w_sl, w_comp, w_runF, w_var]
        simp only [List.getElem?_cons_zero, List.getElem?_cons_succ, List.set_cons_zero, List.set_cons_succ, List.length_cons, List.length_nil, Option.some.injEq, exists_eq_left', exists_eq_left, D.int.injEq, D.bl.injEq, D.ref.injEq, D.lst.injEq, D.tup.injEq, D.str.injEq, and_true, true_and, List.cons.injEq, gN, forall_eq, forall_const]
        exact ⟨_, ix_lst (at_zero d l), _, is_eq (hp d List.mem_cons_self), by first | exact rfl | exact ⟨_, rfl, rfl⟩ | exact ⟨_, rfl, rfl, rfl⟩⟩
      obtain ⟨b, S', e, rfl, rfl⟩ := q.get
      exact e
    unfold sWhile
    rw [e]
    show okS (if isNon d = true then _ else _) _ _
    rw [List.dropWhile_cons]
    cases hd : isNon d with
    | false => rw [if_neg Bool.false_ne_true]; exact ⟨rfl, rfl⟩
    | true =>
      rw [if_pos rfl]
      have e3 : PF.cutD (d :: l) (some 1) none = l := by
        unfold PF.cutD
        have e4 : HT.sIx (d :: l).length 0 (some 1) = 1 := by
          rw [show (1 : Int) = ((1 : Nat) : Int) from rfl, HT.sIx_nat]
          exact Nat.min_eq_left (by simp)
        rw [e4, HT.sIx_none]
        show l.take ((d :: l).length - 1) = l
        rw [List.length_cons, Nat.add_sub_cancel, List.take_length]
      show okS (sWhile _ _ fuel [x, some (.lst (PF.cutD (d :: l) (some 1) none)), none, none] S) _ _
      rw [e3]
      show okS (sWhile _ _ fuel [x, some (.lst l), none, none] S) _ _
      rw [List.length_cons] at h
      refine skip_non l fuel (by omega) ?_ fun y hy => hp y (List.mem_cons_of_mem _ hy)
      obtain ⟨y, h1, h2⟩ := hn
      rcases List.mem_cons.mp h1 with z | z
      · rw [z, hd] at h2; cases h2
      · exact ⟨y, z, h2⟩
theorem notint {d : D} (h : Pl d) (S : Sto) (σ : Stt) (hσ : σ[2]? = some (some d)) : (bOr (bNot (bT (fIsi [.int] (fVar 2)))) (bT (fIsi [.bool] (fVar 2)))) σ S = .ok (!isInt d) S := by
  have hv : ∀ S, fVar 2 σ S = .ok d S := fun S => by
    unfold fVar
    rw [hσ]
  simp only [bOr, bNot, bT, fIsi, Res.bind, hv]
  cases h <;> rfl
theorem empty_all {p : D → Bool} : ∀ l : List D, (l.filter p).isEmpty = l.all fun d => !p d
  | [] => rfl
  | d :: l => by
    rw [List.all_cons]
    cases h : p d with
    | true => rw [List.filter_cons_of_pos h]; rfl
    | false => rw [List.filter_cons_of_neg (by rw [h]; exact Bool.false_ne_true), empty_all l]; rfl
theorem own_values_eq {d : D} (h : Pl d) (S : Sto) : okR (F__law_pu_is_values [d] S) fun r S' => r = .bl (valuesB d) ∧ S' = S := by
  cases h with
  | @tup l hl hz =>
    unfold F__law_pu_is_values
    rw [w_runF]
    show okS (B__law_pu_is_values [some (.tup l), none, none, none] S) _ _
    unfold B__law_pu_is_values
    refine guard (l.isEmpty || (decide (41 < (l.length : Int)) || isNon (l.getLastD .non))) ?_ ?_ ?_
    · simp only [w_seq, w_sif, w_bV, w_bT, w_bAnd, w_or, w_not, w_f1, w_f2, w_chain, w_ix, w_isi, w_tup, w_lst, w_new, w_and, w_if, w_c, w_asg, w_par, w_sub, w_app, w_for, w_ret, w_snil, w_b, w_call, w_cons, w_nil, w_q, w_r1, w_r2, w_oN, w_oS, w_sl, w_comp, w_runF, w_var]
      simp only [List.getElem?_cons_zero, List.getElem?_cons_succ, List.set_cons_zero, List.set_cons_succ, List.length_cons, List.length_nil, Option.some.injEq, exists_eq_left', exists_eq_left, D.int.injEq, D.bl.injEq, D.ref.injEq, D.lst.injEq, D.tup.injEq, D.str.injEq, and_true, true_and, List.cons.injEq, gN, forall_eq, forall_const]
      refine ⟨_, rfl, _, rfl, ?_⟩
      refine ⟨fun z => (nomatch (show false = true from z)), fun _ => ⟨by decide, _, eqT0 l, _, rfl, ?_⟩⟩
      refine ⟨fun h1 => by rw [h1]; first | exact ⟨rfl, rfl⟩ | rfl, fun h1 => ⟨_, _, rfl, _, rfl, _, rfl, ?_⟩⟩
      have hne : l ≠ [] := fun z => by rw [z] at h1; cases h1
      refine ⟨fun h2 => by (have h2 : decide (41 < (l.length : Int)) = true := h2); rw [h2, h1]; first | exact ⟨rfl, rfl⟩ | rfl, fun h2 => ⟨_, rfl, _, ix_tup (last_at hne), _, is_eq ?_, _, rfl, ?_⟩⟩
      · rw [List.getLastD_eq_getLast?, List.getLast?_eq_some_getLast hne]
        exact hl _ (List.getLast_mem hne)
      · have h2 : decide (41 < (l.length : Int)) = false := h2
        rw [h1, h2]
        first | exact ⟨rfl, rfl⟩ | rfl
    · intro hc
      refine ⟨?_, rfl⟩
      rw [valuesB_tup]
      have k1 : l.isEmpty = !decide (1 ≤ l.length) := by cases l <;> simp
      have k2 : decide (41 < (l.length : Int)) = !decide (l.length ≤ 41) := by
        by_cases z : l.length ≤ 41
        · rw [decide_eq_true z, decide_eq_false (by omega)]; rfl
        · rw [decide_eq_false z, decide_eq_true (by omega)]; rfl
      rw [k1, k2] at hc
      revert hc
      cases decide (1 ≤ l.length) <;> cases decide (l.length ≤ 41) <;> cases isNon (l.getLastD .non) <;> intro hc <;> first | rfl | cases hc
    intro hc
    have hc3 : decide (1 ≤ l.length) = true ∧ decide (l.length ≤ 41) = true ∧ isNon (l.getLastD .non) = false := by
      have k1 : l.isEmpty = !decide (1 ≤ l.length) := by cases l <;> simp
      have k2 : decide (41 < (l.length : Int)) = !decide (l.length ≤ 41) := by
        by_cases z : l.length ≤ 41
        · rw [decide_eq_true z, decide_eq_false (by omega)]; rfl
        · rw [decide_eq_false z, decide_eq_true (by omega)]; rfl
      rw [k1, k2] at hc
      revert hc
      cases decide (1 ≤ l.length) <;> cases decide (l.length ≤ 41) <;> cases isNon (l.getLastD .non) <;> intro hc <;> first | exact ⟨rfl, rfl, rfl⟩ | cases hc
    obtain ⟨c1, c2, c3⟩ := hc3
    have hne : l ≠ [] := fun z => by rw [z] at c1; exact nomatch c1
    have hlast : ∃ d ∈ l, isNon d = false := ⟨l.getLastD .non, by rw [List.getLastD_eq_getLast?, List.getLast?_eq_some_getLast hne]; exact List.getLast_mem hne, c3⟩
    have hkn : ∀ d ∈ l.dropWhile isNon, Pl d := fun d hd => hl d ((List.dropWhile_sublist _).subset hd)
    have hknl : (l.dropWhile isNon).length ≤ 41 := Nat.le_trans (List.dropWhile_sublist _).length_le (of_decide_eq_true c2)
    refine seq_cut (fun σ S1 => σ = [some (.tup l), some (.lst l), none, none] ∧ S1 = S) ?_ ?_
    · intro J hJ
      simp only [w_seq, w_sif, w_bV, w_bT, w_bAnd, w_or, w_not, w_f1, w_f2, w_chain, w_ix, w_isi, w_tup, w_lst, w_new, w_and, w_if, w_c, w_asg, w_par, w_sub, w_app, w_for, w_ret, w_snil, w_b, w_call, w_cons, w_nil, w_q, w_r1, w_r2, w_oN, w_oS, w_sl, w_comp, w_runF, w_var]
      simp only [List.getElem?_cons_zero, List.getElem?_cons_succ, List.set_cons_zero, List.set_cons_succ, List.length_cons, List.length_nil, Option.some.injEq, exists_eq_left', exists_eq_left, D.int.injEq, D.bl.injEq, D.ref.injEq, D.lst.injEq, D.tup.injEq, D.str.injEq, and_true, true_and, List.cons.injEq, gN, forall_eq, forall_const]
      exact ⟨_, _, rfl, hJ _ _ ⟨rfl, rfl⟩⟩
    rintro σ1 S1 ⟨rfl, rfl⟩
    refine seq_cut (fun σ S' => σ = [some (.tup l), some (.lst (l.dropWhile isNon)), none, none] ∧ S' = S1) ?_ ?_
    · intro J hJ
      unfold sWh
      exact (skip_non l (l.length + 1) (Nat.lt_succ_self _) hlast hl).mono (fun σ S' z => hJ σ S' z) fun _ _ z => z
    rintro σ2 S2 ⟨rfl, rfl⟩
    refine guard (!((l.dropWhile isNon).filter fun d => !isInt d).isEmpty) ?_ ?_ ?_
    · simp only [w_bV, w_f2, w_comp, w_q, w_var, w_lst, w_nil]
      simp only [List.getElem?_cons_zero, List.getElem?_cons_succ, List.set_cons_zero, List.set_cons_succ, List.length_cons, List.length_nil, Option.some.injEq, exists_eq_left', exists_eq_left, D.int.injEq, D.bl.injEq, D.ref.injEq, D.lst.injEq, D.tup.injEq, D.str.injEq, and_true, true_and, List.cons.injEq, gN, forall_eq, forall_const]
      refine ⟨_, .inl rfl, _, _, comp_pure (p := fun d => !isInt d) (h := id) fun d hd => ⟨_, rfl, notint (hkn d hd) _ _ rfl, fun _ => rfl⟩, ?_, by decide, _, neL0 _, ?_⟩
      · rw [List.length_map]
        exact Nat.le_trans (Nat.le_trans (List.length_filter_le _ _) hknl) (by decide)
      · rw [List.map_id]
        first | exact rfl | exact ⟨_, rfl, rfl⟩ | exact ⟨_, rfl, rfl, rfl⟩
    · intro hc2
      refine ⟨?_, rfl⟩
      rw [valuesB_tup, c1, c2, c3]
      have : (l.dropWhile isNon).all isInt = false := by
        rw [Bool.eq_false_iff]
        intro z
        have e9 : (l.dropWhile isNon).filter (fun d => !isInt d) = [] := by
          rw [List.filter_eq_nil_iff]
          intro d hd
          rw [List.all_eq_true.mp z d hd]
          decide
        rw [e9] at hc2
        cases hc2
      rw [this]
      rfl
    intro hc2
    have hint : (l.dropWhile isNon).all isInt = true := by
      rw [List.all_eq_true]
      intro d hd
      cases e9 : isInt d with
      | true => rfl
      | false =>
        have m9 : d ∈ (l.dropWhile isNon).filter (fun d => !isInt d) := List.mem_filter.mpr ⟨hd, by rw [e9]; rfl⟩
        cases e8 : (l.dropWhile isNon).filter (fun d => !isInt d) with
        | nil => rw [e8] at m9; cases m9
        | cons a b => rw [e8] at hc2; cases hc2
    have e0 := ints_of hint
    have hxl : ((l.dropWhile isNon).map unI).length = (l.dropWhile isNon).length := List.length_map _
    have hpos : 0 < (l.dropWhile isNon).length := by
      refine Nat.pos_of_ne_zero fun z => ?_
      obtain ⟨x, h1, h2⟩ := hlast
      have z2 := dw_nil (List.length_eq_zero_iff.mp z) x h1
      rw [h2] at z2
      cases z2
    simp only [w_ret, w_f2, w_comp, w_r2, w_cons, w_nil, w_c, w_b, w_var, w_lst]
    simp only [List.getElem?_cons_zero, List.getElem?_cons_succ, List.set_cons_zero, List.set_cons_succ, List.length_cons, List.length_nil, Option.some.injEq, exists_eq_left', exists_eq_left, D.int.injEq, D.bl.injEq, D.ref.injEq, D.lst.injEq, D.tup.injEq, D.str.injEq, and_true, true_and, List.cons.injEq, gN, forall_eq, forall_const]
    refine ⟨_, _, rfl, _, _, ⟨rfl, rfl⟩, by omega, _, _, comp_pure (p := fun d => decide (((l.dropWhile isNon).map unI).getD (unI d).toNat 0 < ((l.dropWhile isNon).map unI).getD ((unI d).toNat - 1) 0)) (h := id) fun d hd => ?_, ?_, by decide, _, eqL0 _, ?_, rfl⟩
    · obtain ⟨i, hi, rfl⟩ := List.mem_map.mp hd
      have hi := List.mem_range.mp hi
      refine ⟨_, rfl, ?_, fun _ => rfl⟩
      have e7 : (1 : Int) + (i : Int) = ((i + 1 : Nat) : Int) := by omega
      have k1 : L2.atI (l.dropWhile isNon) (1 + (i : Int)) = some (.int (((l.dropWhile isNon).map unI).getD (i + 1) 0)) := by
        rw [e7]
        have := at_int (xs := (l.dropWhile isNon).map unI) (i := i + 1) (by rw [hxl]; omega)
        rw [← e0] at this
        exact this
      have k2 : L2.atI (l.dropWhile isNon) (1 + (i : Int) - 1) = some (.int (((l.dropWhile isNon).map unI).getD i 0)) := by
        rw [show (1 : Int) + (i : Int) - 1 = (i : Int) by omega]
        have := at_int (xs := (l.dropWhile isNon).map unI) (i := i) (by rw [hxl]; omega)
        rw [← e0] at this
        exact this
      have q : okR ((bV (f2 ltD (fIx (fVar 1) (fVar 3)) (fIx (fVar 1) (f2 subD (fVar 3) (fC (.int 1)))))) [some (.tup l), some (.lst (l.dropWhile isNon)), none, some (.int (1 + (i : Int)))] S2) fun b S' => b = (decide (((l.dropWhile isNon).map unI).getD (i + 1) 0 < ((l.dropWhile isNon).map unI).getD i 0)) ∧ S' = S2 := by
        simp only [w_seq, w_sif, w_bV, w_bT, w_bAnd, w_or, w_not, w_f1, w_f2, w_chain, w_ix, w_isi, w_tup, w_lst, w_new, w_and, w_if, w_c, w_asg, w_par, w_sub, w_app, w_for, w_ret, w_snil, w_b, w_call, w_cons, w_nil, w_q, w_r1, w_r2, w_oN, w_oS, w_sl, w_comp, w_runF, w_var]
        simp only [List.getElem?_cons_zero, List.getElem?_cons_succ, List.set_cons_zero, List.set_cons_succ, List.length_cons, List.length_nil, Option.some.injEq, exists_eq_left', exists_eq_left, D.int.injEq, D.bl.injEq, D.ref.injEq, D.lst.injEq, D.tup.injEq, D.str.injEq, and_true, true_and, List.cons.injEq, gN, forall_eq, forall_const]
        exact ⟨_, ix_lst k1, _, rfl, _, ix_lst k2, by first | exact rfl | exact ⟨_, rfl, rfl⟩ | exact ⟨_, rfl, rfl, rfl⟩ | exact ⟨_, rfl, _, rfl, rfl⟩⟩
      obtain ⟨d9, S9, e9, rfl, rfl⟩ := q.get
      refine e9.trans ?_
      have e8 : (unI (.int (1 + (i : Int)))).toNat = i + 1 := by show (1 + (i : Int)).toNat = i + 1; omega
      rw [e8]
      rfl
    · unfold rngD
      rw [List.length_map]
      refine Nat.le_trans (List.length_filter_le _ _) ?_
      rw [List.length_map, List.length_range]
      show _ ≤ 16777216
      omega
    · refine congrArg D.bl ?_
      rw [List.map_id, empty_all, valuesB_tup, c1, c2, c3, hint]
      show _ = ascB _
      unfold ascB rngD
      rw [List.all_map, hxl]
      have e7 : ((l.dropWhile isNon).length - 1 : Int).toNat = (l.dropWhile isNon).length - 1 := by omega
      rw [e7]
      refine congrArg (List.all _) (funext fun i => ?_)
      have e8 : (unI (.int (1 + (i : Int)))).toNat = i + 1 := by show (1 + (i : Int)).toNat = i + 1; omega
      show (!decide (((l.dropWhile isNon).map unI).getD (unI (.int (1 + (i : Int)))).toNat 0 < ((l.dropWhile isNon).map unI).getD ((unI (.int (1 + (i : Int)))).toNat - 1) 0)) = _
      rw [e8, Nat.add_sub_cancel]
      by_cases z : ((l.dropWhile isNon).map unI).getD (i + 1) 0 < ((l.dropWhile isNon).map unI).getD i 0
      · rw [decide_eq_true z, decide_eq_false (by omega)]; rfl
      · rw [decide_eq_false z, decide_eq_true (by omega)]; rfl
  | _ => exact (show D.bl false = D.bl false ∧ S = S from ⟨rfl, rfl⟩)
end K01
/-! what kinds are -/
namespace K01
open PySem PySem.Spec PyProof.Rows L2 PF
def countB : D → Bool
  | .int m => decide (0 ≤ m) && decide (m ≤ M30)
  | _ => false
def kindB : D → Bool
  | .tup [v, m] => valuesB v && countB m
  | _ => false
theorem countB_int (i : Int) : countB (.int i) = (decide (0 ≤ i) && decide (i ≤ M30)) := rfl
def cnt0 : D → Bool
  | .int m => decide (0 ≤ m)
  | _ => false
theorem many_eq {d : D} (h : Pl d) (S : Sto) : okR (F_is_many [d] S) fun r S' => r = .bl (countB d) ∧ S' = S := by
  unfold F_is_many
  rw [w_runF]
  show okS (B_is_many [some d] S) _ _
  unfold B_is_many
  simp only [w_ret, w_call, w_cons, w_nil, w_c, w_var]
  simp only [List.getElem?_cons_zero, List.getElem?_cons_succ, List.set_cons_zero, List.set_cons_succ, List.length_cons, List.length_nil, Option.some.injEq, exists_eq_left', exists_eq_left, D.int.injEq, D.bl.injEq, D.ref.injEq, D.lst.injEq, D.tup.injEq, D.str.injEq, and_true, true_and, List.cons.injEq, gN, forall_eq, forall_const]
  unfold F_is_between
  rw [w_runF]
  show okS (B_is_between [some d, some (.int 0), some (.int M30)] S) _ _
  unfold B_is_between
  simp only [w_seq, w_sif, w_bV, w_bT, w_bAnd, w_or, w_not, w_f1, w_f2, w_chain, w_ix, w_isi, w_tup, w_lst, w_new, w_and, w_if, w_c, w_asg, w_par, w_sub, w_app, w_for, w_ret, w_snil, w_b, w_call, w_cons, w_nil, w_q, w_r1, w_r2, w_oN, w_oS, w_sl, w_comp, w_runF, w_var]
  simp only [List.getElem?_cons_zero, List.getElem?_cons_succ, List.set_cons_zero, List.set_cons_succ, List.length_cons, List.length_nil, Option.some.injEq, exists_eq_left', exists_eq_left, D.int.injEq, D.bl.injEq, D.ref.injEq, D.lst.injEq, D.tup.injEq, D.str.injEq, and_true, true_and, List.cons.injEq, gN, forall_eq, forall_const]
  rw [integer_eq h S]
  cases h with
  | int i =>
    refine ⟨_, rfl, fun _ => ⟨_, rfl, fun h1 => ⟨_, rfl, ?_⟩, fun h1 => ?_⟩, fun z => nomatch z⟩
    · have h1 : decide (0 ≤ i) = true := h1
      rw [countB_int, h1]
      first | exact ⟨rfl, rfl⟩ | rfl
    · have h1 : decide (0 ≤ i) = false := h1
      rw [countB_int, h1]
      first | exact ⟨rfl, rfl⟩ | rfl
  | _ => exact ⟨_, rfl, fun z => (nomatch (show false = true from z)), fun _ => by first | exact ⟨rfl, rfl⟩ | rfl⟩
theorem eqN2 (n : Nat) : eqD (.int (n : Int)) (.int 2) = some (.bl (decide (n = 2))) := by
  rw [eqI]
  by_cases h : n = 2
  · rw [decide_eq_true h, decide_eq_true (by omega)]
  · rw [decide_eq_false h, decide_eq_false (by omega)]
theorem neN2 (n : Nat) : neD (.int (n : Int)) (.int 2) = some (.bl !decide (n = 2)) := by
  have e : neD (.int (n : Int)) (.int 2) = some (.bl !decide ((n : Int) = 2)) := rfl
  rw [e]
  by_cases h : n = 2
  · rw [decide_eq_true h, decide_eq_true (by omega)]
  · rw [decide_eq_false h, decide_eq_false (by omega)]
theorem kindB_len {l : List D} (h : ¬ l.length = 2) : kindB (.tup l) = false := by
  match l, h with
  | [], _ => rfl
  | [_], _ => rfl
  | [_, _], h => exact absurd rfl h
  | _ :: _ :: _ :: _, _ => rfl
theorem kind_eq {d : D} (h : Pl d) (S : Sto) : okR (F_is_kind [d] S) fun r S' => r = .bl (kindB d) ∧ S' = S := by
  cases h with
  | @tup l hl hz =>
    unfold F_is_kind
    rw [w_runF]
    show okS (B_is_kind [some (.tup l)] S) _ _
    unfold B_is_kind
    simp only [w_seq, w_sif, w_bV, w_bT, w_bAnd, w_or, w_not, w_f1, w_f2, w_chain, w_ix, w_isi, w_tup, w_lst, w_new, w_and, w_if, w_c, w_asg, w_par, w_sub, w_app, w_for, w_ret, w_snil, w_b, w_call, w_cons, w_nil, w_q, w_r1, w_r2, w_oN, w_oS, w_sl, w_comp, w_runF, w_var]
    simp only [List.getElem?_cons_zero, List.getElem?_cons_succ, List.set_cons_zero, List.set_cons_succ, List.length_cons, List.length_nil, Option.some.injEq, exists_eq_left', exists_eq_left, D.int.injEq, D.bl.injEq, D.ref.injEq, D.lst.injEq, D.tup.injEq, D.str.injEq, and_true, true_and, List.cons.injEq, gN, forall_eq, forall_const]
    refine ⟨_, rfl, fun _ => ⟨_, _, rfl, _, eqN2 _, _, rfl, fun h2 => ?_, fun h2 => ?_⟩, fun z => nomatch z⟩
    · match l, hl, hz, of_decide_eq_true h2 with
      | [v, m], hl, hz, _ =>
        refine ⟨_, ix_tup (at_zero v [m]), (values_eq (hl v (by simp)) S).mono fun r S' ⟨e1, e2⟩ => ?_⟩
        subst e1 e2
        refine ⟨_, rfl, fun h3 => ⟨_, ix_tup (show L2.atI [v, m] 1 = some m from rfl), (many_eq (hl m (by simp)) S').mono fun r S' ⟨e1, e2⟩ => ?_⟩, fun h3 => ?_⟩
        · subst e1 e2
          refine ⟨?_, rfl⟩
          show D.bl _ = D.bl (valuesB v && countB m)
          rw [h3]; rfl
        · show false = (valuesB v && countB m) ∧ S' = S'
          rw [h3]; exact ⟨rfl, rfl⟩
    · rw [kindB_len (of_decide_eq_false h2)]
      first | exact ⟨rfl, rfl⟩ | rfl
  | _ => exact (show D.bl false = D.bl false ∧ S = S from ⟨rfl, rfl⟩)
end K01
/-! bent values and kinds -/
namespace K01
open PySem PySem.Spec PyProof.Rows L2 PF
/-- a plain value of at most n levels -/
inductive PN : Nat → D → Prop
  | non (n : Nat) : PN n .non
  | bl (n : Nat) (b : Bool) : PN n (.bl b)
  | int (n : Nat) (i : Int) : PN n (.int i)
  | str (n : Nat) (x : Str) : PyData.strOk x = true → PN n (.str x)
  | tup {n : Nat} {l : List D} : (∀ d ∈ l, PN n d) → l.length ≤ 1000 → PN (n + 1) (.tup l)
  | lst {n : Nat} {l : List D} : (∀ d ∈ l, PN n d) → l.length ≤ 1000 → PN (n + 1) (.lst l)
  | dct0 (n : Nat) : PN n (.dct [])
  | dct1 {n : Nat} {d : D} : PN n d → PN (n + 1) (.dct [(Sum.inl 0, d)])
theorem PN.pl {n : Nat} {d : D} (h : PN n d) : Pl d := by
  induction h with
  | non => exact .non
  | bl _ b => exact .bl b
  | int _ i => exact .int i
  | str _ x h => exact .str x
  | tup _ h2 ih => exact .tup ih h2
  | lst _ h2 ih => exact .lst ih h2
  | dct0 => exact .dct0
  | dct1 _ ih => exact .dct1 ih (by decide)
theorem PN.up {n : Nat} {d : D} (h : PN n d) : PN (n + 1) d := by
  induction h with
  | non => exact .non _
  | bl _ b => exact .bl _ b
  | int _ i => exact .int _ i
  | str _ x h => exact .str _ x h
  | tup _ h2 ih => exact .tup ih h2
  | lst _ h2 ih => exact .lst ih h2
  | dct0 => exact .dct0 _
  | dct1 _ ih => exact .dct1 ih
theorem row_pn {l : List D} (h : Row l) : ∀ d ∈ l, PN 0 d := by
  obtain ⟨n, xs, rfl, _, _⟩ := h
  intro d hd
  rcases List.mem_append.mp hd with z | z
  · rw [List.eq_of_mem_replicate z]; exact .non 0
  · obtain ⟨i, _, rfl⟩ := List.mem_map.mp z
    exact .int 0 i
theorem row_ne {l : List D} (h : Row l) : l ≠ [] := by
  obtain ⟨n, xs, rfl, h2, _⟩ := h
  intro z
  have z2 := (List.append_eq_nil_iff.mp z).2
  exact h2 (List.map_eq_nil_iff.mp z2)
theorem flat_rep (n : Nat) (x : D) : (List.replicate n [x]).flatten = List.replicate n x := by
  induction n with
  | zero => rfl
  | succ n ih => rw [List.replicate_succ, List.flatten_cons, ih, List.replicate_succ]; rfl
theorem addT {a b : List D} (h : a.length + b.length ≤ 1000) : addD (.tup a) (.tup b) = some (.tup (a ++ b)) := if_pos (Nat.le_trans h (by decide))
theorem cut_mem {l : List D} {a b : Option Int} {d : D} (h : d ∈ PF.cutD l a b) : d ∈ l := by
  unfold PF.cutD at h
  exact List.mem_of_mem_drop (List.mem_of_mem_take h)
theorem cut_len (l : List D) (a b : Option Int) : (PF.cutD l a b).length ≤ l.length := by
  unfold PF.cutD
  rw [List.length_take, List.length_drop]
  omega
theorem eq_guard {rest : SF} {f : EF} {i : Nat} {σ : Stt} {S : Sto} {N : Stt → Sto → Prop} {R : D → Sto → Prop} {a b : Int} (hσ : σ[i]? = some (some (.int a))) (h1 : okR (f σ S) R) (h2 : okS (rest σ S) N R) : okS (sSeq (sIf (bV (f2 eqD (fVar i) (fC (.int b)))) (sRet f) sNil) rest σ S) N R := by
  refine guard (decide (a = b)) ?_ (fun _ => h1) (fun _ => h2)
  simp only [w_bV, w_f2, w_var, w_c]
  exact ⟨_, hσ, _, eqI _ _, _, rfl, rfl, True.intro⟩
theorem w_d0 {σ : Stt} {S : Sto} {Q : D → Sto → Prop} : okR (fD0 σ S) Q ↔ Q (.dct []) S := Iff.rfl
theorem w_d1 {f g : EF} {σ : Stt} {S : Sto} {Q : D → Sto → Prop} : okR (fD1 f g σ S) Q ↔ okR (f σ S) fun x S1 => okR (g σ S1) fun y S2 => ∃ k, keyD x = some k ∧ Q (.dct [(k, y)]) S2 := by
  unfold fD1
  simp only [w_bind]
  refine iff_of_eq (congrArg _ (funext fun x => funext fun S1 => congrArg _ (funext fun y => funext fun S2 => propext ?_)))
  cases e : keyD x with
  | none => exact ⟨fun z => z.elim, fun ⟨_, e, _⟩ => nomatch e⟩
  | some d => exact ⟨fun z => ⟨d, rfl, z⟩, fun ⟨_, e, z⟩ => by cases e; exact z⟩
end K01
/-! bent kinds; what is the same -/
namespace K01
open PySem PySem.Spec PyProof.Rows L2 PF
end K01
/-! the same as itself -/
namespace K01
open PySem PySem.Spec PyProof.Rows L2 PF
section
variable {t : BF} {a rest : SF} {f : EF} {σ : Stt} {S : Sto} {N : Stt → Sto → Prop} {R : D → Sto → Prop}
theorem skipf (e : t σ S = .ok false S) (h : okS (rest σ S) N R) : okS (sSeq (sIf t a sNil) rest σ S) N R := by
  unfold sSeq sIf
  rw [e]; exact h
theorem takef (e : t σ S = .ok true S) (h : okR (f σ S) R) : okS (sSeq (sIf t (sRet f) sNil) rest σ S) N R := by
  unfold sSeq sIf
  rw [e]
  show okS ((sRet f σ S).bind rest) N R
  have h2 : okS (sRet f σ S) (fun _ _ => False) R := w_ret.mpr h
  cases e2 : sRet f σ S with
  | rt d S1 => rw [e2] at h2; exact h2
  | _ => rw [e2] at h2; exact h2.elim
end
theorem eqStr {x : Str} (h : PyData.strOk x = true) : eqD (.str x) (.str x) = some (.bl true) := by
  have hs : PyData.canLay0 (.str x) = true := h
  have e : eqD (.str x) (.str x) = (if (SeqAt.shaped (.str x) && SeqAt.shaped (.str x)) = true then some (PyData.eqv (.str x) (.str x)) else none).map D.bl := rfl
  have e2 : SeqAt.shaped (.str x) = true := by
    unfold SeqAt.shaped
    rw [hs]; rfl
  have e3 : PyData.eqv (.str x) (.str x) = true := by simp [PyData.eqv]
  rw [e, e2, Bool.and_self, if_pos rfl, e3]
  rfl
theorem neI (a : Int) : neD (.int a) (.int a) = some (.bl false) := by
  have e : neD (.int a) (.int a) = some (.bl !decide (a = a)) := rfl
  rw [e, decide_eq_true rfl]; rfl
section
variable {n : Nat} {l : List D} {S : Sto}
/-- the loop over the places -/
theorem same_loop {x : D} (hlen : lenD [x] S = some (.int l.length, S)) (hix : ∀ i : Nat, i < l.length → ∃ d, ixD S x (.int (0 + (i : Int))) = some d ∧ d ∈ l) (hz : l.length ≤ 1000) (ih : ∀ d ∈ l, ∀ S, okR (R__law_same n [d, d] S) fun r S' => r = .bl true ∧ S' = S) {N : Stt → Sto → Prop} {R : D → Sto → Prop} (h : ∀ y, N [some x, some x, none, y] S) :
    okS (sFor (iR1 (aCons (fB lenD (aCons (fVar 1) (aNil))) (aNil))) (gN 3) (sIf (bNot (bT (fCall 2 (R__law_same n) (aCons (fIx (fVar 0) (fVar 3)) (aCons (fIx (fVar 1) (fVar 3)) (aNil)))))) (sRet (fC (.bl false))) (sNil)) [some x, some x, none, none] S) N R := by
  simp only [w_for, w_r1, w_cons, w_nil, w_b, w_var]
  simp only [List.getElem?_cons_zero, List.getElem?_cons_succ, List.set_cons_zero, List.set_cons_succ, List.length_cons, List.length_nil, Option.some.injEq, exists_eq_left', exists_eq_left, D.int.injEq, D.bl.injEq, D.ref.injEq, D.lst.injEq, D.tup.injEq, D.str.injEq, and_true, true_and, List.cons.injEq, gN, forall_eq, forall_const]
  refine ⟨_, _, hlen, _, rfl, by omega, by omega, ?_⟩
  refine for_cut (fun ds σ S' => (∀ d ∈ ds, ∃ i : Nat, i < l.length ∧ d = .int (0 + (i : Int))) ∧ (∃ y, σ = [some x, some x, none, y]) ∧ S' = S) ⟨fun d hd => ?_, ⟨none, rfl⟩, rfl⟩ ?_ ?_
  · obtain ⟨i, hi, rfl⟩ := List.mem_map.mp hd
    have hi := List.mem_range.mp hi
    exact ⟨i, by omega, rfl⟩
  · rintro d ds σ S' ⟨hd, ⟨y, rfl⟩, rfl⟩ J hJ
    refine ⟨_, rfl, ?_⟩
    obtain ⟨i, hi, rfl⟩ := hd d List.mem_cons_self
    obtain ⟨e, e1, e2⟩ := hix i hi
    simp only [w_sif, w_not, w_bT, w_call, w_cons, w_nil, w_ix, w_var, w_ret, w_c, w_snil]
    simp only [List.getElem?_cons_zero, List.getElem?_cons_succ, List.set_cons_zero, List.set_cons_succ, List.length_cons, List.length_nil, Option.some.injEq, exists_eq_left', exists_eq_left, D.int.injEq, D.bl.injEq, D.ref.injEq, D.lst.injEq, D.tup.injEq, D.str.injEq, and_true, true_and, List.cons.injEq, gN, forall_eq, forall_const]
    refine ⟨_, e1, _, e1, (ih e e2 S').mono fun r S2 ⟨q1, q2⟩ => ?_⟩
    subst q1 q2
    exact ⟨_, rfl, fun z => (nomatch (show false = true from z)), fun _ => hJ _ _ ⟨fun d hd2 => hd d (List.mem_cons_of_mem _ hd2), ⟨_, rfl⟩, rfl⟩⟩
  · rintro σ S' ⟨_, ⟨y, rfl⟩, rfl⟩
    exact h y
theorem same_seq {x : D} (hlen : lenD [x] S = some (.int l.length, S)) (hix : ∀ i : Nat, i < l.length → ∃ d, ixD S x (.int (0 + (i : Int))) = some d ∧ d ∈ l) (hz : l.length ≤ 1000) (ih : ∀ d ∈ l, ∀ S, okR (R__law_same n [d, d] S) fun r S' => r = .bl true ∧ S' = S)
    {N : Stt → Sto → Prop} {R : D → Sto → Prop} (h : R (.bl true) S) : okS (sSeq (sIf (bV (f2 neD (fB lenD (aCons (fVar 0) (aNil))) (fB lenD (aCons (fVar 1) (aNil))))) (sRet (fC (.bl false))) (sNil)) (sSeq (sFor (iR1 (aCons (fB lenD (aCons (fVar 1) (aNil))) (aNil))) (gN 3) (sIf (bNot (bT (fCall 2 (R__law_same n) (aCons (fIx (fVar 0) (fVar 3)) (aCons (fIx (fVar 1) (fVar 3)) (aNil)))))) (sRet (fC (.bl false))) (sNil))) (sRet (fC (.bl true)))) [some x, some x, none, none] S) N R := by
  refine guard false ?_ (fun z => (nomatch z)) fun _ => ?_
  · simp only [w_bV, w_f2, w_b, w_cons, w_nil, w_var]
    simp only [List.getElem?_cons_zero, List.getElem?_cons_succ, List.set_cons_zero, List.set_cons_succ, List.length_cons, List.length_nil, Option.some.injEq, exists_eq_left', exists_eq_left, D.int.injEq, D.bl.injEq, D.ref.injEq, D.lst.injEq, D.tup.injEq, D.str.injEq, and_true, true_and, List.cons.injEq, gN, forall_eq, forall_const]
    exact ⟨_, _, hlen, _, _, hlen, _, neI _, _, rfl, by first | rfl | exact ⟨rfl, rfl⟩⟩
  · rw [w_seq]
    refine same_loop hlen hix hz ih ?_
    intro y
    exact h
end
theorem ix_mem {l : List D} (i : Nat) (hi : i < l.length) : ∃ d, L2.atI l (0 + (i : Int)) = some d ∧ d ∈ l := atI_of (by omega) (by omega)
theorem same_tup {n : Nat} {l : List D} {S : Sto} (hz : l.length ≤ 1000) (ih : ∀ d ∈ l, ∀ S, okR (R__law_same n [d, d] S) fun r S' => r = .bl true ∧ S' = S) : okR (R__law_same (n + 1) [.tup l, .tup l] S) fun r S' => r = .bl true ∧ S' = S := by
  show okR (runF 4 (B__law_same (R__law_same n)) [.tup l, .tup l] S) _
  rw [w_runF]
  show okS (B__law_same (R__law_same n) [some (.tup l), some (.tup l), none, none] S) _ _
  unfold B__law_same
  refine skipf (by rfl) ?_
  refine skipf (by rfl) ?_
  refine skipf (by rfl) ?_
  refine skipf (by rfl) ?_
  refine skipf (by rfl) ?_
  refine skipf (by rfl) ?_
  refine skipf (by rfl) ?_
  have hlen : lenD [D.tup l] S = some (.int l.length, S) := rfl
  have hix : ∀ i : Nat, i < l.length → ∃ d, ixD S (D.tup l) (.int (0 + (i : Int))) = some d ∧ d ∈ l := fun i hi => ix_mem i hi
  exact same_seq hlen hix hz ih ⟨rfl, rfl⟩
theorem same_lst {n : Nat} {l : List D} {S : Sto} (hz : l.length ≤ 1000) (ih : ∀ d ∈ l, ∀ S, okR (R__law_same n [d, d] S) fun r S' => r = .bl true ∧ S' = S) : okR (R__law_same (n + 1) [.lst l, .lst l] S) fun r S' => r = .bl true ∧ S' = S := by
  show okR (runF 4 (B__law_same (R__law_same n)) [.lst l, .lst l] S) _
  rw [w_runF]
  show okS (B__law_same (R__law_same n) [some (.lst l), some (.lst l), none, none] S) _ _
  unfold B__law_same
  refine skipf (by rfl) ?_
  refine skipf (by rfl) ?_
  refine skipf (by rfl) ?_
  refine skipf (by rfl) ?_
  refine skipf (by rfl) ?_
  refine skipf (by rfl) ?_
  refine skipf (by rfl) ?_
  have hlen : lenD [D.lst l] S = some (.int l.length, S) := rfl
  have hix : ∀ i : Nat, i < l.length → ∃ d, ixD S (D.lst l) (.int (0 + (i : Int))) = some d ∧ d ∈ l := fun i hi => ix_mem i hi
  exact same_seq hlen hix hz ih ⟨rfl, rfl⟩
theorem same_atom {n m : Nat} {d : D} (h : PN m d) (hd : ∀ l, d ≠ .tup l ∧ d ≠ .lst l) (hk : ∀ x, d ≠ .dct x) (S : Sto) : okR (R__law_same (n + 1) [d, d] S) fun r S' => r = .bl true ∧ S' = S := by
  show okR (runF 4 (B__law_same (R__law_same n)) [d, d] S) _
  rw [w_runF]
  show okS (B__law_same (R__law_same n) [some d, some d, none, none] S) _ _
  unfold B__law_same
  cases h with
  | non => exact takef rfl ⟨rfl, rfl⟩
  | bl _ b => cases b <;> exact skipf rfl (takef rfl ⟨rfl, rfl⟩)
  | int _ i =>
    refine skipf rfl (skipf rfl (takef rfl ?_))
    have e : (fAnd (fCall 1 F__law_is_whole (aCons (fVar 0) (aNil))) (f2 eqD (fVar 0) (fVar 1))) [some (.int i), some (.int i), none, none] S = .ok (.bl (decide (i = i))) S := rfl
    rw [e]
    exact ⟨congrArg D.bl (decide_eq_true rfl), rfl⟩
  | str _ x hx =>
    refine skipf rfl (skipf rfl (skipf rfl (takef rfl ?_)))
    have e : (fAnd (fIsi [.str] (fVar 0)) (f2 eqD (fVar 0) (fVar 1))) [some (.str x), some (.str x), none, none] S = (match eqD (.str x) (.str x) with | some d => Res.ok d S | none => .bad) := rfl
    rw [e, eqStr hx]
    exact ⟨rfl, rfl⟩
  | tup => exact absurd rfl (hd _).1
  | lst => exact absurd rfl (hd _).2
  | dct0 => exact absurd rfl (hk _)
  | dct1 => exact absurd rfl (hk _)
theorem takeS {t : BF} {a rest : SF} {σ : Stt} {S : Sto} {N : Stt → Sto → Prop} {R : D → Sto → Prop} (e : t σ S = .ok true S) (h : okS (a σ S) (fun _ _ => False) R) : okS (sSeq (sIf t a sNil) rest σ S) N R := by
  unfold sSeq sIf
  rw [e]
  show okS ((a σ S).bind rest) N R
  cases e2 : a σ S with
  | rt d S1 => rw [e2] at h; exact h
  | _ => rw [e2] at h; exact h.elim
theorem same_dct {n : Nat} {d : D} {S : Sto} (e : R__law_same n [d, d] S = .ok (.bl true) S) : okR (R__law_same (n + 1) [.dct [(Sum.inl 0, d)], .dct [(Sum.inl 0, d)]] S) fun r S' => r = .bl true ∧ S' = S := by
  show okR (runF 4 (B__law_same (R__law_same n)) [.dct [(Sum.inl 0, d)], .dct [(Sum.inl 0, d)]] S) _
  rw [w_runF]
  show okS (B__law_same (R__law_same n) [some (.dct [(Sum.inl 0, d)]), some (.dct [(Sum.inl 0, d)]), none, none] S) _ _
  unfold B__law_same
  refine skipf (by rfl) ?_
  refine skipf (by rfl) ?_
  refine skipf (by rfl) ?_
  refine skipf (by rfl) ?_
  refine takeS (by rfl) ?_
  refine skipf (by kernel_rfl) ?_
  rw [w_ret, w_f2, w_comp]
  have et : (bNot (bT (fCall 2 (R__law_same n) (aCons (f2 dgD (fVar 0) (fVar 2)) (aCons (f2 dgD (fVar 1) (fVar 2)) (aNil)))))) [some (.dct [(Sum.inl 0, d)]), some (.dct [(Sum.inl 0, d)]), some (.int 0), none] S = .ok false S := by
    have q : fCall 2 (R__law_same n) (aCons (f2 dgD (fVar 0) (fVar 2)) (aCons (f2 dgD (fVar 1) (fVar 2)) (aNil))) [some (.dct [(Sum.inl 0, d)]), some (.dct [(Sum.inl 0, d)]), some (.int 0), none] S = R__law_same n [d, d] S := by rfl
    unfold bNot bT
    rw [q, e]
    rfl
  have hc : compF (gN 2) (bNot (bT (fCall 2 (R__law_same n) (aCons (f2 dgD (fVar 0) (fVar 2)) (aCons (f2 dgD (fVar 1) (fVar 2)) (aNil)))))) (fVar 2) [.int 0] (wipeD [some (.dct [(Sum.inl 0, d)]), some (.dct [(Sum.inl 0, d)]), none, none] [2]) S = .ok (([D.int 0].filter fun _ => false).map id) S := comp_pure fun x hx => by
    rw [List.mem_singleton] at hx
    subst hx
    exact ⟨_, rfl, et, fun z => (nomatch z)⟩
  show okR (Res.ok [D.int 0] S) _
  refine ⟨[], S, hc, by decide, ?_⟩
  show ∃ d, eqD (.lst []) (.lst []) = some d ∧ d = .bl true ∧ S = S
  exact ⟨_, rfl, rfl, rfl⟩
theorem same_ok : ∀ (n : Nat) (d : D), PN n d → ∀ S, okR (R__law_same (n + 1) [d, d] S) fun r S' => r = .bl true ∧ S' = S := by
  have d0 : ∀ (n : Nat) (S : Sto), okR (R__law_same (n + 1) [.dct [], .dct []] S) fun r S' => r = .bl true ∧ S' = S := fun n S => ⟨rfl, rfl⟩
  have atom : ∀ (n m : Nat) (d : D), PN m d → (∀ l, d ≠ .tup l ∧ d ≠ .lst l) → (∀ x, d ≠ .dct x) → ∀ S, okR (R__law_same (n + 1) [d, d] S) fun r S' => r = .bl true ∧ S' = S := fun n m d h h1 h2 S => same_atom h h1 h2 S
  intro n
  induction n with
  | zero =>
    intro d h S
    cases h with
    | dct0 => exact d0 _ S
    | non => exact atom 0 0 _ (.non 0) (fun l => ⟨fun z => (nomatch z), fun z => (nomatch z)⟩) (fun x z => (nomatch z)) S
    | bl _ b => exact atom 0 0 _ (.bl 0 b) (fun l => ⟨fun z => (nomatch z), fun z => (nomatch z)⟩) (fun x z => (nomatch z)) S
    | int _ i => exact atom 0 0 _ (.int 0 i) (fun l => ⟨fun z => (nomatch z), fun z => (nomatch z)⟩) (fun x z => (nomatch z)) S
    | str _ x hx => exact atom 0 0 _ (.str 0 x hx) (fun l => ⟨fun z => (nomatch z), fun z => (nomatch z)⟩) (fun x z => (nomatch z)) S
  | succ n ih =>
    intro d h S
    cases h with
    | dct0 => exact d0 _ S
    | non => exact atom _ 0 _ (.non 0) (fun l => ⟨fun z => (nomatch z), fun z => (nomatch z)⟩) (fun x z => (nomatch z)) S
    | bl _ b => exact atom _ 0 _ (.bl 0 b) (fun l => ⟨fun z => (nomatch z), fun z => (nomatch z)⟩) (fun x z => (nomatch z)) S
    | int _ i => exact atom _ 0 _ (.int 0 i) (fun l => ⟨fun z => (nomatch z), fun z => (nomatch z)⟩) (fun x z => (nomatch z)) S
    | str _ x hx => exact atom _ 0 _ (.str 0 x hx) (fun l => ⟨fun z => (nomatch z), fun z => (nomatch z)⟩) (fun x z => (nomatch z)) S
    | tup h1 h2 => exact same_tup h2 fun d hd S => ih d (h1 d hd) S
    | lst h1 h2 => exact same_lst h2 fun d hd S => ih d (h1 d hd) S
    | @dct1 _ d h1 =>
      obtain ⟨r, S1, e1, rfl, rfl⟩ := (ih d h1 S).get
      exact same_dct e1
end K01
/-! the looks are right -/
namespace K01
open PySem PySem.Spec PyProof.Rows L2 PF
theorem asc_at : ∀ {xs : List Int}, Asc xs → ∀ i, i + 1 < xs.length → xs.getD i 0 ≤ xs.getD (i + 1) 0
  | [], _, i, h => by simp at h
  | [_], _, i, h => by simp at h
  | a :: b :: l, q, 0, _ => q.1
  | a :: b :: l, q, i + 1, h => asc_at (xs := b :: l) q.2 i (by rw [List.length_cons] at h; omega)
theorem ascB_of {xs : List Int} (h : Asc xs) : ascB xs = true := by
  unfold ascB
  rw [List.all_eq_true]
  intro i hi
  have hi := List.mem_range.mp hi
  exact decide_eq_true (asc_at h i (by omega))
theorem drop_row (n : Nat) {xs : List Int} (h : xs ≠ []) : (List.replicate n D.non ++ xs.map D.int).dropWhile isNon = xs.map D.int := by
  induction n with
  | zero =>
    cases xs with
    | nil => exact absurd rfl h
    | cons a l => rfl
  | succ n ih =>
    rw [List.replicate_succ, List.cons_append, List.dropWhile_cons]
    exact ih
theorem row_values {l : List D} (h : Row l) (hl : l.length ≤ 41) : valuesB (.tup l) = true := by
  have hne := row_ne h
  obtain ⟨n, xs, rfl, h2, h3⟩ := h
  have hpos : 0 < (List.replicate n D.non ++ xs.map D.int).length := List.length_pos_iff.mpr hne
  have hu : (xs.map D.int).map unI = xs := by
    rw [List.map_map]
    exact (List.map_congr_left fun i _ => rfl).trans (List.map_id _)
  rw [valuesB_tup, drop_row n h2, hu, ascB_of h3, decide_eq_true (show 1 ≤ _ from hpos), decide_eq_true hl]
  have hlast : isNon ((List.replicate n D.non ++ xs.map D.int).getLastD .non) = false := by
    obtain ⟨ys, y, rfl⟩ : ∃ ys y, xs = ys ++ [y] := ⟨xs.dropLast, xs.getLast h2, (List.dropLast_concat_getLast h2).symm⟩
    rw [List.map_append, ← List.append_assoc, List.getLastD_eq_getLast?]
    rw [show [y].map D.int = [D.int y] from rfl, List.getLast?_concat]
    rfl
  rw [hlast]
  have hall : (xs.map D.int).all isInt = true := by
    rw [List.all_map]
    exact List.all_eq_true.mpr fun _ _ => rfl
  rw [hall]
  rfl
theorem kind_of {d : D} (h : KindD d) : kindB d = true := by
  obtain ⟨row, m, rfl, h1, h2, h3, h4⟩ := h
  show (valuesB (.tup row) && countB (.int m)) = true
  rw [row_values h1 (by omega), countB_int, decide_eq_true h3, decide_eq_true h4]
  rfl
theorem kind_pn {d : D} (h : KindD d) : PN 2 d := by
  obtain ⟨row, m, rfl, h1, h2, h3, h4⟩ := h
  exact .tup (by intro d hd; simp only [List.mem_cons, List.not_mem_nil, or_false] at hd; rcases hd with rfl | rfl; exact .tup (row_pn h1) (by omega); exact .int _ _) (by simp)
theorem same_eq (n : Nat) (d : D) (h : PN n d) (S : Sto) : R__law_same (n + 1) [d, d] S = .ok (.bl true) S := by
  obtain ⟨r, S1, e, rfl, rfl⟩ := (same_ok n d h S).get
  exact e
theorem same7e (d : D) (h : PN 7 d) (S : Sto) : F__law_same [d, d] S = .ok (.bl true) S := same_eq 7 d h S
theorem hearD_ok {good : List (Str × Str)} {g : Sto → Res D} {d : D} {S S1 : Sto} (h : g S = .ok d S1) : hearD good g S = .ok (.tup [.str "told", d]) S1 := by
  unfold hearD
  rw [h]
theorem bind_ok {β γ : Type} {d : β} {S : Sto} {f : β → Sto → Res γ} : (Res.ok d S).bind f = f d S := rfl
theorem ok_bl {σ : Stt} {S : Sto} {b : Bool} : okR (fC (.bl b) σ S) fun d S' => d = .bl b ∧ S' = S := ⟨rfl, rfl⟩
theorem tells_ok {fb fo : EF} {σ : Stt} {S : Sto} {b : Bool} (h1 : okR (fo σ S) fun d S' => d = .bl b ∧ S' = S) (h2 : okR (fb σ S) fun d S' => d = .bl b ∧ S' = S) : okR (fTells good "told" F__law_same fb fo σ S) fun r S' => r = .bl true ∧ S' = S := by
  obtain ⟨d1, S1, e1, rfl, rfl⟩ := h1.get
  obtain ⟨d2, S2, e2, rfl, rfl⟩ := h2.get
  unfold fTells
  rw [e1, bind_ok]
  unfold tellsD
  rw [hearD_ok (g := fun S => fb σ S) e2, bind_ok]
  have hp : PN 7 (.tup [.str "told", .bl b]) := .tup (by intro d hd; simp only [List.mem_cons, List.not_mem_nil, or_false] at hd; rcases hd with rfl | rfl; exact .str _ _ (by decide +kernel); exact .bl _ _) (by simp)
  rw [same7e _ hp S2]
  exact ⟨rfl, rfl⟩
theorem tells_guard {fb fo : EF} {f : EF} {rest : SF} {σ : Stt} {S : Sto} {b : Bool} {N : Stt → Sto → Prop} {R : D → Sto → Prop} (h1 : okR (fo σ S) fun d S' => d = .bl b ∧ S' = S) (h2 : okR (fb σ S) fun d S' => d = .bl b ∧ S' = S) (h3 : okS (rest σ S) N R) :
    okS (sSeq (sIf (bNot (bT (fTells good "told" F__law_same fb fo))) (sRet f) sNil) rest σ S) N R := by
  refine guard false ?_ (fun z => (nomatch z)) fun _ => h3
  rw [w_not, w_bT]
  refine (tells_ok h1 h2).mono fun r S' ⟨e1, e2⟩ => ?_
  subst e1 e2
  exact ⟨_, rfl, rfl, rfl⟩
end K01
/-! what is wrong with a crew -/
namespace K01
open PySem PySem.Spec PyProof.Rows L2 PF
def seqD : D → Option (List D)
  | .tup l => some l
  | .lst l => some l
  | _ => none
/-- what is wrong with it: the whole, or its first entry that is no kind -/
def wrongD (t : D) : Option D := match seqD t with
  | some l => if l.length = 1 ∨ l.length = 2 ∨ l.length = 3 then (l.filter fun d => !kindB d).head? else some t
  | none => some t
theorem nin3 (n : Nat) : ninD (.int (n : Int)) (.lst [.int 1, .int 2, .int 3]) = some (.bl !decide (n = 1 ∨ n = 2 ∨ n = 3)) := by
  have e : ninD (.int (n : Int)) (.lst [.int 1, .int 2, .int 3]) = some (.bl !(((1 : Int) == (n : Int)) || (((2 : Int) == (n : Int)) || (((3 : Int) == (n : Int)) || false)))) := by rfl
  rw [e]
  by_cases h1 : n = 1
  · subst h1; rfl
  by_cases h2 : n = 2
  · subst h2; rfl
  by_cases h3 : n = 3
  · subst h3; rfl
  rw [beq_eq_false_iff_ne.mpr (show (1 : Int) ≠ (n : Int) by omega), beq_eq_false_iff_ne.mpr (show (2 : Int) ≠ (n : Int) by omega), beq_eq_false_iff_ne.mpr (show (3 : Int) ≠ (n : Int) by omega), decide_eq_false (show ¬ (n = 1 ∨ n = 2 ∨ n = 3) by omega)]
  rfl
theorem seq_pl {t : D} {l : List D} (h : Pl t) (e : seqD t = some l) : (∀ d ∈ l, Pl d) ∧ l.length ≤ 1000 := by
  cases h with
  | tup h1 h2 => cases e; exact ⟨h1, h2⟩
  | lst h1 h2 => cases e; exact ⟨h1, h2⟩
  | _ => cases e
end K01
/-! Crew's __init__ -/
namespace K01
open PySem PySem.Spec PyProof.Rows L2 PF
abbrev kindT : BF := bNot (bT (fCall 1 F_is_kind (aCons (fVar 2) (aNil))))
theorem kindT_eq {a b c e : Option D} {d : D} (h : Pl d) (S : Sto) : kindT [a, b, some d, c, e] S = .ok (!kindB d) S := by
  obtain ⟨r, S1, e1, rfl, rfl⟩ := (kind_eq h S).get
  have q : fCall 1 F_is_kind (aCons (fVar 2) aNil) [a, b, some d, c, e] S1 = F_is_kind [d] S1 := by rfl
  unfold kindT bNot bT
  rw [q, e1]
  rfl
theorem for_kinds {a b c e : Option D} {S : Sto} : ∀ (l : List D) (y : Option D), (∀ d ∈ l, Pl d) →
    (match (l.filter fun d => !kindB d).head? with
      | some x => ∃ σ, forF (gN 2) (sIf kindT (sRaise "InvalidCrew" "value" (fVar 2)) sNil) l [a, b, y, c, e] S = .exc σ "InvalidCrew" [("value", x)] S
      | none => ∃ y', forF (gN 2) (sIf kindT (sRaise "InvalidCrew" "value" (fVar 2)) sNil) l [a, b, y, c, e] S = .nx [a, b, y', c, e] S)
  | [], y, _ => ⟨y, rfl⟩
  | d :: l, y, h => by
    have hk := kindT_eq (a := a) (b := b) (c := c) (e := e) (h d List.mem_cons_self) S
    have ih := for_kinds (a := a) (b := b) (c := c) (e := e) (S := S) l (some d) fun x hx => h x (List.mem_cons_of_mem _ hx)
    cases hd : kindB d with
    | false =>
      rw [hd] at hk
      rw [List.filter_cons_of_pos (by rw [hd]; rfl)]
      refine ⟨[a, b, some d, c, e], ?_⟩
      have e1 : sIf kindT (sRaise "InvalidCrew" "value" (fVar 2)) sNil [a, b, some d, c, e] S = .exc [a, b, some d, c, e] "InvalidCrew" [("value", d)] S := by
        unfold sIf
        rw [hk]
        rfl
      show (match sIf kindT (sRaise "InvalidCrew" "value" (fVar 2)) sNil [a, b, some d, c, e] S with | .nx σ2 S2 => _ | .ct σ2 S2 => _ | .bk σ2 S2 => _ | .rt d S2 => _ | .exc σ2 c fs S2 => _ | .bad => _) = _
      rw [e1]
    | true =>
      rw [hd] at hk
      rw [List.filter_cons_of_neg (by rw [hd]; exact Bool.false_ne_true)]
      have e1 : sIf kindT (sRaise "InvalidCrew" "value" (fVar 2)) sNil [a, b, some d, c, e] S = .nx [a, b, some d, c, e] S := by
        unfold sIf
        rw [hk]
        rfl
      have e2 : forF (gN 2) (sIf kindT (sRaise "InvalidCrew" "value" (fVar 2)) sNil) (d :: l) [a, b, y, c, e] S = forF (gN 2) (sIf kindT (sRaise "InvalidCrew" "value" (fVar 2)) sNil) l [a, b, some d, c, e] S := by
        show (match sIf kindT (sRaise "InvalidCrew" "value" (fVar 2)) sNil [a, b, some d, c, e] S with | .nx σ2 S2 => forF (gN 2) (sIf kindT (sRaise "InvalidCrew" "value" (fVar 2)) sNil) l σ2 S2 | .ct σ2 S2 => _ | .bk σ2 S2 => _ | .rt d S2 => _ | .exc σ2 c fs S2 => _ | .bad => _) = _
        rw [e1]
      rw [e2]
      exact ih
theorem crew_first {t : D} (h : Pl t) (S : Sto) : (bOr (bNot (bT (fCall 1 F_is_row (aCons (fVar 1) (aNil))))) (bNot (bV (fChain leD leD (fC (.int 1)) (fB lenD (aCons (fVar 1) (aNil))) (fC (.int 3)))))) [some (.raw .non), some t, none, none, none] S =
    .ok (match seqD t with | some l => !decide (l.length = 1 ∨ l.length = 2 ∨ l.length = 3) | none => true) S := by
  have q : okR ((bOr (bNot (bT (fCall 1 F_is_row (aCons (fVar 1) (aNil))))) (bNot (bV (fChain leD leD (fC (.int 1)) (fB lenD (aCons (fVar 1) (aNil))) (fC (.int 3)))))) [some (.raw .non), some t, none, none, none] S) fun c S' => c = (match seqD t with | some l => !decide (l.length = 1 ∨ l.length = 2 ∨ l.length = 3) | none => true) ∧ S' = S := by
    have row : ∀ (l : List D) (x : D), seqD x = some l → lenD [x] S = some (.int l.length, S) → F_is_row [x] S = .ok (.bl true) S →
        okR ((bOr (bNot (bT (fCall 1 F_is_row (aCons (fVar 1) (aNil))))) (bNot (bV (fChain leD leD (fC (.int 1)) (fB lenD (aCons (fVar 1) (aNil))) (fC (.int 3)))))) [some (.raw .non), some x, none, none, none] S) fun c S' => c = (!decide (l.length = 1 ∨ l.length = 2 ∨ l.length = 3)) ∧ S' = S := fun l x e1 e2 e3 => by
      simp only [w_seq, w_sif, w_bV, w_bT, w_bAnd, w_or, w_not, w_f1, w_f2, w_chain, w_ix, w_isi, w_tup, w_lst, w_new, w_and, w_if, w_c, w_asg, w_par, w_sub, w_app, w_for, w_ret, w_snil, w_b, w_call, w_cons, w_nil, w_q, w_r1, w_r2, w_oN, w_oS, w_sl, w_comp, w_runF, w_var]
      simp only [List.getElem?_cons_zero, List.getElem?_cons_succ, List.set_cons_zero, List.set_cons_succ, List.length_cons, List.length_nil, Option.some.injEq, exists_eq_left', exists_eq_left, D.int.injEq, D.bl.injEq, D.ref.injEq, D.lst.injEq, D.tup.injEq, D.str.injEq, and_true, true_and, List.cons.injEq, gN, forall_eq, forall_const]
      rw [e3]
      refine ⟨_, rfl, fun z => (nomatch (show false = true from z)), fun _ => ⟨_, _, e2, _, rfl, fun h1 => ⟨_, rfl, ?_⟩, fun h1 => ?_⟩⟩
      · have h1 : (1 : Int) ≤ l.length := of_decide_eq_true h1
        have e9 : decide ((l.length : Int) ≤ 3) = decide (l.length = 1 ∨ l.length = 2 ∨ l.length = 3) := by
          by_cases z : l.length ≤ 3
          · rw [decide_eq_true (show (l.length : Int) ≤ 3 by omega), decide_eq_true (show l.length = 1 ∨ l.length = 2 ∨ l.length = 3 by omega)]
          · rw [decide_eq_false (show ¬ (l.length : Int) ≤ 3 by omega), decide_eq_false (show ¬ (l.length = 1 ∨ l.length = 2 ∨ l.length = 3) by omega)]
        rw [← e9]
        first | exact ⟨_, rfl, rfl, rfl⟩ | exact ⟨_, rfl, rfl⟩ | exact rfl
      · have h1 : ¬ ((1 : Int) ≤ l.length) := of_decide_eq_false h1
        rw [decide_eq_false (show ¬ (l.length = 1 ∨ l.length = 2 ∨ l.length = 3) by omega)]
        first | exact ⟨rfl, rfl⟩ | exact rfl
    cases h with
    | @tup l _ _ => exact row l _ rfl rfl rfl
    | @lst l _ _ => exact row l _ rfl rfl rfl
    | _ => exact ⟨rfl, rfl⟩
  obtain ⟨c, S1, e, rfl, rfl⟩ := q.get
  exact e
theorem kind_shape {d : D} (h : kindB d = true) : ∃ v m, d = .tup [v, m] := by
  unfold kindB at h
  split at h
  · rename_i v m; exact ⟨v, m, rfl⟩
  · cases h
theorem filter_none {l : List D} (h : (l.filter fun d => !kindB d).head? = none) : ∀ d ∈ l, kindB d = true := by
  intro d hd
  cases e : kindB d with
  | true => rfl
  | false =>
    have m9 : d ∈ l.filter fun d => !kindB d := List.mem_filter.mpr ⟨hd, by rw [e]; rfl⟩
    rw [List.head?_eq_none_iff.mp h] at m9
    cases m9
theorem crew_made {t : D} {l : List D} (h : Pl t) (e : seqD t = some l) (hw : wrongD t = none) (S : Sto) : F_Crew [.raw .non, t] S = .ok [("own_kinds", .tup l)] S := by
  obtain ⟨hl, hz⟩ := seq_pl h e
  have hc : (bOr (bNot (bT (fCall 1 F_is_row (aCons (fVar 1) (aNil))))) (bNot (bV (fChain leD leD (fC (.int 1)) (fB lenD (aCons (fVar 1) (aNil))) (fC (.int 3)))))) [some (.raw .non), some t, none, none, none] S = .ok (!decide (l.length = 1 ∨ l.length = 2 ∨ l.length = 3)) S := by
    have z := crew_first h S
    rw [e] at z
    exact z
  unfold wrongD at hw
  rw [e] at hw
  have hw : (if l.length = 1 ∨ l.length = 2 ∨ l.length = 3 then (l.filter fun d => !kindB d).head? else some t) = none := hw
  split at hw
  · rename_i hn
    rw [decide_eq_true hn] at hc
    have hk := filter_none hw
    have hf := for_kinds (a := some (.raw .non)) (b := some t) (c := none) (e := none) (S := S) l none hl
    rw [hw] at hf
    obtain ⟨y, hf⟩ := hf
    have hit : iQ (fVar 1) [some (.raw .non), some t, none, none, none] S = .ok l S ∧ ∀ y, iQ (fVar 1) [some (.raw .non), some t, y, none, none] S = .ok l S := by
      cases h with
      | tup => cases e; exact ⟨rfl, fun _ => rfl⟩
      | lst => cases e; exact ⟨rfl, fun _ => rfl⟩
      | _ => cases e
    have e1 : (sSeq (sIf (bOr (bNot (bT (fCall 1 F_is_row (aCons (fVar 1) (aNil))))) (bNot (bV (fChain leD leD (fC (.int 1)) (fB lenD (aCons (fVar 1) (aNil))) (fC (.int 3)))))) (sRaise "InvalidCrew" "value" (fVar 1)) (sNil)) (sFor (iQ (fVar 1)) (gN 2) (sIf (bNot (bT (fCall 1 F_is_kind (aCons (fVar 2) (aNil))))) (sRaise "InvalidCrew" "value" (fVar 2)) (sNil)))) (startD 5 [.raw .non, t]) S = .nx [some (.raw .non), some t, y, none, none] S := by
      show (sSeq (sIf _ _ sNil) _) [some (.raw .non), some t, none, none, none] S = _
      unfold sSeq sIf
      rw [hc]
      show sFor (iQ (fVar 1)) (gN 2) (sIf kindT (sRaise "InvalidCrew" "value" (fVar 2)) (sNil)) [some (.raw .non), some t, none, none, none] S = _
      unfold sFor
      rw [hit.1]
      exact hf
    have hcomp : compF (gT 2 (gsCons (gN 3) (gsCons (gN 4) (gsNil)))) bTrue (fTup (aCons (fVar 3) (aCons (fVar 4) (aNil)))) l (wipeD [some (.raw .non), some t, y, none, none] [3, 4]) S = .ok (l.map id) S := comp_map fun d hd => by
      obtain ⟨v, m, rfl⟩ := kind_shape (hk d hd)
      exact ⟨_, w_gT2, rfl⟩
    have e2 : (fB tupleQ (aCons (fComp [3, 4] (iQ (fVar 1)) (gT 2 (gsCons (gN 3) (gsCons (gN 4) (gsNil)))) (bTrue) (fTup (aCons (fVar 3) (aCons (fVar 4) (aNil))))) (aNil))) [some (.raw .non), some t, y, none, none] S = .ok (.tup l) S := by
      have q : okR ((fB tupleQ (aCons (fComp [3, 4] (iQ (fVar 1)) (gT 2 (gsCons (gN 3) (gsCons (gN 4) (gsNil)))) (bTrue) (fTup (aCons (fVar 3) (aCons (fVar 4) (aNil))))) (aNil))) [some (.raw .non), some t, y, none, none] S) fun d S' => d = .tup l ∧ S' = S := by
        rw [w_b, w_cons, w_comp, hit.2 y]
        refine ⟨l.map id, S, hcomp, by rw [List.length_map]; exact Nat.le_trans hz (by decide), ?_⟩
        show ∃ d S2, tupleQ [.lst (l.map id)] S = some (d, S2) ∧ d = .tup l ∧ S2 = S
        exact ⟨_, _, rfl, by rw [List.map_id], rfl⟩
      obtain ⟨d, S1, e9, rfl, rfl⟩ := q.get
      exact e9
    unfold F_Crew initF
    rw [e1]
    dsimp only
    have e3 : selfOk [some (.raw .non), some t, y, none, none] [.raw .non, t] = true := by rfl
    rw [e3, if_pos rfl, e2]
  · cases hw
theorem init_exc {N : Nat} {pre : SF} {f : Str} {e : EF} {ds : List D} {S S1 : Sto} {σ : Stt} {c : Str} {fs : List (Str × D)} (h : pre (startD N ds) S = .exc σ c fs S1) : initF N pre f e ds S = .exc c fs S1 := by
  unfold initF
  rw [h]
theorem crew_refused {t x : D} (h : Pl t) (hw : wrongD t = some x) (S : Sto) : F_Crew [.raw .non, t] S = .exc "InvalidCrew" [("value", x)] S := by
  have hc := crew_first h S
  have first : ∀ {b : SF}, (bOr (bNot (bT (fCall 1 F_is_row (aCons (fVar 1) (aNil))))) (bNot (bV (fChain leD leD (fC (.int 1)) (fB lenD (aCons (fVar 1) (aNil))) (fC (.int 3)))))) [some (.raw .non), some t, none, none, none] S = .ok true S →
      (sSeq (sIf (bOr (bNot (bT (fCall 1 F_is_row (aCons (fVar 1) (aNil))))) (bNot (bV (fChain leD leD (fC (.int 1)) (fB lenD (aCons (fVar 1) (aNil))) (fC (.int 3)))))) (sRaise "InvalidCrew" "value" (fVar 1)) (sNil)) b) (startD 5 [.raw .non, t]) S = .exc [some (.raw .non), some t, none, none, none] "InvalidCrew" [("value", t)] S := fun {b} z => by
    show (sSeq (sIf _ _ sNil) _) [some (.raw .non), some t, none, none, none] S = _
    unfold sSeq sIf
    rw [z]
    rfl
  unfold F_Crew
  unfold wrongD at hw
  cases e : seqD t with
  | none =>
    rw [e] at hw hc
    cases hw
    exact init_exc (first hc)
  | some l =>
    obtain ⟨hl, hz⟩ := seq_pl h e
    rw [e] at hw hc
    have hw : (if l.length = 1 ∨ l.length = 2 ∨ l.length = 3 then (l.filter fun d => !kindB d).head? else some t) = some x := hw
    have hc : (bOr (bNot (bT (fCall 1 F_is_row (aCons (fVar 1) (aNil))))) (bNot (bV (fChain leD leD (fC (.int 1)) (fB lenD (aCons (fVar 1) (aNil))) (fC (.int 3)))))) [some (.raw .non), some t, none, none, none] S = .ok (!decide (l.length = 1 ∨ l.length = 2 ∨ l.length = 3)) S := hc
    split at hw
    · rename_i hn
      rw [decide_eq_true hn] at hc
      have hf := for_kinds (a := some (.raw .non)) (b := some t) (c := none) (e := none) (S := S) l none hl
      rw [hw] at hf
      obtain ⟨σ, hf⟩ := hf
      have hit : iQ (fVar 1) [some (.raw .non), some t, none, none, none] S = .ok l S := by
        cases h with
        | tup => cases e; rfl
        | lst => cases e; rfl
        | _ => cases e
      refine init_exc (σ := σ) ?_
      show (sSeq (sIf _ _ sNil) _) [some (.raw .non), some t, none, none, none] S = _
      unfold sSeq sIf
      rw [hc]
      show sFor (iQ (fVar 1)) (gN 2) (sIf kindT (sRaise "InvalidCrew" "value" (fVar 2)) (sNil)) [some (.raw .non), some t, none, none, none] S = _
      unfold sFor
      rw [hit]
      exact hf
    · rename_i hn
      rw [decide_eq_false hn] at hc
      cases hw
      exact init_exc (first hc)
end K01
/-! sums over kinds -/
namespace K01
open PySem PySem.Spec PyProof.Rows L2 PF
/-- a kind as the looks have it -/
def rowK : D → List D
  | .tup [.tup row, _] => row
  | _ => []
def manyK : D → Int
  | .tup [_, .int m] => m
  | _ => 0
theorem kind_parts {d : D} (h : kindB d = true) : ∃ row m, d = .tup [.tup row, .int m] ∧ valuesB (.tup row) = true ∧ 0 ≤ m ∧ m ≤ M30 := by
  obtain ⟨v, m, rfl⟩ := kind_shape h
  have h : (valuesB v && countB m) = true := h
  obtain ⟨h1, h2⟩ := Bool.and_eq_true_iff.mp h
  cases v with
  | tup row =>
    cases m with
    | int i =>
      rw [countB_int] at h2
      obtain ⟨h3, h4⟩ := Bool.and_eq_true_iff.mp h2
      exact ⟨row, i, rfl, h1, of_decide_eq_true h3, of_decide_eq_true h4⟩
    | _ => cases h2
  | _ => cases h1
theorem values_parts {l : List D} (h : valuesB (.tup l) = true) : 1 ≤ l.length ∧ l.length ≤ 41 ∧ isNon (l.getLastD .non) = false ∧ (l.dropWhile isNon).all isInt = true := by
  rw [valuesB_tup] at h
  obtain ⟨h1, h⟩ := Bool.and_eq_true_iff.mp h
  obtain ⟨h2, h⟩ := Bool.and_eq_true_iff.mp h
  obtain ⟨h3, h⟩ := Bool.and_eq_true_iff.mp h
  obtain ⟨h4, _⟩ := Bool.and_eq_true_iff.mp h
  exact ⟨of_decide_eq_true h1, of_decide_eq_true h2, by simpa using h3, h4⟩
theorem take_all : ∀ (l : List D) (d : D), d ∈ l.takeWhile isNon → isNon d = true
  | [], _, h => nomatch h
  | a :: l, d, h => by
    rw [List.takeWhile_cons] at h
    cases e : isNon a with
    | false => rw [e] at h; cases h
    | true =>
      rw [e] at h
      rcases List.mem_cons.mp h with z | z
      · rw [z]; exact e
      · exact take_all l d z
/-- in a row of values the entries that are None are those ahead -/
theorem count_non {l : List D} (h : (l.dropWhile isNon).all isInt = true) : (l.filter isNon).length = (l.takeWhile isNon).length := by
  have e := List.takeWhile_append_dropWhile (p := isNon) (l := l)
  have e1 : (l.filter isNon) = (l.takeWhile isNon).filter isNon ++ (l.dropWhile isNon).filter isNon := by rw [← List.filter_append, e]
  have e2 : (l.dropWhile isNon).filter isNon = [] := by
    rw [List.filter_eq_nil_iff]
    intro d hd z
    have := List.all_eq_true.mp h d hd
    cases d <;> first | exact absurd this Bool.false_ne_true | exact absurd z Bool.false_ne_true
  have e3 : (l.takeWhile isNon).filter isNon = l.takeWhile isNon := by
    rw [List.filter_eq_self]
    intro d hd
    exact take_all l d hd
  rw [e1, e2, e3, List.append_nil]
theorem pu_least_eq {l : List D} (hl : ∀ d ∈ l, Pl d) (hz : l.length ≤ 1000) (h : (l.dropWhile isNon).all isInt = true) (S : Sto) : F__law_pu_least_of [.tup l] S = .ok (.int (l.takeWhile isNon).length) S := by
  have q : okR (F__law_pu_least_of [.tup l] S) fun d S' => d = .int (l.takeWhile isNon).length ∧ S' = S := by
    unfold F__law_pu_least_of
    rw [w_runF]
    show okS (B__law_pu_least_of [some (.tup l), none] S) _ _
    unfold B__law_pu_least_of
    simp only [w_ret, w_b, w_cons, w_nil, w_comp, w_q, w_var]
    simp only [List.getElem?_cons_zero, List.getElem?_cons_succ, List.set_cons_zero, List.set_cons_succ, List.length_cons, List.length_nil, Option.some.injEq, exists_eq_left', exists_eq_left, D.int.injEq, D.bl.injEq, D.ref.injEq, D.lst.injEq, D.tup.injEq, D.str.injEq, and_true, true_and, List.cons.injEq, gN, forall_eq, forall_const]
    refine ⟨l, .inr (.inr rfl), _, _, comp_pure (p := isNon) (h := id) fun d hd => ⟨_, rfl, ?_, fun _ => rfl⟩, ?_, _, _, rfl, ?_⟩
    · have q : okR ((bV (f2 isD (fVar 1) (fC .non))) [some (.tup l), some d] S) fun b S' => b = isNon d ∧ S' = S := by
        simp only [w_seq, w_sif, w_bV, w_bT, w_bAnd, w_or, w_not, w_f1, w_f2, w_chain, w_ix, w_isi, w_tup, w_lst, w_new, w_and, w_if, w_c, w_asg, w_par, w_sub, w_app, w_for, w_ret, w_snil, w_b, w_call, w_cons, w_nil, w_q, w_r1, w_r2, w_oN, w_oS, w_sl, w_comp, w_runF, w_var]
        simp only [List.getElem?_cons_zero, List.getElem?_cons_succ, List.set_cons_zero, List.set_cons_succ, List.length_cons, List.length_nil, Option.some.injEq, exists_eq_left', exists_eq_left, D.int.injEq, D.bl.injEq, D.ref.injEq, D.lst.injEq, D.tup.injEq, D.str.injEq, and_true, true_and, List.cons.injEq, gN, forall_eq, forall_const]
        refine ⟨_, is_eq (hl d hd), ?_⟩
        first | exact rfl | exact ⟨_, rfl, rfl⟩ | exact ⟨_, rfl, rfl, rfl⟩
      obtain ⟨b, S', e, rfl, rfl⟩ := q.get
      exact e
    · rw [List.length_map]
      exact Nat.le_trans (Nat.le_trans (List.length_filter_le _ _) hz) (by decide)
    · rw [List.map_id, count_non h]
      first | exact ⟨rfl, rfl⟩ | exact rfl
  obtain ⟨d, S', e, rfl, rfl⟩ := q.get
  exact e
theorem ints_map {β : Type} (f : β → Int) : ∀ l : List β, intsD (l.map fun d => D.int (f d)) = some (l.map f)
  | [] => rfl
  | d :: l => by
    show (intsD (l.map fun d => D.int (f d))).map (f d :: ·) = _
    rw [ints_map f l]; rfl
theorem log2_m30 {m : Int} (h : 0 ≤ m) (h2 : m ≤ M30) : m.natAbs.log2 < 1000 := by
  have h3 : m.natAbs < 2 ^ 1000 := by
    have h4 : m.natAbs ≤ M30.natAbs := by omega
    exact Nat.lt_of_le_of_lt h4 (by decide +kernel)
  by_cases h0 : m.natAbs = 0
  · rw [h0]; decide
  · exact (Nat.log2_lt h0).mpr h3
theorem mul_small {a m : Int} (h0 : 0 ≤ a) (h1 : a ≤ 1000) (h : 0 ≤ m) (h2 : m ≤ M30) : mulD (.int a) (.int m) = some (.int (a * m)) := by
  refine mulD_ok2 ?_
  have h3 := log2_m30 h h2
  have h4 : a.natAbs.log2 ≤ a.natAbs := Nat.log2_le_self _
  omega
theorem sum_map {β : Type} (f : β → Int) (l : List β) (S : Sto) : sumD [.lst (l.map fun d => D.int (f d))] S = some (.int (l.map f).sum, S) := by
  show ((lItems (.lst (l.map fun d => D.int (f d)))).bind intsD).map _ = _
  rw [show (lItems (D.lst (l.map fun d => D.int (f d)))).bind intsD = some (l.map f) from ints_map f l]
  rfl
/-- a comprehension over kinds: for values, many in l -/
theorem kcomp {i j : Nat} {elt : EF} {σ : Stt} {S : Sto} {φ : List D → Int → Int} {l : List D} (hl : ∀ d ∈ l, Pl d) (hk : ∀ d ∈ l, kindB d = true)
    (he : ∀ row m, (∀ d ∈ row, Pl d) → row.length ≤ 1000 → valuesB (.tup row) = true → 0 ≤ m → m ≤ M30 → elt ((σ.set i (some (.tup row))).set j (some (.int m))) S = .ok (.int (φ row m)) S) :
    compF (gT 2 (gsCons (gN i) (gsCons (gN j) gsNil))) bTrue elt l σ S = .ok (l.map fun d => D.int (φ (rowK d) (manyK d))) S := comp_map fun d hd => by
  obtain ⟨row, m, rfl, h1, h2, h3⟩ := kind_parts (hk d hd)
  have hp := hl _ hd
  cases hp with
  | tup q1 q2 =>
    have hr := q1 (.tup row) (by simp)
    cases hr with
    | tup q3 q4 => exact ⟨_, w_gT2, he row m q3 q4 h1 h2 h3⟩
end K01
/-! what a crew tells of itself-/
namespace K01
open PySem PySem.Spec PyProof.Rows L2 PF
def crewD (l : List D) : D := .ins "Crew" [("own_kinds", .tup l)]
def leastS (l : List D) : Int := (l.map fun d => (((rowK d).takeWhile isNon).length : Int) * manyK d).sum
def fullS (l : List D) : Int := (l.map fun d => (((rowK d).length : Int) - 1) * manyK d).sum
def manyS (l : List D) : Int := (l.map manyK).sum
theorem own_at {l : List D} {y z : Option D} {S : Sto} : iQ (fFld "Crew" "own_kinds" (fVar 0)) [some (crewD l), y, z] S = .ok l S := rfl
theorem last_in {l : List D} (h : valuesB (.tup l) = true) : ∃ d ∈ l, isNon d = false := by
  obtain ⟨h1, h2, h3, h4⟩ := values_parts h
  have hne : l ≠ [] := fun z => by rw [z] at h1; simp at h1
  exact ⟨l.getLastD .non, by rw [List.getLastD_eq_getLast?, List.getLast?_eq_some_getLast hne]; exact List.getLast_mem hne, h3⟩
theorem crew_least_eq {l : List D} (hl : ∀ d ∈ l, Pl d) (hk : ∀ d ∈ l, kindB d = true) (hz : l.length ≤ 1000) (S : Sto) : F_Crew_least [crewD l] S = .ok (.int (leastS l)) S := by
  have hc : compF (gT 2 (gsCons (gN 1) (gsCons (gN 2) (gsNil)))) (bTrue) (f2 mulD (fCall 1 F_least_of (aCons (fVar 1) (aNil))) (fVar 2)) l (wipeD [some (crewD l), none, none] [1, 2]) S = .ok (l.map fun d => D.int ((((rowK d).takeWhile isNon).length : Int) * manyK d)) S :=
    kcomp (φ := fun row m => ((row.takeWhile isNon).length : Int) * m) hl hk fun row m h1 h2 h3 h4 h5 => by
      have e1 := least_eq h1 h2 (last_in h3) S
      have q : (f2 mulD (fCall 1 F_least_of (aCons (fVar 1) (aNil))) (fVar 2)) [some (crewD l), some (.tup row), some (.int m)] S = (F_least_of [.tup row] S).bind fun x S1 => match mulD x (.int m) with | some d => .ok d S1 | none => .bad := rfl
      show (f2 mulD (fCall 1 F_least_of (aCons (fVar 1) (aNil))) (fVar 2)) [some (crewD l), some (.tup row), some (.int m)] S = _
      have hb : (row.takeWhile isNon).length ≤ 1000 := Nat.le_trans (List.takeWhile_sublist _).length_le h2
      rw [q, e1, bind_ok, mul_small (by omega) (by omega) h4 h5]
  have q : okR (F_Crew_least [crewD l] S) fun d S' => d = .int (leastS l) ∧ S' = S := by
    unfold F_Crew_least
    rw [w_runF]
    show okS (B_Crew_least [some (crewD l), none, none] S) _ _
    unfold B_Crew_least
    rw [w_ret, w_b, w_cons, w_comp, own_at]
    refine ⟨_, _, hc, by rw [List.length_map]; exact Nat.le_trans hz (by decide), ?_⟩
    exact ⟨_, _, sum_map _ _ _, rfl, rfl⟩
  obtain ⟨d, S', e, rfl, rfl⟩ := q.get
  exact e
theorem quota_eq {l : List D} (S : Sto) : F_quota_of [.tup l] S = .ok (.int ((l.length : Int) - 1)) S := rfl
theorem crew_full_eq {l : List D} (hl : ∀ d ∈ l, Pl d) (hk : ∀ d ∈ l, kindB d = true) (hz : l.length ≤ 1000) (S : Sto) : F_Crew_full [crewD l] S = .ok (.int (fullS l)) S := by
  have hc : compF (gT 2 (gsCons (gN 1) (gsCons (gN 2) (gsNil)))) (bTrue) (f2 mulD (fCall 1 F_quota_of (aCons (fVar 1) (aNil))) (fVar 2)) l (wipeD [some (crewD l), none, none] [1, 2]) S = .ok (l.map fun d => D.int ((((rowK d).length : Int) - 1) * manyK d)) S :=
    kcomp (φ := fun row m => ((row.length : Int) - 1) * m) hl hk fun row m h1 h2 h3 h4 h5 => by
      obtain ⟨k1, _⟩ := values_parts h3
      have q : (f2 mulD (fCall 1 F_quota_of (aCons (fVar 1) (aNil))) (fVar 2)) [some (crewD l), some (.tup row), some (.int m)] S = (F_quota_of [.tup row] S).bind fun x S1 => match mulD x (.int m) with | some d => .ok d S1 | none => .bad := rfl
      show (f2 mulD (fCall 1 F_quota_of (aCons (fVar 1) (aNil))) (fVar 2)) [some (crewD l), some (.tup row), some (.int m)] S = _
      rw [q, quota_eq, bind_ok, mul_small (by omega) (by omega) h4 h5]
  have q : okR (F_Crew_full [crewD l] S) fun d S' => d = .int (fullS l) ∧ S' = S := by
    unfold F_Crew_full
    rw [w_runF]
    show okS (B_Crew_full [some (crewD l), none, none] S) _ _
    unfold B_Crew_full
    rw [w_ret, w_b, w_cons, w_comp, own_at]
    refine ⟨_, _, hc, by rw [List.length_map]; exact Nat.le_trans hz (by decide), ?_⟩
    exact ⟨_, _, sum_map _ _ _, rfl, rfl⟩
  obtain ⟨d, S', e, rfl, rfl⟩ := q.get
  exact e
theorem crew_members_eq {l : List D} (hl : ∀ d ∈ l, Pl d) (hk : ∀ d ∈ l, kindB d = true) (hz : l.length ≤ 1000) (S : Sto) : F_Crew_members [crewD l] S = .ok (.int (manyS l)) S := by
  have hc : compF (gT 2 (gsCons (gN 1) (gsCons (gN 2) (gsNil)))) (bTrue) (fVar 2) l (wipeD [some (crewD l), none, none] [1, 2]) S = .ok (l.map fun d => D.int (manyK d)) S :=
    kcomp (φ := fun _ m => m) hl hk fun row m h1 h2 h3 h4 h5 => rfl
  have q : okR (F_Crew_members [crewD l] S) fun d S' => d = .int (manyS l) ∧ S' = S := by
    unfold F_Crew_members
    rw [w_runF]
    show okS (B_Crew_members [some (crewD l), none, none] S) _ _
    unfold B_Crew_members
    rw [w_ret, w_b, w_cons, w_comp, own_at]
    refine ⟨_, _, hc, by rw [List.length_map]; exact Nat.le_trans hz (by decide), ?_⟩
    exact ⟨_, _, sum_map _ _ _, rfl, rfl⟩
  obtain ⟨d, S', e, rfl, rfl⟩ := q.get
  exact e
theorem pu_ends_eq {l : List D} (hl : ∀ d ∈ l, Pl d) (hk : ∀ d ∈ l, kindB d = true) (hz : l.length ≤ 1000) (S : Sto) : F__law_pu_ends [.tup l] S = .ok (.tup [.int (leastS l), .int (fullS l)]) S := by
  have hc : ∀ x, compF (gT 2 (gsCons (gN 1) (gsCons (gN 2) (gsNil)))) (bTrue) (f2 mulD (fCall 1 F__law_pu_least_of (aCons (fVar 1) (aNil))) (fVar 2)) l (wipeD [some (.tup l), none, none, x] [1, 2]) S = .ok (l.map fun d => D.int ((((rowK d).takeWhile isNon).length : Int) * manyK d)) S := fun x =>
    kcomp (φ := fun row m => ((row.takeWhile isNon).length : Int) * m) hl hk fun row m h1 h2 h3 h4 h5 => by
      obtain ⟨_, _, _, k4⟩ := values_parts h3
      have e1 := pu_least_eq h1 h2 k4 S
      have q : (f2 mulD (fCall 1 F__law_pu_least_of (aCons (fVar 1) (aNil))) (fVar 2)) [some (.tup l), some (.tup row), some (.int m), x] S = (F__law_pu_least_of [.tup row] S).bind fun x S1 => match mulD x (.int m) with | some d => .ok d S1 | none => .bad := rfl
      show (f2 mulD (fCall 1 F__law_pu_least_of (aCons (fVar 1) (aNil))) (fVar 2)) [some (.tup l), some (.tup row), some (.int m), x] S = _
      have hb : (row.takeWhile isNon).length ≤ 1000 := Nat.le_trans (List.takeWhile_sublist _).length_le h2
      rw [q, e1, bind_ok, mul_small (by omega) (by omega) h4 h5]
  have hc2 : ∀ x, compF (gT 2 (gsCons (gN 1) (gsCons (gN 2) (gsNil)))) (bTrue) (f2 mulD (f2 subD (fB lenD (aCons (fVar 1) (aNil))) (fC (.int 1))) (fVar 2)) l (wipeD [some (.tup l), none, none, x] [1, 2]) S = .ok (l.map fun d => D.int ((((rowK d).length : Int) - 1) * manyK d)) S := fun x =>
    kcomp (φ := fun row m => ((row.length : Int) - 1) * m) hl hk fun row m h1 h2 h3 h4 h5 => by
      obtain ⟨k1, _⟩ := values_parts h3
      show (match mulD (.int ((row.length : Int) - 1)) (.int m) with | some d => Res.ok d S | none => .bad) = _
      rw [mul_small (by omega) (by omega) h4 h5]
  have q : okR (F__law_pu_ends [.tup l] S) fun d S' => d = .tup [.int (leastS l), .int (fullS l)] ∧ S' = S := by
    unfold F__law_pu_ends
    rw [w_runF]
    show okS (B__law_pu_ends [some (.tup l), none, none, none] S) _ _
    unfold B__law_pu_ends
    simp only [w_seq, w_asg, w_ret, w_b, w_cons, w_nil, w_comp, w_q, w_var, w_tup]
    simp only [List.getElem?_cons_zero, List.getElem?_cons_succ, List.set_cons_zero, List.set_cons_succ, List.length_cons, List.length_nil, Option.some.injEq, exists_eq_left', exists_eq_left, D.int.injEq, D.bl.injEq, D.ref.injEq, D.lst.injEq, D.tup.injEq, D.str.injEq, and_true, true_and, List.cons.injEq, gN, forall_eq, forall_const]
    refine ⟨l, .inr (.inr rfl), _, _, hc _, by rw [List.length_map]; exact Nat.le_trans hz (by decide), _, _, sum_map _ _ _, l, .inr (.inr rfl), _, _, hc2 _, by rw [List.length_map]; exact Nat.le_trans hz (by decide), _, _, sum_map _ _ _, by decide, ?_⟩
    first | exact ⟨rfl, rfl⟩ | exact ⟨⟨rfl, rfl⟩, rfl⟩ | rfl
  obtain ⟨d, S', e, rfl, rfl⟩ := q.get
  exact e
end K01
/-! spans -/
namespace K01
open PySem PySem.Spec PyProof.Rows L2 PF
def spansS (l : List D) : List Int := (l.filter fun d => decide (0 < manyK d)).map fun d => ((rowK d).length : Int) - 1 - ((rowK d).takeWhile isNon).length
def spanS (l : List D) : Int := (spansS l).foldl max 0
theorem max_cons (xs : List Int) (S : Sto) : maxD [.lst (.int 0 :: xs.map .int)] S = some (.int (xs.foldl max 0), S) := by
  show ((lItems (.lst (.int 0 :: xs.map .int))).bind intsD).bind _ = _
  have e : intsD (xs.map D.int) = some xs := by
    have := ints_map (fun i : Int => i) xs
    simpa using this
  have e2 : (lItems (D.lst (.int 0 :: xs.map .int))).bind intsD = some (0 :: xs) := by
    show (intsD (xs.map D.int)).map ((0 : Int) :: ·) = _
    rw [e]; rfl
  rw [e2]
  rfl
/-- as kcomp, with a condition on how many -/
theorem kcompP {i j : Nat} {t : BF} {elt : EF} {σ : Stt} {S : Sto} {φ : List D → Int} {l : List D} (hl : ∀ d ∈ l, Pl d) (hk : ∀ d ∈ l, kindB d = true)
    (ht : ∀ row m, t ((σ.set i (some (.tup row))).set j (some (.int m))) S = .ok (decide (0 < m)) S)
    (he : ∀ row m, (∀ d ∈ row, Pl d) → row.length ≤ 1000 → valuesB (.tup row) = true → elt ((σ.set i (some (.tup row))).set j (some (.int m))) S = .ok (.int (φ row)) S) :
    compF (gT 2 (gsCons (gN i) (gsCons (gN j) gsNil))) t elt l σ S = .ok ((l.filter fun d => decide (0 < manyK d)).map fun d => D.int (φ (rowK d))) S := comp_pure fun d hd => by
  obtain ⟨row, m, rfl, h1, h2, h3⟩ := kind_parts (hk d hd)
  have hp := hl _ hd
  cases hp with
  | tup q1 q2 =>
    have hr := q1 (.tup row) (by simp)
    cases hr with
    | tup q3 q4 => exact ⟨_, w_gT2, ht row m, fun _ => he row m q3 q4 h1⟩
theorem span_of_eq {row : List D} (h1 : ∀ d ∈ row, Pl d) (h2 : row.length ≤ 1000) (h3 : valuesB (.tup row) = true) (S : Sto) : F_span_of [.tup row] S = .ok (.int ((row.length : Int) - 1 - (row.takeWhile isNon).length)) S := by
  have e1 := least_eq h1 h2 (last_in h3) S
  have q : F_span_of [.tup row] S = Out.res (((F_least_of [.tup row] S).bind fun y S2 => match subD (.int ((row.length : Int) - 1)) y with | some d => Res.ok d S2 | none => .bad).out (startD 1 [.tup row]) fun d S1 => .rt d S1) := rfl
  rw [q, e1, bind_ok]
  rfl
theorem spans_map {l : List D} : ((l.filter fun d => decide (0 < manyK d)).map fun d => D.int (((rowK d).length : Int) - 1 - ((rowK d).takeWhile isNon).length)) = (spansS l).map .int := by
  unfold spansS
  rw [List.map_map]
  rfl
theorem crew_span_eq {l : List D} (hl : ∀ d ∈ l, Pl d) (hk : ∀ d ∈ l, kindB d = true) (hz : l.length ≤ 1000) (S : Sto) : F_Crew_span [crewD l] S = .ok (.int (spanS l)) S := by
  have hc : compF (gT 2 (gsCons (gN 1) (gsCons (gN 2) (gsNil)))) (bV (f2 gtD (fVar 2) (fC (.int 0)))) (fCall 1 F_span_of (aCons (fVar 1) (aNil))) l (wipeD [some (crewD l), none, none] [1, 2]) S = .ok ((spansS l).map .int) S := by
    rw [← spans_map]
    refine kcompP (φ := fun row => (row.length : Int) - 1 - (row.takeWhile isNon).length) hl hk (fun row m => rfl) fun row m h1 h2 h3 => ?_
    exact span_of_eq h1 h2 h3 S
  have hlen : ((spansS l).map D.int).length ≤ 1000 := by
    unfold spansS
    rw [List.length_map, List.length_map]
    exact Nat.le_trans (List.length_filter_le _ _) hz
  have e : fComp [1, 2] (iQ (fFld "Crew" "own_kinds" (fVar 0))) (gT 2 (gsCons (gN 1) (gsCons (gN 2) (gsNil)))) (bV (f2 gtD (fVar 2) (fC (.int 0)))) (fCall 1 F_span_of (aCons (fVar 1) (aNil))) [some (crewD l), none, none] S = .ok (.lst ((spansS l).map .int)) S := by
    have q : okR (fComp [1, 2] (iQ (fFld "Crew" "own_kinds" (fVar 0))) (gT 2 (gsCons (gN 1) (gsCons (gN 2) (gsNil)))) (bV (f2 gtD (fVar 2) (fC (.int 0)))) (fCall 1 F_span_of (aCons (fVar 1) (aNil))) [some (crewD l), none, none] S) fun d S' => d = .lst ((spansS l).map .int) ∧ S' = S := by
      rw [w_comp, own_at]
      exact ⟨_, _, hc, Nat.le_trans hlen (by decide), rfl, rfl⟩
    obtain ⟨d, S', e, rfl, rfl⟩ := q.get
    exact e
  have es : aStar (fComp [1, 2] (iQ (fFld "Crew" "own_kinds" (fVar 0))) (gT 2 (gsCons (gN 1) (gsCons (gN 2) (gsNil)))) (bV (f2 gtD (fVar 2) (fC (.int 0)))) (fCall 1 F_span_of (aCons (fVar 1) (aNil)))) aNil [some (crewD l), none, none] S = .ok ((spansS l).map .int) S := by
    unfold aStar
    rw [e]
    show Res.ok ((spansS l).map D.int ++ []) S = _
    rw [List.append_nil]
  have q : okR (F_Crew_span [crewD l] S) fun d S' => d = .int (spanS l) ∧ S' = S := by
    unfold F_Crew_span
    rw [w_runF]
    show okS (B_Crew_span [some (crewD l), none, none] S) _ _
    unfold B_Crew_span
    rw [w_ret, w_b, w_cons, w_lst, w_cons, w_c, es]
    refine ⟨?_, _, _, max_cons _ _, rfl, rfl⟩
    rw [List.length_cons]
    exact Nat.le_trans (Nat.succ_le_succ hlen) (by decide)
  obtain ⟨d, S', e9, rfl, rfl⟩ := q.get
  exact e9
theorem pu_span_eq {l : List D} (hl : ∀ d ∈ l, Pl d) (hk : ∀ d ∈ l, kindB d = true) (hz : l.length ≤ 1000) (S : Sto) : F__law_pu_span [.tup l] S = .ok (.int (spanS l)) S := by
  have hc : compF (gT 2 (gsCons (gN 1) (gsCons (gN 2) (gsNil)))) (bV (f2 gtD (fVar 2) (fC (.int 0)))) (fB intD (aCons (f2 subD (f2 subD (fB lenD (aCons (fVar 1) (aNil))) (fC (.int 1))) (fCall 1 F__law_pu_least_of (aCons (fVar 1) (aNil)))) (aNil))) l (wipeD [some (.tup l), none, none] [1, 2]) S = .ok ((spansS l).map .int) S := by
    rw [← spans_map]
    refine kcompP (φ := fun row => (row.length : Int) - 1 - (row.takeWhile isNon).length) hl hk (fun row m => rfl) fun row m h1 h2 h3 => ?_
    obtain ⟨_, _, _, k4⟩ := values_parts h3
    have e1 := pu_least_eq h1 h2 k4 S
    have q : okR ((fB intD (aCons (f2 subD (f2 subD (fB lenD (aCons (fVar 1) (aNil))) (fC (.int 1))) (fCall 1 F__law_pu_least_of (aCons (fVar 1) (aNil)))) (aNil))) [some (.tup l), some (.tup row), some (.int m)] S) fun d S' => d = .int ((row.length : Int) - 1 - (row.takeWhile isNon).length) ∧ S' = S := by
      simp only [w_seq, w_sif, w_bV, w_bT, w_bAnd, w_or, w_not, w_f1, w_f2, w_chain, w_ix, w_isi, w_tup, w_lst, w_new, w_and, w_if, w_c, w_asg, w_par, w_sub, w_app, w_for, w_ret, w_snil, w_b, w_call, w_cons, w_nil, w_q, w_r1, w_r2, w_oN, w_oS, w_sl, w_comp, w_runF, w_var]
      simp only [List.getElem?_cons_zero, List.getElem?_cons_succ, List.set_cons_zero, List.set_cons_succ, List.length_cons, List.length_nil, Option.some.injEq, exists_eq_left', exists_eq_left, D.int.injEq, D.bl.injEq, D.ref.injEq, D.lst.injEq, D.tup.injEq, D.str.injEq, and_true, true_and, List.cons.injEq, gN, forall_eq, forall_const]
      refine ⟨_, _, rfl, _, rfl, ?_⟩
      rw [e1]
      first | exact ⟨_, rfl, _, _, rfl, rfl, rfl⟩ | exact ⟨_, rfl, _, _, rfl, rfl⟩ | exact ⟨_, rfl, rfl⟩
    obtain ⟨d, S', e9, rfl, rfl⟩ := q.get
    exact e9
  have hlen : ((spansS l).map D.int).length ≤ 1000 := by
    unfold spansS
    rw [List.length_map, List.length_map]
    exact Nat.le_trans (List.length_filter_le _ _) hz
  have q : okR (F__law_pu_span [.tup l] S) fun d S' => d = .int (spanS l) ∧ S' = S := by
    unfold F__law_pu_span
    rw [w_runF]
    show okS (B__law_pu_span [some (.tup l), none, none] S) _ _
    unfold B__law_pu_span
    simp only [w_ret, w_b, w_cons, w_nil, w_f2, w_lst, w_c, w_comp, w_q, w_var]
    simp only [List.getElem?_cons_zero, List.getElem?_cons_succ, List.set_cons_zero, List.set_cons_succ, List.length_cons, List.length_nil, Option.some.injEq, exists_eq_left', exists_eq_left, D.int.injEq, D.bl.injEq, D.ref.injEq, D.lst.injEq, D.tup.injEq, D.str.injEq, and_true, true_and, List.cons.injEq, gN, forall_eq, forall_const]
    refine ⟨by decide, l, .inr (.inr rfl), _, _, hc, Nat.le_trans hlen (by decide), _, if_pos ?_, _, _, max_cons _ _, ?_⟩
    · show 1 + ((spansS l).map D.int).length ≤ 16777216
      omega
    · first | exact ⟨rfl, rfl⟩ | exact rfl
  obtain ⟨d, S', e9, rfl, rfl⟩ := q.get
  exact e9
end K01
/-! a crew is right -/
namespace K01
open PySem PySem.Spec PyProof.Rows L2 PF
def toldD (l : List D) : D := .lst [.tup l, .int (manyS l), .int (leastS l), .int (fullS l), .int (spanS l)]
theorem fprop_at {F : FF} {f : EF} {σ : Stt} {S : Sto} {l : List D} {u : D} (hf : f σ S = .ok (crewD l) S) (hF : F [crewD l] S = .ok u S) : fProp "Crew" F f σ S = .ok u S := by
  unfold fProp
  rw [hf]
  show (if ("Crew" : Str) = "Crew" then (match F [crewD l] S with | .ok u S2 => Res.ok u S2 | _ => .bad) else .bad) = _
  rw [if_pos rfl, hF]
end K01
/-! what is heard of a crew -/
namespace K01
open PySem PySem.Spec PyProof.Rows L2 PF
theorem make_ok {t : D} {l : List D} {f : EF} {σ : Stt} {S : Sto} (hf : f σ S = .ok t S) (h : Pl t) (e : seqD t = some l) (hw : wrongD t = none) : fMake "Crew" 1 F_Crew (aCons f aNil) σ S = .ok (crewD l) S := by
  have q : aCons f aNil σ S = .ok [t] S := by
    unfold aCons
    rw [hf]; rfl
  unfold fMake
  rw [q]
  show (if [t].length = 1 then (match F_Crew [.raw .non, t] S with | .ok fs S2 => Res.ok (D.ins "Crew" fs) S2 | .exc c' fs S2 => .exc c' fs S2 | .bad => .bad) else .bad) = _
  rw [if_pos (show [t].length = 1 from rfl), crew_made h e hw S]
  rfl
theorem make_exc {t x : D} {f : EF} {σ : Stt} {S : Sto} (hf : f σ S = .ok t S) (h : Pl t) (hw : wrongD t = some x) : fMake "Crew" 1 F_Crew (aCons f aNil) σ S = .exc "InvalidCrew" [("value", x)] S := by
  have q : aCons f aNil σ S = .ok [t] S := by
    unfold aCons
    rw [hf]; rfl
  unfold fMake
  rw [q]
  show (if [t].length = 1 then (match F_Crew [.raw .non, t] S with | .ok fs S2 => Res.ok (D.ins "Crew" fs) S2 | .exc c' fs S2 => .exc c' fs S2 | .bad => .bad) else .bad) = _
  rw [if_pos (show [t].length = 1 from rfl), crew_refused h hw S]
theorem heard_ok {t : D} {l : List D} {f : EF} {σ : Stt} {S : Sto} (hf : f σ S = .ok t S) (h : Pl t) (e : seqD t = some l) (hw : wrongD t = none) : fHeard good (fMake "Crew" 1 F_Crew (aCons f aNil)) σ S = .ok (.tup [.str "told", crewD l]) S :=
  hearD_ok (g := fun S => fMake "Crew" 1 F_Crew (aCons f aNil) σ S) (make_ok hf h e hw)
theorem heard_exc {t x : D} {f : EF} {σ : Stt} {S : Sto} (hf : f σ S = .ok t S) (h : Pl t) (hw : wrongD t = some x) : fHeard good (fMake "Crew" 1 F_Crew (aCons f aNil)) σ S = .ok (.tup [.str "InvalidCrew", x]) S := by
  unfold fHeard hearD
  dsimp only
  rw [make_exc hf h hw]
  rfl
end K01
/-! kinds compared -/
namespace K01
open PySem PySem.Spec PyProof.Rows L2 PF
theorem toPs_flat : ∀ {l : List D}, (∀ d ∈ l, isNon d = true ∨ isInt d = true) → ∃ ps, toPs l = some ps ∧ PyData.canLayAll0 ps = true ∧ PyData.depthAll ps ≤ 1
  | [], _ => ⟨[], rfl, rfl, by decide⟩
  | d :: l, h => by
    obtain ⟨ps, e1, e2, e3⟩ := toPs_flat (l := l) fun x hx => h x (List.mem_cons_of_mem _ hx)
    have hd := h d List.mem_cons_self
    cases d with
    | non =>
      refine ⟨.none :: ps, ?_, ?_, ?_⟩
      · show (match toP .non, toPs l with | some p, some q => some (p :: q) | _, _ => none) = _
        rw [e1]; rfl
      · exact e2
      · show max 0 (PyData.depthAll ps) ≤ 1
        omega
    | int i =>
      refine ⟨.int i :: ps, ?_, ?_, ?_⟩
      · show (match toP (.int i), toPs l with | some p, some q => some (p :: q) | _, _ => none) = _
        rw [e1]; rfl
      · exact e2
      · show max 0 (PyData.depthAll ps) ≤ 1
        omega
    | _ => rcases hd with z | z <;> cases z
theorem row_flat {l : List D} (h : valuesB (.tup l) = true) : ∀ d ∈ l, isNon d = true ∨ isInt d = true := by
  obtain ⟨_, _, _, h4⟩ := values_parts h
  intro d hd
  rw [← List.takeWhile_append_dropWhile (p := isNon) (l := l)] at hd
  rcases List.mem_append.mp hd with z | z
  · exact .inl (take_all l d z)
  · exact .inr (List.all_eq_true.mp h4 d z)
theorem toPs_kinds : ∀ {l : List D}, (∀ d ∈ l, kindB d = true) → ∃ ps, toPs l = some ps ∧ PyData.canLayAll0 ps = true ∧ PyData.depthAll ps ≤ 3
  | [], _ => ⟨[], rfl, rfl, by decide⟩
  | d :: l, h => by
    obtain ⟨ps, e1, e2, e3⟩ := toPs_kinds (l := l) fun x hx => h x (List.mem_cons_of_mem _ hx)
    obtain ⟨row, m, rfl, h1, _⟩ := kind_parts (h d List.mem_cons_self)
    obtain ⟨rs, f1, f2, f3⟩ := toPs_flat (row_flat h1)
    have ek : toP (.tup [.tup row, .int m]) = some (.tuple [.tuple rs, .int m]) := by
      show (match toP (.tup row), toPs [.int m] with | some p, some q => some (p :: q) | _, _ => none).map PyData.tuple = _
      have er : toP (.tup row) = some (.tuple rs) := by
        show (toPs row).map PyData.tuple = _
        rw [f1]; rfl
      rw [er]; rfl
    refine ⟨.tuple [.tuple rs, .int m] :: ps, ?_, ?_, ?_⟩
    · show (match toP (.tup [.tup row, .int m]), toPs l with | some p, some q => some (p :: q) | _, _ => none) = _
      rw [ek, e1]
    · show ((PyData.canLayAll0 rs && (true && true)) && PyData.canLayAll0 ps) = true
      rw [f2, e2]; rfl
    · show max (max (PyData.depthAll rs + 1) (max 0 0) + 1) (PyData.depthAll ps) ≤ 3
      omega
theorem kinds_eq_refl {l : List D} (hk : ∀ d ∈ l, kindB d = true) (hne : l ≠ []) : eqD (.tup l) (.tup l) = some (.bl true) := by
  obtain ⟨ps, e1, e2, e3⟩ := toPs_kinds hk
  obtain ⟨a, l', rfl⟩ := List.exists_cons_of_ne_nil hne
  have ep : toP (.tup (a :: l')) = some (.tuple ps) := by
    show (toPs (a :: l')).map PyData.tuple = _
    rw [e1]; rfl
  have es : SeqAt.shaped (.tuple ps) = true := by
    unfold SeqAt.shaped
    have h1 : PyData.canLay0 (.tuple ps) = true := e2
    have h2 : PyData.depth (.tuple ps) ≤ 64 := by show PyData.depthAll ps + 1 ≤ 64; omega
    rw [h1, decide_eq_true h2]; rfl
  have ev : PyData.eqv (.tuple ps) (.tuple ps) = true := SeqAt.eqv_refl _ e2
  have e : eqD (.tup (a :: l')) (.tup (a :: l')) = (eqP (.tup (a :: l')) (.tup (a :: l'))).map D.bl := rfl
  rw [e]
  unfold eqP
  rw [ep]
  show (if (SeqAt.shaped (.tuple ps) && SeqAt.shaped (.tuple ps)) = true then some (PyData.eqv (.tuple ps) (.tuple ps)) else none).map D.bl = _
  rw [es, Bool.and_self, if_pos rfl, ev]
  rfl
end K01
/-! a crew is right -/
namespace K01
open PySem PySem.Spec PyProof.Rows L2 PF
theorem neT0 (l : List D) : neD (.tup l) (.tup []) = some (.bl !l.isEmpty) := by
  cases l <;> rfl
theorem crew_eq_self {l : List D} (hk : ∀ d ∈ l, kindB d = true) (hne : l ≠ []) (S : Sto) : F_Crew___eq__ [crewD l, crewD l] S = .ok (.bl true) S := by
  have q : F_Crew___eq__ [crewD l, crewD l] S = Out.res (((match eqD (.tup l) (.tup l) with | some d => Res.ok d S | none => .bad) : Res D).out (startD 2 [crewD l, crewD l]) fun d S1 => .rt d S1) := by rfl
  rw [q, kinds_eq_refl hk hne]
  rfl
theorem eqI_at {f g : EF} {σ : Stt} {S : Sto} {l : List D} (hk : ∀ d ∈ l, kindB d = true) (hne : l ≠ []) (hf : f σ S = .ok (crewD l) S) (hg : g σ S = .ok (crewD l) S) : fEqI "Crew" F_Crew___eq__ f g σ S = .ok (.bl true) S := by
  unfold fEqI
  rw [hf, bind_ok, hg, bind_ok]
  show (if ("Crew" : Str) = "Crew" ∧ (isaC S "Crew" (crewD l)).isSome then (match F_Crew___eq__ [crewD l, crewD l] S with | .ok (.bl k) S3 => Res.ok (D.bl k) S3 | _ => .bad) else .bad) = _
  rw [if_pos ⟨rfl, rfl⟩, crew_eq_self hk hne S]
theorem wrong_pn {t x : D} (h : PN 5 t) (hw : wrongD t = some x) : PN 5 x := by
  unfold wrongD at hw
  cases h with
  | @tup n l h1 h2 =>
    have hw : (if l.length = 1 ∨ l.length = 2 ∨ l.length = 3 then (l.filter fun d => !kindB d).head? else some (.tup l)) = some x := hw
    split at hw
    · exact (h1 x (List.mem_filter.mp (List.mem_of_mem_head? hw)).1).up
    · cases hw; exact .tup h1 h2
  | @lst n l h1 h2 =>
    have hw : (if l.length = 1 ∨ l.length = 2 ∨ l.length = 3 then (l.filter fun d => !kindB d).head? else some (.lst l)) = some x := hw
    split at hw
    · exact (h1 x (List.mem_filter.mp (List.mem_of_mem_head? hw)).1).up
    · cases hw; exact .lst h1 h2
  | non => cases hw; exact .non _
  | bl _ b => cases hw; exact .bl _ b
  | int _ i => cases hw; exact .int _ i
  | str _ y hy => cases hw; exact .str _ y hy
  | dct0 => cases hw; exact .dct0 _
  | dct1 h1 => cases hw; exact .dct1 h1
end K01
/-! _law_crew_right -/
namespace K01
open PySem PySem.Spec PyProof.Rows L2 PF
theorem right_parts {t : D} (hw : wrongD t = none) : ∃ l, seqD t = some l ∧ l ≠ [] ∧ l.length ≤ 3 ∧ ∀ d ∈ l, kindB d = true := by
  unfold wrongD at hw
  cases e : seqD t with
  | none => rw [e] at hw; cases hw
  | some l =>
    rw [e] at hw
    have hw : (if l.length = 1 ∨ l.length = 2 ∨ l.length = 3 then (l.filter fun d => !kindB d).head? else some t) = none := hw
    split at hw
    · rename_i hn
      exact ⟨l, rfl, fun z => by rw [z] at hn; simp at hn, by omega, filter_none hw⟩
    · cases hw
end K01
/-! things for crews -/
namespace K01
open PySem PySem.Spec PyProof.Rows L2 PF
theorem addL {a b : List D} (h : a.length + b.length ≤ 1000) : addD (.lst a) (.lst b) = some (.lst (a ++ b)) := if_pos (Nat.le_trans h (by decide))
theorem kinds_pn {l : List D} (h : KindsD l) : ∀ d ∈ l, PN 2 d := fun d hd => kind_pn (h.2.2 d hd)
theorem PN.up4 {n : Nat} {d : D} (h : PN n d) : PN (n + 1) d := h.up
theorem pn3_4 {d : D} (h : PN 3 d) : PN 4 d := h.up
theorem pn2_4 {d : D} (h : PN 2 d) : PN 4 d := h.up.up
theorem mem_set' {l : List D} {i : Nat} {x d : D} (h : d ∈ l.set i x) : d ∈ l ∨ d = x := List.mem_or_eq_of_mem_set h
theorem last_at2 {l : List D} (h : l ≠ []) : ∃ d, L2.atI l (-1) = some d ∧ d ∈ l := by
  refine ⟨_, last_at h, ?_⟩
  rw [List.getLastD_eq_getLast?]
  cases e : l.getLast? with
  | none => exact absurd (List.getLast?_eq_none_iff.mp e) h
  | some d => exact List.mem_of_getLast? e
end K01
/-! crews compared -/
namespace K01
open PySem PySem.Spec PyProof.Rows L2 PF
/-- the kinds of a crew -/
def KB (l : List D) : Prop := l ≠ [] ∧ l.length ≤ 3 ∧ ∀ d ∈ l, kindB d = true
theorem kindB_pn {d : D} (h : kindB d = true) : PN 2 d := by
  obtain ⟨row, m, rfl, h1, _⟩ := kind_parts h
  obtain ⟨_, h2, _⟩ := values_parts h1
  refine .tup (fun d hd => ?_) (by simp)
  simp only [List.mem_cons, List.not_mem_nil, or_false] at hd
  rcases hd with rfl | rfl
  · refine .tup (fun d hd => ?_) (by omega)
    rcases row_flat h1 d hd with z | z
    · cases d with
      | non => exact .non _
      | _ => cases z
    · cases d with
      | int i => exact .int _ _
      | _ => cases z
  · exact .int _ _
theorem KB.pl {l : List D} (h : KB l) : Pl (.tup l) ∧ Pl (.lst l) :=
  ⟨.tup (fun d hd => (kindB_pn (h.2.2 d hd)).pl) (by have := h.2.1; omega), .lst (fun d hd => (kindB_pn (h.2.2 d hd)).pl) (by have := h.2.1; omega)⟩
theorem KB.wrong {l : List D} (h : KB l) {t : D} (e : seqD t = some l) : wrongD t = none := by
  unfold wrongD
  rw [e]
  have hp := List.length_pos_iff.mpr h.1
  have := h.2.1
  show (if l.length = 1 ∨ l.length = 2 ∨ l.length = 3 then (l.filter fun d => !kindB d).head? else some t) = none
  rw [if_pos (by omega), List.head?_eq_none_iff, List.filter_eq_nil_iff]
  intro d hd
  rw [h.2.2 d hd]
  decide
theorem kinds_kb {l : List D} (h : KindsD l) : KB l := ⟨h.1, h.2.1, fun d hd => kind_of (h.2.2 d hd)⟩
theorem made_ok {l : List D} (h : KB l) (S : Sto) : F__law_pd_made [.tup l] S = .ok (crewD l) S := by
  have e := make_ok (f := fB listQ (aCons (fVar 0) aNil)) (σ := [some (.tup l)]) (S := S) (t := .lst l) rfl h.pl.2 rfl (h.wrong rfl)
  have q : F__law_pd_made [.tup l] S = Out.res ((fMake "Crew" 1 F_Crew (aCons (fB listQ (aCons (fVar 0) aNil)) aNil) [some (.tup l)] S).out [some (.tup l)] fun d S1 => .rt d S1) := by rfl
  rw [q, e]
  rfl
theorem kinds_cmp {l m : List D} (hl : KB l) (hm : KB m) : ∃ b, eqD (.tup l) (.tup m) = some (.bl b) ∧ eqD (.tup m) (.tup l) = some (.bl b) := by
  have one : ∀ {k : List D}, KB k → ∃ a l' ps, k = a :: l' ∧ toP (.tup k) = some (.tuple ps) ∧ SeqAt.shaped (.tuple ps) = true := fun {k} hk => by
    obtain ⟨ps, e1, e2, e3⟩ := toPs_kinds hk.2.2
    obtain ⟨a, l', rfl⟩ := List.exists_cons_of_ne_nil hk.1
    refine ⟨a, l', ps, rfl, ?_, ?_⟩
    · show (toPs (a :: l')).map PyData.tuple = _
      rw [e1]; rfl
    · unfold SeqAt.shaped
      have h1 : PyData.canLay0 (.tuple ps) = true := e2
      have h2 : PyData.depth (.tuple ps) ≤ 64 := by show PyData.depthAll ps + 1 ≤ 64; omega
      rw [h1, decide_eq_true h2]; rfl
  obtain ⟨a, l', ps, rfl, p1, p2⟩ := one hl
  obtain ⟨b, m', qs, rfl, q1, q2⟩ := one hm
  have cmp : ∀ (x y : D) (xs ys : List D) (rs ss : List PyData), toP (.tup (x :: xs)) = some (.tuple rs) → SeqAt.shaped (.tuple rs) = true → toP (.tup (y :: ys)) = some (.tuple ss) → SeqAt.shaped (.tuple ss) = true →
      eqD (.tup (x :: xs)) (.tup (y :: ys)) = some (.bl (PyData.eqv (.tuple rs) (.tuple ss))) := fun x y xs ys rs ss g1 g2 g3 g4 => by
    have e : eqD (.tup (x :: xs)) (.tup (y :: ys)) = (eqP (.tup (x :: xs)) (.tup (y :: ys))).map D.bl := rfl
    rw [e]
    unfold eqP
    rw [g1, g3]
    show (if (SeqAt.shaped (.tuple rs) && SeqAt.shaped (.tuple ss)) = true then some (PyData.eqv (.tuple rs) (.tuple ss)) else none).map D.bl = _
    rw [g2, g4, Bool.and_self, if_pos rfl]
    rfl
  exact ⟨_, cmp _ _ _ _ _ _ p1 p2 q1 q2, by rw [cmp _ _ _ _ _ _ q1 q2 p1 p2, PySem.W.eqv_comm]⟩
theorem crew_cmp {l m : List D} {b : Bool} (h : eqD (.tup l) (.tup m) = some (.bl b)) (S : Sto) : F_Crew___eq__ [crewD l, crewD m] S = .ok (.bl b) S := by
  have q : F_Crew___eq__ [crewD l, crewD m] S = Out.res (((match eqD (.tup l) (.tup m) with | some d => Res.ok d S | none => .bad) : Res D).out (startD 2 [crewD l, crewD m]) fun d S1 => .rt d S1) := by rfl
  rw [q, h]
  rfl
theorem eqI_cmp {f g : EF} {σ : Stt} {S : Sto} {l m : List D} {b : Bool} (hb : eqD (.tup l) (.tup m) = some (.bl b)) (hf : f σ S = .ok (crewD l) S) (hg : g σ S = .ok (crewD m) S) : fEqI "Crew" F_Crew___eq__ f g σ S = .ok (.bl b) S := by
  unfold fEqI
  rw [hf, bind_ok, hg, bind_ok]
  show (if ("Crew" : Str) = "Crew" ∧ (isaC S "Crew" (crewD m)).isSome then (match F_Crew___eq__ [crewD l, crewD m] S with | .ok (.bl k) S3 => Res.ok (D.bl k) S3 | _ => .bad) else .bad) = _
  rw [if_pos ⟨rfl, rfl⟩, crew_cmp hb S]
theorem eqI_else {f g : EF} {σ : Stt} {S : Sto} {l : List D} {d : D} (hd : isaC S "Crew" d = some false) (hf : f σ S = .ok (crewD l) S) (hg : g σ S = .ok d S) : fEqI "Crew" F_Crew___eq__ f g σ S = .ok (.bl false) S := by
  have q : F_Crew___eq__ [crewD l, d] S = Out.res ((((match isaC S "Crew" d with | some b => Res.ok (.bl b) S | none => .bad) : Res D).bind fun x S1 => match x with
      | .bl true => f2 eqD (fFld "Crew" "own_kinds" (fVar 0)) (fFld "Crew" "own_kinds" (fVar 1)) [some (crewD l), some d] S1
      | .bl false => Res.ok (.bl false) S1
      | _ => .bad).out (startD 2 [crewD l, d]) fun d S1 => .rt d S1) := by rfl
  have e : F_Crew___eq__ [crewD l, d] S = .ok (.bl false) S := by
    rw [q, hd]
    rfl
  unfold fEqI
  rw [hf, bind_ok, hg, bind_ok]
  show (if ("Crew" : Str) = "Crew" ∧ (isaC S "Crew" d).isSome then (match F_Crew___eq__ [crewD l, d] S with | .ok (.bl k) S3 => Res.ok (D.bl k) S3 | _ => .bad) else .bad) = _
  rw [if_pos ⟨rfl, by rw [hd]; rfl⟩, e]
theorem cut_to {l : List D} {r : Int} (h0 : 0 ≤ r) : PF.cutD l none (some r) = l.take r.toNat := by
  obtain ⟨n, rfl⟩ := Int.eq_ofNat_of_zero_le h0
  unfold PF.cutD
  rw [HT.sIx_none]
  show List.take (HT.sIx l.length l.length (some (n : Int)) - 0) (List.drop 0 l) = _
  rw [HT.sIx_nat, List.drop_zero, Nat.sub_zero, Int.toNat_natCast]
  by_cases h : n ≤ l.length
  · rw [Nat.min_eq_left h]
  · rw [Nat.min_eq_right (by omega), List.take_length, List.take_of_length_le (by omega)]
theorem cut_from {l : List D} {r : Int} (h0 : 0 ≤ r) : PF.cutD l (some r) none = l.drop r.toNat := by
  obtain ⟨n, rfl⟩ := Int.eq_ofNat_of_zero_le h0
  unfold PF.cutD
  rw [HT.sIx_none]
  show List.take (l.length - HT.sIx l.length 0 (some (n : Int))) (List.drop (HT.sIx l.length 0 (some (n : Int))) l) = _
  rw [HT.sIx_nat, Int.toNat_natCast]
  by_cases h : n ≤ l.length
  · rw [Nat.min_eq_left h, List.take_of_length_le (by rw [List.length_drop]; omega)]
  · rw [Nat.min_eq_right (by omega), Nat.sub_self, List.take_zero, List.drop_eq_nil_of_le (by omega)]
/-- one kind otherwise -/
theorem swap_kb {l : List D} {d : D} {n : Nat} (h : KB l) (hn : n < l.length) (hd : kindB d = true) : KB (l.take n ++ [d] ++ l.drop (n + 1)) := by
  obtain ⟨h1, h2, h3⟩ := h
  refine ⟨by simp, ?_, fun x hx => ?_⟩
  · simp only [List.length_append, List.length_take, List.length_drop, List.length_cons, List.length_nil]
    omega
  · simp only [List.mem_append, List.mem_singleton] at hx
    rcases hx with (z | z) | z
    · exact h3 x (List.mem_of_mem_take z)
    · rw [z]; exact hd
    · exact h3 x (List.mem_of_mem_drop z)
theorem kind_m {row : List D} {m : Int} (hr : Row row) (hl : row.length ≤ 41) (h0 : 0 ≤ m) (h1 : m ≤ M30) : kindB (.tup [.tup row, .int m]) = true := by
  show (valuesB (.tup row) && countB (.int m)) = true
  rw [row_values hr hl, countB_int, decide_eq_true h0, decide_eq_true h1]
  rfl
theorem row_non {row : List D} (h : Row row) : Row (.non :: row) := by
  obtain ⟨n, xs, rfl, h1, h2⟩ := h
  exact ⟨n + 1, xs, by rw [List.replicate_succ]; rfl, h1, h2⟩
end K01
/-! what may raise: equations -/
namespace K01
open PySem PySem.Spec PyProof.Rows L2 PF
section
variable {t : BF} {a rest : SF} {f : EF} {σ : Stt} {S S' : Sto} {c fl : Str} {fs : List (Str × D)} {d : D}
theorem if_raise (ht : t σ S = .ok true S) (hf : f σ S = .ok d S) : sSeq (sIf t (sRaise c fl f) sNil) rest σ S = .exc σ c [(fl, d)] S := by
  have e : sIf t (sRaise c fl f) sNil σ S = .exc σ c [(fl, d)] S := by
    unfold sIf
    rw [ht]
    show sRaise c fl f σ S = _
    unfold sRaise
    rw [hf]
    rfl
  unfold sSeq
  rw [e]
  rfl
theorem if_skip (ht : t σ S = .ok false S) : sSeq (sIf t a sNil) rest σ S = rest σ S := by
  have e : sIf t a sNil σ S = .nx σ S := by
    unfold sIf
    rw [ht]
    rfl
  unfold sSeq
  rw [e]
  rfl
theorem drop_exc (hf : f σ S = .exc c fs S') : sSeq (sDrop f) rest σ S = .exc σ c fs S' := by
  unfold sSeq sDrop
  rw [hf]
  rfl
theorem drop_ok (hf : f σ S = .ok d S') : sSeq (sDrop f) rest σ S = rest σ S' := by
  unfold sSeq sDrop
  rw [hf]
  rfl
theorem ret_of {r : Res D} (h : f σ S = r) : (sRet f σ S).res = r := by
  unfold sRet
  rw [h]
  cases r <;> rfl
theorem asg_of {g : GF} {σ1 : Stt} (h : f σ S = .ok d S') (hg : g d σ = some σ1) : sSeq (sAsg f g) rest σ S = rest σ1 S' := by
  unfold sSeq sAsg
  rw [h]
  show (match g d σ with | some σ1 => Out.nx σ1 S' | none => .bad).bind rest = _
  rw [hg]
  rfl
theorem eq_of {r : Res D} {d : D} (q : okR r fun x S1 => x = d ∧ S1 = S) : r = .ok d S := by
  obtain ⟨x, S1, e, rfl, rfl⟩ := q.get
  exact e
theorem eq_ofB {r : Res Bool} {d : Bool} (q : okR r fun x S1 => x = d ∧ S1 = S) : r = .ok d S := by
  obtain ⟨x, S1, e, rfl, rfl⟩ := q.get
  exact e
theorem eq_ofL {r : Res (List D)} {d : List D} (q : okR r fun x S1 => x = d ∧ S1 = S) : r = .ok d S := by
  obtain ⟨x, S1, e, rfl, rfl⟩ := q.get
  exact e
end
def wholeB (d : D) (a b : Int) : Bool := match d with
  | .int i => decide (a ≤ i) && decide (i ≤ b)
  | _ => false
theorem whole_eq (i a b : Int) : wholeB (.int i) a b = (decide (a ≤ i) && decide (i ≤ b)) := rfl
theorem whole_int {d : D} {a b : Int} (h : wholeB d a b = true) : ∃ i, d = .int i ∧ a ≤ i ∧ i ≤ b := by
  cases d with
  | int i =>
    obtain ⟨h1, h2⟩ := Bool.and_eq_true_iff.mp h
    exact ⟨i, rfl, of_decide_eq_true h1, of_decide_eq_true h2⟩
  | _ => cases h
theorem whole_count (d : D) : countB d = wholeB d 0 M30 := by cases d <;> rfl
theorem between_eq {d : D} (h : Pl d) (a b : Int) (S : Sto) : F_is_between [d, .int a, .int b] S = .ok (.bl (wholeB d a b)) S := by
  apply eq_of
  unfold F_is_between
  rw [w_runF]
  show okS (B_is_between [some d, some (.int a), some (.int b)] S) _ _
  unfold B_is_between
  simp only [w_seq, w_sif, w_bV, w_bT, w_bAnd, w_or, w_not, w_f1, w_f2, w_chain, w_ix, w_isi, w_tup, w_lst, w_new, w_and, w_if, w_c, w_asg, w_par, w_sub, w_app, w_for, w_ret, w_snil, w_b, w_call, w_cons, w_nil, w_q, w_r1, w_r2, w_oN, w_oS, w_sl, w_comp, w_runF, w_var]
  simp only [List.getElem?_cons_zero, List.getElem?_cons_succ, List.set_cons_zero, List.set_cons_succ, List.length_cons, List.length_nil, Option.some.injEq, exists_eq_left', exists_eq_left, D.int.injEq, D.bl.injEq, D.ref.injEq, D.lst.injEq, D.tup.injEq, D.str.injEq, and_true, true_and, List.cons.injEq, gN, forall_eq, forall_const]
  rw [integer_eq h S]
  cases h with
  | int i =>
    rw [whole_eq]
    refine ⟨_, rfl, fun _ => ⟨_, rfl, fun h1 => ⟨_, rfl, ?_⟩, fun h1 => ?_⟩, fun z => nomatch z⟩
    · have h1 : decide (a ≤ i) = true := h1
      rw [h1]
      first | exact ⟨rfl, rfl⟩ | rfl
    · have h1 : decide (a ≤ i) = false := h1
      rw [h1]
      first | exact ⟨rfl, rfl⟩ | rfl
  | _ => exact ⟨_, rfl, fun z => (nomatch (show false = true from z)), fun _ => by first | exact ⟨rfl, rfl⟩ | rfl⟩
theorem whole_to_eq {d : D} (h : Pl d) (a b : Int) (S : Sto) : F__law_is_whole_to [d, .int a, .int b] S = .ok (.bl (wholeB d a b)) S := by
  apply eq_of
  unfold F__law_is_whole_to
  rw [w_runF]
  show okS (B__law_is_whole_to [some d, some (.int a), some (.int b)] S) _ _
  unfold B__law_is_whole_to
  simp only [w_seq, w_sif, w_bV, w_bT, w_bAnd, w_or, w_not, w_f1, w_f2, w_chain, w_ix, w_isi, w_tup, w_lst, w_new, w_and, w_if, w_c, w_asg, w_par, w_sub, w_app, w_for, w_ret, w_snil, w_b, w_call, w_cons, w_nil, w_q, w_r1, w_r2, w_oN, w_oS, w_sl, w_comp, w_runF, w_var]
  simp only [List.getElem?_cons_zero, List.getElem?_cons_succ, List.set_cons_zero, List.set_cons_succ, List.length_cons, List.length_nil, Option.some.injEq, exists_eq_left', exists_eq_left, D.int.injEq, D.bl.injEq, D.ref.injEq, D.lst.injEq, D.tup.injEq, D.str.injEq, and_true, true_and, List.cons.injEq, gN, forall_eq, forall_const]
  cases h with
  | int i =>
    rw [whole_eq]
    refine ⟨_, rfl, fun _ => ⟨_, rfl, _, rfl, _, rfl, fun _ => ⟨_, rfl, _, rfl, fun h1 => ⟨_, rfl, ?_⟩, fun h1 => ?_⟩, fun z => (nomatch z)⟩, fun z => (nomatch z)⟩
    · have h1 : decide (a ≤ i) = true := h1
      rw [h1]
      first | exact ⟨rfl, rfl⟩ | rfl
    · have h1 : decide (a ≤ i) = false := h1
      rw [h1]
      first | exact ⟨rfl, rfl⟩ | rfl
  | bl b => exact ⟨_, rfl, fun _ => ⟨_, rfl, _, rfl, _, rfl, fun z => (nomatch z), fun _ => rfl⟩, fun z => (nomatch z)⟩
  | _ => exact ⟨_, rfl, fun z => (nomatch (show false = true from z)), fun _ => rfl⟩
/-! ### what the methods of a crew do -/
theorem meth_at {m : Str} {n : Nat} {F : FF} {g : EF} {f : AF} {σ : Stt} {S : Sto} {l : List D} {ds : List D} (hg : g σ S = .ok (crewD l) S) (hf : f σ S = .ok ds S) (hn : ds.length = n) (hm : (m == ("own_kinds" : Str)) = false) : fMeth "Crew" m n F g f σ S = F (crewD l :: ds) S := by
  unfold fMeth
  rw [hg, bind_ok]
  show (if ("Crew" : Str) = "Crew" ∧ ([(("own_kinds" : Str), D.tup l)] : List (Str × D)).lookup m = none then (f σ S).bind fun ds S2 => if ds.length = n then F (crewD l :: ds) S2 else .bad else .bad) = _
  have e : ([(("own_kinds" : Str), D.tup l)] : List (Str × D)).lookup m = none := by
    rw [List.lookup_cons, hm]
    rfl
  rw [if_pos ⟨rfl, e⟩, hf, bind_ok, if_pos hn]
theorem test_not {n : Nat} {F : FF} {f : AF} {σ : Stt} {S : Sto} {ds : List D} {b : Bool} (hf : f σ S = .ok ds S) (hn : ds.length = n) (hF : F ds S = .ok (.bl b) S) : bNot (bT (fCall n F f)) σ S = .ok (!b) S := by
  have e : fCall n F f σ S = .ok (.bl b) S := by
    unfold fCall
    rw [hf, bind_ok, if_pos hn, hF]
  unfold bNot bT
  rw [e]
  rfl
theorem call_at {n : Nat} {F : FF} {f : AF} {σ : Stt} {S : Sto} {ds : List D} {r : Res D} (hf : f σ S = .ok ds S) (hn : ds.length = n) (hF : F ds S = r) : fCall n F f σ S = r := by
  unfold fCall
  rw [hf, bind_ok, if_pos hn, hF]
/-- the end of a deed: a refusal, a crew -/
abbrev Oc := (Str × Str × D) ⊕ List D
def doneR (o : Oc) (S : Sto) : Res D := match o with
  | .inl (c, f, x) => .exc c [(f, x)] S
  | .inr l => .ok (crewD l) S
def numO (d : D) : Oc := .inl ("InvalidNumber", "value", d)
theorem look_many_eq {d : D} (h : Pl d) (S : Sto) : F_look_at_many [d] S = if countB d = true then .ok .non S else .exc "InvalidNumber" [("value", d)] S := by
  show (B_look_at_many [some d] S).res = _
  have e := test_not (n := 1) (F := F_is_many) (f := aCons (fVar 0) aNil) (σ := [some d]) (S := S) (ds := [d]) rfl rfl (eq_of (many_eq h S))
  unfold B_look_at_many sIf
  rw [e]
  cases countB d <;> rfl
theorem look_kind_eq {l : List D} {d : D} (h : Pl d) (S : Sto) : F_Crew_look_at_kind [crewD l, d] S = if wholeB d 0 ((l.length : Int) - 1) = true then .ok .non S else .exc "InvalidNumber" [("value", d)] S := by
  show (B_Crew_look_at_kind [some (crewD l), some d] S).res = _
  have e := test_not (n := 3) (F := F_is_between) (f := aCons (fVar 1) (aCons (fC (.int 0)) (aCons (f2 subD (fB lenD (aCons (fFld "Crew" "own_kinds" (fVar 0)) aNil)) (fC (.int 1))) aNil))) (σ := [some (crewD l), some d]) (S := S) (ds := [d, .int 0, .int ((l.length : Int) - 1)]) rfl rfl (between_eq h 0 _ S)
  unfold B_Crew_look_at_kind sIf
  rw [e]
  cases wholeB d 0 ((l.length : Int) - 1) <;> rfl
theorem make_at {f : EF} {σ : Stt} {S : Sto} {l : List D} (kb : KB l) (hf : f σ S = .ok (.tup l) S) : fMake "Crew" 1 F_Crew (aCons f aNil) σ S = .ok (crewD l) S := make_ok hf kb.pl.1 rfl (kb.wrong rfl)
theorem make_atL {f : EF} {σ : Stt} {S : Sto} {l : List D} (kb : KB l) (hf : f σ S = .ok (.lst l) S) : fMake "Crew" 1 F_Crew (aCons f aNil) σ S = .ok (crewD l) S := make_ok hf kb.pl.2 rfl (kb.wrong rfl)
theorem swap_eq {l : List D} {d : D} {r : Int} (hl : l.length ≤ 3) (h0 : 0 ≤ r) : ∃ x, addD (.tup (PF.cutD l none (some r))) (.tup [d]) = some x ∧ addD x (.tup (PF.cutD l (some (r + 1)) none)) = some (.tup (l.take r.toNat ++ [d] ++ l.drop (r.toNat + 1))) := by
  refine ⟨_, addT (by have := cut_len l none (some r); simp only [List.length_cons, List.length_nil]; omega), ?_⟩
  rw [addT (by have := cut_len l none (some r); have := cut_len l (some (r + 1)) none; simp only [List.length_append, List.length_cons, List.length_nil]; omega)]
  rw [cut_to h0, cut_from (by omega), show (r + 1).toNat = r.toNat + 1 by omega]
theorem changed_eq {l : List D} {i : Int} {e : D} (kb : KB l) (h0 : 0 ≤ i) (h1 : i < l.length) (he : kindB e = true) (S : Sto) : F_Crew_changed [crewD l, .int i, e] S = .ok (crewD (l.take i.toNat ++ [e] ++ l.drop (i.toNat + 1))) S := by
  show (B_Crew_changed [some (crewD l), some (.int i), some e] S).res = _
  unfold B_Crew_changed
  refine ret_of (make_at (swap_kb kb (by omega) he) (eq_of ?_))
  obtain ⟨x, x1, x2⟩ := swap_eq (l := l) (d := e) (r := i) kb.2.1 h0
  simp only [w_seq, w_sif, w_bV, w_bT, w_bAnd, w_or, w_not, w_f1, w_f2, w_chain, w_ix, w_isi, w_tup, w_lst, w_new, w_and, w_if, w_c, w_asg, w_par, w_sub, w_app, w_for, w_ret, w_snil, w_b, w_call, w_cons, w_nil, w_q, w_r1, w_r2, w_oN, w_oS, w_sl, w_comp, w_runF, w_var]
  show okR (fFld "Crew" "own_kinds" (fVar 0) [some (crewD l), some (.int i), some e] S) _
  exact ⟨.int i, rfl, i, rfl, _, rfl, e, rfl, (show 1 ≤ 16777216 by decide), x, x1, .int i, rfl, .int (i + 1), rfl, i + 1, rfl, _, rfl, _, x2, rfl, rfl⟩
end K01
/-! with_many, with_kind, without_kind, cut, share -/
namespace K01
open PySem PySem.Spec PyProof.Rows L2 PF
def idx (k : D) : Nat := match k with
  | .int i => i.toNat
  | _ => 0
def kindAt (l : List D) (k : D) : D := match k with
  | .int i => (L2.atI l i).getD .non
  | _ => .non
def swapK (l : List D) (k d : D) : List D := l.take (idx k) ++ [d] ++ l.drop (idx k + 1)
def inK (l : List D) (k : D) : Bool := wholeB k 0 ((l.length : Int) - 1)
theorem in_at {l : List D} {k : D} (hk : KindsD l) (h : inK l k = true) : ∃ (i : Int) (row : List D) (m : Int), k = .int i ∧ 0 ≤ i ∧ i < l.length ∧ L2.atI l i = some (.tup [.tup row, .int m]) ∧ kindAt l k = .tup [.tup row, .int m] ∧ Row row ∧ row.length ≤ 13 ∧ 0 ≤ m ∧ m ≤ M30 := by
  obtain ⟨i, rfl, h0, h1⟩ := whole_int h
  have h2 : i < l.length := by omega
  obtain ⟨d, e1, e2⟩ := atI_of h0 h2
  obtain ⟨row, m, rfl, q1, q2, q3, q4⟩ := hk.2.2 d e2
  refine ⟨i, row, m, rfl, h0, h2, e1, ?_, q1, q2, q3, q4⟩
  show (L2.atI l i).getD .non = _
  rw [e1]; rfl
theorem swap_kinds {l : List D} {n : Nat} {d : D} (hk : KindsD l) (hn : n < l.length) (hd : KindD d) : KindsD (l.take n ++ [d] ++ l.drop (n + 1)) := by
  obtain ⟨h1, h2, h3⟩ := hk
  refine ⟨by simp, ?_, fun x hx => ?_⟩
  · simp only [List.length_append, List.length_take, List.length_drop, List.length_cons, List.length_nil]
    omega
  · simp only [List.mem_append, List.mem_singleton] at hx
    rcases hx with (z | z) | z
    · exact h3 x (List.mem_of_mem_take z)
    · rw [z]; exact hd
    · exact h3 x (List.mem_of_mem_drop z)
def ocMany (l : List D) (k m : D) : Oc := if inK l k = true then (if countB m = true then .inr (swapK l k (.tup [.tup (rowK (kindAt l k)), m])) else numO m) else numO k
theorem with_many_eq {l : List D} {k m : D} (hk : KindsD l) (pk : Pl k) (pm : Pl m) (S : Sto) : F_Crew_with_many [crewD l, k, m] S = doneR (ocMany l k m) S := by
  show (B_Crew_with_many [some (crewD l), some k, some m] S).res = _
  unfold B_Crew_with_many
  have e1 := (meth_at (m := "look_at_kind") (n := 1) (F := F_Crew_look_at_kind) (g := fVar 0) (f := aCons (fVar 1) aNil) (σ := [some (crewD l), some k, some m]) (S := S) (l := l) (ds := [k]) rfl rfl rfl (by decide)).trans (look_kind_eq pk S)
  unfold ocMany inK
  cases hw : wholeB k 0 ((l.length : Int) - 1) with
  | false =>
    rw [hw] at e1
    rw [drop_exc e1]
    rfl
  | true =>
    rw [hw] at e1
    rw [drop_ok e1]
    have e2 := (call_at (n := 1) (F := F_look_at_many) (f := aCons (fVar 2) aNil) (σ := [some (crewD l), some k, some m]) (S := S) (ds := [m]) rfl rfl rfl).trans (look_many_eq pm S)
    cases hc : countB m with
    | false =>
      rw [hc] at e2
      rw [drop_exc e2]
      rfl
    | true =>
      rw [hc] at e2
      rw [drop_ok e2]
      obtain ⟨i, row, m0, rfl, h0, h1, ha, hat, q1, q2, q3, q4⟩ := in_at hk hw
      have hkd : kindB (.tup [.tup row, m]) = true := by
        show (valuesB (.tup row) && countB m) = true
        rw [row_values q1 (by omega), hc]
        rfl
      refine ret_of ((meth_at (l := l) (ds := [.int i, .tup [.tup row, m]]) rfl (eq_ofL ?_) rfl (by decide)).trans ((changed_eq (kinds_kb hk) h0 h1 hkd S).trans ?_))
      · simp only [w_seq, w_sif, w_bV, w_bT, w_bAnd, w_or, w_not, w_f1, w_f2, w_chain, w_ix, w_isi, w_tup, w_lst, w_new, w_and, w_if, w_c, w_asg, w_par, w_sub, w_app, w_for, w_ret, w_snil, w_b, w_call, w_cons, w_nil, w_q, w_r1, w_r2, w_oN, w_oS, w_sl, w_comp, w_runF, w_var]
        simp only [List.getElem?_cons_zero, List.getElem?_cons_succ, List.set_cons_zero, List.set_cons_succ, List.length_cons, List.length_nil, Option.some.injEq, exists_eq_left', exists_eq_left, D.int.injEq, D.bl.injEq, D.ref.injEq, D.lst.injEq, D.tup.injEq, D.str.injEq, and_true, true_and, List.cons.injEq, gN, forall_eq, forall_const]
        show okR (fFld "Crew" "own_kinds" (fVar 0) [some (crewD l), some (.int i), some m] S) _
        exact ⟨_, ix_tup ha, _, ix_tup rfl, (show 2 ≤ 16777216 by decide), rfl, rfl⟩
      · rw [hat]
        rfl
def ocKind (l : List D) (v m : D) : Oc := if valuesB v = true then (if countB m = true then (if l.length < 3 then .inr (l ++ [.tup [v, m]]) else .inl ("TooMany", "limit", .int 3)) else numO m) else .inl ("InvalidCrew", "value", v)
theorem with_kind_eq {l : List D} {v m : D} (hk : KindsD l) (pv : Pl v) (pm : Pl m) (S : Sto) : F_Crew_with_kind [crewD l, v, m] S = doneR (ocKind l v m) S := by
  show (B_Crew_with_kind [some (crewD l), some v, some m] S).res = _
  unfold B_Crew_with_kind ocKind
  have e1 := test_not (n := 1) (F := F_is_values) (f := aCons (fVar 1) aNil) (σ := [some (crewD l), some v, some m]) (S := S) (ds := [v]) rfl rfl (eq_of (values_eq pv S))
  cases hv : valuesB v with
  | false =>
    rw [hv] at e1
    rw [if_raise (d := v) e1 rfl]
    rfl
  | true =>
    rw [hv] at e1
    rw [if_skip e1]
    have e2 := (call_at (n := 1) (F := F_look_at_many) (f := aCons (fVar 2) aNil) (σ := [some (crewD l), some v, some m]) (S := S) (ds := [m]) rfl rfl rfl).trans (look_many_eq pm S)
    cases hc : countB m with
    | false =>
      rw [hc] at e2
      rw [drop_exc e2]
      rfl
    | true =>
      rw [hc] at e2
      rw [drop_ok e2]
      have e3 : (bV (f2 eqD (fB lenD (aCons (fFld "Crew" "own_kinds" (fVar 0)) aNil)) (fC (.int 3)))) [some (crewD l), some v, some m] S = .ok (decide ((l.length : Int) = 3)) S := rfl
      by_cases h3 : l.length < 3
      · rw [decide_eq_false (by omega)] at e3
        rw [if_skip e3, if_pos rfl, if_pos rfl, if_pos h3]
        have hkd : kindB (.tup [v, m]) = true := by
          show (valuesB v && countB m) = true
          rw [hv, hc]; rfl
        have kb : KB (l ++ [.tup [v, m]]) := by
          obtain ⟨g1, g2, g3⟩ := kinds_kb hk
          refine ⟨by simp, by rw [List.length_append]; simp only [List.length_cons, List.length_nil]; omega, fun d hd => ?_⟩
          rcases List.mem_append.mp hd with z | z
          · exact g3 d z
          · rw [List.mem_singleton.mp z]; exact hkd
        refine ret_of (make_at kb (eq_of ?_))
        simp only [w_seq, w_sif, w_bV, w_bT, w_bAnd, w_or, w_not, w_f1, w_f2, w_chain, w_ix, w_isi, w_tup, w_lst, w_new, w_and, w_if, w_c, w_asg, w_par, w_sub, w_app, w_for, w_ret, w_snil, w_b, w_call, w_cons, w_nil, w_q, w_r1, w_r2, w_oN, w_oS, w_sl, w_comp, w_runF, w_var]
        simp only [List.getElem?_cons_zero, List.getElem?_cons_succ, List.set_cons_zero, List.set_cons_succ, List.length_cons, List.length_nil, Option.some.injEq, exists_eq_left', exists_eq_left, D.int.injEq, D.bl.injEq, D.ref.injEq, D.lst.injEq, D.tup.injEq, D.str.injEq, and_true, true_and, List.cons.injEq, gN, forall_eq, forall_const]
        show okR (fFld "Crew" "own_kinds" (fVar 0) [some (crewD l), some v, some m] S) _
        exact ⟨(show 2 ≤ 16777216 by decide), (show 1 ≤ 16777216 by decide), _, addT (by simp only [List.length_cons, List.length_nil]; omega), rfl, rfl⟩
      · have h4 := hk.2.1
        rw [decide_eq_true (by omega)] at e3
        rw [if_raise (d := .int 3) e3 rfl, if_pos rfl, if_pos rfl, if_neg h3]
        rfl
def ocOut (l : List D) (k : D) : Oc := if inK l k = true then (if 1 < l.length then .inr (l.take (idx k) ++ l.drop (idx k + 1)) else .inl ("InvalidCrew", "value", .tup [])) else numO k
theorem out_kinds {l : List D} {n : Nat} (hk : KindsD l) (hn : n < l.length) (h : 1 < l.length) : KindsD (l.take n ++ l.drop (n + 1)) := by
  obtain ⟨h1, h2, h3⟩ := hk
  have hl : (l.take n ++ l.drop (n + 1)).length = l.length - 1 := by
    simp only [List.length_append, List.length_take, List.length_drop]
    omega
  refine ⟨fun z => ?_, by omega, fun x hx => ?_⟩
  · rw [z] at hl
    simp only [List.length_nil] at hl
    omega
  · rcases List.mem_append.mp hx with z | z
    · exact h3 x (List.mem_of_mem_take z)
    · exact h3 x (List.mem_of_mem_drop z)
theorem without_kind_eq {l : List D} {k : D} (hk : KindsD l) (pk : Pl k) (S : Sto) : F_Crew_without_kind [crewD l, k] S = doneR (ocOut l k) S := by
  show (B_Crew_without_kind [some (crewD l), some k] S).res = _
  unfold B_Crew_without_kind ocOut inK
  have e1 := (meth_at (m := "look_at_kind") (n := 1) (F := F_Crew_look_at_kind) (g := fVar 0) (f := aCons (fVar 1) aNil) (σ := [some (crewD l), some k]) (S := S) (l := l) (ds := [k]) rfl rfl rfl (by decide)).trans (look_kind_eq pk S)
  cases hw : wholeB k 0 ((l.length : Int) - 1) with
  | false =>
    rw [hw] at e1
    rw [drop_exc e1]
    rfl
  | true =>
    rw [hw] at e1
    rw [drop_ok e1]
    have e3 : (bV (f2 eqD (fB lenD (aCons (fFld "Crew" "own_kinds" (fVar 0)) aNil)) (fC (.int 1)))) [some (crewD l), some k] S = .ok (decide ((l.length : Int) = 1)) S := rfl
    have hp := List.length_pos_iff.mpr hk.1
    obtain ⟨i, row, m0, rfl, h0, h1, ha, hat, _⟩ := in_at hk hw
    by_cases h3 : 1 < l.length
    · rw [decide_eq_false (by omega)] at e3
      rw [if_skip e3, if_pos rfl, if_pos h3]
      refine ret_of (make_at (kinds_kb (out_kinds hk (by show i.toNat < _; omega) h3)) (eq_of ?_))
      simp only [w_seq, w_sif, w_bV, w_bT, w_bAnd, w_or, w_not, w_f1, w_f2, w_chain, w_ix, w_isi, w_tup, w_lst, w_new, w_and, w_if, w_c, w_asg, w_par, w_sub, w_app, w_for, w_ret, w_snil, w_b, w_call, w_cons, w_nil, w_q, w_r1, w_r2, w_oN, w_oS, w_sl, w_comp, w_runF, w_var]
      simp only [List.getElem?_cons_zero, List.getElem?_cons_succ, List.set_cons_zero, List.set_cons_succ, List.length_cons, List.length_nil, Option.some.injEq, exists_eq_left', exists_eq_left, D.int.injEq, D.bl.injEq, D.ref.injEq, D.lst.injEq, D.tup.injEq, D.str.injEq, and_true, true_and, List.cons.injEq, gN, forall_eq, forall_const]
      show okR (fFld "Crew" "own_kinds" (fVar 0) [some (crewD l), some (.int i)] S) _
      refine ⟨_, rfl, ?_⟩
      show okR (fFld "Crew" "own_kinds" (fVar 0) [some (crewD l), some (.int i)] S) _
      refine ⟨.int (i + 1), rfl, i + 1, rfl, _, rfl, _, addT (by have := cut_len l none (some i); have := cut_len l (some (i + 1)) none; have := hk.2.1; omega), ?_, rfl⟩
      rw [cut_to h0, cut_from (by omega), show (i + 1).toNat = i.toNat + 1 by omega]
      rfl
    · rw [decide_eq_true (by omega)] at e3
      rw [if_raise (d := .tup []) e3 rfl, if_pos rfl, if_neg h3]
      rfl
end K01
/-! cut, share -/
namespace K01
open PySem PySem.Spec PyProof.Rows L2 PF
theorem cons_at {f : EF} {r : AF} {σ : Stt} {S : Sto} {d : D} {ds : List D} (hf : f σ S = .ok d S) (hr : r σ S = .ok ds S) : aCons f r σ S = .ok (d :: ds) S := by
  unfold aCons
  rw [hf, bind_ok, hr]
  rfl
theorem comp_at {vs : List Nat} {it : AF} {g : GF} {t : BF} {f : EF} {σ : Stt} {S : Sto} {ds ys : List D} (hi : it σ S = .ok ds S) (hc : compF g t f ds (wipeD σ vs) S = .ok ys S) (hl : ys.length ≤ 1000) : fComp vs it g t f σ S = .ok (.lst ys) S := by
  unfold fComp
  rw [hi, bind_ok, hc]
  show (if ys.length ≤ LINE then Res.ok (D.lst ys) S else .bad) = _
  rw [if_pos (Nat.le_trans hl (by decide))]
theorem fB_at {h : HB} {f : AF} {σ : Stt} {S : Sto} {ds : List D} {d : D} (hf : f σ S = .ok ds S) (hh : h ds S = some (d, S)) : fB h f σ S = .ok d S := by
  unfold fB
  rw [hf, bind_ok, hh]
theorem take_rep {n k : Nat} {xs : List Int} (h : n < k) : (List.replicate n D.non ++ xs.map D.int).take k = List.replicate n .non ++ (xs.take (k - n)).map .int := by
  rw [List.take_append, List.length_replicate, List.take_of_length_le (by rw [List.length_replicate]; omega), List.map_take]
theorem asc_take : ∀ {xs : List Int} (k : Nat), Asc xs → Asc (xs.take k)
  | [], k, _ => by rw [List.take_nil]; exact True.intro
  | [_], 0, _ => True.intro
  | [_], k + 1, _ => by rw [List.take_succ_cons, List.take_nil]; exact True.intro
  | _ :: _ :: _, 0, _ => True.intro
  | _ :: _ :: _, 1, _ => True.intro
  | a :: b :: l, k + 2, h => by
    have ih := asc_take (xs := b :: l) (k + 1) h.2
    rw [List.take_succ_cons] at ih ⊢
    rw [List.take_succ_cons]
    exact ⟨h.1, ih⟩
theorem tw_row {n : Nat} {xs : List Int} : (List.replicate n D.non ++ xs.map D.int).takeWhile isNon = List.replicate n .non := by
  rw [List.takeWhile_append_of_pos (fun d hd => by rw [List.eq_of_mem_replicate hd]; rfl)]
  have e : (xs.map D.int).takeWhile isNon = [] := by cases xs <;> rfl
  rw [e, List.append_nil]
theorem row_cut {row : List D} {q : Nat} (h : Row row) (hq : (row.takeWhile isNon).length ≤ q) : Row (row.take (q + 1)) := by
  obtain ⟨n, xs, rfl, h1, h2⟩ := h
  rw [tw_row, List.length_replicate] at hq
  refine ⟨n, xs.take (q + 1 - n), take_rep (by omega), ?_, asc_take _ h2⟩
  intro z
  have := congrArg List.length z
  rw [List.length_take, List.length_nil] at this
  have := List.length_pos_iff.mpr h1
  omega
theorem row_pl {row : List D} (h : Row row) : ∀ d ∈ row, Pl d := fun d hd => (row_pn h d hd).pl
theorem row_all {row : List D} (h : Row row) (hl : row.length ≤ 41) : (row.dropWhile isNon).all isInt = true ∧ ∃ d ∈ row, isNon d = false := by
  have hv := row_values h hl
  exact ⟨(values_parts hv).2.2.2, last_in hv⟩
def ocCut (l : List D) (k q : D) : Oc := if inK l k = true then
    (if wholeB q (((rowK (kindAt l k)).takeWhile isNon).length) (((rowK (kindAt l k)).length : Int) - 1) = true then .inr (swapK l k (.tup [.tup ((rowK (kindAt l k)).take (idx q + 1)), .int (manyK (kindAt l k))])) else numO q) else numO k
theorem cut_eq {l : List D} {k q : D} (hk : KindsD l) (pk : Pl k) (pq : Pl q) (S : Sto) : F_Crew_cut [crewD l, k, q] S = doneR (ocCut l k q) S := by
  show (B_Crew_cut [some (crewD l), some k, some q, none, none] S).res = _
  unfold B_Crew_cut ocCut inK
  have e1 := (meth_at (m := "look_at_kind") (n := 1) (F := F_Crew_look_at_kind) (g := fVar 0) (f := aCons (fVar 1) aNil) (σ := [some (crewD l), some k, some q, none, none]) (S := S) (l := l) (ds := [k]) rfl rfl rfl (by decide)).trans (look_kind_eq pk S)
  cases hw : wholeB k 0 ((l.length : Int) - 1) with
  | false =>
    rw [hw] at e1
    rw [drop_exc e1]
    rfl
  | true =>
    rw [hw] at e1
    rw [drop_ok e1, if_pos rfl]
    obtain ⟨i, row, m0, rfl, h0, h1, ha, hat, r1, r2, r3, r4⟩ := in_at hk hw
    rw [hat]
    have hpl := row_pl r1
    obtain ⟨hall, hnon⟩ := row_all r1 (by omega)
    have e2 : (fIx (fFld "Crew" "own_kinds" (fVar 0)) (fVar 1)) [some (crewD l), some (.int i), some q, none, none] S = .ok (.tup [.tup row, .int m0]) S := by
      show (match ixD S (.tup l) (.int i) with | some d => Res.ok d S | none => .bad) = _
      rw [ix_tup ha]
    rw [asg_of e2 w_gT2]
    have ea : (aCons (fVar 2) (aCons (fCall 1 F_least_of (aCons (fVar 3) (aNil))) (aCons (fCall 1 F_quota_of (aCons (fVar 3) (aNil))) (aNil)))) [some (crewD l), some (.int i), some q, some (.tup row), some (.int m0)] S = .ok [q, .int ((row.takeWhile isNon).length : Int), .int ((row.length : Int) - 1)] S := by
      have f1 := call_at (n := 1) (F := F_least_of) (f := aCons (fVar 3) aNil) (σ := [some (crewD l), some (.int i), some q, some (.tup row), some (.int m0)]) (S := S) (ds := [.tup row]) rfl rfl (least_eq hpl (by omega) hnon S)
      have f2 := call_at (n := 1) (F := F_quota_of) (f := aCons (fVar 3) aNil) (σ := [some (crewD l), some (.int i), some q, some (.tup row), some (.int m0)]) (S := S) (ds := [.tup row]) rfl rfl (quota_eq S)
      exact cons_at rfl (cons_at f1 (cons_at f2 rfl))
    have e3 := test_not (n := 3) (F := F_is_between) ea rfl (between_eq pq _ _ S)
    have hr : rowK (.tup [.tup row, .int m0]) = row := rfl
    have hm : manyK (.tup [.tup row, .int m0]) = m0 := rfl
    rw [hr, hm]
    cases hq : wholeB q ((row.takeWhile isNon).length : Int) ((row.length : Int) - 1) with
    | false =>
      rw [hq] at e3
      show (sSeq _ _ [some (crewD l), some (.int i), some q, some (.tup row), some (.int m0)] S).res = _
      rw [if_raise (d := q) e3 rfl]
      rfl
    | true =>
      rw [hq] at e3
      show (sSeq _ _ [some (crewD l), some (.int i), some q, some (.tup row), some (.int m0)] S).res = _
      rw [if_skip e3]
      obtain ⟨z, rfl, z0, z1⟩ := whole_int hq
      have hz : 0 ≤ z := by omega
      have hkd : kindB (.tup [.tup (row.take (z.toNat + 1)), .int m0]) = true := kind_m (row_cut r1 (by omega)) (by rw [List.length_take]; omega) r3 r4
      refine ret_of ((meth_at (l := l) (ds := [.int i, .tup [.tup (row.take (z.toNat + 1)), .int m0]]) rfl (eq_ofL ?_) rfl (by decide)).trans (changed_eq (kinds_kb hk) h0 h1 hkd S))
      simp only [w_seq, w_sif, w_bV, w_bT, w_bAnd, w_or, w_not, w_f1, w_f2, w_chain, w_ix, w_isi, w_tup, w_lst, w_new, w_and, w_if, w_c, w_asg, w_par, w_sub, w_app, w_for, w_ret, w_snil, w_b, w_call, w_cons, w_nil, w_q, w_r1, w_r2, w_oN, w_oS, w_sl, w_comp, w_runF, w_var]
      simp only [List.getElem?_cons_zero, List.getElem?_cons_succ, List.set_cons_zero, List.set_cons_succ, List.length_cons, List.length_nil, Option.some.injEq, exists_eq_left', exists_eq_left, D.int.injEq, D.bl.injEq, D.ref.injEq, D.lst.injEq, D.tup.injEq, D.str.injEq, and_true, true_and, List.cons.injEq, gN, forall_eq, forall_const]
      refine ⟨_, rfl, _, rfl, _, rfl, (show 2 ≤ 16777216 by decide), ?_⟩
      first
        | exact ⟨by rw [cut_to (by omega), show (z + 1).toNat = z.toNat + 1 by omega], rfl⟩
        | (rw [cut_to (by omega), show (z + 1).toNat = z.toNat + 1 by omega])
def fitsB (l : List D) (o : D) : Bool := wholeB o 1 1000 && l.all fun d => decide (manyK d % (match o with | .int p => p | _ => 1) = 0)
def ocShare (l : List D) (o : D) : Oc := if fitsB l o = true then .inr (l.map fun d => .tup [.tup (rowK d), .int (manyK d / (match o with | .int p => p | _ => 1))]) else numO o
theorem any_map {β : Type} (f : β → Bool) (l : List β) (S : Sto) : anyD [.lst (l.map fun d => D.bl (f d))] S = some (.bl ((l.map f).any fun b => b), S) := by
  show ((lItems (.lst (l.map fun d => D.bl (f d)))).bind blsD).map _ = _
  rw [show (lItems (D.lst (l.map fun d => D.bl (f d)))).bind blsD = some (l.map f) from bls_map f l]
  rfl
theorem share_kinds {l : List D} {p : Int} (hk : KindsD l) (hp : 1 ≤ p) : KindsD (l.map fun d => .tup [.tup (rowK d), .int (manyK d / p)]) := by
  obtain ⟨h1, h2, h3⟩ := hk
  refine ⟨fun z => h1 (List.map_eq_nil_iff.mp z), by rw [List.length_map]; exact h2, fun d hd => ?_⟩
  obtain ⟨x, hx, rfl⟩ := List.mem_map.mp hd
  obtain ⟨row, m, rfl, q1, q2, q3, q4⟩ := h3 x hx
  refine ⟨row, m / p, rfl, q1, q2, Int.ediv_nonneg q3 (by omega), Int.le_trans (Int.ediv_le_self p q3) q4⟩
theorem share_kb {l : List D} {p : Int} (hk : KindsD l) (hp : 1 ≤ p) : KB (l.map fun d => .tup [.tup (rowK d), .int (manyK d / p)]) := kinds_kb (share_kinds hk hp)
theorem share_eq {l : List D} {o : D} (hk : KindsD l) (po : Pl o) (S : Sto) : F_Crew_share [crewD l, o] S = doneR (ocShare l o) S := by
  have kb := kinds_kb hk
  show (B_Crew_share [some (crewD l), some o, none, none] S).res = _
  unfold B_Crew_share ocShare fitsB
  have e1 := test_not (n := 3) (F := F_is_between) (f := aCons (fVar 1) (aCons (fC (.int 1)) (aCons (fC (.int 1000)) aNil))) (σ := [some (crewD l), some o, none, none]) (S := S) (ds := [o, .int 1, .int 1000]) rfl rfl (between_eq po 1 1000 S)
  cases hw : wholeB o 1 1000 with
  | false =>
    rw [hw] at e1
    rw [if_raise (d := o) e1 rfl]
    rfl
  | true =>
    rw [hw] at e1
    rw [if_skip e1]
    obtain ⟨p, rfl, p1, p2⟩ := whole_int hw
    have hpl : ∀ d ∈ l, Pl d := fun d hd => (kindB_pn (kb.2.2 d hd)).pl
    have hz : l.length ≤ 1000 := by have := hk.2.1; omega
    have c1 : compF (gT 2 (gsCons (gN 2) (gsCons (gN 3) gsNil))) bTrue (f2 neD (f2 modD (fVar 3) (fVar 1)) (fC (.int 0))) l (wipeD [some (crewD l), some (.int p), none, none] [2, 3]) S = .ok (l.map fun d => .bl (!decide (manyK d % p = 0))) S := comp_map fun d hd => by
      obtain ⟨row, m, rfl, _, _, h0, h1⟩ := hk.2.2 d hd
      refine ⟨_, w_gT2, eq_of ?_⟩
      simp only [w_seq, w_sif, w_bV, w_bT, w_bAnd, w_or, w_not, w_f1, w_f2, w_chain, w_ix, w_isi, w_tup, w_lst, w_new, w_and, w_if, w_c, w_asg, w_par, w_sub, w_app, w_for, w_ret, w_snil, w_b, w_call, w_cons, w_nil, w_q, w_r1, w_r2, w_oN, w_oS, w_sl, w_comp, w_runF, w_var]
      exact ⟨_, rfl, _, rfl, _, modD_ok (by omega), _, rfl, rfl, trivial⟩
    have c2 : compF (gT 2 (gsCons (gN 2) (gsCons (gN 3) gsNil))) bTrue (fTup (aCons (fVar 2) (aCons (f2 fdivD (fVar 3) (fVar 1)) aNil))) l (wipeD [some (crewD l), some (.int p), none, none] [2, 3]) S = .ok (l.map fun d => .tup [.tup (rowK d), .int (manyK d / p)]) S := comp_map fun d hd => by
      obtain ⟨row, m, rfl, _, _, h0, h1⟩ := hk.2.2 d hd
      refine ⟨_, w_gT2, eq_of ?_⟩
      simp only [w_seq, w_sif, w_bV, w_bT, w_bAnd, w_or, w_not, w_f1, w_f2, w_chain, w_ix, w_isi, w_tup, w_lst, w_new, w_and, w_if, w_c, w_asg, w_par, w_sub, w_app, w_for, w_ret, w_snil, w_b, w_call, w_cons, w_nil, w_q, w_r1, w_r2, w_oN, w_oS, w_sl, w_comp, w_runF, w_var]
      exact ⟨_, rfl, _, rfl, _, rfl, _, fdivD_ok (by omega) (log2_small (by omega) (by omega)), (show 2 ≤ 16777216 by decide), rfl, trivial⟩
    have i1 : iQ (fFld "Crew" "own_kinds" (fVar 0)) [some (crewD l), some (.int p), none, none] S = .ok l S := rfl
    have t1 : bT (fB anyD (aCons (fComp [2, 3] (iQ (fFld "Crew" "own_kinds" (fVar 0))) (gT 2 (gsCons (gN 2) (gsCons (gN 3) gsNil))) bTrue (f2 neD (f2 modD (fVar 3) (fVar 1)) (fC (.int 0)))) aNil)) [some (crewD l), some (.int p), none, none] S =
        .ok (!l.all fun d => decide (manyK d % p = 0)) S := by
      unfold bT
      rw [fB_at (cons_at (comp_at i1 c1 (by rw [List.length_map]; exact hz)) rfl) (any_map _ l S), bind_ok]
      show Res.ok ((l.map _).any fun b => b) S = _
      rw [List.any_map, List.not_all_eq_any_not]
      rfl
    show (sSeq _ _ _ S).res = doneR (if (true && l.all fun d => decide (manyK d % p = 0)) = true then .inr (l.map fun d => .tup [.tup (rowK d), .int (manyK d / p)]) else numO (.int p)) S
    rw [Bool.true_and]
    cases hf : (l.all fun d => decide (manyK d % p = 0)) with
    | false =>
      rw [hf] at t1
      rw [if_raise (d := .int p) t1 rfl]
      rfl
    | true =>
      rw [hf] at t1
      rw [if_skip t1, if_pos rfl]
      refine ret_of (make_atL (share_kb hk p1) (comp_at i1 c2 (by rw [List.length_map]; exact hz)))
end K01
/-! a deed done by the package -/
namespace K01
open PySem PySem.Spec PyProof.Rows L2 PF
section
variable {t : BF} {a rest : SF} {f : EF} {σ : Stt} {S S' : Sto} {d : D} {r : Res D}
theorem if_ret (ht : t σ S = .ok true S) (hf : f σ S = r) : (sSeq (sIf t (sRet f) sNil) rest σ S).res = r := by
  have e : sIf t (sRet f) sNil σ S = sRet f σ S := by
    unfold sIf
    rw [ht]
    rfl
  have e2 : sRet f σ S = r.out σ fun d S1 => .rt d S1 := by
    unfold sRet
    rw [hf]
  unfold sSeq
  rw [e, e2]
  cases r <;> rfl
theorem word_test {v : String} {b : Bool} {g : EF} (h1 : g σ S = .ok d S) (h2 : eqD d (.str v) = some (.bl b)) : bV (f2 eqD g (fC (.str v))) σ S = .ok b S := by
  have e : f2 eqD g (fC (.str v)) σ S = .ok (.bl b) S := by
    unfold f2
    rw [h1, bind_ok]
    show (match eqD d (.str v) with | some d => Res.ok d S | none => .bad) = _
    rw [h2]
  unfold bV
  rw [e]
  rfl
end
abbrev dShare (o : D) : D := .tup [.str "share", o]
abbrev dKind (v m : D) : D := .tup [.str "with_kind", v, m]
abbrev dOut (k : D) : D := .tup [.str "without_kind", k]
abbrev dMany (k m : D) : D := .tup [.str "with_many", k, m]
abbrev dCut (k q : D) : D := .tup [.str "cut", k, q]
theorem done_share {l : List D} {o : D} (hk : KindsD l) (po : Pl o) (S : Sto) : F__law_done_to [crewD l, dShare o] S = doneR (ocShare l o) S := by
  show (B__law_done_to [some (crewD l), some (dShare o)] S).res = _
  unfold B__law_done_to
  refine if_ret (word_test (d := .str "share") rfl (by kernel_rfl)) ?_
  exact (meth_at (l := l) (ds := [o]) rfl rfl rfl (by decide)).trans (share_eq hk po S)
theorem done_kind {l : List D} {v m : D} (hk : KindsD l) (pv : Pl v) (pm : Pl m) (S : Sto) : F__law_done_to [crewD l, dKind v m] S = doneR (ocKind l v m) S := by
  show (B__law_done_to [some (crewD l), some (dKind v m)] S).res = _
  unfold B__law_done_to
  rw [if_skip (word_test (d := .str "with_kind") rfl (by kernel_rfl))]
  refine if_ret (word_test (d := .str "with_kind") rfl (by kernel_rfl)) ?_
  exact (meth_at (l := l) (ds := [v, m]) rfl rfl rfl (by decide)).trans (with_kind_eq hk pv pm S)
theorem done_out {l : List D} {k : D} (hk : KindsD l) (pk : Pl k) (S : Sto) : F__law_done_to [crewD l, dOut k] S = doneR (ocOut l k) S := by
  show (B__law_done_to [some (crewD l), some (dOut k)] S).res = _
  unfold B__law_done_to
  rw [if_skip (word_test (d := .str "without_kind") rfl (by kernel_rfl)), if_skip (word_test (d := .str "without_kind") rfl (by kernel_rfl))]
  refine if_ret (word_test (d := .str "without_kind") rfl (by kernel_rfl)) ?_
  exact (meth_at (l := l) (ds := [k]) rfl rfl rfl (by decide)).trans (without_kind_eq hk pk S)
theorem fif_t {t : BF} {f g : EF} {σ : Stt} {S : Sto} {r : Res D} (ht : t σ S = .ok true S) (h : f σ S = r) : fIf t f g σ S = r := by
  unfold fIf
  rw [ht]
  exact h
theorem fif_f {t : BF} {f g : EF} {σ : Stt} {S : Sto} {r : Res D} (ht : t σ S = .ok false S) (h : g σ S = r) : fIf t f g σ S = r := by
  unfold fIf
  rw [ht]
  exact h
theorem done_many {l : List D} {k m : D} (hk : KindsD l) (pk : Pl k) (pm : Pl m) (S : Sto) : F__law_done_to [crewD l, dMany k m] S = doneR (ocMany l k m) S := by
  show (B__law_done_to [some (crewD l), some (dMany k m)] S).res = _
  unfold B__law_done_to
  rw [if_skip (word_test (d := .str "with_many") rfl (by kernel_rfl)), if_skip (word_test (d := .str "with_many") rfl (by kernel_rfl)), if_skip (word_test (d := .str "with_many") rfl (by kernel_rfl))]
  exact ret_of (fif_t (word_test (d := .str "with_many") rfl (by kernel_rfl)) ((meth_at (l := l) (ds := [k, m]) rfl rfl rfl (by decide)).trans (with_many_eq hk pk pm S)))
theorem done_cut {l : List D} {k q : D} (hk : KindsD l) (pk : Pl k) (pq : Pl q) (S : Sto) : F__law_done_to [crewD l, dCut k q] S = doneR (ocCut l k q) S := by
  show (B__law_done_to [some (crewD l), some (dCut k q)] S).res = _
  unfold B__law_done_to
  rw [if_skip (word_test (d := .str "cut") rfl (by kernel_rfl)), if_skip (word_test (d := .str "cut") rfl (by kernel_rfl)), if_skip (word_test (d := .str "cut") rfl (by kernel_rfl))]
  exact ret_of (fif_f (word_test (d := .str "cut") rfl (by kernel_rfl)) ((meth_at (l := l) (ds := [k, q]) rfl rfl rfl (by decide)).trans (cut_eq hk pk pq S)))
end K01
/-! what is owed of a deed -/
namespace K01
open PySem PySem.Spec PyProof.Rows L2 PF
def owedT (o : Oc) : D := match o with
  | .inl (c, _, x) => .tup [.str c, x]
  | .inr l => .tup [.str "told", .tup l]
section
variable {t : BF} {a rest : SF} {f g : EF} {σ : Stt} {S S' : Sto} {d : D} {r : Res D}
theorem if_rt (ht : t σ S = .ok true S) (ha : a σ S = .rt d S) : sSeq (sIf t a sNil) rest σ S = .rt d S := by
  have e : sIf t a sNil σ S = .rt d S := by
    unfold sIf
    rw [ht]
    exact ha
  unfold sSeq
  rw [e]
  rfl
theorem ret_rt (h : f σ S = .ok d S) : sRet f σ S = .rt d S := by
  unfold sRet
  rw [h]
  rfl
theorem res_rt {o : Out} (h : o = .rt d S) : o.res = .ok d S := by rw [h]; rfl
theorem and_t (hf : f σ S = .ok (.bl true) S) (hg : g σ S = r) : fAnd f g σ S = r := by
  unfold fAnd
  rw [hf]
  exact hg
theorem and_f (hf : f σ S = .ok (.bl false) S) : fAnd f g σ S = .ok (.bl false) S := by
  unfold fAnd
  rw [hf]
  rfl
theorem truth_at {b : Bool} (hf : f σ S = .ok d S) (h : truB d = some b) : bT f σ S = .ok b S := by
  unfold bT
  rw [hf, bind_ok, h]
theorem f2_at {h : D → D → Option D} {x y : D} (hf : f σ S = .ok x S) (hg : g σ S = .ok y S) (hh : h x y = some d) : f2 h f g σ S = .ok d S := by
  unfold f2
  rw [hf, bind_ok, hg, bind_ok, hh]
theorem tup_at {r : AF} {ds : List D} (h : r σ S = .ok ds S) (hl : ds.length ≤ 1000) : fTup r σ S = .ok (.tup ds) S := by
  unfold fTup
  rw [h]
  show (if ds.length ≤ LINE then Res.ok (D.tup ds) S else .bad) = _
  rw [if_pos (Nat.le_trans hl (by decide))]
theorem ix_at {x y : D} (hf : f σ S = .ok x S) (hg : g σ S = .ok y S) (h : ixD S x y = some d) : fIx f g σ S = .ok d S := by
  unfold fIx
  rw [hf, bind_ok, hg, bind_ok, h]
end
theorem p30_at : powD (.int 10) (.int 30) = some (.int M30) := by rw [powD_ok (by decide) (by decide) (by decide)]; rfl
theorem owed_share {l : List D} {o : D} (hk : KindsD l) (po : Pl o) (S : Sto) : F__law_owed_of [.tup l, dShare o] S = .ok (owedT (ocShare l o)) S := by
  show (B__law_owed_of [some (.tup l), some (dShare o), none, none, none, none, none, none] S).res = _
  unfold B__law_owed_of
  rw [asg_of (d := .str "share") (σ1 := [some (.tup l), some (dShare o), some (.str "share"), none, none, none, none, none]) rfl rfl]
  refine res_rt (if_rt (word_test (d := .str "share") rfl (by kernel_rfl)) ?_)
  have hz : l.length ≤ 1000 := by have := hk.2.1; omega
  have w1 := call_at (n := 3) (F := F__law_is_whole_to) (f := aCons (fIx (fVar 1) (fC (.int 1))) (aCons (fC (.int 1)) (aCons (fC (.int 1000)) aNil))) (σ := [some (.tup l), some (dShare o), some (.str "share"), none, none, none, none, none]) (S := S) (ds := [o, .int 1, .int 1000]) rfl rfl (whole_to_eq po 1 1000 S)
  have e1 : fAnd (fCall 3 F__law_is_whole_to (aCons (fIx (fVar 1) (fC (.int 1))) (aCons (fC (.int 1)) (aCons (fC (.int 1000)) (aNil))))) (f2 eqD (fComp [3, 4] (iQ (fVar 0)) (gT 2 (gsCons (gN 3) (gsCons (gN 4) (gsNil)))) (bV (f2 neD (f2 modD (fVar 4) (fIx (fVar 1) (fC (.int 1)))) (fC (.int 0)))) (fVar 4)) (fLst (aNil))) [some (.tup l), some (dShare o), some (.str "share"), none, none, none, none, none] S = .ok (.bl (fitsB l o)) S := by
    unfold fitsB
    cases hw : wholeB o 1 1000 with
    | false =>
      rw [hw] at w1
      exact and_f w1
    | true =>
      rw [hw] at w1
      refine and_t w1 ?_
      obtain ⟨p, rfl, p1, p2⟩ := whole_int hw
      have c1 : compF (gT 2 (gsCons (gN 3) (gsCons (gN 4) gsNil))) (bV (f2 neD (f2 modD (fVar 4) (fIx (fVar 1) (fC (.int 1)))) (fC (.int 0)))) (fVar 4) l (wipeD [some (.tup l), some (dShare (.int p)), some (.str "share"), none, none, none, none, none] [3, 4]) S =
          .ok ((l.filter fun d => !decide (manyK d % p = 0)).map fun d => .int (manyK d)) S := comp_pure fun d hd => by
        obtain ⟨row, m, rfl, _, _, h0, h1⟩ := hk.2.2 d hd
        refine ⟨_, w_gT2, eq_ofB ?_, fun _ => rfl⟩
        rw [w_bV]
        have q : f2 neD (f2 modD (fVar 4) (fIx (fVar 1) (fC (.int 1)))) (fC (.int 0)) [some (.tup l), some (dShare (.int p)), some (.str "share"), some (.tup row), some (.int m), none, none, none] S = .ok (.bl (!decide (m % p = 0))) S :=
          f2_at (f2_at rfl rfl (modD_ok (by omega))) rfl rfl
        show okR (f2 neD (f2 modD (fVar 4) (fIx (fVar 1) (fC (.int 1)))) (fC (.int 0)) [some (.tup l), some (dShare (.int p)), some (.str "share"), some (.tup row), some (.int m), none, none, none] S) _
        rw [q]
        exact ⟨_, rfl, rfl, rfl⟩
      refine f2_at (comp_at rfl c1 (by rw [List.length_map]; exact Nat.le_trans (List.length_filter_le _ _) hz)) rfl ?_
      rw [eqL0, List.isEmpty_map, empty_all]
      refine congrArg some (congrArg D.bl ?_)
      rw [Bool.true_and]
      refine congrArg (List.all l) (funext fun d => ?_)
      rw [Bool.not_not]
  rw [asg_of (σ1 := [some (.tup l), some (dShare o), some (.str "share"), none, none, some (.bl (fitsB l o)), none, none]) e1 rfl]
  refine ret_rt ?_
  unfold ocShare
  cases hf : fitsB l o with
  | false => exact fif_f (truth_at rfl rfl) rfl
  | true =>
    refine fif_t (truth_at rfl rfl) ?_
    have hw : wholeB o 1 1000 = true := (Bool.and_eq_true_iff.mp hf).1
    obtain ⟨p, rfl, p1, p2⟩ := whole_int hw
    have c2 : compF (gT 2 (gsCons (gN 3) (gsCons (gN 4) gsNil))) bTrue (fTup (aCons (fVar 3) (aCons (f2 fdivD (fVar 4) (fIx (fVar 1) (fC (.int 1)))) aNil))) l (wipeD [some (.tup l), some (dShare (.int p)), some (.str "share"), none, none, some (.bl true), none, none] [3, 4]) S = .ok (l.map fun d => .tup [.tup (rowK d), .int (manyK d / p)]) S := comp_map fun d hd => by
      obtain ⟨row, m, rfl, _, _, h0, h1⟩ := hk.2.2 d hd
      exact ⟨_, w_gT2, tup_at (cons_at rfl (cons_at (f2_at rfl rfl (fdivD_ok (by omega) (log2_small (by omega) (by omega)))) rfl)) (show 2 ≤ 1000 by decide)⟩
    exact tup_at (cons_at rfl (cons_at (fB_at (cons_at (comp_at rfl c2 (by rw [List.length_map]; exact hz)) rfl) rfl) rfl)) (show 2 ≤ 1000 by decide)
theorem owed_kind {l : List D} {v m : D} (hk : KindsD l) (pv : Pl v) (pm : Pl m) (S : Sto) : F__law_owed_of [.tup l, dKind v m] S = .ok (owedT (ocKind l v m)) S := by
  show (B__law_owed_of [some (.tup l), some (dKind v m), none, none, none, none, none, none] S).res = _
  unfold B__law_owed_of
  rw [asg_of (d := .str "with_kind") (σ1 := [some (.tup l), some (dKind v m), some (.str "with_kind"), none, none, none, none, none]) rfl rfl]
  rw [if_skip (word_test (d := .str "with_kind") rfl (by kernel_rfl))]
  refine res_rt (if_rt (word_test (d := .str "with_kind") rfl (by kernel_rfl)) ?_)
  have e1 := test_not (n := 1) (F := F__law_pu_is_values) (f := aCons (fIx (fVar 1) (fC (.int 1))) aNil) (σ := [some (.tup l), some (dKind v m), some (.str "with_kind"), none, none, none, none, none]) (S := S) (ds := [v]) rfl rfl (eq_of (own_values_eq pv S))
  have e2 := test_not (n := 3) (F := F__law_is_whole_to) (f := aCons (fIx (fVar 1) (fC (.int 2))) (aCons (fC (.int 0)) (aCons (f2 powD (fC (.int 10)) (fC (.int 30))) aNil))) (σ := [some (.tup l), some (dKind v m), some (.str "with_kind"), none, none, none, none, none]) (S := S) (ds := [m, .int 0, .int M30]) (cons_at rfl (cons_at rfl (cons_at (f2_at rfl rfl p30_at) rfl))) rfl (whole_to_eq pm 0 M30 S)
  rw [← whole_count] at e2
  unfold ocKind
  cases hv : valuesB v with
  | false =>
    rw [hv] at e1
    exact if_rt e1 (ret_rt rfl)
  | true =>
    rw [hv] at e1
    rw [if_skip e1]
    cases hc : countB m with
    | false =>
      rw [hc] at e2
      exact if_rt e2 (ret_rt rfl)
    | true =>
      rw [hc] at e2
      rw [if_skip e2, if_pos rfl, if_pos rfl]
      refine ret_rt ?_
      have e3 : (bV (f2 ltD (fB lenD (aCons (fVar 0) aNil)) (fC (.int 3)))) [some (.tup l), some (dKind v m), some (.str "with_kind"), none, none, none, none, none] S = .ok (decide ((l.length : Int) < 3)) S := rfl
      by_cases h3 : l.length < 3
      · rw [decide_eq_true (by omega)] at e3
        rw [if_pos h3]
        exact fif_t e3 (tup_at (cons_at rfl (cons_at (f2_at (y := .tup [.tup [v, m]]) rfl rfl (addT (by simp only [List.length_cons, List.length_nil]; omega))) rfl)) (show 2 ≤ 1000 by decide))
      · rw [decide_eq_false (by omega)] at e3
        rw [if_neg h3]
        exact fif_f e3 rfl
end K01
/-! what is owed of a deed at a kind -/
namespace K01
open PySem PySem.Spec PyProof.Rows L2 PF
theorem par_of {r : AF} {rest : SF} {i j : Nat} {σ : Stt} {S : Sto} {x y : D} (h : r σ S = .ok [x, y] S) : sSeq (sPar i j r) rest σ S = rest ((σ.set i (some x)).set j (some y)) S := by
  unfold sSeq sPar
  rw [h]
  rfl
/-- the rest of _law_owed_of behind the look at the kind -/
def restO : SF := (sSeq (sIf (bV (f2 eqD (fVar 2) (fC (.str "without_kind")))) (sRet (fIf (bV (f2 gtD (fB lenD (aCons (fVar 0) (aNil))) (fC (.int 1)))) (fTup (aCons (fC (.str "told")) (aCons (f2 addD (fVar 6) (fVar 7)) (aNil)))) (fTup (aCons (fC (.str "InvalidCrew")) (aCons (fTup (aNil)) (aNil)))))) (sNil)) (sSeq (sIf (bV (f2 eqD (fVar 2) (fC (.str "with_many")))) (sRet (fIf (bT (fCall 3 F__law_is_whole_to (aCons (fIx (fVar 1) (fC (.int 2))) (aCons (fC (.int 0)) (aCons (f2 powD (fC (.int 10)) (fC (.int 30))) (aNil)))))) (fTup (aCons (fC (.str "told")) (aCons (f2 addD (f2 addD (fVar 6) (fTup (aCons (fTup (aCons (fVar 3) (aCons (fIx (fVar 1) (fC (.int 2))) (aNil)))) (aNil)))) (fVar 7)) (aNil)))) (fTup (aCons (fC (.str "InvalidNumber")) (aCons (fIx (fVar 1) (fC (.int 2))) (aNil)))))) (sNil)) (sSeq (sIf (bNot (bT (fCall 3 F__law_is_whole_to (aCons (fIx (fVar 1) (fC (.int 2))) (aCons (fCall 1 F__law_pu_least_of (aCons (fVar 3) (aNil))) (aCons (f2 subD (fB lenD (aCons (fVar 3) (aNil))) (fC (.int 1))) (aNil))))))) (sRet (fTup (aCons (fC (.str "InvalidNumber")) (aCons (fIx (fVar 1) (fC (.int 2))) (aNil))))) (sNil)) (sRet (fTup (aCons (fC (.str "told")) (aCons (f2 addD (f2 addD (fVar 6) (fTup (aCons (fTup (aCons (fSl (fVar 3) oNone (oSome (f2 addD (fIx (fVar 1) (fC (.int 2))) (fC (.int 1))))) (aCons (fVar 4) (aNil)))) (aNil)))) (fVar 7)) (aNil))))))))
theorem owed_at {l : List D} {w : String} {k : D} {more : List D} (hk : KindsD l) (pk : Pl k) (n1 : eqD (.str w) (.str "share") = some (.bl false)) (n2 : eqD (.str w) (.str "with_kind") = some (.bl false)) (S : Sto) :
    F__law_owed_of [.tup l, .tup (.str w :: k :: more)] S = if inK l k = true then (restO [some (.tup l), some (.tup (.str w :: k :: more)), some (.str w), some (.tup (rowK (kindAt l k))), some (.int (manyK (kindAt l k))), none, some (.tup (l.take (idx k))), some (.tup (l.drop (idx k + 1)))] S).res
      else .ok (.tup [.str "InvalidNumber", k]) S := by
  show (B__law_owed_of [some (.tup l), some (.tup (.str w :: k :: more)), none, none, none, none, none, none] S).res = _
  have e0 : ∀ σ : Stt, σ[1]? = some (some (.tup (.str w :: k :: more))) → fIx (fVar 1) (fC (.int 0)) σ S = .ok (.str w) S := fun σ h => by
    have z : fVar 1 σ S = .ok (.tup (.str w :: k :: more)) S := by unfold fVar; rw [h]
    exact ix_at z rfl (ix_tup (at_zero _ _))
  have e1 : ∀ σ : Stt, σ[1]? = some (some (.tup (.str w :: k :: more))) → fIx (fVar 1) (fC (.int 1)) σ S = .ok k S := fun σ h => by
    have z : fVar 1 σ S = .ok (.tup (.str w :: k :: more)) S := by unfold fVar; rw [h]
    refine ix_at z rfl (ix_tup ?_)
    unfold L2.atI L2.ixN
    rw [if_pos (by decide), if_pos (by simp only [List.length_cons]; omega)]
    rfl
  unfold B__law_owed_of
  rw [asg_of (σ1 := [some (.tup l), some (.tup (.str w :: k :: more)), some (.str w), none, none, none, none, none]) (e0 _ rfl) rfl]
  rw [if_skip (word_test (d := .str w) rfl n1), if_skip (word_test (d := .str w) rfl n2)]
  have t1 := test_not (n := 3) (F := F__law_is_whole_to) (f := aCons (fIx (fVar 1) (fC (.int 1))) (aCons (fC (.int 0)) (aCons (f2 subD (fB lenD (aCons (fVar 0) aNil)) (fC (.int 1))) aNil))) (σ := [some (.tup l), some (.tup (.str w :: k :: more)), some (.str w), none, none, none, none, none]) (S := S) (ds := [k, .int 0, .int ((l.length : Int) - 1)]) (cons_at (e1 _ rfl) rfl) rfl (whole_to_eq pk 0 _ S)
  unfold inK
  cases hw : wholeB k 0 ((l.length : Int) - 1) with
  | false =>
    rw [hw] at t1
    exact if_ret t1 (tup_at (cons_at rfl (cons_at (e1 _ rfl) rfl)) (show 2 ≤ 1000 by decide))
  | true =>
    rw [hw] at t1
    rw [if_skip t1, if_pos rfl]
    obtain ⟨i, row, m0, rfl, h0, h1, ha, hat, r1, r2, r3, r4⟩ := in_at hk hw
    rw [hat]
    have e2 : (fIx (fVar 0) (fIx (fVar 1) (fC (.int 1)))) [some (.tup l), some (.tup (.str w :: .int i :: more)), some (.str w), none, none, none, none, none] S = .ok (.tup [.tup row, .int m0]) S := ix_at rfl (e1 _ rfl) (ix_tup ha)
    rw [asg_of e2 w_gT2]
    have s1 : ∀ σ : Stt, σ[0]? = some (some (.tup l)) → σ[1]? = some (some (.tup (.str w :: .int i :: more))) → fSl (fVar 0) oNone (oSome (fIx (fVar 1) (fC (.int 1)))) σ S = .ok (.tup (l.take i.toNat)) S := fun σ g0 g1 => by
      have z : fVar 0 σ S = .ok (.tup l) S := by unfold fVar; rw [g0]
      unfold fSl
      rw [z, bind_ok]
      show (oSome (fIx (fVar 1) (fC (.int 1))) σ S).bind _ = _
      unfold oSome
      rw [e1 σ g1, bind_ok]
      show (match slD (.tup l) none (some i) with | some d => Res.ok d S | none => .bad) = _
      show Res.ok (D.tup (PF.cutD l none (some i))) S = _
      rw [cut_to h0]
    have s2 : ∀ σ : Stt, σ[0]? = some (some (.tup l)) → σ[1]? = some (some (.tup (.str w :: .int i :: more))) → fSl (fVar 0) (oSome (f2 addD (fIx (fVar 1) (fC (.int 1))) (fC (.int 1)))) oNone σ S = .ok (.tup (l.drop (i.toNat + 1))) S := fun σ g0 g1 => by
      have z : fVar 0 σ S = .ok (.tup l) S := by unfold fVar; rw [g0]
      have z2 : f2 addD (fIx (fVar 1) (fC (.int 1))) (fC (.int 1)) σ S = .ok (.int (i + 1)) S := f2_at (e1 σ g1) rfl rfl
      unfold fSl
      rw [z, bind_ok]
      unfold oSome
      rw [z2, bind_ok]
      show Res.ok (D.tup (PF.cutD l (some (i + 1)) none)) S = _
      rw [cut_from (by omega), show (i + 1).toNat = i.toNat + 1 by omega]
    rw [par_of (cons_at (s1 _ rfl rfl) (cons_at (s2 _ rfl rfl) rfl))]
    rfl
theorem owed_out {l : List D} {k : D} (hk : KindsD l) (pk : Pl k) (S : Sto) : F__law_owed_of [.tup l, dOut k] S = .ok (owedT (ocOut l k)) S := by
  refine (owed_at (w := "without_kind") (more := []) hk pk (by kernel_rfl) (by kernel_rfl) S).trans ?_
  unfold ocOut
  cases hw : inK l k with
  | false => rfl
  | true =>
    rw [if_pos rfl, if_pos rfl]
    unfold restO
    refine if_ret (word_test (d := .str "without_kind") rfl (by kernel_rfl)) ?_
    have e3 : ∀ (a b c d e f g : Option D), (bV (f2 gtD (fB lenD (aCons (fVar 0) aNil)) (fC (.int 1)))) [some (.tup l), a, b, c, d, e, f, g] S = .ok (decide ((1 : Int) < l.length)) S := fun _ _ _ _ _ _ _ => rfl
    have hl := hk.2.1
    by_cases h3 : 1 < l.length
    · have e4 := fun a b c d e f g => (e3 a b c d e f g).trans (congrArg (Res.ok · S) (decide_eq_true (show (1 : Int) < l.length by omega)))
      rw [if_pos h3]
      exact fif_t (e4 _ _ _ _ _ _ _) (tup_at (cons_at rfl (cons_at (f2_at rfl rfl (addT (by simp only [List.length_take, List.length_drop]; omega))) rfl)) (show 2 ≤ 1000 by decide))
    · have e4 := fun a b c d e f g => (e3 a b c d e f g).trans (congrArg (Res.ok · S) (decide_eq_false (show ¬ (1 : Int) < l.length by omega)))
      rw [if_neg h3]
      exact fif_f (e4 _ _ _ _ _ _ _) rfl
theorem swap_add {l : List D} {n : Nat} {d : D} (hl : l.length ≤ 3) : ∃ x, addD (.tup (l.take n)) (.tup [d]) = some x ∧ addD x (.tup (l.drop (n + 1))) = some (.tup (l.take n ++ [d] ++ l.drop (n + 1))) := by
  refine ⟨_, addT (by simp only [List.length_take, List.length_cons, List.length_nil]; omega), ?_⟩
  rw [addT (by simp only [List.length_append, List.length_take, List.length_drop, List.length_cons, List.length_nil]; omega)]
theorem owed_many {l : List D} {k m : D} (hk : KindsD l) (pk : Pl k) (pm : Pl m) (S : Sto) : F__law_owed_of [.tup l, dMany k m] S = .ok (owedT (ocMany l k m)) S := by
  refine (owed_at (w := "with_many") (more := [m]) hk pk (by kernel_rfl) (by kernel_rfl) S).trans ?_
  unfold ocMany
  cases hw : inK l k with
  | false => rfl
  | true =>
    rw [if_pos rfl, if_pos rfl]
    unfold restO
    rw [if_skip (word_test (d := .str "with_many") rfl (by kernel_rfl))]
    refine if_ret (word_test (d := .str "with_many") rfl (by kernel_rfl)) ?_
    obtain ⟨x, x1, x2⟩ := swap_add (l := l) (n := idx k) (d := .tup [.tup (rowK (kindAt l k)), m]) hk.2.1
    have w1 := call_at (n := 3) (F := F__law_is_whole_to) (f := aCons (fIx (fVar 1) (fC (.int 2))) (aCons (fC (.int 0)) (aCons (f2 powD (fC (.int 10)) (fC (.int 30))) aNil))) (σ := [some (.tup l), some (dMany k m), some (.str "with_many"), some (.tup (rowK (kindAt l k))), some (.int (manyK (kindAt l k))), none, some (.tup (l.take (idx k))), some (.tup (l.drop (idx k + 1)))]) (S := S) (ds := [m, .int 0, .int M30]) (cons_at rfl (cons_at rfl (cons_at (f2_at rfl rfl p30_at) rfl))) rfl (whole_to_eq pm 0 M30 S)
    rw [← whole_count] at w1
    cases hc : countB m with
    | false =>
      rw [hc] at w1
      exact fif_f (truth_at w1 rfl) rfl
    | true =>
      rw [hc] at w1
      refine fif_t (truth_at w1 rfl) (tup_at (cons_at rfl (cons_at (f2_at (f2_at rfl rfl x1) rfl x2) rfl)) (show 2 ≤ 1000 by decide))
theorem owed_cut {l : List D} {k q : D} (hk : KindsD l) (pk : Pl k) (pq : Pl q) (S : Sto) : F__law_owed_of [.tup l, dCut k q] S = .ok (owedT (ocCut l k q)) S := by
  refine (owed_at (w := "cut") (more := [q]) hk pk (by kernel_rfl) (by kernel_rfl) S).trans ?_
  unfold ocCut
  cases hw : inK l k with
  | false => rfl
  | true =>
    rw [if_pos rfl, if_pos rfl]
    unfold restO
    rw [if_skip (word_test (d := .str "cut") rfl (by kernel_rfl)), if_skip (word_test (d := .str "cut") rfl (by kernel_rfl))]
    obtain ⟨i, row, m0, rfl, h0, h1, ha, hat, r1, r2, r3, r4⟩ := in_at hk hw
    rw [hat]
    have hr : rowK (.tup [.tup row, .int m0]) = row := rfl
    have hm : manyK (.tup [.tup row, .int m0]) = m0 := rfl
    rw [hr, hm]
    obtain ⟨hall, hnon⟩ := row_all r1 (by omega)
    have f1 := call_at (n := 1) (F := F__law_pu_least_of) (f := aCons (fVar 3) aNil) (σ := [some (.tup l), some (dCut (.int i) q), some (.str "cut"), some (.tup row), some (.int m0), none, some (.tup (l.take (idx (.int i)))), some (.tup (l.drop (idx (.int i) + 1)))]) (S := S) (ds := [.tup row]) rfl rfl (pu_least_eq (row_pl r1) (by omega) hall S)
    have w1 := test_not (n := 3) (F := F__law_is_whole_to) (f := aCons (fIx (fVar 1) (fC (.int 2))) (aCons (fCall 1 F__law_pu_least_of (aCons (fVar 3) aNil)) (aCons (f2 subD (fB lenD (aCons (fVar 3) aNil)) (fC (.int 1))) aNil))) (σ := [some (.tup l), some (dCut (.int i) q), some (.str "cut"), some (.tup row), some (.int m0), none, some (.tup (l.take (idx (.int i)))), some (.tup (l.drop (idx (.int i) + 1)))]) (S := S) (ds := [q, .int ((row.takeWhile isNon).length : Int), .int ((row.length : Int) - 1)]) (cons_at rfl (cons_at f1 rfl)) rfl (whole_to_eq pq _ _ S)
    cases hq : wholeB q ((row.takeWhile isNon).length : Int) ((row.length : Int) - 1) with
    | false =>
      rw [hq] at w1
      exact if_ret w1 rfl
    | true =>
      rw [hq] at w1
      obtain ⟨z, rfl, z0, z1⟩ := whole_int hq
      refine (congrArg Out.res (if_skip w1)).trans ?_
      obtain ⟨x, x1, x2⟩ := swap_add (l := l) (n := i.toNat) (d := .tup [.tup (row.take (z.toNat + 1)), .int m0]) hk.2.1
      have s1 : fSl (fVar 3) oNone (oSome (f2 addD (fIx (fVar 1) (fC (.int 2))) (fC (.int 1)))) [some (.tup l), some (dCut (.int i) (.int z)), some (.str "cut"), some (.tup row), some (.int m0), none, some (.tup (l.take (idx (.int i)))), some (.tup (l.drop (idx (.int i) + 1)))] S = .ok (.tup (row.take (z.toNat + 1))) S := by
        show Res.ok (D.tup (PF.cutD row none (some (z + 1)))) S = _
        rw [cut_to (by omega), show (z + 1).toNat = z.toNat + 1 by omega]
      exact ret_of (tup_at (cons_at rfl (cons_at (f2_at (f2_at rfl (tup_at (cons_at (tup_at (cons_at s1 rfl) (show 2 ≤ 1000 by decide)) rfl) (show 1 ≤ 1000 by decide)) x1) rfl x2) rfl)) (show 2 ≤ 1000 by decide))
end K01
/-! _law_is_crew_of, _law_deed_right -/
namespace K01
open PySem PySem.Spec PyProof.Rows L2 PF
theorem lst_at {r : AF} {σ : Stt} {S : Sto} {ds : List D} (h : r σ S = .ok ds S) (hl : ds.length ≤ 1000) : fLst r σ S = .ok (.lst ds) S := by
  unfold fLst
  rw [h]
  show (if ds.length ≤ LINE then Res.ok (D.lst ds) S else .bad) = _
  rw [if_pos (Nat.le_trans hl (by decide))]
theorem crew_of_eq {l : List D} (hk : KindsD l) (S : Sto) : F__law_is_crew_of [crewD l, .tup l] S = .ok (.bl true) S := by
  have kb := kinds_kb hk
  have hkb := kb.2.2
  have hl : ∀ d ∈ l, Pl d := fun d hd => (kindB_pn (hkb d hd)).pl
  have hz : l.length ≤ 1000 := by have := hk.2.1; omega
  show (B__law_is_crew_of [some (crewD l), some (.tup l), none, none, none, none, none] S).res = _
  unfold B__law_is_crew_of
  have e1 := call_at (n := 1) (F := F__law_pu_ends) (f := aCons (fVar 1) aNil) (σ := [some (crewD l), some (.tup l), none, none, none, none, none]) (S := S) (ds := [.tup l]) rfl rfl (pu_ends_eq hl hkb hz S)
  rw [asg_of (σ1 := [some (crewD l), some (.tup l), some (.int (leastS l)), some (.int (fullS l)), none, none, none]) e1 rfl]
  have hc : compF (gT 2 (gsCons (gN 4) (gsCons (gN 5) (gsNil)))) (bTrue) (fVar 5) l (wipeD [some (crewD l), some (.tup l), some (.int (leastS l)), some (.int (fullS l)), none, none, none] [4, 5]) S = .ok (l.map fun d => D.int (manyK d)) S :=
    kcomp (φ := fun _ m => m) hl hkb fun row m h1 h2 h3 h4 h5 => rfl
  have s1 := call_at (n := 1) (F := F__law_pu_span) (f := aCons (fVar 1) aNil) (σ := [some (crewD l), some (.tup l), some (.int (leastS l)), some (.int (fullS l)), none, none, none]) (S := S) (ds := [.tup l]) rfl rfl (pu_span_eq hl hkb hz S)
  have e2 : fLst (aCons (fVar 1) (aCons (fB sumD (aCons (fComp [4, 5] (iQ (fVar 1)) (gT 2 (gsCons (gN 4) (gsCons (gN 5) (gsNil)))) (bTrue) (fVar 5)) (aNil))) (aCons (fVar 2) (aCons (fVar 3) (aCons (fCall 1 F__law_pu_span (aCons (fVar 1) (aNil))) (aNil)))))) [some (crewD l), some (.tup l), some (.int (leastS l)), some (.int (fullS l)), none, none, none] S = .ok (toldD l) S :=
    lst_at (cons_at rfl (cons_at (fB_at (cons_at (comp_at rfl hc (by rw [List.length_map]; exact hz)) rfl) (sum_map _ _ _)) (cons_at rfl (cons_at rfl (cons_at s1 rfl))))) (show 5 ≤ 1000 by decide)
  rw [asg_of (σ1 := [some (crewD l), some (.tup l), some (.int (leastS l)), some (.int (fullS l)), none, none, some (toldD l)]) e2 rfl]
  have hv : fVar 0 [some (crewD l), some (.tup l), some (.int (leastS l)), some (.int (fullS l)), none, none, some (toldD l)] S = .ok (crewD l) S := rfl
  have e0 : F_Crew_all_kinds [crewD l] S = .ok (.tup l) S := rfl
  have e3 : fLst (aCons (fProp "Crew" F_Crew_all_kinds (fVar 0)) (aCons (fProp "Crew" F_Crew_members (fVar 0)) (aCons (fProp "Crew" F_Crew_least (fVar 0)) (aCons (fProp "Crew" F_Crew_full (fVar 0)) (aCons (fProp "Crew" F_Crew_span (fVar 0)) (aNil)))))) [some (crewD l), some (.tup l), some (.int (leastS l)), some (.int (fullS l)), none, none, some (toldD l)] S = .ok (toldD l) S :=
    lst_at (cons_at (fprop_at hv e0) (cons_at (fprop_at hv (crew_members_eq hl hkb hz S)) (cons_at (fprop_at hv (crew_least_eq hl hkb hz S)) (cons_at (fprop_at hv (crew_full_eq hl hkb hz S)) (cons_at (fprop_at hv (crew_span_eq hl hkb hz S)) rfl))))) (show 5 ≤ 1000 by decide)
  have hpl : PN 7 (toldD l) := .lst (by
    intro d hd
    simp only [List.mem_cons, List.not_mem_nil, or_false] at hd
    rcases hd with rfl | rfl | rfl | rfl | rfl
    · exact .tup (fun d hd => (kindB_pn (hkb d hd)).up.up.up) hz
    · exact .int _ _
    · exact .int _ _
    · exact .int _ _
    · exact .int _ _) (by simp)
  have sm := same7e _ hpl S
  generalize F__law_same = FS at sm ⊢
  have e4 := call_at (n := 2) (F := FS) (ds := [toldD l, toldD l]) (cons_at e3 (cons_at (f := fVar 6) (r := aNil) rfl rfl)) rfl sm
  refine ret_of (and_t e4 ?_)
  exact eqI_at hkb kb.1 hv (call_at (n := 1) (F := F__law_pd_made) (ds := [.tup l]) rfl rfl (made_ok kb S))
end K01
/-! _law_deed_right -/
namespace K01
open PySem PySem.Spec PyProof.Rows L2 PF
def OcOk (o : Oc) : Prop := match o with
  | .inl (c, f, x) => (c = "InvalidNumber" ∧ f = "value" ∨ c = "InvalidCrew" ∧ f = "value" ∨ c = "TooMany" ∧ f = "limit") ∧ PN 6 x
  | .inr l => KindsD l
structure Deal (l : List D) (deed : D) (o : Oc) : Prop where
  owed : ∀ S, F__law_owed_of [.tup l, deed] S = .ok (owedT o) S
  done : ∀ S, F__law_done_to [crewD l, deed] S = doneR o S
  ok : OcOk o
def heardT (o : Oc) : D := match o with
  | .inl (c, _, x) => .tup [.str c, x]
  | .inr l => .tup [.str "told", crewD l]
theorem heard_at {o : Oc} {fb : EF} {σ : Stt} {S : Sto} (ho : OcOk o) (h : fb σ S = doneR o S) : fHeard good fb σ S = .ok (heardT o) S := by
  unfold fHeard hearD
  show (match fb σ S with
    | .ok d S1 => Res.ok (D.tup [.str "told", d]) S1
    | .exc c fs S1 => (match hearX good c fs with
      | some d => .ok d S1
      | none => .bad)
    | .bad => .bad) = _
  rw [h]
  match o, ho with
  | .inr l, _ => rfl
  | .inl (c, f, x), ⟨hc, _⟩ =>
    rcases hc with ⟨rfl, rfl⟩ | ⟨rfl, rfl⟩ | ⟨rfl, rfl⟩ <;> rfl
def nextL (l : List D) (o : Oc) : List D := match o with
  | .inl _ => l
  | .inr l' => l'
theorem next_kinds {l : List D} {o : Oc} (hk : KindsD l) (ho : OcOk o) : KindsD (nextL l o) := by
  match o, ho with
  | .inr l', h => exact h
  | .inl (c, f, x), _ => exact hk
theorem and_test {t u : BF} {σ : Stt} {S : Sto} (h1 : t σ S = .ok true S) (h2 : u σ S = .ok true S) : bAnd t u σ S = .ok true S := by
  unfold bAnd
  rw [h1]
  exact h2
theorem word_ne {σ : Stt} {S : Sto} {d : D} {v : String} {b : Bool} {g : EF} (h1 : g σ S = .ok d S) (h2 : neD d (.str v) = some (.bl b)) : bV (f2 neD g (fC (.str v))) σ S = .ok b S := by
  have e : f2 neD g (fC (.str v)) σ S = .ok (.bl b) S := f2_at h1 rfl h2
  unfold bV
  rw [e]
  rfl
theorem deed_right_eq {l : List D} {deed : D} {o : Oc} (hk : KindsD l) (h : Deal l deed o) (S : Sto) : F__law_deed_right [.tup l, deed] S = .ok (.tup (nextL l o)) S := by
  have kb := kinds_kb hk
  show (B__law_deed_right [some (.tup l), some deed, none, none, none] S).res = _
  unfold B__law_deed_right
  have e1 : fTup (aCons (fCall 1 F__law_pd_made (aCons (fVar 0) (aNil))) (aCons (fCall 2 F__law_owed_of (aCons (fVar 0) (aCons (fVar 1) (aNil)))) (aNil))) [some (.tup l), some deed, none, none, none] S = .ok (.tup [crewD l, owedT o]) S :=
    tup_at (cons_at (call_at (ds := [.tup l]) rfl rfl (made_ok kb S)) (cons_at (call_at (ds := [.tup l, deed]) rfl rfl (h.owed S)) rfl)) (show 2 ≤ 1000 by decide)
  rw [asg_of (σ1 := [some (.tup l), some deed, some (crewD l), some (owedT o), none]) e1 rfl]
  have e2 : fHeard good (fCall 2 F__law_done_to (aCons (fVar 2) (aCons (fVar 1) (aNil)))) [some (.tup l), some deed, some (crewD l), some (owedT o), none] S = .ok (heardT o) S :=
    heard_at h.ok (call_at (ds := [crewD l, deed]) rfl rfl (h.done S))
  rw [asg_of (σ1 := [some (.tup l), some deed, some (crewD l), some (owedT o), some (heardT o)]) e2 rfl]
  have e3 := test_not (n := 2) (F := F__law_is_crew_of) (f := aCons (fVar 2) (aCons (fVar 0) aNil)) (σ := [some (.tup l), some deed, some (crewD l), some (owedT o), some (heardT o)]) (S := S) (ds := [crewD l, .tup l]) rfl rfl (crew_of_eq hk S)
  rw [if_skip e3]
  match o, h.ok with
  | .inr l', hk' =>
    have w1 : bV (f2 neD (fIx (fVar 3) (fC (.int 0))) (fC (.str "told"))) [some (.tup l), some deed, some (crewD l), some (owedT (.inr l')), some (heardT (.inr l'))] S = .ok false S := word_ne (d := .str "told") rfl (by kernel_rfl)
    rw [if_skip w1]
    have w2 : bV (f2 eqD (fIx (fVar 4) (fC (.int 0))) (fC (.str "told"))) [some (.tup l), some deed, some (crewD l), some (owedT (.inr l')), some (heardT (.inr l'))] S = .ok true S := word_test (d := .str "told") rfl (by kernel_rfl)
    have w3 : bT (fCall 2 F__law_is_crew_of (aCons (fIx (fVar 4) (fC (.int 1))) (aCons (fIx (fVar 3) (fC (.int 1))) (aNil)))) [some (.tup l), some deed, some (crewD l), some (owedT (.inr l')), some (heardT (.inr l'))] S = .ok true S :=
      truth_at (call_at (ds := [crewD l', .tup l']) rfl rfl (crew_of_eq hk' S)) rfl
    exact ret_of (fif_t (and_test w2 w3) rfl)
  | .inl (c, f, x), ⟨hc, hx⟩ =>
    have hp : PN 7 (.tup [.str c, x]) := .tup (by
      intro d hd
      simp only [List.mem_cons, List.not_mem_nil, or_false] at hd
      rcases hd with rfl | rfl
      · rcases hc with ⟨rfl, _⟩ | ⟨rfl, _⟩ | ⟨rfl, _⟩ <;> exact .str _ _ (by decide +kernel)
      · exact hx) (by simp)
    have sm := same7e _ hp S
    have w1 : bV (f2 neD (fIx (fVar 3) (fC (.int 0))) (fC (.str "told"))) [some (.tup l), some deed, some (crewD l), some (owedT (.inl (c, f, x))), some (heardT (.inl (c, f, x)))] S = .ok true S :=
      word_ne (d := .str c) rfl (by rcases hc with ⟨rfl, _⟩ | ⟨rfl, _⟩ | ⟨rfl, _⟩ <;> kernel_rfl)
    refine if_ret w1 ?_
    generalize F__law_same = FS at sm ⊢
    exact fif_t (truth_at (call_at (n := 2) (F := FS) (ds := [.tup [.str c, x], .tup [.str c, x]]) rfl rfl sm) rfl) rfl
/-! ### the deeds -/
theorem num_ok {x : D} (h : PN 6 x) : OcOk (numO x) := ⟨.inl ⟨rfl, rfl⟩, h⟩
theorem deal_many {l : List D} {k m : D} (hk : KindsD l) (pk : PN 6 k) (pm : PN 6 m) : Deal l (dMany k m) (ocMany l k m) := by
  refine ⟨owed_many hk pk.pl pm.pl, done_many hk pk.pl pm.pl, ?_⟩
  unfold ocMany
  split
  · rename_i hw
    split
    · rename_i hc
      obtain ⟨i, row, m0, rfl, h0, h1, ha, hat, r1, r2, r3, r4⟩ := in_at hk hw
      rw [hat]
      rw [whole_count] at hc
      obtain ⟨z, rfl, z0, z1⟩ := whole_int hc
      exact swap_kinds hk (by show i.toNat < _; omega) ⟨row, z, rfl, r1, r2, z0, z1⟩
    · exact num_ok pm
  · exact num_ok pk
theorem deal_out {l : List D} {k : D} (hk : KindsD l) (pk : PN 6 k) : Deal l (dOut k) (ocOut l k) := by
  refine ⟨owed_out hk pk.pl, done_out hk pk.pl, ?_⟩
  unfold ocOut
  split
  · rename_i hw
    split
    · rename_i hc
      obtain ⟨i, row, m0, rfl, h0, h1, ha, hat, r1, r2, r3, r4⟩ := in_at hk hw
      exact out_kinds hk (by show i.toNat < _; omega) hc
    · exact ⟨.inr (.inl ⟨rfl, rfl⟩), .tup (fun d hd => nomatch hd) (by simp)⟩
  · exact num_ok pk
theorem deal_cut {l : List D} {k q : D} (hk : KindsD l) (pk : PN 6 k) (pq : PN 6 q) : Deal l (dCut k q) (ocCut l k q) := by
  refine ⟨owed_cut hk pk.pl pq.pl, done_cut hk pk.pl pq.pl, ?_⟩
  unfold ocCut
  split
  · rename_i hw
    split
    · rename_i hc
      obtain ⟨i, row, m0, rfl, h0, h1, ha, hat, r1, r2, r3, r4⟩ := in_at hk hw
      rw [hat] at hc ⊢
      obtain ⟨z, rfl, z0, z1⟩ := whole_int hc
      refine swap_kinds hk (by show i.toNat < _; omega) ⟨row.take (z.toNat + 1), m0, rfl, row_cut r1 ?_, by rw [List.length_take]; omega, r3, r4⟩
      have z0 : ((row.takeWhile isNon).length : Int) ≤ z := z0
      omega
    · exact num_ok pq
  · exact num_ok pk
theorem deal_share {l : List D} {o : D} (hk : KindsD l) (po : PN 6 o) : Deal l (dShare o) (ocShare l o) := by
  refine ⟨owed_share hk po.pl, done_share hk po.pl, ?_⟩
  unfold ocShare
  split
  · rename_i hw
    obtain ⟨p, rfl, p1, p2⟩ := whole_int (Bool.and_eq_true_iff.mp hw).1
    exact share_kinds hk p1
  · exact num_ok po
theorem deal_kind {l : List D} {v m : D} (hk : KindsD l) (pv : PN 6 v) (pm : PN 6 m) (hv : valuesB v = true → ∃ row, v = .tup row ∧ Row row ∧ row.length ≤ 13) : Deal l (dKind v m) (ocKind l v m) := by
  refine ⟨owed_kind hk pv.pl pm.pl, done_kind hk pv.pl pm.pl, ?_⟩
  unfold ocKind
  split
  · rename_i hw
    split
    · rename_i hc
      split
      · rename_i hn
        obtain ⟨row, rfl, r1, r2⟩ := hv hw
        rw [whole_count] at hc
        obtain ⟨z, rfl, z0, z1⟩ := whole_int hc
        obtain ⟨g1, g2, g3⟩ := hk
        refine ⟨by simp, by rw [List.length_append]; simp only [List.length_cons, List.length_nil]; omega, fun d hd => ?_⟩
        rcases List.mem_append.mp hd with q | q
        · exact g3 d q
        · rw [List.mem_singleton.mp q]; exact ⟨row, z, rfl, r1, r2, z0, z1⟩
      · exact ⟨.inr (.inr ⟨rfl, rfl⟩), .int _ _⟩
    · exact num_ok pm
  · exact ⟨.inr (.inl ⟨rfl, rfl⟩), pv⟩
end K01
/-! deeds drawn -/
namespace K01
open PySem PySem.Spec PyProof.Rows L2 PF
theorem len_log {l : List D} (h : l.length ≤ 13) : ((l.length : Int)).natAbs.log2 < 9000 := by
  have e : (l.length : Int).natAbs = l.length := rfl
  rw [e]
  exact Nat.lt_of_le_of_lt (Nat.log2_le_self _) (by omega)
theorem kind_drawn_ok {S : Sto} {j : Nat} {l : List D} {Q : D → Sto → Prop} (hj : Jar S j) (hk : KindsD l) (h : ∀ d S', PN 6 d → Ev j S S' → Q d S') : okR (F__law_kind_drawn [.ref j, .tup l] S) Q := by
  have hp := List.length_pos_iff.mpr hk.1
  have hl := hk.2.1
  unfold F__law_kind_drawn
  rw [w_runF]
  show okS (B__law_kind_drawn [some (.ref j), some (.tup l)] S) _ _
  unfold B__law_kind_drawn
  simp only [w_seq, w_sif, w_bV, w_bT, w_bAnd, w_or, w_not, w_f1, w_f2, w_chain, w_ix, w_isi, w_tup, w_lst, w_new, w_and, w_if, w_c, w_asg, w_par, w_sub, w_app, w_for, w_ret, w_snil, w_b, w_call, w_cons, w_nil, w_q, w_r1, w_r2, w_oN, w_oS, w_sl, w_comp, w_runF, w_var]
  simp only [List.getElem?_cons_zero, List.getElem?_cons_succ, List.set_cons_zero, List.set_cons_succ, List.length_cons, List.length_nil, Option.some.injEq, exists_eq_left', exists_eq_left, D.int.injEq, D.bl.injEq, D.ref.injEq, D.lst.injEq, D.tup.injEq, D.str.injEq, and_true, true_and, List.cons.injEq, gN, forall_eq, forall_const]
  refine take_ok hj (by decide) (by decide) fun r S1 h0 h1 ev1 => ⟨_, rfl, _, rfl, fun _ => ⟨_, _, rfl, take_ok ev1.jar (by omega) (len_log (by omega)) fun r2 S2 g0 g1 ev2 => h _ _ (.int _ _) (ev1.trans ev2)⟩, fun _ => ?_⟩
  have p20 : powD (.int 10) (.int 20) = some (.int 100000000000000000000) := by rw [powD_ok (by decide) (by decide) (by decide)]; rfl
  refine ⟨_, _, rfl, _, rfl, by decide, _, p20, by decide, one_ok ev1.jar (by simp) (by simp) fun d S2 hd ev2 => h _ _ ?_ (ev1.trans ev2)⟩
  simp only [List.mem_cons, List.not_mem_nil, or_false] at hd
  rcases hd with rfl | rfl | rfl | rfl | rfl | rfl | rfl
  · exact .int _ _
  · exact .int _ _
  · exact .bl _ _
  · exact .non _
  · exact .str _ _ (by decide +kernel)
  · exact .tup (by intro d hd; rw [List.mem_singleton] at hd; rw [hd]; exact .int _ _) (by simp)
  · exact .int _ _
theorem last_non (l : List D) : valuesB (.tup (l ++ [.non])) = false := by
  rw [valuesB_tup, List.getLastD_eq_getLast?, List.getLast?_concat]
  simp [isNon]
theorem deed_drawn_ok {S : Sto} {j : Nat} {l : List D} {Q : D → Sto → Prop} (hj : Jar S j) (hk : KindsD l) (h : ∀ d o S', Deal l d o → Ev j S S' → Q d S') : okR (F__law_deed_drawn [.ref j, .tup l] S) Q := by
  have hp := List.length_pos_iff.mpr hk.1
  have hl := hk.2.1
  unfold F__law_deed_drawn
  rw [w_runF]
  show okS (B__law_deed_drawn [some (.ref j), some (.tup l), none, none, none, none] S) _ _
  unfold B__law_deed_drawn
  refine seq_cut (fun σ S1 => ∃ r : Int, σ = [some (.ref j), some (.tup l), some (.int r), none, none, none] ∧ Ev j S S1) ?_ ?_
  · intro J hJ
    simp only [w_seq, w_sif, w_bV, w_bT, w_bAnd, w_or, w_not, w_f1, w_f2, w_chain, w_ix, w_isi, w_tup, w_lst, w_new, w_and, w_if, w_c, w_asg, w_par, w_sub, w_app, w_for, w_ret, w_snil, w_b, w_call, w_cons, w_nil, w_q, w_r1, w_r2, w_oN, w_oS, w_sl, w_comp, w_runF, w_var]
    simp only [List.getElem?_cons_zero, List.getElem?_cons_succ, List.set_cons_zero, List.set_cons_succ, List.length_cons, List.length_nil, Option.some.injEq, exists_eq_left', exists_eq_left, D.int.injEq, D.bl.injEq, D.ref.injEq, D.lst.injEq, D.tup.injEq, D.str.injEq, and_true, true_and, List.cons.injEq, gN, forall_eq, forall_const]
    exact take_ok hj (by decide) (by decide) fun r S1 h0 h1 ev1 => hJ _ _ ⟨r, rfl, ev1⟩
  rintro σ1 S1 ⟨r, rfl, ev1⟩
  refine seq_cut (fun σ S2 => ∃ m : D, σ = [some (.ref j), some (.tup l), some (.int r), some m, none, none] ∧ PN 6 m ∧ Ev j S S2) ?_ ?_
  · intro J hJ
    simp only [w_seq, w_sif, w_bV, w_bT, w_bAnd, w_or, w_not, w_f1, w_f2, w_chain, w_ix, w_isi, w_tup, w_lst, w_new, w_and, w_if, w_c, w_asg, w_par, w_sub, w_app, w_for, w_ret, w_snil, w_b, w_call, w_cons, w_nil, w_q, w_r1, w_r2, w_oN, w_oS, w_sl, w_comp, w_runF, w_var]
    simp only [List.getElem?_cons_zero, List.getElem?_cons_succ, List.set_cons_zero, List.set_cons_succ, List.length_cons, List.length_nil, Option.some.injEq, exists_eq_left', exists_eq_left, D.int.injEq, D.bl.injEq, D.ref.injEq, D.lst.injEq, D.tup.injEq, D.str.injEq, and_true, true_and, List.cons.injEq, gN, forall_eq, forall_const]
    refine take_ok ev1.jar (by decide) (by decide) fun r2 S2 g0 g1 ev2 => great_ok ev2.jar fun r3 S3 f0 f1 ev3 => ?_
    refine ⟨_, p30_at, _, rfl, _, p30_at, _, rfl, by decide, one_ok ev3.jar (by simp) (by simp) fun d S4 hd ev4 => hJ _ _ ⟨d, rfl, ?_, ((ev1.trans ev2).trans ev3).trans ev4⟩⟩
    simp only [List.mem_cons, List.not_mem_nil, or_false] at hd
    rcases hd with rfl | rfl | rfl | rfl | rfl | rfl | rfl | rfl | rfl
    · exact .int _ _
    · exact .int _ _
    · exact .int _ _
    · exact .int _ _
    · exact .int _ _
    · exact .int _ _
    · exact .bl _ _
    · exact .non _
    · exact .str _ _ (by decide +kernel)
  rintro σ2 S2 ⟨m, rfl, hm, ev2⟩
  refine guard (decide (r < 2)) ?_ (fun _ => ?_) (fun _ => ?_)
  · simp only [w_bV, w_f2, w_var, w_c]
    exact ⟨_, rfl, _, rfl, _, rfl, rfl, trivial⟩
  · simp only [w_tup, w_cons, w_nil, w_c, w_call, w_var]
    simp only [List.getElem?_cons_zero, List.getElem?_cons_succ, List.set_cons_zero, List.set_cons_succ, List.length_cons, List.length_nil, Option.some.injEq, exists_eq_left', exists_eq_left, D.int.injEq, D.bl.injEq, D.ref.injEq, D.lst.injEq, D.tup.injEq, D.str.injEq, and_true, true_and, List.cons.injEq, gN, forall_eq, forall_const]
    exact kind_drawn_ok ev2.jar hk fun k S3 pk ev3 => ⟨by decide, h _ _ _ (deal_many hk pk hm) (ev2.trans ev3)⟩
  rw [w_seq, w_sif]
  have t2 : okR ((bV (f2 ltD (fVar 2) (fC (.int 4)))) [some (.ref j), some (.tup l), some (.int r), some m, none, none] S2) fun c S' => c = decide (r < 4) ∧ S' = S2 := by
    simp only [w_bV, w_f2, w_var, w_c]
    exact ⟨_, rfl, _, rfl, _, rfl, rfl, trivial⟩
  refine t2.mono fun c S' ⟨e1, e2⟩ => ?_
  subst e1 e2
  refine ⟨fun _ => ?_, fun _ => ?_⟩
  · refine seq_cut (fun σ S3 => ∃ row : List D, σ = [some (.ref j), some (.tup l), some (.int r), some m, some (.tup row), none] ∧ Row row ∧ row.length ≤ 13 ∧ Ev j S S3) ?_ ?_
    · intro J hJ
      simp only [w_seq, w_sif, w_bV, w_bT, w_bAnd, w_or, w_not, w_f1, w_f2, w_chain, w_ix, w_isi, w_tup, w_lst, w_new, w_and, w_if, w_c, w_asg, w_par, w_sub, w_app, w_for, w_ret, w_snil, w_b, w_call, w_cons, w_nil, w_q, w_r1, w_r2, w_oN, w_oS, w_sl, w_comp, w_runF, w_var]
      simp only [List.getElem?_cons_zero, List.getElem?_cons_succ, List.set_cons_zero, List.set_cons_succ, List.length_cons, List.length_nil, Option.some.injEq, exists_eq_left', exists_eq_left, D.int.injEq, D.bl.injEq, D.ref.injEq, D.lst.injEq, D.tup.injEq, D.str.injEq, and_true, true_and, List.cons.injEq, gN, forall_eq, forall_const]
      exact values_ok ev2.jar (by decide) (by decide) fun row S3 r1 r2 ev3 => hJ _ _ ⟨row, rfl, r1, by omega, ev2.trans ev3⟩
    rintro σ3 S3 ⟨row, rfl, r1, r2, ev3⟩
    simp only [w_seq, w_sif, w_bV, w_bT, w_bAnd, w_or, w_not, w_f1, w_f2, w_chain, w_ix, w_isi, w_tup, w_lst, w_new, w_and, w_if, w_c, w_asg, w_par, w_sub, w_app, w_for, w_ret, w_snil, w_b, w_call, w_cons, w_nil, w_q, w_r1, w_r2, w_oN, w_oS, w_sl, w_comp, w_runF, w_var]
    simp only [List.getElem?_cons_zero, List.getElem?_cons_succ, List.set_cons_zero, List.set_cons_succ, List.length_cons, List.length_nil, Option.some.injEq, exists_eq_left', exists_eq_left, D.int.injEq, D.bl.injEq, D.ref.injEq, D.lst.injEq, D.tup.injEq, D.str.injEq, and_true, true_and, List.cons.injEq, gN, forall_eq, forall_const]
    refine ⟨_, _, rfl, by decide, by decide, _, addT (by simp only [List.length_cons, List.length_nil]; omega), by decide, by decide, one_ok ev3.jar (by simp) (by simp) fun v S4 hv ev4 => ⟨by decide, h _ _ _ (deal_kind hk ?_ hm ?_) (ev3.trans ev4)⟩⟩
    · have hr : ∀ d ∈ row, PN 5 d := fun d hd => (row_pn r1 d hd).up.up.up.up.up
      simp only [List.mem_cons, List.not_mem_nil, or_false] at hv
      rcases hv with rfl | rfl | rfl | rfl | rfl | rfl | rfl | rfl
      · exact .tup hr (by omega)
      · exact .tup hr (by omega)
      · exact .tup hr (by omega)
      · exact .lst hr (by omega)
      · exact .tup (by intro d hd; rw [List.mem_singleton] at hd; rw [hd]; exact .non _) (by simp)
      · refine .tup (fun d hd => ?_) (by rw [List.length_append]; simp only [List.length_cons, List.length_nil]; omega)
        rcases List.mem_append.mp hd with z | z
        · exact hr d z
        · rw [List.mem_singleton.mp z]; exact .non _
      · exact .tup (by intro d hd; rw [List.mem_singleton] at hd; rw [hd]; exact .bl _ _) (by simp)
      · exact .non _
    · intro hb
      simp only [List.mem_cons, List.not_mem_nil, or_false] at hv
      rcases hv with rfl | rfl | rfl | rfl | rfl | rfl | rfl | rfl
      · exact ⟨row, rfl, r1, r2⟩
      · exact ⟨row, rfl, r1, r2⟩
      · exact ⟨row, rfl, r1, r2⟩
      · cases hb
      · cases hb
      · rw [last_non] at hb; cases hb
      · cases hb
      · cases hb
  show okS (sSeq _ _ _ _) _ _
  refine guard (decide (r = 4)) ?_ (fun _ => ?_) (fun _ => ?_)
  · simp only [w_bV, w_f2, w_var, w_c]
    exact ⟨_, rfl, _, eqI _ _, _, rfl, rfl, trivial⟩
  · simp only [w_tup, w_cons, w_nil, w_c, w_call, w_var]
    simp only [List.getElem?_cons_zero, List.getElem?_cons_succ, List.set_cons_zero, List.set_cons_succ, List.length_cons, List.length_nil, Option.some.injEq, exists_eq_left', exists_eq_left, D.int.injEq, D.bl.injEq, D.ref.injEq, D.lst.injEq, D.tup.injEq, D.str.injEq, and_true, true_and, List.cons.injEq, gN, forall_eq, forall_const]
    exact kind_drawn_ok ev2.jar hk fun k S3 pk ev3 => ⟨by decide, h _ _ _ (deal_out hk pk) (ev2.trans ev3)⟩
  rw [w_seq, w_sif]
  have t3 : okR ((bV (f2 ltD (fVar 2) (fC (.int 7)))) [some (.ref j), some (.tup l), some (.int r), some m, none, none] S') fun c S'' => c = decide (r < 7) ∧ S'' = S' := by
    simp only [w_bV, w_f2, w_var, w_c]
    exact ⟨_, rfl, _, rfl, _, rfl, rfl, trivial⟩
  refine t3.mono fun c S'' ⟨e1, e2⟩ => ?_
  subst e1 e2
  refine ⟨fun _ => ?_, fun _ => ?_⟩
  · refine seq_cut (fun σ S3 => ∃ row : List D, σ = [some (.ref j), some (.tup l), some (.int r), some m, some (.tup row), none] ∧ Row row ∧ row.length ≤ 13 ∧ Ev j S S3) ?_ ?_
    · intro J hJ
      simp only [w_seq, w_sif, w_bV, w_bT, w_bAnd, w_or, w_not, w_f1, w_f2, w_chain, w_ix, w_isi, w_tup, w_lst, w_new, w_and, w_if, w_c, w_asg, w_par, w_sub, w_app, w_for, w_ret, w_snil, w_b, w_call, w_cons, w_nil, w_q, w_r1, w_r2, w_oN, w_oS, w_sl, w_comp, w_runF, w_var]
      simp only [List.getElem?_cons_zero, List.getElem?_cons_succ, List.set_cons_zero, List.set_cons_succ, List.length_cons, List.length_nil, Option.some.injEq, exists_eq_left', exists_eq_left, D.int.injEq, D.bl.injEq, D.ref.injEq, D.lst.injEq, D.tup.injEq, D.str.injEq, and_true, true_and, List.cons.injEq, gN, forall_eq, forall_const]
      refine ⟨_, _, rfl, take_ok ev2.jar (by omega) (len_log (by omega)) fun r2 S3 g0 g1 ev3 => ?_⟩
      obtain ⟨d, a1, a2⟩ := atI_of g0 g1
      obtain ⟨row, m0, rfl, q1, q2, q3, q4⟩ := hk.2.2 d a2
      exact ⟨_, ix_tup a1, _, ix_tup (at_zero _ _), hJ _ _ ⟨row, rfl, q1, q2, ev2.trans ev3⟩⟩
    rintro σ3 S3 ⟨row, rfl, r1, r2, ev3⟩
    have hrp := List.length_pos_iff.mpr (row_ne r1)
    obtain ⟨hall, hnon⟩ := row_all r1 (by omega)
    have f1 : ∀ S, F__law_pu_least_of [.tup row] S = .ok (.int (row.takeWhile isNon).length) S := fun S => pu_least_eq (row_pl r1) (by omega) hall S
    refine seq_cut (fun σ S4 => ∃ q : D, σ = [some (.ref j), some (.tup l), some (.int r), some m, some (.tup row), some q] ∧ PN 6 q ∧ Ev j S S4) ?_ ?_
    · intro J hJ
      simp only [w_seq, w_sif, w_bV, w_bT, w_bAnd, w_or, w_not, w_f1, w_f2, w_chain, w_ix, w_isi, w_tup, w_lst, w_new, w_and, w_if, w_c, w_asg, w_par, w_sub, w_app, w_for, w_ret, w_snil, w_b, w_call, w_cons, w_nil, w_q, w_r1, w_r2, w_oN, w_oS, w_sl, w_comp, w_runF, w_var]
      simp only [List.getElem?_cons_zero, List.getElem?_cons_succ, List.set_cons_zero, List.set_cons_succ, List.length_cons, List.length_nil, Option.some.injEq, exists_eq_left', exists_eq_left, D.int.injEq, D.bl.injEq, D.ref.injEq, D.lst.injEq, D.tup.injEq, D.str.injEq, and_true, true_and, List.cons.injEq, gN, forall_eq, forall_const]
      refine ⟨_, _, rfl, take_ok ev3.jar (by omega) (len_log r2) fun r3 S4 g0 g1 ev4 => ⟨_, _, rfl, _, rfl, ?_⟩⟩
      rw [f1]
      show okR (F__law_pu_least_of [.tup row] S4) _
      rw [f1]
      refine ⟨_, rfl, _, _, rfl, by decide, one_ok ev4.jar (by simp) (by simp) fun d S5 hd ev5 => hJ _ _ ⟨d, rfl, ?_, (ev3.trans ev4).trans ev5⟩⟩
      simp only [List.mem_cons, List.not_mem_nil, or_false] at hd
      rcases hd with rfl | rfl | rfl | rfl | rfl | rfl | rfl | rfl
      · exact .int _ _
      · exact .int _ _
      · exact .int _ _
      · exact .int _ _
      · exact .int _ _
      · exact .bl _ _
      · exact .non _
      · exact .str _ _ (by decide +kernel)
    rintro σ4 S4 ⟨q, rfl, hq, ev4⟩
    simp only [w_ret, w_tup, w_cons, w_nil, w_c, w_call, w_var]
    simp only [List.getElem?_cons_zero, List.getElem?_cons_succ, List.set_cons_zero, List.set_cons_succ, List.length_cons, List.length_nil, Option.some.injEq, exists_eq_left', exists_eq_left, D.int.injEq, D.bl.injEq, D.ref.injEq, D.lst.injEq, D.tup.injEq, D.str.injEq, and_true, true_and, List.cons.injEq, gN, forall_eq, forall_const]
    exact kind_drawn_ok ev4.jar hk fun k S5 pk ev5 => ⟨by decide, h _ _ _ (deal_cut hk pk hq) (ev4.trans ev5)⟩
  simp only [w_snil, w_ret, w_tup, w_lst, w_cons, w_nil, w_c, w_f1, w_call, w_var]
  simp only [List.getElem?_cons_zero, List.getElem?_cons_succ, List.set_cons_zero, List.set_cons_succ, List.length_cons, List.length_nil, Option.some.injEq, exists_eq_left', exists_eq_left, D.int.injEq, D.bl.injEq, D.ref.injEq, D.lst.injEq, D.tup.injEq, D.str.injEq, and_true, true_and, List.cons.injEq, gN, forall_eq, forall_const]
  refine ⟨_, rfl, by decide, by decide, one_ok ev2.jar (by simp) (by simp) fun d S5 hd ev5 => ⟨by decide, h _ _ _ (deal_share hk ?_) (ev2.trans ev5)⟩⟩
  simp only [List.mem_cons, List.not_mem_nil, or_false] at hd
  rcases hd with rfl | rfl | rfl | rfl | rfl | rfl | rfl | rfl | rfl | rfl | rfl | rfl | rfl | rfl
  · exact .int _ _
  · exact .int _ _
  · exact .int _ _
  · exact .int _ _
  · exact .int _ _
  · exact .int _ _
  · exact .int _ _
  · exact .int _ _
  · exact .int _ _
  · exact .int _ _
  · exact .bl _ _
  · exact .non _
  · exact .str _ _ (by decide +kernel)
  · exact .tup (by intro d hd; rw [List.mem_singleton] at hd; rw [hd]; exact .int _ _) (by simp)
end K01
/-! _law_full_right, the law -/
namespace K01
open PySem PySem.Spec PyProof.Rows L2 PF
theorem refs_at {FS : FF} {c : String} {f : Str} {x : D} {fb fo fo2 : EF} {σ : Stt} {S : Sto} (sm : FS [.tup [.str c, x], .tup [.str c, x]] S = .ok (.bl true) S) (h1 : fo σ S = .ok (.str c) S) (h2 : fo2 σ S = .ok x S) (hb : fb σ S = doneR (.inl (c, f, x)) S) (ho : OcOk (.inl (c, f, x))) : fRefs good FS fb fo fo2 σ S = .ok (.bl true) S := by
  have hh : hearD good (fun S => fb σ S) S = .ok (.tup [.str c, x]) S := heard_at (o := .inl (c, f, x)) ho hb
  unfold fRefs
  rw [h1, bind_ok, h2, bind_ok]
  unfold refD
  rw [hh, bind_ok]
  exact sm
def P26 : Int := 100000000000000000000000000
def capK (d : D) : Int := min (manyK d) P26
theorem cap_kinds {l : List D} {p : Int} (hk : KindsD l) (h1 : 1 ≤ p) (h2 : p ≤ 1000) : KindsD (l.map fun d => .tup [.tup (rowK d), .int (capK d * p)]) := by
  obtain ⟨g1, g2, g3⟩ := hk
  refine ⟨fun z => g1 (List.map_eq_nil_iff.mp z), by rw [List.length_map]; exact g2, fun d hd => ?_⟩
  obtain ⟨x, hx, rfl⟩ := List.mem_map.mp hd
  obtain ⟨row, m, rfl, q1, q2, q3, q4⟩ := g3 x hx
  have c0 : 0 ≤ capK (.tup [.tup row, .int m]) := by show 0 ≤ min m P26; unfold P26; omega
  have c1 : capK (.tup [.tup row, .int m]) ≤ P26 := by show min m P26 ≤ P26; omega
  refine ⟨row, _, rfl, q1, q2, Int.mul_nonneg c0 (by omega), ?_⟩
  have := Int.mul_le_mul c1 h2 (by omega) (by unfold P26; decide)
  unfold M30
  unfold P26 at this
  omega
theorem share_caps {l : List D} {p : Int} (h1 : 1 ≤ p) (h2 : p ≤ 1000) : nextL (l.map fun d => .tup [.tup (rowK d), .int (capK d * p)]) (ocShare (l.map fun d => .tup [.tup (rowK d), .int (capK d * p)]) (.int p)) = l.map fun d => .tup [.tup (rowK d), .int (capK d)] := by
  have hf : fitsB (l.map fun d => .tup [.tup (rowK d), .int (capK d * p)]) (.int p) = true := by
    unfold fitsB
    rw [whole_eq, decide_eq_true h1, decide_eq_true h2, Bool.and_self, Bool.true_and, List.all_map, List.all_eq_true]
    intro d _
    show decide (capK d * p % p = 0) = true
    rw [Int.mul_emod_left]
    rfl
  unfold ocShare
  rw [if_pos hf]
  show List.map _ (List.map _ l) = _
  rw [List.map_map]
  refine congrArg (fun f => List.map f l) (funext fun d => ?_)
  show D.tup [.tup (rowK d), .int (capK d * p / p)] = _
  rw [Int.mul_ediv_cancel _ (by omega)]
theorem full_right_ok {S : Sto} {j : Nat} {l : List D} {Q : D → Sto → Prop} (hj : Jar S j) (hk : KindsD l) (h : ∀ S', Ev j S S' → Q (.bl true) S') : okR (F__law_full_right [.ref j, .tup l] S) Q := by
  have hp := List.length_pos_iff.mpr hk.1
  have hl := hk.2.1
  have hz : l.length ≤ 1000 := by omega
  unfold F__law_full_right
  rw [w_runF]
  show okS (B__law_full_right [some (.ref j), some (.tup l), none, none, none, none, none, none, none] S) _ _
  unfold B__law_full_right
  obtain ⟨FS, hFS⟩ : ∃ F : FF, F = F__law_same := ⟨_, rfl⟩
  rw [← hFS]
  refine seq_cut (fun σ S1 => ∃ t : List D, σ = [some (.ref j), some (.tup l), some (.tup t), none, none, none, none, none, none] ∧ KindsD t ∧ t.length = 3 ∧ S1 = S) ?_ ?_
  · intro J hJ
    simp only [w_seq, w_sif, w_bV, w_bT, w_bAnd, w_or, w_not, w_f1, w_f2, w_chain, w_ix, w_isi, w_tup, w_lst, w_new, w_and, w_if, w_c, w_asg, w_par, w_sub, w_app, w_for, w_ret, w_snil, w_b, w_call, w_cons, w_nil, w_q, w_r1, w_r2, w_oN, w_oS, w_sl, w_comp, w_runF, w_var]
    simp only [List.getElem?_cons_zero, List.getElem?_cons_succ, List.set_cons_zero, List.set_cons_succ, List.length_cons, List.length_nil, Option.some.injEq, exists_eq_left', exists_eq_left, D.int.injEq, D.bl.injEq, D.ref.injEq, D.lst.injEq, D.tup.injEq, D.str.injEq, and_true, true_and, List.cons.injEq, gN, forall_eq, forall_const]
    have hl2 : (l ++ l).length + l.length ≤ 1000 := by simp only [List.length_append]; omega
    refine ⟨_, addT (by omega), _, addT hl2, _, rfl, hJ _ _ ⟨_, rfl, ?_, ?_, rfl⟩⟩
    · refine ⟨fun z => ?_, ?_, fun d hd => ?_⟩
      · have := congrArg List.length z
        rw [cut_to (by decide), List.length_take, List.length_append, List.length_append, show (3 : Int).toNat = 3 from rfl, List.length_nil] at this
        omega
      · rw [cut_to (by decide), List.length_take]
        exact Nat.min_le_left _ _
      · have hm := cut_mem hd
        simp only [List.mem_append] at hm
        rcases hm with (z | z) | z <;> exact hk.2.2 d z
    · rw [cut_to (by decide), List.length_take, List.length_append, List.length_append, show (3 : Int).toNat = 3 from rfl]
      omega
  rintro σ1 S1 ⟨t, rfl, ht, ht3, rfl⟩
  refine seq_cut (fun σ S2 => ∃ row : List D, σ = [some (.ref j), some (.tup l), some (.tup t), some (crewD t), some (.tup row), none, none, none, none] ∧ Row row ∧ row.length ≤ 13 ∧ Ev j S1 S2) ?_ ?_
  · intro J hJ
    simp only [w_asg, w_tup, w_cons, w_nil, w_b, w_call, w_c, w_var]
    simp only [List.getElem?_cons_zero, List.getElem?_cons_succ, List.set_cons_zero, List.set_cons_succ, List.length_cons, List.length_nil, Option.some.injEq, exists_eq_left', exists_eq_left, D.int.injEq, D.bl.injEq, D.ref.injEq, D.lst.injEq, D.tup.injEq, D.str.injEq, and_true, true_and, List.cons.injEq, gN, forall_eq, forall_const]
    rw [made_ok (kinds_kb ht)]
    exact values_ok hj (by decide) (by decide) fun row S2 r1 r2 ev2 => ⟨by decide, _, w_gT2, hJ _ _ ⟨row, rfl, r1, by omega, ev2⟩⟩
  rintro σ2 S2 ⟨row, rfl, r1, r2, ev2⟩
  have hv := row_values r1 (by omega)
  have prow : Pl (.tup row) := .tup (row_pl r1) (by omega)
  have many1 : countB (.int 1) = true := by decide
  have manyN : countB (.int (-1)) = false := by decide
  have e1 : ∀ S, F_Crew_with_kind [crewD t, .tup row, .int 1] S = doneR (.inl ("TooMany", "limit", .int 3)) S := fun S => by
    rw [with_kind_eq ht prow (.int 1) S]
    unfold ocKind
    rw [hv, many1, if_pos rfl, if_pos rfl, if_neg (by omega)]
  have e2 : ∀ S, F_Crew_with_kind [crewD t, .tup row, .int (-1)] S = doneR (.inl ("InvalidNumber", "value", .int (-1))) S := fun S => by
    rw [with_kind_eq ht prow (.int (-1)) S]
    unfold ocKind
    rw [hv, manyN, if_pos rfl, if_neg (by decide)]
    rfl
  have e3 : ∀ S, F_Crew_with_kind [crewD t, .lst [], .int (-1)] S = doneR (.inl ("InvalidCrew", "value", .lst [])) S := fun S => by
    rw [with_kind_eq (v := .lst []) ht (.lst (fun d hd => (nomatch hd)) (by simp)) (.int (-1)) S]
    rfl
  have pn : ∀ (c : String) (x : D), PyData.strOk c = true → PN 6 x → PN 7 (.tup [.str c, x]) := fun c x hc hx => .tup (by
    intro d hd
    simp only [List.mem_cons, List.not_mem_nil, or_false] at hd
    rcases hd with rfl | rfl
    · exact .str _ _ hc
    · exact hx) (by simp)
  have step : ∀ (fb fo fo2 : EF) (rest : SF) (σ : Stt) (R : D → Sto → Prop) (N : Stt → Sto → Prop), fRefs good FS fb fo fo2 σ S2 = .ok (.bl true) S2 → okS (rest σ S2) N R → okS (sSeq (sIf (bNot (bT (fRefs good FS fb fo fo2))) (sRet (fC (.bl false))) sNil) rest σ S2) N R := fun fb fo fo2 rest σ R N g1 g2 => by
    refine guard false ?_ (fun z => (nomatch z)) fun _ => g2
    rw [w_not, w_bT, g1]
    exact ⟨_, rfl, rfl, rfl⟩
  have sm : ∀ (c : String) (x : D), PyData.strOk c = true → PN 6 x → FS [.tup [.str c, x], .tup [.str c, x]] S2 = .ok (.bl true) S2 := fun c x hc hx => by
    rw [hFS]
    exact same7e _ (pn c x hc hx) S2
  refine step _ _ _ _ _ _ _ (refs_at (sm "TooMany" (.int 3) (by decide +kernel) (.int _ _)) rfl rfl ((meth_at (l := t) (ds := [.tup row, .int 1]) rfl rfl rfl (by decide)).trans (e1 S2)) ⟨.inr (.inr ⟨rfl, rfl⟩), .int _ _⟩) ?_
  refine step _ _ _ _ _ _ _ (refs_at (sm "InvalidNumber" (.int (-1)) (by decide +kernel) (.int _ _)) rfl rfl ((meth_at (l := t) (ds := [.tup row, .int (-1)]) rfl rfl rfl (by decide)).trans (e2 S2)) ⟨.inl ⟨rfl, rfl⟩, .int _ _⟩) ?_
  refine step _ _ _ _ _ _ _ (refs_at (sm "InvalidCrew" (.lst []) (by decide +kernel) (.lst (fun d hd => (nomatch hd)) (by simp))) rfl rfl ((meth_at (l := t) (ds := [.lst [], .int (-1)]) rfl rfl rfl (by decide)).trans (e3 S2)) ⟨.inr (.inl ⟨rfl, rfl⟩), .lst (fun d hd => (nomatch hd)) (by simp)⟩) ?_
  refine seq_cut (fun σ S3 => ∃ p : Int, σ = [some (.ref j), some (.tup l), some (.tup t), some (crewD t), some (.tup row), some (.int p), none, none, none] ∧ 1 ≤ p ∧ p ≤ 1000 ∧ Ev j S1 S3) ?_ ?_
  · intro J hJ
    simp only [w_seq, w_sif, w_bV, w_bT, w_bAnd, w_or, w_not, w_f1, w_f2, w_chain, w_ix, w_isi, w_tup, w_lst, w_new, w_and, w_if, w_c, w_asg, w_par, w_sub, w_app, w_for, w_ret, w_snil, w_b, w_call, w_cons, w_nil, w_q, w_r1, w_r2, w_oN, w_oS, w_sl, w_comp, w_runF, w_var]
    simp only [List.getElem?_cons_zero, List.getElem?_cons_succ, List.set_cons_zero, List.set_cons_succ, List.length_cons, List.length_nil, Option.some.injEq, exists_eq_left', exists_eq_left, D.int.injEq, D.bl.injEq, D.ref.injEq, D.lst.injEq, D.tup.injEq, D.str.injEq, and_true, true_and, List.cons.injEq, gN, forall_eq, forall_const]
    refine ⟨by decide, one_ok ev2.jar (by simp) (by simp) fun d S3 hd ev3 => ?_⟩
    simp only [List.mem_cons, List.not_mem_nil, or_false] at hd
    rcases hd with rfl | rfl | rfl | rfl | rfl | rfl <;> exact hJ _ _ ⟨_, rfl, by decide, by decide, ev2.trans ev3⟩
  rintro σ3 S3 ⟨p, rfl, p1, p2, ev3⟩
  have p26 : powD (.int 10) (.int 26) = some (.int P26) := by rw [powD_ok (by decide) (by decide) (by decide)]; rfl
  have cap : ∀ (σ : Stt) (d : D), KindD d → fB minD (aCons (fB intD (aCons (fVar 7) aNil)) (aCons (f2 powD (fC (.int 10)) (fC (.int 26))) aNil)) ((σ.set 6 (some (.tup (rowK d)))).set 7 (some (.int (manyK d)))) S3 = .ok (.int (capK d)) S3 ∨ σ.length ≤ 7 := fun σ d hd => by
    by_cases hs : σ.length ≤ 7
    · exact .inr hs
    · refine .inl ?_
      have v7 : fVar 7 ((σ.set 6 (some (.tup (rowK d)))).set 7 (some (.int (manyK d)))) S3 = .ok (.int (manyK d)) S3 := by
        unfold fVar
        rw [List.getElem?_set_self (by rw [List.length_set]; omega)]
      exact fB_at (cons_at (fB_at (cons_at v7 rfl) rfl) (cons_at (f2_at rfl rfl p26) rfl)) rfl
  have c1 : compF (gT 2 (gsCons (gN 6) (gsCons (gN 7) gsNil))) bTrue (fTup (aCons (fVar 6) (aCons (f2 mulD (fB minD (aCons (fB intD (aCons (fVar 7) aNil)) (aCons (f2 powD (fC (.int 10)) (fC (.int 26))) aNil))) (fVar 5)) aNil))) l (wipeD [some (.ref j), some (.tup l), some (.tup t), some (crewD t), some (.tup row), some (.int p), none, none, none] [6, 7]) S3 =
      .ok (l.map fun d => .tup [.tup (rowK d), .int (capK d * p)]) S3 := comp_map fun d hd => by
    have hkd := hk.2.2 d hd
    have hkd2 := hkd
    obtain ⟨row', m, rfl, q1, q2, q3, q4⟩ := hkd
    refine ⟨_, w_gT2, ?_⟩
    have cc := (cap [some (.ref j), some (.tup l), some (.tup t), some (crewD t), some (.tup row), some (.int p), none, none, none] _ hkd2).resolve_right (show ¬ (9 ≤ 7) by decide)
    exact tup_at (cons_at rfl (cons_at (f2_at cc rfl (mulD_ok (by omega))) rfl)) (show 2 ≤ 1000 by decide)
  have e4 := fB_at (h := tupleQ) (cons_at (r := aNil) (ds := []) (comp_at (it := iQ (fVar 1)) (ds := l) rfl c1 (by rw [List.length_map]; exact hz)) rfl) rfl
  refine seq_cut (fun σ S4 => σ = [some (.ref j), some (.tup l), some (.tup t), some (crewD t), some (.tup row), some (.int p), none, none, some (.tup (l.map fun d => .tup [.tup (rowK d), .int (capK d * p)]))] ∧ S4 = S3) ?_ ?_
  · intro J hJ
    rw [w_asg, e4]
    exact ⟨_, rfl, hJ _ _ ⟨rfl, rfl⟩⟩
  rintro σ4 S4 ⟨rfl, rfl⟩
  have hk2 := cap_kinds hk p1 p2
  have e5 := call_at (n := 2) (F := F__law_deed_right) (f := aCons (fVar 8) (aCons (fTup (aCons (fC (.str "share")) (aCons (fVar 5) aNil))) aNil)) (σ := [some (.ref j), some (.tup l), some (.tup t), some (crewD t), some (.tup row), some (.int p), none, none, some (.tup (l.map fun d => .tup [.tup (rowK d), .int (capK d * p)]))]) (S := S4) (ds := [.tup (l.map fun d => .tup [.tup (rowK d), .int (capK d * p)]), dShare (.int p)]) rfl rfl (deed_right_eq hk2 (deal_share hk2 (.int _ _)) S4)
  rw [share_caps p1 p2] at e5
  have c2 : compF (gT 2 (gsCons (gN 6) (gsCons (gN 7) gsNil))) bTrue (fTup (aCons (fVar 6) (aCons (fB minD (aCons (fB intD (aCons (fVar 7) aNil)) (aCons (f2 powD (fC (.int 10)) (fC (.int 26))) aNil))) aNil))) l (wipeD [some (.ref j), some (.tup l), some (.tup t), some (crewD t), some (.tup row), some (.int p), none, none, some (.tup (l.map fun d => .tup [.tup (rowK d), .int (capK d * p)]))] [6, 7]) S4 =
      .ok (l.map fun d => .tup [.tup (rowK d), .int (capK d)]) S4 := comp_map fun d hd => by
    have hkd := hk.2.2 d hd
    have hkd2 := hkd
    obtain ⟨row', m, rfl, q1, q2, q3, q4⟩ := hkd
    refine ⟨_, w_gT2, ?_⟩
    have cc := (cap [some (.ref j), some (.tup l), some (.tup t), some (crewD t), some (.tup row), some (.int p), none, none, some (.tup (l.map fun d => .tup [.tup (rowK d), .int (capK d * p)]))] _ hkd2).resolve_right (show ¬ (9 ≤ 7) by decide)
    exact tup_at (cons_at rfl (cons_at cc rfl)) (show 2 ≤ 1000 by decide)
  have e6 := fB_at (h := tupleQ) (cons_at (r := aNil) (ds := []) (comp_at (it := iQ (fVar 1)) (ds := l) rfl c2 (by rw [List.length_map]; exact hz)) rfl) rfl
  have hk3 : KB (l.map fun d => .tup [.tup (rowK d), .int (capK d)]) := by
    have := kinds_kb (cap_kinds hk (p := 1) (by decide) (by decide))
    simpa only [Int.mul_one] using this
  rw [w_ret, f2_at e5 e6 (kinds_eq_refl hk3.2.2 hk3.1)]
  exact h _ ev3
end K01
/-! the law -/
namespace K01
open PySem PySem.Spec PyProof.Rows L2 PF
theorem jar_on_ok {S : Sto} {ns : List Int} {k : Int} {d : D} {Q : D → Sto → Prop} (hk : 0 ≤ k) (hk2 : k < 100) (hd : d = .non ∨ ∃ j, d = .ref j ∧ Jar S j) (h : ∀ j S', Jar S' j → Q (.ref j) S') : okR (F__law_pu_jar_on [.scr (ns.map .int), .int k, d] S) Q := by
  unfold F__law_pu_jar_on
  rw [w_runF]
  show okS (B__law_pu_jar_on [some (.scr (ns.map .int)), some (.int k), some d] S) _ _
  unfold B__law_pu_jar_on
  simp only [w_seq, w_sif, w_bV, w_bT, w_bAnd, w_or, w_not, w_f1, w_f2, w_chain, w_ix, w_isi, w_tup, w_lst, w_new, w_and, w_if, w_c, w_asg, w_par, w_sub, w_app, w_for, w_ret, w_snil, w_b, w_call, w_cons, w_nil, w_q, w_r1, w_r2, w_oN, w_oS, w_sl, w_comp, w_runF, w_var]
  simp only [List.getElem?_cons_zero, List.getElem?_cons_succ, List.set_cons_zero, List.set_cons_succ, List.length_cons, List.length_nil, Option.some.injEq, exists_eq_left', exists_eq_left, D.int.injEq, D.bl.injEq, D.ref.injEq, D.lst.injEq, D.tup.injEq, D.str.injEq, and_true, true_and, List.cons.injEq, gN, forall_eq, forall_const]
  have new : okR (F__law_pool [.scr (ns.map .int), .int k] S) Q := pool_ok hk hk2 fun S' hj _ _ => h _ _ hj
  rcases hd with rfl | ⟨j, rfl, hj⟩
  · exact ⟨_, rfl, _, rfl, fun _ => by first | exact new | exact ⟨new, fun z => (nomatch z)⟩, fun z => (nomatch z)⟩
  · exact ⟨_, rfl, _, rfl, fun z => (nomatch z), fun _ => ⟨_, _, rfl, _, rfl, _, rfl, fun _ => new, fun _ => h _ _ hj⟩⟩
theorem law_ok (ns : List Int) (S : Sto) : okR (F_law [.scr (ns.map .int)] S) fun d _ => d = .bl true := by
  unfold F_law
  rw [w_runF]
  show okS (B_law [some (.scr (ns.map .int)), none, none, none, none] S) _ _
  unfold B_law
  refine seq_cut (fun σ S1 => σ = [some (.scr (ns.map .int)), some .non, none, none, none] ∧ S1 = S) ?_ ?_
  · intro J hJ
    simp only [w_seq, w_sif, w_bV, w_bT, w_bAnd, w_or, w_not, w_f1, w_f2, w_chain, w_ix, w_isi, w_tup, w_lst, w_new, w_and, w_if, w_c, w_asg, w_par, w_sub, w_app, w_for, w_ret, w_snil, w_b, w_call, w_cons, w_nil, w_q, w_r1, w_r2, w_oN, w_oS, w_sl, w_comp, w_runF, w_var]
    simp only [List.getElem?_cons_zero, List.getElem?_cons_succ, List.set_cons_zero, List.set_cons_succ, List.length_cons, List.length_nil, Option.some.injEq, exists_eq_left', exists_eq_left, D.int.injEq, D.bl.injEq, D.ref.injEq, D.lst.injEq, D.tup.injEq, D.str.injEq, and_true, true_and, List.cons.injEq, gN, forall_eq, forall_const]
    exact hJ _ _ ⟨rfl, rfl⟩
  rintro σ1 S1 ⟨rfl, rfl⟩
  refine seq_cut (fun σ S2 => True) ?_ ?_
  · intro J hJ
    simp only [w_for, w_r1, w_cons, w_nil, w_c]
    refine ⟨3, rfl, by decide, by decide, ?_⟩
    refine for_cut (fun ds σ S2 => (∀ d ∈ ds, ∃ k : Int, d = .int k ∧ 0 ≤ k ∧ k < 100) ∧ ∃ (jar : D) (a b c : Option D), σ = [some (.scr (ns.map .int)), some jar, a, b, c] ∧ (jar = .non ∨ ∃ j, jar = .ref j ∧ Jar S2 j)) ⟨?_, .non, none, none, none, rfl, .inl rfl⟩ ?_ ?_
    · intro d hd
      unfold rngD at hd
      obtain ⟨i, hi, rfl⟩ := List.mem_map.mp hd
      have hi : i < 3 := List.mem_range.mp hi
      exact ⟨_, rfl, by omega, by omega⟩
    · rintro d ds σ S2 ⟨hds, jar, a, b, c, rfl, hjar⟩ J2 hJ2
      obtain ⟨k, rfl, hk0, hk1⟩ := hds d List.mem_cons_self
      have hds2 : ∀ d ∈ ds, ∃ k : Int, d = .int k ∧ 0 ≤ k ∧ k < 100 := fun d hd => hds d (List.mem_cons_of_mem _ hd)
      refine ⟨_, rfl, ?_⟩
      refine seq_cut (fun σ S3 => ∃ j, σ = [some (.scr (ns.map .int)), some (.ref j), some (.int k), b, c] ∧ Jar S3 j) ?_ ?_
      · intro J3 hJ3
        simp only [w_asg, w_call, w_cons, w_nil, w_var]
        simp only [List.getElem?_cons_zero, List.getElem?_cons_succ, List.set_cons_zero, List.set_cons_succ, List.length_cons, List.length_nil, Option.some.injEq, exists_eq_left', exists_eq_left, D.int.injEq, D.bl.injEq, D.ref.injEq, D.lst.injEq, D.tup.injEq, D.str.injEq, and_true, true_and, List.cons.injEq, gN, forall_eq, forall_const]
        exact jar_on_ok hk0 hk1 hjar fun j S3 hj => hJ3 _ _ ⟨j, rfl, hj⟩
      rintro σ3 S3 ⟨j, rfl, hj⟩
      refine seq_cut (fun σ S4 => ∃ l, σ = [some (.scr (ns.map .int)), some (.ref j), some (.int k), some (.tup l), c] ∧ KindsD l ∧ Jar S4 j) ?_ ?_
      · intro J3 hJ3
        simp only [w_asg, w_call, w_cons, w_nil, w_lst, w_c, w_var]
        simp only [List.getElem?_cons_zero, List.getElem?_cons_succ, List.set_cons_zero, List.set_cons_succ, List.length_cons, List.length_nil, Option.some.injEq, exists_eq_left', exists_eq_left, D.int.injEq, D.bl.injEq, D.ref.injEq, D.lst.injEq, D.tup.injEq, D.str.injEq, and_true, true_and, List.cons.injEq, gN, forall_eq, forall_const]
        refine some_crew_ok hj fun l1 S4 k1 ev1 => ?_
        refine great_crew_ok ev1.jar fun l2 S5 k2 ev2 => ⟨by decide, one_ok ev2.jar (by simp) (by simp) fun d S7 hd ev4 => ?_⟩
        simp only [List.mem_cons, List.not_mem_nil, or_false] at hd
        rcases hd with rfl | rfl
        · exact hJ3 _ _ ⟨_, rfl, k1, ev4.jar⟩
        · exact hJ3 _ _ ⟨_, rfl, k2, ev4.jar⟩
      rintro σ4 S4 ⟨l, rfl, hl, hj4⟩
      refine seq_cut (fun σ S5 => ∃ (l : List D) (c : Option D), σ = [some (.scr (ns.map .int)), some (.ref j), some (.int k), some (.tup l), c] ∧ KindsD l ∧ Jar S5 j) ?_ ?_
      · intro J3 hJ3
        simp only [w_for, w_r1, w_cons, w_nil, w_c]
        refine ⟨16, rfl, by decide, by decide, ?_⟩
        refine for_cut (fun ds σ S5 => ∃ (l : List D) (c : Option D), σ = [some (.scr (ns.map .int)), some (.ref j), some (.int k), some (.tup l), c] ∧ KindsD l ∧ Jar S5 j) ⟨l, c, rfl, hl, hj4⟩ ?_ (fun σ S5 z => hJ3 _ _ z)
        rintro d ds σ S5 ⟨l5, c5, rfl, hl5, hj5⟩ J4 hJ4
        refine ⟨_, rfl, ?_⟩
        refine seq_cut (fun σ S6 => ∃ (l : List D) (c : Option D), σ = [some (.scr (ns.map .int)), some (.ref j), some (.int k), some (.tup l), c] ∧ KindsD l ∧ Jar S6 j) ?_ ?_
        · intro J5 hJ5
          simp only [w_asg, w_call, w_cons, w_nil, w_var]
          simp only [List.getElem?_cons_zero, List.getElem?_cons_succ, List.set_cons_zero, List.set_cons_succ, List.length_cons, List.length_nil, Option.some.injEq, exists_eq_left', exists_eq_left, D.int.injEq, D.bl.injEq, D.ref.injEq, D.lst.injEq, D.tup.injEq, D.str.injEq, and_true, true_and, List.cons.injEq, gN, forall_eq, forall_const]
          refine deed_drawn_ok hj5 hl5 fun dd o S6 hd ev6 => ?_
          rw [deed_right_eq hl5 hd S6]
          exact hJ5 _ _ ⟨_, _, rfl, next_kinds hl5 hd.ok, ev6.jar⟩
        rintro σ6 S6 ⟨l6, c6, rfl, hl6, hj6⟩
        rw [w_sif, w_bV, w_f2, w_var]
        refine ⟨_, rfl, _, rfl, _, rfl, fun z => (nomatch z), fun _ => hJ4 _ _ ⟨l6, c6, rfl, hl6, hj6⟩⟩
      rintro σ5 S5 ⟨l5, c5, rfl, hl5, hj5⟩
      simp only [w_sif, w_not, w_bT, w_call, w_cons, w_nil, w_var]
      simp only [List.getElem?_cons_zero, List.getElem?_cons_succ, List.set_cons_zero, List.set_cons_succ, List.length_cons, List.length_nil, Option.some.injEq, exists_eq_left', exists_eq_left, D.int.injEq, D.bl.injEq, D.ref.injEq, D.lst.injEq, D.tup.injEq, D.str.injEq, and_true, true_and, List.cons.injEq, gN, forall_eq, forall_const]
      exact full_right_ok hj5 hl5 fun S7 ev7 => ⟨_, rfl, fun z => (nomatch (show false = true from z)), fun _ => hJ2 _ _ ⟨hds2, .ref j, _, _, _, rfl, .inr ⟨j, rfl, ev7.jar⟩⟩⟩
    · intro σ S2 _
      exact hJ _ _ True.intro
  rintro σ2 S2 _
  exact rfl
theorem law_holds (ns : List Int) : ∃ S, F_law [.scr (ns.map .int)] [] = .ok (.bl true) S := by
  obtain ⟨d, S, e, rfl⟩ := (law_ok ns []).get
  exact ⟨S, e⟩
end K01
/-! PH: the started module's facts, read by a Hook. -/
namespace PF
open PySem PySem.Spec PyProof.Rows L2 He
/-! ### defs, wherever they stand -/
abbrev FnG : Type := Option (Str × Str × Arguments × FuncBody × Scope)
def fnG (K : PySem.W.Frag) (a : Addr) : FnG := match K.lookup a with
  | some ⟨_, _, .func fd, _⟩ => some (fd.name, fd.qualname, fd.params, fd.body, fd.scope)
  | _ => none
structure GnD where
  at_ : PySem.W.Frag → Addr
  name : Str
  qual : Str
  st : Stmt
  clo : Bool := false
def GnD.val (d : GnD) : FnG := some (d.name, d.qual, defArgs d.st, .stmts (defBody d.st), defScope d.st)
def noV : Value → Bool
  | .none => true
  | _ => false
theorem noV_ok {v : Value} (h : noV v = true) : v = .none := by
  cases v with
  | none => rfl
  | _ => cases h
def gnB (K : PySem.W.Frag) (d : GnD) : Bool := PySem.W.keepIn K (.ref (d.at_ K)) && (match K.lookup (d.at_ K) with
  | some ⟨_, _, .func fd, _⟩ => PySem.W.codeIn K fd.code d.qual && (noV fd.defaults && (decide (fd.globals = mainGlobals) && (decide (fd.builtins = builtinsNs) && (d.clo || fd.closure.isEmpty))))
  | _ => false)
theorem gn_raw {K : PySem.W.Frag} {d : GnD} (e : fnG K (d.at_ K) = d.val) (c : gnB K d = true) : PySem.W.keepIn K (.ref (d.at_ K)) = true ∧ ∃ oc od osl clo kV doc pm an cdv ct,
    K.lookup (d.at_ K) = some ⟨oc, od, .func (PySem.W.fnX d.name d.qual (defArgs d.st) (defBody d.st) (defScope d.st) clo .none kV doc pm an cdv ct), osl⟩ ∧ PySem.W.codeIn K cdv d.qual = true ∧ (d.clo = false → clo = []) := by
  obtain ⟨c1, c2⟩ := ba c
  refine ⟨c1, ?_⟩
  unfold fnG at e
  cases q : K.lookup (d.at_ K) with
  | none => rw [q] at c2; cases c2
  | some o =>
    obtain ⟨oc, od, dt, osl⟩ := o
    rw [q] at c2 e
    cases dt with
    | func fd =>
      obtain ⟨n1, n2, n3, n4, n5, n6, n7, n8, n9, n10, n11, n12, n13, n14, n15⟩ := fd
      have e2 : (some (n1, n2, n3, n4, n5) : FnG) = some (d.name, d.qual, defArgs d.st, .stmts (defBody d.st), defScope d.st) := e
      simp only [Option.some.injEq, Prod.mk.injEq] at e2
      obtain ⟨h1, h2, h3, h4, h5⟩ := e2
      subst h1 h2 h3 h4 h5
      obtain ⟨k1, k⟩ := ba (show (PySem.W.codeIn K n13 d.qual && (noV n8 && (decide (n6 = mainGlobals) && (decide (n15 = builtinsNs) && (d.clo || n7.isEmpty))))) = true from c2)
      obtain ⟨k2, k⟩ := ba k
      obtain ⟨k3, k⟩ := ba k
      obtain ⟨k4, k5⟩ := ba k
      have e6 := of_decide_eq_true k3
      have e15 := of_decide_eq_true k4
      have e8 := noV_ok k2
      subst e6 e15 e8
      refine ⟨oc, od, osl, n7, n9, n10, n11, n12, n13, n14, rfl, k1, fun z => ?_⟩
      rw [z] at k5
      exact List.isEmpty_iff.mp k5
    | _ => cases c2
theorem gn_ok {K : PySem.W.Frag} {d : GnD} (e : fnG K (d.at_ K) = d.val) (c : gnB K d = true) (hc : d.clo = false) : ∃ fd, FnP K d.name d.qual d.st (d.at_ K) fd := by
  obtain ⟨kp, oc, od, osl, clo, kV, doc, pm, an, cdv, ct, lk, h1, h2⟩ := gn_raw e c
  have h3 := h2 hc
  subst h3
  exact ⟨_, ⟨oc, od, .none, kV, doc, pm, an, cdv, ct, osl, rfl, lk, h1, .inl ⟨rfl, rfl⟩, .inl rfl⟩, kp⟩
/-! ### what is looked at -/
def k0 (g : Addr → Option Obj) : PySem.W.Frag := frG g [mainGlobals]
def codeAs (g : Addr → Option Obj) (a : Addr) : List Addr := match g a with
  | some ⟨_, _, .func fd, _⟩ => refV fd.code ++ fd.closure.map (·.2)
  | _ => []
/-- an entry of a class: a function, a property -/
def entAs (g : Addr → Option Obj) (a : Addr) : List Addr := a :: (match g a with
  | some ⟨_, _, .func fd, _⟩ => refV fd.code ++ fd.closure.map (·.2)
  | some ⟨_, _, .fields vs, _⟩ => (vs.toList.flatMap refV).flatMap fun b => b :: codeAs g b
  | _ => [])
def clsAs (g : Addr → Option Obj) (a : Addr) : List Addr := a :: (match g a with
  | some ⟨_, _, .cls cd, _⟩ => cd.ns :: (match g cd.ns with
    | some ⟨_, _, .dict es _, _⟩ => (es.toList.flatMap fun e => refV e.val).flatMap (entAs g)
    | _ => [])
  | _ => [])
/-- the globals xs, the classes cs with what they hold, the classes ds with their names -/
def asN (xs cs ds : List Str) (g : Addr → Option Obj) : List Addr :=
  mainGlobals :: cStatics :: ((xs.flatMap fun x => ga (k0 g) x :: codeAs g (ga (k0 g) x)) ++ (cs.flatMap fun c => clsAs g (ga (k0 g) c)) ++ (ds.flatMap fun c => ga (k0 g) c :: (match g (ga (k0 g) c) with
    | some ⟨_, _, .cls cd, _⟩ => [cd.ns]
    | _ => [])))
/-! ### the Hook -/
abbrev AlY : Type := List FnG × Bool
def obsY (as : (Addr → Option Obj) → List Addr) (gn : List GnD) (tf : List Defn) (ex : List (PySem.W.Frag → Bool)) (g : Addr → Option Obj) : AlY :=
  (gn.map fun d => fnG (frT g (as g)) (d.at_ (frT g (as g))), (gn.all fun d => gnB (frT g (as g)) d) && ((ex.all fun f => f (frT g (as g))) && tabsB g tf (frT g (as g))))
def valY (gn : List GnD) : AlY := (gn.map GnD.val, true)
structure SaysY (gn : List GnD) (tf : List Defn) (ex : List (PySem.W.Frag → Bool)) (h : Heap) (K : PySem.W.Frag) : Prop where
  fns : gn.map (fun d => fnG K (d.at_ K)) = gn.map GnD.val
  oks : gn.all (gnB K) = true
  exs : (ex.all fun f => f K) = true
  hd : ∀ p ∈ tf, PySem.W.codeHdIn K (cT K p).1 (cT K p).2 = true
  out : ∀ p ∈ tf, K.lookup (cT K p).2 = none
  empty : ∀ p ∈ tf, h.get? (cT K p).2 = some { cls := .none, data := .fields #[] }
theorem saysY_of {as : (Addr → Option Obj) → List Addr} {gn : List GnD} {tf : List Defn} {ex : List (PySem.W.Frag → Bool)} {h : Heap} (e : obsY as gn tf ex h.get? = valY gn) : SaysY gn tf ex h (frT h.get? (as h.get?)) := by
  have e1 : (gn.map fun d => fnG (frT h.get? (as h.get?)) (d.at_ (frT h.get? (as h.get?)))) = gn.map GnD.val := congrArg (fun z : AlY => z.1) e
  have e2 : ((gn.all fun d => gnB (frT h.get? (as h.get?)) d) && ((ex.all fun f => f (frT h.get? (as h.get?))) && tabsB h.get? tf (frT h.get? (as h.get?)))) = true := congrArg (fun z : AlY => z.2) e
  obtain ⟨h1, h2⟩ := ba e2
  obtain ⟨h2, h3⟩ := ba h2
  have key : ∀ p ∈ tf, PySem.W.codeHdIn (frT h.get? (as h.get?)) (cT (frT h.get? (as h.get?)) p).1 (cT (frT h.get? (as h.get?)) p).2 = true ∧ ∃ o, h.get? (cT (frT h.get? (as h.get?)) p).2 = some o ∧ emptyTab o = true := fun p hp => by
    obtain ⟨h4, h5⟩ := ba (List.all_eq_true.mp h3 p hp)
    refine ⟨h4, ?_⟩
    cases q : h.get? (cT (frT h.get? (as h.get?)) p).2 with
    | none => rw [q] at h5; cases h5
    | some o => rw [q] at h5; exact ⟨o, rfl, h5⟩
  exact ⟨e1, h1, h2, fun p hp => (key p hp).1, fun p hp => by
    obtain ⟨_, o, q, z⟩ := key p hp
    exact frT_none q z, fun p hp => by
    obtain ⟨_, o, q, z⟩ := key p hp
    rw [q, emptyTab_eq z]⟩
def hookY (as : (Addr → Option Obj) → List Addr) (gn : List GnD) (tf : List Defn) (ex : List (PySem.W.Frag → Bool)) : PySem.W.Hook where
  α := AlY
  obs := fun s => obsY as gn tf ex s.heap.get?
  val := fun _ => valY gn
  says := fun _ h => ∃ K : PySem.W.Frag, K.In h ∧ SaysY gn tf ex h K
  of := fun _ _ e => ⟨_, frT_in, saysY_of e⟩
  keeps := fun _ _ _ ⟨K, hK, c⟩ k => ⟨K, PySem.W.Frag.In.keeps hK k, ⟨c.fns, c.oks, c.exs, c.hd, c.out, fun p hp => k _ _ (c.empty p hp)⟩⟩
theorem obsY_eq {as : (Addr → Option Obj) → List Addr} {gn : List GnD} {tf : List Defn} {ex : List (PySem.W.Frag → Bool)} {g : Addr → Option Obj} {s : Shared} (h : ∀ a, g a = s.heap.get? a) : obsY as gn tf ex g = (hookY as gn tf ex).obs s := by
  have e : g = s.heap.get? := funext h
  rw [e] <;> rfl
section
variable {gn : List GnD} {tf : List Defn} {ex : List (PySem.W.Frag → Bool)} {K : PySem.W.Frag} {h : Heap}
theorem SaysY.ex_ (c : SaysY gn tf ex h K) (i : Nat) {f : PySem.W.Frag → Bool} (e : ex[i]? = some f := by rfl) : f K = true := List.all_eq_true.mp c.exs f (List.mem_of_getElem? e)
theorem SaysY.gn_ (c : SaysY gn tf ex h K) (i : Nat) {d : GnD} (e : gn[i]? = some d := by rfl) : fnG K (d.at_ K) = d.val ∧ gnB K d = true := by
  have e1 := c.fns
  have e2 : (gn.map fun d => fnG K (d.at_ K))[i]? = (gn.map GnD.val)[i]? := by rw [e1]
  rw [List.getElem?_map, List.getElem?_map, e] at e2
  exact ⟨Option.some.inj e2, List.all_eq_true.mp c.oks d (List.mem_of_getElem? e)⟩
end
/-! ### facts of K -/
def pAd (c f : Str) (K : PySem.W.Frag) : Addr := ma K (ga K c) f
def gAd (c f : Str) (K : PySem.W.Frag) : Addr := match PySem.W.recIn K (pAd c f K) "property" with
  | some (.ref g :: _) => g
  | _ => 0
def mAd (c f : Str) (K : PySem.W.Frag) : Addr := ma K (ga K c) f
def eqBo (a b : Option Bool) : Bool := decide (a = b)
theorem eqBo_ok {a b : Option Bool} (h : eqBo a b = true) : a = b := of_decide_eq_true h
def tts : List TT := [.non, .bool, .int, .str, .tuple, .list, .dict]
theorem mem_tts (t : TT) : t ∈ tts := by cases t <;> simp [tts]
def freeX (x : Str) (K : PySem.W.Frag) : Bool := (Fa.free x).ok K
def intX (x : Str) (i : Int) (K : PySem.W.Frag) : Bool := (Fa.int x i).ok K
def gloX (x : Str) (K : PySem.W.Frag) : Bool := (Fa.glo x).ok K
def noatX (c f : Str) (K : PySem.W.Frag) : Bool := (Fa.noat c f).ok K
def mkX (c : Str) (K : PySem.W.Frag) : Bool := (Fa.mkr c).ok K
def clsX (c : Str) (K : PySem.W.Frag) : Bool := (Fa.glo c).ok K && ((Fa.cls c).ok K && (eqO (PySem.W.findIn K (.ref (ga K c)) "__class__") (some (some (.builtin "object.__class__"))) &&
  (eqO (PySem.W.specialIn K (.builtin "object.__class__") "__get__") (some (some (.builtin "getset_descriptor.__get__"))) && (eqBo (PySem.W.takesIn K (.builtin "object.__class__")) (some true) && (eqBo (PySem.W.mroIn K (ga K c) (.type "object")) (some true) &&
  (tts.all fun t => eqBo (PySem.W.kitOne K (.type t.nm) (.ref (ga K c))) (some false) && eqBo (PySem.W.subIn K (.type t.nm) (.ref (ga K c))) (some false)))))))
def isRef : List Value → Bool
  | .ref _ :: _ => true
  | _ => false
def propX (c f : Str) (K : PySem.W.Frag) : Bool := eqO (PySem.W.findIn K (.ref (ga K c)) f) (some (some (.ref (pAd c f K)))) && (eqO (PySem.W.specialIn K (.ref (pAd c f K)) "__get__") (some (some (.builtin "property.__get__"))) &&
  (eqBo (PySem.W.takesIn K (.ref (pAd c f K))) (some true) && (match PySem.W.recIn K (pAd c f K) "property" with
  | some l => isRef l
  | none => false)))
def eqX (c : Str) (K : PySem.W.Frag) : Bool := eqO (PySem.W.findIn K (.ref (ga K c)) "__eq__") (some (some (.ref (mAd c "__eq__" K)))) && PySem.W.isFn K (.ref (mAd c "__eq__" K))
def xcX (names : List Str) (c : Str) (K : PySem.W.Frag) : Bool := (Fa.glo c).ok K && (xfB K (ga K c) && ((PySem.W.clsIn K (ga K c)).isSome && (eqO (PySem.W.findIn K (.ref (ga K c)) "__class__") (some (some (.builtin "object.__class__"))) &&
  (eqO (PySem.W.specialIn K (.builtin "object.__class__") "__get__") (some (some (.builtin "getset_descriptor.__get__"))) && (eqBo (PySem.W.takesIn K (.builtin "object.__class__")) (some true) && (eqBo (PySem.W.mroIn K (ga K c) (.type "object")) (some true) &&
  ((["line", "limit", "value"] : List Str).all fun f => eqO (PySem.W.findIn K (.ref (ga K c)) f) (some none)) &&
  (names.all fun x => (Fa.glo x).ok K && (eqBo (PySem.W.kitOne K (.ref (ga K c)) (.ref (ga K x))) (some (decide (x = c))) && eqBo (PySem.W.exmOne K (.ref (ga K c)) (.ref (ga K x))) (some (decide (x = c)))))))))))
section
variable {K : PySem.W.Frag} {h : Heap} {mg : Str → Option Value} (X : K.In h) (G : h.Ns mainGlobals mg)
include X G
theorem clsX_ok {c : Str} (e : clsX c K = true) : ClsK K mg c (ga K c) := by
  obtain ⟨e1, e⟩ := ba e
  obtain ⟨e2, e⟩ := ba e
  obtain ⟨e3, e⟩ := ba e
  obtain ⟨e4, e⟩ := ba e
  obtain ⟨e5, e⟩ := ba e
  obtain ⟨e6, e7⟩ := ba e
  exact ⟨glo_ok X G e1, cls_ok e2, eqO_ok e3, eqO_ok e4, eqBo_ok e5, eqBo_ok e6, fun t => eqBo_ok (ba (List.all_eq_true.mp e7 t (mem_tts t))).1, fun t => eqBo_ok (ba (List.all_eq_true.mp e7 t (mem_tts t))).2⟩
theorem defAt_ok {x : Str} {st : Stmt} (e : gloX x K = true) (d : fnG K (ga K x) = (GnD.mk (fun K => ga K x) x x st false).val ∧ gnB K ⟨fun K => ga K x, x, x, st, false⟩ = true) : DefAt K mg x st := by
  obtain ⟨fd, F⟩ := gn_ok (d := ⟨fun K => ga K x, x, x, st, false⟩) d.1 d.2 rfl
  exact ⟨_, fd, F, glo_ok X G e⟩
theorem xcX_ok {names : List Str} {c : Str} (hm : c ∈ names) (e : xcX names c K = true) : ∃ C, mg c = some (.ref C) ∧ XcA K mg names c C := by
  obtain ⟨e1, e⟩ := ba e
  obtain ⟨e2, e⟩ := ba e
  obtain ⟨e3, e⟩ := ba e
  obtain ⟨e4, e⟩ := ba e
  obtain ⟨e5, e⟩ := ba e
  obtain ⟨e6, e⟩ := ba e
  obtain ⟨e, e9⟩ := ba e
  obtain ⟨e7, e8⟩ := ba e
  refine ⟨ga K c, glo_ok X G e1, ⟨xfB_ok e2, e3, eqO_ok e4, eqO_ok e5, eqBo_ok e6, eqBo_ok e7⟩, fun f hf => eqO_ok (List.all_eq_true.mp e8 f hf), hm, fun x hx => ?_⟩
  obtain ⟨k1, k⟩ := ba (List.all_eq_true.mp e9 x hx)
  obtain ⟨k2, k3⟩ := ba k
  exact ⟨ga K x, glo_ok X G k1, eqBo_ok k2, eqBo_ok k3⟩
end
section
variable {K : PySem.W.Frag}
theorem propX_ok {c f q : Str} {st : Stmt} (e : propX c f K = true) (d : fnG K (gAd c f K) = (GnD.mk (gAd c f) f q st false).val ∧ gnB K ⟨gAd c f, f, q, st, false⟩ = true) : PropK K (ga K c) f q st := by
  obtain ⟨fd, F⟩ := gn_ok (d := ⟨gAd c f, f, q, st, false⟩) d.1 d.2 rfl
  obtain ⟨e1, e⟩ := ba e
  obtain ⟨e2, e⟩ := ba e
  obtain ⟨e3, e4⟩ := ba e
  refine ⟨pAd c f K, gAd c f K, fd, ⟨eqO_ok e1, eqO_ok e2, eqBo_ok e3, ?_⟩, F⟩
  cases q1 : PySem.W.recIn K (pAd c f K) "property" with
  | none => rw [q1] at e4; cases e4
  | some l =>
    rw [q1] at e4
    cases l with
    | nil => cases e4
    | cons a r =>
      cases a with
      | ref g =>
        refine ⟨r, ?_⟩
        have : gAd c f K = g := by unfold gAd; rw [q1]
        rw [this]
      | _ => cases e4
theorem initK_ok {c q : Str} {st : Stmt} (e : mkX c K = true) (d : fnG K (mAd c "__init__" K) = (GnD.mk (mAd c "__init__") "__init__" q st false).val ∧ gnB K ⟨mAd c "__init__", "__init__", q, st, false⟩ = true) : InitK K (ga K c) q st := by
  obtain ⟨fd, F⟩ := gn_ok (d := ⟨mAd c "__init__", "__init__", q, st, false⟩) d.1 d.2 rfl
  exact ⟨_, fd, mkr_ok e, F⟩
theorem eqK_ok {c q : Str} {st : Stmt} (e : eqX c K = true) (d : fnG K (mAd c "__eq__" K) = (GnD.mk (mAd c "__eq__") "__eq__" q st false).val ∧ gnB K ⟨mAd c "__eq__", "__eq__", q, st, false⟩ = true) : EqK K (ga K c) q st := by
  obtain ⟨fd, F⟩ := gn_ok (d := ⟨mAd c "__eq__", "__eq__", q, st, false⟩) d.1 d.2 rfl
  obtain ⟨e1, e2⟩ := ba e
  exact ⟨_, fd, eqO_ok e1, e2, F⟩
end
end PF
/-! PH: own exception classes, tables, the end. -/
namespace PF
open PySem PySem.Spec PyProof.Rows L2 He
/-! ### an own exception class -/
def xsMro (C : Addr) : List Value → List (Option Value) → Bool
  | .ref C' :: bm, [_, _, _, _, some (.builtin n), _] => decide (C' = C) && (decide (n = "ValueError.__new__") && PySem.HandSPX.refsVE bm)
  | _, _ => false
theorem xsMro_ok {C : Addr} {m : List Value} {s : List (Option Value)} (h : xsMro C m s = true) : ∃ bm k0 k1 k2 k3 k5, m = .ref C :: bm ∧ s = [k0, k1, k2, k3, some (.builtin "ValueError.__new__"), k5] ∧ PySem.HandSPX.refsVE bm = true := by
  unfold xsMro at h
  split at h
  · rename_i C' bm k0 k1 k2 k3 n k5
    obtain ⟨g1, g⟩ := ba h
    obtain ⟨g2, g3⟩ := ba g
    have e4 := of_decide_eq_true g1
    have e5 := of_decide_eq_true g2
    subst e4 e5
    exact ⟨bm, k0, k1, k2, k3, k5, rfl, rfl, g3⟩
  · cases h
def xsClsB (K : PySem.W.Frag) (C : Addr) : Bool := match K.lookup C with
  | some ⟨.type n0, _, .cls cd, sl⟩ => decide (n0 = "type") && (cd.hasDict && (!cd.hasDel && xsMro C cd.mro sl.toList))
  | _ => false
theorem xsCls_ok {K : PySem.W.Frag} {C : Addr} (h : xsClsB K C = true) : ∃ nm q N bs bm sn sub ab col dd k0 k1 k2 k3 k5, K.lookup C = some (PySem.excClassObj nm q C N bs bm true sn sub ab col dd k0 k1 k2 k3 k5 "ValueError.__new__") ∧ PySem.HandSPX.refsVE bm = true := by
  unfold xsClsB at h
  cases e : K.lookup C with
  | none => rw [e] at h; cases h
  | some o =>
    obtain ⟨oc, od, dt, sl⟩ := o
    rw [e] at h
    cases oc with
    | type n0 =>
      cases dt with
      | cls cd =>
        obtain ⟨h1, h⟩ := ba h
        obtain ⟨h2, h⟩ := ba h
        obtain ⟨h3, h⟩ := ba h
        obtain ⟨nm, bs, mro, N, q, hdct, sn, sub, ab, col, del⟩ := cd
        have e1 := of_decide_eq_true h1
        have e2 : hdct = true := h2
        have e3 : del = false := by
          cases del with
          | false => rfl
          | true => cases h3
        subst e1 e2 e3
        obtain ⟨bm, k0, k1, k2, k3, k5, e4, e5, g3⟩ := xsMro_ok (show xsMro C mro sl.toList = true from h)
        subst e4
        have e6 : sl = #[k0, k1, k2, k3, some (.builtin "ValueError.__new__"), k5] := by
          obtain ⟨l⟩ := sl
          have e7 : l = [k0, k1, k2, k3, some (.builtin "ValueError.__new__"), k5] := e5
          rw [e7]
        rw [e6]
        exact ⟨nm, q, N, bs, bm, sn, sub, ab, col, od, k0, k1, k2, k3, k5, rfl, g3⟩
      | _ => cases h
    | _ => cases dt <;> cases h
def xsFnB (file : Str) (c : Str) (K : PySem.W.Frag) : Bool := match K.lookup (mAd c "__init__" K) with
  | some ⟨_, _, .func fd, _⟩ => (match fd.code, fd.closure with
    | .ref cda, [(x, cc)] => decide (x = ("__class__" : Str)) && ((match K.lookup cda with
      | some ⟨_, _, .fields vs, _⟩ => (match (vs[2]? : Option Value) with
        | some (.str fl _) => file == fl
        | _ => false)
      | _ => false) && (match K.lookup cc with
      | some ⟨_, _, .cell (some (.ref C')), _⟩ => decide (C' = ga K c)
      | _ => false))
    | _, _ => false)
  | _ => false
theorem xsFn_ok {file c : Str} {K : PySem.W.Frag} {oc : Value} {od : Option Addr} {fd : FuncData} {osl : Array (Option Value)} (h : xsFnB file c K = true) (lk : K.lookup (mAd c "__init__" K) = some ⟨oc, od, .func fd, osl⟩) :
    ∃ cda cc, fd.code = .ref cda ∧ fd.closure = [(("__class__" : Str), cc)] ∧ (∃ oo dd vs sl fl tf, K.lookup cda = some ⟨oo, dd, .fields vs, sl⟩ ∧ vs[2]? = some (.str fl tf) ∧ (file == fl) = true) ∧
      (∃ cl cld csl, K.lookup cc = some ⟨cl, cld, .cell (some (.ref (ga K c))), csl⟩) := by
  unfold xsFnB at h
  rw [lk] at h
  have h1 : (match fd.code, fd.closure with
    | .ref cda, [(x, cc)] => decide (x = ("__class__" : Str)) && ((match K.lookup cda with
      | some ⟨_, _, .fields vs, _⟩ => (match (vs[2]? : Option Value) with
        | some (.str fl _) => file == fl
        | _ => false)
      | _ => false) && (match K.lookup cc with
      | some ⟨_, _, .cell (some (.ref C')), _⟩ => decide (C' = ga K c)
      | _ => false))
    | _, _ => false) = true := h
  split at h1
  · rename_i cda x cc e1 e2
    obtain ⟨g1, g⟩ := ba h1
    obtain ⟨g2, g3⟩ := ba g
    have e3 := of_decide_eq_true g1
    subst e3
    refine ⟨cda, cc, e1, e2, ?_, ?_⟩
    · split at g2
      · rename_i oo dd vs sl e4
        split at g2
        · rename_i fl tf e5
          exact ⟨oo, dd, vs, sl, fl, tf, e4, e5, g2⟩
        · cases g2
      · cases g2
    · split at g3
      · rename_i cl cld C' csl e4
        have e5 := of_decide_eq_true g3
        subst e5
        exact ⟨cl, cld, csl, e4⟩
      · cases g3
  · cases h1
def xsX (file f c : Str) (K : PySem.W.Frag) : Bool := (Fa.glo c).ok K && (xsClsB K (ga K c) && (eqO (PySem.W.findIn K (.ref (ga K c)) "__setattr__") (some (some (.builtin "object.__setattr__"))) && (eqO (PySem.W.findIn K (.ref (ga K c)) f) (some none) &&
  (eqO (PySem.W.findIn K (.ref (ga K c)) "__init__") (some (some (.ref (mAd c "__init__" K)))) && (decide (PySem.W.typeIn K (.ref (mAd c "__init__" K)) = some (.type "function")) && (PySem.W.keepIn K (.ref (ga K c)) &&
  (eqBo (PySem.W.subIn K (.ref (ga K c)) (.type "BaseException")) (some true) && (decide (PySem.W.typeIn K (.ref (ga K c)) = some (.type "type")) && (eqBo (PySem.W.subIn K (.ref (ga K c)) (.type "ValueError")) (some true) &&
  (eqO (PySem.W.nsIn K cStatics "thirdparty.any") (some none) && (eqO (PySem.W.nsIn K mainGlobals "super") (some none) && (xsFnB file c K && eqO (PySem.W.ks_superIn K (ga K c) (ga K c) "__init__") (some (some (.builtin "ValueError.__init__")))))))))))))))
theorem xsX_ok {K : PySem.W.Frag} {h : Heap} {mg : Str → Option Value} (X : K.In h) (G : h.Ns mainGlobals mg) {prog : Program} {c f q a p m : Str} {st : Stmt} {j : Nat} {p1 p2 q1 q2 q3 q4 q5 q6 r1 r2 r3 r4 : Pos} (e : xsX prog.main.file f c K = true)
    (d : fnG K (mAd c "__init__" K) = (GnD.mk (mAd c "__init__") "__init__" q st true).val ∧ gnB K ⟨mAd c "__init__", "__init__", q, st, true⟩ = true)
    (hA : defArgs st = PySem.XsX.iA a p p1 p2) (hB : defBody st = PySem.XsX.iB a p f m j q1 q2 q3 q4 q5 q6 r1 r2 r3 r4) (hq : (q3.endLine == q5.line) = true)
    (hs : (∀ x ∈ (defScope st).names, x.2 ≠ .cell) ∧ (defScope st).isCoroutine = false ∧ (defScope st).isGenerator = false ∧ (defScope st).kind = .function ∧ (defScope st).names.lookup a = some .local ∧ (defScope st).names.lookup p = some .local ∧ a ≠ p ∧
      (defScope st).names.lookup ("super" : Str) = some .globalImplicit ∧ (defScope st).names.lookup ("__class__" : Str) = some .free ∧ (a == ("__debug__" : Str)) = false ∧ (p == ("__debug__" : Str)) = false)
    (hbd : ∀ (kV doc pm : Value) (an : Option Addr) (cda : Addr) (ct : Value) (cc : Addr) (x v : Value), bindArgs (PySem.W.ksFn "__init__" q (PySem.XsX.iA a p p1 p2) (PySem.XsX.iB a p f m j q1 q2 q3 q4 q5 q6 r1 r2 r3 r4) (defScope st) .none kV doc pm an (.ref cda) ct cc) ⟨[x, v], []⟩ = pure [(a, x), (p, v)])
    (ht : (prog.main.scope.names.lookup ("super" : Str)).isSome = false) : XsT prog K mg c f := by
  obtain ⟨e1, e⟩ := ba e
  obtain ⟨e2, e⟩ := ba e
  obtain ⟨e3, e⟩ := ba e
  obtain ⟨e4, e⟩ := ba e
  obtain ⟨e5, e⟩ := ba e
  obtain ⟨e6, e⟩ := ba e
  obtain ⟨e7, e⟩ := ba e
  obtain ⟨e8, e⟩ := ba e
  obtain ⟨e9, e⟩ := ba e
  obtain ⟨e10, e⟩ := ba e
  obtain ⟨e11, e⟩ := ba e
  obtain ⟨e12, e⟩ := ba e
  obtain ⟨e13, e14⟩ := ba e
  obtain ⟨kp, oc, od, osl, clo, kV, doc, pm, an, cdv, ct, lk, k1, _⟩ := gn_raw (d := ⟨mAd c "__init__", "__init__", q, st, true⟩) d.1 d.2
  obtain ⟨cda, cc, g1, g2, g3, g4⟩ := xsFn_ok e13 lk
  have g1 : cdv = .ref cda := g1
  have g2 : clo = [(("__class__" : Str), cc)] := g2
  subst g1 g2
  obtain ⟨h1, h2, h3, h4, h5, h6, h7, h8, h9, h10, h11⟩ := hs
  have lk2 : K.lookup (mAd c "__init__" K) = some ⟨oc, od, .func (PySem.W.ksFn "__init__" q (PySem.XsX.iA a p p1 p2) (PySem.XsX.iB a p f m j q1 q2 q3 q4 q5 q6 r1 r2 r3 r4) (defScope st) .none kV doc pm an (.ref cda) ct cc), osl⟩ := by
    rw [← hA, ← hB]
    exact lk
  exact ⟨ga K c, mAd c "__init__" K, ⟨xsCls_ok e2, eqO_ok e3, eqO_ok e4, eqO_ok e5, of_decide_eq_true e6, e7, eqBo_ok e8, of_decide_eq_true e9, eqBo_ok e10, eqO_ok e11, eqO_ok e12,
    ⟨oc, od, .none, kV, doc, pm, an, cda, ct, osl, cc, a, p, m, q, defScope st, j, p1, p2, q1, q2, q3, q4, q5, q6, r1, r2, r3, r4, lk2, k1, g3, g4, eqO_ok e14, h1, h2, h3, h4, h5, h6, h7, h8, h9, h10, h11, hq, hbd kV doc pm an cda ct cc⟩, ht⟩, glo_ok X G e1⟩
/-! ### the tables -/
def tfOf (ms : List Str) : List Defn := ms.map fun x => (x, none)
def tabX (x : Str) (K : PySem.W.Frag) : Bool := (Fa.glo x).ok K && (match K.lookup (ga K x) with
  | some ⟨_, _, .func fd, _⟩ => (match fd.code with
    | .ref c => (match K.lookup c with
      | some ⟨_, _, .fields vs, _⟩ => (match (vs[11]? : Option Value) with
        | some (.ref P) => decide ((c, P) = cT K (x, none))
        | _ => false)
      | _ => false)
    | _ => false)
  | _ => false)
def lamX (ms : List Str) (K : PySem.W.Frag) : Bool := lamMakers.all fun x => ms.contains x || eqO (PySem.W.nsIn K mainGlobals x) (some none)
def tabsX (ms : List Str) (K : PySem.W.Frag) : Bool := ms.all fun x => tabX x K
def nmX (ms : List Str) (K : PySem.W.Frag) : Bool := ms.all fun x => (Fa.glo x).ok K
def nodX (ms : List Str) (K : PySem.W.Frag) : Bool := decide (((tfOf ms).map fun p => (cT K p).2).Nodup)
section
variable {K : PySem.W.Frag} {h : Heap} {mg : Str → Option Value} (X : K.In h) (G : h.Ns mainGlobals mg)
include X G
theorem tabX_ok {x : Str} (e : tabX x K = true) : codeTab K mg x = some (cT K (x, none)) := by
  obtain ⟨e1, e2⟩ := ba e
  unfold codeTab
  rw [glo_ok X G e1]
  show (match K.lookup (ga K x) with
    | some (⟨_, _, .func fd, _⟩ : Obj) => (match fd.code with
      | Value.ref c => (match K.lookup c with
        | some (⟨_, _, .fields vs, _⟩ : Obj) => (match vs[11]? with
          | some (Value.ref P) => some (c, P)
          | _ => none)
        | _ => none)
      | _ => none)
    | _ => none) = _
  split at e2
  · rename_i oc od fd osl lk
    split at e2
    · rename_i c ec
      try simp only [ec]
      split at e2
      · rename_i a b vs sl lk2
        try simp only [lk2]
        split at e2
        · rename_i P eP
          try simp only [eP]
          rw [of_decide_eq_true e2]
        · cases e2
      · cases e2
    · cases e2
  · cases e2
theorem tabsX_ok {ms : List Str} (e : tabsX ms K = true) {x : Str} (hx : x ∈ ms) : codeTab K mg x = some (cT K (x, none)) := tabX_ok X G (List.all_eq_true.mp e x hx)
theorem tabsX_some {ms : List Str} (e : tabsX ms K = true) {x : Str} (hx : x ∈ ms) : (codeTab K mg x).isSome = true := by rw [tabsX_ok X G e hx]; rfl
theorem nmX_ok {ms : List Str} (e : nmX ms K = true) : ∀ x ∈ ms, ∃ C, mg x = some (.ref C) := fun x hx => ⟨_, glo_ok X G (List.all_eq_true.mp e x hx)⟩
theorem freeX_ok {x : Str} (e : freeX x K = true) : mg x = none := free_ok X G e
theorem intX_ok {x : Str} {i : Int} (e : intX x i K = true) : ∃ t, mg x = some (.int i t) := int_ok X G e
theorem lamX_ok {ms : List Str} (e : lamX ms K = true) {x : Str} (hx : x ∈ lamMakers) : x ∈ ms ∨ codeTab K mg x = none := by
  rcases Bool.or_eq_true_iff.mp (List.all_eq_true.mp e x hx) with z | z
  · exact .inl (List.contains_iff_mem.mp z)
  · refine .inr ?_
    unfold codeTab
    rw [PySem.W.mg_none_of X G (eqO_ok z)]
end
theorem nodup_at {α β : Type} {f : α → β} : ∀ {l : List α}, (l.map f).Nodup → ∀ x ∈ l, ∀ y ∈ l, f x = f y → x = y
  | [], _, _, h, _, _, _ => nomatch h
  | a :: l, hn, x, hx, y, hy, e => by
    rw [List.map_cons, List.nodup_cons] at hn
    rcases List.mem_cons.mp hx with zx | hx
    · rcases List.mem_cons.mp hy with zy | hy
      · rw [zx, zy]
      · exact absurd (List.mem_map.mpr ⟨y, hy, by rw [← e, zx]⟩) hn.1
    · rcases List.mem_cons.mp hy with zy | hy
      · exact absurd (List.mem_map.mpr ⟨x, hx, by rw [e, zy]⟩) hn.1
      · exact nodup_at hn.2 x hx y hy e
/-- the tables of the started module -/
structure TabK (K : PySem.W.Frag) (mg : Str → Option Value) (ms : List Str) : Prop where
  at_ : ∀ x ∈ ms, codeTab K mg x = some (cT K (x, none))
  no : ∀ x ∈ lamMakers, x ∈ ms ∨ codeTab K mg x = none
  nd : ((tfOf ms).map fun p => (cT K p).2).Nodup
def csOf (K : PySem.W.Frag) (ms : List Str) : List (Addr × Addr) := (tfOf ms).map (cT K)
def TOf (K : PySem.W.Frag) (ms : List Str) : List (Addr × Str) := ms.map fun x => ((cT K (x, none)).2, lamQ x)
theorem TabK.base {K : PySem.W.Frag} {mg : Str → Option Value} {ms : List Str} {base : Heap} (t : TabK K mg ms) (h : ∀ p ∈ csOf K ms, LamX.TabB base mg p.1 p.2) : TabsB K mg base := fun x hx c P e => by
  rcases t.no x hx with z | z
  · have e2 := (t.at_ x z).symm.trans e
    have e3 : cT K (x, none) = (c, P) := Option.some.inj e2
    have := h (cT K (x, none)) (List.mem_map.mpr ⟨(x, none), List.mem_map.mpr ⟨x, z, rfl⟩, rfl⟩)
    rw [e3] at this
    exact this
  · rw [z] at e; cases e
theorem TabK.tabT {K : PySem.W.Frag} {mg : Str → Option Value} {ms : List Str} (t : TabK K mg ms) : TabT K mg (TOf K ms) := fun x hx c P e => by
  rcases t.no x hx with z | z
  · have e2 := (t.at_ x z).symm.trans e
    have e3 : cT K (x, none) = (c, P) := Option.some.inj e2
    refine ⟨List.mem_map.mpr ⟨x, z, by rw [e3]⟩, fun p hp hP => ?_⟩
    obtain ⟨y, hy, rfl⟩ := List.mem_map.mp hp
    have hn := t.nd
    have e4 : ((x, none) : Defn) = (y, none) := nodup_at hn (x, none) (List.mem_map.mpr ⟨x, z, rfl⟩) (y, none) (List.mem_map.mpr ⟨y, hy, rfl⟩) (by
      rw [e3]
      exact hP.symm)
    cases e4
    rfl
  · rw [z] at e; cases e
theorem tabK_of {K : PySem.W.Frag} {h : Heap} {mg : Str → Option Value} {ms : List Str} (X : K.In h) (G : h.Ns mainGlobals mg) (e1 : tabsX ms K = true) (e2 : lamX ms K = true) (e3 : nodX ms K = true) : TabK K mg ms :=
  ⟨fun x hx => tabsX_ok X G e1 hx, fun x hx => lamX_ok X G e2 hx, of_decide_eq_true e3⟩
/-! ### the end -/
theorem rel_start {K : PySem.W.Frag} {mg : Str → Option Value} {ms : List Str} {H : Hp} {a : Addr} {ns : List Int} (t : TabK K mg ms) (hT : ∀ p ∈ csOf K ms, H p.2 = some (.tbl #[])) (hS : SqL K H a (ns.map V.int)) :
    ∃ G, Rel K mg G [] H ∧ Dq K mg G (.ref a) (.scr (ns.map D.int)) := by
  have hin : ∀ (G : Gh) (l : List Int), DqA K mg G (l.map V.int) (l.map D.int) := fun G l => by
    induction l with
    | nil => exact .nil
    | cons i l ih => exact .cons (.int i) ih
  have tabs : LamX.Tabs (TOf K ms) H := fun p hp => by
    obtain ⟨x, hx, rfl⟩ := List.mem_map.mp hp
    exact LamX.TabS.nil (hT (cT K (x, none)) (List.mem_map.mpr ⟨(x, none), List.mem_map.mpr ⟨x, hx, rfl⟩, rfl⟩))
  have one : ∀ o : HO, H a = some o → NT o → Rel K mg ⟨fun b => if b = a then some o else none, [], TOf K ms⟩ [] H := fun o ho nt => by
    refine ⟨fun b u e => ?_, fun b u e => ?_, rfl, List.nodup_nil, fun _ h => (nomatch h), fun n l e => (nomatch (show (none : Option (Option (List D))) = some (some l) from by rw [← e]; rfl)), tabs, t.tabT⟩
    · have e : (if b = a then some o else none) = some u := e
      split at e
      · rename_i q; cases e; rw [q]; exact ho
      · cases e
    · have e : (if b = a then some o else none) = some u := e
      split at e
      · cases e; exact nt
      · cases e
  have zero : Rel K mg ⟨fun _ => none, [], TOf K ms⟩ [] H := ⟨fun _ _ e => (nomatch e), fun _ _ e => (nomatch e), rfl, List.nodup_nil, fun _ h => (nomatch h), fun n l e => (nomatch (show (none : Option (Option (List D))) = some (some l) from by rw [← e]; rfl)), tabs, t.tabT⟩
  rcases hS with (q | ⟨ob, q⟩) | q
  · exact ⟨_, one _ q (fun _ z => nomatch z), .scr (.inl (.inl (if_pos rfl))) (hin _ ns)⟩
  · exact ⟨_, one _ q (fun _ z => nomatch z), .scr (.inl (.inr ⟨ob, if_pos rfl⟩)) (hin _ ns)⟩
  · exact ⟨_, zero, .scr (.inr q) (hin _ ns)⟩
theorem end_walk {l : PySem.W.OpenLaw} {k : Nat} {q : Program} {loose : List Str} {XP : (Str → Option Value) → Heap → Prop} {d : DefRec} {x : Str} {gn : List GnD} {ms : List Str} {ex : List (PySem.W.Frag → Bool)} {st : Stmt} {F : FF} {YP : World → Heap → Prop} {nm : Str} (hnm : d.name = nm)
    (hn : l.most = some 63) (hdf : d.params.defaults = []) (hr : Room k callerA) (hY : ∀ w h, YP w h → ∃ K : PySem.W.Frag, K.In h ∧ SaysY gn (tfOf ms) ex h K)
    (D : ∀ (mg : Str → Option Value) (h : Heap) (K : PySem.W.Frag), K.In h → h.Ns mainGlobals mg → SaysY gn (tfOf ms) ex h K → TabK K mg ms ∧ ∃ f fd, FnP K nm nm st f fd ∧ mg nm = some (.ref f) ∧ (∀ (s : Shared) (u : Value), BindsTo s fd ⟨[u], []⟩ [(x, u)]))
    (B : ∀ (w : World) (mg : Str → Option Value) (h : Heap) (K : PySem.W.Frag), K.In h → h.Ns mainGlobals mg → SaysY gn (tfOf ms) ex h K → ∀ base : Heap, K.In base → base.Ns mainGlobals mg → TabsB K mg base →
      ∀ f fd, FnP K nm nm st f fd → FnOk l.prog w K mg base (L2N.CX l.prog w) k f fd [x] (spF K mg 1 F))
    (law : ∀ ns : List Int, ns.length ≤ 63 → ∃ S, F [.scr (ns.map .int)] [] = .ok (.bl true) S) :
    PySem.W.WalkO q loose XP YP l.row.toRowW d [] (fun f vs => PySem.call f vs) := by
  refine LamX.walk_ofTsE (k := k) (CX := fun w => L2N.CX l.prog w) (x := x) hn (by decide) hdf hr (fun w mg fa h Y G hmg => ?_) (fun w H s e s' z => ?_)
  · obtain ⟨K, KX, c⟩ := hY w h Y
    obtain ⟨tk, f, fd, FU, gl, hb⟩ := D mg h K KX G c
    have ef : fa = f := by rw [← hnm, hmg] at gl; cases gl; rfl
    subst ef
    refine ⟨K, KX, fd, csOf K ms, spF K mg 1 F, fun p hp => ?_, fun p hp => ?_, fun p hp => ?_, hb, fun H a ns hl _ hT hS => ?_, fun base hK hG hTB => B w mg h K KX G c base hK hG (tk.base hTB) fa fd FU⟩
    · obtain ⟨y, hy, rfl⟩ := List.mem_map.mp hp
      exact c.empty y hy
    · obtain ⟨y, hy, rfl⟩ := List.mem_map.mp hp
      exact c.out y hy
    · obtain ⟨y, hy, rfl⟩ := List.mem_map.mp hp
      exact PySem.W.codeHd_of_K KX (c.hd y hy)
    · obtain ⟨G0, r, dq⟩ := rel_start (mg := mg) tk hT hS
      refine ⟨rfl, G0, [.scr (ns.map .int)], [], r, .cons dq .nil, ?_⟩
      obtain ⟨S9, e9⟩ := law ns hl
      rw [e9]
      intro v H' G' s' r' dv
      cases dv
      rfl
  · obtain ⟨_, _, _, _, _, _, _, _, _, _, _, _, hE⟩ := z
    exact hE
end PF
/-! PH: own exception classes over any built-in one, methods. -/
namespace PF
open PySem PySem.Spec PyProof.Rows L2 He
def xsMroG (N : String) (bmB : List Value) (C : Addr) : List Value → List (Option Value) → Bool
  | .ref C' :: bm, [_, _, _, _, some (.builtin n), _] => decide (C' = C) && (decide (n = N) && PySem.XsX.refsB bmB bm)
  | _, _ => false
theorem xsMroG_ok {N : String} {bmB : List Value} {C : Addr} {m : List Value} {s : List (Option Value)} (h : xsMroG N bmB C m s = true) : ∃ bm k0 k1 k2 k3 k5, m = .ref C :: bm ∧ s = [k0, k1, k2, k3, some (.builtin N), k5] ∧ PySem.XsX.refsB bmB bm = true := by
  unfold xsMroG at h
  split at h
  · rename_i C' bm k0 k1 k2 k3 n k5
    obtain ⟨g1, g⟩ := ba h
    obtain ⟨g2, g3⟩ := ba g
    have e4 := of_decide_eq_true g1
    have e5 := of_decide_eq_true g2
    subst e4 e5
    exact ⟨bm, k0, k1, k2, k3, k5, rfl, rfl, g3⟩
  · cases h
def xsClsBG (N : String) (bmB : List Value) (K : PySem.W.Frag) (C : Addr) : Bool := match K.lookup C with
  | some ⟨.type n0, _, .cls cd, sl⟩ => decide (n0 = "type") && (cd.hasDict && (!cd.hasDel && xsMroG N bmB C cd.mro sl.toList))
  | _ => false
theorem xsClsG_ok {N : String} {bmB : List Value} {K : PySem.W.Frag} {C : Addr} (h : xsClsBG N bmB K C = true) : ∃ nm q Nn bs bm sn sub ab col dd k0 k1 k2 k3 k5, K.lookup C = some (PySem.excClassObj nm q C Nn bs bm true sn sub ab col dd k0 k1 k2 k3 k5 N) ∧ PySem.XsX.refsB bmB bm = true := by
  unfold xsClsBG at h
  cases e : K.lookup C with
  | none => rw [e] at h; cases h
  | some o =>
    obtain ⟨oc, od, dt, sl⟩ := o
    rw [e] at h
    cases oc with
    | type n0 =>
      cases dt with
      | cls cd =>
        obtain ⟨h1, h⟩ := ba h
        obtain ⟨h2, h⟩ := ba h
        obtain ⟨h3, h⟩ := ba h
        obtain ⟨nm, bs, mro, Nn, q, hdct, sn, sub, ab, col, del⟩ := cd
        have e1 := of_decide_eq_true h1
        have e2 : hdct = true := h2
        have e3 : del = false := by
          cases del with
          | false => rfl
          | true => cases h3
        subst e1 e2 e3
        obtain ⟨bm, k0, k1, k2, k3, k5, e4, e5, g3⟩ := xsMroG_ok (show xsMroG N bmB C mro sl.toList = true from h)
        subst e4
        have e6 : sl = #[k0, k1, k2, k3, some (.builtin N), k5] := by
          obtain ⟨l⟩ := sl
          have e7 : l = [k0, k1, k2, k3, some (.builtin N), k5] := e5
          rw [e7]
        rw [e6]
        exact ⟨nm, q, Nn, bs, bm, sn, sub, ab, col, od, k0, k1, k2, k3, k5, rfl, g3⟩
      | _ => cases h
    | _ => cases dt <;> cases h
def xsXG (B newId initId : String) (bmB : List Value) (file f c : Str) (K : PySem.W.Frag) : Bool := (Fa.glo c).ok K && (xsClsBG newId bmB K (ga K c) && (eqO (PySem.W.findIn K (.ref (ga K c)) "__setattr__") (some (some (.builtin "object.__setattr__"))) && (eqO (PySem.W.findIn K (.ref (ga K c)) f) (some none) &&
  (eqO (PySem.W.findIn K (.ref (ga K c)) "__init__") (some (some (.ref (mAd c "__init__" K)))) && (decide (PySem.W.typeIn K (.ref (mAd c "__init__" K)) = some (.type "function")) && (PySem.W.keepIn K (.ref (ga K c)) &&
  (eqBo (PySem.W.subIn K (.ref (ga K c)) (.type "BaseException")) (some true) && (decide (PySem.W.typeIn K (.ref (ga K c)) = some (.type "type")) && (eqBo (PySem.W.subIn K (.ref (ga K c)) (.type B)) (some true) &&
  (eqO (PySem.W.nsIn K cStatics "thirdparty.any") (some none) && (eqO (PySem.W.nsIn K mainGlobals "super") (some none) && (xsFnB file c K && eqO (PySem.W.ks_superIn K (ga K c) (ga K c) "__init__") (some (some (.builtin initId)))))))))))))))
theorem xsXG_ok {B newId initId : String} {bmB : List Value} {K : PySem.W.Frag} {h : Heap} {mg : Str → Option Value} (X : K.In h) (G : h.Ns mainGlobals mg) {prog : Program} {c f q a p m : Str} {st : Stmt} {j : Nat} {p1 p2 q1 q2 q3 q4 q5 q6 r1 r2 r3 r4 : Pos} (e : xsXG B newId initId bmB prog.main.file f c K = true)
    (d : fnG K (mAd c "__init__" K) = (GnD.mk (mAd c "__init__") "__init__" q st true).val ∧ gnB K ⟨mAd c "__init__", "__init__", q, st, true⟩ = true)
    (hA : defArgs st = PySem.XsX.iA a p p1 p2) (hB : defBody st = PySem.XsX.iB a p f m j q1 q2 q3 q4 q5 q6 r1 r2 r3 r4) (hq : (q3.endLine == q5.line) = true)
    (hs : (∀ x ∈ (defScope st).names, x.2 ≠ .cell) ∧ (defScope st).isCoroutine = false ∧ (defScope st).isGenerator = false ∧ (defScope st).kind = .function ∧ (defScope st).names.lookup a = some .local ∧ (defScope st).names.lookup p = some .local ∧ a ≠ p ∧
      (defScope st).names.lookup ("super" : Str) = some .globalImplicit ∧ (defScope st).names.lookup ("__class__" : Str) = some .free ∧ (a == ("__debug__" : Str)) = false ∧ (p == ("__debug__" : Str)) = false)
    (hbd : ∀ (kV doc pm : Value) (an : Option Addr) (cda : Addr) (ct : Value) (cc : Addr) (x v : Value), bindArgs (PySem.W.ksFn "__init__" q (PySem.XsX.iA a p p1 p2) (PySem.XsX.iB a p f m j q1 q2 q3 q4 q5 q6 r1 r2 r3 r4) (defScope st) .none kV doc pm an (.ref cda) ct cc) ⟨[x, v], []⟩ = pure [(a, x), (p, v)])
    (ht : (prog.main.scope.names.lookup ("super" : Str)).isSome = false) : XsTG B newId initId bmB prog K mg c f := by
  obtain ⟨e1, e⟩ := ba e
  obtain ⟨e2, e⟩ := ba e
  obtain ⟨e3, e⟩ := ba e
  obtain ⟨e4, e⟩ := ba e
  obtain ⟨e5, e⟩ := ba e
  obtain ⟨e6, e⟩ := ba e
  obtain ⟨e7, e⟩ := ba e
  obtain ⟨e8, e⟩ := ba e
  obtain ⟨e9, e⟩ := ba e
  obtain ⟨e10, e⟩ := ba e
  obtain ⟨e11, e⟩ := ba e
  obtain ⟨e12, e⟩ := ba e
  obtain ⟨e13, e14⟩ := ba e
  obtain ⟨kp, oc, od, osl, clo, kV, doc, pm, an, cdv, ct, lk, k1, _⟩ := gn_raw (d := ⟨mAd c "__init__", "__init__", q, st, true⟩) d.1 d.2
  obtain ⟨cda, cc, g1, g2, g3, g4⟩ := xsFn_ok e13 lk
  have g1 : cdv = .ref cda := g1
  have g2 : clo = [(("__class__" : Str), cc)] := g2
  subst g1 g2
  obtain ⟨h1, h2, h3, h4, h5, h6, h7, h8, h9, h10, h11⟩ := hs
  have lk2 : K.lookup (mAd c "__init__" K) = some ⟨oc, od, .func (PySem.W.ksFn "__init__" q (PySem.XsX.iA a p p1 p2) (PySem.XsX.iB a p f m j q1 q2 q3 q4 q5 q6 r1 r2 r3 r4) (defScope st) .none kV doc pm an (.ref cda) ct cc), osl⟩ := by
    rw [← hA, ← hB]
    exact lk
  exact ⟨ga K c, mAd c "__init__" K, ⟨xsClsG_ok e2, eqO_ok e3, eqO_ok e4, eqO_ok e5, of_decide_eq_true e6, e7, eqBo_ok e8, of_decide_eq_true e9, eqBo_ok e10, eqO_ok e11, eqO_ok e12,
    ⟨oc, od, .none, kV, doc, pm, an, cda, ct, osl, cc, a, p, m, q, defScope st, j, p1, p2, q1, q2, q3, q4, q5, q6, r1, r2, r3, r4, lk2, k1, g3, g4, eqO_ok e14, h1, h2, h3, h4, h5, h6, h7, h8, h9, h10, h11, hq, hbd kV doc pm an cda ct cc⟩, ht⟩, glo_ok X G e1⟩
def methX (c m : Str) (K : PySem.W.Frag) : Bool := (Fa.meth c m).ok K
theorem methK_ok {K : PySem.W.Frag} {c m q : Str} {st : Stmt} (e : methX c m K = true) (d : fnG K (mAd c m K) = (GnD.mk (mAd c m) m q st false).val ∧ gnB K ⟨mAd c m, m, q, st, false⟩ = true) : MethK K (ga K c) m q st := by
  obtain ⟨fd, F⟩ := gn_ok (d := ⟨mAd c m, m, q, st, false⟩) d.1 d.2 rfl
  exact ⟨_, fd, meth_ok e, F⟩
end PF
set_option maxHeartbeats 0
/-! the head: what the started module holds (printed by gen.py) -/
namespace K01
open PySem PySem.Spec PyProof.Rows L2 PF He
def ms : List Str := ["_law_deed_right", "_law_full_right", "law"]
def gn0 : List GnD := [⟨fun K => ga K "is_integer", "is_integer", "is_integer", top 1, false⟩, ⟨fun K => ga K "is_between", "is_between", "is_between", top 2, false⟩, ⟨fun K => ga K "is_row", "is_row", "is_row", top 3, false⟩, ⟨fun K => ga K "least_of", "least_of", "least_of", top 31, false⟩, ⟨fun K => ga K "quota_of", "quota_of", "quota_of", top 32, false⟩, ⟨fun K => ga K "span_of", "span_of", "span_of", top 33, false⟩, ⟨fun K => ga K "is_values", "is_values", "is_values", top 34, false⟩, ⟨fun K => ga K "is_many", "is_many", "is_many", top 35, false⟩, ⟨fun K => ga K "is_kind", "is_kind", "is_kind", top 36, false⟩, ⟨fun K => ga K "look_at_many", "look_at_many", "look_at_many", top 37, false⟩, ⟨fun K => ga K "_law_is_whole", "_law_is_whole", "_law_is_whole", top 40, false⟩, ⟨fun K => ga K "_law_pool", "_law_pool", "_law_pool", top 47, false⟩, ⟨fun K => ga K "_law_take", "_law_take", "_law_take", top 48, false⟩, ⟨fun K => ga K "_law_one", "_law_one", "_law_one", top 49, false⟩, ⟨fun K => ga K "_law_pu_is_values", "_law_pu_is_values", "_law_pu_is_values", top 50, false⟩, ⟨fun K => ga K "_law_pd_values", "_law_pd_values", "_law_pd_values", top 51, false⟩, ⟨fun K => ga K "_law_pd_leap", "_law_pd_leap", "_law_pd_leap", top 52, false⟩, ⟨fun K => ga K "_law_pd_many", "_law_pd_many", "_law_pd_many", top 53, false⟩, ⟨fun K => ga K "_law_pd_great", "_law_pd_great", "_law_pd_great", top 54, false⟩, ⟨fun K => ga K "_law_pd_crew", "_law_pd_crew", "_law_pd_crew", top 55, false⟩, ⟨fun K => ga K "_law_pd_some_crew", "_law_pd_some_crew", "_law_pd_some_crew", top 56, false⟩, ⟨fun K => ga K "_law_pd_great_crew", "_law_pd_great_crew", "_law_pd_great_crew", top 57, false⟩, ⟨fun K => ga K "_law_same", "_law_same", "_law_same", top 41, false⟩, ⟨fun K => ga K "_law_pu_jar_on", "_law_pu_jar_on", "_law_pu_jar_on", top 46, false⟩, ⟨fun K => ga K "_law_pu_least_of", "_law_pu_least_of", "_law_pu_least_of", top 59, false⟩, ⟨fun K => ga K "_law_pu_span", "_law_pu_span", "_law_pu_span", top 60, false⟩, ⟨fun K => ga K "_law_pu_ends", "_law_pu_ends", "_law_pu_ends", top 61, false⟩, ⟨fun K => ga K "_law_pu_classes", "_law_pu_classes", "_law_pu_classes", top 42, false⟩, ⟨fun K => ga K "_law_pu_field", "_law_pu_field", "_law_pu_field", top 43, false⟩, ⟨fun K => ga K "_law_pu_heard", "_law_pu_heard", "_law_pu_heard", top 44, false⟩]
def gn1 : List GnD := [⟨fun K => ga K "_law_pu_refuses", "_law_pu_refuses", "_law_pu_refuses", top 45, false⟩, ⟨fun K => ga K "_law_pd_made", "_law_pd_made", "_law_pd_made", top 58, false⟩, ⟨fun K => ga K "_law_is_crew_of", "_law_is_crew_of", "_law_is_crew_of", top 62, false⟩, ⟨fun K => ga K "_law_is_whole_to", "_law_is_whole_to", "_law_is_whole_to", top 63, false⟩, ⟨fun K => ga K "_law_owed_of", "_law_owed_of", "_law_owed_of", top 64, false⟩, ⟨fun K => ga K "_law_done_to", "_law_done_to", "_law_done_to", top 65, false⟩, ⟨fun K => ga K "_law_kind_drawn", "_law_kind_drawn", "_law_kind_drawn", top 66, false⟩, ⟨fun K => ga K "_law_deed_drawn", "_law_deed_drawn", "_law_deed_drawn", top 67, false⟩, ⟨fun K => ga K "_law_deed_right", "_law_deed_right", "_law_deed_right", top 68, false⟩, ⟨fun K => ga K "_law_full_right", "_law_full_right", "_law_full_right", top 69, false⟩, ⟨fun K => ga K "law", "law", "law", top 70, false⟩, ⟨mAd "Crew" "__init__", "__init__", "Crew.__init__", clsAt (top 38) 0, false⟩, ⟨gAd "Crew" "all_kinds", "all_kinds", "Crew.all_kinds", clsAt (top 38) 1, false⟩, ⟨gAd "Crew" "members", "members", "Crew.members", clsAt (top 38) 2, false⟩, ⟨gAd "Crew" "least", "least", "Crew.least", clsAt (top 38) 3, false⟩, ⟨gAd "Crew" "full", "full", "Crew.full", clsAt (top 38) 4, false⟩, ⟨gAd "Crew" "span", "span", "Crew.span", clsAt (top 38) 5, false⟩, ⟨mAd "Crew" "__eq__", "__eq__", "Crew.__eq__", clsAt (top 38) 6, false⟩, ⟨mAd "Crew" "look_at_kind", "look_at_kind", "Crew.look_at_kind", clsAt (top 38) 7, false⟩, ⟨mAd "Crew" "changed", "changed", "Crew.changed", clsAt (top 38) 8, false⟩, ⟨mAd "Crew" "with_many", "with_many", "Crew.with_many", clsAt (top 38) 9, false⟩, ⟨mAd "Crew" "with_kind", "with_kind", "Crew.with_kind", clsAt (top 38) 10, false⟩, ⟨mAd "Crew" "without_kind", "without_kind", "Crew.without_kind", clsAt (top 38) 11, false⟩, ⟨mAd "Crew" "cut", "cut", "Crew.cut", clsAt (top 38) 12, false⟩, ⟨mAd "Crew" "share", "share", "Crew.share", clsAt (top 38) 13, false⟩, ⟨mAd "InvalidCrew" "__init__", "__init__", "InvalidCrew.__init__", clsAt (top 21) 0, true⟩, ⟨mAd "InvalidNumber" "__init__", "__init__", "InvalidNumber.__init__", clsAt (top 7) 0, true⟩, ⟨mAd "TooMany" "__init__", "__init__", "TooMany.__init__", clsAt (top 17) 0, true⟩]
def gn : List GnD := gn0 ++ gn1
def ex0 : List (PySem.W.Frag → Bool) := [xcX xnames "InvalidCrew", xcX xnames "InvalidNumber", xcX xnames "TooMany", nmX xnames, freeX "abs", freeX "all", freeX "any", freeX "bool", freeX "dict", freeX "int", freeX "isinstance", freeX "len", freeX "list", freeX "max", freeX "min", freeX "range", freeX "sorted", freeX "str", freeX "sum", freeX "tuple", intX "MOST_ENTRIES" 41, intX "MOST_KINDS" 3, intX "MOST_MANY" 1000000000000000000000000000000, intX "MOST_OFFICES" 1000, gloX "is_integer", gloX "is_between", gloX "is_row", gloX "least_of", gloX "quota_of", gloX "span_of"]
def ex1 : List (PySem.W.Frag → Bool) := [gloX "is_values", gloX "is_many", gloX "is_kind", gloX "look_at_many", gloX "_law_is_whole", gloX "_law_pool", gloX "_law_take", gloX "_law_one", gloX "_law_pu_is_values", gloX "_law_pd_values", gloX "_law_pd_leap", gloX "_law_pd_many", gloX "_law_pd_great", gloX "_law_pd_crew", gloX "_law_pd_some_crew", gloX "_law_pd_great_crew", gloX "_law_same", gloX "_law_pu_jar_on", gloX "_law_pu_least_of", gloX "_law_pu_span", gloX "_law_pu_ends", gloX "_law_pu_classes", gloX "_law_pu_field", gloX "_law_pu_heard", gloX "_law_pu_refuses", gloX "_law_pd_made", gloX "_law_is_crew_of", gloX "_law_is_whole_to", gloX "_law_owed_of", gloX "_law_done_to"]
def ex2 : List (PySem.W.Frag → Bool) := [gloX "_law_kind_drawn", gloX "_law_deed_drawn", gloX "_law_deed_right", gloX "_law_full_right", gloX "law", clsX "Crew", noatX "Crew" "own_kinds", mkX "Crew", propX "Crew" "all_kinds", propX "Crew" "members", propX "Crew" "least", propX "Crew" "full", propX "Crew" "span", eqX "Crew", methX "Crew" "look_at_kind", methX "Crew" "changed", methX "Crew" "with_many", methX "Crew" "with_kind", methX "Crew" "without_kind", methX "Crew" "cut", methX "Crew" "share", tabsX ms, xsX PySem.Challenge.pw_poolupto_k03_crews_altered.main.file "value" "InvalidCrew", xsX PySem.Challenge.pw_poolupto_k03_crews_altered.main.file "value" "InvalidNumber", xsXG "OverflowError" "OverflowError.__new__" "OverflowError.__init__" [.type "OverflowError", .type "ArithmeticError", .type "Exception", .type "BaseException", .type "object"] PySem.Challenge.pw_poolupto_k03_crews_altered.main.file "limit" "TooMany", lamX ms, nodX ms]
def ex : List (PySem.W.Frag → Bool) := ex0 ++ ex1 ++ ex2
def loose0 : List Str := ["is_integer", "is_between", "is_row", "SafeError", "InvalidName", "InvalidNumber", "InvalidBody", "InvalidProgram", "InvalidState", "InvalidChoice", "InvalidCondition", "InvalidSize", "InvalidPaper", "InvalidCommand", "ParseError", "TooMany", "NothingToUndo", "NothingToRedo", "InvalidCrew", "InvalidRise", "InvalidCast", "InvalidDeed", "Unkept", "MOST_ENTRIES", "MOST_KINDS", "MOST_MANY", "MOST_OFFICES", "least_of", "quota_of", "span_of"]
def loose1 : List Str := ["is_values", "is_many", "is_kind", "look_at_many", "Crew", "_law_is_whole", "_law_same", "_law_pu_classes", "_law_pu_field", "_law_pu_heard", "_law_pu_refuses", "_law_pu_jar_on", "_law_pool", "_law_take", "_law_one", "_law_pu_is_values", "_law_pd_values", "_law_pd_leap", "_law_pd_many", "_law_pd_great", "_law_pd_crew", "_law_pd_some_crew", "_law_pd_great_crew", "_law_pd_made", "_law_pu_least_of", "_law_pu_span", "_law_pu_ends", "_law_is_crew_of", "_law_is_whole_to", "_law_owed_of"]
def loose2 : List Str := ["_law_done_to", "_law_kind_drawn", "_law_deed_drawn", "_law_deed_right", "_law_full_right"]
def loose : List Str := loose0 ++ loose1 ++ loose2
def xsL0 : List Str := ["is_integer", "is_between", "is_row", "least_of", "quota_of", "span_of", "is_values", "is_many", "is_kind", "look_at_many", "_law_is_whole", "_law_pool", "_law_take", "_law_one", "_law_pu_is_values", "_law_pd_values", "_law_pd_leap", "_law_pd_many", "_law_pd_great", "_law_pd_crew", "_law_pd_some_crew", "_law_pd_great_crew", "_law_same", "_law_pu_jar_on", "_law_pu_least_of", "_law_pu_span", "_law_pu_ends", "_law_pu_classes", "_law_pu_field", "_law_pu_heard"]
def xsL1 : List Str := ["_law_pu_refuses", "_law_pd_made", "_law_is_crew_of", "_law_is_whole_to", "_law_owed_of", "_law_done_to", "_law_kind_drawn", "_law_deed_drawn", "_law_deed_right", "_law_full_right", "law", "InvalidBody", "InvalidChoice", "InvalidCommand", "InvalidCondition", "InvalidName", "InvalidPaper", "InvalidProgram", "InvalidSize", "InvalidState", "NothingToRedo", "NothingToUndo", "ParseError", "InvalidCast", "InvalidDeed", "InvalidRise", "Unkept"]
def xsL : List Str := xsL0 ++ xsL1
def csL : List Str := ["Crew", "InvalidCrew", "InvalidNumber", "TooMany"]
def dsL : List Str := ["SafeError"]
theorem txt {K : PySem.W.Frag} {h base : Heap} {mg : Str → Option Value} (X : K.In h) (G : h.Ns mainGlobals mg) (c : SaysY gn (tfOf ms) ex h K) (tb : TabsB K mg base) : Txt PySem.Challenge.pw_poolupto_k03_crews_altered K mg base where
  tb := tb
  xc := fun c0 f0 hm => by
    simp only [good, List.mem_cons, List.not_mem_nil, or_false, Prod.mk.injEq] at hm
    rcases hm with ⟨rfl, rfl⟩ | ⟨rfl, rfl⟩ | ⟨rfl, rfl⟩
    · exact xcX_ok X G (by decide +kernel) (c.ex_ (f := xcX xnames "InvalidCrew") 0)
    · exact xcX_ok X G (by decide +kernel) (c.ex_ (f := xcX xnames "InvalidNumber") 1)
    · exact xcX_ok X G (by decide +kernel) (c.ex_ (f := xcX xnames "TooMany") 2)
  nm := nmX_ok X G (c.ex_ (f := nmX xnames) 3)
  b_abs := freeX_ok X G (c.ex_ (f := freeX "abs") 4)
  b_all := freeX_ok X G (c.ex_ (f := freeX "all") 5)
  b_any := freeX_ok X G (c.ex_ (f := freeX "any") 6)
  b_bool := freeX_ok X G (c.ex_ (f := freeX "bool") 7)
  b_dict := freeX_ok X G (c.ex_ (f := freeX "dict") 8)
  b_int := freeX_ok X G (c.ex_ (f := freeX "int") 9)
  b_isinstance := freeX_ok X G (c.ex_ (f := freeX "isinstance") 10)
  b_len := freeX_ok X G (c.ex_ (f := freeX "len") 11)
  b_list := freeX_ok X G (c.ex_ (f := freeX "list") 12)
  b_max := freeX_ok X G (c.ex_ (f := freeX "max") 13)
  b_min := freeX_ok X G (c.ex_ (f := freeX "min") 14)
  b_range := freeX_ok X G (c.ex_ (f := freeX "range") 15)
  b_sorted := freeX_ok X G (c.ex_ (f := freeX "sorted") 16)
  b_str := freeX_ok X G (c.ex_ (f := freeX "str") 17)
  b_sum := freeX_ok X G (c.ex_ (f := freeX "sum") 18)
  b_tuple := freeX_ok X G (c.ex_ (f := freeX "tuple") 19)
  i_MOST_ENTRIES := intX_ok X G (c.ex_ (f := intX "MOST_ENTRIES" 41) 20)
  i_MOST_KINDS := intX_ok X G (c.ex_ (f := intX "MOST_KINDS" 3) 21)
  i_MOST_MANY := intX_ok X G (c.ex_ (f := intX "MOST_MANY" 1000000000000000000000000000000) 22)
  i_MOST_OFFICES := intX_ok X G (c.ex_ (f := intX "MOST_OFFICES" 1000) 23)
  d_is_integer := defAt_ok X G (c.ex_ (f := gloX "is_integer") 24) (c.gn_ 0)
  d_is_between := defAt_ok X G (c.ex_ (f := gloX "is_between") 25) (c.gn_ 1)
  d_is_row := defAt_ok X G (c.ex_ (f := gloX "is_row") 26) (c.gn_ 2)
  d_least_of := defAt_ok X G (c.ex_ (f := gloX "least_of") 27) (c.gn_ 3)
  d_quota_of := defAt_ok X G (c.ex_ (f := gloX "quota_of") 28) (c.gn_ 4)
  d_span_of := defAt_ok X G (c.ex_ (f := gloX "span_of") 29) (c.gn_ 5)
  d_is_values := defAt_ok X G (c.ex_ (f := gloX "is_values") 30) (c.gn_ 6)
  d_is_many := defAt_ok X G (c.ex_ (f := gloX "is_many") 31) (c.gn_ 7)
  d_is_kind := defAt_ok X G (c.ex_ (f := gloX "is_kind") 32) (c.gn_ 8)
  d_look_at_many := defAt_ok X G (c.ex_ (f := gloX "look_at_many") 33) (c.gn_ 9)
  d__law_is_whole := defAt_ok X G (c.ex_ (f := gloX "_law_is_whole") 34) (c.gn_ 10)
  d__law_pool := defAt_ok X G (c.ex_ (f := gloX "_law_pool") 35) (c.gn_ 11)
  d__law_take := defAt_ok X G (c.ex_ (f := gloX "_law_take") 36) (c.gn_ 12)
  d__law_one := defAt_ok X G (c.ex_ (f := gloX "_law_one") 37) (c.gn_ 13)
  d__law_pu_is_values := defAt_ok X G (c.ex_ (f := gloX "_law_pu_is_values") 38) (c.gn_ 14)
  d__law_pd_values := defAt_ok X G (c.ex_ (f := gloX "_law_pd_values") 39) (c.gn_ 15)
  d__law_pd_leap := defAt_ok X G (c.ex_ (f := gloX "_law_pd_leap") 40) (c.gn_ 16)
  d__law_pd_many := defAt_ok X G (c.ex_ (f := gloX "_law_pd_many") 41) (c.gn_ 17)
  d__law_pd_great := defAt_ok X G (c.ex_ (f := gloX "_law_pd_great") 42) (c.gn_ 18)
  d__law_pd_crew := defAt_ok X G (c.ex_ (f := gloX "_law_pd_crew") 43) (c.gn_ 19)
  d__law_pd_some_crew := defAt_ok X G (c.ex_ (f := gloX "_law_pd_some_crew") 44) (c.gn_ 20)
  d__law_pd_great_crew := defAt_ok X G (c.ex_ (f := gloX "_law_pd_great_crew") 45) (c.gn_ 21)
  d__law_same := defAt_ok X G (c.ex_ (f := gloX "_law_same") 46) (c.gn_ 22)
  d__law_pu_jar_on := defAt_ok X G (c.ex_ (f := gloX "_law_pu_jar_on") 47) (c.gn_ 23)
  d__law_pu_least_of := defAt_ok X G (c.ex_ (f := gloX "_law_pu_least_of") 48) (c.gn_ 24)
  d__law_pu_span := defAt_ok X G (c.ex_ (f := gloX "_law_pu_span") 49) (c.gn_ 25)
  d__law_pu_ends := defAt_ok X G (c.ex_ (f := gloX "_law_pu_ends") 50) (c.gn_ 26)
  d__law_pu_classes := defAt_ok X G (c.ex_ (f := gloX "_law_pu_classes") 51) (c.gn_ 27)
  d__law_pu_field := defAt_ok X G (c.ex_ (f := gloX "_law_pu_field") 52) (c.gn_ 28)
  d__law_pu_heard := defAt_ok X G (c.ex_ (f := gloX "_law_pu_heard") 53) (c.gn_ 29)
  d__law_pu_refuses := defAt_ok X G (c.ex_ (f := gloX "_law_pu_refuses") 54) (c.gn_ 30)
  d__law_pd_made := defAt_ok X G (c.ex_ (f := gloX "_law_pd_made") 55) (c.gn_ 31)
  d__law_is_crew_of := defAt_ok X G (c.ex_ (f := gloX "_law_is_crew_of") 56) (c.gn_ 32)
  d__law_is_whole_to := defAt_ok X G (c.ex_ (f := gloX "_law_is_whole_to") 57) (c.gn_ 33)
  d__law_owed_of := defAt_ok X G (c.ex_ (f := gloX "_law_owed_of") 58) (c.gn_ 34)
  d__law_done_to := defAt_ok X G (c.ex_ (f := gloX "_law_done_to") 59) (c.gn_ 35)
  d__law_kind_drawn := defAt_ok X G (c.ex_ (f := gloX "_law_kind_drawn") 60) (c.gn_ 36)
  d__law_deed_drawn := defAt_ok X G (c.ex_ (f := gloX "_law_deed_drawn") 61) (c.gn_ 37)
  d__law_deed_right := defAt_ok X G (c.ex_ (f := gloX "_law_deed_right") 62) (c.gn_ 38)
  d__law_full_right := defAt_ok X G (c.ex_ (f := gloX "_law_full_right") 63) (c.gn_ 39)
  d_law := defAt_ok X G (c.ex_ (f := gloX "law") 64) (c.gn_ 40)
  in_Crew := ⟨_, clsX_ok X G (c.ex_ (f := clsX "Crew") 65), noat_ok (c.ex_ (f := noatX "Crew" "own_kinds") 66), initK_ok (c := "Crew") (c.ex_ (f := mkX "Crew") 67) (c.gn_ 41)⟩
  pr_Crew_all_kinds := ⟨_, clsX_ok X G (c.ex_ (f := clsX "Crew") 65), propX_ok (c.ex_ (f := propX "Crew" "all_kinds") 68) (c.gn_ 42)⟩
  pr_Crew_members := ⟨_, clsX_ok X G (c.ex_ (f := clsX "Crew") 65), propX_ok (c.ex_ (f := propX "Crew" "members") 69) (c.gn_ 43)⟩
  pr_Crew_least := ⟨_, clsX_ok X G (c.ex_ (f := clsX "Crew") 65), propX_ok (c.ex_ (f := propX "Crew" "least") 70) (c.gn_ 44)⟩
  pr_Crew_full := ⟨_, clsX_ok X G (c.ex_ (f := clsX "Crew") 65), propX_ok (c.ex_ (f := propX "Crew" "full") 71) (c.gn_ 45)⟩
  pr_Crew_span := ⟨_, clsX_ok X G (c.ex_ (f := clsX "Crew") 65), propX_ok (c.ex_ (f := propX "Crew" "span") 72) (c.gn_ 46)⟩
  eq_Crew := ⟨_, clsX_ok X G (c.ex_ (f := clsX "Crew") 65), eqK_ok (c := "Crew") (c.ex_ (f := eqX "Crew") 73) (c.gn_ 47)⟩
  me_Crew_look_at_kind := ⟨_, clsX_ok X G (c.ex_ (f := clsX "Crew") 65), methK_ok (c.ex_ (f := methX "Crew" "look_at_kind") 74) (c.gn_ 48)⟩
  me_Crew_changed := ⟨_, clsX_ok X G (c.ex_ (f := clsX "Crew") 65), methK_ok (c.ex_ (f := methX "Crew" "changed") 75) (c.gn_ 49)⟩
  me_Crew_with_many := ⟨_, clsX_ok X G (c.ex_ (f := clsX "Crew") 65), methK_ok (c.ex_ (f := methX "Crew" "with_many") 76) (c.gn_ 50)⟩
  me_Crew_with_kind := ⟨_, clsX_ok X G (c.ex_ (f := clsX "Crew") 65), methK_ok (c.ex_ (f := methX "Crew" "with_kind") 77) (c.gn_ 51)⟩
  me_Crew_without_kind := ⟨_, clsX_ok X G (c.ex_ (f := clsX "Crew") 65), methK_ok (c.ex_ (f := methX "Crew" "without_kind") 78) (c.gn_ 52)⟩
  me_Crew_cut := ⟨_, clsX_ok X G (c.ex_ (f := clsX "Crew") 65), methK_ok (c.ex_ (f := methX "Crew" "cut") 79) (c.gn_ 53)⟩
  me_Crew_share := ⟨_, clsX_ok X G (c.ex_ (f := clsX "Crew") 65), methK_ok (c.ex_ (f := methX "Crew" "share") 80) (c.gn_ 54)⟩
  t__law_deed_right := tabsX_some X G (c.ex_ (f := tabsX ms) 81) (by decide +kernel)
  t__law_full_right := tabsX_some X G (c.ex_ (f := tabsX ms) 81) (by decide +kernel)
  xs_InvalidCrew := xsX_ok (q := "InvalidCrew.__init__") (st := clsAt (top 21) 0) X G (c.ex_ (f := xsX PySem.Challenge.pw_poolupto_k03_crews_altered.main.file "value" "InvalidCrew") 82) (c.gn_ 55) rfl rfl rfl ⟨by decide +kernel, rfl, rfl, rfl, by decide +kernel, by decide +kernel, by decide, by decide +kernel, by decide +kernel, by decide, by decide⟩ (fun _ _ _ _ _ _ _ _ _ => rfl) (by decide +kernel)
  xs_InvalidNumber := xsX_ok (q := "InvalidNumber.__init__") (st := clsAt (top 7) 0) X G (c.ex_ (f := xsX PySem.Challenge.pw_poolupto_k03_crews_altered.main.file "value" "InvalidNumber") 83) (c.gn_ 56) rfl rfl rfl ⟨by decide +kernel, rfl, rfl, rfl, by decide +kernel, by decide +kernel, by decide, by decide +kernel, by decide +kernel, by decide, by decide⟩ (fun _ _ _ _ _ _ _ _ _ => rfl) (by decide +kernel)
  xs_TooMany := xsXG_ok (q := "TooMany.__init__") (st := clsAt (top 17) 0) X G (c.ex_ (f := xsXG "OverflowError" "OverflowError.__new__" "OverflowError.__init__" [.type "OverflowError", .type "ArithmeticError", .type "Exception", .type "BaseException", .type "object"] PySem.Challenge.pw_poolupto_k03_crews_altered.main.file "limit" "TooMany") 84) (c.gn_ 57) rfl rfl rfl ⟨by decide +kernel, rfl, rfl, rfl, by decide +kernel, by decide +kernel, by decide, by decide +kernel, by decide +kernel, by decide, by decide⟩ (fun _ _ _ _ _ _ _ _ _ => rfl) (by decide +kernel)
  ct_Crew := ⟨_, clsX_ok X G (c.ex_ (f := clsX "Crew") 65)⟩
  fl_Crew_own_kinds := ⟨_, clsX_ok X G (c.ex_ (f := clsX "Crew") 65), noat_ok (c.ex_ (f := noatX "Crew" "own_kinds") 66)⟩
abbrev R : PySem.W.OpenRow := PySem.W.OpenLaw.row PySem.Challenge.rw_poolupto_k03_crews_altered
abbrev hk : PySem.W.Hook := hookY (asN xsL csL dsL) gn (tfOf ms) ex
def ob (s : PySem.W.SharedT) : AlY := obsY (asN xsL csL dsL) gn (tfOf ms) ex (HandSHeadRun.getT s)
theorem ob_eq (s : PySem.W.SharedT) : ob s = hk.obs s.abs := obsY_eq (HandSHeadRun.getT_eq s)
theorem tabK {K : PySem.W.Frag} {h : Heap} {mg : Str → Option Value} (X : K.In h) (G : h.Ns mainGlobals mg) (c : SaysY gn (tfOf ms) ex h K) : TabK K mg ms := tabK_of X G (c.ex_ (f := tabsX ms) 81) (c.ex_ (f := lamX ms) 85) (c.ex_ (f := nodX ms) 86)
theorem law_def {K : PySem.W.Frag} {h : Heap} {mg : Str → Option Value} (X : K.In h) (G : h.Ns mainGlobals mg) (c : SaysY gn (tfOf ms) ex h K) : ∃ f fd, FnP K "law" "law" s_law f fd ∧ mg "law" = some (.ref f) ∧ (∀ (s : Shared) (u : Value), BindsTo s fd ⟨[u], []⟩ [("script", u)]) := by
  obtain ⟨f, fd, FU, gl⟩ := defAt_ok (st := s_law) X G (c.ex_ (f := gloX "law") 64) (c.gn_ 40)
  have b := FunD.bindsA (ps := ["script"]) FU fun _ _ _ _ _ _ us hl => match us, hl with | [_], _ => rfl
  exact ⟨f, fd, FU, gl, fun s u => b s [u] rfl⟩
end K01
/-! the run of the top -/
namespace K01
open PySem PySem.Spec PyProof.Rows L2 PF He
theorem run (w : World) : HandSHeadRun.RunEq R (PySem.W.view R.prog [70]) hk ob 30000 loose w := by
  intro os
  kernel_rfl
end K01
open PySem PySem.W PySem.Calls PyProof.Rows
theorem PySem.Challenge.cw_poolupto_k03_crews_altered_holds : PySem.Challenge.rw_poolupto_k03_crews_altered.Holds := by
  w_on; o_law
  refine HandSHeadRun.head_any (r := OpenLaw.row PySem.Challenge.rw_poolupto_k03_crews_altered) (q := view (OpenLaw.row PySem.Challenge.rw_poolupto_k03_crews_altered).prog [70]) (H := K01.hk) (ob := K01.ob) (M := 30000) (loose := K01.loose) (d := HandSHeadRun.topDef (OpenLaw.row PySem.Challenge.rw_poolupto_k03_crews_altered).prog 70) (kwd := []) K01.ob_eq
    (by kernel_rfl) (fun s => by kernel_rfl) K01.run (by kernel_rfl) (by kernel_rfl) (by kernel_rfl) (by rfl) (by first | assumption | decide +kernel) (by decide +kernel) ⟨rfl, rfl, rfl, rfl, rfl, by decide +kernel⟩ ?hw ?hc
  case hw => w_witness2
  case hc =>
    exact PF.end_walk (l := PySem.Challenge.rw_poolupto_k03_crews_altered) (k := 17) (x := "script") (gn := K01.gn) (ms := K01.ms) (ex := K01.ex) (st := K01.s_law) (F := K01.F_law) (nm := "law") (by kernel_rfl) rfl (by kernel_rfl) ⟨rfl, by decide, by decide⟩ (fun w h Y => Y)
      (fun mg h K X G c => ⟨K01.tabK X G c, K01.law_def X G c⟩) (fun w mg h K X G c base hK hG tb f fd FU => K01.law_fn (K01.txt X G c tb) FU) (fun ns _ => K01.law_holds ns)
