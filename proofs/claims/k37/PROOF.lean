import PyProof.Rows.All
import Wide.All
import OpenK.AllK
import Wide.FinOn
import HandS.ForMost
import HandS.Conv
import HandS.TupAny
import HandS.TupMul
import HandS.Codes
import HandS.IsInst
import KE.DataEq
import KE.SortData
import HandS.Walk
import KE.GoesMore
import HandS.Defaults
import PySem.Challenge.RW_turnstack_k37_whole_plain_fights
import KE.KStateDown
import Lean
import HandS.Base
import HandS.Call
import HandS.Ends
import HandS.More
import HandS.Words
import HandS.WordsExc
import HandS.Head0
import HandS.Head1
import HandS.Head2
import HandS.HeadEnd
import HandS.HeadHook1
import HandS.HeadHook2
import HandS.HeadHook3
import HandS.HeadHook4
set_option Elab.async false
set_option linter.all false
set_option maxRecDepth 100000
set_option maxHeartbeats 4000000
/-! D0: data, what represents it, frames of data, judgements over data. -/
namespace Ts
open PySem L2

/-- data -/
inductive Dt where
  | non | bl (b : Bool) | int (i : Int) | str (x : Str)
  | lst (xs : List Dt) | tup (xs : List Dt)
  | card (n : Str) (c f : Int) (m : List Str)

/-- the program's fixed part -/
structure Gm where
  P : Program
  w : World
  K : PySem.W.Frag
  mg : Str → Option Value
  base : Heap

def refOf : Option Value → Addr
  | some (.ref a) => a
  | _ => 0
def Gm.C (M : Gm) : Addr := refOf (M.mg "Card")
def Gm.CF (M : Gm) : Addr := refOf (M.mg "Fight")

def cardFs (n : Str) (c f : Int) (vm vr : V) : List (Str × V) := [("name", .str n), ("cost", .int c), ("force", .int f), ("marks", vm), ("rules", vr)]

mutual
/-- v stands for d in G -/
inductive Rp (M : Gm) (G : Hp) : V → Dt → Prop
  | non : Rp M G .non .non
  | bl (b : Bool) : Rp M G (.bl b) (.bl b)
  | int (i : Int) : Rp M G (.int i) (.int i)
  | str (x : Str) : Rp M G (.str x) (.str x)
  | lst {a : Addr} {xs : List V} {ds : List Dt} : SqL M.K G a xs → RpA M G xs ds → Rp M G (.ref a) (.lst ds)
  | tup {a : Addr} {xs : List V} {ds : List Dt} : SqT M.K G a xs → RpA M G xs ds → Rp M G (.ref a) (.tup ds)
  | card {p dx : Addr} {n : Str} {c f : Int} {m : List Str} {vm vr : V} : G p = some (.ins M.C dx (cardFs n c f vm vr)) → Rp M G vm (.tup (m.map .str)) → Rp M G vr (.tup []) → Rp M G (.ref p) (.card n c f m)
inductive RpA (M : Gm) (G : Hp) : List V → List Dt → Prop
  | nil : RpA M G [] []
  | cons {v : V} {vs : List V} {d : Dt} {ds : List Dt} : Rp M G v d → RpA M G vs ds → RpA M G (v :: vs) (d :: ds)
end

section
variable {M : Gm} {G G' H H' H1 H2 H0 : Hp}
theorem same_rd {a : Addr} {u : HO} (e : Same H H') (h : Rd H a u) : Rd H' a u := by
  rcases h with h | ⟨o, h⟩
  · exact .inl (e _ _ h)
  · exact .inr ⟨o, e _ _ h⟩
theorem same_l {K : PySem.W.Frag} {a : Addr} {xs : List V} (e : Same H H') (h : SqL K H a xs) : SqL K H' a xs := by
  rcases h with h | h
  · exact .inl (same_rd e h)
  · exact .inr h
theorem same_t {K : PySem.W.Frag} {a : Addr} {xs : List V} (e : Same H H') (h : SqT K H a xs) : SqT K H' a xs := by
  rcases h with h | h
  · exact .inl (same_rd e h)
  · exact .inr h
theorem same_new {p : Addr} {o : HO} (h : H p = none) : Same H (upd H p o) := fun a u e => by
  rw [upd_ne (ne_of_none e h)]
  exact e
theorem same_mut {p : Addr} {o : HO} (e : Same H H') (h : H p = none) : Same H (upd H' p o) := fun a u ha => by
  rw [upd_ne (ne_of_none ha h)]
  exact e a u ha
mutual
theorem Rp.mono (e : Same G G') : ∀ {v : V} {d : Dt}, Rp M G v d → Rp M G' v d
  | _, _, .non => .non
  | _, _, .bl b => .bl b
  | _, _, .int i => .int i
  | _, _, .str x => .str x
  | _, _, .lst h r => .lst (same_l e h) (RpA.mono e r)
  | _, _, .tup h r => .tup (same_t e h) (RpA.mono e r)
  | _, _, .card h r r' => .card (e _ _ h) (Rp.mono e r) (Rp.mono e r')
theorem RpA.mono (e : Same G G') : ∀ {vs : List V} {ds : List Dt}, RpA M G vs ds → RpA M G' vs ds
  | _, _, .nil => .nil
  | _, _, .cons r t => .cons (Rp.mono e r) (RpA.mono e t)
end
theorem RpA.length : ∀ {vs : List V} {ds : List Dt}, RpA M G vs ds → vs.length = ds.length
  | _, _, .nil => rfl
  | _, _, .cons _ t => congrArg (· + 1) (RpA.length t)
theorem RpA.get : ∀ {vs : List V} {ds : List Dt} {i : Nat} {d : Dt}, RpA M G vs ds → ds[i]? = some d → ∃ v, vs[i]? = some v ∧ Rp M G v d
  | _, _, _, _, .nil, h => by simp at h
  | _, _, 0, _, .cons r _, h => by
    simp at h
    subst h
    exact ⟨_, rfl, r⟩
  | _, _, i + 1, d, .cons _ t, h => by
    obtain ⟨v, h1, h2⟩ := RpA.get (i := i) (d := d) t (by simpa using h)
    exact ⟨v, by simpa using h1, h2⟩
theorem RpA.get' : ∀ {vs : List V} {ds : List Dt} {i : Nat} {v : V}, RpA M G vs ds → vs[i]? = some v → ∃ d, ds[i]? = some d ∧ Rp M G v d
  | _, _, _, _, .nil, h => by simp at h
  | _, _, 0, _, .cons r _, h => by
    simp at h
    subst h
    exact ⟨_, rfl, r⟩
  | _, _, i + 1, d, .cons _ t, h => by
    obtain ⟨v, h1, h2⟩ := RpA.get' (i := i) (v := d) t (by simpa using h)
    exact ⟨v, by simpa using h1, h2⟩
theorem RpA.app : ∀ {vs ws : List V} {ds es : List Dt}, RpA M G vs ds → RpA M G ws es → RpA M G (vs ++ ws) (ds ++ es)
  | _, _, _, _, .nil, h => h
  | _, _, _, _, .cons r t, h => .cons r (RpA.app t h)
theorem RpA.one {v : V} {d : Dt} (r : Rp M G v d) : RpA M G [v] [d] := .cons r .nil
theorem RpA.take : ∀ {vs : List V} {ds : List Dt} (n : Nat), RpA M G vs ds → RpA M G (vs.take n) (ds.take n)
  | _, _, 0, _ => .nil
  | _, _, _ + 1, .nil => .nil
  | _, _, n + 1, .cons r t => .cons r (RpA.take n t)
theorem RpA.drop : ∀ {vs : List V} {ds : List Dt} (n : Nat), RpA M G vs ds → RpA M G (vs.drop n) (ds.drop n)
  | _, _, 0, r => r
  | _, _, _ + 1, .nil => .nil
  | _, _, n + 1, .cons _ t => RpA.drop n t
theorem RpA.set {v : V} {d : Dt} (r : Rp M G v d) : ∀ {vs : List V} {ds : List Dt} (n : Nat), RpA M G vs ds → RpA M G (vs.set n v) (ds.set n d)
  | _, _, _, .nil => .nil
  | _, _, 0, .cons _ t => .cons r t
  | _, _, n + 1, .cons q t => .cons q (RpA.set r n t)
theorem RpA.rep {v : V} {d : Dt} (r : Rp M G v d) : ∀ n : Nat, RpA M G (List.replicate n v) (List.replicate n d)
  | 0 => .nil
  | n + 1 => .cons r (RpA.rep r n)
theorem RpA.ints : ∀ ns : List Int, RpA M G (ns.map V.int) (ns.map Dt.int)
  | [] => .nil
  | n :: ns => .cons (.int n) (RpA.ints ns)
theorem RpA.strs : ∀ ns : List Str, RpA M G (ns.map V.str) (ns.map Dt.str)
  | [] => .nil
  | n :: ns => .cons (.str n) (RpA.strs ns)
theorem RpA.bls : ∀ ns : List Bool, RpA M G (ns.map V.bl) (ns.map Dt.bl)
  | [] => .nil
  | n :: ns => .cons (.bl n) (RpA.bls ns)
theorem RpA.inv_ints : ∀ {vs : List V} {ns : List Int}, RpA M G vs (ns.map Dt.int) → vs = ns.map V.int
  | _, [], .nil => rfl
  | _, n :: ns, .cons r t => by
    cases r
    rw [RpA.inv_ints t]; rfl
theorem RpA.inv_strs : ∀ {vs : List V} {ns : List Str}, RpA M G vs (ns.map Dt.str) → vs = ns.map V.str
  | _, [], .nil => rfl
  | _, n :: ns, .cons r t => by
    cases r
    rw [RpA.inv_strs t]; rfl
theorem RpA.inv_bls : ∀ {vs : List V} {ns : List Bool}, RpA M G vs (ns.map Dt.bl) → vs = ns.map V.bl
  | _, [], .nil => rfl
  | _, n :: ns, .cons r t => by
    cases r
    rw [RpA.inv_bls t]; rfl

/-- G: what is known and stays; H: all that is tracked. Both grow, G by new things alone -/
structure Grow (G H G' H' : Hp) : Prop where
  g : Same G G'
  h : Same H H'
  i : Same G' H'
  n : ∀ a o, H a = some o → G a = none → G' a = none
theorem Grow.refl (e : Same G H) : Grow G H G H := ⟨.refl _, .refl _, e, fun _ _ _ h => h⟩
theorem Grow.trans {G1 H1 G2 H2 : Hp} (a : Grow G H G1 H1) (b : Grow G1 H1 G2 H2) : Grow G H G2 H2 :=
  ⟨a.g.trans b.g, a.h.trans b.h, b.i, fun x o e n => b.n x o (a.h x o e) (a.n x o e n)⟩
/-- a new thing -/
theorem Grow.new {p : Addr} {o : HO} (e : Same G H) (h : H p = none) : Grow G H (upd G p o) (upd H p o) := by
  have gp : G p = none := by
    cases q : G p with
    | none => rfl
    | some u =>
      rw [e _ _ q] at h
      cases h
  refine ⟨same_new gp, same_new h, fun a u q => ?_, fun a u q n => ?_⟩
  · by_cases z : a = p
    · subst z
      rw [upd_same] at q
      rw [upd_same]
      exact q
    · rw [upd_ne z] at q
      rw [upd_ne z]
      exact e _ _ q
  · rw [upd_ne (ne_of_none q h)]
    exact n
/-- a new thing that is not yet known -/
theorem Grow.newH {p : Addr} {o : HO} (e : Same G H) (h : H p = none) : Grow G H G (upd H p o) := ⟨.refl _, same_new h, fun a u q => by
  rw [upd_ne (ne_of_none (e _ _ q) h)]
  exact e _ _ q, fun _ _ _ n => n⟩
theorem free_of (e : Same G H) {p : Addr} (h : H p = none) : G p = none := by
  cases q : G p with
  | none => rfl
  | some u =>
    rw [e _ _ q] at h
    cases h
end

/-! ### slots -/
structure FigD where
  known : List Dt
  keepers : List Dt
  stands : List Dt
  past : List Dt
  log : List Dt
/-- where a fight lies, the values that it holds -/
structure FigV where
  self : Addr
  dx : Addr
  st : Addr
  pa : Addr
  vk : V
  vo : V
  vl : V
  xs : List V
  ys : List V
abbrev FigV.ft (W : FigV) : List Addr := [W.self, W.st, W.pa]

/-- what stands in a slot: nothing told, data, a list of one's own that still changes, a fight -/
inductive Sl where
  | no
  | dat (d : Dt)
  | own (p : Addr) (ds : List Dt)
  | fig (W : FigV) (F : FigD)

def foot : Sl → List Addr
  | .no => []
  | .dat _ => []
  | .own p _ => [p]
  | .fig W _ => W.ft

def figFs (vk vo : V) (st pa : Addr) (vl : V) : List (Str × V) := [("known", vk), ("keepers", vo), ("stands", .ref st), ("past", .ref pa), ("last_log", vl)]

structure FigOk (M : Gm) (G H : Hp) (W : FigV) (F : FigD) : Prop where
  ins : H W.self = some (.ins M.CF W.dx (figFs W.vk W.vo W.st W.pa W.vl))
  st : H W.st = some (.lst W.xs)
  pa : H W.pa = some (.lst W.ys)
  rk : Rp M G W.vk (.lst F.known)
  ro : Rp M G W.vo (.lst F.keepers)
  rl : Rp M G W.vl (.lst F.log)
  rs : RpA M G W.xs F.stands
  rp : RpA M G W.ys F.past

inductive SlOk (M : Gm) (G H : Hp) : Option V → Sl → Prop
  | no {o : Option V} : SlOk M G H o .no
  | dat {v : V} {d : Dt} : Rp M G v d → SlOk M G H (some v) (.dat d)
  | own {p : Addr} {xs : List V} {ds : List Dt} : H p = some (.lst xs) → RpA M G xs ds → SlOk M G H (some (.ref p)) (.own p ds)
  | fig {W : FigV} {F : FigD} : FigOk M G H W F → SlOk M G H (some (.ref W.self)) (.fig W F)

def feet (r : List Sl) : List Addr := r.flatMap foot

inductive SlA (M : Gm) (G H : Hp) : L2.St → List Sl → Prop
  | nil : SlA M G H [] []
  | cons {o : Option V} {s : Sl} {os : L2.St} {r : List Sl} : SlOk M G H o s → SlA M G H os r → SlA M G H (o :: os) (s :: r)

structure Fr (M : Gm) (H0 G0 G H : Hp) (sg : L2.St) (r : List Sl) : Prop where
  sl : SlA M G H sg r
  nd : (feet r).Nodup
  fr : ∀ p ∈ feet r, H0 p = none ∧ G p = none
  e0 : Same H0 H
  g0 : Same G0 G
  gh : Same G H
  nw : ∀ a o, H0 a = some o → G0 a = none → G a = none

section
variable {M : Gm} {G G' H H' H0 G0 : Hp} {sg : L2.St} {r : List Sl}
theorem SlOk.grow (g : Grow G H G' H') : ∀ {o : Option V} {s : Sl}, SlOk M G H o s → SlOk M G' H' o s
  | _, _, .no => .no
  | _, _, .dat q => .dat (q.mono g.g)
  | _, _, .own h q => .own (g.h _ _ h) (q.mono g.g)
  | _, _, .fig q => .fig ⟨g.h _ _ q.ins, g.h _ _ q.st, g.h _ _ q.pa, q.rk.mono g.g, q.ro.mono g.g, q.rl.mono g.g, q.rs.mono g.g, q.rp.mono g.g⟩
theorem SlA.grow (g : Grow G H G' H') : ∀ {sg : L2.St} {r : List Sl}, SlA M G H sg r → SlA M G' H' sg r
  | _, _, .nil => .nil
  | _, _, .cons a b => .cons (a.grow g) (SlA.grow g b)
theorem SlOk.there : ∀ {o : Option V} {s : Sl}, SlOk M G H o s → ∀ p ∈ foot s, ∃ u, H p = some u
  | _, _, .no => fun _ h => nomatch h
  | _, _, .dat q => fun _ h => nomatch h
  | _, _, .own h q => fun p hp => by
    have e : p = _ := List.mem_singleton.mp hp
    subst e
    exact ⟨_, h⟩
  | _, _, .fig q => fun p hp => by
    simp only [foot, List.mem_cons, List.not_mem_nil, or_false] at hp
    rcases hp with rfl | rfl | rfl
    · exact ⟨_, q.ins⟩
    · exact ⟨_, q.st⟩
    · exact ⟨_, q.pa⟩
theorem SlA.there : ∀ {sg : L2.St} {r : List Sl}, SlA M G H sg r → ∀ p ∈ feet r, ∃ u, H p = some u
  | _, _, .nil => fun _ h => nomatch h
  | _, _, .cons a b => fun p hp => by
    unfold feet at hp
    rw [List.flatMap_cons, List.mem_append] at hp
    rcases hp with hp | hp
    · exact a.there p hp
    · exact SlA.there b p hp
theorem Fr.grow (F : Fr M H0 G0 G H sg r) (g : Grow G H G' H') : Fr M H0 G0 G' H' sg r :=
  ⟨F.sl.grow g, F.nd, fun p hp => ⟨(F.fr p hp).1, let ⟨u, e⟩ := F.sl.there p hp; g.n p u e (F.fr p hp).2⟩, F.e0.trans g.h, F.g0.trans g.g, g.i, fun a o e n => g.n a o (F.e0 _ _ e) (F.nw a o e n)⟩
theorem SlA.len : ∀ {sg : L2.St} {r : List Sl}, SlA M G H sg r → sg.length = r.length
  | _, _, .nil => rfl
  | _, _, .cons _ b => congrArg (· + 1) (SlA.len b)
theorem SlA.get : ∀ {sg : L2.St} {r : List Sl} {i : Nat} {s : Sl}, SlA M G H sg r → r[i]? = some s → ∃ o, sg[i]? = some o ∧ SlOk M G H o s
  | _, _, _, _, .nil, h => by simp at h
  | _, _, 0, _, .cons a _, h => by
    simp at h
    subst h
    exact ⟨_, rfl, a⟩
  | _, _, i + 1, s, .cons _ b, h => by
    obtain ⟨o, h1, h2⟩ := SlA.get (i := i) (s := s) b (by simpa using h)
    exact ⟨o, by simpa using h1, h2⟩
theorem SlA.set {o : Option V} {s : Sl} (a : SlOk M G H o s) : ∀ {sg : L2.St} {r : List Sl} (i : Nat), SlA M G H sg r → SlA M G H (sg.set i o) (r.set i s)
  | _, _, _, .nil => .nil
  | _, _, 0, .cons _ b => .cons a b
  | _, _, i + 1, .cons q b => .cons q (SlA.set a i b)
theorem Fr.dat (F : Fr M H0 G0 G H sg r) {i : Nat} {d : Dt} (h : r[i]? = some (.dat d)) : ∃ v, sg[i]? = some (some v) ∧ Rp M G v d := by
  obtain ⟨o, e, q⟩ := F.sl.get h
  cases q with
  | dat q => exact ⟨_, e, q⟩
/-- where one slot is set, the feet are among the old ones and the new one's -/
theorem feet_set : ∀ (r : List Sl) (i : Nat) (s : Sl), (feet (r.set i s)).Sublist (feet (r.take i) ++ (foot s ++ feet (r.drop (i + 1))))
  | [], i, s => by
    have : ([] : List Sl).set i s = [] := by cases i <;> rfl
    rw [this]
    exact List.nil_sublist _
  | a :: r, 0, s => by
    show (feet (s :: r)).Sublist (feet [] ++ (foot s ++ feet r))
    unfold feet
    rw [List.flatMap_cons]
    exact List.Sublist.refl _
  | a :: r, i + 1, s => by
    show (feet (a :: r.set i s)).Sublist (feet (a :: r.take i) ++ (foot s ++ feet (r.drop (i + 1))))
    unfold feet
    rw [List.flatMap_cons, List.flatMap_cons, List.append_assoc]
    exact List.Sublist.append (List.Sublist.refl _) (feet_set r i s)
theorem feet_sub : ∀ {a b : List Sl}, a.Sublist b → (feet a).Sublist (feet b)
  | _, _, .slnil => List.Sublist.refl _
  | _, _, .cons x h => by
    have e := feet_sub h
    unfold feet at e ⊢
    rw [List.flatMap_cons]
    exact e.trans (List.sublist_append_right _ _)
  | _, _, .cons₂ x h => by
    have e := feet_sub h
    unfold feet at e ⊢
    rw [List.flatMap_cons, List.flatMap_cons]
    exact List.Sublist.append (List.Sublist.refl _) e
theorem feet_split (r : List Sl) (i : Nat) : (feet (r.take i) ++ feet (r.drop (i + 1))).Sublist (feet r) := by
  have e : feet r = feet (r.take i) ++ feet (r.drop i) := by
    unfold feet
    rw [← List.flatMap_append, List.take_append_drop]
  rw [e]
  refine List.Sublist.append (List.Sublist.refl _) ?_
  have h : (r.drop (i + 1)).Sublist (r.drop i) := by
    rw [← List.drop_drop]
    exact List.drop_sublist _ _
  exact feet_sub h
theorem feet_dat (r : List Sl) (i : Nat) {s : Sl} (h : foot s = []) : (feet (r.set i s)).Sublist (feet r) := by
  have e := feet_set r i s
  rw [h, List.nil_append] at e
  exact e.trans (feet_split r i)
theorem feet_add (r : List Sl) (i : Nat) (s : Sl) {p : Addr} (h : p ∈ feet (r.set i s)) : p ∈ foot s ∨ p ∈ feet r := by
  have e := (feet_set r i s).subset h
  rw [List.mem_append, List.mem_append] at e
  rcases e with e | e | e
  · exact .inr ((feet_split r i).subset (List.mem_append_left _ e))
  · exact .inl e
  · exact .inr ((feet_split r i).subset (List.mem_append_right _ e))
theorem nd_add {A B : List Addr} {p : Addr} (h : (A ++ B).Nodup) (hp : p ∉ A ++ B) : (A ++ ([p] ++ B)).Nodup := by
  rw [List.nodup_append] at h ⊢
  obtain ⟨h1, h2, h3⟩ := h
  rw [List.mem_append] at hp
  refine ⟨h1, ?_, ?_⟩
  · rw [List.nodup_append]
    refine ⟨by simp, h2, ?_⟩
    intro a ha b hb e
    have e1 : a = p := List.mem_singleton.mp ha
    subst e1
    subst e
    exact hp (.inr hb)
  · intro a ha b hb e
    subst e
    rcases List.mem_append.mp hb with q | q
    · have e1 : a = p := List.mem_singleton.mp q
      subst e1
      exact hp (.inl ha)
    · exact h3 a ha a q rfl
theorem feet_nd (r : List Sl) (i : Nat) {p : Addr} {ds : List Dt} (h : (feet r).Nodup) (hp : p ∉ feet r) : (feet (r.set i (.own p ds))).Nodup := by
  refine (feet_set r i (.own p ds)).nodup ?_
  exact nd_add ((feet_split r i).nodup h) (fun q => hp ((feet_split r i).subset q))
theorem Fr.setNo (F : Fr M H0 G0 G H sg r) (i : Nat) {o : Option V} {s : Sl} (hs : SlOk M G H o s) (hf : foot s = []) : Fr M H0 G0 G H (sg.set i o) (r.set i s) :=
  ⟨F.sl.set hs i, (feet_dat r i hf).nodup F.nd, fun p hp => F.fr p ((feet_dat r i hf).subset hp), F.e0, F.g0, F.gh, F.nw⟩
theorem Fr.setD (F : Fr M H0 G0 G H sg r) (i : Nat) {v : V} {d : Dt} (hs : Rp M G v d) : Fr M H0 G0 G H (sg.set i (some v)) (r.set i (.dat d)) :=
  F.setNo i (.dat hs) rfl
/-- a slot is forgotten -/
theorem Fr.forget (F : Fr M H0 G0 G H sg r) (i : Nat) {o : Option V} : Fr M H0 G0 G H (sg.set i o) (r.set i .no) := F.setNo i .no rfl
/-- a new list of one's own comes to a slot -/
theorem Fr.setOwn (F : Fr M H0 G0 G H sg r) (i : Nat) {p : Addr} {xs : List V} {ds : List Dt} (hp : H p = none) (hr : RpA M G xs ds) :
    Fr M H0 G0 G (upd H p (.lst xs)) (sg.set i (some (.ref p))) (r.set i (.own p ds)) := by
  have g : Grow G H G (upd H p (.lst xs)) := Grow.newH F.gh hp
  have F' := F.grow g
  have np : p ∉ feet r := fun q => by
    obtain ⟨u, e⟩ := F.sl.there p q
    rw [hp] at e
    cases e
  have g0 : G p = none := free_of F.gh hp
  have h0 : H0 p = none := free_of F.e0 hp
  refine ⟨F'.sl.set (.own upd_same hr) i, feet_nd r i F.nd np, fun q hq => ?_, F'.e0, F'.g0, F'.gh, F'.nw⟩
  rcases feet_add r i _ hq with z | z
  · have e1 : q = p := List.mem_singleton.mp z
    subst e1
    exact ⟨h0, g0⟩
  · exact F.fr q z
end

/-! ### who reads: the fixed part of a body -/
structure Xok (M : Gm) (N : List Str) (sc : Scope) (k : Nat) (X : Cx) : Prop where
  gm : M = ⟨X.prog, X.w, X.K, X.mg, X.base⟩
  nm : X.N = N
  scp : X.env.scope = sc
  nd : N.Nodup
  room : Room k X.A
  calm : X.calm = true
  pass : PassesOwn (model X.prog X.w) X.A X.env X.xe
  cell : sc.names.lookup (".0" : Str) = none → ∀ x, sc.names.lookup x = some .cell → X.fn x = true

/-! ### the weakest readings -/
def wE (X : Cx) (e : Expr) : TE := fun sg H Q => ∃ t, PE X e t ∧ t sg H Q
def wT (X : Cx) (e : Expr) : TT := fun sg H Q => ∃ t, PT X e t ∧ t sg H Q
def wA (X : Cx) (es : List Expr) : TA := fun sg H Q => ∃ t, PA X es t ∧ t sg H Q
def wS (X : Cx) (st : Stmt) : TS := fun D sg H => ∃ t, PS X st t ∧ t D sg H
def wSs (X : Cx) (sts : List Stmt) : TS := fun D sg H => ∃ t, PSs X sts t ∧ t D sg H
theorem pe_w {X : Cx} {e : Expr} : PE X e (wE X e) := ⟨fun pins s sg H Q I ⟨_, p, h⟩ => p.run pins s sg H Q I h⟩
theorem pt_w {X : Cx} {e : Expr} : PT X e (wT X e) := ⟨fun pins s sg H Q I ⟨_, p, h⟩ => p.run pins s sg H Q I h⟩
theorem pa_w {X : Cx} {es : List Expr} : PA X es (wA X es) := ⟨fun pos pins s sg H Q I ⟨_, p, h⟩ => p.run pos pins s sg H Q I h⟩
theorem ps_w {X : Cx} {st : Stmt} : PS X st (wS X st) := ⟨fun pins s sg H D I ⟨_, p, h⟩ => p.run pins s sg H D I h⟩
theorem pss_w {X : Cx} {sts : List Stmt} : PSs X sts (wSs X sts) := ⟨fun pins s sg H D I ⟨_, p, h⟩ => p.run pins s sg H D I h⟩

/-! ### judgements over data -/
/-- e gives the data d -/
def Ev (M : Gm) (N : List Str) (sc : Scope) (k : Nat) (e : Expr) (r : List Sl) (d : Dt) : Prop :=
  ∀ X, Xok M N sc k X → ∀ H0 G0 G H sg, Fr M H0 G0 G H sg r → ∀ Q : VK, (∀ v G' H', Grow G H G' H' → Rp M G' v d → Q v H') → wE X e sg H Q
/-- the test e gives b -/
def EvT (M : Gm) (N : List Str) (sc : Scope) (k : Nat) (e : Expr) (r : List Sl) (b : Bool) : Prop :=
  ∀ X, Xok M N sc k X → ∀ H0 G0 G H sg, Fr M H0 G0 G H sg r → ∀ Q : Bool → Hp → Prop, (∀ G' H', Grow G H G' H' → Q b H') → wT X e sg H Q
def EvA (M : Gm) (N : List Str) (sc : Scope) (k : Nat) (es : List Expr) (r : List Sl) (ds : List Dt) : Prop :=
  ∀ X, Xok M N sc k X → ∀ H0 G0 G H sg, Fr M H0 G0 G H sg r → ∀ Q : List V → Hp → Prop, (∀ vs G' H', Grow G H G' H' → RpA M G' vs ds → Q vs H') → wA X es sg H Q
/-- e gives a list that still changes, as it stands -/
def EvM (M : Gm) (N : List Str) (sc : Scope) (k : Nat) (e : Expr) (r : List Sl) (ds : List Dt) : Prop :=
  ∀ X, Xok M N sc k X → ∀ H0 G0 G H sg, Fr M H0 G0 G H sg r → ∀ Q : VK, (∀ p xs G' H', Grow G H G' H' → H' p = some (.lst xs) → RpA M G' xs ds → Q (.ref p) H') → wE X e sg H Q
/-- e gives a new list, not yet known -/
def EvN (M : Gm) (N : List Str) (sc : Scope) (k : Nat) (e : Expr) (r : List Sl) (ds : List Dt) : Prop :=
  ∀ X, Xok M N sc k X → ∀ H0 G0 G H sg, Fr M H0 G0 G H sg r → ∀ Q : VK, (∀ p xs G' H', Grow G H G' H' → H' p = none → RpA M G' xs ds → Q (.ref p) (upd H' p (.lst xs))) → wE X e sg H Q

section
variable {M : Gm} {N : List Str} {sc : Scope} {k : Nat} {e : Expr} {es : List Expr} {r : List Sl} {d : Dt} {ds : List Dt} {pos : Pos}
theorem Ev.to {d' : Dt} (h : Ev M N sc k e r d) (q : d = d') : Ev M N sc k e r d' := q ▸ h
theorem EvT.to {b b' : Bool} (h : EvT M N sc k e r b) (q : b = b') : EvT M N sc k e r b' := q ▸ h
theorem EvN.ev (h : EvN M N sc k e r ds) : Ev M N sc k e r (.lst ds) := fun X hX H0 G0 G H sg F Q q =>
  h X hX H0 G0 G H sg F Q fun p xs G' H' g hp hr => by
    have n := Grow.new (o := .lst xs) g.i hp
    exact q _ _ _ (g.trans n) (.lst (.inl (.inl upd_same)) (hr.mono n.g))
theorem ev_name {i : Nat} {x : Str} (h : r[i]? = some (.dat d)) (hN : N[i]? = some x) (hv : Vis sc x) (hd : (x == ("__debug__" : Str)) = false) (hcd : (x == ("__classdict__" : Str)) = false) : Ev M N sc k (.Name x pos) r d := fun X hX H0 G0 G H sg F Q q => by
  obtain ⟨v, e1, r1⟩ := F.dat h
  exact ⟨tVar i, pe_var (by rw [hX.nm]; exact hN) (by rw [hX.scp]; exact hv) hd hcd, v, e1, q v G H (Grow.refl F.gh) r1⟩
theorem ev_int {i : Int} {j : Nat} : Ev M N sc k (.Constant (.int i) j pos) r (.int i) := fun X hX H0 G0 G H sg F Q q => ⟨_, pe_int, q _ G H (Grow.refl F.gh) (.int i)⟩
theorem ev_str {i : Str} {j : Nat} : Ev M N sc k (.Constant (.str i) j pos) r (.str i) := fun X hX H0 G0 G H sg F Q q => ⟨_, pe_str, q _ G H (Grow.refl F.gh) (.str i)⟩
theorem ev_bl {i : Bool} {j : Nat} : Ev M N sc k (.Constant (.bool i) j pos) r (.bl i) := fun X hX H0 G0 G H sg F Q q => ⟨_, pe_bl, q _ G H (Grow.refl F.gh) (.bl i)⟩
theorem ev_non {j : Nat} : Ev M N sc k (.Constant .none j pos) r .non := fun X hX H0 G0 G H sg F Q q => ⟨_, pe_non, q _ G H (Grow.refl F.gh) .non⟩
theorem ea_nil : EvA M N sc k [] r [] := fun X hX H0 G0 G H sg F Q q => ⟨_, pa_nil, q [] G H (Grow.refl F.gh) .nil⟩
theorem ea_cons (ha : Ev M N sc k e r d) (hr : EvA M N sc k es r ds) (hs : ∀ env, starEach (e :: es) env = (false, eval e env) :: starEach es env) : EvA M N sc k (e :: es) r (d :: ds) := fun X hX H0 G0 G H sg F Q q =>
  ⟨_, pa_cons pe_w pa_w (hs _), ha X hX H0 G0 G H sg F _ fun v G1 H1 g1 r1 => hr X hX H0 G0 G1 H1 sg (F.grow g1) _ fun vs G2 H2 g2 r2 => q _ _ _ (g1.trans g2) (.cons (r1.mono g2.g) r2)⟩
theorem ev_tup {x1} (h : EvA M N sc k es r ds) (hl : ds.length ≤ sizeLine) : Ev M N sc k (.Tuple es x1 pos) r (.tup ds) := fun X hX H0 G0 G H sg F Q q =>
  ⟨_, pe_tup pa_w, h X hX H0 G0 G H sg F _ fun vs G1 H1 g1 r1 => ⟨by rw [r1.length]; exact hl, fun p hp => by
    have n := Grow.new (o := .tup vs) g1.i hp
    exact q _ _ _ (g1.trans n) (.tup (.inl (.inl upd_same)) (r1.mono n.g))⟩⟩
theorem en_lst (h : EvA M N sc k es r ds) (hl : ds.length ≤ sizeLine) : EvN M N sc k (.List es pos) r ds := fun X hX H0 G0 G H sg F Q q =>
  ⟨_, pe_lst pa_w, h X hX H0 G0 G H sg F _ fun vs G1 H1 g1 r1 => ⟨by rw [r1.length]; exact hl, fun p hp => q p vs G1 H1 g1 hp r1⟩⟩
theorem ev_lst (h : EvA M N sc k es r ds) (hl : ds.length ≤ sizeLine) : Ev M N sc k (.List es pos) r (.lst ds) := (en_lst h hl).ev
end
end Ts

set_option Elab.async false
set_option linter.all false
set_option maxRecDepth 100000
set_option maxHeartbeats 4000000
/-! D1: operators over data. -/
namespace Ts
open PySem L2

/-! ### data as the library's data -/
mutual
def Dt.py : Dt → PyData
  | .non => .none
  | .bl b => .bool b
  | .int i => .int i
  | .str x => .str x
  | .lst xs => .list (pys xs)
  | .tup xs => .tuple (pys xs)
  | .card _ _ _ _ => .none
def pys : List Dt → List PyData
  | [] => []
  | d :: ds => d.py :: pys ds
end
mutual
/-- no card within -/
def Dt.pure : Dt → Bool
  | .lst xs => pures xs
  | .tup xs => pures xs
  | .card _ _ _ _ => false
  | _ => true
def pures : List Dt → Bool
  | [] => true
  | d :: ds => d.pure && pures ds
end
mutual
/-- how deep -/
def Dt.dep : Dt → Nat
  | .lst xs => deps xs + 1
  | .tup xs => deps xs + 1
  | _ => 0
def deps : List Dt → Nat
  | [] => 0
  | d :: ds => max d.dep (deps ds)
end
mutual
theorem py_plain : ∀ d : Dt, d.py.plain = true
  | .non => rfl
  | .bl _ => rfl
  | .int _ => rfl
  | .str _ => rfl
  | .lst xs => by
    show PyData.plainAll (pys xs) = true
    exact pys_plain xs
  | .tup xs => by
    show PyData.plainAll (pys xs) = true
    exact pys_plain xs
  | .card _ _ _ _ => rfl
theorem pys_plain : ∀ ds : List Dt, PyData.plainAll (pys ds) = true
  | [] => rfl
  | d :: ds => by
    show (d.py.plain && PyData.plainAll (pys ds)) = true
    rw [py_plain d, pys_plain ds]; rfl
end
mutual
theorem py_dep : ∀ d : Dt, d.py.depth ≤ d.dep
  | .non => Nat.zero_le _
  | .bl _ => Nat.zero_le _
  | .int _ => Nat.zero_le _
  | .str _ => Nat.zero_le _
  | .lst xs => by
    have h := pys_dep xs
    simp only [Dt.py, PyData.depth, Dt.dep]
    omega
  | .tup xs => by
    have h := pys_dep xs
    simp only [Dt.py, PyData.depth, Dt.dep]
    omega
  | .card _ _ _ _ => Nat.zero_le _
theorem pys_dep : ∀ ds : List Dt, PyData.depthAll (pys ds) ≤ deps ds
  | [] => Nat.zero_le _
  | d :: ds => by
    have h1 := py_dep d
    have h2 := pys_dep ds
    simp only [pys, PyData.depthAll, deps]
    omega
end
section
variable {M : Gm} {G : Hp}
mutual
theorem Rp.dp : ∀ {v : V} {d : Dt}, Rp M G v d → d.pure = true → Dp M.K G v d.py
  | _, _, .non, _ => .non
  | _, _, .bl b, _ => .bl b
  | _, _, .int i, _ => .int i
  | _, _, .str x, _ => .str x
  | _, _, .lst h r, p => .lst h (RpA.dp r p)
  | _, _, .tup h r, p => .tup h (RpA.dp r p)
theorem RpA.dp : ∀ {vs : List V} {ds : List Dt}, RpA M G vs ds → pures ds = true → DpAll M.K G vs (pys ds)
  | _, _, .nil, _ => .nil
  | _, _, .cons r t, p => by
    have q : (_ && _) = true := p
    rw [Bool.and_eq_true] at q
    exact .cons (Rp.dp r q.1) (RpA.dp t q.2)
end
end
/-- == of data -/
def eqD (a b : Dt) : Bool := PyData.eqv a.py b.py
section
variable {X : Cx}
def rEqP (K : PySem.W.Frag) (neg : Bool) : R2 := fun x y H Q => ∃ d e, Dp K H x d ∧ Dp K H y e ∧ d.plain = true ∧ e.plain = true ∧ d.depth ≤ 64 ∧ Q (.bl (if neg then !PyData.eqv d e else PyData.eqv d e)) H
theorem op_eqP (hu : X.A.units + 64 < cLine) : OpR X (compareOp .Eq) (rEqP X.K false) := by
  intro pins s sg H x y v u Q I rx ry h
  obtain ⟨d, e, hd, he, p1, p2, l, q⟩ := h
  obtain ⟨as, r1⟩ := Dp.reads I d x v hd rx
  obtain ⟨bs, r2⟩ := Dp.reads I e y u he ry
  refine SeqAt.eq_plain r1 r2 p1 p2 ?_ ⟨.bl (PyData.eqv d e), H, I, rfl, q⟩
  have h2 : min d.depth e.depth ≤ d.depth := Nat.min_le_left _ _
  omega
theorem op_neP (hu : X.A.units + 64 < cLine) : OpR X (compareOp .NotEq) (rEqP X.K true) := by
  intro pins s sg H x y v u Q I rx ry h
  obtain ⟨d, e, hd, he, p1, p2, l, q⟩ := h
  obtain ⟨as, r1⟩ := Dp.reads I d x v hd rx
  obtain ⟨bs, r2⟩ := Dp.reads I e y u he ry
  refine SeqAt.ne_plain r1 r2 p1 p2 ?_ ⟨.bl (!PyData.eqv d e), H, I, rfl, q⟩
  have h2 : min d.depth e.depth ≤ d.depth := Nat.min_le_left _ _
  omega
end

/-! ### what an operator of data asks -/
/-- r of x, y as of data -/
def DR (M : Gm) (r : R2) (d1 d2 d : Dt) : Prop := ∀ x y G H, Same G H → Rp M G x d1 → Rp M G y d2 → ∀ Q : VK, (∀ v G' H', Grow G H G' H' → Rp M G' v d → Q v H') → r x y H Q

section
variable {M : Gm} {N : List Str} {sc : Scope} {k : Nat} {e a b : Expr} {es : List Expr} {r : List Sl} {d d1 d2 : Dt} {ds : List Dt} {pos : Pos}
theorem two {X : Cx} {R : R2} (hX : Xok M N sc k X) (ha : Ev M N sc k a r d1) (hb : Ev M N sc k b r d2) {H0 G0 G H : Hp} {sg : L2.St} (F : Fr M H0 G0 G H sg r) {Q : VK} (hr : DR M R d1 d2 d) (q : ∀ v G' H', Grow G H G' H' → Rp M G' v d → Q v H') :
    tOp R (wE X a) (wE X b) sg H Q :=
  ha X hX H0 G0 G H sg F _ fun x G1 H1 g1 r1 => hb X hX H0 G0 G1 H1 sg (F.grow g1) _ fun y G2 H2 g2 r2 => hr x y G2 H2 g2.i (r1.mono g2.g) r2 Q fun v G3 H3 g3 r3 => q v G3 H3 ((g1.trans g2).trans g3) r3

inductive BinD : Operator → Dt → Dt → Dt → Prop
  | add (i j : Int) : BinD .Add (.int i) (.int j) (.int (i + j))
  | adds (x y : Str) : x.length + y.length ≤ sizeLine → BinD .Add (.str x) (.str y) (.str (x ++ y))
  | addt (xs ys : List Dt) : xs.length + ys.length ≤ sizeLine → BinD .Add (.tup xs) (.tup ys) (.tup (xs ++ ys))
  | sub (i j : Int) : BinD .Sub (.int i) (.int j) (.int (i - j))
  | mul (i j : Int) : CMul i j → BinD .Mult (.int i) (.int j) (.int (i * j))
  | rep (x : Dt) (n : Int) : 2 ≤ n → n ≤ 1000 → BinD .Mult (.tup [x]) (.int n) (.tup (List.replicate n.toNat x))
  | mod (i j : Int) : 0 < j → BinD .Mod (.int i) (.int j) (.int (i % j))
  | fdiv (i j : Int) : CDiv i j → BinD .FloorDiv (.int i) (.int j) (.int (i / j))

theorem dr_i {C : Int → Int → Prop} {g : Int → Int → Int} {i j : Int} (h : C i j) : DR M (rI C fun i j => .int (g i j)) (.int i) (.int j) (.int (g i j)) := fun x y G H e r1 r2 Q q => by
  cases r1
  cases r2
  exact ⟨i, j, rfl, rfl, h, q _ G H (Grow.refl e) (.int _)⟩
theorem dr_i0 {g : Int → Int → Int} {i j : Int} : DR M (rI0 fun i j => .int (g i j)) (.int i) (.int j) (.int (g i j)) := fun x y G H e r1 r2 Q q => by
  cases r1
  cases r2
  exact ⟨i, j, rfl, rfl, q _ G H (Grow.refl e) (.int _)⟩
theorem dr_b0 {g : Int → Int → Bool} {i j : Int} : DR M (rI0 fun i j => .bl (g i j)) (.int i) (.int j) (.bl (g i j)) := fun x y G H e r1 r2 Q q => by
  cases r1
  cases r2
  exact ⟨i, j, rfl, rfl, q _ G H (Grow.refl e) (.bl _)⟩
theorem dr_addt {xs ys : List Dt} (hz : xs.length + ys.length ≤ sizeLine) : DR M (rCatA M.K) (.tup xs) (.tup ys) (.tup (xs ++ ys)) := fun x y G H e r1 r2 Q q => by
  cases r1 with
  | tup h1 a1 =>
    cases r2 with
    | tup h2 a2 =>
      refine ⟨_, _, _, _, rfl, rfl, same_t e h1, same_t e h2, by rw [a1.length, a2.length]; exact hz, fun z => ?_, fun _ z => ?_, fun _ _ p hp => ?_⟩
      · subst z
        cases a1
        exact q _ G H (Grow.refl e) (.tup h2 a2)
      · subst z
        cases a2
        rw [List.append_nil] at q
        exact q _ G H (Grow.refl e) (.tup h1 a1)
      · exact q _ _ _ (Grow.new e hp) (.tup (.inl (.inl upd_same)) ((a1.app a2).mono (same_new (free_of e hp))))
theorem flat_one {α : Type} (x : α) : ∀ n : Nat, (List.replicate n [x]).flatten = List.replicate n x
  | 0 => rfl
  | n + 1 => by rw [List.replicate_succ, List.flatten_cons, flat_one x n]; rfl
theorem dr_rep {x : Dt} {n : Int} (h1 : 2 ≤ n) (h2 : n ≤ 1000) : DR M (rRepT M.K) (.tup [x]) (.int n) (.tup (List.replicate n.toNat x)) := fun v w G H e r1 r2 Q q => by
  cases r1 with
  | tup t1 a1 =>
    cases r2
    cases a1 with
    | cons rx rn =>
      cases rn
      refine ⟨_, n, _, rfl, rfl, same_t e t1, by simp, h1, h2, by simp, fun p hp => ?_⟩
      rw [flat_one]
      exact q _ _ _ (Grow.new e hp) (.tup (.inl (.inl upd_same)) ((RpA.rep rx _).mono (same_new (free_of e hp))))
theorem dr_adds {x y : Str} (hz : x.length + y.length ≤ sizeLine) : DR M (fun a b H Q => ∃ i j, a = .str i ∧ b = .str j ∧ i.length + j.length ≤ sizeLine ∧ Q (.str (i ++ j)) H) (.str x) (.str y) (.str (x ++ y)) := fun v w G H e r1 r2 Q q => by
  cases r1
  cases r2
  exact ⟨_, _, rfl, rfl, hz, q _ G H (Grow.refl e) (.str _)⟩
theorem ev_bin {op : Operator} (ha : Ev M N sc k a r d1) (hb : Ev M N sc k b r d2) (h : BinD op d1 d2 d) : Ev M N sc k (.BinOp a op b pos) r d := fun X hX H0 G0 G H sg F Q q => by
  have hm := hX.gm
  cases h with
  | add i j => exact ⟨_, pe_op op_add pe_w pe_w, two hX ha hb F dr_i0 q⟩
  | adds x y hz => exact ⟨_, pe_op op_add_str pe_w pe_w, two hX ha hb F (dr_adds hz) q⟩
  | addt xs ys hz =>
    subst hm
    exact ⟨_, pe_op op_catA pe_w pe_w, two hX ha hb F (dr_addt hz) q⟩
  | sub i j => exact ⟨_, pe_op op_sub pe_w pe_w, two hX ha hb F dr_i0 q⟩
  | mul i j hc => exact ⟨_, pe_op op_mul pe_w pe_w, two hX ha hb F (dr_i hc) q⟩
  | rep x n h1 h2 =>
    subst hm
    exact ⟨_, pe_op op_repT pe_w pe_w, two hX ha hb F (dr_rep h1 h2) q⟩
  | mod i j hc => exact ⟨_, pe_op op_mod pe_w pe_w, two hX ha hb F (dr_i hc) q⟩
  | fdiv i j hc => exact ⟨_, pe_op op_fdiv pe_w pe_w, two hX ha hb F (dr_i hc) q⟩
theorem ev_neg {i : Int} (ha : Ev M N sc k a r (.int i)) : Ev M N sc k (.UnaryOp .USub a pos) r (.int (-i)) := fun X hX H0 G0 G H sg F Q q =>
  ⟨_, pe_un un_neg pe_w, ha X hX H0 G0 G H sg F _ fun x G1 H1 g1 r1 => by
    cases r1
    exact ⟨i, rfl, q _ _ _ g1 (.int _)⟩⟩
theorem ev_not {i : Bool} (ha : EvT M N sc k a r i) (hb : Ev M N sc k a r (.bl i)) : Ev M N sc k (.UnaryOp .Not a pos) r (.bl (!i)) := fun X hX H0 G0 G H sg F Q q =>
  ⟨_, pe_not pe_w, hb X hX H0 G0 G H sg F _ fun x G1 H1 g1 r1 => by
    cases r1
    exact ⟨i, rfl, q _ _ _ g1 (.bl _)⟩⟩
theorem ev_notV {i : Bool} (hb : Ev M N sc k a r (.bl i)) : Ev M N sc k (.UnaryOp .Not a pos) r (.bl (!i)) := fun X hX H0 G0 G H sg F Q q =>
  ⟨_, pe_not pe_w, hb X hX H0 G0 G H sg F _ fun x G1 H1 g1 r1 => by
    cases r1
    exact ⟨i, rfl, q _ _ _ g1 (.bl _)⟩⟩

/-! ### comparisons -/
/-- flat data -/
def Dt.flat : Dt → Bool
  | .int _ => true
  | .str _ => true
  | .bl _ => true
  | .non => true
  | _ => false
def Dt.v : Dt → V
  | .int i => .int i
  | .str x => .str x
  | .bl b => .bl b
  | _ => .non
def Dt.isNon : Dt → Bool
  | .non => true
  | _ => false
inductive CmpD : CmpOp → Dt → Dt → Bool → Prop
  | lt (i j : Int) : CmpD .Lt (.int i) (.int j) (decide (i < j))
  | le (i j : Int) : CmpD .LtE (.int i) (.int j) (decide (i ≤ j))
  | gt (i j : Int) : CmpD .Gt (.int i) (.int j) (decide (j < i))
  | ge (i j : Int) : CmpD .GtE (.int i) (.int j) (decide (j ≤ i))
  | les (i j : Str) : CmpD .LtE (.str i) (.str j) (!decide (j.cps.toList < i.cps.toList))
  | eq (d e : Dt) : d.pure = true → e.pure = true → d.dep ≤ 64 → CmpD .Eq d e (eqD d e)
  | ne (d e : Dt) : d.pure = true → e.pure = true → d.dep ≤ 64 → CmpD .NotEq d e (!eqD d e)
  | isN (d : Dt) : CmpD .Is d .non d.isNon
  | notN (d : Dt) : CmpD .IsNot d .non (!d.isNon)
  | inI (i : Int) (is : List Int) : CmpD .In (.int i) (.tup (is.map .int)) (decide (i ∈ is))
  | inIL (i : Int) (is : List Int) : CmpD .In (.int i) (.lst (is.map .int)) (decide (i ∈ is))
  | niI (i : Int) (is : List Int) : CmpD .NotIn (.int i) (.tup (is.map .int)) (!decide (i ∈ is))
  | niIL (i : Int) (is : List Int) : CmpD .NotIn (.int i) (.lst (is.map .int)) (!decide (i ∈ is))
  | inS (i : Str) (is : List Str) : CmpD .In (.str i) (.tup (is.map .str)) (decide (i ∈ is))
  | niC (c : Nat) (z : Str) : CmpD .NotIn (.str ⟨#[c]⟩) (.str z) (!decide (c ∈ z.cps.toList))

theorem inV_ints (i : Int) : ∀ is : List Int, inV (.int i) (is.map V.int) = decide (i ∈ is)
  | [] => rfl
  | j :: js => by
    unfold inV
    rw [List.map_cons, List.any_cons]
    have e : eqV (.int j) (.int i) = decide (i = j) := by
      show (j == i) = _
      by_cases h : i = j
      · subst h; simp
      · have h' : ¬ j = i := fun z => h z.symm
        simp [h, h']
    have ih := inV_ints i js
    unfold inV at ih
    rw [e, ih]
    simp [List.mem_cons]
theorem inV_strs (i : Str) : ∀ is : List Str, inV (.str i) (is.map V.str) = decide (i ∈ is)
  | [] => rfl
  | j :: js => by
    unfold inV
    rw [List.map_cons, List.any_cons]
    have e : eqV (.str j) (.str i) = decide (i = j) := by
      show (j == i) = _
      by_cases h : i = j
      · subst h; simp
      · have h' : ¬ j = i := fun z => h z.symm
        simp [h, h']
    have ih := inV_strs i js
    unfold inV at ih
    rw [e, ih]
    simp [List.mem_cons]
theorem flat_ints (is : List Int) : (is.map V.int).all flatV = true := by
  rw [List.all_eq_true]
  intro x hx
  obtain ⟨i, _, rfl⟩ := List.mem_map.mp hx
  rfl
theorem flat_strs (is : List Str) : (is.map V.str).all flatV = true := by
  rw [List.all_eq_true]
  intro x hx
  obtain ⟨i, _, rfl⟩ := List.mem_map.mp hx
  rfl
theorem dr_in {i : Int} {is : List Int} {neg : Bool} : DR M (rIn M.K neg) (.int i) (.tup (is.map .int)) (.bl (if neg then !decide (i ∈ is) else decide (i ∈ is))) := fun x y G H e r1 r2 Q q => by
  cases r1
  cases r2 with
  | tup h a =>
    have := a.inv_ints
    subst this
    refine ⟨_, _, rfl, .inr (same_t e h), rfl, flat_ints is, ?_⟩
    rw [inV_ints]
    exact q _ G H (Grow.refl e) (.bl _)
theorem dr_inL {i : Int} {is : List Int} {neg : Bool} : DR M (rIn M.K neg) (.int i) (.lst (is.map .int)) (.bl (if neg then !decide (i ∈ is) else decide (i ∈ is))) := fun x y G H e r1 r2 Q q => by
  cases r1
  cases r2 with
  | lst h a =>
    have := a.inv_ints
    subst this
    refine ⟨_, _, rfl, .inl (same_l e h), rfl, flat_ints is, ?_⟩
    rw [inV_ints]
    exact q _ G H (Grow.refl e) (.bl _)
theorem dr_inS {i : Str} {is : List Str} : DR M (rIn M.K false) (.str i) (.tup (is.map .str)) (.bl (decide (i ∈ is))) := fun x y G H e r1 r2 Q q => by
  cases r1
  cases r2 with
  | tup h a =>
    have := a.inv_strs
    subst this
    refine ⟨_, _, rfl, .inr (same_t e h), rfl, flat_strs is, ?_⟩
    rw [inV_strs]
    exact q _ G H (Grow.refl e) (.bl _)
theorem Rp.nonI {v : V} {d : Dt} {G : Hp} (h : Rp M G v d) : decide (v = .non) = d.isNon := by
  cases h <;> rfl
theorem dr_eq {neg : Bool} (h1 : d1.pure = true) (h2 : d2.pure = true) (h3 : d1.dep ≤ 64) : DR M (rEqP M.K neg) d1 d2 (.bl (if neg then !eqD d1 d2 else eqD d1 d2)) := fun x y G H e r1 r2 Q q =>
  ⟨d1.py, d2.py, (r1.mono e).dp h1, (r2.mono e).dp h2, py_plain _, py_plain _, Nat.le_trans (py_dep _) h3, q _ G H (Grow.refl e) (.bl _)⟩
/-- the rule of a comparison, its answer -/
theorem cmp_rule {X : Cx} {op : CmpOp} {b : Bool} (hX : Xok M N sc k X) (h : CmpD op d1 d2 b) : ∃ R : R2, OpR X (compareOp op) R ∧ DR M R d1 d2 (.bl b) := by
  have hm := hX.gm
  have hu := hX.room.units
  cases h with
  | lt i j => exact ⟨_, op_lt, dr_b0⟩
  | le i j => exact ⟨_, op_le, dr_b0⟩
  | gt i j => exact ⟨_, op_gt, dr_b0 (g := fun i j => decide (j < i))⟩
  | ge i j => exact ⟨_, op_ge, dr_b0 (g := fun i j => decide (j ≤ i))⟩
  | les i j =>
    refine ⟨_, op_le_str, fun x y G H e r1 r2 Q q => ?_⟩
    cases r1
    cases r2
    exact ⟨_, _, rfl, rfl, q _ G H (Grow.refl e) (.bl _)⟩
  | eq d e h1 h2 h3 =>
    subst hm
    exact ⟨_, op_eqP hu, dr_eq h1 h2 h3⟩
  | ne d e h1 h2 h3 =>
    subst hm
    exact ⟨_, op_neP hu, dr_eq (neg := true) h1 h2 h3⟩
  | isN d =>
    refine ⟨_, op_isN, fun x y G H e r1 r2 Q q => ?_⟩
    cases r2
    refine ⟨rfl, ?_⟩
    rw [r1.nonI]
    exact q _ G H (Grow.refl e) (.bl _)
  | notN d =>
    refine ⟨_, op_notN, fun x y G H e r1 r2 Q q => ?_⟩
    cases r2
    refine ⟨rfl, ?_⟩
    rw [r1.nonI]
    exact q _ G H (Grow.refl e) (.bl _)
  | inI i is =>
    subst hm
    exact ⟨_, op_in_seq, dr_in (neg := false)⟩
  | inIL i is =>
    subst hm
    exact ⟨_, op_in_seq, dr_inL (neg := false)⟩
  | niI i is =>
    subst hm
    exact ⟨_, op_notIn_seq, dr_in (neg := true)⟩
  | niIL i is =>
    subst hm
    exact ⟨_, op_notIn_seq, dr_inL (neg := true)⟩
  | inS i is =>
    subst hm
    exact ⟨_, op_in_seq, dr_inS⟩
  | niC c z =>
    refine ⟨_, op_notIn_sign, fun x y G H e r1 r2 Q q => ?_⟩
    cases r1
    cases r2
    exact ⟨_, _, rfl, rfl, q _ G H (Grow.refl e) (.bl _)⟩
theorem ev_cmp {op : CmpOp} {c : Bool} (ha : Ev M N sc k a r d1) (hb : Ev M N sc k b r d2) (hm : behindInMarks op b = false) (h : CmpD op d1 d2 c) : Ev M N sc k (.Compare a [op] [b] pos) r (.bl c) := fun X hX H0 G0 G H sg F Q q => by
  obtain ⟨R, ho, hr⟩ := cmp_rule hX h
  exact ⟨_, pe_cmpR ho pe_w pe_w hm, two hX ha hb F hr q⟩
theorem et_cmp {op : CmpOp} {c : Bool} (ha : Ev M N sc k a r d1) (hb : Ev M N sc k b r d2) (hm : behindInMarks op b = false) (h : CmpD op d1 d2 c) : EvT M N sc k (.Compare a [op] [b] pos) r c := fun X hX H0 G0 G H sg F Q q => by
  obtain ⟨R, ho, hr⟩ := cmp_rule hX h
  refine ⟨_, pt_cmpR ho pe_w pe_w hm, two hX ha hb F hr fun v G' H' g rv => ?_⟩
  cases rv
  exact ⟨_, rfl, q _ _ g⟩
/-- a < b < c -/
theorem ev_chain {op op' : CmpOp} {c : Expr} {d3 : Dt} {x y : Bool} (ha : Ev M N sc k a r d1) (hb : Ev M N sc k b r d2) (hc : Ev M N sc k c r d3) (hm : lastMarks [op, op'] [b, c] = false) (h : CmpD op d1 d2 x) (h' : CmpD op' d2 d3 y) :
    Ev M N sc k (.Compare a [op, op'] [b, c] pos) r (.bl (x && y)) := fun X hX H0 G0 G H sg F Q q => by
  obtain ⟨R, ho, hr⟩ := cmp_rule hX h
  obtain ⟨R', ho', hr'⟩ := cmp_rule hX h'
  refine ⟨_, pe_chain ho ho' pe_w pe_w pe_w hm, ?_⟩
  refine ha X hX H0 G0 G H sg F _ fun v1 G1 H1 g1 r1 => ?_
  refine hb X hX H0 G0 G1 H1 sg (F.grow g1) _ fun v2 G2 H2 g2 r2 => ?_
  refine hr v1 v2 G2 H2 g2.i (r1.mono g2.g) r2 _ fun v3 G3 H3 g3 r3 => ?_
  cases r3
  refine ⟨_, rfl, ?_⟩
  have g := (g1.trans g2).trans g3
  cases x with
  | false =>
    refine iteF ?_
    exact q _ _ _ g (.bl _)
  | true =>
    refine iteT ?_
    refine hc X hX H0 G0 G3 H3 sg (F.grow g) _ fun v4 G4 H4 g4 r4 => ?_
    refine hr' v2 v4 G4 H4 g4.i ((r2.mono g3.g).mono g4.g) r4 _ fun v5 G5 H5 g5 r5 => ?_
    cases r5
    first
      | exact q _ _ _ ((g.trans g4).trans g5) (.bl _)
      | exact ⟨_, rfl, q _ _ _ ((g.trans g4).trans g5) (.bl _)⟩
end
end Ts

set_option Elab.async false
set_option linter.all false
set_option maxRecDepth 100000
set_option maxHeartbeats 4000000
/-! D2: places, slices, and, or, fields, calls. -/
namespace Ts
open PySem L2
section
variable {M : Gm} {N : List Str} {sc : Scope} {k : Nat} {e a b : Expr} {es rest : List Expr} {r : List Sl} {d d1 d2 : Dt} {ds : List Dt} {pos : Pos}

theorem atI_rp {G : Hp} {xs : List V} {ds : List Dt} {i : Int} {d : Dt} (h : RpA M G xs ds) (e : atI ds i = some d) : ∃ v, atI xs i = some v ∧ Rp M G v d := by
  unfold atI at e ⊢
  rw [h.length]
  cases q : ixN ds.length i with
  | none =>
    rw [q] at e
    cases e
  | some j =>
    rw [q] at e
    exact h.get (show ds[j]? = some d from e)
inductive IxD : Dt → Dt → Dt → Prop
  | lst {ds : List Dt} {i : Int} {d : Dt} : atI ds i = some d → IxD (.lst ds) (.int i) d
  | tup {ds : List Dt} {i : Int} {d : Dt} : atI ds i = some d → IxD (.tup ds) (.int i) d
  | str {z : Str} {i : Int} {c : Nat} : z.length ≤ sizeLine → atI z.cps.toList i = some c → IxD (.str z) (.int i) (.str ⟨#[c]⟩)
theorem ev_ix (ha : Ev M N sc k a r d1) (hb : Ev M N sc k b r d2) (hs : PlainIx b) (h : IxD d1 d2 d) : Ev M N sc k (.Subscript a b pos) r d := fun X hX H0 G0 G H sg F Q q => by
  have hm := hX.gm
  cases h with
  | lst e =>
    subst hm
    refine ⟨_, pe_ix ix_list pe_w pe_w hs, two hX ha hb F (fun x y G H s r1 r2 Q q => ?_) q⟩
    cases r1 with
    | lst h1 a1 =>
      cases r2
      obtain ⟨v, e1, r1⟩ := atI_rp a1 e
      exact ⟨_, _, _, v, rfl, rfl, same_l s h1, e1, q v G H (Grow.refl s) r1⟩
  | tup e =>
    subst hm
    refine ⟨_, pe_ix ix_tup pe_w pe_w hs, two hX ha hb F (fun x y G H s r1 r2 Q q => ?_) q⟩
    cases r1 with
    | tup h1 a1 =>
      cases r2
      obtain ⟨v, e1, r1⟩ := atI_rp a1 e
      exact ⟨_, _, _, v, rfl, rfl, same_t s h1, e1, q v G H (Grow.refl s) r1⟩
  | str z e =>
    refine ⟨_, pe_ix ix_str pe_w pe_w hs, two hX ha hb F (fun x y G H s r1 r2 Q q => ?_) q⟩
    cases r1
    cases r2
    exact ⟨_, _, _, rfl, rfl, z, e, q _ G H (Grow.refl s) (.str _)⟩
/-- of a list that still changes -/
theorem ev_ixm {i : Int} (ha : EvM M N sc k a r ds) (hb : Ev M N sc k b r (.int i)) (hs : PlainIx b) (h : atI ds i = some d) : Ev M N sc k (.Subscript a b pos) r d := fun X hX H0 G0 G H sg F Q q => by
  have hm := hX.gm
  subst hm
  refine ⟨_, pe_ix ix_list pe_w pe_w hs, ha X hX H0 G0 G H sg F _ fun p xs G1 H1 g1 hp r1 => hb X hX H0 G0 G1 H1 sg (F.grow g1) _ fun y G2 H2 g2 r2 => ?_⟩
  cases r2
  obtain ⟨v, e1, rv⟩ := atI_rp r1 h
  exact ⟨_, _, _, v, rfl, rfl, .inl (.inl (g2.h _ _ hp)), e1, q v G2 H2 (g1.trans g2) (rv.mono g2.g)⟩
theorem em_own {i : Nat} {x : Str} {p : Addr} (h : r[i]? = some (.own p ds)) (hN : N[i]? = some x) (hv : Vis sc x) (hd : (x == ("__debug__" : Str)) = false) (hcd : (x == ("__classdict__" : Str)) = false) : EvM M N sc k (.Name x pos) r ds := fun X hX H0 G0 G H sg F Q q => by
  obtain ⟨o, e1, r1⟩ := F.sl.get h
  cases r1 with
  | own hp hr => exact ⟨tVar i, pe_var (by rw [hX.nm]; exact hN) (by rw [hX.scp]; exact hv) hd hcd, _, e1, q p _ G H (Grow.refl F.gh) hp hr⟩

/-! ### slices -/
def cutD (xs : List Dt) (lo hi : Option Int) : List Dt := (xs.drop (HT.sIx xs.length 0 lo)).take (HT.sIx xs.length xs.length hi - HT.sIx xs.length 0 lo)
theorem cut_rp {G : Hp} {xs : List V} {ds : List Dt} (h : RpA M G xs ds) (lo hi : Option Int) : RpA M G (cutV xs lo hi) (cutD ds lo hi) := by
  unfold cutV cutD
  rw [h.length]
  exact (h.drop _).take _
def EvO (M : Gm) (N : List Str) (sc : Scope) (k : Nat) (e : Option Expr) (r : List Sl) (o : Option Int) : Prop :=
  match e, o with
  | none, none => True
  | some e, some i => Ev M N sc k e r (.int i)
  | _, _ => False
theorem eo_none : EvO M N sc k none r none := trivial
theorem eo_some {i : Int} (h : Ev M N sc k e r (.int i)) : EvO M N sc k (some e) r (some i) := h
def wO (X : Cx) (e : Option Expr) : TO := fun sg H Q => ∃ t, PO X e t ∧ t sg H Q
theorem po_w {X : Cx} {e : Option Expr} : PO X e (wO X e) := ⟨fun pins s sg H Q I ⟨_, p, h⟩ => p.run pins s sg H Q I h⟩
theorem evo_run {eo : Option Expr} {o : Option Int} (h : EvO M N sc k eo r o) {X : Cx} (hX : Xok M N sc k X) {H0 G0 G H : Hp} {sg : L2.St} (F : Fr M H0 G0 G H sg r) {Q : Option Int → Hp → Prop} (q : ∀ G' H', Grow G H G' H' → Q o H') : wO X eo sg H Q := by
  cases eo with
  | none =>
    cases o with
    | none => exact ⟨_, po_none, q G H (Grow.refl F.gh)⟩
    | some i => exact h.elim
  | some e =>
    cases o with
    | none => exact h.elim
    | some i =>
      refine ⟨_, po_some pe_w, (show Ev M N sc k e r (.int i) from h) X hX H0 G0 G H sg F _ fun v G1 H1 g1 r1 => ?_⟩
      cases r1
      exact ⟨i, rfl, q _ _ g1⟩
theorem ev_sliceT {lo hi : Option Expr} {l h : Option Int} {p2 : Pos} (ha : Ev M N sc k a r (.tup ds)) (hl : EvO M N sc k lo r l) (hh : EvO M N sc k hi r h) : Ev M N sc k (.Subscript a (.Slice lo hi none p2) pos) r (.tup (cutD ds l h)) := fun X hX H0 G0 G H sg F Q q => by
  have hm := hX.gm
  subst hm
  refine ⟨_, pe_slice sl_tupA pe_w po_w po_w, ha X hX H0 G0 G H sg F _ fun x G1 H1 g1 r1 => ?_⟩
  refine evo_run hl hX (F.grow g1) fun G2 H2 g2 => ?_
  refine evo_run hh hX (F.grow (g1.trans g2)) fun G3 H3 g3 => ?_
  have g := (g1.trans g2).trans g3
  cases (r1.mono g2.g).mono g3.g with
  | @tup p xs _ h1 a1 =>
    refine ⟨p, xs, rfl, same_t g.i h1, fun hw => ?_, fun _ p hp => ?_⟩
    · rw [a1.length] at hw
      have e : cutD ds l h = ds := by
        unfold cutD
        rw [hw.1, hw.2]
        simp
      rw [e] at q
      exact q _ _ _ g (.tup h1 a1)
    · have n := Grow.new (o := .tup (cutV xs l h)) g.i hp
      exact q _ _ _ (g.trans n) (.tup (.inl (.inl upd_same)) ((cut_rp a1 l h).mono n.g))
theorem en_sliceL {lo hi : Option Expr} {l h : Option Int} {p2 : Pos} (ha : Ev M N sc k a r (.lst ds)) (hl : EvO M N sc k lo r l) (hh : EvO M N sc k hi r h) : EvN M N sc k (.Subscript a (.Slice lo hi none p2) pos) r (cutD ds l h) := fun X hX H0 G0 G H sg F Q q => by
  have hm := hX.gm
  subst hm
  refine ⟨_, pe_slice sl_list pe_w po_w po_w, ha X hX H0 G0 G H sg F _ fun x G1 H1 g1 r1 => ?_⟩
  refine evo_run hl hX (F.grow g1) fun G2 H2 g2 => ?_
  refine evo_run hh hX (F.grow (g1.trans g2)) fun G3 H3 g3 => ?_
  have g := (g1.trans g2).trans g3
  cases (r1.mono g2.g).mono g3.g with
  | @lst p xs _ h1 a1 => exact ⟨p, xs, rfl, same_l g.i h1, fun p hp => q p _ _ _ g hp (cut_rp a1 l h)⟩
theorem ev_sliceL {lo hi : Option Expr} {l h : Option Int} {p2 : Pos} (ha : Ev M N sc k a r (.lst ds)) (hl : EvO M N sc k lo r l) (hh : EvO M N sc k hi r h) : Ev M N sc k (.Subscript a (.Slice lo hi none p2) pos) r (.lst (cutD ds l h)) := (en_sliceL ha hl hh).ev

/-! ### and, or, not; tests -/
theorem et_val {c : Bool} (ha : Ev M N sc k a r (.bl c)) (hs : ∀ env whole, isTrue a env whole = (do let v ← whole; standAt a.pos; holding [v] (truthy v))) : EvT M N sc k a r c := fun X hX H0 G0 G H sg F Q q =>
  ⟨_, pt_val pe_w (hs X.env), ha X hX H0 G0 G H sg F _ fun v G1 H1 g1 r1 => by
    cases r1
    exact ⟨c, rfl, q _ _ g1⟩⟩
theorem et_not {c : Bool} (ha : EvT M N sc k a r c) : EvT M N sc k (.UnaryOp .Not a pos) r (!c) := fun X hX H0 G0 G H sg F Q q =>
  ⟨_, pt_not pt_w, ha X hX H0 G0 G H sg F _ fun G1 H1 g1 => q _ _ g1⟩
/-- a test whatever stands around it -/
def EvW (M : Gm) (N : List Str) (sc : Scope) (k : Nat) (e : Expr) (r : List Sl) (b : Bool) : Prop :=
  ∀ X, Xok M N sc k X → ∀ H0 G0 G H sg, Fr M H0 G0 G H sg r → ∀ Q : Bool → Hp → Prop, (∀ G' H', Grow G H G' H' → Q b H') → ∃ t, PW X e t ∧ t sg H Q
def wW (X : Cx) (e : Expr) : TT := fun sg H Q => ∃ t, PW X e t ∧ t sg H Q
theorem pw_w {X : Cx} {e : Expr} : PW X e (wW X e) := ⟨fun wh pins s sg H Q I ⟨_, p, h⟩ => p.run wh pins s sg H Q I h⟩
theorem ew_and1 {c : Bool} (ha : EvT M N sc k a r c) : EvW M N sc k (.BoolOp .And [a] pos) r c := fun X hX H0 G0 G H sg F Q q => ⟨_, pw_and1 pt_w, ha X hX H0 G0 G H sg F Q q⟩
theorem ew_or1 {c : Bool} (ha : EvT M N sc k a r c) : EvW M N sc k (.BoolOp .Or [a] pos) r c := fun X hX H0 G0 G H sg F Q q => ⟨_, pw_or1 pt_w, ha X hX H0 G0 G H sg F Q q⟩
/-- the second is asked only where the first is true -/
theorem ew_and {c c' : Bool} (ha : EvT M N sc k a r c) (hb : c = true → EvW M N sc k (.BoolOp .And (b :: rest) pos) r c') : EvW M N sc k (.BoolOp .And (a :: b :: rest) pos) r (c && c') := fun X hX H0 G0 G H sg F Q q =>
  ⟨_, pw_and pt_w pw_w, ha X hX H0 G0 G H sg F _ fun G1 H1 g1 => by
    cases c with
    | true =>
      refine iteT ?_
      exact hb rfl X hX H0 G0 G1 H1 sg (F.grow g1) Q fun G2 H2 g2 => q _ _ (g1.trans g2)
    | false =>
      refine iteF ?_
      exact q _ _ g1⟩
theorem ew_or {c c' : Bool} (ha : EvT M N sc k a r c) (hb : c = false → EvW M N sc k (.BoolOp .Or (b :: rest) pos) r c') : EvW M N sc k (.BoolOp .Or (a :: b :: rest) pos) r (c || c') := fun X hX H0 G0 G H sg F Q q =>
  ⟨_, pw_or pt_w pw_w, ha X hX H0 G0 G H sg F _ fun G1 H1 g1 => by
    cases c with
    | false =>
      refine iteF ?_
      exact hb rfl X hX H0 G0 G1 H1 sg (F.grow g1) Q fun G2 H2 g2 => q _ _ (g1.trans g2)
    | true =>
      refine iteT ?_
      exact q _ _ g1⟩
theorem et_w {c : Bool} (h : EvW M N sc k a r c) : EvT M N sc k a r c := fun X hX H0 G0 G H sg F Q q => by
  obtain ⟨t, p, z⟩ := h X hX H0 G0 G H sg F Q q
  exact ⟨t, p.pt, z⟩
/-- as values -/
theorem ev_one {op} (ha : Ev M N sc k a r d) : Ev M N sc k (.BoolOp op [a] pos) r d := fun X hX H0 G0 G H sg F Q q => ⟨_, pe_one pe_w, ha X hX H0 G0 G H sg F Q q⟩
theorem ev_and {c c' : Bool} (ha : Ev M N sc k a r (.bl c)) (hb : c = true → Ev M N sc k (.BoolOp .And (b :: rest) pos) r (.bl c')) : Ev M N sc k (.BoolOp .And (a :: b :: rest) pos) r (.bl (c && c')) := fun X hX H0 G0 G H sg F Q q =>
  ⟨_, pe_and pe_w pe_w, ha X hX H0 G0 G H sg F _ fun v G1 H1 g1 r1 => by
    cases r1
    refine ⟨c, rfl, ?_⟩
    cases c with
    | true =>
      refine iteT ?_
      exact hb rfl X hX H0 G0 G1 H1 sg (F.grow g1) Q fun v G2 H2 g2 r2 => q _ _ _ (g1.trans g2) r2
    | false =>
      refine iteF ?_
      exact q _ _ _ g1 (.bl _)⟩
theorem ev_or {c c' : Bool} (ha : Ev M N sc k a r (.bl c)) (hb : c = false → Ev M N sc k (.BoolOp .Or (b :: rest) pos) r (.bl c')) : Ev M N sc k (.BoolOp .Or (a :: b :: rest) pos) r (.bl (c || c')) := fun X hX H0 G0 G H sg F Q q =>
  ⟨_, pe_or pe_w pe_w, ha X hX H0 G0 G H sg F _ fun v G1 H1 g1 r1 => by
    cases r1
    refine ⟨c, rfl, ?_⟩
    cases c with
    | false =>
      refine iteF ?_
      exact hb rfl X hX H0 G0 G1 H1 sg (F.grow g1) Q fun v G2 H2 g2 r2 => q _ _ _ (g1.trans g2) r2
    | true =>
      refine iteT ?_
      exact q _ _ _ g1 (.bl _)⟩

/-! ### fields -/
/-- the classes' facts -/
structure ClsF (M : Gm) : Prop where
  cc : Cls M.K M.C
  cf : Cls M.K M.CF
  aC : ∀ f, f ∈ ([("name" : Str), "cost", "force", "marks", "rules"] : List Str) → NoAttr M.K M.C f
  aF : ∀ f, f ∈ ([("known" : Str), "keepers", "stands", "past", "last_log"] : List Str) → NoAttr M.K M.CF f
inductive FldD : Str → Dt → Dt → Prop
  | name {n : Str} {c f : Int} {m : List Str} : FldD "name" (.card n c f m) (.str n)
  | cost {n : Str} {c f : Int} {m : List Str} : FldD "cost" (.card n c f m) (.int c)
  | force {n : Str} {c f : Int} {m : List Str} : FldD "force" (.card n c f m) (.int f)
  | marks {n : Str} {c f : Int} {m : List Str} : FldD "marks" (.card n c f m) (.tup (m.map .str))
  | rules {n : Str} {c f : Int} {m : List Str} : FldD "rules" (.card n c f m) (.tup [])
theorem ev_fld {f : Str} (T : ClsF M) (ha : Ev M N sc k a r d1) (hb : ∀ env, attributeBase a f env (eval a env) = eval a env) (h : FldD f d1 d) : Ev M N sc k (.Attribute a f pos) r d := fun X hX H0 G0 G H sg F Q q => by
  have hm := hX.gm
  subst hm
  refine ⟨_, pe_fld pe_w (hb _), ha X hX H0 G0 G H sg F _ fun v G1 H1 g1 r1 => ?_⟩
  cases h with
  | name =>
    cases r1 with
    | card h1 h2 h3 => exact ⟨_, _, _, _, _, rfl, g1.i _ _ h1, T.cc, T.aC _ (by decide +kernel), (by with_unfolding_all rfl), q _ _ _ g1 (.str _)⟩
  | cost =>
    cases r1 with
    | card h1 h2 h3 => exact ⟨_, _, _, _, _, rfl, g1.i _ _ h1, T.cc, T.aC _ (by decide +kernel), (by with_unfolding_all rfl), q _ _ _ g1 (.int _)⟩
  | force =>
    cases r1 with
    | card h1 h2 h3 => exact ⟨_, _, _, _, _, rfl, g1.i _ _ h1, T.cc, T.aC _ (by decide +kernel), (by with_unfolding_all rfl), q _ _ _ g1 (.int _)⟩
  | marks =>
    cases r1 with
    | card h1 h2 h3 => exact ⟨_, _, _, _, _, rfl, g1.i _ _ h1, T.cc, T.aC _ (by decide +kernel), (by with_unfolding_all rfl), q _ _ _ g1 h2⟩
  | rules =>
    cases r1 with
    | card h1 h2 h3 => exact ⟨_, _, _, _, _, rfl, g1.i _ _ h1, T.cc, T.aC _ (by decide +kernel), (by with_unfolding_all rfl), q _ _ _ g1 h3⟩
end
end Ts

set_option Elab.async false
set_option linter.all false
set_option maxRecDepth 100000
set_option maxHeartbeats 4000000
/-! DS: sorted of data. -/
namespace Ts
open PySem L2 PySem.W PySem.Calls PyProof.Rows

section
variable {prog : Program} {w : World} {A : Around} {E : Value → Shared → Prop} {s : Shared}
theorem collect_tup {l : Addr} {vs : List Value} {Q : List Value → Shared → Prop} (hl : IsTup s.heap l vs.toArray)
    (h : Q vs { s with heap := (s.heap.push (seqObj "list" #[] 0)).update s.heap.objs.size (Obj.mapSeq (· ++ vs.toArray)) }) (hsz : vs.length ≤ sizeLine) :
    wpAny (model prog w) A (collect (.ref l)) Q E s := by
  obtain ⟨o, ho, hc, n, hd⟩ := id hl
  unfold collect
  refine wpAny_bind (wpAny_runValue (codeAny_builtin entry_proto_collect' ?_))
  show wpAny _ _ (do again (.builtin "list.__iadd__" ⟨[← newList [], .ref l], []⟩)) _ _ s
  refine wpAny_bind (wpAny_newList (wpAny_pure ⟨Code.quiet_builtin _ (by decide +kernel), codeAny_builtin entry_list_iadd' ?_⟩))
  show wpAny _ _ (Builtin.List.listExtendWith (.ref s.heap.objs.size) (.ref l) (.ref s.heap.objs.size)) _ _ { s with heap := s.heap.push (seqObj "list" #[] 0) }
  unfold Builtin.List.listExtendWith
  have ho' : (s.heap.push (seqObj "list" #[] 0)).get? l = some o := Heap.get?_push_of_some _ ho
  refine wpAny_bind (wpAny_typeOf (T := "tuple") ⟨o, ho', hc⟩ ?_)
  have ht : (Value.type "tuple" == Value.type "tuple") = true := by rfl
  rw [if_pos (by rw [ht]; simp)]
  refine wpAny_bind (listItems_at ho' hd ?_)
  refine wpAny_bind (listItems_at (xs := #[]) (n := 0) (Heap.get?_push_size _ rfl) rfl ?_)
  rw [if_neg (by simp)]
  refine wpAny_bind (listUpdate_at (xs := #[]) (n := 0) (Heap.get?_push_size _ rfl) rfl ?_ (Nat.zero_le _) (by show (#[] ++ vs.toArray).size ≤ sizeLine + 1; simp only [Array.size_append, List.size_toArray, List.length_nil]; omega))
  refine wpAny_pure ?_
  show wpAny (model prog w) A (do
      let o ← load s.heap.objs.size
      match o.data with
      | .seq xs _ => pure xs.toList
      | _ => unsupported "internal:collect") Q E { s with heap := (s.heap.push (seqObj "list" #[] 0)).update s.heap.objs.size (Obj.mapSeq (· ++ vs.toArray)) }
  refine wpAny_bind (wpAny_load (get?_update_seq (Heap.get?_push_size _ rfl) _) ?_)
  show wpAny _ _ (pure ((#[] : Array Value) ++ vs.toArray).toList) Q E _
  rw [show ((#[] : Array Value) ++ vs.toArray).toList = vs by simp]
  exact wpAny_pure h
theorem sorted_of_sortT {l : Addr} {vs : List Value} {kw : List (Str × Value)} {Q : Value → Shared → Prop} (hl : IsTup s.heap l vs.toArray) (hL : vs.length ≤ sizeLine) (ha1 : argsOk "sorted" ⟨[.ref l], kw⟩) (ha2 : ∀ x, argsOk "list.sort" ⟨[.ref x], kw⟩)
    (body : ∀ E' : Value → Shared → Prop, wpAny (model prog w) A.in1.in1 (Builtin.«list.sort» ⟨[.ref (s.heap.objs.size + 1)], kw⟩) (fun f s' => f = .done (.ret .none) ∧ Q (.ref (s.heap.objs.size + 1)) s') E' { s with heap := copyHeap s.heap vs }) :
    wpAny (model prog w) A (call (.builtin "sorted") [.ref l] kw) Q E s := by
  refine call_function_entry_kw kind_sorted plain_sorted entry_sorted ha1 ?_
  unfold Builtin.«sorted»
  refine wpAny_bind (m := checkCount "sorted" 1 1 _) (wpAny_pure ?_)
  refine wpAny_bind (collect_tup hl ?_ hL)
  refine wpAny_bind (wpAny_newList ?_ hL)
  have hsz : ((s.heap.push (seqObj "list" #[] 0)).update s.heap.objs.size (Obj.mapSeq (· ++ vs.toArray))).objs.size = s.heap.objs.size + 1 := by
    rw [Heap.size_update, size_push']
  show wpAny _ _ _ _ _ { s with heap := copyHeap s.heap vs }
  rw [hsz]
  refine wpAny_bind (wpAny_holding (wpAny_call_entry_kw slot_list_sort ⟨_, copyHeap_at s.heap vs, rfl⟩ entry_list_sort ?body (ha2 _)))
  case body =>
    show wpAny (model prog w) A.in1.in1 (Builtin.«list.sort» ⟨[.ref (s.heap.objs.size + 1)], kw⟩) _ _ _
    refine wpAny_mono (body _) (fun f s' hf => ?_) fun _ _ e => e
    obtain ⟨rfl, hq⟩ := hf
    exact ⟨_, rfl, wpAny_pure ⟨_, rfl, hq⟩⟩
variable {β : Type} {vs : List Value} {bs : List β} {R : Value → β → Prop} {enc : β → PyData}
theorem sorted_dataT {l : Addr} {Q : Value → Shared → Prop} (hl : IsTup s.heap l vs.toArray) (e : EachIs R vs bs) (er : EachIs (fun v b => ∃ as, Reads s.heap v (enc b) as) vs bs) (hal : AllAlike (bs.map enc)) (hk : Sortable (bs.map enc)) (hL : bs.length ≤ sizeLine)
    (hu : ∀ b, b ∈ bs → A.units + 2 + (enc b).depth < cLine) (h : ∀ out, out.length = bs.length → EachIs R out (bs.mergeSort (dataLe false enc)) → Q (.ref (s.heap.objs.size + 1)) { s with heap := sortedAll s.heap vs (List.toArray out) }) :
    wpAny (model prog w) A (call (.builtin "sorted") [.ref l]) Q E s := by
  have er' : EachIs (fun v b => ∃ as, Reads (sortingHeap (copyHeap s.heap vs) (s.heap.objs.size + 1) vs) v (enc b) as) vs bs := er.mono fun _ _ ⟨as, r⟩ => ⟨as, PyProof.Rows.Reads.keeps (fun _ _ => sorting_copy_old) r⟩
  refine sorted_of_sortT hl (by rw [e.length]; exact hL) (args_sorted1 _) (fun _ => args_list_sort _) fun _ => list_sort_vals (s := { s with heap := copyHeap s.heap vs }) (copyHeap_at s.heap vs)
    (SortsAt.data (s := { s with heap := sortingHeap (copyHeap s.heap vs) (s.heap.objs.size + 1) vs }) (each_map (R := fun v d => ∃ as, Reads (sortingHeap (copyHeap s.heap vs) (s.heap.objs.size + 1) vs) v d as) enc er') hal hk (bound_map hu)) (by rw [e.length]; exact hL) ⟨rfl, ?_⟩
  exact h _ (by rw [sortVals_length false rfl]; exact e.length) (sortVals_data false e er' hal)
end

/-- the order of sorted -/
def leD : Dt → Dt → Bool := dataLe false Dt.py

section
variable {X : Cx}
theorem each_vals : ∀ {ps : List (V × Dt)} {out : List Value}, EachIs (fun v (b : V × Dt) => RelV b.1 v) out ps → Vals (ps.map (·.1)) out
  | _, _, .nil => .nil
  | _, _, .cons h t => .cons h (each_vals t)
theorem each_of_vals : ∀ {xs : List V} {ds : List Dt} {us : List Value}, xs.length = ds.length → Vals xs us → EachIs (fun v (b : V × Dt) => RelV b.1 v) us (xs.zip ds)
  | [], [], _, _, .nil => .nil
  | x :: xs, d :: ds, _, e, .cons h t => .cons h (each_of_vals (by simpa using e) t)
theorem each_reads {pins : List (Addr × Obj)} {sg : L2.St} {H : Hp} {s : Shared} {M : Gm} (I : Inv X pins sg H s) (hK : M.K = X.K) : ∀ {xs : List V} {ds : List Dt} {us : List Value}, RpA M H xs ds → pures ds = true → Vals xs us →
    EachIs (fun v (b : V × Dt) => ∃ as, Reads s.heap v b.2.py as) us (xs.zip ds)
  | [], [], _, _, _, .nil => .nil
  | x :: xs, d :: ds, _, .cons r t, p, .cons h q => by
    have p' : (_ && _) = true := p
    rw [Bool.and_eq_true] at p'
    have z := r.dp p'.1
    rw [hK] at z
    exact .cons (Dp.reads I _ _ _ z h) (each_reads I hK t p'.2 q)
theorem zip_fst : ∀ {xs : List V} {ds : List Dt}, xs.length = ds.length → (xs.zip ds).map (·.1) = xs
  | [], [], _ => rfl
  | x :: xs, d :: ds, e => by
    rw [List.zip_cons_cons, List.map_cons, zip_fst (by simpa using e)]
theorem zip_snd : ∀ {xs : List V} {ds : List Dt}, xs.length = ds.length → (xs.zip ds).map (·.2) = ds
  | [], [], _ => rfl
  | x :: xs, d :: ds, e => by
    rw [List.zip_cons_cons, List.map_cons, zip_snd (by simpa using e)]
theorem zip_rp {M : Gm} {G : Hp} : ∀ {xs : List V} {ds : List Dt}, RpA M G xs ds → ∀ p ∈ xs.zip ds, Rp M G p.1 p.2
  | _, _, .nil => fun _ h => nomatch h
  | _, _, .cons r t => fun p hp => by
    rw [List.zip_cons_cons] at hp
    rcases List.mem_cons.mp hp with rfl | hp
    · exact r
    · exact zip_rp t p hp
theorem rpA_of {M : Gm} {G : Hp} : ∀ ps : List (V × Dt), (∀ p ∈ ps, Rp M G p.1 p.2) → RpA M G (ps.map (·.1)) (ps.map (·.2))
  | [], _ => .nil
  | p :: ps, h => .cons (h p (List.mem_cons_self)) (rpA_of ps fun q hq => h q (List.mem_cons_of_mem _ hq))
theorem deps_mem : ∀ {ds : List Dt} {d : Dt}, d ∈ ds → d.dep ≤ deps ds
  | e :: ds, d, h => by
    rcases List.mem_cons.mp h with rfl | h
    · exact Nat.le_max_left _ _
    · exact Nat.le_trans (deps_mem h) (Nat.le_max_right _ _)
def rSortD (M : Gm) : List V → Hp → VK → Prop := fun vs H Q => ∃ (G : Hp) (a : Addr) (xs : List V) (ds : List Dt), Same G H ∧ vs = [V.ref a] ∧ (SqL M.K H a xs ∨ SqT M.K H a xs) ∧ RpA M G xs ds ∧ pures ds = true ∧ AllAlike (ds.map Dt.py) ∧ Sortable (ds.map Dt.py) ∧ deps ds ≤ 32 ∧
  ∀ l ys, H l = none → RpA M G ys (ds.mergeSort leD) → Q (.ref l) (upd H l (.lst ys))
theorem cr_sortD {M : Gm} (hK : M.K = X.K) (hu : X.A.units + 64 < cLine) : CallR X (.builtin "sorted") (rSortD M) := by
  intro pins s sg H vs us Q I r h
  obtain ⟨G, a, xs, ds, hGH, rfl, hs, hr, hp, hal, hk, hd, q⟩ := h
  rw [hK] at hs
  rw [Vals.ref1 r]
  have hlen := hr.length
  have e2 : (xs.zip ds).map (fun b => b.2.py) = ds.map Dt.py := by
    rw [show (fun b : V × Dt => b.2.py) = Dt.py ∘ (·.2) from rfl, ← List.map_map, zip_snd hlen]
  have hu2 : ∀ b, b ∈ xs.zip ds → X.A.units + 2 + (b.2.py).depth < cLine := fun b hb => by
    have h1 : b.2 ∈ ds := by
      have := List.mem_map_of_mem (f := (·.2)) hb
      rw [zip_snd hlen] at this
      exact this
    have h2 := py_dep b.2
    have h3 := deps_mem h1
    omega
  have zl : (xs.zip ds).length = xs.length := by rw [List.length_zip, ← hlen, Nat.min_self]
  have fin : ∀ {its : List Value}, xs.length ≤ sizeLine → ∀ out : List Value, out.length = (xs.zip ds).length → EachIs (fun v (b : V × Dt) => RelV b.1 v) out ((xs.zip ds).mergeSort (dataLe false fun b => b.2.py)) →
      EP X pins sg Q (.ref (s.heap.objs.size + 1)) { s with heap := sortedAll s.heap its (List.toArray out) } := fun {its} hz out ho eo => by
    have e3 : ((xs.zip ds).mergeSort (dataLe false fun b => b.2.py)).map (·.2) = ds.mergeSort leD := by
      refine (List.map_mergeSort (r := dataLe false fun b : V × Dt => b.2.py) (s := leD) (f := (·.2)) (fun a _ b _ => rfl)).trans ?_
      rw [zip_snd hlen]
    have rp : RpA M G (((xs.zip ds).mergeSort (dataLe false fun b => b.2.py)).map (·.1)) (ds.mergeSort leD) := by
      rw [← e3]
      refine rpA_of _ fun p hp => ?_
      exact zip_rp hr p ((List.mergeSort_perm _ _).subset hp)
    obtain ⟨ep, he'⟩ := PyProof.Rows.sortedAll_at s.heap its out.toArray
    refine ⟨.ref _, upd H (s.heap.objs.size + 1) (.lst (((xs.zip ds).mergeSort (dataLe false fun b => b.2.py)).map (·.1))), I.laid (t' := s.toks) (fun _ _ => PyProof.Rows.sortedAll_old) (Nat.le_succ _) ⟨?_, out, ep, each_vals eo, he'⟩, rfl, q _ _ (I.hok.fresh (Nat.le_succ _)) rp⟩
    rw [List.length_map, List.length_mergeSort, zl]
    exact hz
  rcases hs with hs | hs
  · obtain ⟨its, rv, hl, hz⟩ := I.list hs
    refine sorted_data hl.isList (each_of_vals hlen rv) (each_reads I hK (hr.mono hGH) hp rv) (by rw [e2]; exact hal) (by rw [e2]; exact hk) (by rw [zl]; exact hz) hu2 fun out ho eo => fin hz out ho eo
  · obtain ⟨its, rv, hl, hz⟩ := I.tuple hs
    refine sorted_dataT hl (each_of_vals hlen rv) (each_reads I hK (hr.mono hGH) hp rv) (by rw [e2]; exact hal) (by rw [e2]; exact hk) (by rw [zl]; exact hz) hu2 fun out ho eo => fin hz out ho eo
end
theorem pys_map : ∀ ds : List Dt, pys ds = ds.map Dt.py
  | [] => rfl
  | d :: ds => by rw [pys, pys_map ds]; rfl
theorem pures_ints : ∀ is : List Int, pures (is.map .int) = true
  | [] => rfl
  | i :: is => by
    show (true && pures (is.map .int)) = true
    rw [pures_ints is]; rfl
theorem deps_ints : ∀ is : List Int, deps (is.map .int) = 0
  | [] => rfl
  | i :: is => by
    show max 0 (deps (is.map .int)) = 0
    rw [deps_ints is]; rfl
/-- sorted ints -/
def sortI (is : List Int) : List Int := is.mergeSort fun a b => decide (a ≤ b)
theorem sort_ints (is : List Int) : (is.map Dt.int).mergeSort leD = (sortI is).map .int := by
  unfold sortI
  refine (List.map_mergeSort (r := fun a b : Int => decide (a ≤ b)) (s := leD) (f := Dt.int) ?_).symm
  intro a _ b _
  show _ = dataLe false Dt.py (.int a) (.int b)
  have := congrFun (congrFun (dataLe_int (β := Int) id) a) b
  exact this.symm
theorem sortI_perm (is : List Int) : (sortI is).Perm is := List.mergeSort_perm _ _
theorem sortI_len (is : List Int) : (sortI is).length = is.length := List.length_mergeSort _
theorem alike_i (is : List Int) : AllAlike ((is.map Dt.int).map Dt.py) := by
  rw [List.map_map]
  exact AllAlike.of fun _ _ => rfl
theorem sortable_i (is : List Int) : Sortable ((is.map Dt.int).map Dt.py) := by
  rw [List.map_map]
  exact Sortable.others fun b => ⟨(fun h => nomatch h), (fun _ h => nomatch h)⟩
end Ts

set_option Elab.async false
set_option linter.all false
set_option maxRecDepth 100000
set_option maxHeartbeats 4000000
/-! D3: calls of built-ins and of defs. -/
namespace Ts
open PySem L2

/-- a promise over data: R the arguments' data and the answer's -/
def spD (M : Gm) (R : List Dt → Dt → Prop) : Sp := fun vs H Q _ => ∃ (G : Hp) (ds : List Dt) (d : Dt), Same G H ∧ RpA M G vs ds ∧ R ds d ∧ ∀ v G' H', Grow G H G' H' → Rp M G' v d → Q v H'
/-- a def keeps R -/
abbrev Keeps (M : Gm) (j : Nat) (x : Str) (R : List Dt → Dt → Prop) : Prop := C8.Cal M.P M.w M.K M.mg M.base j x (spD M R) []

section
variable {M : Gm} {N : List Str} {sc : Scope} {k : Nat} {e a b : Expr} {es rest : List Expr} {r : List Sl} {d d1 d2 : Dt} {ds : List Dt} {pos p : Pos} {x : Str}

theorem Xok.gl {X : Cx} (hX : Xok M N sc k X) {x : Str} (h : sc.names.lookup x = some .globalImplicit) : Gl X x := by
  show X.env.scope.names.lookup x = _
  rw [hX.scp]
  exact h
theorem Xok.mg {X : Cx} (hX : Xok M N sc k X) : X.mg = M.mg := by
  have h := hX.gm
  subst h
  rfl

theorem ev_call {j : Nat} {R : List Dt → Dt → Prop} (c : Keeps M j x R) (hk : j ≤ k) (hg : sc.names.lookup x = some .globalImplicit) (ha : EvA M N sc k (e :: es) r ds) (hR : R ds d)
    (hdb : (x == ("__debug__" : Str)) = false) (he : ∀ env, starEach (e :: es) env = (false, eval e env) :: starEach es env) (hpl : ∀ env, (backTo pos (starEach es env)).any (·.1) = false) :
    Ev M N sc k (.Call (.Name x p) (e :: es) [] pos) r d := fun X hX H0 G0 G H sg F Q q => by
  have hm := hX.gm
  subst hm
  refine ⟨_, C8.pe_c c hX.room hk (hX.gl hg) pa_w hdb (he _) (hpl _), ha X hX H0 G0 G H sg F _ fun vs G1 H1 g1 r1 => ?_⟩
  rw [List.append_nil]
  exact ⟨G1, ds, d, g1.i, r1, hR, fun v G2 H2 g2 r2 => q v G2 H2 (g1.trans g2) r2⟩

/-- a module's constant -/
theorem ev_glob {v : V} (hg : sc.names.lookup x = some .globalImplicit) (h : ∃ u, M.mg x = some u ∧ RelV v u) (hr : ∀ G, Rp M G v d) (hd : (x == ("__debug__" : Str)) = false) : Ev M N sc k (.Name x pos) r d := fun X hX H0 G0 G H sg F Q q => by
  refine ⟨_, C8.pe_gc (hX.gl hg) (by rw [hX.mg]; exact h) hd, q v G H (Grow.refl F.gh) (hr G)⟩

/-! ### built-ins by name -/
/-- what a built-in gives -/
def CR1 (M : Gm) (r : List V → Hp → VK → Prop) (ds : List Dt) (d : Dt) : Prop := ∀ vs G H, Same G H → RpA M G vs ds → ∀ Q : VK, (∀ v G' H', Grow G H G' H' → Rp M G' v d → Q v H') → r vs H Q
theorem ev_blt {id : String} {R : List V → Hp → VK → Prop} (hc : ∀ X, Xok M N sc k X → CallR X (.builtin id) R) (hg : sc.names.lookup x = some .globalImplicit) (hm : M.mg x = none) (hv : bootBuiltins x = some (.builtin id)) (ha : EvA M N sc k (e :: es) r ds) (hR : CR1 M R ds d)
    (hn : x ≠ "__name__") (hdb : (x == ("__debug__" : Str)) = false) (he : ∀ env, starEach (e :: es) env = (false, eval e env) :: starEach es env) (hpl : ∀ env, (backTo pos (starEach es env)).any (·.1) = false) :
    Ev M N sc k (.Call (.Name x p) (e :: es) [] pos) r d := fun X hX H0 G0 G H sg F Q q =>
  ⟨_, pe_callB (hc X hX) (hX.gl hg) (by rw [hX.mg]; exact hm) hv pa_w hn hdb (he _) (hpl _), ha X hX H0 G0 G H sg F _ fun vs G1 H1 g1 r1 => hR vs G1 H1 g1.i r1 Q fun v G2 H2 g2 r2 => q v G2 H2 (g1.trans g2) r2⟩
theorem ev_bty {id : String} {R : List V → Hp → VK → Prop} (hc : ∀ X, Xok M N sc k X → CallR X (.type id) R) (hg : sc.names.lookup x = some .globalImplicit) (hm : M.mg x = none) (hv : bootBuiltins x = some (.type id)) (ha : EvA M N sc k (e :: es) r ds) (hR : CR1 M R ds d)
    (hn : x ≠ "__name__") (hdb : (x == ("__debug__" : Str)) = false) (he : ∀ env, starEach (e :: es) env = (false, eval e env) :: starEach es env) (hpl : ∀ env, (backTo pos (starEach es env)).any (·.1) = false) :
    Ev M N sc k (.Call (.Name x p) (e :: es) [] pos) r d := fun X hX H0 G0 G H sg F Q q =>
  ⟨_, pe_callTy (hc X hX) (hX.gl hg) (by rw [hX.mg]; exact hm) hv pa_w hn hdb (he _) (hpl _), ha X hX H0 G0 G H sg F _ fun vs G1 H1 g1 r1 => hR vs G1 H1 g1.i r1 Q fun v G2 H2 g2 r2 => q v G2 H2 (g1.trans g2) r2⟩
/-- a new list from a built-in -/
def CN1 (M : Gm) (r : List V → Hp → VK → Prop) (ds es : List Dt) : Prop := ∀ vs G H, Same G H → RpA M G vs ds → ∀ Q : VK, (∀ p xs G' H', Grow G H G' H' → H' p = none → RpA M G' xs es → Q (.ref p) (upd H' p (.lst xs))) → r vs H Q
theorem en_blt {id : String} {R : List V → Hp → VK → Prop} {os : List Dt} (hc : ∀ X, Xok M N sc k X → CallR X (.builtin id) R) (hg : sc.names.lookup x = some .globalImplicit) (hm : M.mg x = none) (hv : bootBuiltins x = some (.builtin id)) (ha : EvA M N sc k (e :: es) r ds) (hR : CN1 M R ds os)
    (hn : x ≠ "__name__") (hdb : (x == ("__debug__" : Str)) = false) (he : ∀ env, starEach (e :: es) env = (false, eval e env) :: starEach es env) (hpl : ∀ env, (backTo pos (starEach es env)).any (·.1) = false) :
    EvN M N sc k (.Call (.Name x p) (e :: es) [] pos) r os := fun X hX H0 G0 G H sg F Q q =>
  ⟨_, pe_callB (hc X hX) (hX.gl hg) (by rw [hX.mg]; exact hm) hv pa_w hn hdb (he _) (hpl _), ha X hX H0 G0 G H sg F _ fun vs G1 H1 g1 r1 => hR vs G1 H1 g1.i r1 Q fun p xs G2 H2 g2 hp r2 => q p xs G2 H2 (g1.trans g2) hp r2⟩
theorem en_bty {id : String} {R : List V → Hp → VK → Prop} {os : List Dt} (hc : ∀ X, Xok M N sc k X → CallR X (.type id) R) (hg : sc.names.lookup x = some .globalImplicit) (hm : M.mg x = none) (hv : bootBuiltins x = some (.type id)) (ha : EvA M N sc k (e :: es) r ds) (hR : CN1 M R ds os)
    (hn : x ≠ "__name__") (hdb : (x == ("__debug__" : Str)) = false) (he : ∀ env, starEach (e :: es) env = (false, eval e env) :: starEach es env) (hpl : ∀ env, (backTo pos (starEach es env)).any (·.1) = false) :
    EvN M N sc k (.Call (.Name x p) (e :: es) [] pos) r os := fun X hX H0 G0 G H sg F Q q =>
  ⟨_, pe_callTy (hc X hX) (hX.gl hg) (by rw [hX.mg]; exact hm) hv pa_w hn hdb (he _) (hpl _), ha X hX H0 G0 G H sg F _ fun vs G1 H1 g1 r1 => hR vs G1 H1 g1.i r1 Q fun p xs G2 H2 g2 hp r2 => q p xs G2 H2 (g1.trans g2) hp r2⟩

/-- the built-in names that the program may not have overwritten -/
structure Blt (M : Gm) : Prop where
  len : M.mg "len" = none
  int : M.mg "int" = none
  str : M.mg "str" = none
  list : M.mg "list" = none
  tuple : M.mg "tuple" = none
  sorted : M.mg "sorted" = none
  range : M.mg "range" = none
  enumerate : M.mg "enumerate" = none
  min : M.mg "min" = none
  max : M.mg "max" = none
  isinstance : M.mg "isinstance" = none

def lenD : Dt → Option Nat
  | .lst xs => some xs.length
  | .tup xs => some xs.length
  | .str z => if z.length ≤ sizeLine then some z.length else none
  | _ => none
theorem lenV_of {G H : Hp} {v : V} {n : Nat} (s : Same G H) (rv : Rp M G v d) (h : lenD d = some n) : LenV M.K v H n := by
  cases rv with
  | lst h1 a1 =>
    have e : some _ = some n := h
    injection e with e
    subst e
    exact .inl ⟨_, same_l s h1, a1.length.symm⟩
  | tup h1 a1 =>
    have e : some _ = some n := h
    injection e with e
    subst e
    exact .inr ⟨_, same_t s h1, a1.length.symm⟩
  | str z =>
    have e : (if z.length ≤ sizeLine then some z.length else none) = some n := h
    by_cases q : z.length ≤ sizeLine
    · rw [if_pos q] at e
      injection e with e
      subst e
      exact ⟨q, rfl⟩
    · rw [if_neg q] at e
      cases e
  | _ => cases h
theorem call_len' (X : Cx) (hX : Xok M N sc k X) : CallR X (.builtin "len") (fun xs H Q => ∃ x n, xs = [x] ∧ LenV M.K x H n ∧ Q (.int n) H) := by
  have hm := hX.gm
  subst hm
  exact call_len
theorem ev_len {n : Nat} (T : Blt M) (hg : sc.names.lookup ("len" : Str) = some .globalImplicit) (ha : Ev M N sc k a r d) (h : lenD d = some n) (he : ∀ env, starEach [a] env = (false, eval a env) :: starEach [] env) : Ev M N sc k (.Call (.Name "len" p) [a] [] pos) r (.int n) := by
  refine ev_blt (call_len' (M := M)) hg T.len PySem.boot_len (ea_cons ha ea_nil he) (fun vs G H s rv Q q => ?_) (by decide +kernel) (by decide +kernel) he (fun _ => rfl)
  cases rv with
  | cons r1 rn =>
    cases rn
    exact ⟨_, n, rfl, lenV_of s r1 h, q _ G H (Grow.refl s) (.int _)⟩
/-- of a list that still changes -/
theorem ev_lenm {os : List Dt} (T : Blt M) (hg : sc.names.lookup ("len" : Str) = some .globalImplicit) (ha : EvM M N sc k a r os) (he : ∀ env, starEach [a] env = (false, eval a env) :: starEach [] env) : Ev M N sc k (.Call (.Name "len" p) [a] [] pos) r (.int os.length) := fun X hX H0 G0 G H sg F Q q => by
  refine ⟨_, pe_callB (call_len' (M := M) X hX) (hX.gl hg) (by rw [hX.mg]; exact T.len) PySem.boot_len (pa_cons pe_w pa_nil (he _)) (by decide +kernel) (by decide +kernel) (he _) rfl, ha X hX H0 G0 G H sg F _ fun p xs G1 H1 g1 hp r1 => ?_⟩
  exact ⟨_, _, rfl, .inl ⟨xs, .inl (.inl hp), rfl⟩, by rw [r1.length]; exact q _ _ _ g1 (.int _)⟩
theorem ev_int1 {i : Int} (T : Blt M) (hg : sc.names.lookup ("int" : Str) = some .globalImplicit) (ha : Ev M N sc k a r d) (h : (d = .int i) ∨ (∃ c : Bool, d = .bl c ∧ i = if c then 1 else 0) ∨ (∃ z : Str, d = .str z ∧ PySem.intText? z = some i ∧ z.length ≤ 640))
    (he : ∀ env, starEach [a] env = (false, eval a env) :: starEach [] env) : Ev M N sc k (.Call (.Name "int" p) [a] [] pos) r (.int i) := by
  rcases h with rfl | ⟨c, rfl, rfl⟩ | ⟨z, rfl, hz, hl⟩
  · refine ev_bty (fun X hX => call_int1) hg T.int (by decide +kernel) (ea_cons ha ea_nil he) (fun vs G H s rv Q q => ?_) (by decide +kernel) (by decide +kernel) he (fun _ => rfl)
    cases rv with
    | cons r1 rn =>
      cases rn
      cases r1
      exact .inl ⟨_, rfl, q _ G H (Grow.refl s) (.int _)⟩
  · refine ev_bty (fun X hX => call_int1) hg T.int (by decide +kernel) (ea_cons ha ea_nil he) (fun vs G H s rv Q q => ?_) (by decide +kernel) (by decide +kernel) he (fun _ => rfl)
    cases rv with
    | cons r1 rn =>
      cases rn
      cases r1
      exact .inr ⟨_, rfl, q _ G H (Grow.refl s) (.int _)⟩
  · refine ev_bty (fun X hX => call_int_str) hg T.int (by decide +kernel) (ea_cons ha ea_nil he) (fun vs G H s rv Q q => ?_) (by decide +kernel) (by decide +kernel) he (fun _ => rfl)
    cases rv with
    | cons r1 rn =>
      cases rn
      cases r1
      exact ⟨_, _, rfl, hz, hl, q _ G H (Grow.refl s) (.int _)⟩
theorem ev_str1 {i : Int} (T : Blt M) (hg : sc.names.lookup ("str" : Str) = some .globalImplicit) (ha : Ev M N sc k a r (.int i)) (h : i.natAbs.log2 < 1920) (he : ∀ env, starEach [a] env = (false, eval a env) :: starEach [] env) :
    Ev M N sc k (.Call (.Name "str" p) [a] [] pos) r (.str (toString i)) := by
  refine ev_bty (fun X hX => call_str_int) hg T.str (by decide +kernel) (ea_cons ha ea_nil he) (fun vs G H s rv Q q => ?_) (by decide +kernel) (by decide +kernel) he (fun _ => rfl)
  cases rv with
  | cons r1 rn =>
    cases rn
    cases r1
    exact ⟨_, rfl, h, q _ G H (Grow.refl s) (.str _)⟩
def itemsD : Dt → Option (List Dt)
  | .lst xs => some xs
  | .tup xs => some xs
  | _ => none
theorem call_list' (X : Cx) (hX : Xok M N sc k X) : CallR X (.type "list") (fun xs H Q => ∃ p ys, xs = [.ref p] ∧ (SqL M.K H p ys ∨ SqT M.K H p ys) ∧ ∀ l, H l = none → Q (.ref l) (upd H l (.lst ys))) := by
  have hm := hX.gm
  subst hm
  exact call_list_of
theorem en_list {os : List Dt} (T : Blt M) (hg : sc.names.lookup ("list" : Str) = some .globalImplicit) (ha : Ev M N sc k a r d) (h : itemsD d = some os) (he : ∀ env, starEach [a] env = (false, eval a env) :: starEach [] env) : EvN M N sc k (.Call (.Name "list" p) [a] [] pos) r os := by
  refine en_bty (call_list' (M := M)) hg T.list (by decide +kernel) (ea_cons ha ea_nil he) (fun vs G H s rv Q q => ?_) (by decide +kernel) (by decide +kernel) he (fun _ => rfl)
  cases rv with
  | cons r1 rn =>
    cases rn
    cases r1 with
    | lst h1 a1 =>
      have e : some _ = some os := h
      injection e with e
      subst e
      exact ⟨_, _, rfl, .inl (same_l s h1), fun l hl => q l _ G H (Grow.refl s) hl a1⟩
    | tup h1 a1 =>
      have e : some _ = some os := h
      injection e with e
      subst e
      exact ⟨_, _, rfl, .inr (same_t s h1), fun l hl => q l _ G H (Grow.refl s) hl a1⟩
    | _ => cases h
theorem ev_list {os : List Dt} (T : Blt M) (hg : sc.names.lookup ("list" : Str) = some .globalImplicit) (ha : Ev M N sc k a r d) (h : itemsD d = some os) (he : ∀ env, starEach [a] env = (false, eval a env) :: starEach [] env) : Ev M N sc k (.Call (.Name "list" p) [a] [] pos) r (.lst os) :=
  (en_list T hg ha h he).ev
theorem ev_tuple {os : List Dt} (T : Blt M) (hg : sc.names.lookup ("tuple" : Str) = some .globalImplicit) (ha : Ev M N sc k a r d) (h : itemsD d = some os) (he : ∀ env, starEach [a] env = (false, eval a env) :: starEach [] env) : Ev M N sc k (.Call (.Name "tuple" p) [a] [] pos) r (.tup os) := fun X hX H0 G0 G H sg F Q q => by
  have hm := hX.gm
  subst hm
  refine ⟨_, pe_tupleOf (hX.gl hg) T.tuple pe_w (he _), ha X hX H0 G0 G H sg F _ fun v G1 H1 g1 r1 => ?_⟩
  cases r1 with
  | lst h1 a1 =>
    have e : some _ = some os := h
    injection e with e
    subst e
    refine .inl ⟨_, _, rfl, same_l g1.i h1, fun l hl => ?_⟩
    exact q _ _ _ (g1.trans (Grow.new g1.i hl)) (.tup (.inl (.inl upd_same)) (a1.mono (same_new (free_of g1.i hl))))
  | tup h1 a1 =>
    have e : some _ = some os := h
    injection e with e
    subst e
    exact .inr ⟨_, _, rfl, same_t g1.i h1, q _ _ _ g1 (.tup h1 a1)⟩
  | _ => cases h
/-- of a list that still changes: a new tuple -/
theorem ev_tuplem {os : List Dt} (T : Blt M) (hg : sc.names.lookup ("tuple" : Str) = some .globalImplicit) (ha : EvM M N sc k a r os) (he : ∀ env, starEach [a] env = (false, eval a env) :: starEach [] env) : Ev M N sc k (.Call (.Name "tuple" p) [a] [] pos) r (.tup os) := fun X hX H0 G0 G H sg F Q q => by
  have hm := hX.gm
  subst hm
  refine ⟨_, pe_tupleOf (hX.gl hg) T.tuple pe_w (he _), ha X hX H0 G0 G H sg F _ fun p xs G1 H1 g1 hp r1 => ?_⟩
  refine .inl ⟨_, _, rfl, .inl (.inl hp), fun l hl => ?_⟩
  exact q _ _ _ (g1.trans (Grow.new g1.i hl)) (.tup (.inl (.inl upd_same)) (r1.mono (same_new (free_of g1.i hl))))
/-- a new list made a tuple at once -/
theorem ev_tuplen {os : List Dt} (T : Blt M) (hg : sc.names.lookup ("tuple" : Str) = some .globalImplicit) (ha : EvN M N sc k a r os) (he : ∀ env, starEach [a] env = (false, eval a env) :: starEach [] env) : Ev M N sc k (.Call (.Name "tuple" p) [a] [] pos) r (.tup os) := ev_tuple T hg ha.ev rfl he
def rgD (lo hi : Int) : List Dt := (List.range (hi - lo).toNat).map fun i => Dt.int (lo + (i : Nat))
theorem rg_rp {G : Hp} (lo hi : Int) : RpA M G (rgV lo hi) (rgD lo hi) := by
  unfold rgV rgD
  have e1 : (List.range (hi - lo).toNat).map (fun i => V.int (lo + (i : Nat))) = ((List.range (hi - lo).toNat).map fun i => lo + (i : Nat)).map V.int := by rw [List.map_map]; rfl
  have e2 : (List.range (hi - lo).toNat).map (fun i => Dt.int (lo + (i : Nat))) = ((List.range (hi - lo).toNat).map fun i => lo + (i : Nat)).map Dt.int := by rw [List.map_map]; rfl
  rw [e1, e2]
  exact RpA.ints _
/-- tuple(range(a, b)) -/
theorem ev_tupRg2 {lo hi : Int} {p2 pos2 : Pos} (T : Blt M) (hg : sc.names.lookup ("tuple" : Str) = some .globalImplicit) (hg2 : sc.names.lookup ("range" : Str) = some .globalImplicit) (ha : Ev M N sc k a r (.int lo)) (hb : Ev M N sc k b r (.int hi)) (h : RgOk lo hi)
    (na : ∀ env, starEach [a, b] env = (false, eval a env) :: starEach [b] env) (nb : ∀ env, starEach [b] env = (false, eval b env) :: starEach [] env) : Ev M N sc k (.Call (.Name "tuple" p) [.Call (.Name "range" p2) [a, b] [] pos2] [] pos) r (.tup (rgD lo hi)) := fun X hX H0 G0 G H sg F Q q => by
  refine ⟨_, pe_tupRg hX.calm (hX.gl hg) (by rw [hX.mg]; exact T.tuple) (prg_2 (hX.gl hg2) (by rw [hX.mg]; exact T.range) pe_w pe_w (na _) (nb _) (by rw [nb]; rfl)), ?_⟩
  refine ha X hX H0 G0 G H sg F _ fun v G1 H1 g1 r1 => hb X hX H0 G0 G1 H1 sg (F.grow g1) _ fun w G2 H2 g2 r2 => ?_
  cases r1
  cases r2
  refine ⟨_, _, rfl, rfl, h, fun l hl => ?_⟩
  exact q _ _ _ ((g1.trans g2).trans (Grow.new g2.i hl)) (.tup (.inl (.inl upd_same)) (rg_rp lo hi))
/-- list(range(a, b)) -/
theorem ev_lstRg2 {lo hi : Int} {p2 pos2 : Pos} (T : Blt M) (hg : sc.names.lookup ("list" : Str) = some .globalImplicit) (hg2 : sc.names.lookup ("range" : Str) = some .globalImplicit) (ha : Ev M N sc k a r (.int lo)) (hb : Ev M N sc k b r (.int hi)) (h : RgOk lo hi)
    (na : ∀ env, starEach [a, b] env = (false, eval a env) :: starEach [b] env) (nb : ∀ env, starEach [b] env = (false, eval b env) :: starEach [] env) : Ev M N sc k (.Call (.Name "list" p) [.Call (.Name "range" p2) [a, b] [] pos2] [] pos) r (.lst (rgD lo hi)) := fun X hX H0 G0 G H sg F Q q => by
  refine ⟨_, pe_listRg hX.calm (hX.gl hg) (by rw [hX.mg]; exact T.list) (prg_2 (hX.gl hg2) (by rw [hX.mg]; exact T.range) pe_w pe_w (na _) (nb _) (by rw [nb]; rfl)), ?_⟩
  refine ha X hX H0 G0 G H sg F _ fun v G1 H1 g1 r1 => hb X hX H0 G0 G1 H1 sg (F.grow g1) _ fun w G2 H2 g2 r2 => ?_
  cases r1
  cases r2
  refine ⟨_, _, rfl, rfl, h, fun l hl => ?_⟩
  exact q _ _ _ ((g1.trans g2).trans (Grow.new g2.i hl)) (.lst (.inl (.inl upd_same)) (rg_rp lo hi))
theorem ev_min2 {i j : Int} (T : Blt M) (hg : sc.names.lookup ("min" : Str) = some .globalImplicit) (ha : EvA M N sc k [a, b] r [.int i, .int j]) (he : ∀ env, starEach [a, b] env = (false, eval a env) :: starEach [b] env) (hp : ∀ env, (backTo pos (starEach [b] env)).any (·.1) = false) :
    Ev M N sc k (.Call (.Name "min" p) [a, b] [] pos) r (.int (if j < i then j else i)) := by
  refine ev_blt (fun X hX => call_min2 hX.calm) hg T.min (by decide +kernel) ha (fun vs G H s rv Q q => ?_) (by decide +kernel) (by decide +kernel) he hp
  cases rv with
  | cons r1 rn =>
    cases rn with
    | cons r2 rn =>
      cases rn
      cases r1
      cases r2
      exact ⟨_, _, rfl, q _ G H (Grow.refl s) (.int _)⟩
theorem ev_max2 {i j : Int} (T : Blt M) (hg : sc.names.lookup ("max" : Str) = some .globalImplicit) (ha : EvA M N sc k [a, b] r [.int i, .int j]) (he : ∀ env, starEach [a, b] env = (false, eval a env) :: starEach [b] env) (hp : ∀ env, (backTo pos (starEach [b] env)).any (·.1) = false) :
    Ev M N sc k (.Call (.Name "max" p) [a, b] [] pos) r (.int (if j > i then j else i)) := by
  refine ev_blt (fun X hX => call_max2 hX.calm) hg T.max (by decide +kernel) ha (fun vs G H s rv Q q => ?_) (by decide +kernel) (by decide +kernel) he hp
  cases rv with
  | cons r1 rn =>
    cases rn with
    | cons r2 rn =>
      cases rn
      cases r1
      cases r2
      exact ⟨_, _, rfl, q _ G H (Grow.refl s) (.int _)⟩
/-- sorted -/
structure SortOk (ds : List Dt) : Prop where
  p : pures ds = true
  al : PySem.W.AllAlike (ds.map Dt.py)
  so : PySem.W.Sortable (ds.map Dt.py)
  dp : deps ds ≤ 32
theorem sortOk_ints (is : List Int) : SortOk (is.map .int) := ⟨pures_ints is, alike_i is, sortable_i is, by rw [deps_ints]; exact Nat.zero_le _⟩
theorem cr_sort' (X : Cx) (hX : Xok M N sc k X) : CallR X (.builtin "sorted") (rSortD M) := by
  have hm := hX.gm
  refine cr_sortD ?_ hX.room.units
  subst hm
  rfl
theorem en_sorted {os : List Dt} (T : Blt M) (hg : sc.names.lookup ("sorted" : Str) = some .globalImplicit) (ha : Ev M N sc k a r d) (h : itemsD d = some os) (ho : SortOk os) (he : ∀ env, starEach [a] env = (false, eval a env) :: starEach [] env) :
    EvN M N sc k (.Call (.Name "sorted" p) [a] [] pos) r (os.mergeSort leD) := by
  refine en_blt (cr_sort' (M := M)) hg T.sorted (by decide +kernel) (ea_cons ha ea_nil he) (fun vs G H s rv Q q => ?_) (by decide +kernel) (by decide +kernel) he (fun _ => rfl)
  cases rv with
  | cons r1 rn =>
    cases rn
    cases r1 with
    | lst h1 a1 =>
      have e : some _ = some os := h
      injection e with e
      subst e
      exact ⟨G, _, _, _, s, rfl, .inl (same_l s h1), a1, ho.p, ho.al, ho.so, ho.dp, fun l ys hl ry => q l _ G H (Grow.refl s) hl ry⟩
    | tup h1 a1 =>
      have e : some _ = some os := h
      injection e with e
      subst e
      exact ⟨G, _, _, _, s, rfl, .inr (same_t s h1), a1, ho.p, ho.al, ho.so, ho.dp, fun l ys hl ry => q l _ G H (Grow.refl s) hl ry⟩
    | _ => cases h
theorem ev_sorted {os : List Dt} (T : Blt M) (hg : sc.names.lookup ("sorted" : Str) = some .globalImplicit) (ha : Ev M N sc k a r d) (h : itemsD d = some os) (ho : SortOk os) (he : ∀ env, starEach [a] env = (false, eval a env) :: starEach [] env) :
    Ev M N sc k (.Call (.Name "sorted" p) [a] [] pos) r (.lst (os.mergeSort leD)) := (en_sorted T hg ha h ho he).ev
/-- texts -/
theorem ev_split {x y : Str} {apos : Pos} (ha : Ev M N sc k a r (.str x)) (hb : Ev M N sc k b r (.str y)) (h1 : (y.length == 0) = false) (h2 : x.length + 2 ≤ sizeLine) (hs : ∀ env, starEach [b] env = [(false, eval b env)]) (hbase : ∀ env, attributeBase a "split" env (eval a env) = eval a env) (hline : (apos.endLine == pos.line) = true) :
    Ev M N sc k (.Call (.Attribute a "split" apos) [b] [] pos) r (.lst ((Txt.split x y).map .str)) := fun X hX H0 G0 G H sg F Q q => by
  refine ⟨_, pe_split pe_w pe_w (hs _) (hbase _) hline, ha X hX H0 G0 G H sg F _ fun v G1 H1 g1 r1 => ?_⟩
  cases r1
  refine ⟨⟨_, rfl⟩, hb X hX H0 G0 G1 H1 sg (F.grow g1) _ fun w G2 H2 g2 r2 => ?_⟩
  cases r2
  refine ⟨_, _, rfl, rfl, h1, h2, fun l hl => ?_⟩
  exact q _ _ _ ((g1.trans g2).trans (Grow.new g2.i hl)) (.lst (.inl (.inl upd_same)) (RpA.strs _))
theorem ev_join {x : Str} {ys : List Str} {apos : Pos} (ha : Ev M N sc k a r (.str x)) (hb : Ev M N sc k b r (.lst (ys.map .str))) (h1 : (ys.map (·.length)).sum + ys.length * x.length ≤ 16777216) (hs : ∀ env, starEach [b] env = [(false, eval b env)]) (hbase : ∀ env, attributeBase a "join" env (eval a env) = eval a env) (hline : (apos.endLine == pos.line) = true) :
    Ev M N sc k (.Call (.Attribute a "join" apos) [b] [] pos) r (.str (Txt.join x ys)) := fun X hX H0 G0 G H sg F Q q => by
  have hm := hX.gm
  subst hm
  refine ⟨_, pe_join pe_w pe_w (hs _) (hbase _) hline, ha X hX H0 G0 G H sg F _ fun v G1 H1 g1 r1 => ?_⟩
  cases r1
  refine ⟨⟨_, rfl⟩, hb X hX H0 G0 G1 H1 sg (F.grow g1) _ fun w G2 H2 g2 r2 => ?_⟩
  cases r2 with
  | lst s1 a1 =>
    have e := a1.inv_strs
    subst e
    exact ⟨_, _, ys, rfl, rfl, .inl (same_l g2.i s1), h1, q _ _ _ (g1.trans g2) (.str _)⟩
/-- isinstance(text, str) -/
theorem ev_isStr {x : Str} {p2 : Pos} (T : Blt M) (hg : sc.names.lookup ("isinstance" : Str) = some .globalImplicit) (hg2 : sc.names.lookup ("str" : Str) = some .globalImplicit) (ha : Ev M N sc k a r (.str x)) (he : ∀ env, starEach [a, .Name "str" p2] env = (false, eval a env) :: starEach [.Name "str" p2] env) :
    Ev M N sc k (.Call (.Name "isinstance" p) [a, .Name "str" p2] [] pos) r (.bl true) := fun X hX H0 G0 G H sg F Q q => by
  refine ⟨_, pe_callB call_isi (hX.gl hg) (by rw [hX.mg]; exact T.isinstance) (by decide +kernel) (pa_cons pe_w (pa_cons (pe_bltn (v := .ty "str") (hX.gl hg2) (by rw [hX.mg]; exact T.str) (by decide +kernel) rfl (by decide +kernel) (by decide +kernel)) pa_nil) (he _)) (by decide +kernel) (by decide +kernel) (he _) rfl, ?_⟩
  refine ha X hX H0 G0 G H sg F _ fun v G1 H1 g1 r1 => ?_
  cases r1
  exact ⟨_, _, _, _, true, rfl, .ty "str", .base (.str x), kit_ty (by decide +kernel), q _ _ _ g1 (.bl _)⟩
end
end Ts

set_option Elab.async false
set_option linter.all false
set_option maxRecDepth 100000
set_option maxHeartbeats 4000000
/-! DE: enumerate over a tuple; a tuple times 0 or 1. -/
namespace Ts
open PySem L2 PyProof.Rows
open AutoSeq1 (wpAny_loadPart')

theorem meets_enum_newT (l : Addr) (items : Array Value) (n : Nat) (dct : Option Addr) (sl : Array (Option Value)) :
    Meets (Builtin.«enumerate.__new__» ⟨[.type "enumerate", .ref l], []⟩) (fun _ R s => s.heap.get? l = some { cls := .type "tuple", dict := dct, data := .seq items n, slots := sl } ∧
      R (.ok (.ret (.ref (s.heap.push { cls := .type "tuple_iterator", data := .fields #[.ref l, .int 0 0] }).objs.size)))
        { s with heap := (s.heap.push { cls := .type "tuple_iterator", data := .fields #[.ref l, .int 0 0] }).push { cls := .type "enumerate", data := .fields #[.none, .bool false, .ref s.heap.objs.size, rawInt 0, .none, .none] } }) :=
  .of_wp fun prog w A R s h => by
    obtain ⟨hp, g, d, tk, os⟩ := s; obtain ⟨hl, h⟩ := h
    have hsub := sub_enumerate
    have hL : Heap.IsTuple (Shared.heap ⟨hp, g, d, tk, os⟩) l items := ⟨_, hl, rfl, n, rfl⟩
    wp_walk using wpAny_loadPart' hl
    refine wpAny_stack_any fun st => wpAny_pure ?_
    split
    · rename_i c _ _ _ _ _
      cases (c == Value.type "enumerate")
      · wp_walk using wpAny_loadPart' hl, wpAny_pyIter_tuple hL
        exact ⟨_, rfl, h⟩
      · wp_walk using wpAny_loadPart' hl, wpAny_pyIter_tuple hL
        exact ⟨_, rfl, h⟩
    · wp_walk using wpAny_loadPart' hl, wpAny_pyIter_tuple hL
      exact ⟨_, rfl, h⟩
section
variable {prog : Program} {w : World} {A : Around} {E : Value → Shared → Prop} {s : Shared}
theorem call_enum_tup {l : Addr} {items : Array Value} {Q : Value → Shared → Prop} (hL : s.heap.IsTuple l items)
    (h : ∀ h', IsEnum h' (s.heap.objs.size + 1) s.heap.objs.size 0 .none → h'.IsTupleIter s.heap.objs.size l 0 → h'.objs.size = s.heap.objs.size + 2 →
      (∀ b o, s.heap.get? b = some o → h'.get? b = some o) → Q (.ref (s.heap.objs.size + 1)) { s with heap := h' }) :
    wpAny (model prog w) A (call (.type "enumerate") [.ref l]) Q E s := by
  obtain ⟨⟨c, dct, dt, sl⟩, hl, hc, n, hd⟩ := hL
  replace hc : c = .type "tuple" := hc
  replace hd : dt = .seq items n := hd
  subst hc hd
  refine callType_new F.called_enumerate (by decide) (F.typeCall_enumerate_1 _) (F.newCall_enumerate_1 _) (fun obj => F.args_object_init_2 obj _) F.entry_enumerate_new
    (meets_enum_newT l items n dct sl) ⟨hl, ?_⟩
  have hz : (s.heap.push { cls := .type "tuple_iterator", data := .fields #[.ref l, .int 0 0] }).objs.size = s.heap.objs.size + 1 := Heap.size_push ..
  show _ ∧ _
  rw [hz]
  have he : IsEnum ((s.heap.push { cls := .type "tuple_iterator", data := .fields #[.ref l, .int 0 0] }).push
      { cls := .type "enumerate", data := .fields #[.none, .bool false, .ref s.heap.objs.size, rawInt 0, .none, .none] }) (s.heap.objs.size + 1) s.heap.objs.size 0 .none := by
    have := Heap.get?_push_size (s.heap.push { cls := .type "tuple_iterator", data := .fields #[.ref l, .int 0 0] })
      (o := { cls := .type "enumerate", data := .fields #[.none, .bool false, .ref s.heap.objs.size, rawInt 0, .none, .none] }) rfl
    rw [hz] at this; exact this
  refine ⟨⟨_, he, rfl⟩, h _ he ⟨_, Heap.get?_push_of_some _ (Heap.get?_push_size _ rfl), rfl, rfl⟩ (by rw [Heap.size_push, hz]) fun b o x => Heap.get?_push_of_some _ (Heap.get?_push_of_some _ x)⟩
end
section
variable {prog : Program} {w : World} {A : Around} {E : Value → Shared → Prop} {s : Shared}
theorem enum_end {e it l : Addr} {i : Nat} {items : Array Value} {old : Value} {Q : Option Value → Shared → Prop} (hh : A.handled = none)
    (he : IsEnum s.heap e it i old) (hit : s.heap.IsTupleIter it l i) (hl : s.heap.IsTuple l items) (hx : items[i]? = none)
    (hQ : ∀ h', Heap.ExtBut it s.heap h' → Q none { s with heap := h' }) : wpAny (model prog w) A (pyNext (.ref e)) Q E s := by
  have hT : s.TypeIs (.ref e) "enumerate" := ⟨_, he, rfl⟩
  unfold pyNext
  refine wpAny_bind (wpAny_attempt (wpAny_callSpecial?_slot (name := Str.ofString "__next__") hT F.slot_enumerate_next
    (wpAny_call_entry F.slot_enumerate_next hT F.entry_enumerate_next ?_ (F.args_enumerate_next_1 _))))
  show wpAny _ _ (field (.ref e) 2 >>= _) _ _ _
  refine wpAny_bind (wpAny_field he rfl (x := .ref it) rfl ?_)
  refine wpAny_bind (wpAny_nextOf_tuple_end (A := A.in1) hh hit hl hx fun h' x he' hx' => ?_)
  obtain ⟨o, ho, hc⟩ := hx'
  refine wpAny_bind (wpAny_isInstance (T := "StopIteration") (b := true) ⟨o, ho, hc⟩ isSubtype_stop ?_)
  exact wpAny_pure (hQ _ he')
end
/-- a tuple's items in new pairs -/
def Itet (K : PySem.W.Frag) (a : Addr) : It :=
  ⟨fun i H => ∃ (xs : List V) (x : V), SqT K H a xs ∧ xs[i]? = some x, fun i H v H' => ∃ T x, v = .ref T ∧ H T = none ∧ H' = upd H T (.tup [.int (i : Nat), x]) ∧ ∀ xs, SqT K H a xs → xs[i]? = some x, fun i H => ∃ xs : List V, SqT K H a xs ∧ xs.length ≤ i⟩
theorem turn_enumT {P : Program} {w : World} {K : PySem.W.Frag} {elts : List Expr} {kk : Nat} {tpos : Pos} (a e it : Addr) :
    Turn P w K (.Tuple elts kk tpos) (Itet K a) [e, it] e (fun i h => (∃ old, IsEnum h e it ((i : Nat) : Int) old) ∧ h.IsTupleIter it a i ∧ e ≠ it) where
  mem := by simp
  obj := fun i h st b hb => by
    obtain ⟨⟨old, he⟩, ⟨o, ho, hc, hd⟩, _⟩ := st
    have e' : b = e ∨ b = it := by simpa using hb
    rcases e' with z | z
    · rw [z]; exact ⟨_, he, fun v q => nomatch q⟩
    · rw [z]; exact ⟨o, ho, fun v q => by rw [hd] at q; cases q⟩
  keep := fun i h h' st k => let ⟨⟨old, he⟩, hi, hne⟩ := st; ⟨⟨old, k e (by simp) _ he⟩, hi.at fun o q => k it (by simp) o q, hne⟩
  item := by
    intro X hP hw hK hc i pins s sg H E I hf st hg
    subst hP hw hK
    obtain ⟨⟨old, he⟩, hit, hne⟩ := st
    obtain ⟨xs, x, hq, hx⟩ := hg
    obtain ⟨its, rv, p, hz⟩ := I.tuple hq
    obtain ⟨u, hu, ru⟩ := rv.get hx
    have hel : e < s.heap.objs.size := Heap.lt_size he
    have hil : it < s.heap.objs.size := by obtain ⟨_, q, _⟩ := hit; exact Heap.lt_size q
    have hai : a ≠ it := fun z => by
      obtain ⟨o1, h1, c1, _⟩ := p
      obtain ⟨o2, h2, c2, _⟩ := hit
      rw [z, h2] at h1
      cases h1
      rw [c2] at c1
      exact absurd c1 (by decide)
    have hae : e ≠ a := fun z => by
      obtain ⟨o1, h1, c1, _⟩ := p
      rw [← z, show s.heap.get? e = _ from he] at h1
      cases h1
      have c2 : (Value.type "enumerate") = Value.type "tuple" := c1
      exact absurd c2 (by decide)
    have hlt : i < its.toArray.size := by
      rw [List.size_toArray]
      exact (List.getElem?_eq_some_iff.mp hu).1
    refine wpAny_pyNext_enum_itemD (Draws.tuple (A := X.A.in1) (I.ok.hd hc) it a hai its.toArray) he ⟨hit, p⟩ hlt hne (by simp [hne, hae]) fun y h' tk hy ho hst hT hsz hk => ?_
    have hyu : y = u := by
      have h1 : its.toArray[i]? = some y := hy
      rw [List.getElem?_toArray, hu] at h1
      exact (Option.some.inj h1).symm
    subst hyu
    refine ⟨_, rfl, wpAny_letOwnedTupleGo_enum (s := { s with heap := h', toks := tk + 1 }) ho fun h'' he' sb => ?_⟩
    have hT2 : h''.get? s.heap.objs.size = some { cls := .type "tuple", data := .seq #[.int i tk, y] } := (sb.2 _ (Nat.ne_of_gt hel)).trans hT
    have new : ObjOk X.prog X.w (upd H s.heap.objs.size (.tup [.int (i : Nat), x])) h'' s.heap.objs.size (.tup [.int (i : Nat), x]) :=
      ⟨by show 2 ≤ sizeLine; decide, [.int i tk, y], .cons ⟨_, rfl⟩ (.cons ru .nil), ⟨_, hT2, rfl, _, rfl⟩⟩
    have I1 : Inv X pins sg (upd H s.heap.objs.size (.tup [.int (i : Nat), x])) { s with heap := h'', toks := tk + 1 } :=
      I.turnedNew (ch := [e, it]) (fun b ob hb q => (sb.2 b (fun z => hb (by simp [z]))).trans (hk b ob (fun z => hb (by simp [z])) (fun z => hb (by simp [z])) q)) hf (Nat.le_refl _) new
    refine ⟨.ref s.heap.objs.size, _, I1, rfl, ⟨_, x, rfl, I.hok.fresh (Nat.le_refl _), rfl, fun ys hy => by rw [I.tuple_inj hy hq]; exact hx⟩, ⟨⟨y, ?_⟩, hst.1.at fun o q => (sb.2 it (Ne.symm hne)).trans q, hne⟩, fun b hb => ?_⟩
    · have e1 : ((i + 1 : Nat) : Int) = (i : Int) + 1 := by omega
      rw [e1]; exact he'
    · have hb' : b < s.heap.objs.size := by
        have e' : b = e ∨ b = it := by simpa using hb
        rcases e' with z | z
        · rw [z]; exact hel
        · rw [z]; exact hil
      rw [upd_ne (Nat.ne_of_lt hb')]
      exact (hf b hb).1
  done := by
    intro X hP hw hK hc i pins s sg H E I hf st hg
    subst hP hw hK
    obtain ⟨⟨old, he⟩, hit, hne⟩ := st
    obtain ⟨xs, hq, hx⟩ := hg
    obtain ⟨its, rv, p, hz⟩ := I.tuple hq
    obtain ⟨f0, f1, f2, f3, f4, f5⟩ := hf it (by simp)
    have hl := rv.length
    have hai : a ≠ it := fun z => by
      obtain ⟨o1, h1, c1, _⟩ := p
      obtain ⟨o2, h2, c2, _⟩ := hit
      rw [z, h2] at h1
      cases h1
      rw [c2] at c1
      exact absurd c1 (by decide)
    have hx2 : its.toArray[i]? = none := by
      rw [List.getElem?_toArray, List.getElem?_eq_none_iff]
      omega
    refine enum_end (I.ok.hd hc) he hit (show s.heap.IsTuple a its.toArray from p) hx2 fun h' eb => ⟨rfl, I.turned (t' := s.toks) (fun b o hb q => eb b o hb q) f0 f1 f3 f4 f5⟩
  self := fun A i s Q E st h => let ⟨⟨_, he⟩, _⟩ := st; wpAny_pyIter_enum he h
def iEnumT (K : PySem.W.Frag) (ta : TA) : TI := fun sg H R => ta sg H fun vs H1 => ∃ a xs, vs = [.ref a] ∧ SqT K H1 a xs ∧ R (Itet K a) H1
theorem pi_enumT {X : Cx} {e : Expr} {ta : TA} {p pos tpos : Pos} {elts : List Expr} {kk : Nat} (hg : Gl X "enumerate") (hm : X.mg "enumerate" = none) (ha : PA X [e] ta) (hs : starEach [e] X.env = [(false, eval e X.env)]) :
    PI X (.Tuple elts kk tpos) (.Call (.Name "enumerate" p) [e] [] pos) (iEnumT X.K ta) := by
  refine ⟨fun pins s sg H R I h => ?_⟩
  refine Call_ (ld_blt I hg hm boot_enumerate (PyProof.Rows.callWith_type1 (thn (ha.run pos pins s sg H _ I h) fun us s1 ⟨vs, H1, I1, r1, q1⟩ => ?_) hs rfl))
  obtain ⟨a, xs, ex, hq, q⟩ := q1
  subst ex
  cases r1 with
  | cons r rr =>
    cases rr
    cases r
    obtain ⟨its, rv, p', hz⟩ := I1.tuple hq
    refine call_enum_tup (show s1.heap.IsTuple a its.toArray from p') fun h' he hit hsz hk => wpAny_pyIter_enum he ?_
    have I2 : Inv X pins sg H1 { s1 with heap := h' } := I1.kept (t' := s1.toks) hk
    refine ⟨s1.heap.objs.size + 1, [s1.heap.objs.size + 1, s1.heap.objs.size], _, _, H1, rfl, I2, turn_enumT a (s1.heap.objs.size + 1) s1.heap.objs.size, ⟨⟨.none, he⟩, hit, Nat.succ_ne_self _⟩, fun b hb => ?_, q⟩
    have e' : b = s1.heap.objs.size + 1 ∨ b = s1.heap.objs.size := by simpa using hb
    have hle : s1.heap.objs.size ≤ b := by
      rcases e' with z | z
      · rw [z]; exact Nat.le_add_right _ _
      · rw [z]; exact Nat.le_refl _
    exact I1.fpOk hle (I1.hok.fresh hle)
theorem tuple_mul1 (l : Addr) (v : Value) (n : Nat) (dd : Option Addr) (sl : Array (Option Value)) (u : Tok) :
    Meets (Builtin.«tuple.__mul__» ⟨[.ref l, .int 1 u], []⟩) (fun _ R s => s.heap.get? l = some { cls := .type "tuple", dict := dd, data := .seq #[v] n, slots := sl } ∧
      R (.ok (.ret (Value.ref l))) s) :=
  .of_wp fun prog w A R s h => by
    obtain ⟨hp, g, d, tk, os⟩ := s
    obtain ⟨hl, h⟩ := h
    have f1 := AutoSeq1.idx_int
    wp_walk using wpAny_loadPart' hl
    exact ⟨_, rfl, h⟩
theorem tuple_mul0 (l : Addr) (v : Value) (n : Nat) (dd : Option Addr) (sl : Array (Option Value)) (u : Tok) :
    Meets (Builtin.«tuple.__mul__» ⟨[.ref l, .int 0 u], []⟩) (fun _ R s => s.heap.get? l = some { cls := .type "tuple", dict := dd, data := .seq #[v] n, slots := sl } ∧
      R (.ok (.ret (Value.ref s.heap.objs.size))) { s with heap := s.heap.push { cls := Value.type "tuple", data := Data.seq #[] }, toks := s.toks }) :=
  .of_wp fun prog w A R s h => by
    obtain ⟨hp, g, d, tk, os⟩ := s
    obtain ⟨hl, h⟩ := h
    have f1 := AutoSeq1.idx_int
    wp_walk using wpAny_loadPart' hl
    exact ⟨_, rfl, h⟩

/-- (x,) * n for n = 0, 1 -/
def rRepS (K : PySem.W.Frag) : R2 := fun x y H Q => ∃ l k v, x = .ref l ∧ y = .int k ∧ SqT K H l [v] ∧ ((k = 1 ∧ Q (.ref l) H) ∨ (k = 0 ∧ ∀ p, H p = none → Q (.ref p) (upd H p (.tup []))))
theorem op_repS {X : Cx} : OpR X (binaryOp .Mult) (rRepS X.K) := by
  intro pins s sg H x y v u Q I rx ry h
  obtain ⟨l, k, xv, rfl, rfl, hT, q⟩ := h
  cases rx
  obtain ⟨t, rfl⟩ := ry
  obtain ⟨its, r, ⟨⟨cls, dd, data, sl⟩, ho, hc, n, hd⟩, hs⟩ := I.tuple hT
  simp only at hc hd
  subst hc hd
  obtain ⟨u0, eu, _⟩ := Vals.one r
  subst eu
  · rcases q with ⟨rfl, q⟩ | ⟨rfl, q⟩
    · exact wpAny_binaryOp_repeat_ref (T := "tuple") (U := "int") (by decide) ⟨_, ho, rfl⟩ (fun s' => typeIs_int s' 1 t) noFill_tuple_mul F.fills_int_mul F.slot_int_rmul repeat_tuple F.slot_int_index.lookup
        (call_meets F.slot_int_rmul (typeIs_int s 1 t) F.entry_int_rmul (F.args_int_rmul_2 _ _) (int_rmul_tuple 1 t l [u0].toArray n dd sl)
          ⟨ho, rfl, ⟨_, ho, rfl⟩, call_meets F.slot_tuple_mul ⟨_, ho, rfl⟩ F.entry_tuple_mul (F.args_tuple_mul_2 _ _) (tuple_mul1 l u0 n dd sl t) ⟨ho, ⟨.ref l, H, I, rfl, q⟩⟩⟩)
    · refine wpAny_binaryOp_repeat_ref (T := "tuple") (U := "int") (by decide) ⟨_, ho, rfl⟩ (fun s' => typeIs_int s' 0 t) noFill_tuple_mul F.fills_int_mul F.slot_int_rmul repeat_tuple F.slot_int_index.lookup
        (call_meets F.slot_int_rmul (typeIs_int s 0 t) F.entry_int_rmul (F.args_int_rmul_2 _ _) (int_rmul_tuple 0 t l [u0].toArray n dd sl)
          ⟨ho, rfl, ⟨_, ho, rfl⟩, call_meets F.slot_tuple_mul ⟨_, ho, rfl⟩ F.entry_tuple_mul (F.args_tuple_mul_2 _ _) (tuple_mul0 l u0 n dd sl t) ⟨ho, ?_⟩⟩)
      refine ⟨.ref s.heap.objs.size, _, I.laid (t' := s.toks) (o := .tup []) (fun b ob q => Heap.get?_push_of_some _ q) (Nat.le_refl _) ?_, rfl, q _ (I.hok.fresh (Nat.le_refl _))⟩
      exact ⟨Nat.zero_le _, [], .nil, IsTup.new _ _⟩
theorem ev_rep {M : Gm} {N : List Str} {sc : Scope} {k : Nat} {a b : Expr} {r : List Sl} {x : Dt} {n : Int} {pos : Pos} (ha : Ev M N sc k a r (.tup [x])) (hb : Ev M N sc k b r (.int n)) (h0 : 0 ≤ n) (h1 : n ≤ 1000) : Ev M N sc k (.BinOp a .Mult b pos) r (.tup (List.replicate n.toNat x)) := by
  by_cases h2 : 2 ≤ n
  · exact ev_bin ha hb (.rep x n h2 h1)
  · intro X hX H0 G0 G H sg F Q q
    have hm := hX.gm
    subst hm
    refine ⟨_, pe_op op_repS pe_w pe_w, two hX ha hb F (d := .tup (List.replicate n.toNat x)) (fun v w G H e r1 r2 Q q => ?_) q⟩
    cases r2
    cases r1 with
    | tup t1 a1 =>
      cases a1 with
      | cons rx rn =>
        cases rn
        refine ⟨_, n, _, rfl, rfl, same_t e t1, ?_⟩
        by_cases h3 : n = 1
        · subst h3
          exact .inl ⟨rfl, q _ G H (Grow.refl e) (.tup t1 (.cons rx .nil))⟩
        · have h4 : n = 0 := by omega
          subst h4
          exact .inr ⟨rfl, fun p hp => q _ _ _ (Grow.new e hp) (.tup (.inl (.inl upd_same)) .nil)⟩
end Ts

set_option Elab.async false
set_option linter.all false
set_option maxRecDepth 100000
set_option maxHeartbeats 4000000
/-! D4: targets, what is walked, comprehensions, over data. -/
namespace Ts
open PySem L2

/-! ### targets -/
def wG (X : Cx) (tg : Expr) : TG := fun v sg H Q => ∃ g, PG X tg g ∧ g v sg H Q
theorem pg_w {X : Cx} {tg : Expr} : PG X tg (wG X tg) := ⟨fun pins s sg H v u Q I r ⟨_, p, h⟩ => p.run pins s sg H v u Q I r h⟩
def wGs (X : Cx) (ts : List Expr) : TGs := fun vs sg H Q => ∃ g, PGs X ts g ∧ g vs sg H Q
theorem pgs_w {X : Cx} {ts : List Expr} : PGs X ts (wGs X ts) := ⟨fun pins s sg H v u Q I r ⟨_, p, h⟩ => p.run pins s sg H v u Q I r h⟩

theorem wipe_in {sg : L2.St} : ∀ {vs : List Nat} {i : Nat}, i ∈ vs → (wipe sg vs)[i]? = if i < sg.length then some none else none
  | v :: vs, i, h => by
    unfold wipe
    by_cases hv : v = i
    · subst hv
      rw [List.getElem?_set]
      rw [if_pos rfl, wipe_length]
    · rw [List.getElem?_set_ne hv]
      rcases List.mem_cons.mp h with z | z
      · exact absurd z.symm hv
      · exact wipe_in z
theorem wipe_ni {sg : L2.St} {i : Nat} : ∀ {vs : List Nat}, i ∉ vs → (wipe sg vs)[i]? = sg[i]?
  | [], _ => rfl
  | v :: vs, h => by
    have h1 : v ≠ i := fun e => h (by rw [e]; exact List.mem_cons_self)
    unfold wipe
    rw [List.getElem?_set_ne h1]
    exact wipe_ni fun z => h (List.mem_cons_of_mem _ z)
theorem wipe_set {sg : L2.St} {i : Nat} {o : Option V} {vs : List Nat} (h : i ∈ vs) : wipe (sg.set i o) vs = wipe sg vs := by
  apply List.ext_getElem?
  intro j
  by_cases hj : j ∈ vs
  · rw [wipe_in hj, wipe_in hj, List.length_set]
  · rw [wipe_ni hj, wipe_ni hj]
    have : i ≠ j := fun e => hj (e ▸ h)
    rw [List.getElem?_set_ne this]
theorem wipe_wipe {sg : L2.St} (vs : List Nat) : wipe (wipe sg vs) vs = wipe sg vs := by
  apply List.ext_getElem?
  intro j
  by_cases hj : j ∈ vs
  · rw [wipe_in hj, wipe_in hj, wipe_length]
  · rw [wipe_ni hj]
/-- slots forgotten -/
def wipeR (r : List Sl) : List Nat → List Sl
  | [] => r
  | v :: vs => (wipeR r vs).set v .no
theorem Fr.wipe {M : Gm} {H0 G0 G H : Hp} {sg : L2.St} {r : List Sl} (F : Fr M H0 G0 G H sg r) : ∀ vs : List Nat, Fr M H0 G0 G H (L2.wipe sg vs) (wipeR r vs)
  | [] => F
  | v :: vs => (Fr.wipe F vs).forget v

def Tgt (M : Gm) (N : List Str) (sc : Scope) (k : Nat) (tg : Expr) (is : List Nat) (d : Dt) (r r' : List Sl) : Prop :=
  ∀ X, Xok M N sc k X → ∀ H0 G0 G H sg v, Fr M H0 G0 G H sg r → Rp M G v d → ∀ Q : L2.St → Hp → Prop, (∀ sg', Fr M H0 G0 G H sg' r' → (∀ vs : List Nat, (∀ i ∈ is, i ∈ vs) → wipe sg' vs = wipe sg vs) → Q sg' H) → wG X tg v sg H Q
def TgtL (M : Gm) (N : List Str) (sc : Scope) (k : Nat) (ts : List Expr) (is : List Nat) (ds : List Dt) (r r' : List Sl) : Prop :=
  ∀ X, Xok M N sc k X → ∀ H0 G0 G H sg vs, Fr M H0 G0 G H sg r → RpA M G vs ds → ∀ Q : L2.St → Hp → Prop, (∀ sg', Fr M H0 G0 G H sg' r' → (∀ ws : List Nat, (∀ i ∈ is, i ∈ ws) → wipe sg' ws = wipe sg ws) → Q sg' H) → wGs X ts vs sg H Q
section
variable {M : Gm} {N : List Str} {sc : Scope} {k : Nat} {e a b iter tg elt : Expr} {es rest ts : List Expr} {r r' r1 r2 : List Sl} {d d1 d2 : Dt} {ds : List Dt} {pos p : Pos} {x : Str}
theorem tg_loc {i : Nat} (hN : N[i]? = some x) (hx : sc.names.lookup x = some .local) : Tgt M N sc k (.Name x pos) [i] d r (r.set i (.dat d)) := fun X hX H0 G0 G H sg v F rv Q q => by
  refine ⟨_, pg_name (by rw [hX.nm]; exact hX.nd) (by rw [hX.nm]; exact hN) (by rw [hX.scp]; exact .inl hx) (by rw [hX.scp]; exact .inr hx), ?_⟩
  exact q _ (F.setD i rv) fun vs hv => wipe_set (hv i List.mem_cons_self)
theorem tg_cel {i : Nat} (hN : N[i]? = some x) (hx : sc.names.lookup x = some .cell) (h0 : sc.names.lookup (".0" : Str) = none) : Tgt M N sc k (.Name x pos) [i] d r (r.set i (.dat d)) := fun X hX H0 G0 G H sg v F rv Q q => by
  refine ⟨_, pg_name (by rw [hX.nm]; exact hX.nd) (by rw [hX.nm]; exact hN) (by rw [hX.scp]; exact .inr hx) (.inl (hX.cell h0 x hx)), ?_⟩
  exact q _ (F.setD i rv) fun vs hv => wipe_set (hv i List.mem_cons_self)
theorem tgs_nil : TgtL M N sc k [] [] [] r r := fun X hX H0 G0 G H sg vs F rv Q q => by
  cases rv
  exact ⟨_, pgs_nil, rfl, q _ F fun _ _ => rfl⟩
theorem tgs_cons {is js : List Nat} (h1 : Tgt M N sc k e is d r r1) (h2 : TgtL M N sc k es js ds r1 r2) (hs : ∀ env, (assignEach (e :: es) env).map (·.2) = assign e env :: (assignEach es env).map (·.2)) : TgtL M N sc k (e :: es) (is ++ js) (d :: ds) r r2 := fun X hX H0 G0 G H sg vs F rv Q q => by
  cases rv with
  | cons rv rr =>
    refine ⟨_, pgs_cons pg_w pgs_w (hs _), _, _, rfl, ?_⟩
    refine h1 X hX H0 G0 G H sg _ F rv _ fun sg1 F1 w1 => ?_
    refine h2 X hX H0 G0 G H sg1 _ F1 rr _ fun sg2 F2 w2 => ?_
    exact q _ F2 fun ws hw => (w2 ws fun i hi => hw i (List.mem_append_right _ hi)).trans (w1 ws fun i hi => hw i (List.mem_append_left _ hi))
theorem tg_tup {is : List Nat} {j n : Nat} (h : TgtL M N sc k es is ds r r') (hl : ds.length = n) (hn : ∀ env, (assignEach es env).length = n) (hst : ∀ env, (assignEach es env).findIdx? (·.1) = none) : Tgt M N sc k (.Tuple es j pos) is (.tup ds) r r' := fun X hX H0 G0 G H sg v F rv Q q => by
  have hm := hX.gm
  subst hm
  cases rv with
  | tup h1 a1 =>
    refine ⟨_, pg_tup hX.calm pgs_w (hn _) (hst _), _, _, rfl, same_t F.gh h1, by rw [a1.length]; exact hl, ?_⟩
    exact h X hX H0 G0 G H sg _ F a1 Q q

/-! ### what is walked -/
structure WalkD (M : Gm) (J : It) (G1 : Hp) (ds : List Dt) : Prop where
  go : ∀ i H, i < ds.length → Same G1 H → J.go i H
  stop : ∀ H, Same G1 H → J.stop ds.length H
  yld : ∀ i H x H', i < ds.length → Same G1 H → J.yld i H x H' → ∀ G2, Same G1 G2 → Same G2 H → ∃ G' d, Grow G2 H G' H' ∧ ds[i]? = some d ∧ Rp M G' x d
def EvI (M : Gm) (N : List Str) (sc : Scope) (k : Nat) (tg iter : Expr) (r : List Sl) (ds : List Dt) : Prop :=
  ∀ X, Xok M N sc k X → ∀ H0 G0 G H sg, Fr M H0 G0 G H sg r → ∀ R : It → Hp → Prop, (∀ J G' H', Grow G H G' H' → WalkD M J G' ds → R J H') → ∃ wi, PI X tg iter wi ∧ wi sg H R
theorem same_get {xs : List V} {ds : List Dt} {G : Hp} {i : Nat} (h : RpA M G xs ds) (hi : i < ds.length) : ∃ v d, xs[i]? = some v ∧ ds[i]? = some d ∧ Rp M G v d := by
  have e : ds[i]? = some ds[i] := by simp [hi]
  obtain ⟨v, h1, h2⟩ := h.get e
  exact ⟨v, _, h1, e, h2⟩
theorem ei_list (h : Ev M N sc k iter r (.lst ds)) : EvI M N sc k tg iter r ds := fun X hX H0 G0 G H sg F R q => by
  have hm := hX.gm
  subst hm
  refine ⟨_, pi_list pe_w, h X hX H0 G0 G H sg F _ fun v G1 H1 g1 r1 => ?_⟩
  cases r1 with
  | @lst a xs _ h1 a1 =>
    refine ⟨a, rfl, ⟨xs, same_l g1.i h1⟩, q _ G1 H1 g1 ⟨fun i H hi s => ?_, fun H s => ⟨xs, same_l s h1, by rw [a1.length]; exact Nat.le_refl _⟩, fun i H x H' hi s y G2 s1 s2 => ?_⟩⟩
    · obtain ⟨v, d, e1, _, _⟩ := same_get a1 hi
      exact ⟨xs, v, same_l s h1, e1⟩
    · obtain ⟨rfl, y⟩ := y
      obtain ⟨v, d, e1, e2, e3⟩ := same_get a1 hi
      have z := y xs (same_l s h1)
      rw [e1] at z
      cases z
      exact ⟨G2, d, Grow.refl s2, e2, e3.mono s1⟩
theorem ei_tup (h : Ev M N sc k iter r (.tup ds)) : EvI M N sc k tg iter r ds := fun X hX H0 G0 G H sg F R q => by
  have hm := hX.gm
  subst hm
  refine ⟨_, pi_tup pe_w, h X hX H0 G0 G H sg F _ fun v G1 H1 g1 r1 => ?_⟩
  cases r1 with
  | @tup a xs _ h1 a1 =>
    refine ⟨a, rfl, ⟨xs, same_t g1.i h1⟩, q _ G1 H1 g1 ⟨fun i H hi s => ?_, fun H s => ⟨xs, same_t s h1, by rw [a1.length]; exact Nat.le_refl _⟩, fun i H x H' hi s y G2 s1 s2 => ?_⟩⟩
    · obtain ⟨v, d, e1, _, _⟩ := same_get a1 hi
      exact ⟨xs, v, same_t s h1, e1⟩
    · obtain ⟨rfl, y⟩ := y
      obtain ⟨v, d, e1, e2, e3⟩ := same_get a1 hi
      have z := y xs (same_t s h1)
      rw [e1] at z
      cases z
      exact ⟨G2, d, Grow.refl s2, e2, e3.mono s1⟩
/-- the signs of a text -/
def signs (z : Str) : List Nat := z.cps.toList
theorem ei_str {z : Str} (h : Ev M N sc k iter r (.str z)) : EvI M N sc k tg iter r ((signs z).map fun c => .str ⟨#[c]⟩) := fun X hX H0 G0 G H sg F R q => by
  refine ⟨_, pi_str pe_w, h X hX H0 G0 G H sg F _ fun v G1 H1 g1 r1 => ?_⟩
  cases r1
  have hl : ((signs z).map fun c => Dt.str ⟨#[c]⟩).length = z.cps.size := by rw [List.length_map]; exact Array.length_toList
  refine ⟨z, rfl, q _ G1 H1 g1 ⟨fun i H hi s => ?_, fun H s => ?_, fun i H x H' hi s y G2 s1 s2 => ?_⟩⟩
  · rw [hl] at hi
    exact hi
  · show z.cps.size ≤ _
    rw [hl]
    exact Nat.le_refl _
  · obtain ⟨rfl, c, e, rfl⟩ := y
    refine ⟨G2, .str ⟨#[c]⟩, Grow.refl s2, ?_, .str _⟩
    rw [List.getElem?_map]
    unfold signs
    rw [Array.getElem?_toList, e]
    rfl
theorem rg_len (lo hi : Int) : (rgD lo hi).length = (hi - lo).toNat := by unfold rgD; rw [List.length_map, List.length_range]
theorem rg_get (lo hi : Int) {i : Nat} (h : i < (hi - lo).toNat) : (rgD lo hi)[i]? = some (.int (lo + i)) := by
  unfold rgD
  rw [List.getElem?_map, List.getElem?_range h]
  rfl
theorem walk_rg (lo : Int) (n : Nat) (G : Hp) (hi : Int) (h : n = (hi - lo).toNat) : WalkD M (Itr lo n) G (rgD lo hi) := by
  refine ⟨fun i H hi s => ?_, fun H s => ?_, fun i H x H' hi s y G2 s1 s2 => ?_⟩
  · rw [rg_len, ← h] at hi
    exact hi
  · show n ≤ _
    rw [rg_len, ← h]
    exact Nat.le_refl _
  · obtain ⟨rfl, rfl⟩ := y
    rw [rg_len] at hi
    exact ⟨G2, _, Grow.refl s2, rg_get _ _ hi, .int _⟩
theorem ei_rng1 {hi : Int} {p2 pos2 : Pos} (T : Blt M) (hg : sc.names.lookup ("range" : Str) = some .globalImplicit) (ha : Ev M N sc k a r (.int hi)) (h1 : -1000000 ≤ hi) (h2 : hi ≤ 1000000) (hs : ∀ env, starEach [a] env = [(false, eval a env)]) :
    EvI M N sc k tg (.Call (.Name "range" p2) [a] [] pos2) r (rgD 0 hi) := fun X hX H0 G0 G H sg F R q => by
  refine ⟨_, pi_range1 (hX.gl hg) (by rw [hX.mg]; exact T.range) pa_w (hs _), ?_⟩
  refine (ea_cons ha ea_nil hs) X hX H0 G0 G H sg F _ fun vs G1 H1 g1 r1 => ?_
  cases r1 with
  | cons r1 rn =>
    cases rn
    cases r1
    exact ⟨hi, rfl, by omega, by omega, q _ G1 H1 g1 (walk_rg _ _ _ _ (by rw [Int.sub_zero]))⟩
theorem ei_rng2 {lo hi : Int} {p2 pos2 : Pos} (T : Blt M) (hg : sc.names.lookup ("range" : Str) = some .globalImplicit) (ha : Ev M N sc k a r (.int lo)) (hb : Ev M N sc k b r (.int hi)) (h0 : -1000000 ≤ lo) (h3 : lo ≤ 1000000) (h1 : -1000000 ≤ hi) (h2 : hi ≤ 1000000) (hs : ∀ env, starEach [a, b] env = [(false, eval a env), (false, eval b env)]) (hs2 : ∀ env, starEach [b] env = [(false, eval b env)]) :
    EvI M N sc k tg (.Call (.Name "range" p2) [a, b] [] pos2) r (rgD lo hi) := fun X hX H0 G0 G H sg F R q => by
  refine ⟨_, pi_range2 (hX.gl hg) (by rw [hX.mg]; exact T.range) pa_w (hs _) (hs2 _), ?_⟩
  refine (ea_cons ha (ea_cons hb ea_nil hs2) (fun env => by rw [hs, hs2])) X hX H0 G0 G H sg F _ fun vs G1 H1 g1 r1 => ?_
  cases r1 with
  | cons r1 rn =>
    cases rn with
    | cons r2 rn =>
      cases rn
      cases r1
      cases r2
      exact ⟨lo, hi, rfl, ⟨by omega, by omega, by omega, by omega⟩, q _ G1 H1 g1 (walk_rg _ _ _ _ rfl)⟩
/-- numbered -/
def numD : Nat → List Dt → List Dt
  | _, [] => []
  | n, d :: ds => .tup [.int (n : Nat), d] :: numD (n + 1) ds
theorem num_len : ∀ (n : Nat) (ds : List Dt), (numD n ds).length = ds.length
  | _, [] => rfl
  | n, d :: ds => by unfold numD; rw [List.length_cons, num_len, List.length_cons]
theorem num_get : ∀ (n : Nat) (ds : List Dt) (i : Nat) (d : Dt), ds[i]? = some d → (numD n ds)[i]? = some (.tup [.int ((n + i : Nat) : Int), d])
  | _, [], _, _, h => by simp at h
  | n, e :: ds, 0, d, h => by
    simp at h
    subst h
    unfold numD
    simp
  | n, e :: ds, i + 1, d, h => by
    unfold numD
    rw [List.getElem?_cons_succ, num_get (n + 1) ds i d (by simpa using h)]
    have e1 : n + 1 + i = n + (i + 1) := by omega
    rw [e1]
theorem pair_rp {G2 H : Hp} {T : Addr} {i : Nat} {v : V} {d : Dt} (s2 : Same G2 H) (hT : H T = none) (hv : Rp M G2 v d) : ∃ G', Grow G2 H G' (upd H T (.tup [.int (i : Nat), v])) ∧ Rp M G' (.ref T) (.tup [.int (i : Nat), d]) :=
  ⟨_, Grow.new s2 hT, .tup (.inl (.inl upd_same)) (.cons (.int _) (.cons (hv.mono (same_new (free_of s2 hT))) .nil))⟩
theorem ei_enumL {elts : List Expr} {kk : Nat} {tpos p2 pos2 : Pos} (T : Blt M) (hg : sc.names.lookup ("enumerate" : Str) = some .globalImplicit) (ha : Ev M N sc k a r (.lst ds)) (hs : ∀ env, starEach [a] env = [(false, eval a env)]) :
    EvI M N sc k (.Tuple elts kk tpos) (.Call (.Name "enumerate" p2) [a] [] pos2) r (numD 0 ds) := fun X hX H0 G0 G H sg F R q => by
  have hm := hX.gm
  subst hm
  refine ⟨_, pi_enum (hX.gl hg) T.enumerate pa_w (hs _), ?_⟩
  refine (ea_cons ha ea_nil hs) X hX H0 G0 G H sg F _ fun vs G1 H1 g1 r1 => ?_
  cases r1 with
  | cons r1 rn =>
    cases rn
    cases r1 with
    | @lst a xs _ h1 a1 =>
      refine ⟨a, xs, rfl, same_l g1.i h1, q _ G1 H1 g1 ⟨fun i H hi s => ?_, fun H s => ⟨xs, same_l s h1, by rw [num_len, a1.length]; exact Nat.le_refl _⟩, fun i H x H' hi s y G2 s1 s2 => ?_⟩⟩
      · rw [num_len] at hi
        obtain ⟨v, d, e1, _, _⟩ := same_get a1 hi
        exact ⟨xs, v, same_l s h1, e1⟩
      · rw [num_len] at hi
        obtain ⟨T, z, rfl, hT, rfl, y⟩ := y
        obtain ⟨v, d, e1, e2, e3⟩ := same_get a1 hi
        have z := y xs (same_l s h1)
        rw [e1] at z
        cases z
        obtain ⟨G', g', rp⟩ := pair_rp (i := i) s2 hT (e3.mono s1)
        exact ⟨G', _, g', by rw [num_get 0 ds i d e2, Nat.zero_add], rp⟩
theorem ei_enumT {elts : List Expr} {kk : Nat} {tpos p2 pos2 : Pos} (T : Blt M) (hg : sc.names.lookup ("enumerate" : Str) = some .globalImplicit) (ha : Ev M N sc k a r (.tup ds)) (hs : ∀ env, starEach [a] env = [(false, eval a env)]) :
    EvI M N sc k (.Tuple elts kk tpos) (.Call (.Name "enumerate" p2) [a] [] pos2) r (numD 0 ds) := fun X hX H0 G0 G H sg F R q => by
  have hm := hX.gm
  subst hm
  refine ⟨_, pi_enumT (hX.gl hg) T.enumerate pa_w (hs _), ?_⟩
  refine (ea_cons ha ea_nil hs) X hX H0 G0 G H sg F _ fun vs G1 H1 g1 r1 => ?_
  cases r1 with
  | cons r1 rn =>
    cases rn
    cases r1 with
    | @tup a xs _ h1 a1 =>
      refine ⟨a, xs, rfl, same_t g1.i h1, q _ G1 H1 g1 ⟨fun i H hi s => ?_, fun H s => ⟨xs, same_t s h1, by rw [num_len, a1.length]; exact Nat.le_refl _⟩, fun i H x H' hi s y G2 s1 s2 => ?_⟩⟩
      · rw [num_len] at hi
        obtain ⟨v, d, e1, _, _⟩ := same_get a1 hi
        exact ⟨xs, v, same_t s h1, e1⟩
      · rw [num_len] at hi
        obtain ⟨T, z, rfl, hT, rfl, y⟩ := y
        obtain ⟨v, d, e1, e2, e3⟩ := same_get a1 hi
        have z := y xs (same_t s h1)
        rw [e1] at z
        cases z
        obtain ⟨G', g', rp⟩ := pair_rp (i := i) s2 hT (e3.mono s1)
        exact ⟨G', _, g', by rw [num_get 0 ds i d e2, Nat.zero_add], rp⟩

/-! ### comprehensions -/
/-- the tests of a comprehension -/
def EvTs (M : Gm) (N : List Str) (sc : Scope) (k : Nat) (ifs : List Expr) (r : List Sl) (b : Bool) : Prop :=
  match ifs with
  | [] => b = true
  | [c] => EvT M N sc k c r b
  | _ => False
def wTs (X : Cx) (ifs : List Expr) : TT := fun sg H Q => ∃ t, PTs X ifs t ∧ t sg H Q
theorem pts_w {X : Cx} {ifs : List Expr} : PTs X ifs (wTs X ifs) := ⟨fun pins s sg H Q I ⟨_, p, h⟩ => p.run pins s sg H Q I h⟩
theorem evts_run {ifs : List Expr} {b : Bool} (h : EvTs M N sc k ifs r b) {X : Cx} (hX : Xok M N sc k X) {H0 G0 G H : Hp} {sg : L2.St} (F : Fr M H0 G0 G H sg r) {Q : Bool → Hp → Prop} (q : ∀ G' H', Grow G H G' H' → Q b H') : wTs X ifs sg H Q := by
  match ifs, h with
  | [], h =>
    have e : b = true := h
    subst e
    exact ⟨_, pts_nil, q G H (Grow.refl F.gh)⟩
  | [c], h => exact ⟨_, pts_one pt_w, (show EvT M N sc k c r b from h) X hX H0 G0 G H sg F Q q⟩
theorem xok_blk {X : Cx} (hX : Xok M N sc k X) (s : Shared) (H : Hp) {scope : Scope} (h0 : scope.names.lookup (".0" : Str) = some .local) (C : Addr) (cl : List (Str × Addr)) (fp : List Addr) : Xok M N (relS scope sc) k (X.blk s H scope (compEnvC scope cl C X.env) fp) where
  gm := hX.gm
  nm := hX.nm
  scp := by
    have e := hX.scp
    subst e
    rfl
  nd := hX.nd
  room := hX.room
  calm := hX.calm
  pass := PassesOwn.never
  cell := fun h => by
    have z := lookup_relS_keep (sc := sc) (k := .local) (fun e => nomatch e) h0
    rw [show (relS scope sc).names.lookup (".0" : Str) = _ from z] at h
    cases h
def lcG (X : Cx) (scope : Scope) (tg : Expr) : TG := fun v sg H Q => ∀ s H0 C cl fp, wG (X.blk s H0 scope (compEnvC scope cl C X.env) fp) tg v sg H Q
def lcT (X : Cx) (scope : Scope) (ifs : List Expr) : TT := fun sg H Q => ∀ s H0 C cl fp, wTs (X.blk s H0 scope (compEnvC scope cl C X.env) fp) ifs sg H Q
def lcE (X : Cx) (scope : Scope) (elt : Expr) : TE := fun sg H Q => ∀ s H0 C cl fp, wE (X.blk s H0 scope (compEnvC scope cl C X.env) fp) elt sg H Q
def lcI (X : Cx) (tg iter : Expr) : TI := fun sg H R => ∃ wi, PI X tg iter wi ∧ wi sg H R
theorem pi_lc {X : Cx} {tg iter : Expr} : PI X tg iter (lcI X tg iter) := ⟨fun pins s sg H R I ⟨_, p, h⟩ => p.run pins s sg H R I h⟩
theorem pg_lc {X : Cx} {scope : Scope} {tg : Expr} (s : Shared) (H : Hp) (C : Addr) (cl : List (Str × Addr)) (fp : List Addr) : PG (X.blk s H scope (compEnvC scope cl C X.env) fp) tg (lcG X scope tg) := ⟨fun pins s2 sg2 H2 v u Q2 I rv h => pg_w.run pins s2 sg2 H2 v u Q2 I rv (h s H C cl fp)⟩
theorem pt_lc {X : Cx} {scope : Scope} {ifs : List Expr} (s : Shared) (H : Hp) (C : Addr) (cl : List (Str × Addr)) (fp : List Addr) : PTs (X.blk s H scope (compEnvC scope cl C X.env) fp) ifs (lcT X scope ifs) := ⟨fun pins s2 sg2 H2 Q2 I h => pts_w.run pins s2 sg2 H2 Q2 I (h s H C cl fp)⟩
theorem pe_lcE {X : Cx} {scope : Scope} {elt : Expr} (s : Shared) (H : Hp) (C : Addr) (cl : List (Str × Addr)) (fp : List Addr) : PE (X.blk s H scope (compEnvC scope cl C X.env) fp) elt (lcE X scope elt) := ⟨fun pins s2 sg2 H2 Q2 I h => pe_w.run pins s2 sg2 H2 Q2 I (h s H C cl fp)⟩
theorem lc_run {A : Type} {enc : A → Dt} {xs : List A} {ifs : List Expr} {scope : Scope} {own : List (Str × Nat)} {is : List Nat} {r2 : A → List Sl} (pf : A → Bool) (f : A → Dt) (hI : EvI M N sc k tg iter r (xs.map enc))
    (hg : ∀ a ∈ xs, Tgt M N (relS scope sc) k tg is (enc a) (wipeR r (own.map (·.2))) (r2 a)) (his : ∀ i ∈ is, i ∈ own.map (·.2)) (ht : ∀ a ∈ xs, EvTs M N (relS scope sc) k ifs (r2 a) (pf a)) (he : ∀ a ∈ xs, pf a = true → Ev M N (relS scope sc) k elt (r2 a) (f a)) (hz : xs.length ≤ 1000000)
    (h0 : scope.names.lookup (".0" : Str) = some .local) {X : Cx} (hX : Xok M N sc k X) {H0 G0 G H : Hp} {sg : L2.St} (F : Fr M H0 G0 G H sg r) (Q : VK) (q : ∀ (p : Addr) (ys : List V) (G' H' : Hp), Grow G H G' H' → H' p = none → RpA M G' ys ((xs.filter pf).map f) → Q (.ref p) (upd H' p (.lst ys))) :
    tLc (lcI X tg iter) (lcG X scope tg) (lcT X scope ifs) (lcE X scope elt) (own.map (·.2)) sg H Q := by
  refine hI X hX H0 G0 G H sg F _ fun J G1 H1 g1 W => ?_
  intro D hD
  have hlen : (xs.map enc).length = xs.length := List.length_map _
  -- the invariant: so many are gone through
  let Pv : Nat → Hp → Prop := fun i H2 => ∃ G2 acc, Grow G1 H1 G2 H2 ∧ G2 D = none ∧ H2 D = some (.lst acc) ∧ RpA M G2 acc (((xs.take i).filter pf).map f)
  refine ⟨fun i m H2 => m = xs.length - i ∧ i ≤ xs.length ∧ Pv i H2, ⟨xs.length, by simp, Nat.zero_le _, G1, [], Grow.newH g1.i hD, free_of g1.i hD, upd_same, .nil⟩, ?_⟩
  rintro i m H2 ⟨rfl, hi, G2, acc, g2, gD, hL, ra⟩
  have sG : Same G1 H2 := g2.g.trans g2.i
  by_cases hlt : i < xs.length
  · refine .inr ⟨W.go i H2 (by rw [hlen]; exact hlt) sG, Pv (i + 1), fun H' p' => ⟨xs.length - (i + 1), by omega, rfl, hlt, p'⟩, fun x H3 y => ?_⟩
    obtain ⟨G3, d, g3, ed, rx⟩ := W.yld i H2 x H3 (by rw [hlen]; exact hlt) sG y G2 g2.g g2.i
    have ea : xs[i]? = some xs[i] := by simp [hlt]
    have ed2 : d = enc xs[i] := by
      rw [List.getElem?_map, ea] at ed
      exact (Option.some.inj ed).symm
    subst ed2
    have ma : xs[i] ∈ xs := List.getElem_mem hlt
    have g13 := g2.trans g3
    have F3 := ((F.grow g1).grow g13).wipe (own.map (·.2))
    intro s H0' C cl fp
    refine hg _ ma _ (xok_blk hX s H0' h0 C cl fp) H0 G0 G3 H3 _ x F3 rx _ fun sg4 F4 w4 => ?_
    have w5 : L2.wipe sg4 (own.map (·.2)) = L2.wipe sg (own.map (·.2)) := (w4 _ his).trans (wipe_wipe _)
    refine ⟨w5, fun s H0' C cl fp => ?_⟩
    have ht3 : xs.take (i + 1) = xs.take i ++ [xs[i]] := by rw [List.take_succ, ea]; rfl
    have gD3 : G3 D = none := g3.n D _ hL gD
    have hL3 : H3 D = some (.lst acc) := g3.h _ _ hL
    refine evts_run (ht _ ma) (xok_blk hX s H0' h0 C cl fp) F4 fun G4 H4 g4 => ?_
    have gD4 : G4 D = none := g4.n D _ hL3 gD3
    have hL4 : H4 D = some (.lst acc) := g4.h _ _ hL3
    cases hp : pf xs[i] with
    | false =>
      refine iteF ?_
      refine ⟨G4, acc, g13.trans g4, gD4, hL4, ?_⟩
      have e : (xs.take (i + 1)).filter pf = (xs.take i).filter pf := by rw [ht3, List.filter_append]; simp [hp]
      rw [e]
      exact (ra.mono g3.g).mono g4.g
    | true =>
      refine iteT ?_
      intro s H0' C cl fp
      refine he _ ma hp _ (xok_blk hX s H0' h0 C cl fp) H0 G0 G4 H4 sg4 (F4.grow g4) _ fun v G5 H5 g5 r5 => ?_
      have gD5 : G5 D = none := g5.n D _ hL4 gD4
      have hL5 : H5 D = some (.lst acc) := g5.h _ _ hL4
      have g15 := (g13.trans g4).trans g5
      have al : acc.length ≤ 1000000 := by
        rw [ra.length, List.length_map]
        have h1 := List.length_filter_le pf (xs.take i)
        rw [List.length_take] at h1
        omega
      refine ⟨acc, hL5, Nat.lt_of_le_of_lt al (by decide), G5, acc ++ [v], ⟨g15.g, same_mut g15.h hD, same_mut g15.i gD5, g15.n⟩, gD5, upd_same, ?_⟩
      have e : ((xs.take (i + 1)).filter pf).map f = ((xs.take i).filter pf).map f ++ [f xs[i]] := by rw [ht3, List.filter_append, List.map_append]; simp [hp]
      rw [e]
      exact (((ra.mono g3.g).mono g4.g).mono g5.g).app (RpA.one r5)
  · have e : i = xs.length := by omega
    subst e
    refine .inl ⟨by have z := W.stop H2 sG; rw [hlen] at z; exact z, ?_⟩
    rw [List.take_length] at ra
    have eH : H2 = upd (fun b => if b = D then none else H2 b) D (.lst acc) := by
      funext b
      by_cases hb : b = D
      · subst hb
        rw [upd_same]
        exact hL
      · rw [upd_ne hb]
        show H2 b = if b = D then none else H2 b
        rw [if_neg hb]
    have g1' : Grow G1 H1 G2 (fun b => if b = D then none else H2 b) := by
      refine ⟨g2.g, fun b o z => ?_, fun b o z => ?_, g2.n⟩
      · show (if b = D then none else H2 b) = _
        rw [if_neg (ne_of_none z hD)]
        exact g2.h _ _ z
      · show (if b = D then none else H2 b) = _
        rw [if_neg (ne_of_none z gD)]
        exact g2.i _ _ z
    have z := q D acc G2 (fun b => if b = D then none else H2 b) (g1.trans g1') (by show (if D = D then none else H2 D) = none; rw [if_pos rfl]) ra
    rw [← eH] at z
    exact z
theorem en_lc {A : Type} {enc : A → Dt} {xs : List A} {ifs : List Expr} {scope : Scope} {own : List (Str × Nat)} {is : List Nat} {r2 : A → List Sl} (pf : A → Bool) (f : A → Dt) (hI : EvI M N sc k tg iter r (xs.map enc)) (ok : BlkOk N sc scope own)
    (hg : ∀ a ∈ xs, Tgt M N (relS scope sc) k tg is (enc a) (wipeR r (own.map (·.2))) (r2 a)) (his : ∀ i ∈ is, i ∈ own.map (·.2)) (ht : ∀ a ∈ xs, EvTs M N (relS scope sc) k ifs (r2 a) (pf a)) (he : ∀ a ∈ xs, pf a = true → Ev M N (relS scope sc) k elt (r2 a) (f a)) (hz : xs.length ≤ 1000000)
    (hs : ∀ env x, foldedSetIterable iter env x = pure x) (h0 : scope.names.lookup (".0" : Str) = some .local) : EvN M N sc k (.ListComp elt [⟨tg, iter, ifs, 0⟩] scope pos) r ((xs.filter pf).map f) := fun X hX H0 G0 G H sg F Q q =>
  ⟨_, pe_lc (own := own) hX.calm (by rw [hX.nm]; exact hX.nd) pi_lc (by rw [hX.nm, hX.scp]; exact ok) pg_lc pt_lc pe_lcE (hs _), lc_run pf f hI hg his ht he hz h0 hX F Q q⟩
end
end Ts

set_option Elab.async false
set_option linter.all false
set_option maxRecDepth 100000
set_option maxHeartbeats 4000000
/-! D5: statements over data. -/
namespace Ts
open PySem L2

/-- the ends of statements, over slots of data -/
structure Dn where
  nx : List Sl → Prop
  rt : Dt → List Sl → Prop
  bk : List Sl → Prop
  ct : List Sl → Prop
def Dn.up (M : Gm) (H0 G0 : Hp) (D : Dn) : Ends where
  nx := fun sg H => ∃ G r, Fr M H0 G0 G H sg r ∧ D.nx r
  rt := fun v H => ∃ G sg r d, Fr M H0 G0 G H sg r ∧ Rp M G v d ∧ D.rt d r
  bk := fun sg H => ∃ G r, Fr M H0 G0 G H sg r ∧ D.bk r
  ct := fun sg H => ∃ G r, Fr M H0 G0 G H sg r ∧ D.ct r
structure ImpE (E E' : Ends) : Prop where
  nx : ∀ sg H, E.nx sg H → E'.nx sg H
  rt : ∀ v H, E.rt v H → E'.rt v H
  bk : ∀ sg H, E.bk sg H → E'.bk sg H
  ct : ∀ sg H, E.ct sg H → E'.ct sg H
theorem spImp {X : Cx} {pins : List (Addr × Obj)} {E E' : Ends} (i : ImpE E E') {f : Flow} {s : Shared} (h : SP X pins E f s) : SP X pins E' f s := by
  cases f with
  | next => obtain ⟨sg, H, I, q⟩ := h; exact ⟨sg, H, I, i.nx _ _ q⟩
  | brk => obtain ⟨sg, H, I, q⟩ := h; exact ⟨sg, H, I, i.bk _ _ q⟩
  | cont => obtain ⟨sg, H, I, q⟩ := h; exact ⟨sg, H, I, i.ct _ _ q⟩
  | ret u => obtain ⟨v, sg, H, I, r, q⟩ := h; exact ⟨v, sg, H, I, r, i.rt _ _ q⟩
theorem wS_imp {X : Cx} {st : Stmt} {E E' : Ends} (i : ImpE E E') {sg : L2.St} {H : Hp} (h : wS X st E sg H) : wS X st E' sg H := by
  obtain ⟨t, p, q⟩ := h
  exact ⟨fun E2 sg H => ∃ E1, ImpE E1 E2 ∧ t E1 sg H, ⟨fun pins s sg H E2 I ⟨E1, i, h⟩ => thn (p.run pins s sg H E1 I h) fun f s1 z => spImp i z⟩, E, i, q⟩
theorem wSs_imp {X : Cx} {st : List Stmt} {E E' : Ends} (i : ImpE E E') {sg : L2.St} {H : Hp} (h : wSs X st E sg H) : wSs X st E' sg H := by
  obtain ⟨t, p, q⟩ := h
  exact ⟨fun E2 sg H => ∃ E1, ImpE E1 E2 ∧ t E1 sg H, ⟨fun pins s sg H E2 I ⟨E1, i, h⟩ => thn (p.run pins s sg H E1 I h) fun f s1 z => spImp i z⟩, E, i, q⟩
def Ex1 (M : Gm) (N : List Str) (sc : Scope) (k : Nat) (st : Stmt) (r : List Sl) (D : Dn) : Prop :=
  ∀ X, Xok M N sc k X → ∀ H0 G0 G H sg, Fr M H0 G0 G H sg r → wS X st (D.up M H0 G0) sg H
def Exe (M : Gm) (N : List Str) (sc : Scope) (k : Nat) (sts : List Stmt) (r : List Sl) (D : Dn) : Prop :=
  ∀ X, Xok M N sc k X → ∀ H0 G0 G H sg, Fr M H0 G0 G H sg r → wSs X sts (D.up M H0 G0) sg H
section
variable {M : Gm} {N : List Str} {sc : Scope} {k : Nat} {e a b iter tg elt c : Expr} {es rest ts : List Expr} {r r' r1 r2 : List Sl} {d d1 d2 : Dt} {ds : List Dt} {pos p : Pos} {x : Str} {st : Stmt} {sts thn els body : List Stmt} {D : Dn}
theorem Dn.imp {D D' : Dn} {H0 G0 : Hp} (nx : ∀ r, D.nx r → D'.nx r) (rt : ∀ d r, D.rt d r → D'.rt d r) (bk : ∀ r, D.bk r → D'.bk r) (ct : ∀ r, D.ct r → D'.ct r) : ImpE (D.up M H0 G0) (D'.up M H0 G0) :=
  ⟨fun _ _ ⟨G, r, F, q⟩ => ⟨G, r, F, nx r q⟩, fun _ _ ⟨G, sg, r, d, F, rv, q⟩ => ⟨G, sg, r, d, F, rv, rt d r q⟩, fun _ _ ⟨G, r, F, q⟩ => ⟨G, r, F, bk r q⟩, fun _ _ ⟨G, r, F, q⟩ => ⟨G, r, F, ct r q⟩⟩
theorem Exe.imp {D' : Dn} (h : Exe M N sc k sts r D) (nx : ∀ r, D.nx r → D'.nx r) (rt : ∀ d r, D.rt d r → D'.rt d r) (bk : ∀ r, D.bk r → D'.bk r) (ct : ∀ r, D.ct r → D'.ct r) : Exe M N sc k sts r D' :=
  fun X hX H0 G0 G H sg F => wSs_imp (Dn.imp nx rt bk ct) (h X hX H0 G0 G H sg F)
theorem x_nil (h : D.nx r) : Exe M N sc k [] r D := fun X hX H0 G0 G H sg F => ⟨_, pss_nil, G, r, F, h⟩
theorem x_cons (h : Ex1 M N sc k st r { D with nx := fun r' => Exe M N sc k sts r' D }) : Exe M N sc k (st :: sts) r D := fun X hX H0 G0 G H sg F => by
  refine ⟨_, pss_cons ps_w pss_w, ?_⟩
  refine wS_imp ?_ (h X hX H0 G0 G H sg F)
  exact ⟨fun sg H ⟨G, r, F, q⟩ => q X hX H0 G0 G H sg F, fun _ _ q => q, fun _ _ q => q, fun _ _ q => q⟩

/-! ### storing -/
theorem x1_asg {is : List Nat} (h : Ev M N sc k e r d) (g : Tgt M N sc k tg is d r r') (hs : ∀ X, Xok M N sc k X → swapsWithSole [tg] e pos.line X.env = pure false) (hw : ∀ env, swappedStores [tg] e env = pure none) (h1 : ∀ env, (assignEach [tg] env).map (·.2) = [assign tg env])
    (q : D.nx r') : Ex1 M N sc k (.Assign [tg] e pos) r D := fun X hX H0 G0 G H sg F =>
  ⟨_, ps_asg pe_w pg_w (hs X hX) (hw _) (h1 _), h X hX H0 G0 G H sg F _ fun v G1 H1 g1 r1 => g X hX H0 G0 G1 H1 sg v (F.grow g1) r1 _ fun sg' F' _ => ⟨G1, r', F', q⟩⟩
theorem x_asg {is : List Nat} (h : Ev M N sc k e r d) (g : Tgt M N sc k tg is d r r') (hs : ∀ env, swapsWithSole [tg] e pos.line env = pure false) (hw : ∀ env, swappedStores [tg] e env = pure none) (h1 : ∀ env, (assignEach [tg] env).map (·.2) = [assign tg env])
    (q : Exe M N sc k sts r' D) : Exe M N sc k (.Assign [tg] e pos :: sts) r D := x_cons (x1_asg h g (fun X _ => hs _) hw h1 q)
/-- a comprehension given to a name that is captured -/
theorem sw_cell {y : Str} {py ps : Pos} {gs : List Comprehension} {scope : Scope} {l : Nat} (hy : sc.names.lookup y = some .cell) : ∀ X, Xok M N sc k X → swapsWithSole [.Name y py] (.ListComp elt gs scope ps) l X.env = pure false := fun X hX => by
  have ky : X.env.kindOf y = some .cell := by
    show X.env.scope.names.lookup y = _
    rw [hX.scp]
    exact hy
  show swapsWith (.ListComp elt gs scope ps) (some (.Name y py)) l X.env = pure false
  unfold swapsWith
  simp only [ky]
  cases X.env.blockKind == ScopeKind.function <;> rfl
/-- name = [..] on one line, the name a local: data -/
theorem x_setLc {A : Type} {enc : A → Dt} {xs : List A} {ifs : List Expr} {scope : Scope} {own : List (Str × Nat)} {is : List Nat} {r2 : A → List Sl} {y : Str} {py cpos spos : Pos} (i : Nat) (pf : A → Bool) (f : A → Dt) (hI : EvI M N sc k tg iter r (xs.map enc)) (ok : BlkOk N sc scope own)
    (hg : ∀ a ∈ xs, Tgt M N (relS scope sc) k tg is (enc a) (wipeR r (own.map (·.2))) (r2 a)) (his : ∀ i ∈ is, i ∈ own.map (·.2)) (ht : ∀ a ∈ xs, EvTs M N (relS scope sc) k ifs (r2 a) (pf a)) (he : ∀ a ∈ xs, pf a = true → Ev M N (relS scope sc) k elt (r2 a) (f a)) (hz : xs.length ≤ 1000000)
    (hN : N[i]? = some y) (hy : sc.names.lookup y = some .local) (hk : sc.kind = .function) (hl : (py.line == cpos.line) = true)
    (ha : (scope.names.any fun (n, k) => n == y && (k == .local || k == .cell)) = false)
    (hs : ∀ env x, foldedSetIterable iter env x = pure x) (h0 : scope.names.lookup (".0" : Str) = some .local) (q : Exe M N sc k sts (r.set i (.dat (.lst ((xs.filter pf).map f)))) D) :
    Exe M N sc k (.Assign [.Name y py] (.ListComp elt [⟨tg, iter, ifs, 0⟩] scope cpos) spos :: sts) r D := x_cons fun X hX H0 G0 G H sg F => by
  refine ⟨_, ps_setLc (i := i) (own := own) hX.calm (by rw [hX.nm]; exact hX.nd) (by rw [hX.nm]; exact hN) (by rw [hX.scp]; exact hy) (sw_true (by rw [hX.scp]; exact hk) (by rw [hX.scp]; exact hy) hl ha) pi_lc (by rw [hX.nm, hX.scp]; exact ok) pg_lc pt_lc pe_lcE (hs _), ?_⟩
  refine lc_run pf f hI hg his ht he hz h0 hX F _ fun p ys G1 H1 g1 hp r1 => ?_
  have g3 := Grow.new (o := .lst ys) g1.i hp
  exact ⟨_, _, (F.grow (g1.trans g3)).setD i (.lst (.inl (.inl upd_same)) (r1.mono g3.g)), q⟩
/-- a new list of one's own -/
theorem x_asgN {i : Nat} {px : Pos} {ds : List Dt} (h : EvN M N sc k e r ds) (hN : N[i]? = some x) (hx : Loc sc x) (h0 : sc.names.lookup (".0" : Str) = none) (hs : ∀ env, swapsWithSole [.Name x px] e pos.line env = pure false) (hw : ∀ env, swappedStores [.Name x px] e env = pure none)
    (q : ∀ p, Exe M N sc k sts (r.set i (.own p ds)) D) : Exe M N sc k (.Assign [.Name x px] e pos :: sts) r D := x_cons fun X hX H0 G0 G H sg F => by
  have hf : X.fn x = true ∨ X.env.scope.names.lookup x = some .local := by
    rw [hX.scp]
    rcases hx with z | z
    · exact .inr z
    · exact .inl (hX.cell h0 x z)
  refine ⟨_, ps_asg pe_w (pg_name (i := i) (by rw [hX.nm]; exact hX.nd) (by rw [hX.nm]; exact hN) (by rw [hX.scp]; exact hx) hf) (hs _) (hw _) rfl, h X hX H0 G0 G H sg F _ fun p xs G1 H1 g1 hp r1 => ?_⟩
  exact ⟨G1, _, (F.grow g1).setOwn i hp r1, q p⟩
/-- it changes no more: data -/
theorem Fr.freeze {H0 G0 G H : Hp} {sg : L2.St} {i : Nat} {q : Addr} (F : Fr M H0 G0 G H sg r) (h : r[i]? = some (.own q ds)) : ∃ G', Fr M H0 G0 G' H sg (r.set i (.dat (.lst ds))) := by
  obtain ⟨o, e, s⟩ := F.sl.get h
  cases s with
  | @own _ xs _ hp hr =>
    have gp : H0 q = none ∧ G q = none := F.fr q (by
      have m := List.mem_of_getElem? h
      exact List.mem_flatMap.mpr ⟨_, m, List.mem_singleton.mpr rfl⟩)
    have gs : Same G (upd G q (.lst xs)) := same_new gp.2
    have gh : Same (upd G q (.lst xs)) H := fun a u z => by
      by_cases hb : a = q
      · subst hb
        rw [upd_same] at z
        rw [hp]
        exact z
      · rw [upd_ne hb] at z
        exact F.gh _ _ z
    have lift : ∀ {sg : L2.St} {r : List Sl}, SlA M G H sg r → SlA M (upd G q (.lst xs)) H sg r := fun z => by
      induction z with
      | nil => exact .nil
      | cons a b ih =>
        refine .cons ?_ ih
        cases a with
        | no => exact .no
        | dat z => exact .dat (z.mono gs)
        | own z1 z2 => exact .own z1 (z2.mono gs)
        | fig z => exact .fig ⟨z.ins, z.st, z.pa, z.rk.mono gs, z.ro.mono gs, z.rl.mono gs, z.rs.mono gs, z.rp.mono gs⟩
    have sl := (lift F.sl).set (o := some (.ref q)) (s := .dat (.lst ds)) (.dat (.lst (.inl (.inl upd_same)) (hr.mono gs))) i
    have es : sg.set i (some (V.ref q)) = sg := by
      apply List.ext_getElem?
      intro j
      by_cases hj : i = j
      · subst hj
        rw [List.getElem?_set_self (List.getElem?_eq_some_iff.mp e).1, e]
      · rw [List.getElem?_set_ne hj]
    rw [es] at sl
    have q_out : q ∉ feet (r.set i (.dat (.lst ds))) := fun z => by
      have nd := F.nd
      have ex : r = r.take i ++ .own q ds :: r.drop (i + 1) := by
        have hl := (List.getElem?_eq_some_iff.mp h)
        obtain ⟨h1, h2⟩ := hl
        rw [← h2]
        exact (List.take_append_drop i r).symm.trans (by rw [List.drop_eq_getElem_cons h1])
      have fx : feet r = feet (r.take i) ++ ([q] ++ feet (r.drop (i + 1))) := by
        conv => lhs; rw [ex]
        unfold feet
        rw [List.flatMap_append, List.flatMap_cons]
        rfl
      rw [fx, List.nodup_append] at nd
      have sub := (feet_set r i (.dat (.lst ds))).subset z
      have sub2 : q ∈ feet (r.take i) ∨ q ∈ feet (r.drop (i + 1)) := by
        rcases List.mem_append.mp sub with w | w
        · exact .inl w
        · exact .inr (by simpa [foot] using w)
      obtain ⟨n1, n2, n3⟩ := nd
      rcases sub2 with w | w
      · exact n3 q w q (List.mem_append_left _ (List.mem_singleton.mpr rfl)) rfl
      · rw [List.nodup_append] at n2
        exact n2.2.2 q (List.mem_singleton.mpr rfl) q w rfl
    refine ⟨upd G q (.lst xs), sl, (feet_dat r i rfl).nodup F.nd, fun p hp2 => ?_, F.e0, F.g0.trans gs, gh, fun a o z n => ?_⟩
    · obtain ⟨z1, z2⟩ := F.fr p ((feet_dat r i rfl).subset hp2)
      refine ⟨z1, ?_⟩
      have hne : p ≠ q := fun e2 => q_out (e2 ▸ hp2)
      rw [upd_ne hne]
      exact z2
    · have hne : a ≠ q := ne_of_none z gp.1
      rw [upd_ne hne]
      exact F.nw a o z n
theorem x_frz {i : Nat} {q : Addr} (h : r[i]? = some (.own q ds)) (z : Exe M N sc k sts (r.set i (.dat (.lst ds))) D) : Exe M N sc k sts r D := fun X hX H0 G0 G H sg F => by
  obtain ⟨G', F'⟩ := F.freeze h
  exact z X hX H0 G0 G' H sg F'

/-! ### a list of one's own changes -/
theorem SlOk.other {G H : Hp} {q : Addr} {u : HO} : ∀ {o : Option V} {s : Sl}, SlOk M G H o s → q ∉ foot s → SlOk M G (upd H q u) o s
  | _, _, .no, _ => .no
  | _, _, .dat z, _ => .dat z
  | _, _, .own h z, n => .own (by rw [upd_ne (fun e => n (by rw [← e]; exact List.mem_singleton.mpr rfl))]; exact h) z
  | _, _, @SlOk.fig _ _ _ W F z, n => by
    have n1 : W.self ≠ q := fun e => n (by rw [← e]; simp [foot])
    have n2 : W.st ≠ q := fun e => n (by rw [← e]; simp [foot])
    have n3 : W.pa ≠ q := fun e => n (by rw [← e]; simp [foot])
    exact .fig ⟨by rw [upd_ne n1]; exact z.ins, by rw [upd_ne n2]; exact z.st, by rw [upd_ne n3]; exact z.pa, z.rk, z.ro, z.rl, z.rs, z.rp⟩
theorem SlA.other {G H : Hp} {q : Addr} {u : HO} : ∀ {sg : L2.St} {r : List Sl}, SlA M G H sg r → q ∉ feet r → SlA M G (upd H q u) sg r
  | _, _, .nil, _ => .nil
  | _, _, .cons a b, n => by
    have e : ∀ s r, feet (s :: r) = foot s ++ feet r := fun s r => by unfold feet; rw [List.flatMap_cons]
    rw [e, List.mem_append] at n
    exact .cons (a.other fun z => n (.inl z)) (SlA.other b fun z => n (.inr z))
theorem SlA.mut {G H : Hp} {q : Addr} {u : HO} {s s' : Sl} : ∀ {sg : L2.St} {r : List Sl} {i : Nat}, SlA M G H sg r → (feet r).Nodup → r[i]? = some s → q ∈ foot s → (∀ o, SlOk M G H o s → SlOk M G (upd H q u) o s') → SlA M G (upd H q u) sg (r.set i s')
  | _, _, _, .nil, _, h, _, _ => by simp at h
  | _, _, 0, .cons a b, nd, h, hq, k => by
    have e : ∀ s r, feet (s :: r) = foot s ++ feet r := fun s r => by unfold feet; rw [List.flatMap_cons]
    simp at h
    subst h
    rw [e, List.nodup_append] at nd
    exact .cons (k _ a) (b.other fun z => nd.2.2 q hq q z rfl)
  | _, _, i + 1, @SlA.cons _ _ _ o s0 os r a b, nd, h, hq, k => by
    have e : ∀ s r, feet (s :: r) = foot s ++ feet r := fun s r => by unfold feet; rw [List.flatMap_cons]
    have h' : r[i]? = some s := by simpa using h
    rw [e, List.nodup_append] at nd
    have m : q ∈ feet r := List.mem_flatMap.mpr ⟨_, List.mem_of_getElem? h', hq⟩
    exact .cons (a.other fun z => nd.2.2 q z q m rfl) (SlA.mut b nd.2.1 h' hq k)
theorem feet_same {s s' : Sl} (hf : foot s' = foot s) : ∀ {r : List Sl} {i : Nat}, r[i]? = some s → feet (r.set i s') = feet r
  | [], _, h => by simp at h
  | t :: r, 0, h => by
    simp at h
    subst h
    show feet (s' :: r) = feet (t :: r)
    unfold feet
    rw [List.flatMap_cons, List.flatMap_cons, hf]
  | t :: r, i + 1, h => by
    have h' : r[i]? = some s := by simpa using h
    have ih := feet_same hf h'
    show feet (t :: r.set i s') = feet (t :: r)
    unfold feet at ih ⊢
    rw [List.flatMap_cons, List.flatMap_cons, ih]
theorem Fr.mut {H0 G0 G H : Hp} {sg : L2.St} {i : Nat} {q : Addr} {u : HO} {s s' : Sl} (F : Fr M H0 G0 G H sg r) (h : r[i]? = some s) (hq : q ∈ foot s) (hf : foot s' = foot s) (k : ∀ o, SlOk M G H o s → SlOk M G (upd H q u) o s') : Fr M H0 G0 G (upd H q u) sg (r.set i s') := by
  have m : q ∈ feet r := List.mem_flatMap.mpr ⟨_, List.mem_of_getElem? h, hq⟩
  obtain ⟨z1, z2⟩ := F.fr q m
  exact ⟨F.sl.mut F.nd h hq k, by rw [feet_same hf h]; exact F.nd, by rw [feet_same hf h]; exact F.fr, same_mut F.e0 z1, F.g0, same_mut F.gh z2, F.nw⟩
theorem x_app {i : Nat} {q : Addr} {px apos cpos : Pos} (hr : r[i]? = some (.own q ds)) (hN : N[i]? = some x) (hv : Vis sc x) (h : Ev M N sc k e r d) (hz : ds.length ≤ 1000000) (hd : (x == ("__debug__" : Str)) = false) (hcd : (x == ("__classdict__" : Str)) = false)
    (hs : ∀ env, starEach [e] env = (false, eval e env) :: starEach [] env) (hln : (apos.endLine == cpos.line) = true) (z : Exe M N sc k sts (r.set i (.own q (ds ++ [d]))) D) :
    Exe M N sc k (.Expr (.Call (.Attribute (.Name x px) "append" apos) [e] [] cpos) pos :: sts) r D := x_cons fun X hX H0 G0 G H sg F => by
  have hm := hX.gm
  subst hm
  refine ⟨_, ps_expr (pe_bm PySem.F.plainAttrs_list PySem.F.slot_list_append PySem.F.type_list_append mt_append (pe_var (i := i) (by rw [hX.nm]; exact hN) (by rw [hX.scp]; exact hv) hd hcd) (pa_cons pe_w pa_nil (hs _)) (hfew := by rw [hs]; rfl) (hline := hln) (hs := hs _)) rfl, ?_⟩
  obtain ⟨o, e1, s⟩ := F.sl.get hr
  cases s with
  | own hp ha =>
    refine ⟨_, e1, .inl ⟨rfl, _, .inl (.inl hp)⟩, ?_⟩
    refine h X hX H0 G0 G H sg F _ fun v G1 H1 g1 r1 => ?_
    have F1 := F.grow g1
    refine ⟨_, _, v, rfl, rfl, g1.h _ _ hp, ?_, G1, _, F1.mut (s' := .own q (ds ++ [d])) hr (List.mem_singleton.mpr rfl) rfl fun o so => ?_, z⟩
    · rw [ha.length]
      exact Nat.lt_of_le_of_lt hz (by decide)
    · cases so with
      | own hp2 ha2 =>
        rw [g1.h _ _ hp] at hp2
        cases hp2
        exact .own upd_same (ha2.app (RpA.one r1))
theorem x_set {i n : Nat} {q : Addr} {px tpos : Pos} {idx : Expr} {j : Int} (hr : r[i]? = some (.own q ds)) (hN : N[i]? = some x) (hv : Vis sc x) (h : Ev M N sc k e r d) (hi : Ev M N sc k idx r (.int j)) (hj : ixN ds.length j = some n) (hd : (x == ("__debug__" : Str)) = false) (hcd : (x == ("__classdict__" : Str)) = false)
    (ha : ∀ env v, assign (.Subscript (.Name x px) idx tpos) env v = (do
      let ov ← holding [v] (eval (.Name x px) env)
      let iv ← holding [v, ov] (eval idx env)
      standAt tpos
      holding [v, ov, iv] (setItem ov iv v)
      release [v, ov, iv] [])) (hs : ∀ env, swapsWithSole [.Subscript (.Name x px) idx tpos] e pos.line env = pure false) (hw : ∀ env, swappedStores [.Subscript (.Name x px) idx tpos] e env = pure none)
    (z : Exe M N sc k sts (r.set i (.own q (ds.set n d))) D) : Exe M N sc k (.Assign [.Subscript (.Name x px) idx tpos] e pos :: sts) r D := x_cons fun X hX H0 G0 G H sg F => by
  refine ⟨_, ps_asg pe_w (pg_sub (pe_var (i := i) (by rw [hX.nm]; exact hN) (by rw [hX.scp]; exact hv) hd hcd) pe_w set_list (ha _)) (hs _) (hw _) rfl, ?_⟩
  refine h X hX H0 G0 G H sg F _ fun v G1 H1 g1 r1 => ?_
  obtain ⟨o, e1, s⟩ := F.sl.get hr
  cases s with
  | own hp has =>
    refine ⟨_, e1, ?_⟩
    refine hi X hX H0 G0 G1 H1 sg (F.grow g1) _ fun w G2 H2 g2 r2 => ?_
    cases r2
    have F2 := (F.grow g1).grow g2
    have hp2 := g2.h _ _ (g1.h _ _ hp)
    refine ⟨_, _, _, n, rfl, rfl, hp2, by rw [has.length]; exact hj, G2, _, F2.mut (s' := .own q (ds.set n d)) hr (List.mem_singleton.mpr rfl) rfl fun o so => ?_, z⟩
    cases so with
    | own hp3 ha3 =>
      rw [hp2] at hp3
      cases hp3
      exact .own upd_same (ha3.set (r1.mono g2.g) n)

/-! ### flow -/
theorem x_if {b : Bool} (h : EvT M N sc k c r b) (h1 : b = true → Exe M N sc k thn r { D with nx := fun r' => Exe M N sc k sts r' D }) (h2 : b = false → Exe M N sc k els r { D with nx := fun r' => Exe M N sc k sts r' D }) : Exe M N sc k (.If c thn els pos :: sts) r D := x_cons fun X hX H0 G0 G H sg F =>
  ⟨_, ps_if pt_w pss_w pss_w, h X hX H0 G0 G H sg F _ fun G1 H1 g1 => by
    cases b with
    | true =>
      refine iteT ?_
      exact h1 rfl X hX H0 G0 G1 H1 sg (F.grow g1)
    | false =>
      refine iteF ?_
      exact h2 rfl X hX H0 G0 G1 H1 sg (F.grow g1)⟩
theorem x_ifT (h : EvT M N sc k c r true) (h1 : Exe M N sc k thn r { D with nx := fun r' => Exe M N sc k sts r' D }) : Exe M N sc k (.If c thn els pos :: sts) r D := x_if h (fun _ => h1) fun z => nomatch z
theorem x_ifF (h : EvT M N sc k c r false) (h1 : Exe M N sc k els r { D with nx := fun r' => Exe M N sc k sts r' D }) : Exe M N sc k (.If c thn els pos :: sts) r D := x_if h (fun z => nomatch z) fun _ => h1
theorem x_ifF0 (h : EvT M N sc k c r false) (h1 : Exe M N sc k sts r D) : Exe M N sc k (.If c thn [] pos :: sts) r D := x_ifF h (x_nil h1)
theorem x_ret (h : Ev M N sc k e r d) (q : D.rt d r) : Exe M N sc k (.Return (some e) pos :: sts) r D := x_cons fun X hX H0 G0 G H sg F =>
  ⟨_, ps_ret pe_w, h X hX H0 G0 G H sg F _ fun v G1 H1 g1 r1 => ⟨G1, sg, r, d, F.grow g1, r1, q⟩⟩
theorem x_retN (q : D.rt .non r) : Exe M N sc k (.Return none pos :: sts) r D := x_cons fun X hX H0 G0 G H sg F =>
  ⟨_, ps_retN, G, sg, r, .non, F, .non, q⟩
theorem x_brk (q : D.bk r) : Exe M N sc k (.Break pos :: sts) r D := x_cons fun X hX H0 G0 G H sg F => ⟨_, ps_break, G, r, F, q⟩
theorem x_for {A : Type} {enc : A → Dt} {xs : List A} (hI : EvI M N sc k tg iter r (xs.map enc)) (Iv : Nat → List Sl → Prop) (h0 : Iv 0 r)
    (hs : ∀ i a r', xs[i]? = some a → Iv i r' → ∃ is r2, Tgt M N sc k tg is (enc a) r' r2 ∧ Exe M N sc k body r2 { D with nx := Iv (i + 1), ct := Iv (i + 1), bk := fun r' => Exe M N sc k sts r' D }) (hd : ∀ r', Iv xs.length r' → Exe M N sc k sts r' D)
    (hf : ∀ env x, foldedSetIterable iter env x = pure x) : Exe M N sc k (.For tg iter body [] pos :: sts) r D := x_cons fun X hX H0 G0 G H sg F => by
  refine ⟨_, ps_for (wi := fun sg H R => ∃ wi, PI X tg iter wi ∧ wi sg H R) hX.pass hX.calm ⟨fun pins s sg H R I ⟨_, p, h⟩ => p.run pins s sg H R I h⟩ pg_w pss_w (hf _), ?_⟩
  refine hI X hX H0 G0 G H sg F _ fun J G1 H1 g1 W => ?_
  have hlen : (xs.map enc).length = xs.length := List.length_map _
  let Pv : Nat → L2.St → Hp → Prop := fun i sg2 H2 => ∃ G2 r2, Fr M H0 G0 G2 H2 sg2 r2 ∧ Same G1 G2 ∧ Iv i r2
  -- what was known ahead of the loop stays known
  let Nw : Nat → List Sl → Prop := Iv
  refine ⟨fun i m sg2 H2 => m = xs.length - i ∧ i ≤ xs.length ∧ ∃ G2 r2, Fr M H0 G1 G2 H2 sg2 r2 ∧ Iv i r2, ⟨xs.length, by simp, Nat.zero_le _, G1, r, ?_, h0⟩, ?_⟩
  · have F1 := F.grow g1
    exact ⟨F1.sl, F1.nd, F1.fr, F1.e0, .refl _, F1.gh, fun a o z n => n⟩
  rintro i m sg2 H2 ⟨rfl, hi, G2, r2, F2, iv⟩
  have sG : Same G1 H2 := F2.g0.trans F2.gh
  have back : ∀ {G3 H3 : Hp} {sg3 : L2.St} {r3 : List Sl}, Fr M H0 G1 G3 H3 sg3 r3 → Fr M H0 G0 G3 H3 sg3 r3 := fun F3 =>
    ⟨F3.sl, F3.nd, F3.fr, F3.e0, (F.g0.trans g1.g).trans F3.g0, F3.gh, fun a o z n => F3.nw a o z (g1.n a o (F.e0 _ _ z) (F.nw a o z n))⟩
  by_cases hlt : i < xs.length
  · refine .inr ⟨W.go i H2 (by rw [hlen]; exact hlt) sG, fun sg3 H3 => ∃ G3 r3, Fr M H0 G1 G3 H3 sg3 r3 ∧ Iv (i + 1) r3, fun sg' H' p' => ⟨xs.length - (i + 1), by omega, rfl, hlt, p'⟩, fun x H3 y => ?_⟩
    obtain ⟨G3, d, g3, ed, rx⟩ := W.yld i H2 x H3 (by rw [hlen]; exact hlt) sG y G2 F2.g0 F2.gh
    have ea : xs[i]? = some xs[i] := by simp [hlt]
    have ed2 : d = enc xs[i] := by
      rw [List.getElem?_map, ea] at ed
      exact (Option.some.inj ed).symm
    subst ed2
    obtain ⟨is, r4, ht, hb⟩ := hs i xs[i] r2 ea iv
    refine ht X hX H0 G1 G3 H3 sg2 x (F2.grow g3) rx _ fun sg4 F4 _ => ?_
    refine wSs_imp ?_ (hb X hX H0 G1 G3 H3 sg4 F4)
    exact ⟨fun sg5 H5 q => q, fun v H5 ⟨G5, sg5, r5, d5, F5, rv, q⟩ => ⟨G5, sg5, r5, d5, back F5, rv, q⟩, fun sg5 H5 ⟨G5, r5, F5, q⟩ => ⟨G5, r5, back F5, q⟩, fun sg5 H5 q => q⟩
  · have e : i = xs.length := by omega
    subst e
    refine .inl ⟨by have z := W.stop H2 sG; rw [hlen] at z; exact z, G2, r2, back F2, hd r2 iv⟩
theorem x_while (Iv : Nat → List Sl → Prop) (m0 : Nat) (h0 : Iv m0 r)
    (hs : ∀ m r', Iv m r' → ∃ b, EvT M N sc k c r' b ∧ (b = true → Exe M N sc k body r' { D with nx := fun r2 => ∃ m', m' < m ∧ Iv m' r2, ct := fun r2 => ∃ m', m' < m ∧ Iv m' r2, bk := fun r2 => Exe M N sc k sts r2 D }) ∧ (b = false → Exe M N sc k sts r' D)) :
    Exe M N sc k (.While c body [] pos :: sts) r D := x_cons fun X hX H0 G0 G H sg F => by
  refine ⟨_, ps_while hX.pass pt_w pss_w, ?_⟩
  refine ⟨fun m sg2 H2 => ∃ G2 r2, Fr M H0 G0 G2 H2 sg2 r2 ∧ Iv m r2, ⟨m0, G, r, F, h0⟩, ?_⟩
  rintro m sg2 H2 ⟨G2, r2, F2, iv⟩
  obtain ⟨b, ht, h1, h2⟩ := hs m r2 iv
  refine ht X hX H0 G0 G2 H2 sg2 F2 _ fun G3 H3 g3 => ?_
  cases b with
  | true =>
    refine iteT ?_
    refine ⟨fun sg4 H4 => ∃ G4 r4, Fr M H0 G0 G4 H4 sg4 r4 ∧ ∃ m', m' < m ∧ Iv m' r4, fun sg4 H4 ⟨G4, r4, F4, m', hm, iv'⟩ => ⟨m', hm, G4, r4, F4, iv'⟩, ?_⟩
    exact h1 rfl X hX H0 G0 G3 H3 sg2 (F2.grow g3)
  | false =>
    refine iteF ?_
    exact ⟨G3, r2, F2.grow g3, h2 rfl⟩
end
end Ts

set_option Elab.async false
set_option linter.all false
set_option maxRecDepth 100000
set_option maxHeartbeats 4000000
/-! D6: defs and methods over data. -/
namespace Ts
open PySem L2

def startR (N : List Str) (ds : List Dt) : List Sl := ds.map Sl.dat ++ List.replicate (N.length - ds.length) Sl.no
section
variable {M : Gm} {N ps : List Str} {k : Nat} {x qual : Str} {st : Stmt} {f : Addr} {fd : FuncData} {dvs : List V}
theorem sla_no {G H : Hp} : ∀ n : Nat, SlA M G H (List.replicate n none) (List.replicate n Sl.no)
  | 0 => .nil
  | n + 1 => .cons .no (sla_no n)
theorem sla_app {G H : Hp} : ∀ {sg sg' : L2.St} {r r' : List Sl}, SlA M G H sg r → SlA M G H sg' r' → SlA M G H (sg ++ sg') (r ++ r')
  | _, _, _, _, .nil, h => h
  | _, _, _, _, .cons a b, h => .cons a (sla_app b h)
theorem sla_dat {G H : Hp} : ∀ {vs : List V} {ds : List Dt}, RpA M G vs ds → SlA M G H (vs.map some) (ds.map Sl.dat)
  | _, _, .nil => .nil
  | _, _, .cons a b => .cons (.dat a) (sla_dat b)
theorem sla_start {G H : Hp} {vs : List V} {ds : List Dt} (h : RpA M G vs ds) : SlA M G H (L2.start N vs) (startR N ds) := by
  unfold L2.start startR
  rw [h.length]
  exact sla_app (sla_dat h) (sla_no _)
theorem feet_dats (ds : List Dt) (n : Nat) : feet (ds.map Sl.dat ++ List.replicate n Sl.no) = [] := by
  unfold feet
  rw [List.flatMap_append, List.append_eq_nil_iff]
  refine ⟨List.flatMap_eq_nil_iff.mpr fun s hs => ?_, List.flatMap_eq_nil_iff.mpr fun s hs => ?_⟩
  · obtain ⟨d, _, rfl⟩ := List.mem_map.mp hs
    rfl
  · rw [(List.mem_replicate.mp hs).2]
    rfl
/-- the ends of a def that gives d -/
def dnD (d : Dt) : Dn := ⟨fun _ => d = .non, fun d' _ => d' = d, fun _ => False, fun _ => False⟩
theorem xok_fn {scope : Scope} {cdv : Value} {A : Around} {outer : List Env} {s : Shared} {H : Hp} {E : XK} (S : FnScope N ps scope) (hr : Room k (A.deeper (PyProof.Rows.envOfC qual scope s.heap.objs.size f cdv))) :
    Xok M N scope k (cxOf CX0 M.P M.w M.K M.mg M.base N qual scope f cdv A outer s H E).nox where
  gm := rfl
  nm := rfl
  scp := rfl
  nd := S.nd
  room := hr
  calm := rfl
  pass := PassesOwn.never
  cell := fun _ _ _ => rfl
/-- a def of data -/
theorem fn_data {R : List Dt → Dt → Prop} (F : FunD M.K x qual (defArgs st) (defBody st) (defScope st) dvs [] f fd) (S : FnScope N ps (defScope st)) (len : ∀ ds d, R ds d → ds.length = ps.length)
    (hb : ∀ ds d, R ds d → Exe M N (defScope st) k (defBody st) (startR N ds) (dnD d)) : FnOk M.P M.w M.K M.mg M.base CX0 (k + 1) f fd ps (spD M R) := by
  refine F.ok S (fun vs H Q E h => ?_) (fun cdv A outer s H vs Q E hr h => ?_)
  · obtain ⟨G, ds, d, _, hv, hR, _⟩ := h
    rw [hv.length]
    exact len ds d hR
  · obtain ⟨G, ds, d, hG, hv, hR, q⟩ := h
    have fr : Fr M H G G H (L2.start N vs) (startR N ds) := ⟨sla_start hv, by unfold startR; rw [feet_dats]; exact List.nodup_nil, fun p hp => by unfold startR at hp; rw [feet_dats] at hp; exact (nomatch hp), .refl _, .refl _, hG, fun _ _ _ n => n⟩
    obtain ⟨t, pt, z⟩ := hb ds d hR _ (xok_fn (qual := qual) S hr) H G G H _ fr
    refine ⟨fun E2 sg H => ∃ E1, ImpE E1 E2 ∧ t E1 sg H, PSs.nox ⟨fun pins s sg H E2 I ⟨E1, i, h⟩ => thn (pt.run pins s sg H E1 I h) fun f s1 z => spImp i z⟩, _, ?_, z⟩
    refine ⟨fun sg H1 ⟨G1, r1, F1, e⟩ => ?_, fun v H1 ⟨G1, sg1, r1, d1, F1, rv, e⟩ => ?_, fun sg H1 ⟨G1, r1, F1, e⟩ => e.elim, fun sg H1 ⟨G1, r1, F1, e⟩ => e.elim⟩
    · have e' : d = .non := e
      subst e'
      exact q _ G1 H1 ⟨F1.g0, F1.e0, F1.gh, F1.nw⟩ .non
    · have e' : d1 = d := e
      subst e'
      exact q _ G1 H1 ⟨F1.g0, F1.e0, F1.gh, F1.nw⟩ rv
/-- .. under its name -/
theorem keeps_of {R : List Dt → Dt → Prop} (F : FunD M.K x x (defArgs st) (defBody st) (defScope st) [] [] f fd) (hm : M.mg x = some (.ref f)) (S : FnScope N ps (defScope st)) (len : ∀ ds d, R ds d → ds.length = ps.length)
    (hbi : ∀ (kV doc pm : Value) (an : Option Addr) (cdv ct : Value) (us : List Value), us.length = ps.length → bindArgs (PySem.W.fnOf x x (defArgs st) (defBody st) (defScope st) .none kV doc pm an cdv ct) ⟨us, []⟩ = pure (ps.zip us))
    (hb : ∀ ds d, R ds d → Exe M N (defScope st) k (defBody st) (startR N ds) (dnD d)) : Keeps M (k + 1) x R :=
  ⟨f, fd, ps, [], fn_data F S len hb, hm, F.kp, F.bindsN hbi, .nil⟩

/-! ### methods of a fight -/
/-- the heap changes within ps -/
structure GrowF (ps : List Addr) (G H G' H' : Hp) : Prop where
  g : Same G G'
  h : ∀ a o, a ∉ ps → H a = some o → H' a = some o
  i : Same G' H'
  n : ∀ a o, H a = some o → G a = none → G' a = none
/-- a method's promise: the fight F, the arguments' data, the fight behind, the answer -/
def spM (M : Gm) (R : FigD → List Dt → FigD → Dt → Prop) : Sp := fun vs H Q _ => ∃ (G : Hp) (W : FigV) (F : FigD) (ws : List V) (ds : List Dt) (F' : FigD) (d : Dt), vs = .ref W.self :: ws ∧ Same G H ∧ RpA M G ws ds ∧ FigOk M G H W F ∧ W.ft.Nodup ∧ (∀ p ∈ W.ft, G p = none) ∧
  R F ds F' d ∧ ∀ v G' H' W', W'.ft = W.ft → GrowF W.ft G H G' H' → FigOk M G' H' W' F' → Rp M G' v d → Q v H'
/-- a method that changes nothing -/
def spMp (M : Gm) (R : FigD → List Dt → Dt → Prop) : Sp := fun vs H Q _ => ∃ (G : Hp) (W : FigV) (F : FigD) (ws : List V) (ds : List Dt) (d : Dt), vs = .ref W.self :: ws ∧ Same G H ∧ RpA M G ws ds ∧ FigOk M G H W F ∧ W.ft.Nodup ∧ (∀ p ∈ W.ft, G p = none) ∧
  R F ds d ∧ ∀ v G' H', Grow G H G' H' → Rp M G' v d → Q v H'
def startM (N : List Str) (W : FigV) (F : FigD) (ds : List Dt) : List Sl := .fig W F :: (ds.map Sl.dat ++ List.replicate (N.length - (ds.length + 1)) Sl.no)
theorem start_m {G H : Hp} {W : FigV} {F : FigD} {ws : List V} {ds : List Dt} (h : RpA M G ws ds) (hF : FigOk M G H W F) : SlA M G H (L2.start N (.ref W.self :: ws)) (startM N W F ds) := by
  unfold L2.start startM
  rw [List.map_cons, List.length_cons, h.length, List.cons_append]
  exact .cons (.fig hF) (sla_app (sla_dat h) (sla_no _))
theorem feet_m (W : FigV) (F : FigD) (ds : List Dt) : feet (startM N W F ds) = W.ft := by
  unfold startM
  have e := feet_dats ds (N.length - (ds.length + 1))
  unfold feet at e ⊢
  rw [List.flatMap_cons, e, List.append_nil]
  rfl
/-- H without ps -/
def less (ps : List Addr) (H : Hp) : Hp := fun a => if a ∈ ps then none else H a
theorem less_some {ps : List Addr} {H : Hp} {a : Addr} {o : HO} (h : less ps H a = some o) : a ∉ ps ∧ H a = some o := by
  unfold less at h
  by_cases m : a ∈ ps
  · rw [if_pos m] at h
    cases h
  · rw [if_neg m] at h
    exact ⟨m, h⟩
theorem less_of {ps : List Addr} {H : Hp} {a : Addr} {o : HO} (n : a ∉ ps) (h : H a = some o) : less ps H a = some o := by
  unfold less
  rw [if_neg n]
  exact h
theorem less_in {ps : List Addr} {H : Hp} {a : Addr} (m : a ∈ ps) : less ps H a = none := by
  unfold less
  rw [if_pos m]
/-- the ends of a method: the fight F' stands in the first slot -/
def dnM (W : FigV) (F' : FigD) (d : Dt) : Dn := ⟨fun r => d = .non ∧ ∃ W', W'.ft = W.ft ∧ r[0]? = some (.fig W' F'), fun d' r => d' = d ∧ ∃ W', W'.ft = W.ft ∧ r[0]? = some (.fig W' F'), fun _ => False, fun _ => False⟩
/-- .. nothing is changed -/
def dnMp (W : FigV) (F : FigD) (d : Dt) : Dn := ⟨fun r => d = .non ∧ r[0]? = some (.fig W F), fun d' r => d' = d ∧ r[0]? = some (.fig W F), fun _ => False, fun _ => False⟩
theorem fn_meth {R : FigD → List Dt → FigD → Dt → Prop} (F : FunD M.K x qual (defArgs st) (defBody st) (defScope st) dvs [] f fd) (S : FnScope N ps (defScope st)) (len : ∀ F ds F' d, R F ds F' d → ds.length + 1 = ps.length)
    (hb : ∀ W F ds F' d, R F ds F' d → Exe M N (defScope st) k (defBody st) (startM N W F ds) (dnM W F' d)) : FnOk M.P M.w M.K M.mg M.base CX0 (k + 1) f fd ps (spM M R) := by
  refine F.ok S (fun vs H Q E h => ?_) (fun cdv A outer s H vs Q E hr h => ?_)
  · obtain ⟨G, W, F0, ws, ds, F', d, rfl, _, hv, _, _, _, hR, _⟩ := h
    rw [List.length_cons, hv.length]
    exact len _ _ _ _ hR
  · obtain ⟨G, W, F0, ws, ds, F', d, rfl, hG, hv, hF, hn, hf, hR, q⟩ := h
    have s0 : Same (less W.ft H) H := fun a o z => (less_some z).2
    have fr : Fr M (less W.ft H) G G H (L2.start N (.ref W.self :: ws)) (startM N W F0 ds) := ⟨start_m hv hF, by rw [feet_m]; exact hn, fun p hp => by rw [feet_m] at hp; exact ⟨less_in hp, hf p hp⟩, s0, .refl _, hG, fun _ _ _ n => n⟩
    obtain ⟨t, pt, z⟩ := hb W F0 ds F' d hR _ (xok_fn (qual := qual) S hr) (less W.ft H) G G H _ fr
    refine ⟨fun E2 sg H => ∃ E1, ImpE E1 E2 ∧ t E1 sg H, PSs.nox ⟨fun pins s sg H E2 I ⟨E1, i, h⟩ => thn (pt.run pins s sg H E1 I h) fun f s1 z => spImp i z⟩, _, ?_, z⟩
    have fin : ∀ {G1 H1 : Hp} {sg1 : L2.St} {r1 : List Sl} {W' : FigV}, W'.ft = W.ft → Fr M (less W.ft H) G G1 H1 sg1 r1 → r1[0]? = some (.fig W' F') → GrowF W.ft G H G1 H1 ∧ FigOk M G1 H1 W' F' := fun ew F1 e => by
      obtain ⟨o, _, so⟩ := F1.sl.get e
      cases so with
      | fig z =>
        refine ⟨⟨F1.g0, fun a o n h => F1.e0 a o (less_of n h), F1.gh, fun a o h n => ?_⟩, z⟩
        by_cases m : a ∈ W.ft
        · refine (F1.fr a (List.mem_flatMap.mpr ⟨_, List.mem_of_getElem? e, ?_⟩)).2
          show a ∈ FigV.ft _
          rw [ew]
          exact m
        · exact F1.nw a o (less_of m h) n
    refine ⟨fun sg H1 ⟨G1, r1, F1, e⟩ => ?_, fun v H1 ⟨G1, sg1, r1, d1, F1, rv, e⟩ => ?_, fun sg H1 ⟨G1, r1, F1, e⟩ => e.elim, fun sg H1 ⟨G1, r1, F1, e⟩ => e.elim⟩
    · obtain ⟨e', W', ew, e2⟩ := (show d = .non ∧ ∃ W', W'.ft = W.ft ∧ r1[0]? = some (.fig W' F') from e)
      subst e'
      obtain ⟨b1, b2⟩ := fin ew F1 e2
      exact q _ G1 H1 W' ew b1 b2 .non
    · obtain ⟨e', W', ew, e2⟩ := (show d1 = d ∧ ∃ W', W'.ft = W.ft ∧ r1[0]? = some (.fig W' F') from e)
      subst e'
      obtain ⟨b1, b2⟩ := fin ew F1 e2
      exact q _ G1 H1 W' ew b1 b2 rv
/-- a method that only reads -/
theorem fn_methp {R : FigD → List Dt → Dt → Prop} (F : FunD M.K x qual (defArgs st) (defBody st) (defScope st) dvs [] f fd) (S : FnScope N ps (defScope st)) (len : ∀ F ds d, R F ds d → ds.length + 1 = ps.length)
    (hb : ∀ W F ds d, R F ds d → Exe M N (defScope st) k (defBody st) (startM N W F ds) (dnMp W F d)) : FnOk M.P M.w M.K M.mg M.base CX0 (k + 1) f fd ps (spMp M R) := by
  refine F.ok S (fun vs H Q E h => ?_) (fun cdv A outer s H vs Q E hr h => ?_)
  · obtain ⟨G, W, F0, ws, ds, d, rfl, _, hv, _, _, _, hR, _⟩ := h
    rw [List.length_cons, hv.length]
    exact len _ _ _ hR
  · obtain ⟨G, W, F0, ws, ds, d, rfl, hG, hv, hF, hn, hf, hR, q⟩ := h
    have s0 : Same (less W.ft H) H := fun a o z => (less_some z).2
    have fr : Fr M (less W.ft H) G G H (L2.start N (.ref W.self :: ws)) (startM N W F0 ds) := ⟨start_m hv hF, by rw [feet_m]; exact hn, fun p hp => by rw [feet_m] at hp; exact ⟨less_in hp, hf p hp⟩, s0, .refl _, hG, fun _ _ _ n => n⟩
    obtain ⟨t, pt, z⟩ := hb W F0 ds d hR _ (xok_fn (qual := qual) S hr) (less W.ft H) G G H _ fr
    refine ⟨fun E2 sg H => ∃ E1, ImpE E1 E2 ∧ t E1 sg H, PSs.nox ⟨fun pins s sg H E2 I ⟨E1, i, h⟩ => thn (pt.run pins s sg H E1 I h) fun f s1 z => spImp i z⟩, _, ?_, z⟩
    have fin : ∀ {G1 H1 : Hp} {sg1 : L2.St} {r1 : List Sl}, Fr M (less W.ft H) G G1 H1 sg1 r1 → r1[0]? = some (.fig W F0) → Grow G H G1 H1 := fun {G1 H1 sg1 r1} F1 e => by
      obtain ⟨o, _, so⟩ := F1.sl.get e
      cases so with
      | fig z =>
        have hin : ∀ a ∈ W.ft, H1 a = H a := fun a ha => by
          simp only [List.mem_cons, List.not_mem_nil, or_false] at ha
          rcases ha with rfl | rfl | rfl
          · rw [z.ins, hF.ins]
          · rw [z.st, hF.st]
          · rw [z.pa, hF.pa]
        refine ⟨F1.g0, fun a o h => ?_, F1.gh, fun a o h n => ?_⟩
        · by_cases m : a ∈ W.ft
          · rw [hin a m]
            exact h
          · exact F1.e0 a o (less_of m h)
        · by_cases m : a ∈ W.ft
          · exact (F1.fr a (List.mem_flatMap.mpr ⟨_, List.mem_of_getElem? e, m⟩)).2
          · exact F1.nw a o (less_of m h) n
    refine ⟨fun sg H1 ⟨G1, r1, F1, e⟩ => ?_, fun v H1 ⟨G1, sg1, r1, d1, F1, rv, e⟩ => ?_, fun sg H1 ⟨G1, r1, F1, e⟩ => e.elim, fun sg H1 ⟨G1, r1, F1, e⟩ => e.elim⟩
    · obtain ⟨e', e2⟩ := (show d = .non ∧ r1[0]? = some (.fig W F0) from e)
      subst e'
      exact q _ G1 H1 (fin F1 e2) .non
    · obtain ⟨e', e2⟩ := (show d1 = d ∧ r1[0]? = some (.fig W F0) from e)
      subst e'
      exact q _ G1 H1 (fin F1 e2) rv
end

/-! ### a fight's fields and methods, where it stands in a slot -/
/-- a method keeps R -/
abbrev KeepsM (M : Gm) (j : Nat) (m : Str) (R : FigD → List Dt → FigD → Dt → Prop) (dvs : List V) : Prop := C8.Met M.P M.w M.K M.mg M.base j M.CF m (spM M R) dvs
abbrev KeepsP (M : Gm) (j : Nat) (m : Str) (R : FigD → List Dt → Dt → Prop) : Prop := C8.Met M.P M.w M.K M.mg M.base j M.CF m (spMp M R) []
section
variable {M : Gm} {N : List Str} {sc : Scope} {k : Nat} {e a b : Expr} {es rest : List Expr} {r : List Sl} {d d1 d2 : Dt} {ds : List Dt} {pos p : Pos} {x m f : Str} {sts : List Stmt} {D : Dn}
theorem Fr.fig {H0 G0 G H : Hp} {sg : L2.St} {i : Nat} {W : FigV} {F : FigD} (Q : Fr M H0 G0 G H sg r) (h : r[i]? = some (.fig W F)) : sg[i]? = some (some (.ref W.self)) ∧ FigOk M G H W F ∧ W.ft.Nodup ∧ ∀ p ∈ W.ft, H0 p = none ∧ G p = none := by
  obtain ⟨o, e, so⟩ := Q.sl.get h
  cases so with
  | fig z =>
    refine ⟨e, z, ?_, fun p hp => Q.fr p (List.mem_flatMap.mpr ⟨_, List.mem_of_getElem? h, hp⟩)⟩
    have hs : (foot (.fig W F)).Sublist (feet r) := by
      have m := List.mem_of_getElem? h
      unfold feet
      exact List.sublist_flatten_of_mem (List.mem_map.mpr ⟨_, m, rfl⟩)
    exact hs.nodup Q.nd
inductive FigFld : Str → FigD → Dt → Prop
  | known {F : FigD} : FigFld "known" F (.lst F.known)
  | keepers {F : FigD} : FigFld "keepers" F (.lst F.keepers)
  | log {F : FigD} : FigFld "last_log" F (.lst F.log)
theorem ev_ffld {i : Nat} {W : FigV} {F : FigD} {p2 : Pos} (T : ClsF M) (h : r[i]? = some (.fig W F)) (hN : N[i]? = some x) (hv : Vis sc x) (hd : (x == ("__debug__" : Str)) = false) (hcd : (x == ("__classdict__" : Str)) = false) (hf : FigFld f F d) : Ev M N sc k (.Attribute (.Name x p2) f pos) r d := fun X hX H0 G0 G H sg Q q q2 => by
  have hm := hX.gm
  subst hm
  obtain ⟨e1, z, _, _⟩ := Q.fig h
  refine ⟨_, pe_fld (pe_var (i := i) (by rw [hX.nm]; exact hN) (by rw [hX.scp]; exact hv) hd hcd) rfl, _, e1, ?_⟩
  cases hf with
  | known => exact ⟨_, _, _, _, _, rfl, z.ins, T.cf, T.aF _ (by decide +kernel), (by with_unfolding_all rfl), q2 _ _ _ (Grow.refl Q.gh) z.rk⟩
  | keepers => exact ⟨_, _, _, _, _, rfl, z.ins, T.cf, T.aF _ (by decide +kernel), (by with_unfolding_all rfl), q2 _ _ _ (Grow.refl Q.gh) z.ro⟩
  | log => exact ⟨_, _, _, _, _, rfl, z.ins, T.cf, T.aF _ (by decide +kernel), (by with_unfolding_all rfl), q2 _ _ _ (Grow.refl Q.gh) z.rl⟩
inductive FigLst : Str → FigD → List Dt → Prop
  | stands {F : FigD} : FigLst "stands" F F.stands
  | past {F : FigD} : FigLst "past" F F.past
theorem em_ffld {i : Nat} {W : FigV} {F : FigD} {p2 : Pos} (T : ClsF M) (h : r[i]? = some (.fig W F)) (hN : N[i]? = some x) (hv : Vis sc x) (hd : (x == ("__debug__" : Str)) = false) (hcd : (x == ("__classdict__" : Str)) = false) (hf : FigLst f F ds) : EvM M N sc k (.Attribute (.Name x p2) f pos) r ds := fun X hX H0 G0 G H sg Q q q2 => by
  have hm := hX.gm
  subst hm
  obtain ⟨e1, z, _, _⟩ := Q.fig h
  refine ⟨_, pe_fld (pe_var (i := i) (by rw [hX.nm]; exact hN) (by rw [hX.scp]; exact hv) hd hcd) rfl, _, e1, ?_⟩
  cases hf with
  | stands => exact ⟨_, _, _, _, _, rfl, z.ins, T.cf, T.aF _ (by decide +kernel), (by with_unfolding_all rfl), q2 _ _ _ _ (Grow.refl Q.gh) z.st z.rs⟩
  | past => exact ⟨_, _, _, _, _, rfl, z.ins, T.cf, T.aF _ (by decide +kernel), (by with_unfolding_all rfl), q2 _ _ _ _ (Grow.refl Q.gh) z.pa z.rp⟩
theorem noattr_m {vk vo vl : V} {st pa : Addr} (h : m ∉ ([("known" : Str), "keepers", "stands", "past", "last_log"] : List Str)) : (figFs vk vo st pa vl).lookup m = none := by
  unfold figFs
  simp only [List.mem_cons, List.not_mem_nil, or_false, not_or] at h
  obtain ⟨h1, h2, h3, h4, h5⟩ := h
  rw [List.lookup_cons, show (m == ("known" : Str)) = false from beq_eq_false_iff_ne.mpr h1, List.lookup_cons, show (m == ("keepers" : Str)) = false from beq_eq_false_iff_ne.mpr h2, List.lookup_cons, show (m == ("stands" : Str)) = false from beq_eq_false_iff_ne.mpr h3,
    List.lookup_cons, show (m == ("past" : Str)) = false from beq_eq_false_iff_ne.mpr h4, List.lookup_cons, show (m == ("last_log" : Str)) = false from beq_eq_false_iff_ne.mpr h5]
  rfl
/-- o.m(e, ..), which only reads -/
theorem ev_meth {i j : Nat} {W : FigV} {F : FigD} {p2 apos : Pos} {R : FigD → List Dt → Dt → Prop} {pl : Env → Sem Bool} (c : KeepsP M j m R) (hk : j ≤ k) (h : r[i]? = some (.fig W F)) (hN : N[i]? = some x) (hv : Vis sc x) (hd : (x == ("__debug__" : Str)) = false) (hcd : (x == ("__classdict__" : Str)) = false)
    (hm : m ∉ ([("known" : Str), "keepers", "stands", "past", "last_log"] : List Str)) (ha : EvA M N sc k (e :: es) r ds) (hR : R F ds d) (hst : ∀ env, starEach (e :: es) env = (false, eval e env) :: starEach es env) (hpl : ∀ env, (backTo pos (starEach es env)).any (·.1) = false)
    (ht : ∀ env, eval (.Call (.Attribute (.Name x p2) m apos) (e :: es) [] pos) env = (do
      let ov ← eval (.Name x p2) env
      standAt apos.atName
      let (f, first) ← holding [ov] (getMethod ov m (pl env))
      callWith pos f first (backTo pos (starEach (e :: es) env)) (backToKw pos (keywordEach [] env)))) : Ev M N sc k (.Call (.Attribute (.Name x p2) m apos) (e :: es) [] pos) r d := fun X hX H0 G0 G H sg Q q q2 => by
  have hgm := hX.gm
  subst hgm
  obtain ⟨e1, z, z2, z3⟩ := Q.fig h
  refine ⟨_, C8.pe_mt (pl := pl X.env) c hX.room hk (pe_var (i := i) (by rw [hX.nm]; exact hN) (by rw [hX.scp]; exact hv) hd hcd) pa_w (hst _) (hpl _) (ht _), _, e1, _, _, _, rfl, z.ins, noattr_m hm, ?_⟩
  refine ha X hX H0 G0 G H sg Q _ fun vs G1 H1 g1 r1 => ?_
  rw [List.append_nil]
  obtain ⟨_, y, y2, y3⟩ := (Q.grow g1).fig h
  exact ⟨G1, W, F, vs, ds, d, rfl, g1.i, r1, y, y2, fun p hp => (y3 p hp).2, hR, fun v G2 H2 g2 r2 => q2 v G2 H2 (g1.trans g2) r2⟩
theorem ev_meth0 {i j : Nat} {W : FigV} {F : FigD} {p2 apos : Pos} {R : FigD → List Dt → Dt → Prop} {pl : Env → Sem Bool} (c : KeepsP M j m R) (hk : j ≤ k) (h : r[i]? = some (.fig W F)) (hN : N[i]? = some x) (hv : Vis sc x) (hd : (x == ("__debug__" : Str)) = false) (hcd : (x == ("__classdict__" : Str)) = false)
    (hm : m ∉ ([("known" : Str), "keepers", "stands", "past", "last_log"] : List Str)) (hR : R F [] d)
    (ht : ∀ env, eval (.Call (.Attribute (.Name x p2) m apos) [] [] pos) env = (do
      let ov ← eval (.Name x p2) env
      standAt apos.atName
      let (f, first) ← holding [ov] (getMethod ov m (pl env))
      callWith pos f first (backTo pos (starEach [] env)) (backToKw pos (keywordEach [] env)))) : Ev M N sc k (.Call (.Attribute (.Name x p2) m apos) [] [] pos) r d := fun X hX H0 G0 G H sg Q q q2 => by
  have hgm := hX.gm
  subst hgm
  obtain ⟨e1, z, z2, z3⟩ := Q.fig h
  refine ⟨_, C8.pe_mt0 (pl := pl X.env) c hX.room hk (pe_var (i := i) (by rw [hX.nm]; exact hN) (by rw [hX.scp]; exact hv) hd hcd) (ht _), _, e1, _, _, _, rfl, z.ins, noattr_m hm, ?_⟩
  exact ⟨G, W, F, [], [], d, rfl, Q.gh, .nil, z, z2, fun p hp => (z3 p hp).2, hR, q2⟩
theorem feet_ft {i : Nat} {W W' : FigV} {F F' : FigD} (e : W'.ft = W.ft) (h : r[i]? = some (.fig W F)) : feet (r.set i (.fig W' F')) = feet r := feet_same (s := .fig W F) (s' := .fig W' F') e h
theorem SlOk.growF {ps : List Addr} {G H G' H' : Hp} (g : GrowF ps G H G' H') : ∀ {o : Option V} {s : Sl}, SlOk M G H o s → (∀ p ∈ foot s, p ∉ ps) → SlOk M G' H' o s
  | _, _, .no, _ => .no
  | _, _, .dat q, _ => .dat (q.mono g.g)
  | _, _, .own h q, n => .own (g.h _ _ (n _ (List.mem_singleton.mpr rfl)) h) (q.mono g.g)
  | _, _, .fig q, n => .fig ⟨g.h _ _ (n _ (by simp [foot])) q.ins, g.h _ _ (n _ (by simp [foot])) q.st, g.h _ _ (n _ (by simp [foot])) q.pa, q.rk.mono g.g, q.ro.mono g.g, q.rl.mono g.g, q.rs.mono g.g, q.rp.mono g.g⟩
theorem SlA.growF {ps : List Addr} {G H G' H' : Hp} (g : GrowF ps G H G' H') : ∀ {sg : L2.St} {r : List Sl}, SlA M G H sg r → (∀ p ∈ feet r, p ∉ ps) → SlA M G' H' sg r
  | _, _, .nil, _ => .nil
  | _, _, .cons a b, n => by
    have e : ∀ s r, feet (s :: r) = foot s ++ feet r := fun s r => by unfold feet; rw [List.flatMap_cons]
    rw [e] at n
    exact .cons (a.growF g fun p hp => n p (List.mem_append_left _ hp)) (SlA.growF g b fun p hp => n p (List.mem_append_right _ hp))
theorem SlA.meth {G H G' H' : Hp} {W W' : FigV} {F F' : FigD} (ew : W'.ft = W.ft) (g : GrowF W.ft G H G' H') (z : FigOk M G' H' W' F') : ∀ {sg : L2.St} {r : List Sl} {i : Nat}, SlA M G H sg r → (feet r).Nodup → r[i]? = some (.fig W F) → SlA M G' H' sg (r.set i (.fig W' F'))
  | _, _, _, .nil, _, h => by simp at h
  | _, _, 0, @SlA.cons _ _ _ o s0 os r a b, nd, h => by
    have e : ∀ s r, feet (s :: r) = foot s ++ feet r := fun s r => by unfold feet; rw [List.flatMap_cons]
    simp at h
    subst h
    rw [e, List.nodup_append] at nd
    cases a with
    | fig _ =>
      refine .cons ?_ (b.growF g fun p hp m => nd.2.2 p m p hp rfl)
      have e1 : W'.self = W.self := by
        have := ew
        simp only [List.cons.injEq] at this
        exact this.1
      rw [← e1]
      exact .fig z
  | _, _, i + 1, @SlA.cons _ _ _ o s0 os r a b, nd, h => by
    have e : ∀ s r, feet (s :: r) = foot s ++ feet r := fun s r => by unfold feet; rw [List.flatMap_cons]
    have h' : r[i]? = some (.fig W F) := by simpa using h
    rw [e, List.nodup_append] at nd
    refine .cons (a.growF g fun p hp m => ?_) (SlA.meth ew g z b nd.2.1 h')
    exact nd.2.2 p hp p (List.mem_flatMap.mpr ⟨_, List.mem_of_getElem? h', m⟩) rfl
theorem Fr.meth {H0 G0 G H G' H' : Hp} {sg : L2.St} {i : Nat} {W W' : FigV} {F F' : FigD} (Q : Fr M H0 G0 G H sg r) (h : r[i]? = some (.fig W F)) (ew : W'.ft = W.ft) (g : GrowF W.ft G H G' H') (z : FigOk M G' H' W' F') : Fr M H0 G0 G' H' sg (r.set i (.fig W' F')) := by
  obtain ⟨_, y, y2, y3⟩ := Q.fig h
  refine ⟨Q.sl.meth ew g z Q.nd h, by rw [feet_ft ew h]; exact Q.nd, fun p hp => ?_, fun a o q => ?_, Q.g0.trans g.g, g.i, fun a o q n => ?_⟩
  · rw [feet_ft ew h] at hp
    obtain ⟨u, e⟩ := Q.sl.there p hp
    exact ⟨(Q.fr p hp).1, g.n p u e (Q.fr p hp).2⟩
  · refine g.h a o (fun m => ?_) (Q.e0 a o q)
    rw [(y3 a m).1] at q
    cases q
  · exact g.n a o (Q.e0 _ _ q) (Q.nw a o q n)
/-- a statement o.m(e, ..) that changes the fight -/
theorem x_meth {i j : Nat} {W : FigV} {F F' : FigD} {p2 apos cpos : Pos} {R : FigD → List Dt → FigD → Dt → Prop} {pl : Env → Sem Bool} {dvs : List V} {dds : List Dt} (c : KeepsM M j m R dvs) (hk : j ≤ k) (h : r[i]? = some (.fig W F)) (hN : N[i]? = some x) (hv : Vis sc x) (hd : (x == ("__debug__" : Str)) = false) (hcd : (x == ("__classdict__" : Str)) = false)
    (hm : m ∉ ([("known" : Str), "keepers", "stands", "past", "last_log"] : List Str)) (ha : EvA M N sc k (e :: es) r ds) (hdv : ∀ G, RpA M G dvs dds) (hR : R F (ds ++ dds) F' d) (hst : ∀ env, starEach (e :: es) env = (false, eval e env) :: starEach es env) (hpl : ∀ env, (backTo cpos (starEach es env)).any (·.1) = false)
    (ht : ∀ env, eval (.Call (.Attribute (.Name x p2) m apos) (e :: es) [] cpos) env = (do
      let ov ← eval (.Name x p2) env
      standAt apos.atName
      let (f, first) ← holding [ov] (getMethod ov m (pl env))
      callWith cpos f first (backTo cpos (starEach (e :: es) env)) (backToKw cpos (keywordEach [] env))))
    (z : ∀ W', W'.ft = W.ft → Exe M N sc k sts (r.set i (.fig W' F')) D) : Exe M N sc k (.Expr (.Call (.Attribute (.Name x p2) m apos) (e :: es) [] cpos) pos :: sts) r D := x_cons fun X hX H0 G0 G H sg Q => by
  have hgm := hX.gm
  subst hgm
  obtain ⟨e1, y, y2, y3⟩ := Q.fig h
  refine ⟨_, ps_expr (C8.pe_mt (pl := pl X.env) c hX.room hk (pe_var (i := i) (by rw [hX.nm]; exact hN) (by rw [hX.scp]; exact hv) hd hcd) pa_w (hst _) (hpl _) (ht _)) rfl, _, e1, _, _, _, rfl, y.ins, noattr_m hm, ?_⟩
  refine ha X hX H0 G0 G H sg Q _ fun vs G1 H1 g1 r1 => ?_
  have Q1 := Q.grow g1
  obtain ⟨_, y, y2, y3⟩ := Q1.fig h
  exact ⟨G1, W, F, vs ++ dvs, ds ++ dds, F', d, rfl, g1.i, r1.app (hdv G1), y, y2, fun p hp => (y3 p hp).2, hR, fun v G2 H2 W' ew g2 z2 r2 => ⟨G2, _, Q1.meth h ew g2 z2, z W' ew⟩⟩
end
end Ts

set_option Elab.async false
set_option linter.all false
set_option maxRecDepth 100000
set_option maxHeartbeats 4000000
/-! D7: the rules in short, what can be filled in is filled in. -/
namespace Ts
open PySem L2

structure Tx (M : Gm) : Prop extends ClsF M, Blt M where
  i1 : ∃ t, M.mg "MOST_RULES" = some (.int 3 t)
  i2 : ∃ t, M.mg "MOST_CARDS" = some (.int 16 t)
  i3 : ∃ t, M.mg "MOST_HOLDS" = some (.int 8 t)
  i4 : ∃ t, M.mg "POINTS" = some (.int 20 t)
  i5 : ∃ t, M.mg "HAND" = some (.int 3 t)
  i6 : ∃ t, M.mg "MOST_WAITING" = some (.int 40 t)
  i7 : ∃ t, M.mg "COINS" = some (.int 5 t)
  s1 : ∃ t, M.mg "LETTERS" = some (.str "abcdefghijklmnopqrstuvwxyz" t)
  s2 : ∃ t, M.mg "FIGURES" = some (.str "0123456789" t)
  pk : ∃ a, M.mg "PLAYER_KINDS_table" = some (.ref a) ∧ ∀ H, SqT M.K H a [.str "lose", .str "score", .str "draw"]

section
variable {M : Gm} {N : List Str} {sc : Scope} {k : Nat} {e a b c iter tg elt : Expr} {es rest ts : List Expr} {r r' r1 r2 : List Sl} {d d1 d2 : Dt} {ds : List Dt} {pos p : Pos} {x : Str} {st : Stmt} {sts thn els body : List Stmt} {D : Dn}

theorem nm (i : Nat) (h : r[i]? = some (.dat d) := by rfl) (hN : N[i]? = some x := by rfl) (hv : Vis sc x := by first | exact .inl rfl | exact .inr (.inl rfl) | exact .inr (.inr rfl)) (hd : (x == ("__debug__" : Str)) = false := by decide) (hcd : (x == ("__classdict__" : Str)) = false := by decide) : Ev M N sc k (.Name x pos) r d := ev_name h hN hv hd hcd
theorem ow (i : Nat) {q : Addr} (h : r[i]? = some (.own q ds) := by rfl) (hN : N[i]? = some x := by rfl) (hv : Vis sc x := by first | exact .inl rfl | exact .inr (.inl rfl) | exact .inr (.inr rfl)) (hd : (x == ("__debug__" : Str)) = false := by decide) (hcd : (x == ("__classdict__" : Str)) = false := by decide) : EvM M N sc k (.Name x pos) r ds := em_own h hN hv hd hcd
theorem ac (ha : Ev M N sc k e r d) (hr : EvA M N sc k es r ds) (hs : ∀ env, starEach (e :: es) env = (false, eval e env) :: starEach es env := by intros; rfl) : EvA M N sc k (e :: es) r (d :: ds) := ea_cons ha hr hs
theorem a1 (ha : Ev M N sc k e r d) (hs : ∀ env, starEach [e] env = (false, eval e env) :: starEach [] env := by intros; rfl) : EvA M N sc k [e] r [d] := ea_cons ha ea_nil hs
theorem tp {x1} (h : EvA M N sc k es r ds) (hl : ds.length ≤ sizeLine := by exact Nat.le_of_ble_eq_true rfl) : Ev M N sc k (.Tuple es x1 pos) r (.tup ds) := ev_tup h hl
theorem ls (h : EvA M N sc k es r ds) (hl : ds.length ≤ sizeLine := by exact Nat.le_of_ble_eq_true rfl) : Ev M N sc k (.List es pos) r (.lst ds) := ev_lst h hl
theorem lsN (h : EvA M N sc k es r ds) (hl : ds.length ≤ sizeLine := by exact Nat.le_of_ble_eq_true rfl) : EvN M N sc k (.List es pos) r ds := en_lst h hl
theorem pl (ha : Ev M N sc k a r (.int i)) (hb : Ev M N sc k b r (.int j)) : Ev M N sc k (.BinOp a .Add b pos) r (.int (i + j)) := ev_bin ha hb (.add _ _)
theorem mi (ha : Ev M N sc k a r (.int i)) (hb : Ev M N sc k b r (.int j)) : Ev M N sc k (.BinOp a .Sub b pos) r (.int (i - j)) := ev_bin ha hb (.sub _ _)
theorem md (ha : Ev M N sc k a r (.int i)) (hb : Ev M N sc k b r (.int j)) (h : 0 < j := by first | omega | decide) : Ev M N sc k (.BinOp a .Mod b pos) r (.int (i % j)) := ev_bin ha hb (.mod _ _ h)
theorem fd (ha : Ev M N sc k a r (.int i)) (hb : Ev M N sc k b r (.int j)) (h : CDiv i j := by exact ⟨by decide, by decide⟩) : Ev M N sc k (.BinOp a .FloorDiv b pos) r (.int (i / j)) := ev_bin ha hb (.fdiv _ _ h)
theorem mu (ha : Ev M N sc k a r (.int i)) (hb : Ev M N sc k b r (.int j)) (h : CMul i j := by first | exact .inr ⟨by decide, by decide⟩ | exact .inl ⟨by decide, by decide⟩) : Ev M N sc k (.BinOp a .Mult b pos) r (.int (i * j)) := ev_bin ha hb (.mul _ _ h)
theorem pt {xs ys : List Dt} (ha : Ev M N sc k a r (.tup xs)) (hb : Ev M N sc k b r (.tup ys)) (h : xs.length + ys.length ≤ 1000000 := by first | exact Nat.le_of_ble_eq_true rfl | (simp; omega)) : Ev M N sc k (.BinOp a .Add b pos) r (.tup (xs ++ ys)) := ev_bin ha hb (.addt _ _ (Nat.le_trans h (by decide)))
theorem cm {op : CmpOp} {c : Bool} (ha : Ev M N sc k a r d1) (hb : Ev M N sc k b r d2) (h : CmpD op d1 d2 c) (hm : behindInMarks op b = false := by first | rfl | exact nomark _) : Ev M N sc k (.Compare a [op] [b] pos) r (.bl c) := ev_cmp ha hb hm h
theorem tc {op : CmpOp} {c : Bool} (ha : Ev M N sc k a r d1) (hb : Ev M N sc k b r d2) (h : CmpD op d1 d2 c) (hm : behindInMarks op b = false := by first | rfl | exact nomark _) : EvT M N sc k (.Compare a [op] [b] pos) r c := et_cmp ha hb hm h
theorem ix {i : Int} (ha : Ev M N sc k a r (.tup ds)) (hb : Ev M N sc k b r (.int i)) (h : atI ds i = some d := by rfl) (hs : PlainIx b := by exact fun _ _ => rfl) : Ev M N sc k (.Subscript a b pos) r d := ev_ix ha hb hs (.tup h)
theorem il {i : Int} (ha : Ev M N sc k a r (.lst ds)) (hb : Ev M N sc k b r (.int i)) (h : atI ds i = some d := by rfl) (hs : PlainIx b := by exact fun _ _ => rfl) : Ev M N sc k (.Subscript a b pos) r d := ev_ix ha hb hs (.lst h)
theorem im {i : Int} (ha : EvM M N sc k a r ds) (hb : Ev M N sc k b r (.int i)) (h : atI ds i = some d := by rfl) (hs : PlainIx b := by exact fun _ _ => rfl) : Ev M N sc k (.Subscript a b pos) r d := ev_ixm ha hb hs h
theorem is {z : Str} {i : Int} {ch : Nat} (ha : Ev M N sc k a r (.str z)) (hb : Ev M N sc k b r (.int i)) (hz : z.length ≤ 1000000) (h : atI z.cps.toList i = some ch) (hs : PlainIx b := by exact fun _ _ => rfl) : Ev M N sc k (.Subscript a b pos) r (.str ⟨#[ch]⟩) := ev_ix ha hb hs (.str (Nat.le_trans hz (by decide)) h)
theorem tv {c : Bool} (ha : Ev M N sc k a r (.bl c)) (hs : ∀ env whole, isTrue a env whole = (do let v ← whole; standAt a.pos; holding [v] (truthy v)) := by intros; rfl) : EvT M N sc k a r c := et_val ha hs
theorem fl {f : Str} (ha : Ev M N sc k a r d1) (h : FldD f d1 d) (T : Tx M := by assumption) (hb : ∀ env, attributeBase a f env (eval a env) = eval a env := by intros; rfl) : Ev M N sc k (.Attribute a f pos) r d := ev_fld T.toClsF ha hb h
theorem ca {j : Nat} {R : List Dt → Dt → Prop} (C : Keeps M j x R) (ha : EvA M N sc k (e :: es) r ds) (hR : R ds d) (hk : j ≤ k := by decide) (hg : sc.names.lookup x = some .globalImplicit := by rfl) (hdb : (x == ("__debug__" : Str)) = false := by decide) (he : ∀ env, starEach (e :: es) env = (false, eval e env) :: starEach es env := by intros; rfl) (hpl : ∀ env, (backTo pos (starEach es env)).any (·.1) = false := by intros; rfl) :
    Ev M N sc k (.Call (.Name x p) (e :: es) [] pos) r d := ev_call C hk hg ha hR hdb he hpl
theorem gI {i : Int} (h : ∃ t, M.mg x = some (.int i t)) (hg : sc.names.lookup x = some .globalImplicit := by rfl) (hd : (x == ("__debug__" : Str)) = false := by decide) : Ev M N sc k (.Name x pos) r (.int i) := by
  obtain ⟨t, e⟩ := h
  exact ev_glob (v := .int i) hg ⟨_, e, t, rfl⟩ (fun _ => .int i) hd
theorem gS {z : Str} (h : ∃ t, M.mg x = some (.str z t)) (hg : sc.names.lookup x = some .globalImplicit := by rfl) (hd : (x == ("__debug__" : Str)) = false := by decide) : Ev M N sc k (.Name x pos) r (.str z) := by
  obtain ⟨t, e⟩ := h
  exact ev_glob (v := .str z) hg ⟨_, e, t, rfl⟩ (fun _ => .str z) hd
theorem gK (T : Tx M := by assumption) (hg : sc.names.lookup ("PLAYER_KINDS_table" : Str) = some .globalImplicit := by rfl) : Ev M N sc k (.Name "PLAYER_KINDS_table" pos) r (.tup (([("lose" : Str), "score", "draw"] : List Str).map .str)) := by
  obtain ⟨a, e, s⟩ := T.pk
  exact ev_glob (v := .ref a) hg ⟨_, e, rfl⟩ (fun G => .tup (s G) (RpA.strs [("lose" : Str), "score", "draw"])) (by decide)
theorem le {n : Nat} (ha : Ev M N sc k a r d) (h : lenD d = some n := by rfl) (T : Tx M := by assumption) (hg : sc.names.lookup ("len" : Str) = some .globalImplicit := by rfl) (he : ∀ env, starEach [a] env = (false, eval a env) :: starEach [] env := by intros; rfl) : Ev M N sc k (.Call (.Name "len" p) [a] [] pos) r (.int n) := ev_len T.toBlt hg ha h he
theorem lem {os : List Dt} (ha : EvM M N sc k a r os) (T : Tx M := by assumption) (hg : sc.names.lookup ("len" : Str) = some .globalImplicit := by rfl) (he : ∀ env, starEach [a] env = (false, eval a env) :: starEach [] env := by intros; rfl) : Ev M N sc k (.Call (.Name "len" p) [a] [] pos) r (.int os.length) := ev_lenm T.toBlt hg ha he
theorem inI {i : Int} (ha : Ev M N sc k a r (.int i)) (T : Tx M := by assumption) (hg : sc.names.lookup ("int" : Str) = some .globalImplicit := by rfl) (he : ∀ env, starEach [a] env = (false, eval a env) :: starEach [] env := by intros; rfl) : Ev M N sc k (.Call (.Name "int" p) [a] [] pos) r (.int i) := ev_int1 T.toBlt hg ha (.inl rfl) he
theorem inB {c : Bool} (ha : Ev M N sc k a r (.bl c)) (T : Tx M := by assumption) (hg : sc.names.lookup ("int" : Str) = some .globalImplicit := by rfl) (he : ∀ env, starEach [a] env = (false, eval a env) :: starEach [] env := by intros; rfl) : Ev M N sc k (.Call (.Name "int" p) [a] [] pos) r (.int (if c then 1 else 0)) := ev_int1 T.toBlt hg ha (.inr (.inl ⟨c, rfl, rfl⟩)) he
theorem inS {z : Str} {i : Int} (ha : Ev M N sc k a r (.str z)) (h : PySem.intText? z = some i) (hl : z.length ≤ 640) (T : Tx M := by assumption) (hg : sc.names.lookup ("int" : Str) = some .globalImplicit := by rfl) (he : ∀ env, starEach [a] env = (false, eval a env) :: starEach [] env := by intros; rfl) : Ev M N sc k (.Call (.Name "int" p) [a] [] pos) r (.int i) := ev_int1 T.toBlt hg ha (.inr (.inr ⟨z, rfl, h, hl⟩)) he
theorem sI {i : Int} (ha : Ev M N sc k a r (.int i)) (h : i.natAbs.log2 < 1920) (T : Tx M := by assumption) (hg : sc.names.lookup ("str" : Str) = some .globalImplicit := by rfl) (he : ∀ env, starEach [a] env = (false, eval a env) :: starEach [] env := by intros; rfl) : Ev M N sc k (.Call (.Name "str" p) [a] [] pos) r (.str (toString i)) := ev_str1 T.toBlt hg ha h he
theorem li {os : List Dt} (ha : Ev M N sc k a r d) (h : itemsD d = some os := by rfl) (T : Tx M := by assumption) (hg : sc.names.lookup ("list" : Str) = some .globalImplicit := by rfl) (he : ∀ env, starEach [a] env = (false, eval a env) :: starEach [] env := by intros; rfl) : Ev M N sc k (.Call (.Name "list" p) [a] [] pos) r (.lst os) := ev_list T.toBlt hg ha h he
theorem liN {os : List Dt} (ha : Ev M N sc k a r d) (h : itemsD d = some os := by rfl) (T : Tx M := by assumption) (hg : sc.names.lookup ("list" : Str) = some .globalImplicit := by rfl) (he : ∀ env, starEach [a] env = (false, eval a env) :: starEach [] env := by intros; rfl) : EvN M N sc k (.Call (.Name "list" p) [a] [] pos) r os := en_list T.toBlt hg ha h he
theorem tu {os : List Dt} (ha : Ev M N sc k a r d) (h : itemsD d = some os := by rfl) (T : Tx M := by assumption) (hg : sc.names.lookup ("tuple" : Str) = some .globalImplicit := by rfl) (he : ∀ env, starEach [a] env = (false, eval a env) :: starEach [] env := by intros; rfl) : Ev M N sc k (.Call (.Name "tuple" p) [a] [] pos) r (.tup os) := ev_tuple T.toBlt hg ha h he
theorem tum {os : List Dt} (ha : EvM M N sc k a r os) (T : Tx M := by assumption) (hg : sc.names.lookup ("tuple" : Str) = some .globalImplicit := by rfl) (he : ∀ env, starEach [a] env = (false, eval a env) :: starEach [] env := by intros; rfl) : Ev M N sc k (.Call (.Name "tuple" p) [a] [] pos) r (.tup os) := ev_tuplem T.toBlt hg ha he
theorem tun {os : List Dt} (ha : EvN M N sc k a r os) (T : Tx M := by assumption) (hg : sc.names.lookup ("tuple" : Str) = some .globalImplicit := by rfl) (he : ∀ env, starEach [a] env = (false, eval a env) :: starEach [] env := by intros; rfl) : Ev M N sc k (.Call (.Name "tuple" p) [a] [] pos) r (.tup os) := ev_tuplen T.toBlt hg ha he
theorem so {os : List Dt} (ha : Ev M N sc k a r d) (ho : SortOk os) (h : itemsD d = some os := by rfl) (T : Tx M := by assumption) (hg : sc.names.lookup ("sorted" : Str) = some .globalImplicit := by rfl) (he : ∀ env, starEach [a] env = (false, eval a env) :: starEach [] env := by intros; rfl) : Ev M N sc k (.Call (.Name "sorted" p) [a] [] pos) r (.lst (os.mergeSort leD)) := ev_sorted T.toBlt hg ha h ho he
/-- sorted ints -/
theorem soI {is : List Int} (ha : Ev M N sc k a r d) (h : itemsD d = some (is.map .int)) (T : Tx M := by assumption) (hg : sc.names.lookup ("sorted" : Str) = some .globalImplicit := by rfl) (he : ∀ env, starEach [a] env = (false, eval a env) :: starEach [] env := by intros; rfl) : Ev M N sc k (.Call (.Name "sorted" p) [a] [] pos) r (.lst ((sortI is).map .int)) := by
  have z := ev_sorted (pos := pos) (p := p) T.toBlt hg ha h (sortOk_ints is) he
  rw [sort_ints] at z
  exact z
theorem tN (i : Nat) (hx : sc.names.lookup x = some .local ∨ (sc.names.lookup x = some .cell ∧ sc.names.lookup (".0" : Str) = none) := by first | exact .inl rfl | exact .inr ⟨rfl, rfl⟩) (hN : N[i]? = some x := by rfl) : Tgt M N sc k (.Name x pos) [i] d r (r.set i (.dat d)) := by
  rcases hx with hx | ⟨hx, h0⟩
  · exact tg_loc hN hx
  · exact tg_cel hN hx h0
theorem tC (i : Nat) (hx : sc.names.lookup x = some .cell := by rfl) (hN : N[i]? = some x := by rfl) (h0 : sc.names.lookup (".0" : Str) = none := by rfl) : Tgt M N sc k (.Name x pos) [i] d r (r.set i (.dat d)) := tg_cel hN hx h0
theorem gc {is js : List Nat} (h1 : Tgt M N sc k e is d r r1) (h2 : TgtL M N sc k es js ds r1 r2) (hs : ∀ env, (assignEach (e :: es) env).map (·.2) = assign e env :: (assignEach es env).map (·.2) := by intros; rfl) : TgtL M N sc k (e :: es) (is ++ js) (d :: ds) r r2 := tgs_cons h1 h2 hs
theorem gt {is : List Nat} {j n : Nat} (h : TgtL M N sc k es is ds r r') (hl : ds.length = n := by rfl) (hn : ∀ env, (assignEach es env).length = n := by intros; rfl) (hst : ∀ env, (assignEach es env).findIdx? (·.1) = none := by intros; rfl) : Tgt M N sc k (.Tuple es j pos) is (.tup ds) r r' := tg_tup h hl hn hst
/-- x = e -/
theorem xa (i : Nat) (h : Ev M N sc k e r d) (q : Exe M N sc k sts (r.set i (.dat d)) D) (hx : sc.names.lookup x = some .local ∨ (sc.names.lookup x = some .cell ∧ sc.names.lookup (".0" : Str) = none) := by first | exact .inl rfl | exact .inr ⟨rfl, rfl⟩) (hN : N[i]? = some x := by rfl) (hs : ∀ env, swapsWithSole [.Name x p] e pos.line env = pure false := by intros; rfl) (hw : ∀ env, swappedStores [.Name x p] e env = pure none := by intros; rfl) :
    Exe M N sc k (.Assign [.Name x p] e pos :: sts) r D := by
  rcases hx with hx | ⟨hx, h0⟩
  · exact x_asg h (tg_loc hN hx) hs hw (fun _ => rfl) q
  · exact x_asg h (tg_cel hN hx h0) hs hw (fun _ => rfl) q
/-- x = e, a new list that will change -/
theorem xo (i : Nat) (h : EvN M N sc k e r ds) (q : ∀ p, Exe M N sc k sts (r.set i (.own p ds)) D) (hx : Loc sc x := by first | exact .inl rfl | exact .inr rfl) (hN : N[i]? = some x := by rfl) (h0 : sc.names.lookup (".0" : Str) = none := by rfl) (hs : ∀ env, swapsWithSole [.Name x p] e pos.line env = pure false := by intros; rfl) (hw : ∀ env, swappedStores [.Name x p] e env = pure none := by intros; rfl) :
    Exe M N sc k (.Assign [.Name x p] e pos :: sts) r D := x_asgN h hN hx h0 hs hw q
/-- a, b = e -/
theorem xt {is : List Nat} {j n : Nat} {pt : Pos} (h : Ev M N sc k e r (.tup ds)) (g : TgtL M N sc k es is ds r r') (q : Exe M N sc k sts r' D) (hl : ds.length = n := by rfl) (hn : ∀ env, (assignEach es env).length = n := by intros; rfl) (hst : ∀ env, (assignEach es env).findIdx? (·.1) = none := by intros; rfl)
    (hs : ∀ env, swapsWithSole [.Tuple es j pt] e pos.line env = pure false := by intros; rfl) (hw : ∀ env, swappedStores [.Tuple es j pt] e env = pure none := by intros; rfl) : Exe M N sc k (.Assign [.Tuple es j pt] e pos :: sts) r D := x_asg h (tg_tup g hl hn hst) hs hw (fun _ => rfl) q
theorem xp (i : Nat) {q : Addr} {px apos cpos : Pos} (h : Ev M N sc k e r d) (z : Exe M N sc k sts (r.set i (.own q (ds ++ [d]))) D) (hz : ds.length ≤ 1000000 := by first | exact Nat.le_of_ble_eq_true rfl | (simp; omega)) (hr : r[i]? = some (.own q ds) := by rfl) (hN : N[i]? = some x := by rfl) (hv : Vis sc x := by first | exact .inl rfl | exact .inr (.inl rfl) | exact .inr (.inr rfl)) (hd : (x == ("__debug__" : Str)) = false := by decide) (hcd : (x == ("__classdict__" : Str)) = false := by decide)
    (hs : ∀ env, starEach [e] env = (false, eval e env) :: starEach [] env := by intros; rfl) (hln : (apos.endLine == cpos.line) = true := by rfl) : Exe M N sc k (.Expr (.Call (.Attribute (.Name x px) "append" apos) [e] [] cpos) pos :: sts) r D := x_app hr hN hv h hz hd hcd hs hln z
theorem xs (i n : Nat) {q : Addr} {px tpos : Pos} {idx : Expr} {j : Int} (h : Ev M N sc k e r d) (hi : Ev M N sc k idx r (.int j)) (z : Exe M N sc k sts (r.set i (.own q (ds.set n d))) D) (hj : ixN ds.length j = some n) (hr : r[i]? = some (.own q ds) := by rfl) (hN : N[i]? = some x := by rfl) (hv : Vis sc x := by first | exact .inl rfl | exact .inr (.inl rfl) | exact .inr (.inr rfl)) (hd : (x == ("__debug__" : Str)) = false := by decide) (hcd : (x == ("__classdict__" : Str)) = false := by decide)
    (ha : ∀ env v, assign (.Subscript (.Name x px) idx tpos) env v = (do
      let ov ← holding [v] (eval (.Name x px) env)
      let iv ← holding [v, ov] (eval idx env)
      standAt tpos
      holding [v, ov, iv] (setItem ov iv v)
      release [v, ov, iv] []) := by intros; rfl) (hs : ∀ env, swapsWithSole [.Subscript (.Name x px) idx tpos] e pos.line env = pure false := by intros; rfl) (hw : ∀ env, swappedStores [.Subscript (.Name x px) idx tpos] e env = pure none := by intros; rfl) :
    Exe M N sc k (.Assign [.Subscript (.Name x px) idx tpos] e pos :: sts) r D := x_set hr hN hv h hi hj hd hcd ha hs hw z
end
end Ts

set_option Elab.async false
set_option linter.all false
set_option maxRecDepth 100000
/-! T0: the defs by places. Printed by gen_head.py -/
namespace Ts
open PySem L2
abbrev top (i : Nat) : Stmt := PySem.Challenge.pw_turnstack_k37_whole_plain_fights.main.body.getD i (.Pass ⟨0, 0, 0, 0⟩)
abbrev s_is_name : Stmt := top 10
abbrev s_is_number : Stmt := top 11
abbrev s_word_at : Stmt := top 20
abbrev s_name_at : Stmt := top 21
abbrev s_number_at : Stmt := top 22
abbrev s_read_marks : Stmt := top 41
abbrev s_read_card : Stmt := top 42
abbrev s_first_sight : Stmt := top 45
abbrev s_changes : Stmt := top 46
abbrev s_layered : Stmt := top 56
abbrev s_keeper_in : Stmt := top 59
abbrev s_rules_for : Stmt := top 61
abbrev s_put_in_place : Stmt := top 64
abbrev s_look_at : Stmt := top 71
abbrev s_begun : Stmt := top 72
abbrev s_rows_of : Stmt := top 73
abbrev s_sight_of : Stmt := top 74
abbrev s_put_at : Stmt := top 75
abbrev s_touches : Stmt := top 76
abbrev s_to_player : Stmt := top 77
abbrev s_to_card : Stmt := top 78
abbrev s_happen : Stmt := top 79
abbrev s_called : Stmt := top 80
abbrev s_put_and_done : Stmt := top 84
abbrev s_going : Stmt := top 85
abbrev s_without_goers : Stmt := top 86
abbrev s_worn_out : Stmt := top 87
abbrev s_looked : Stmt := top 88
abbrev s_next_player : Stmt := top 92
abbrev s_with_word : Stmt := top 93
abbrev s_in_heap : Stmt := top 94
abbrev s_off_the_pile : Stmt := top 95
abbrev s_piled : Stmt := top 96
abbrev s_ended : Stmt := top 97
abbrev s_law_number : Stmt := top 100
abbrev s_law_card : Stmt := top 105
abbrev s_law_decks : Stmt := top 106
abbrev s_law_heads : Stmt := top 107
abbrev s_law_first : Stmt := top 108
abbrev s_law_played : Stmt := top 109
abbrev s_law_come : Stmt := top 110
abbrev s_law_new_turn : Stmt := top 111
abbrev s_law_let : Stmt := top 112
abbrev s_law_can : Stmt := top 113
abbrev s_law : Stmt := top 114
abbrev s_Card_init : Stmt := inClass (top 30) 0
abbrev s_Fight_init : Stmt := inClass (top 98) 0
abbrev s_Fight_stand : Stmt := inClass (top 98) 1
abbrev s_Fight_log : Stmt := inClass (top 98) 2
abbrev s_Fight_many : Stmt := inClass (top 98) 5
abbrev s_Fight_on : Stmt := inClass (top 98) 6
abbrev s_Fight_why_not_speak : Stmt := inClass (top 98) 7
abbrev s_Fight_why_not_play : Stmt := inClass (top 98) 8
abbrev s_Fight_paid : Stmt := inClass (top 98) 12
abbrev s_Fight_play : Stmt := inClass (top 98) 13
abbrev s_Fight_let : Stmt := inClass (top 98) 15
abbrev s_Fight_top_done : Stmt := inClass (top 98) 16
abbrev s_Fight_turn_begun : Stmt := inClass (top 98) 17
abbrev s_Fight_settled : Stmt := inClass (top 98) 18
end Ts

set_option Elab.async false
set_option linter.all false
set_option maxRecDepth 100000
set_option maxHeartbeats 4000000
/-! S0: the fight's state as plain Lean data, and as data of the program. -/
namespace Ts
open PySem L2
abbrev Fn (M : Gm) (x : Str) (st : Stmt) (f : Addr) (fd : FuncData) : Prop := FunD M.K x x (defArgs st) (defBody st) (defScope st) [] [] f fd ∧ M.mg x = some (.ref f)

structure Cd where
  name : Str
  cost : Nat
  force : Nat
  marks : List Str
def Cd.dt (c : Cd) : Dt := .card c.name (c.cost : Nat) (c.force : Nat) c.marks
/-- what stays: how many players, the cards, their owners -/
structure Gd where
  n : Nat
  cs : List Cd
  ow : List Nat
structure Gd.Ok (g : Gd) : Prop where
  n2 : 2 ≤ g.n
  n4 : g.n ≤ 4
  m : g.cs.length ≤ 16
  ol : g.ow.length = g.cs.length
  ob : ∀ o ∈ g.ow, o < g.n
  ms : ∀ c ∈ g.cs, c.marks.length ≤ 4
structure Tb where
  decks : List (List Nat)
  hands : List (List Nat)
  lying : List Nat
  heap : List Nat
def nI (l : List Nat) : List Dt := l.map fun n => Dt.int (n : Nat)
def tI (l : List Nat) : Dt := .tup (nI l)
def tM (c : Cd) : Dt := .tup (c.marks.map .str)
def Gd.cd (g : Gd) : List Dt := g.cs.map Cd.dt
def encT (g : Gd) (t : Tb) : List Dt := [.tup (List.replicate g.n (.int 20)), .tup (List.replicate g.n (.int 0)), .tup (List.replicate g.n (.bl false)), .tup (t.decks.map tI), .tup (t.hands.map tI), tI t.lying, tI t.heap, .tup (g.cs.map tM), .tup (List.replicate g.cs.length (.int 0))]
structure TbOk (g : Gd) (t : Tb) : Prop where
  dl : t.decks.length = g.n
  hl : t.hands.length = g.n
  ly : ∀ c ∈ t.lying, c < g.cs.length
  hp : ∀ c ∈ t.heap, c < g.cs.length
  hs : t.heap.Pairwise (· ≤ ·)
  ll : t.lying.length ≤ 16
  hpl : t.heap.length ≤ 16
  dk : ∀ l ∈ t.decks, l.length ≤ 16
  hd : ∀ l ∈ t.hands, l.length ≤ 16
def sortN (l : List Nat) : List Nat := l.mergeSort fun a b => decide (a ≤ b)
theorem nI_len (l : List Nat) : (nI l).length = l.length := List.length_map _
theorem nI_app (a b : List Nat) : nI (a ++ b) = nI a ++ nI b := List.map_append
theorem nI_get {l : List Nat} {i c : Nat} (h : l[i]? = some c) : (nI l)[i]? = some (.int (c : Nat)) := by
  unfold nI
  rw [List.getElem?_map, h]
  rfl
theorem nI_int (l : List Nat) : nI l = (l.map fun n : Nat => (n : Int)).map Dt.int := by
  unfold nI
  rw [List.map_map]
  rfl
theorem sortN_int (l : List Nat) : sortI (l.map fun n : Nat => (n : Int)) = (sortN l).map fun n : Nat => (n : Int) := by
  unfold sortI sortN
  refine (List.map_mergeSort (r := fun a b : Nat => decide (a ≤ b)) (s := fun a b : Int => decide (a ≤ b)) (f := fun n : Nat => (n : Int)) ?_).symm
  intro a _ b _
  simp [Int.ofNat_le]
theorem sortN_nI (l : List Nat) : (sortI (l.map fun n : Nat => (n : Int))).map Dt.int = nI (sortN l) := by
  rw [sortN_int, nI_int]
theorem sortN_perm (l : List Nat) : (sortN l).Perm l := List.mergeSort_perm _ _
theorem sortN_len (l : List Nat) : (sortN l).length = l.length := List.length_mergeSort _
theorem sortN_sorted (l : List Nat) : (sortN l).Pairwise (· ≤ ·) := by
  have h := List.pairwise_mergeSort (le := fun a b : Nat => decide (a ≤ b)) (fun a b c h1 h2 => by simp only [decide_eq_true_eq] at *; omega) (fun a b => by simp only [Bool.or_eq_true, decide_eq_true_eq]; omega) l
  exact h.imp fun z => by simpa using z
theorem sortN_id {l : List Nat} (h : l.Pairwise (· ≤ ·)) : sortN l = l := List.mergeSort_of_pairwise (h.imp fun z => by simpa using z)
theorem mem_cast (n : Nat) (l : List Nat) : decide ((n : Int) ∈ l.map fun n : Nat => (n : Int)) = decide (n ∈ l) := by
  apply Bool.eq_iff_iff.mpr
  rw [decide_eq_true_eq, decide_eq_true_eq, List.mem_map]
  constructor
  · rintro ⟨m, hm, e⟩
    have : m = n := by omega
    exact this ▸ hm
  · intro h
    exact ⟨n, h, rfl⟩
theorem c_in (n : Nat) (l : List Nat) : CmpD .In (.int (n : Nat)) (tI l) (decide (n ∈ l)) := by
  unfold tI
  rw [nI_int, ← mem_cast]
  exact .inI _ _
theorem c_inL (n : Nat) (l : List Nat) : CmpD .In (.int (n : Nat)) (.lst (nI l)) (decide (n ∈ l)) := by
  rw [nI_int, ← mem_cast]
  exact .inIL _ _
theorem c_ni (n : Nat) (l : List Nat) : CmpD .NotIn (.int (n : Nat)) (tI l) (!decide (n ∈ l)) := by
  unfold tI
  rw [nI_int, ← mem_cast]
  exact .niI _ _
theorem c_niL (n : Nat) (l : List Nat) : CmpD .NotIn (.int (n : Nat)) (.lst (nI l)) (!decide (n ∈ l)) := by
  rw [nI_int, ← mem_cast]
  exact .niIL _ _
theorem eqD_int (i j : Int) : eqD (.int i) (.int j) = decide (i = j) := by
  unfold eqD Dt.py
  by_cases h : i = j <;> simp [PyData.eqv, h]
theorem eqD_str (i j : Str) : eqD (.str i) (.str j) = decide (i = j) := by
  unfold eqD Dt.py
  by_cases h : i = j <;> simp [PyData.eqv, h]
theorem c_eqI (i j : Int) : CmpD .Eq (.int i) (.int j) (decide (i = j)) := by
  rw [← eqD_int]
  exact .eq _ _ rfl rfl (Nat.zero_le _)
theorem c_neI (i j : Int) : CmpD .NotEq (.int i) (.int j) (!decide (i = j)) := by
  rw [← eqD_int]
  exact .ne _ _ rfl rfl (Nat.zero_le _)
theorem c_eqS (i j : Str) : CmpD .Eq (.str i) (.str j) (decide (i = j)) := by
  rw [← eqD_str]
  exact .eq _ _ rfl rfl (Nat.zero_le _)
theorem c_neS (i j : Str) : CmpD .NotEq (.str i) (.str j) (!decide (i = j)) := by
  rw [← eqD_str]
  exact .ne _ _ rfl rfl (Nat.zero_le _)
theorem CmpD.to {op : CmpOp} {d1 d2 : Dt} {b b' : Bool} (h : CmpD op d1 d2 b) (e : b = b') : CmpD op d1 d2 b' := e ▸ h
theorem at_n {xs : List Dt} {i : Nat} {d : Dt} (h : xs[i]? = some d) : atI xs (i : Int) = some d := atI_nat h
theorem at_rep {n i : Nat} {d : Dt} (h : i < n) : atI (List.replicate n d) (i : Int) = some d := atI_nat (by rw [List.getElem?_replicate, if_pos h])
theorem at_map {A : Type} {f : A → Dt} {xs : List A} {i : Nat} {a : A} (h : xs[i]? = some a) : atI (xs.map f) (i : Int) = some (f a) := atI_nat (by rw [List.getElem?_map, h]; rfl)
theorem at_nI {l : List Nat} {i c : Nat} (h : l[i]? = some c) : atI (nI l) (i : Int) = some (.int (c : Nat)) := at_map h
theorem lt_some {A : Type} {l : List A} {i : Nat} (h : i < l.length) : ∃ a, l[i]? = some a := ⟨l[i], by simp [h]⟩

/-! ### happenings, the log -/
def hCome (c : Nat) : Dt := .tup [.str "come", .int (c : Nat), .int 0]
def hLeave (c : Nat) : Dt := .tup [.str "leave", .int (c : Nat), .int 0]
def hDraw (p : Nat) : Dt := .tup [.str "draw", .int (-1 - (p : Nat)), .int 1]
def line (h : Dt) : Dt := .tup [h, .lst [], h]

/-! ### rows -/
structure Row where
  num : Nat
  card : Cd
  keeper : Nat
  came : Nat
def Row.e (r : Row) : Dt := .tup [.int (r.num : Nat), r.card.dt, .int (r.keeper : Nat), .int (r.came : Nat), tM r.card]
/-- a row of the sight -/
def Row.s (r : Row) : Dt := .tup [.int (r.num : Nat), .int (r.keeper : Nat), tM r.card, .int (r.card.force : Nat), .bl false]
def sight (rs : List Row) : List Row := rs.mergeSort fun a b => leD a.s b.s
theorem sight_eq (rs : List Row) : (rs.map Row.s).mergeSort leD = (sight rs).map Row.s := (List.map_mergeSort (r := fun a b => leD (Row.s a) (Row.s b)) (s := leD) (f := Row.s) (fun _ _ _ _ => rfl)).symm
theorem sight_perm (rs : List Row) : (sight rs).Perm rs := List.mergeSort_perm _ _
/-- the rows of the lying cards -/
def Gd.row (g : Gd) (p : Nat × Nat) : Row := ⟨p.1, g.cs.getD p.1 ⟨Str.empty, 0, 0, []⟩, g.ow.getD p.1 0, p.2⟩
def Gd.rows (g : Gd) (l : List Nat) : List Row := l.zipIdx.map g.row
end Ts

set_option Elab.async false
set_option linter.all false
set_option maxRecDepth 100000
set_option maxHeartbeats 4000000
/-! S1: more short forms, what happens to a table, equality of data. -/
namespace Ts
open PySem L2
section
variable {M : Gm} {N : List Str} {sc : Scope} {k : Nat} {e a b c iter tg elt : Expr} {es rest ts : List Expr} {r r' r1 r2 : List Sl} {d d1 d2 : Dt} {ds : List Dt} {pos p : Pos} {x : Str} {st : Stmt} {sts thn els body : List Stmt} {D : Dn}
/-- a comprehension without a test -/
theorem lc {A : Type} {enc : A → Dt} {xs : List A} {scope : Scope} {is : List Nat} {r2 : A → List Sl} (own : List (Str × Nat)) (f : A → Dt) (hI : EvI M N sc k tg iter r (xs.map enc))
    (hg : ∀ a ∈ xs, Tgt M N (relS scope sc) k tg is (enc a) (wipeR r (own.map (·.2))) (r2 a)) (he : ∀ a ∈ xs, Ev M N (relS scope sc) k elt (r2 a) (f a)) (hz : xs.length ≤ 1000000)
    (ok : BlkOk N sc scope own := by exact blkOk_by (by decide +kernel)) (his : ∀ i ∈ is, i ∈ own.map (·.2) := by decide +kernel) (hs : ∀ env x, foldedSetIterable iter env x = pure x := by intros; rfl) (h0 : scope.names.lookup (".0" : Str) = some .local := by rfl) : EvN M N sc k (.ListComp elt [⟨tg, iter, [], 0⟩] scope pos) r (xs.map f) := by
  have z := en_lc (ifs := []) (fun _ => true) f hI ok hg his (fun _ _ => rfl) (fun a h _ => he a h) hz hs h0 (pos := pos)
  rw [List.filter_eq_self.mpr fun _ _ => rfl] at z
  exact z
/-- a comprehension with a test -/
theorem lcf {A : Type} {enc : A → Dt} {xs : List A} {scope : Scope} {is : List Nat} {r2 : A → List Sl} (own : List (Str × Nat)) (pf : A → Bool) (f : A → Dt) (hI : EvI M N sc k tg iter r (xs.map enc))
    (hg : ∀ a ∈ xs, Tgt M N (relS scope sc) k tg is (enc a) (wipeR r (own.map (·.2))) (r2 a)) (ht : ∀ a ∈ xs, EvT M N (relS scope sc) k c (r2 a) (pf a)) (he : ∀ a ∈ xs, pf a = true → Ev M N (relS scope sc) k elt (r2 a) (f a)) (hz : xs.length ≤ 1000000)
    (ok : BlkOk N sc scope own := by exact blkOk_by (by decide +kernel)) (his : ∀ i ∈ is, i ∈ own.map (·.2) := by decide +kernel) (hs : ∀ env x, foldedSetIterable iter env x = pure x := by intros; rfl) (h0 : scope.names.lookup (".0" : Str) = some .local := by rfl) : EvN M N sc k (.ListComp elt [⟨tg, iter, [c], 0⟩] scope pos) r ((xs.filter pf).map f) :=
  en_lc (ifs := [c]) pf f hI ok hg his ht he hz hs h0
/-- x = [..], x a local -/
theorem xl {A : Type} {enc : A → Dt} {xs : List A} {scope : Scope} {is : List Nat} {r2 : A → List Sl} {y : Str} {py cpos spos : Pos} (i : Nat) (own : List (Str × Nat)) (f : A → Dt) (hI : EvI M N sc k tg iter r (xs.map enc))
    (hg : ∀ a ∈ xs, Tgt M N (relS scope sc) k tg is (enc a) (wipeR r (own.map (·.2))) (r2 a)) (he : ∀ a ∈ xs, Ev M N (relS scope sc) k elt (r2 a) (f a)) (hz : xs.length ≤ 1000000) (q : Exe M N sc k sts (r.set i (.dat (.lst (xs.map f)))) D)
    (hN : N[i]? = some y := by rfl) (hy : sc.names.lookup y = some .local := by rfl) (hk : sc.kind = .function := by rfl) (hl : (py.line == cpos.line) = true := by rfl) (ha : (scope.names.any fun (n, k) => n == y && (k == .local || k == .cell)) = false := by decide +kernel)
    (ok : BlkOk N sc scope own := by exact blkOk_by (by decide +kernel)) (his : ∀ i ∈ is, i ∈ own.map (·.2) := by decide +kernel) (hs : ∀ env x, foldedSetIterable iter env x = pure x := by intros; rfl) (h0 : scope.names.lookup (".0" : Str) = some .local := by rfl) :
    Exe M N sc k (.Assign [.Name y py] (.ListComp elt [⟨tg, iter, [], 0⟩] scope cpos) spos :: sts) r D := by
  refine x_setLc (ifs := []) i (fun _ => true) f hI ok hg his (fun _ _ => rfl) (fun a h _ => he a h) hz hN hy hk hl ha hs h0 ?_
  rw [List.filter_eq_self.mpr fun _ _ => rfl]
  exact q
theorem xlf {A : Type} {enc : A → Dt} {xs : List A} {scope : Scope} {is : List Nat} {r2 : A → List Sl} {y : Str} {py cpos spos : Pos} (i : Nat) (own : List (Str × Nat)) (pf : A → Bool) (f : A → Dt) (hI : EvI M N sc k tg iter r (xs.map enc))
    (hg : ∀ a ∈ xs, Tgt M N (relS scope sc) k tg is (enc a) (wipeR r (own.map (·.2))) (r2 a)) (ht : ∀ a ∈ xs, EvT M N (relS scope sc) k c (r2 a) (pf a)) (he : ∀ a ∈ xs, pf a = true → Ev M N (relS scope sc) k elt (r2 a) (f a)) (hz : xs.length ≤ 1000000) (q : Exe M N sc k sts (r.set i (.dat (.lst ((xs.filter pf).map f)))) D)
    (hN : N[i]? = some y := by rfl) (hy : sc.names.lookup y = some .local := by rfl) (hk : sc.kind = .function := by rfl) (hl : (py.line == cpos.line) = true := by rfl) (ha : (scope.names.any fun (n, k) => n == y && (k == .local || k == .cell)) = false := by decide +kernel)
    (ok : BlkOk N sc scope own := by exact blkOk_by (by decide +kernel)) (his : ∀ i ∈ is, i ∈ own.map (·.2) := by decide +kernel) (hs : ∀ env x, foldedSetIterable iter env x = pure x := by intros; rfl) (h0 : scope.names.lookup (".0" : Str) = some .local := by rfl) :
    Exe M N sc k (.Assign [.Name y py] (.ListComp elt [⟨tg, iter, [c], 0⟩] scope cpos) spos :: sts) r D :=
  x_setLc (ifs := [c]) i pf f hI ok hg his ht he hz hN hy hk hl ha hs h0 q
/-- x = [..], x captured -/
theorem xc (i : Nat) {y : Str} {py cpos spos : Pos} {gs : List Comprehension} {scope : Scope} (h : EvN M N sc k (.ListComp elt gs scope cpos) r ds) (q : Exe M N sc k sts (r.set i (.dat (.lst ds))) D) (hN : N[i]? = some y := by rfl) (hy : sc.names.lookup y = some .cell := by rfl) (h0 : sc.names.lookup (".0" : Str) = none := by rfl)
    (hw : ∀ env, swappedStores [.Name y py] (.ListComp elt gs scope cpos) env = pure none := by intros; rfl) : Exe M N sc k (.Assign [.Name y py] (.ListComp elt gs scope cpos) spos :: sts) r D :=
  x_cons (x1_asg h.ev (tg_cel hN hy h0) (sw_cell hy) hw (fun _ => rfl) q)
theorem fe {A : Type} {enc : A → Dt} {xs : List A} (Iv : Nat → List Sl → Prop) (hI : EvI M N sc k tg iter r (xs.map enc)) (h0 : Iv 0 r)
    (hs : ∀ i a r', xs[i]? = some a → Iv i r' → ∃ is r2, Tgt M N sc k tg is (enc a) r' r2 ∧ Exe M N sc k body r2 { D with nx := Iv (i + 1), ct := Iv (i + 1), bk := fun r' => Exe M N sc k sts r' D }) (hd : ∀ r', Iv xs.length r' → Exe M N sc k sts r' D)
    (hf : ∀ env x, foldedSetIterable iter env x = pure x := by intros; rfl) : Exe M N sc k (.For tg iter body [] pos :: sts) r D := x_for hI Iv h0 hs hd hf
theorem Exe.at (r' : List Sl) (h : Exe M N sc k sts r' D) (e : r = r' := by rfl) : Exe M N sc k sts r D := e ▸ h
/-- the list in a slot changes no more -/
theorem xz (i : Nat) {q : Addr} (z : Exe M N sc k sts (r.set i (.dat (.lst ds))) D) (h : r[i]? = some (.own q ds) := by rfl) : Exe M N sc k sts r D := x_frz h z
/-- a loop over nothing -/
theorem fe0 (hI : EvI M N sc k tg iter r []) (q : Exe M N sc k sts r D) (hf : ∀ env x, foldedSetIterable iter env x = pure x := by intros; rfl) : Exe M N sc k (.For tg iter body [] pos :: sts) r D :=
  x_for (A := Unit) (enc := fun _ => .non) (xs := []) hI (fun _ r' => r' = r) rfl (fun i a r' h => by simp at h) (fun r' e => e ▸ q) hf
theorem soN {l : List Nat} (ha : Ev M N sc k a r d) (h : itemsD d = some (nI l)) (T : Tx M := by assumption) (hg : sc.names.lookup ("sorted" : Str) = some .globalImplicit := by rfl) (he : ∀ env, starEach [a] env = (false, eval a env) :: starEach [] env := by intros; rfl) : Ev M N sc k (.Call (.Name "sorted" p) [a] [] pos) r (.lst (nI (sortN l))) := by
  have z := soI (pos := pos) (p := p) (is := l.map fun n : Nat => (n : Int)) ha (by rw [← nI_int]; exact h) T hg he
  rw [sortN_nI] at z
  exact z
theorem lk {op : CmpOp} {d1 d2 : Dt} {b b' : Bool} (h : CmpD op d1 d2 b) (e : b = b') : CmpD op d1 d2 b' := e ▸ h
theorem rg {hi : Int} {p2 pos2 : Pos} (ha : Ev M N sc k a r (.int hi)) (h1 : -1000000 ≤ hi := by first | decide | omega) (h2 : hi ≤ 1000000 := by first | decide | omega) (T : Tx M := by assumption) (hg : sc.names.lookup ("range" : Str) = some .globalImplicit := by rfl) (hs : ∀ env, starEach [a] env = [(false, eval a env)] := by intros; rfl) :
    EvI M N sc k tg (.Call (.Name "range" p2) [a] [] pos2) r (rgD 0 hi) := ei_rng1 T.toBlt hg ha h1 h2 hs
theorem rg2 {lo hi : Int} {p2 pos2 : Pos} (ha : Ev M N sc k a r (.int lo)) (hb : Ev M N sc k b r (.int hi)) (h0 : -1000000 ≤ lo := by first | decide | omega) (h3 : lo ≤ 1000000 := by first | decide | omega) (h1 : -1000000 ≤ hi := by first | decide | omega) (h2 : hi ≤ 1000000 := by first | decide | omega) (T : Tx M := by assumption) (hg : sc.names.lookup ("range" : Str) = some .globalImplicit := by rfl) (hs : ∀ env, starEach [a, b] env = [(false, eval a env), (false, eval b env)] := by intros; rfl) (hs2 : ∀ env, starEach [b] env = [(false, eval b env)] := by intros; rfl) :
    EvI M N sc k tg (.Call (.Name "range" p2) [a, b] [] pos2) r (rgD lo hi) := ei_rng2 T.toBlt hg ha hb h0 h3 h1 h2 hs hs2
theorem enT {elts : List Expr} {kk : Nat} {tpos p2 pos2 : Pos} (ha : Ev M N sc k a r (.tup ds)) (T : Tx M := by assumption) (hg : sc.names.lookup ("enumerate" : Str) = some .globalImplicit := by rfl) (hs : ∀ env, starEach [a] env = [(false, eval a env)] := by intros; rfl) :
    EvI M N sc k (.Tuple elts kk tpos) (.Call (.Name "enumerate" p2) [a] [] pos2) r (numD 0 ds) := ei_enumT T.toBlt hg ha hs
theorem enL {elts : List Expr} {kk : Nat} {tpos p2 pos2 : Pos} (ha : Ev M N sc k a r (.lst ds)) (T : Tx M := by assumption) (hg : sc.names.lookup ("enumerate" : Str) = some .globalImplicit := by rfl) (hs : ∀ env, starEach [a] env = [(false, eval a env)] := by intros; rfl) :
    EvI M N sc k (.Tuple elts kk tpos) (.Call (.Name "enumerate" p2) [a] [] pos2) r (numD 0 ds) := ei_enumL T.toBlt hg ha hs
end
theorem EvI.to {M : Gm} {N : List Str} {sc : Scope} {k : Nat} {tg iter : Expr} {r : List Sl} {ds ds' : List Dt} (h : EvI M N sc k tg iter r ds) (e : ds = ds') : EvI M N sc k tg iter r ds' := e ▸ h
theorem EvN.to {M : Gm} {N : List Str} {sc : Scope} {k : Nat} {e : Expr} {r : List Sl} {ds ds' : List Dt} (h : EvN M N sc k e r ds) (q : ds = ds') : EvN M N sc k e r ds' := q ▸ h
/-! ### rows -/
def encZ (p : Nat × Nat) : Dt := .tup [.int (p.2 : Nat), .int (p.1 : Nat)]
theorem num_nI : ∀ (l : List Nat) (n : Nat), numD n (nI l) = (l.zipIdx n).map encZ
  | [], _ => rfl
  | x :: l, n => by
    show numD n (Dt.int x :: nI l) = _
    unfold numD
    rw [num_nI l (n + 1), List.zipIdx_cons, List.map_cons]
    rfl
theorem rgD_nat (n : Nat) : rgD 0 (n : Nat) = (List.range n).map fun i : Nat => Dt.int (i : Nat) := by
  unfold rgD
  rw [Int.sub_zero, Int.toNat_natCast]
  refine List.map_congr_left fun i _ => ?_
  rw [Int.zero_add]
theorem zip_mem {l : List Nat} {p : Nat × Nat} (h : p ∈ l.zipIdx) : p.1 ∈ l := by
  obtain ⟨a, b⟩ := p
  have := List.mem_zipIdx h
  obtain ⟨h1, h2, h3⟩ := this
  rw [h3]
  exact List.getElem_mem _
/-! ### what happens -/
inductive Hap
  | come (c : Nat)
  | leave (c : Nat)
  | draw (p : Nat)
def Hap.dt : Hap → Dt
  | .come c => hCome c
  | .leave c => hLeave c
  | .draw p => hDraw p
def Tb.come (t : Tb) (c : Nat) : Tb := { t with lying := t.lying ++ [c] }
def Tb.leave (t : Tb) (c : Nat) : Tb := { t with lying := t.lying.filter fun x => !decide (x = c), heap := sortN (t.heap ++ [c]) }
def Tb.draw (t : Tb) (p : Nat) : Tb := { t with decks := t.decks.set p ((t.decks.getD p []).drop 1), hands := t.hands.set p (sortN (t.hands.getD p [] ++ (t.decks.getD p []).take 1)) }
def Hap.go : Hap → Tb → Tb
  | .come c, t => t.come c
  | .leave c, t => t.leave c
  | .draw p, t => t.draw p
def Hap.ok (g : Gd) (t : Tb) : Hap → Prop
  | .come c => c < g.cs.length
  | .leave c => c ∈ t.lying
  | .draw p => p < g.n
/-! ### equality -/
theorem eqD_refl (d : Dt) : eqD d d = true := PySem.SeqAt.eqv_refl_plain _ (py_plain d)
theorem eqD_get : ∀ {xs ys : List Dt}, PyData.eqvAll (pys xs) (pys ys) = true → ∀ {i : Nat} {a b : Dt}, xs[i]? = some a → ys[i]? = some b → eqD a b = true
  | [], _, _, _, _, _, h, _ => by simp at h
  | _ :: _, [], _, _, _, _, _, h => by simp at h
  | x :: xs, y :: ys, h, i, a, b, ha, hb => by
    unfold pys at h
    rw [PyData.eqvAll, Bool.and_eq_true] at h
    cases i with
    | zero =>
      rw [List.getElem?_cons_zero] at ha hb
      cases ha
      cases hb
      exact h.1
    | succ i =>
      rw [List.getElem?_cons_succ] at ha hb
      exact eqD_get h.2 ha hb
theorem eqD_tup {xs ys : List Dt} (h : eqD (.tup xs) (.tup ys) = true) {i : Nat} {a b : Dt} (ha : xs[i]? = some a) (hb : ys[i]? = some b) : eqD a b = true := by
  unfold eqD Dt.py at h
  rw [PyData.eqv] at h
  exact eqD_get h ha hb
theorem eqv_nI : ∀ {l m : List Nat}, PyData.eqvAll (pys (nI l)) (pys (nI m)) = true → l = m
  | [], [], _ => rfl
  | [], _ :: _, h => by
    simp [nI, pys, PyData.eqvAll] at h
  | _ :: _, [], h => by
    simp [nI, pys, PyData.eqvAll] at h
  | x :: l, y :: m, h => by
    have h : PyData.eqvAll ((Dt.int x).py :: pys (nI l)) ((Dt.int y).py :: pys (nI m)) = true := h
    rw [PyData.eqvAll, Bool.and_eq_true] at h
    have h1 : eqD (.int x) (.int y) = true := h.1
    rw [eqD_int, decide_eq_true_eq] at h1
    rw [eqv_nI h.2, show x = y by omega]
theorem eqD_tI {l m : List Nat} (h : eqD (tI l) (tI m) = true) : l = m := by
  unfold eqD tI Dt.py at h
  rw [PyData.eqv] at h
  exact eqv_nI h
/-! ### sorting the sight -/
theorem alike_strs : ∀ xs ys : List Str, PySem.W.alikeAll (pys (xs.map .str)) (pys (ys.map .str)) = true
  | [], _ => by simp only [List.map_nil, pys, PySem.W.alikeAll]
  | _ :: _, [] => by simp only [List.map_nil, List.map_cons, pys, PySem.W.alikeAll]
  | x :: xs, y :: ys => by
    simp only [List.map_cons, pys, PySem.W.alikeAll]
    rw [alike_strs xs ys]
    rfl
theorem pures_strs : ∀ xs : List Str, pures (xs.map .str) = true
  | [] => rfl
  | _ :: xs => by
    show (true && pures (xs.map .str)) = true
    rw [pures_strs xs]
    rfl
theorem deps_strs : ∀ xs : List Str, deps (xs.map .str) = 0
  | [] => rfl
  | _ :: xs => by
    show max 0 (deps (xs.map .str)) = 0
    rw [deps_strs xs]
    rfl
theorem row_pure (rw : Row) : rw.s.pure = true := by
  simp only [Row.s, Dt.pure, pures, tM, pures_strs, Bool.and_self]
theorem row_dep (rw : Row) : rw.s.dep = 2 := by
  simp only [Row.s, Dt.dep, deps, tM, deps_strs]
  decide
theorem pures_map {A : Type} {f : A → Dt} (h : ∀ a, (f a).pure = true) : ∀ xs : List A, pures (xs.map f) = true
  | [] => rfl
  | x :: xs => by
    show ((f x).pure && pures (xs.map f)) = true
    rw [h x, pures_map h xs]
    rfl
theorem deps_map {A : Type} {f : A → Dt} {n : Nat} (h : ∀ a, (f a).dep ≤ n) : ∀ xs : List A, deps (xs.map f) ≤ n
  | [] => Nat.zero_le _
  | x :: xs => by
    show max (f x).dep (deps (xs.map f)) ≤ n
    exact Nat.max_le.mpr ⟨h x, deps_map h xs⟩
theorem sortOk_rows (rs : List Row) : SortOk (rs.map Row.s) where
  p := pures_map row_pure rs
  al := by
    rw [List.map_map]
    refine PySem.W.AllAlike.of fun a b => ?_
    simp only [Function.comp_apply, Row.s, Dt.py, pys, tM, PySem.W.alike, PySem.W.alikeAll, alike_strs, Bool.and_self]
  so := by
    rw [List.map_map]
    refine PySem.W.Sortable.tuples fun a => ⟨_, _, rfl⟩
  dp := Nat.le_trans (deps_map (n := 2) (fun a => Nat.le_of_eq (row_dep a)) rs) (by decide)
theorem num_e (l : List Dt) (n : Nat) : (numD n l).length = l.length := num_len n l
end Ts

set_option Elab.async false
set_option linter.all false
set_option maxRecDepth 100000
set_option maxHeartbeats 4000000
/-! DL: list + list. -/
namespace Ts
open PySem L2 PyProof.Rows PySem.W
theorem cat_lists {prog : Program} {w : World} {A : Around} {E : Value → Shared → Prop} {s : Shared} {l b : Addr} {vs ws : List Value} {Q : Value → Shared → Prop} (hl : s.heap.IsList l vs.toArray) (hb : s.heap.IsList b ws.toArray)
    (h : Q (.ref s.heap.objs.size) { s with heap := s.heap.push { cls := .type "list", data := .seq (vs ++ ws).toArray } }) (hsz : vs.length + ws.length ≤ sizeLine) :
    wpAny (model prog w) A (binaryOp .Add (.ref l) (.ref b)) Q E s := by
  obtain ⟨⟨cls, dd, data, sl⟩, ho, hc, n, hd⟩ := id hl
  obtain ⟨⟨cls2, dd2, data2, sl2⟩, ho2, hc2, n2, hd2⟩ := id hb
  simp only at hc hd hc2 hd2
  subst hc hd hc2 hd2
  have e : vs.toArray ++ ws.toArray = (vs ++ ws).toArray := by simp
  refine concat_meets ⟨_, ho, rfl⟩ ⟨_, ho2, rfl⟩ noFill_list_add seq_list_add PySem.F.slot_list_add PySem.F.entry_list_add (PySem.F.args_list_add_2 _ _) (list_addW l b vs.toArray ws.toArray n n2 dd dd2 sl sl2 (by simpa using hsz)) ⟨ho, ho2, ?_⟩
  rw [e]
  exact h
def rCatL (K : PySem.W.Frag) : R2 := fun x y H Q => ∃ l b xs zs, x = .ref l ∧ y = .ref b ∧ SqL K H l xs ∧ SqL K H b zs ∧ xs.length + zs.length ≤ sizeLine ∧ ∀ p, H p = none → Q (.ref p) (upd H p (.lst (xs ++ zs)))
theorem op_catL {X : Cx} : OpR X (binaryOp .Add) (rCatL X.K) := by
  intro pins s sg H x y v u Q I rx ry h
  obtain ⟨l, b, xs, zs, rfl, rfl, hH, hB, hz, q⟩ := h
  cases rx
  cases ry
  obtain ⟨its, r, hl, z⟩ := I.list hH
  obtain ⟨its2, r2, hl2, z2⟩ := I.list hB
  refine cat_lists hl.isList hl2.isList ?_ (by rw [← r.length, ← r2.length]; exact hz)
  exact ⟨.ref _, _, I.lnew (t' := s.toks) (r.append r2) (by rw [List.length_append]; omega), rfl, q _ I.fresh⟩
theorem en_addL {M : Gm} {N : List Str} {sc : Scope} {k : Nat} {a b : Expr} {r : List Sl} {pos : Pos} {xs ys : List Dt} (ha : Ev M N sc k a r (.lst xs)) (hb : Ev M N sc k b r (.lst ys)) (hz : xs.length + ys.length ≤ 1000000) : EvN M N sc k (.BinOp a .Add b pos) r (xs ++ ys) := fun X hX H0 G0 G H sg F Q q => by
  have hm := hX.gm
  subst hm
  refine ⟨_, pe_op op_catL pe_w pe_w, ?_⟩
  refine ha X hX H0 G0 G H sg F _ fun x G1 H1 g1 r1 => hb X hX H0 G0 G1 H1 sg (F.grow g1) _ fun y G2 H2 g2 r2 => ?_
  cases r1 with
  | lst h1 a1 =>
    cases r2 with
    | lst h2 a2 =>
      refine ⟨_, _, _, _, rfl, rfl, same_l (g2.g.trans g2.i) h1, same_l g2.i h2, Nat.le_trans (by rw [a1.length, a2.length]; exact hz) (by decide), fun p hp => ?_⟩
      exact q p _ G2 H2 (g1.trans g2) hp ((a1.mono g2.g).app a2)
theorem et_chain {M : Gm} {N : List Str} {sc : Scope} {k : Nat} {a b c : Expr} {r : List Sl} {pos : Pos} {op op' : CmpOp} {d1 d2 d3 : Dt} {x y : Bool} (ha : Ev M N sc k a r d1) (hb : Ev M N sc k b r d2) (hc : Ev M N sc k c r d3) (hm : lastMarks [op, op'] [b, c] = false) (h : CmpD op d1 d2 x) (h' : CmpD op' d2 d3 y) :
    EvT M N sc k (.Compare a [op, op'] [b, c] pos) r (x && y) := fun X hX H0 G0 G H sg F Q q => by
  obtain ⟨R, ho, hr⟩ := cmp_rule hX h
  obtain ⟨R', ho', hr'⟩ := cmp_rule hX h'
  refine ⟨_, pt_chain ho ho' pe_w pe_w pe_w hm, ?_⟩
  refine ha X hX H0 G0 G H sg F _ fun v1 G1 H1 g1 r1 => ?_
  refine hb X hX H0 G0 G1 H1 sg (F.grow g1) _ fun v2 G2 H2 g2 r2 => ?_
  refine hr v1 v2 G2 H2 g2.i (r1.mono g2.g) r2 _ fun v3 G3 H3 g3 r3 => ?_
  cases r3
  refine ⟨_, rfl, ?_⟩
  have g := (g1.trans g2).trans g3
  cases x with
  | false =>
    refine iteF ?_
    exact ⟨_, rfl, q _ _ g⟩
  | true =>
    refine iteT ?_
    refine hc X hX H0 G0 G3 H3 sg (F.grow g) _ fun v4 G4 H4 g4 r4 => ?_
    refine hr' v2 v4 G4 H4 g4.i ((r2.mono g3.g).mono g4.g) r4 _ fun v5 G5 H5 g5 r5 => ?_
    cases r5
    exact ⟨_, rfl, q _ _ ((g.trans g4).trans g5)⟩
end Ts

set_option Elab.async false
set_option linter.all false
set_option maxRecDepth 100000
set_option maxHeartbeats 1000000
/-! DK: making cards and fights; fields of a fight stored. -/
namespace Ts
open PySem L2
theorem as_attr {M : Model} {A : Around} {E : Value → Shared → Prop} {s : Shared} {env : Env} {o : PySem.Expr} {attr : Str} {pos : Pos} {v : Value} {Q : Unit → Shared → Prop}
    (h : wpAny M A (eval o env) (fun ov s₂ => wpAny M A (setAttr ov attr v) (fun _ s₃ => Q () s₃) E s₂) E s) :
    wpAny M A (assign (.Attribute o attr pos) env v) Q E s := fun Γ p hΓ => by
  simp only [PySem.assign_Attribute, Sem.wp_bind', Sem.wp_holding, Sem.wp_cmd_standAt, Sem.wp_release, Sem.wp_pure']
  exact Sem.wp_mono M Γ _ (fun ov _ s₂ h₂ => h₂ Γ _ hΓ) (fun _ _ _ h' => h') _ _ (h Γ _ hΓ)
/-- o.f as a target -/
def gFldS (K : PySem.W.Frag) (ta : TE) (f : Str) : TG := fun v sg H Q => ta sg H fun x H1 => ∃ a C dx fs, x = .ref a ∧ H1 a = some (.ins C dx fs) ∧ Cls K C ∧ NoAttr K C f ∧ fs.length < 1000 ∧ Q sg (upd H1 a (.ins C dx (putF f v fs)))
theorem pg_attr {X : Cx} {o : Expr} {f : Str} {pos : Pos} {ta : TE} (ha : PE X o ta) : PG X (.Attribute o f pos) (gFldS X.K ta f) := by
  refine ⟨fun pins s sg H v u Q I r h => ?_⟩
  refine as_attr (thn (ha.run pins s sg H _ I h) fun ov s2 ⟨x, H2, I2, rx, a, C, dx, fs, ex, ea, c, n, l, q2⟩ => ?_)
  subst ex
  obtain rfl : ov = Value.ref a := rx
  exact setattr_ok I2 ea c n l r fun s3 I3 => ⟨sg, _, I3, q2⟩
theorem pl1 {f : Str} {v : V} {fs : List (Str × V)} {n : Nat} (h : fs.length ≤ n) : (putF f v fs).length ≤ n + 1 := Nat.le_trans (length_putF f v fs) (Nat.succ_le_succ h)
section
variable {M : Gm} {N : List Str} {sc : Scope} {k : Nat} {X : Cx}
/-- x.f = value, x an instance of which the heap tells -/
theorem ws_fld {x f : Str} {p p2 pos : Pos} {value : Expr} {sts : List Stmt} {sg : L2.St} {H : Hp} {E : Ends} {i : Nat} {self C dx : Addr} (hX : Xok M N sc k X) (hN : N[i]? = some x) (hv : Vis sc x) (hd : (x == ("__debug__" : Str)) = false) (hcd : (x == ("__classdict__" : Str)) = false) (hs : ∀ env, swapsWith value (some (.Attribute (.Name x p) f p2)) pos.line env = pure false)
    (c : Cls M.K C) (n : NoAttr M.K C f) (h0 : sg[i]? = some (some (.ref self))) (h : wE X value sg H fun v H1 => ∃ fs, H1 self = some (.ins C dx fs) ∧ fs.length < 1000 ∧ wSs X sts E sg (upd H1 self (.ins C dx (putF f v fs)))) :
    wSs X (.Assign [.Attribute (.Name x p) f p2] value pos :: sts) E sg H := by
  have hgm := hX.gm
  subst hgm
  refine ⟨_, pss_cons (ps_fld (pe_var (i := i) (by rw [hX.nm]; exact hN) (by rw [hX.scp]; exact hv) hd hcd) pe_w (hs _)) pss_w, ?_⟩
  obtain ⟨t, pt, z⟩ := h
  refine ⟨fun sg' H' Q' => ∃ Q0 : VK, (∀ v H1, Q0 v H1 → Q' v H1) ∧ t sg' H' Q0, ⟨fun pins s sg' H' Q' I ⟨Q0, i1, h1⟩ => thn (pt.run pins s sg' H' Q0 I h1) fun u s1 ⟨v, H1, I1, r1, q1⟩ => ⟨v, H1, I1, r1, i1 v H1 q1⟩⟩, _, fun v H1 ⟨fs, e1, l1, q1⟩ => ?_, z⟩
  exact ⟨_, h0, _, _, _, _, rfl, e1, c, n, l1, q1⟩
end
theorem sc_Card : FnScope ["self", "name", "cost", "force", "marks", "rules"] ["self", "name", "cost", "force", "marks", "rules"] (defScope s_Card_init) := ⟨rfl, rfl, rfl, by decide +kernel, rfl, by decide +kernel, by decide +kernel⟩
def spCard (M : Gm) : Sp := fun vs H Q _ => ∃ (x dx : Addr) (n : Str) (c f : Int) (vm vr : V), vs = [.ref x, .str n, .int c, .int f, vm, vr] ∧ H x = some (.ins M.C dx []) ∧ Q .non (upd H x (.ins M.C dx (cardFs n c f vm vr)))
theorem we_nm {M : Gm} {N : List Str} {sc : Scope} {k : Nat} {X : Cx} {x : Str} {p : Pos} {sg : L2.St} {H : Hp} {Q : VK} {i : Nat} {v : V} (hX : Xok M N sc k X) (hN : N[i]? = some x) (hv : Vis sc x) (hd : (x == ("__debug__" : Str)) = false) (hcd : (x == ("__classdict__" : Str)) = false) (h0 : sg[i]? = some (some v)) (q : Q v H) : wE X (.Name x p) sg H Q :=
  ⟨_, pe_var (i := i) (by rw [hX.nm]; exact hN) (by rw [hX.scp]; exact hv) hd hcd, v, h0, q⟩
theorem k_Card {M : Gm} (T : Tx M) {f : Addr} {fd : FuncData} (F : FunD M.K "__init__" "Card.__init__" (defArgs s_Card_init) (defBody s_Card_init) (defScope s_Card_init) [] [] f fd) (mk : Mk M.K M.C f) (hm : M.mg "Card" = some (.ref M.C)) : C8.Mak M.P M.w M.K M.mg M.base 1 "Card" M.C (spCard M) [] := by
  refine ⟨f, fd, ["self", "name", "cost", "force", "marks", "rules"], [], mk, F.ok sc_Card (fun vs H Q E h => ?_) (fun cdv A outer s H vs Q E hr h => ?_), hm, F.bindsN (fun _ _ _ _ _ _ us hl => match us, hl with | [_, _, _, _, _, _], _ => rfl), .nil⟩
  · obtain ⟨x, dx, n, c, f, vm, vr, rfl, _⟩ := h
    rfl
  · obtain ⟨x, dx, n, c, g, vm, vr, rfl, hx, q⟩ := h
    have hX := xok_fn (M := M) (qual := "Card.__init__") (f := f) (k := 0) sc_Card hr (cdv := cdv) (A := A) (outer := outer) (s := s) (H := H) (E := E)
    suffices z : wSs (cxOf CX0 M.P M.w M.K M.mg M.base ["self", "name", "cost", "force", "marks", "rules"] "Card.__init__" (defScope s_Card_init) f cdv A outer s H E).nox (defBody s_Card_init) { nx := fun _ H' => Q .non H', rt := Q } (L2.start ["self", "name", "cost", "force", "marks", "rules"] [.ref x, .str n, .int c, .int g, vm, vr]) H by
      obtain ⟨t, pt, z⟩ := z
      exact ⟨t, PSs.nox pt, z⟩
    refine ws_fld (i := 0) (self := x) (dx := dx) hX rfl (.inl rfl) (by decide) (by decide) (by intros; rfl) T.cc (T.aC _ (by decide +kernel)) rfl (we_nm (i := 1) hX rfl (.inl rfl) (by decide) (by decide) rfl ⟨_, hx, by decide, ?_⟩)
    refine ws_fld (i := 0) (self := x) (dx := dx) hX rfl (.inl rfl) (by decide) (by decide) (by intros; rfl) T.cc (T.aC _ (by decide +kernel)) rfl (we_nm (i := 2) hX rfl (.inl rfl) (by decide) (by decide) rfl ⟨_, upd_same, Nat.lt_of_le_of_lt (pl1 (Nat.le_refl 0)) (by decide), ?_⟩)
    refine ws_fld (i := 0) (self := x) (dx := dx) hX rfl (.inl rfl) (by decide) (by decide) (by intros; rfl) T.cc (T.aC _ (by decide +kernel)) rfl (we_nm (i := 3) hX rfl (.inl rfl) (by decide) (by decide) rfl ⟨_, upd_same, Nat.lt_of_le_of_lt (pl1 (pl1 (Nat.le_refl 0))) (by decide), ?_⟩)
    refine ws_fld (i := 0) (self := x) (dx := dx) hX rfl (.inl rfl) (by decide) (by decide) (by intros; rfl) T.cc (T.aC _ (by decide +kernel)) rfl (we_nm (i := 4) hX rfl (.inl rfl) (by decide) (by decide) rfl ⟨_, upd_same, Nat.lt_of_le_of_lt (pl1 (pl1 (pl1 (Nat.le_refl 0)))) (by decide), ?_⟩)
    refine ws_fld (i := 0) (self := x) (dx := dx) hX rfl (.inl rfl) (by decide) (by decide) (by intros; rfl) T.cc (T.aC _ (by decide +kernel)) rfl (we_nm (i := 5) hX rfl (.inl rfl) (by decide) (by decide) rfl ⟨_, upd_same, Nat.lt_of_le_of_lt (pl1 (pl1 (pl1 (pl1 (Nat.le_refl 0))))) (by decide), ?_⟩)
    rw [upd_upd, upd_upd, upd_upd, upd_upd]
    exact ⟨_, pss_nil, q⟩
theorem ev_card {M : Gm} {N : List Str} {sc : Scope} {k j : Nat} {e : Expr} {es : List Expr} {r : List Sl} {pos p : Pos} {n : Str} {c f : Int} {m : List Str} (ck : C8.Mak M.P M.w M.K M.mg M.base j "Card" M.C (spCard M) []) (hk : j + 1 ≤ k) (hg : sc.names.lookup ("Card" : Str) = some .globalImplicit) (ha : EvA M N sc k (e :: es) r [.str n, .int c, .int f, .tup (m.map .str), .tup []])
    (he : ∀ env, starEach (e :: es) env = (false, eval e env) :: starEach es env) (hpl : ∀ env, (backTo pos (starEach es env)).any (·.1) = false) : Ev M N sc k (.Call (.Name "Card" p) (e :: es) [] pos) r (.card n c f m) := fun X hX H0 G0 G H sg F Q q => by
  have hgm := hX.gm
  subst hgm
  refine ⟨_, C8.pe_mk ck hX.room hk (hX.gl hg) pa_w (by decide) (he _) (hpl _), ?_⟩
  refine ha X hX H0 G0 G H sg F _ fun vs G1 H1 g1 r1 x dx hx hdx ne => ?_
  cases r1 with
  | cons a1 r1 => cases r1 with
    | cons a2 r1 => cases r1 with
      | cons a3 r1 => cases r1 with
        | @cons v4 _ _ _ a4 r1 => cases r1 with
          | @cons v5 _ _ _ a5 r1 =>
            cases r1
            cases a1
            cases a2
            cases a3
            refine ⟨x, dx, _, _, _, _, _, rfl, upd_same, rfl, ?_⟩
            rw [upd_upd]
            have g2 : Grow G1 H1 (upd G1 dx (.own x)) (upd H1 dx (.own x)) := Grow.new g1.i hdx
            have g3 := Grow.new (o := HO.ins (Gm.C ⟨X.prog, X.w, X.K, X.mg, X.base⟩) dx (cardFs n c f v4 v5)) g2.i (show (upd H1 dx (.own x)) x = none by rw [upd_ne (Ne.symm ne)]; exact hx)
            exact q _ _ _ ((g1.trans g2).trans g3) (.card upd_same (a4.mono (g2.g.trans g3.g)) (a5.mono (g2.g.trans g3.g)))
end Ts

set_option Elab.async false
set_option linter.all false
set_option maxRecDepth 100000
set_option maxHeartbeats 4000000
namespace Ts
open PySem L2
theorem sc_put_at : FnScope ["row", "at", "value"] ["row", "at", "value"] (defScope s_put_at) := ⟨rfl, rfl, rfl, by decide +kernel, rfl, by decide +kernel, by decide +kernel⟩
/-- put_at -/
def R_put_at (ds : List Dt) (d : Dt) : Prop := ∃ (xs : List Dt) (n : Nat) (v : Dt), ds = [.tup xs, .int n, v] ∧ n < xs.length ∧ xs.length ≤ 1000 ∧ d = .tup (xs.set n v)
theorem cut_to (xs : List Dt) (n : Nat) : cutD xs none (some (n : Int)) = xs.take n := by
  unfold cutD
  rw [HT.sIx_none, HT.sIx_nat, List.drop_zero, Nat.sub_zero]
  by_cases h : n ≤ xs.length
  · rw [Nat.min_eq_left h]
  · rw [Nat.min_eq_right (by omega), List.take_of_length_le (by omega), List.take_of_length_le (by omega)]
theorem cut_from (xs : List Dt) (n : Nat) : cutD xs (some (n : Int)) none = xs.drop n := by
  unfold cutD
  rw [HT.sIx_none, HT.sIx_nat]
  by_cases h : n ≤ xs.length
  · rw [Nat.min_eq_left h, List.take_of_length_le (by rw [List.length_drop]; omega)]
  · rw [Nat.min_eq_right (by omega), List.drop_of_length_le (by omega), List.drop_of_length_le (by omega), List.take_nil]
theorem set_split (xs : List Dt) (n : Nat) (v : Dt) (h : n < xs.length) : xs.take n ++ [v] ++ xs.drop (n + 1) = xs.set n v := by
  rw [List.set_eq_take_append_cons_drop, if_pos h]
  simp
theorem k_put_at {M : Gm} (T : Tx M) {f : Addr} {fd : FuncData} (F : Fn M "put_at" s_put_at f fd) : Keeps M 1 "put_at" R_put_at := by
  refine keeps_of F.1 F.2 sc_put_at (fun ds d h => ?_) (fun _ _ _ _ _ _ us hl => match us, hl with | [_, _, _], _ => rfl) (fun ds d h => ?_)
  · obtain ⟨xs, n, v, rfl, _⟩ := h
    rfl
  · obtain ⟨xs, n, v, rfl, hn, hl, rfl⟩ := h
    refine x_ret (Ev.to (pt (pt (ev_sliceT (nm 0) eo_none (eo_some (nm 1))) (tp (a1 (nm 2))) ?_) (ev_sliceT (nm 0) (eo_some (pl (nm 1) ev_int)) eo_none) ?_) ?_) rfl
    · rw [cut_to]
      simp
      omega
    · rw [cut_to, show ((n : Int) + 1) = ((n + 1 : Nat) : Int) from rfl, cut_from]
      simp
      omega
    · rw [cut_to, show ((n : Int) + 1) = ((n + 1 : Nat) : Int) from rfl, cut_from, set_split _ _ _ hn]
end Ts

set_option Elab.async false
set_option linter.all false
set_option maxRecDepth 100000
set_option maxHeartbeats 4000000
/-! P2: what lies, layer by layer. -/
namespace Ts
open PySem L2
theorem sc_first_sight : FnScope ["lying", "sight", "number", "card", "keeper", "came", "marks"] ["lying"] (defScope s_first_sight) := ⟨rfl, rfl, rfl, by decide +kernel, rfl, by decide +kernel, by decide +kernel⟩
def R_first_sight (ds : List Dt) (d : Dt) : Prop := ∃ rs : List Row, rs.length ≤ 1000 ∧ ds = [.lst (rs.map Row.e)] ∧ d = .lst ((sight rs).map Row.s)
theorem k_first_sight {M : Gm} (T : Tx M) {f : Addr} {fd : FuncData} (F : Fn M "first_sight" s_first_sight f fd) : Keeps M 1 "first_sight" R_first_sight := by
  refine keeps_of F.1 F.2 sc_first_sight (fun ds d h => ?_) (fun _ _ _ _ _ _ us hl => match us, hl with | [_], _ => rfl) (fun ds d h => ?_)
  · obtain ⟨rs, _, rfl, _⟩ := h
    rfl
  · obtain ⟨rs, hl, rfl, rfl⟩ := h
    refine xl 1 [("number", 2), ("card", 3), ("keeper", 4), ("came", 5), ("marks", 6)] Row.s (enc := Row.e) (xs := rs) (r2 := fun w => [.dat (.lst (rs.map Row.e)), .no, .dat (.int (w.num : Nat)), .dat w.card.dt, .dat (.int (w.keeper : Nat)), .dat (.int (w.came : Nat)), .dat (tM w.card)]) (ei_list (nm 0)) (fun w _ => gt (gc (tN 2) (gc (tN 3) (gc (tN 4) (gc (tN 5) (gc (tN 6) tgs_nil)))))) (fun w _ => tp (ac (nm 2) (ac (nm 4) (ac (nm 6) (ac (fl (nm 3) .force) (a1 ev_bl)))))) (by omega) ?_
    exact x_ret (Ev.to (so (nm 1) (sortOk_rows rs)) (by rw [sight_eq])) rfl
theorem sc_changes : FnScope ["lying", "found", "number", "card", "keeper", "came", "marks", "place", "rule"] ["lying"] (defScope s_changes) := ⟨rfl, rfl, rfl, by decide +kernel, rfl, by decide +kernel, by decide +kernel⟩
theorem sort_nil : ([] : List Dt).mergeSort leD = [] := by simp
theorem so0 {M : Gm} {N : List Str} {sc : Scope} {k : Nat} {a : Expr} {r : List Sl} {pos p : Pos} (ha : Ev M N sc k a r (.lst [])) (T : Tx M := by assumption) (hg : sc.names.lookup ("sorted" : Str) = some .globalImplicit := by rfl) (he : ∀ env, starEach [a] env = (false, eval a env) :: starEach [] env := by intros; rfl) : Ev M N sc k (.Call (.Name "sorted" p) [a] [] pos) r (.lst []) := Ev.to (so (os := []) ha (sortOk_ints []) rfl T hg he) (by rw [sort_nil])
def R_changes (ds : List Dt) (d : Dt) : Prop := ∃ rs : List Row, ds = [.lst (rs.map Row.e)] ∧ d = .lst []
theorem k_changes {M : Gm} (T : Tx M) {f : Addr} {fd : FuncData} (F : Fn M "changes" s_changes f fd) : Keeps M 1 "changes" R_changes := by
  refine keeps_of F.1 F.2 sc_changes (fun ds d h => ?_) (fun _ _ _ _ _ _ us hl => match us, hl with | [_], _ => rfl) (fun ds d h => ?_)
  · obtain ⟨rs, rfl, _⟩ := h
    rfl
  · obtain ⟨rs, rfl, rfl⟩ := h
    refine xo 1 (lsN ea_nil) fun p => ?_
    refine fe (A := Row) (enc := Row.e) (xs := rs) (fun i r' => ∃ s2 s3 s4 s5 s6, r' = [.dat (.lst (rs.map Row.e)), .own p [], s2, s3, s4, s5, s6, .no, .no]) (ei_list (nm 0)) ⟨_, _, _, _, _, rfl⟩ (fun i w r' hw ⟨s2, s3, s4, s5, s6, e⟩ => ?_) (fun r' ⟨s2, s3, s4, s5, s6, e⟩ => ?_)
    · subst e
      refine ⟨_, [.dat (.lst (rs.map Row.e)), .own p [], .dat (.int (w.num : Nat)), .dat w.card.dt, .dat (.int (w.keeper : Nat)), .dat (.int (w.came : Nat)), .dat (tM w.card), .no, .no], gt (gc (tN 2) (gc (tN 3) (gc (tN 4) (gc (tN 5) (gc (tN 6) tgs_nil))))), ?_⟩
      exact fe0 (EvI.to (rg (le (fl (nm 3) .rules)) (by decide) (by decide)) rfl) (x_nil ⟨_, _, _, _, _, rfl⟩)
    · subst e
      exact xz 1 (x_ret (so0 (nm 1)) rfl)

theorem sc_layered : FnScope ["lying", "sight", "order", "layer", "left", "table", "free", "change"] ["lying"] (defScope s_layered) := ⟨rfl, rfl, rfl, by decide +kernel, rfl, by decide +kernel, by decide +kernel⟩
def R_layered (ds : List Dt) (d : Dt) : Prop := ∃ rs : List Row, rs.length ≤ 1000 ∧ ds = [.lst (rs.map Row.e)] ∧ d = .tup [.lst ((sight rs).map Row.s), .lst []]
theorem ne_nil : CmpD .NotEq (.lst []) (.lst []) false := lk (.ne _ _ rfl rfl (by simp only [Dt.dep, deps]; decide)) (by rw [eqD_refl]; rfl)
theorem eq_nil : CmpD .Eq (.lst []) (.lst []) true := lk (.eq _ _ rfl rfl (by simp only [Dt.dep, deps]; decide)) (by rw [eqD_refl])
theorem k_layered {M : Gm} (T : Tx M) (C1 : Keeps M 1 "first_sight" R_first_sight) (C2 : Keeps M 1 "changes" R_changes) {f : Addr} {fd : FuncData} (F : Fn M "layered" s_layered f fd) : Keeps M 2 "layered" R_layered := by
  refine keeps_of F.1 F.2 sc_layered (fun ds d h => ?_) (fun _ _ _ _ _ _ us hl => match us, hl with | [_], _ => rfl) (fun ds d h => ?_)
  · obtain ⟨rs, _, rfl, _⟩ := h
    rfl
  · obtain ⟨rs, hl, rfl, rfl⟩ := h
    refine xa 1 (ca C1 (a1 (nm 0)) ⟨rs, hl, rfl, rfl⟩) (xo 2 (lsN ea_nil) fun p => ?_)
    refine fe (A := Nat) (enc := fun i => .int (i : Nat)) (xs := List.range 5) (fun i r' => ∃ s3 s4, r' = [.dat (.lst (rs.map Row.e)), .dat (.lst ((sight rs).map Row.s)), .own p [], s3, s4, .no, .no, .no]) (EvI.to (rg ev_int) (rgD_nat 5)) ⟨_, _, rfl⟩ (fun i w r' hw ⟨s3, s4, e⟩ => ?_) (fun r' ⟨s3, s4, e⟩ => ?_)
    · subst e
      refine ⟨_, [.dat (.lst (rs.map Row.e)), .dat (.lst ((sight rs).map Row.s)), .own p [], .dat (.int (w : Nat)), s4, .no, .no, .no], tC 3, ?_⟩
      refine xlf (A := Dt) (enc := id) (xs := []) (is := [7]) (r2 := fun _ => []) 4 [("change", 7)] (fun _ => true) id (ei_list (ca C2 (a1 (nm 0)) ⟨rs, rfl, rfl⟩)) (fun _ h => nomatch h) (fun _ h => nomatch h) (fun _ h => nomatch h) (by decide) ?_
      exact x_while (fun m r' => r' = [.dat (.lst (rs.map Row.e)), .dat (.lst ((sight rs).map Row.s)), .own p [], .dat (.int (w : Nat)), .dat (.lst []), .no, .no, .no]) 0 rfl (fun m r' e => ⟨false, e ▸ tc (nm 4) (ls ea_nil) ne_nil, (fun z => nomatch z), fun _ => e ▸ x_nil ⟨_, _, rfl⟩⟩)
    · subst e
      exact xz 2 (x_ret (tp (ac (nm 1) (a1 (nm 2)))) rfl)
theorem sc_keeper_in : FnScope ["sight", "number", "row"] ["sight", "number"] (defScope s_keeper_in) := ⟨rfl, rfl, rfl, by decide +kernel, rfl, by decide +kernel, by decide +kernel⟩
def kpI (n : Nat) : List Row → Dt
  | [] => .non
  | r :: rs => if r.num = n then .int (r.keeper : Nat) else kpI n rs
def R_keeper_in (ds : List Dt) (d : Dt) : Prop := ∃ (rs : List Row) (n : Nat), ds = [.lst (rs.map Row.s), .int (n : Nat)] ∧ d = kpI n rs
theorem drop_get {A : Type} {l : List A} {i : Nat} {a : A} (h : l[i]? = some a) : l.drop i = a :: l.drop (i + 1) := by
  obtain ⟨h1, h2⟩ := List.getElem?_eq_some_iff.mp h
  rw [List.drop_eq_getElem_cons h1, h2]
theorem c_nat (i j : Nat) : CmpD .Eq (.int (i : Nat)) (.int (j : Nat)) (decide (i = j)) := lk (c_eqI _ _) (by rw [decide_eq_decide]; omega)
theorem c_natN (i j : Nat) : CmpD .NotEq (.int (i : Nat)) (.int (j : Nat)) (!decide (i = j)) := lk (c_neI _ _) (by rw [show decide ((i : Int) = j) = decide (i = j) by rw [decide_eq_decide]; omega])
theorem k_keeper_in {M : Gm} (T : Tx M) {f : Addr} {fd : FuncData} (F : Fn M "keeper_in" s_keeper_in f fd) : Keeps M 1 "keeper_in" R_keeper_in := by
  refine keeps_of F.1 F.2 sc_keeper_in (fun ds d h => ?_) (fun _ _ _ _ _ _ us hl => match us, hl with | [_, _], _ => rfl) (fun ds d h => ?_)
  · obtain ⟨rs, n, rfl, _⟩ := h
    rfl
  · obtain ⟨rs, n, rfl, rfl⟩ := h
    refine fe (A := Row) (enc := Row.s) (xs := rs) (fun i r' => kpI n rs = kpI n (rs.drop i) ∧ ∃ s2, r' = [.dat (.lst (rs.map Row.s)), .dat (.int (n : Nat)), s2]) (ei_list (nm 0)) ⟨rfl, _, rfl⟩ (fun i w r' hw ⟨hk, s2, e⟩ => ?_) (fun r' ⟨hk, s2, e⟩ => ?_)
    · subst e
      rw [drop_get hw] at hk
      refine ⟨_, [.dat (.lst (rs.map Row.s)), .dat (.int (n : Nat)), .dat w.s], tN 2, ?_⟩
      refine x_if (tc (ix (nm 2) ev_int) (nm 1) (c_nat _ _)) (fun h => ?_) (fun h => ?_)
      · refine x_ret (ix (nm 2) ev_int) ?_
        rw [decide_eq_true_eq] at h
        rw [hk]
        exact (if_pos h).symm
      · rw [decide_eq_false_iff_not] at h
        exact x_nil (x_nil ⟨hk.trans (if_neg h), _, rfl⟩)
    · subst e
      rw [List.drop_length] at hk
      exact x_ret ev_non hk.symm
theorem sc_rules_for : FnScope ["lying", "sight", "happening", "used", "found", "number", "card", "keeper", "came", "marks", "now", "place", "rule"] ["lying", "sight", "happening", "used"] (defScope s_rules_for) := ⟨rfl, rfl, rfl, by decide +kernel, rfl, by decide +kernel, by decide +kernel⟩
def R_rules_for (ds : List Dt) (d : Dt) : Prop := ∃ (rs ss : List Row) (h u : Dt), ds = [.lst (rs.map Row.e), .lst (ss.map Row.s), h, u] ∧ d = .lst []
theorem k_rules_for {M : Gm} (T : Tx M) (C : Keeps M 1 "keeper_in" R_keeper_in) {f : Addr} {fd : FuncData} (F : Fn M "rules_for" s_rules_for f fd) : Keeps M 2 "rules_for" R_rules_for := by
  refine keeps_of F.1 F.2 sc_rules_for (fun ds d h => ?_) (fun _ _ _ _ _ _ us hl => match us, hl with | [_, _, _, _], _ => rfl) (fun ds d h => ?_)
  · obtain ⟨rs, ss, h, u, rfl, _⟩ := h
    rfl
  · obtain ⟨rs, ss, h, u, rfl, rfl⟩ := h
    refine xo 4 (lsN ea_nil) fun p => ?_
    refine fe (A := Row) (enc := Row.e) (xs := rs) (fun i r' => ∃ s5 s6 s7 s8 s9 s10, r' = [.dat (.lst (rs.map Row.e)), .dat (.lst (ss.map Row.s)), .dat h, .dat u, .own p [], s5, s6, s7, s8, s9, s10, .no, .no]) (ei_list (nm 0)) ⟨_, _, _, _, _, _, rfl⟩ (fun i w r' hw ⟨s5, s6, s7, s8, s9, s10, e⟩ => ?_) (fun r' ⟨s5, s6, s7, s8, s9, s10, e⟩ => ?_)
    · subst e
      refine ⟨_, [.dat (.lst (rs.map Row.e)), .dat (.lst (ss.map Row.s)), .dat h, .dat u, .own p [], .dat (.int (w.num : Nat)), .dat w.card.dt, .dat (.int (w.keeper : Nat)), .dat (.int (w.came : Nat)), .dat (tM w.card), s10, .no, .no], gt (gc (tN 5) (gc (tN 6) (gc (tN 7) (gc (tN 8) (gc (tN 9) tgs_nil))))), ?_⟩
      refine xa 10 (ca C (ac (nm 1) (a1 (nm 5))) ⟨ss, w.num, rfl, rfl⟩) ?_
      exact fe0 (EvI.to (enT (fl (nm 6) .rules)) rfl) (x_nil ⟨_, _, _, _, _, _, rfl⟩)
    · subst e
      exact xz 4 (x_ret (so0 (nm 4)) rfl)
theorem sc_put_in_place : FnScope ["lying", "sight", "happening", "choices", "trail", "used", "left", "now", "some", "at", "came", "number", "place", "rule", "player"] ["lying", "sight", "happening", "choices"] (defScope s_put_in_place) := ⟨rfl, rfl, rfl, by decide +kernel, rfl, by decide +kernel, by decide +kernel⟩
def R_put_in_place (ds : List Dt) (d : Dt) : Prop := ∃ (rs ss : List Row) (h : Dt) (ch : List Dt), h.isNon = false ∧ ds = [.lst (rs.map Row.e), .lst (ss.map Row.s), h, .lst ch] ∧ d = .tup [.lst [], h, .lst ch]
theorem k_put_in_place {M : Gm} (T : Tx M) (C : Keeps M 2 "rules_for" R_rules_for) {f : Addr} {fd : FuncData} (F : Fn M "put_in_place" s_put_in_place f fd) : Keeps M 3 "put_in_place" R_put_in_place := by
  refine keeps_of F.1 F.2 sc_put_in_place (fun ds d h => ?_) (fun _ _ _ _ _ _ us hl => match us, hl with | [_, _, _, _], _ => rfl) (fun ds d h => ?_)
  · obtain ⟨rs, ss, h, u, _, rfl, _⟩ := h
    rfl
  · obtain ⟨rs, ss, h, ch, hn, rfl, rfl⟩ := h
    refine xo 4 (lsN ea_nil) fun p => xz 4 (xo 5 (lsN ea_nil) fun p2 => xz 5 (xa 6 (li (nm 3)) (xa 7 (nm 2) ?_)))
    refine x_while (fun m r' => r' = [.dat (.lst (rs.map Row.e)), .dat (.lst (ss.map Row.s)), .dat h, .dat (.lst ch), .dat (.lst []), .dat (.lst []), .dat (.lst ch), .dat h, .no, .no, .no, .no, .no, .no, .no]) 0 rfl (fun m r' e => ⟨true, e ▸ tc (nm 7) ev_non (lk (.notN _) (by rw [hn]; rfl)), fun _ => ?_, (fun z => nomatch z)⟩)
    subst e
    refine xa 8 (ca C (ac (nm 0) (ac (nm 1) (ac (nm 7) (a1 (nm 5))))) ⟨rs, ss, _, _, rfl, rfl⟩) ?_
    refine x_ifT (tc (nm 8) (ls ea_nil) eq_nil) (x_brk ?_)
    exact x_ret (tp (ac (nm 4) (ac (nm 7) (a1 (nm 6))))) rfl
end Ts

set_option Elab.async false
set_option linter.all false
set_option maxRecDepth 100000
set_option maxHeartbeats 4000000
/-! P3: the table: rows, what happens. -/
namespace Ts
open PySem L2
structure Ly (g : Gd) (t : Tb) : Prop where
  ol : g.ow.length = g.cs.length
  m : g.cs.length ≤ 16
  ly : ∀ c ∈ t.lying, c < g.cs.length
  ll : t.lying.length ≤ 100
theorem Gd.get {g : Gd} {c : Nat} (h : c < g.cs.length) : g.cs[c]? = some (g.cs.getD c ⟨Str.empty, 0, 0, []⟩) := by
  rw [List.getD_eq_getElem?_getD, List.getElem?_eq_getElem h]
  rfl
theorem get_D {A : Type} {l : List A} {i : Nat} {z : A} (h : i < l.length) : l[i]? = some (l.getD i z) := by
  rw [List.getD_eq_getElem?_getD, List.getElem?_eq_getElem h]
  rfl
theorem sc_rows_of : FnScope ["cards", "owners", "table", "came", "number"] ["cards", "owners", "table"] (defScope s_rows_of) := ⟨rfl, rfl, rfl, by decide +kernel, rfl, by decide +kernel, by decide +kernel⟩
def R_rows_of (ds : List Dt) (d : Dt) : Prop := ∃ (g : Gd) (t : Tb), Ly g t ∧ ds = [.lst g.cd, .lst (nI g.ow), .tup (encT g t)] ∧ d = .lst ((g.rows t.lying).map Row.e)
theorem k_rows_of {M : Gm} (T : Tx M) {f : Addr} {fd : FuncData} (F : Fn M "rows_of" s_rows_of f fd) : Keeps M 1 "rows_of" R_rows_of := by
  refine keeps_of F.1 F.2 sc_rows_of (fun ds d h => ?_) (fun _ _ _ _ _ _ us hl => match us, hl with | [_, _, _], _ => rfl) (fun ds d h => ?_)
  · obtain ⟨g, t, _, rfl, _⟩ := h
    rfl
  · obtain ⟨g, t, L, rfl, rfl⟩ := h
    refine x_ret (Ev.to (EvN.ev (lc (A := Nat × Nat) (enc := encZ) (xs := t.lying.zipIdx) (r2 := fun p => [.dat (.lst g.cd), .dat (.lst (nI g.ow)), .dat (.tup (encT g t)), .dat (.int (p.2 : Nat)), .dat (.int (p.1 : Nat))]) [("came", 3), ("number", 4)] (fun p => (g.row p).e) (EvI.to (enT (ix (nm 2) ev_int)) (num_nI t.lying 0)) (fun p _ => gt (gc (tN 3) (gc (tN 4) tgs_nil))) (fun p hp => ?_) ?_)) ?_) rfl
    · have hc := L.ly _ (zip_mem hp)
      exact tp (ac (nm 4) (ac (il (nm 0) (nm 4) (at_map (Gd.get hc))) (ac (il (nm 1) (nm 4) (at_nI (get_D (by rw [L.ol]; exact hc)))) (ac (nm 3) (a1 (ix (ix (nm 2) ev_int) (nm 4) (at_map (Gd.get hc))))))))
    · rw [List.length_zipIdx]
      have := L.ll
      omega
    · unfold Gd.rows
      rw [List.map_map]
      rfl
theorem sc_sight_of : FnScope ["cards", "owners", "table"] ["cards", "owners", "table"] (defScope s_sight_of) := ⟨rfl, rfl, rfl, by decide +kernel, rfl, by decide +kernel, by decide +kernel⟩
def R_sight_of (ds : List Dt) (d : Dt) : Prop := ∃ (g : Gd) (t : Tb), Ly g t ∧ ds = [.lst g.cd, .lst (nI g.ow), .tup (encT g t)] ∧ d = .lst ((sight (g.rows t.lying)).map Row.s)
theorem rows_len (g : Gd) (l : List Nat) : (g.rows l).length = l.length := by
  unfold Gd.rows
  rw [List.length_map, List.length_zipIdx]
theorem k_sight_of {M : Gm} (T : Tx M) (C1 : Keeps M 1 "rows_of" R_rows_of) (C2 : Keeps M 2 "layered" R_layered) {f : Addr} {fd : FuncData} (F : Fn M "sight_of" s_sight_of f fd) : Keeps M 3 "sight_of" R_sight_of := by
  refine keeps_of F.1 F.2 sc_sight_of (fun ds d h => ?_) (fun _ _ _ _ _ _ us hl => match us, hl with | [_, _, _], _ => rfl) (fun ds d h => ?_)
  · obtain ⟨g, t, _, rfl, _⟩ := h
    rfl
  · obtain ⟨g, t, L, rfl, rfl⟩ := h
    refine x_ret (ix (ca C2 (a1 (ca C1 (ac (nm 0) (ac (nm 1) (a1 (nm 2)))) ⟨g, t, L, rfl, rfl⟩)) ⟨g.rows t.lying, ?_, rfl, rfl⟩) ev_int) rfl
    rw [rows_len]
    have := L.ll
    omega
theorem sc_touches : FnScope ["table", "happening", "kind", "thing", "amount"] ["table", "happening"] (defScope s_touches) := ⟨rfl, rfl, rfl, by decide +kernel, rfl, by decide +kernel, by decide +kernel⟩
def R_touches (ds : List Dt) (d : Dt) : Prop := ∃ (g : Gd) (t : Tb) (h : Hap), h.ok g t ∧ ds = [.tup (encT g t), h.dt] ∧ d = .bl true
theorem k_in {x : Str} {xs : List Str} {b : Bool} (e : decide (x ∈ xs) = b) : CmpD .In (.str x) (.tup (xs.map .str)) b := lk (.inS _ _) e
theorem neg_p (p : Nat) : (-1 : Int) - (-1 - (p : Nat)) = (p : Nat) := by omega
theorem k_touches {M : Gm} (T : Tx M) {f : Addr} {fd : FuncData} (F : Fn M "touches" s_touches f fd) : Keeps M 1 "touches" R_touches := by
  refine keeps_of F.1 F.2 sc_touches (fun ds d h => ?_) (fun _ _ _ _ _ _ us hl => match us, hl with | [_, _], _ => rfl) (fun ds d h => ?_)
  · obtain ⟨g, t, h, _, rfl, _⟩ := h
    rfl
  · obtain ⟨g, t, h, hk, rfl, rfl⟩ := h
    cases h with
    | come c =>
      refine xt (nm 1) (gc (tN 2) (gc (tN 3) (gc (tN 4) tgs_nil))) ?_
      refine x_ifF0 (tc (nm 2) gK (k_in (by decide +kernel))) ?_
      exact x_ret (Ev.to (ev_or (cm (nm 2) ev_str (lk (c_eqS _ _) (b' := true) (by decide +kernel))) (fun h => nomatch h) (c' := true)) rfl) rfl
    | leave c =>
      refine xt (nm 1) (gc (tN 2) (gc (tN 3) (gc (tN 4) tgs_nil))) ?_
      refine x_ifF0 (tc (nm 2) gK (k_in (by decide +kernel))) ?_
      refine x_ret (Ev.to (ev_or (cm (nm 2) ev_str (lk (c_eqS _ _) (b' := false) (by decide +kernel))) (fun _ => ev_one (cm (nm 3) (ix (nm 0) ev_int) (c_in c t.lying)))) ?_) rfl
      rw [decide_eq_true (show c ∈ t.lying from hk)]
      rfl
    | draw p =>
      refine xt (nm 1) (gc (tN 2) (gc (tN 3) (gc (tN 4) tgs_nil))) ?_
      refine x_ifT (tc (nm 2) gK (k_in (by decide +kernel))) ?_
      exact x_ret (d := .bl true) (Ev.to (ev_notV (i := false) (ix (ix (nm 0) ev_int) (mi (ev_neg ev_int) (nm 3)) (by rw [neg_p]; exact at_rep hk))) rfl) rfl
theorem sc_to_player : FnScope ["table", "happening", "kind", "thing", "amount", "player", "deck", "many", "hand", "drawn"] ["table", "happening"] (defScope s_to_player) := ⟨rfl, rfl, rfl, by decide +kernel, rfl, by decide +kernel, by decide +kernel⟩
structure Dl (g : Gd) (t : Tb) : Prop where
  dl : t.decks.length = g.n
  hl : t.hands.length = g.n
  n4 : g.n ≤ 4
  dk : ∀ l ∈ t.decks, l.length ≤ 100
  hd : ∀ l ∈ t.hands, l.length ≤ 100
def R_to_player (ds : List Dt) (d : Dt) : Prop := ∃ (g : Gd) (t : Tb) (p : Nat), Dl g t ∧ p < g.n ∧ ds = [.tup (encT g t), hDraw p] ∧ d = .tup (encT g (t.draw p))
theorem at_tI {l : List (List Nat)} {i : Nat} {a : List Nat} (h : l[i]? = some a) : atI (l.map tI) (i : Int) = some (.tup (nI a)) := at_map (f := tI) h
theorem getD_mem {A : Type} {l : List A} {i : Nat} {z : A} (h : i < l.length) : l.getD i z ∈ l := List.mem_of_getElem? (get_D h)
theorem k_to_player {M : Gm} (T : Tx M) (C : Keeps M 1 "put_at" R_put_at) {f : Addr} {fd : FuncData} (F : Fn M "to_player" s_to_player f fd) : Keeps M 2 "to_player" R_to_player := by
  refine keeps_of F.1 F.2 sc_to_player (fun ds d h => ?_) (fun _ _ _ _ _ _ us hl => match us, hl with | [_, _], _ => rfl) (fun ds d h => ?_)
  · obtain ⟨g, t, p, _, _, rfl, _⟩ := h
    rfl
  · obtain ⟨g, t, p, L, hp, rfl, rfl⟩ := h
    have hD : t.decks[p]? = some (t.decks.getD p []) := get_D (by rw [L.dl]; exact hp)
    have hH : t.hands[p]? = some (t.hands.getD p []) := get_D (by rw [L.hl]; exact hp)
    have hdl := L.dk _ (List.mem_of_getElem? hD)
    have hhl := L.hd _ (List.mem_of_getElem? hH)
    generalize eD : t.decks.getD p [] = dk at *
    generalize eH : t.hands.getD p [] = hn at *
    refine xt (nm 1) (gc (tN 2) (gc (tN 3) (gc (tN 4) tgs_nil))) ?_
    refine xa 5 (Ev.to (mi (ev_neg ev_int) (nm 3)) (by rw [neg_p])) ?_
    refine x_ifF0 (tc (nm 2) ev_str (lk (c_eqS _ _) (by decide +kernel))) ?_
    refine x_ifF0 (tc (nm 2) ev_str (lk (c_eqS _ _) (by decide +kernel))) ?_
    refine xa 6 (ix (ix (nm 0) ev_int) (nm 5) (at_tI hD)) ?_
    refine xa 7 (d := .int ((min 1 dk.length : Nat) : Nat)) (Ev.to (ev_min2 T.toBlt rfl (ac (nm 4) (a1 (le (d := .tup (nI dk)) (nm 6) (n := dk.length) (congrArg some (nI_len dk))))) (by intros; rfl) (by intros; rfl)) ?_) ?_
    · congr 1
      split <;> omega
    have e0 : nI hn ++ (nI dk).take (min 1 dk.length) = nI (hn ++ dk.take 1) := by
      rw [nI_app]
      congr 1
      cases dk with
      | nil => rfl
      | cons a l => simp [nI, Nat.min_eq_left]
    refine xa 8 (d := tI (sortN (hn ++ dk.take 1))) (Ev.to (tu (soN (l := hn ++ dk.take 1) (pt (ix (ix (nm 0) ev_int) (nm 5) (at_tI hH)) (ev_sliceT (nm 6) eo_none (eo_some (nm 7))) ?_) ?_)) rfl) ?_
    · rw [cut_to]
      simp only [nI_len, List.length_take]
      omega
    · rw [cut_to, e0]
      rfl
    refine xa 9 (ca C (ac (nm 0) (ac ev_int (a1 (ca C (ac (ix (nm 0) ev_int) (ac (nm 5) (a1 (ev_sliceT (nm 6) (eo_some (nm 7)) eo_none)))) ⟨_, p, _, rfl, ?_, ?_, rfl⟩)))) ⟨_, 3, _, rfl, ?_, ?_, rfl⟩) ?_
    · rw [List.length_map, L.dl]
      exact hp
    · rw [List.length_map, L.dl]
      have := L.n4
      omega
    · exact Nat.lt_of_sub_eq_succ rfl
    · exact Nat.le_of_ble_eq_true rfl
    refine x_ret (ca C (ac (nm 9) (ac ev_int (a1 (ca C (ac (ix (nm 0) ev_int) (ac (nm 5) (a1 (nm 8)))) ⟨_, p, _, rfl, ?_, ?_, rfl⟩)))) ⟨_, 4, _, rfl, ?_, ?_, rfl⟩) ?_
    · rw [List.length_map, L.hl]
      exact hp
    · rw [List.length_map, L.hl]
      have := L.n4
      omega
    · exact Nat.lt_of_sub_eq_succ rfl
    · exact Nat.le_of_ble_eq_true rfl
    · have e1 : cutD (nI dk) (some ((min 1 dk.length : Nat) : Int)) none = nI (dk.drop 1) := by
        rw [cut_from]
        cases dk with
        | nil => rfl
        | cons a l => simp [nI, Nat.min_eq_left]
      rw [e1]
      show _ = Dt.tup (encT g (t.draw p))
      unfold encT Tb.draw
      rw [eD, eH, List.map_set, List.map_set]
      rfl
theorem sc_to_card : FnScope ["cards", "table", "happening", "kind", "thing", "amount", "marks", "wounds", "changed", "lying", "mark", "one"] ["cards", "table", "happening"] (defScope s_to_card) := ⟨rfl, rfl, rfl, by decide +kernel, rfl, by decide +kernel, by decide +kernel⟩
def Hap.isC : Hap → Nat → Prop
  | .come c, x => c = x
  | .leave c, x => c = x
  | .draw _, _ => False
structure Lh (g : Gd) (t : Tb) : Prop extends Ly g t where
  hh : t.heap.length ≤ 100
def R_to_card (ds : List Dt) (d : Dt) : Prop := ∃ (g : Gd) (t : Tb) (h : Hap) (c : Nat), h.isC c ∧ Lh g t ∧ c < g.cs.length ∧ ds = [.lst g.cd, .tup (encT g t), h.dt] ∧ d = .tup (encT g (h.go t))
theorem set_same {A : Type} {l : List A} {i : Nat} {a : A} (h : l[i]? = some a) : l.set i a = l := by
  obtain ⟨h1, h2⟩ := List.getElem?_eq_some_iff.mp h
  rw [← h2]
  exact List.set_getElem_self h1
theorem k_to_card {M : Gm} (T : Tx M) (C : Keeps M 1 "put_at" R_put_at) {f : Addr} {fd : FuncData} (F : Fn M "to_card" s_to_card f fd) : Keeps M 2 "to_card" R_to_card := by
  refine keeps_of F.1 F.2 sc_to_card (fun ds d h => ?_) (fun _ _ _ _ _ _ us hl => match us, hl with | [_, _, _], _ => rfl) (fun ds d h => ?_)
  · obtain ⟨g, t, h, c, _, _, _, rfl, _⟩ := h
    rfl
  · obtain ⟨g, t, h, c, hk, L, hc, rfl, rfl⟩ := h
    have hm := L.m
    have hll := L.ll
    have hC := Gd.get hc
    generalize eC : g.cs.getD c ⟨Str.empty, 0, 0, []⟩ = cd at *
    have s7 : (encT g t).set 7 (.tup ((g.cs.map tM).set c (tM cd))) = encT g t := by
      rw [set_same (l := g.cs.map tM) (by rw [List.getElem?_map, hC]; rfl)]
      rfl
    have s8 : (encT g t).set 8 (.tup ((List.replicate g.cs.length (.int 0)).set c (.int 0))) = encT g t := by
      rw [set_same (l := List.replicate g.cs.length (Dt.int 0)) (by rw [List.getElem?_replicate, if_pos hc])]
      rfl
    have hw : (List.replicate g.cs.length (Dt.int 0)).length ≤ 1000 := by
      rw [List.length_replicate]
      omega
    have hq : (g.cs.map tM).length ≤ 1000 := by
      rw [List.length_map]
      omega
    cases h with
    | draw p => exact hk.elim
    | come x =>
      have e : x = c := hk
      subst e
      refine xt (nm 2) (gc (tN 3) (gc (tN 4) (gc (tN 5) tgs_nil))) ?_
      refine xa 6 (ix (ix (nm 1) ev_int) (nm 4) (at_map (f := tM) hC)) ?_
      refine xa 7 (ix (ix (nm 1) ev_int) (nm 4) (at_rep hc)) ?_
      refine x_ifF (tc (nm 3) ev_str (lk (c_eqS _ _) (by decide +kernel))) ?_
      refine x_ifF (tc (nm 3) ev_str (lk (c_eqS _ _) (by decide +kernel))) ?_
      refine x_ifF (tc (nm 3) ev_str (lk (c_eqS _ _) (by decide +kernel))) ?_
      refine xa 6 (d := tM cd) (fl (il (nm 0) (nm 4) (at_map hC)) .marks) ?_
      refine xa 7 ev_int (x_nil (x_nil (x_nil ?_)))
      refine xa 8 (d := .tup (encT g t)) (Ev.to (ca C (ac (ca C (ac (nm 1) (ac ev_int (a1 (ca C (ac (ix (nm 1) ev_int) (ac (nm 4) (a1 (nm 6)))) ⟨g.cs.map tM, x, _, rfl, by rw [List.length_map]; exact hc, hq, rfl⟩)))) ⟨_, 7, _, rfl, by show 7 < 9; decide, by show 9 ≤ 1000; decide, rfl⟩) (ac ev_int (a1 (ca C (ac (ix (nm 1) ev_int) (ac (nm 4) (a1 (nm 7)))) ⟨List.replicate g.cs.length (.int 0), x, _, rfl, by rw [List.length_replicate]; exact hc, hw, rfl⟩)))) ⟨encT g t, 8, _, by rw [s7]; rfl, by show 8 < 9; decide, by show 9 ≤ 1000; decide, rfl⟩) (by rw [s8])) ?_
      refine x_ifT (tc (nm 3) ev_str (lk (c_eqS _ _) (by decide +kernel))) ?_
      refine x_ret (d := .tup (encT g (t.come x))) (Ev.to (ca C (ac (nm 8) (ac ev_int (a1 (pt (ix (nm 1) ev_int) (tp (a1 (nm 4))) ?_)))) ⟨encT g t, 5, _, rfl, by show 5 < 9; decide, by show 9 ≤ 1000; decide, rfl⟩) ?_) rfl
      · rw [nI_len]
        show _ + 1 ≤ _
        omega
      · show _ = Dt.tup (encT g (t.come x))
        unfold encT Tb.come tI
        rw [nI_app]
        rfl
    | leave x =>
      have e : x = c := hk
      subst e
      refine xt (nm 2) (gc (tN 3) (gc (tN 4) (gc (tN 5) tgs_nil))) ?_
      refine xa 6 (ix (ix (nm 1) ev_int) (nm 4) (at_map (f := tM) hC)) ?_
      refine xa 7 (ix (ix (nm 1) ev_int) (nm 4) (at_rep hc)) ?_
      refine x_ifF (tc (nm 3) ev_str (lk (c_eqS _ _) (by decide +kernel))) ?_
      refine x_ifF (tc (nm 3) ev_str (lk (c_eqS _ _) (by decide +kernel))) ?_
      refine x_ifF (tc (nm 3) ev_str (lk (c_eqS _ _) (by decide +kernel))) ?_
      refine xa 6 (d := tM cd) (fl (il (nm 0) (nm 4) (at_map hC)) .marks) ?_
      refine xa 7 ev_int (x_nil (x_nil (x_nil ?_)))
      refine xa 8 (d := .tup (encT g t)) (Ev.to (ca C (ac (ca C (ac (nm 1) (ac ev_int (a1 (ca C (ac (ix (nm 1) ev_int) (ac (nm 4) (a1 (nm 6)))) ⟨g.cs.map tM, x, _, rfl, by rw [List.length_map]; exact hc, hq, rfl⟩)))) ⟨_, 7, _, rfl, by show 7 < 9; decide, by show 9 ≤ 1000; decide, rfl⟩) (ac ev_int (a1 (ca C (ac (ix (nm 1) ev_int) (ac (nm 4) (a1 (nm 7)))) ⟨List.replicate g.cs.length (.int 0), x, _, rfl, by rw [List.length_replicate]; exact hc, hw, rfl⟩)))) ⟨encT g t, 8, _, by rw [s7]; rfl, by show 8 < 9; decide, by show 9 ≤ 1000; decide, rfl⟩) (by rw [s8])) ?_
      refine x_ifF0 (tc (nm 3) ev_str (lk (c_eqS _ _) (by decide +kernel))) ?_
      refine x_ifT (tc (nm 3) ev_str (lk (c_eqS _ _) (by decide +kernel))) ?_
      refine xa 9 (d := tI (t.lying.filter fun y => !decide (y = x))) (Ev.to (tun (lcf (A := Nat) (enc := fun n => .int (n : Nat)) (xs := t.lying) [("one", 11)] (fun y => !decide (y = x)) (fun n => .int (n : Nat)) (r2 := fun y => [.dat (.lst g.cd), .dat (.tup (encT g t)), .dat (hLeave x), .dat (.str "leave"), .dat (.int (x : Nat)), .dat (.int 0), .dat (tM cd), .dat (.int 0), .dat (.tup (encT g t)), .no, .no, .dat (.int (y : Nat))]) (ei_tup (ix (nm 1) ev_int)) (fun y _ => tN 11) (fun y _ => tc (nm 11) (nm 4) (c_natN y x)) (fun y _ _ => nm 11) (by omega))) rfl) ?_
      refine x_ret (d := .tup (encT g (t.leave x))) (Ev.to (ca C (ac (ca C (ac (nm 8) (ac ev_int (a1 (nm 9)))) ⟨encT g t, 5, _, rfl, by show 5 < 9; decide, by show 9 ≤ 1000; decide, rfl⟩) (ac ev_int (a1 (tu (soN (l := t.heap ++ [x]) (pt (ix (nm 1) ev_int) (tp (a1 (nm 4))) ?_) ?_))))) ⟨_, 6, _, rfl, by show 6 < 9; decide, by show 9 ≤ 1000; decide, rfl⟩) ?_) rfl
      · rw [nI_len]
        show _ + 1 ≤ _
        have := L.hh
        omega
      · rw [nI_app]
        rfl
      · rfl
end Ts

set_option Elab.async false
set_option linter.all false
set_option maxRecDepth 100000
set_option maxHeartbeats 4000000
/-! P4: happenings and looks. -/
namespace Ts
open PySem L2
structure To (g : Gd) (t : Tb) : Prop extends Lh g t, Dl g t where
  n2 : 2 ≤ g.n
theorem sc_happen : FnScope ["cards", "table", "happening"] ["cards", "table", "happening"] (defScope s_happen) := ⟨rfl, rfl, rfl, by decide +kernel, rfl, by decide +kernel, by decide +kernel⟩
def R_happen (ds : List Dt) (d : Dt) : Prop := ∃ (g : Gd) (t : Tb) (h : Hap), To g t ∧ h.ok g t ∧ ds = [.lst g.cd, .tup (encT g t), h.dt] ∧ d = .tup (encT g (h.go t))
theorem k_happen {M : Gm} (T : Tx M) (C1 : Keeps M 1 "touches" R_touches) (C2 : Keeps M 2 "to_player" R_to_player) (C3 : Keeps M 2 "to_card" R_to_card) {f : Addr} {fd : FuncData} (F : Fn M "happen" s_happen f fd) : Keeps M 3 "happen" R_happen := by
  refine keeps_of F.1 F.2 sc_happen (fun ds d h => ?_) (fun _ _ _ _ _ _ us hl => match us, hl with | [_, _, _], _ => rfl) (fun ds d h => ?_)
  · obtain ⟨g, t, h, _, _, rfl, _⟩ := h
    rfl
  · obtain ⟨g, t, h, L, ok, rfl, rfl⟩ := h
    refine x_ifF0 (EvT.to (et_not (tv (ca C1 (ac (nm 1) (a1 (nm 2))) ⟨g, t, h, ok, rfl, rfl⟩))) rfl) ?_
    cases h with
    | come c =>
      refine x_ifF0 (tc (ix (nm 2) ev_int) gK (k_in (by decide +kernel))) ?_
      exact x_ret (ca C3 (ac (nm 0) (ac (nm 1) (a1 (nm 2)))) ⟨g, t, .come c, c, rfl, L.toLh, ok, rfl, rfl⟩) rfl
    | leave c =>
      refine x_ifF0 (tc (ix (nm 2) ev_int) gK (k_in (by decide +kernel))) ?_
      exact x_ret (ca C3 (ac (nm 0) (ac (nm 1) (a1 (nm 2)))) ⟨g, t, .leave c, c, rfl, L.toLh, L.ly _ ok, rfl, rfl⟩) rfl
    | draw p =>
      refine x_ifT (tc (ix (nm 2) ev_int) gK (k_in (by decide +kernel))) ?_
      exact x_ret (ca C2 (ac (nm 1) (a1 (nm 2))) ⟨g, t, p, L.toDl, ok, rfl, rfl⟩) rfl
theorem sc_called : FnScope ["cards", "owners", "table", "happening", "seen", "sight", "found", "number", "keeper", "place", "rule"] ["cards", "owners", "table", "happening"] (defScope s_called) := ⟨rfl, rfl, rfl, by decide +kernel, rfl, by decide +kernel, by decide +kernel⟩
def R_called (ds : List Dt) (d : Dt) : Prop := ∃ (g : Gd) (t : Tb) (h : Hap), To g t ∧ h.ok g t ∧ Ly g (h.go t) ∧ ds = [.lst g.cd, .lst (nI g.ow), .tup (encT g t), h.dt] ∧ d = .lst []
theorem k_called {M : Gm} (T : Tx M) (C1 : Keeps M 1 "touches" R_touches) (C2 : Keeps M 3 "happen" R_happen) (C3 : Keeps M 3 "sight_of" R_sight_of) (C4 : Keeps M 1 "keeper_in" R_keeper_in) {f : Addr} {fd : FuncData} (F : Fn M "called" s_called f fd) : Keeps M 4 "called" R_called := by
  refine keeps_of F.1 F.2 sc_called (fun ds d h => ?_) (fun _ _ _ _ _ _ us hl => match us, hl with | [_, _, _, _], _ => rfl) (fun ds d h => ?_)
  · obtain ⟨g, t, h, _, _, _, rfl, _⟩ := h
    rfl
  · obtain ⟨g, t, h, L, ok, L2, rfl, rfl⟩ := h
    have tail : ∀ t' : Tb, Ly g t' → Exe M ["cards", "owners", "table", "happening", "seen", "sight", "found", "number", "keeper", "place", "rule"] (defScope s_called) 3 ((defBody s_called).drop 3) [.dat (.lst g.cd), .dat (.lst (nI g.ow)), .dat (.tup (encT g t)), .dat h.dt, .dat (.tup (encT g t')), .no, .no, .no, .no, .no, .no] (dnD (.lst [])) := by
      intro t' L'
      refine xa 5 (ca C3 (ac (nm 0) (ac (nm 1) (a1 (nm 4)))) ⟨g, t', L', rfl, rfl⟩) ?_
      refine xo 6 (lsN ea_nil) fun p => ?_
      refine fe (A := Nat) (enc := fun n => .int (n : Nat)) (xs := t'.lying) (fun i r' => ∃ s7 s8, r' = [.dat (.lst g.cd), .dat (.lst (nI g.ow)), .dat (.tup (encT g t)), .dat h.dt, .dat (.tup (encT g t')), .dat (.lst ((sight (g.rows t'.lying)).map Row.s)), .own p [], s7, s8, .no, .no]) (ei_tup (ix (nm 4) ev_int)) ⟨_, _, rfl⟩ (fun i w r' hw ⟨s7, s8, e⟩ => ?_) (fun r' ⟨s7, s8, e⟩ => ?_)
      · subst e
        refine ⟨_, [.dat (.lst g.cd), .dat (.lst (nI g.ow)), .dat (.tup (encT g t)), .dat h.dt, .dat (.tup (encT g t')), .dat (.lst ((sight (g.rows t'.lying)).map Row.s)), .own p [], .dat (.int (w : Nat)), s8, .no, .no], tN 7, ?_⟩
        refine xa 8 (ca C4 (ac (nm 5) (a1 (nm 7))) ⟨_, w, rfl, rfl⟩) ?_
        exact fe0 (EvI.to (enT (fl (il (nm 0) (nm 7) (at_map (Gd.get (L'.ly _ (List.mem_of_getElem? hw))))) .rules)) rfl) (x_nil ⟨_, _, rfl⟩)
      · subst e
        exact xz 6 (x_ret (nm 6) rfl)
    refine x_ifF0 (EvT.to (et_not (tv (ca C1 (ac (nm 2) (a1 (nm 3))) ⟨g, t, h, ok, rfl, rfl⟩))) rfl) ?_
    refine xa 4 (nm 2) ?_
    cases h with
    | come c =>
      refine x_ifT (tc (ix (nm 3) ev_int) ev_str (lk (c_neS _ _) (by decide +kernel))) ?_
      exact xa 4 (ca C2 (ac (nm 0) (ac (nm 2) (a1 (nm 3)))) ⟨g, t, .come c, L, ok, rfl, rfl⟩) (x_nil (tail _ L2))
    | leave c =>
      refine x_ifF0 (tc (ix (nm 3) ev_int) ev_str (lk (c_neS _ _) (by decide +kernel))) ?_
      exact tail _ L.toLy
    | draw c =>
      refine x_ifT (tc (ix (nm 3) ev_int) ev_str (lk (c_neS _ _) (by decide +kernel))) ?_
      exact xa 4 (ca C2 (ac (nm 0) (ac (nm 2) (a1 (nm 3)))) ⟨g, t, .draw c, L, ok, rfl, rfl⟩) (x_nil (tail _ L2))
theorem sc_put_and_done : FnScope ["cards", "owners", "table", "happening", "choices", "sight", "trail", "last", "calls"] ["cards", "owners", "table", "happening", "choices"] (defScope s_put_and_done) := ⟨rfl, rfl, rfl, by decide +kernel, rfl, by decide +kernel, by decide +kernel⟩
def R_put_and_done (ds : List Dt) (d : Dt) : Prop := ∃ (g : Gd) (t : Tb) (h : Hap) (ch : List Dt), To g t ∧ h.ok g t ∧ Ly g (h.go t) ∧ ds = [.lst g.cd, .lst (nI g.ow), .tup (encT g t), h.dt, .lst ch] ∧ d = .tup [.tup (encT g (h.go t)), line h.dt, .lst [], .lst ch]
theorem Hap.non (h : Hap) : h.dt.isNon = false := by cases h <;> rfl
theorem k_put_and_done {M : Gm} (T : Tx M) (C1 : Keeps M 3 "sight_of" R_sight_of) (C2 : Keeps M 3 "put_in_place" R_put_in_place) (C3 : Keeps M 1 "rows_of" R_rows_of) (C4 : Keeps M 4 "called" R_called) (C5 : Keeps M 3 "happen" R_happen) {f : Addr} {fd : FuncData} (F : Fn M "put_and_done" s_put_and_done f fd) : Keeps M 5 "put_and_done" R_put_and_done := by
  refine keeps_of F.1 F.2 sc_put_and_done (fun ds d h => ?_) (fun _ _ _ _ _ _ us hl => match us, hl with | [_, _, _, _, _], _ => rfl) (fun ds d h => ?_)
  · obtain ⟨g, t, h, ch, _, _, _, rfl, _⟩ := h
    rfl
  · obtain ⟨g, t, h, ch, L, ok, L2, rfl, rfl⟩ := h
    refine xa 5 (ca C1 (ac (nm 0) (ac (nm 1) (a1 (nm 2)))) ⟨g, t, L.toLy, rfl, rfl⟩) ?_
    refine xt (ca C2 (ac (ca C3 (ac (nm 0) (ac (nm 1) (a1 (nm 2)))) ⟨g, t, L.toLy, rfl, rfl⟩) (ac (nm 5) (ac (nm 3) (a1 (nm 4))))) ⟨_, _, _, _, h.non, rfl, rfl⟩) (gc (tN 6) (gc (tN 7) (gc (tN 4) tgs_nil))) ?_
    refine xa 8 (ls ea_nil) ?_
    refine x_ifT (tc (nm 7) ev_non (lk (.notN _) (by rw [h.non]; rfl))) ?_
    refine xa 8 (ca C4 (ac (nm 0) (ac (nm 1) (ac (nm 2) (a1 (nm 7))))) ⟨g, t, h, L, ok, L2, rfl, rfl⟩) ?_
    refine xa 2 (ca C5 (ac (nm 0) (ac (nm 2) (a1 (nm 7)))) ⟨g, t, h, L, ok, rfl, rfl⟩) (x_nil ?_)
    exact x_ret (tp (ac (nm 2) (ac (tp (ac (nm 3) (ac (nm 6) (a1 (nm 7))))) (ac (nm 8) (a1 (nm 4)))))) rfl
end Ts

set_option Elab.async false
set_option linter.all false
set_option maxRecDepth 100000
set_option maxHeartbeats 400000
/-! P5: looks. -/
namespace Ts
open PySem L2
theorem sc_going : FnScope ["table", "player"] ["table"] (defScope s_going) := ⟨rfl, rfl, rfl, by decide +kernel, rfl, by decide +kernel, by decide +kernel⟩
def R_going (ds : List Dt) (d : Dt) : Prop := ∃ (g : Gd) (t : Tb), g.n ≤ 4 ∧ ds = [.tup (encT g t)] ∧ d = .lst []
theorem len_rep (n : Nat) (d : Dt) : lenD (.tup (List.replicate n d)) = some n := congrArg some List.length_replicate
theorem filter_no {A : Type} (l : List A) : l.filter (fun _ => false) = [] := List.filter_eq_nil_iff.mpr fun _ _ h => nomatch h
theorem filter_all {A : Type} (l : List A) : l.filter (fun _ => true) = l := List.filter_eq_self.mpr fun _ _ => rfl
theorem k_going {M : Gm} (T : Tx M) {f : Addr} {fd : FuncData} (F : Fn M "going" s_going f fd) : Keeps M 1 "going" R_going := by
  refine keeps_of F.1 F.2 sc_going (fun ds d h => ?_) (fun _ _ _ _ _ _ us hl => match us, hl with | [_], _ => rfl) (fun ds d h => ?_)
  · obtain ⟨g, t, _, rfl, _⟩ := h
    rfl
  · obtain ⟨g, t, h4, rfl, rfl⟩ := h
    refine x_ret (d := .lst []) (Ev.to (EvN.ev (lcf (A := Nat) (enc := fun n => .int (n : Nat)) (xs := List.range g.n) [("player", 1)] (fun _ => false) (fun n => .int (n : Nat)) (r2 := fun y => [.dat (.tup (encT g t)), .dat (.int (y : Nat))]) (EvI.to (rg (hi := (g.n : Nat)) (le (d := .tup (List.replicate g.n (.int 20))) (ix (nm 0) ev_int) (len_rep _ _))) (rgD_nat g.n)) (fun y _ => tN 1) (fun y hy => ?_) (fun y _ h => nomatch h) ?_)) ?_) rfl
    · have hy := List.mem_range.mp hy
      exact EvT.to (et_w (ew_and (et_not (tv (ix (d := .bl false) (ix (nm 0) ev_int) (nm 1) (at_rep hy)))) (fun _ => ew_and1 (tc (ix (d := .int 20) (ix (nm 0) ev_int) (nm 1) (at_rep hy)) ev_int (.le 20 0))))) (by decide)
    · rw [List.length_range]
      omega
    · rw [filter_no]
      rfl
theorem sc_without_goers : FnScope ["cards", "owners", "table", "out", "points", "scores", "gone", "decks", "hands", "lying", "heap", "marks", "wounds", "left", "kept", "number", "player"] ["cards", "owners", "table"] (defScope s_without_goers) := ⟨rfl, rfl, rfl, by decide +kernel, rfl, by decide +kernel, by decide +kernel⟩
structure Sd (g : Gd) (t : Tb) : Prop extends To g t where
  hs : t.heap.Pairwise (· ≤ ·)
def R_without_goers (ds : List Dt) (d : Dt) : Prop := ∃ (g : Gd) (t : Tb), Sd g t ∧ ds = [.lst g.cd, .lst (nI g.ow), .tup (encT g t)] ∧ d = .tup (encT g t)
theorem map_const {A : Type} (l : List A) (d : Dt) : l.map (fun _ => d) = List.replicate l.length d := List.map_const' (l := l) (b := d)
theorem k_without_goers {M : Gm} (T : Tx M) (C : Keeps M 1 "going" R_going) {f : Addr} {fd : FuncData} (F : Fn M "without_goers" s_without_goers f fd) : Keeps M 2 "without_goers" R_without_goers := by
  refine keeps_of F.1 F.2 sc_without_goers (fun ds d h => ?_) (fun _ _ _ _ _ _ us hl => match us, hl with | [_, _, _], _ => rfl) (fun ds d h => ?_)
  · obtain ⟨g, t, _, rfl, _⟩ := h
    rfl
  · obtain ⟨g, t, L, rfl, rfl⟩ := h
    have hm := L.m
    have hn := L.n4
    have hll := L.ll
    refine xa 3 (ca C (a1 (nm 2)) ⟨g, t, L.n4, rfl, rfl⟩) ?_
    refine xt (nm 2) (gc (tN 4) (gc (tN 5) (gc (tN 6) (gc (tN 7) (gc (tN 8) (gc (tN 9) (gc (tN 10) (gc (tN 11) (gc (tN 12) tgs_nil))))))))) ?_
    refine Exe.at [.dat (.lst g.cd), .dat (.lst (nI g.ow)), .dat (.tup (encT g t)), .dat (.lst []), .dat (.tup (List.replicate g.n (.int 20))), .dat (.tup (List.replicate g.n (.int 0))), .dat (.tup (List.replicate g.n (.bl false))), .dat (.tup (t.decks.map tI)), .dat (.tup (t.hands.map tI)), .dat (tI t.lying), .dat (tI t.heap), .dat (.tup (g.cs.map tM)), .dat (.tup (List.replicate g.cs.length (.int 0))), .no, .no, .no, .no] ?_
    refine xc 13 (ds := []) (EvN.to (lcf (A := Nat) (enc := fun n => .int (n : Nat)) (xs := t.lying) [("number", 15)] (fun _ => false) (fun n => .int (n : Nat)) (r2 := fun y => [.dat (.lst g.cd), .dat (.lst (nI g.ow)), .dat (.tup (encT g t)), .dat (.lst []), .dat (.tup (List.replicate g.n (.int 20))), .dat (.tup (List.replicate g.n (.int 0))), .dat (.tup (List.replicate g.n (.bl false))), .dat (.tup (t.decks.map tI)), .dat (.tup (t.hands.map tI)), .dat (tI t.lying), .dat (tI t.heap), .dat (.tup (g.cs.map tM)), .dat (.tup (List.replicate g.cs.length (.int 0))), .no, .no, .dat (.int (y : Nat)), .no]) (ei_tup (nm 9)) (fun y _ => tN 15) (fun y hy => ?_) (fun y _ h => nomatch h) (by omega)) (by rw [filter_no]; rfl)) ?_
    · exact tc (il (nm 1) (nm 15) (at_nI (get_D (z := 0) (by rw [L.ol]; exact L.ly _ hy)))) (nm 3) (lk (.inIL _ []) (by simp))
    refine xa 12 (d := .tup (List.replicate g.cs.length (.int 0))) (Ev.to (tun (lc (A := Nat) (enc := fun n => .int (n : Nat)) (xs := List.range g.cs.length) [("number", 15)] (fun _ => .int (0 * 1)) (r2 := fun y => [.dat (.lst g.cd), .dat (.lst (nI g.ow)), .dat (.tup (encT g t)), .dat (.lst []), .dat (.tup (List.replicate g.n (.int 20))), .dat (.tup (List.replicate g.n (.int 0))), .dat (.tup (List.replicate g.n (.bl false))), .dat (.tup (t.decks.map tI)), .dat (.tup (t.hands.map tI)), .dat (tI t.lying), .dat (tI t.heap), .dat (.tup (g.cs.map tM)), .dat (.tup (List.replicate g.cs.length (.int 0))), .dat (.lst []), .no, .dat (.int (y : Nat)), .no]) (EvI.to (rg (hi := (g.cs.length : Nat)) (le (d := .tup (List.replicate g.cs.length (.int 0))) (nm 12) (len_rep _ _))) (rgD_nat g.cs.length)) (fun y _ => tN 15) (fun y hy => ?_) ?_)) ?_) ?_
    · have hy := List.mem_range.mp hy
      exact mu (ix (d := .int 0) (nm 12) (nm 15) (at_rep hy)) (inB (c := true) (cm (nm 15) (nm 13) (lk (.niIL _ []) (by simp))))
    · rw [List.length_range]
      omega
    · rw [map_const, List.length_range]
      rfl
    refine xo 14 (liN (nm 11)) fun p => ?_
    refine fe0 (ei_list (nm 13)) ?_
    refine xz 14 (Exe.at [.dat (.lst g.cd), .dat (.lst (nI g.ow)), .dat (.tup (encT g t)), .dat (.lst []), .dat (.tup (List.replicate g.n (.int 20))), .dat (.tup (List.replicate g.n (.int 0))), .dat (.tup (List.replicate g.n (.bl false))), .dat (.tup (t.decks.map tI)), .dat (.tup (t.hands.map tI)), .dat (tI t.lying), .dat (tI t.heap), .dat (.tup (g.cs.map tM)), .dat (.tup (List.replicate g.cs.length (.int 0))), .dat (.lst []), .dat (.lst (g.cs.map tM)), .no, .no] ?_)
    refine xa 6 (d := .tup (List.replicate g.n (.bl false))) (Ev.to (tun (lc (A := Nat) (enc := fun n => .int (n : Nat)) (xs := List.range g.n) [("player", 16)] (fun _ => .bl false) (r2 := fun y => [.dat (.lst g.cd), .dat (.lst (nI g.ow)), .dat (.tup (encT g t)), .dat (.lst []), .dat (.tup (List.replicate g.n (.int 20))), .dat (.tup (List.replicate g.n (.int 0))), .dat (.tup (List.replicate g.n (.bl false))), .dat (.tup (t.decks.map tI)), .dat (.tup (t.hands.map tI)), .dat (tI t.lying), .dat (tI t.heap), .dat (.tup (g.cs.map tM)), .dat (.tup (List.replicate g.cs.length (.int 0))), .dat (.lst []), .dat (.lst (g.cs.map tM)), .no, .dat (.int (y : Nat))]) (EvI.to (rg (hi := (g.n : Nat)) (le (d := .tup (List.replicate g.n (.bl false))) (nm 6) (len_rep _ _))) (rgD_nat g.n)) (fun y _ => tN 16) (fun y hy => ?_) ?_)) ?_) ?_
    · have hy := List.mem_range.mp hy
      exact Ev.to (ev_or (c' := false) (ix (d := .bl false) (nm 6) (nm 16) (at_rep hy)) (fun _ => ev_one (cm (nm 16) (nm 3) (lk (.inIL _ []) (by simp))))) rfl
    · rw [List.length_range]
      omega
    · rw [map_const, List.length_range]
    refine xa 9 (d := tI t.lying) (Ev.to (tun (lcf (A := Nat) (enc := fun n => .int (n : Nat)) (xs := t.lying) [("number", 15)] (fun _ => true) (fun n => .int (n : Nat)) (r2 := fun y => [.dat (.lst g.cd), .dat (.lst (nI g.ow)), .dat (.tup (encT g t)), .dat (.lst []), .dat (.tup (List.replicate g.n (.int 20))), .dat (.tup (List.replicate g.n (.int 0))), .dat (.tup (List.replicate g.n (.bl false))), .dat (.tup (t.decks.map tI)), .dat (.tup (t.hands.map tI)), .dat (tI t.lying), .dat (tI t.heap), .dat (.tup (g.cs.map tM)), .dat (.tup (List.replicate g.cs.length (.int 0))), .dat (.lst []), .dat (.lst (g.cs.map tM)), .dat (.int (y : Nat)), .no]) (ei_tup (nm 9)) (fun y _ => tN 15) (fun y hy => ?_) (fun y _ _ => nm 15) (by omega))) (by rw [filter_all]; rfl)) ?_
    · exact tc (nm 15) (nm 13) (lk (.niIL _ []) (by simp))
    refine x_ret (d := .tup (encT g t)) (Ev.to (tp (ac (nm 4) (ac (nm 5) (ac (nm 6) (ac (nm 7) (ac (nm 8) (ac (nm 9) (ac (tu (soN (l := t.heap) (EvN.ev (en_addL (li (nm 10)) (nm 13) ?_)) ?_)) (ac (tu (nm 14)) (a1 (nm 12))))))))))) ?_) rfl
    · rw [nI_len]
      have := L.hh
      show _ + 0 ≤ _
      omega
    · rw [List.append_nil]
      rfl
    · rw [sortN_id L.hs]
      rfl
theorem sc_worn_out : FnScope ["cards", "owners", "table", "wounds", "row"] ["cards", "owners", "table"] (defScope s_worn_out) := ⟨rfl, rfl, rfl, by decide +kernel, rfl, by decide +kernel, by decide +kernel⟩
def worn (g : Gd) (t : Tb) : List Nat := ((sight (g.rows t.lying)).filter fun w => decide ((w.card.force : Int) ≤ 0)).map Row.num
def R_worn_out (ds : List Dt) (d : Dt) : Prop := ∃ (g : Gd) (t : Tb), Ly g t ∧ ds = [.lst g.cd, .lst (nI g.ow), .tup (encT g t)] ∧ d = .lst (nI (worn g t))
theorem row_num {g : Gd} {l : List Nat} {w : Row} (h : w ∈ sight (g.rows l)) : w.num ∈ l := by
  have h := (sight_perm _).subset h
  unfold Gd.rows at h
  obtain ⟨p, hp, rfl⟩ := List.mem_map.mp h
  exact zip_mem hp
theorem k_worn_out {M : Gm} (T : Tx M) (C : Keeps M 3 "sight_of" R_sight_of) {f : Addr} {fd : FuncData} (F : Fn M "worn_out" s_worn_out f fd) : Keeps M 4 "worn_out" R_worn_out := by
  refine keeps_of F.1 F.2 sc_worn_out (fun ds d h => ?_) (fun _ _ _ _ _ _ us hl => match us, hl with | [_, _, _], _ => rfl) (fun ds d h => ?_)
  · obtain ⟨g, t, _, rfl, _⟩ := h
    rfl
  · obtain ⟨g, t, L, rfl, rfl⟩ := h
    refine xa 3 (ix (nm 2) ev_int) ?_
    refine x_ret (Ev.to (EvN.ev (lcf (A := Row) (enc := Row.s) (xs := sight (g.rows t.lying)) [("row", 4)] (fun w => decide ((w.card.force : Int) ≤ 0)) (fun w => .int (w.num : Nat)) (r2 := fun w => [.dat (.lst g.cd), .dat (.lst (nI g.ow)), .dat (.tup (encT g t)), .dat (.tup (List.replicate g.cs.length (.int 0))), .dat w.s]) (ei_list (ca C (ac (nm 0) (ac (nm 1) (a1 (nm 2)))) ⟨g, t, L, rfl, rfl⟩)) (fun w _ => tN 4) (fun w hw => ?_) (fun w _ _ => ix (nm 4) ev_int) ?_)) ?_) rfl
    · exact tc (ix (nm 3) (ix (nm 4) ev_int) (at_rep (L.ly _ (row_num hw)))) (ix (nm 4) ev_int) (.ge 0 _)
    · rw [(sight_perm _).length_eq, rows_len]
      have := L.ll
      omega
    · unfold worn nI
      rw [List.map_map]
      rfl
end Ts

set_option Elab.async false
set_option linter.all false
set_option maxRecDepth 100000
set_option maxHeartbeats 1000000
/-! P6: looked. -/
namespace Ts
open PySem L2
theorem sc_looked : FnScope ["cards", "owners", "table", "choices", "log", "calls", "before", "number", "line", "more", "one"] ["cards", "owners", "table", "choices"] (defScope s_looked) := ⟨rfl, rfl, rfl, by decide +kernel, rfl, by decide +kernel, by decide +kernel⟩
/-- what a look comes to -/
inductive Look (g : Gd) (t : Tb) : Tb → List Dt → Prop
  | rest : worn g t = [] → Look g t t []
  | out (c : Nat) : worn g t = [c] → c ∈ t.lying → Sd g (t.leave c) → worn g (t.leave c) = [] → Look g t (t.leave c) [line (hLeave c)]
def R_looked (ds : List Dt) (d : Dt) : Prop := ∃ (g : Gd) (t t' : Tb) (log ch : List Dt), Sd g t ∧ Look g t t' log ∧ ds = [.lst g.cd, .lst (nI g.ow), .tup (encT g t), .lst ch] ∧ d = .tup [.tup (encT g t'), .lst log, .lst [], .lst ch]
def whileBody : Stmt → List Stmt
  | .While _ b _ _ => b
  | _ => []
theorem pures_rep (n : Nat) {d : Dt} (h : d.pure = true) : pures (List.replicate n d) = true := by
  induction n with
  | zero => rfl
  | succ n ih =>
    rw [List.replicate_succ]
    show (d.pure && pures (List.replicate n d)) = true
    rw [ih, h]
    rfl
theorem nI_pure (l : List Nat) : (tI l).pure = true := pures_map (f := fun n : Nat => Dt.int n) (fun _ => rfl) l
theorem encT_pure (g : Gd) (t : Tb) : (Dt.tup (encT g t)).pure = true := by
  simp only [encT, Dt.pure, pures, pures_rep _ (d := .int 20) rfl, pures_rep _ (d := .int 0) rfl, pures_rep _ (d := .bl false) rfl, pures_map (f := tI) nI_pure, nI_pure, pures_map (f := tM) (fun c => pures_strs c.marks), Bool.and_self]
theorem deps_rep (n : Nat) {d : Dt} (h : d.dep = 0) : deps (List.replicate n d) = 0 := by
  induction n with
  | zero => rfl
  | succ n ih =>
    rw [List.replicate_succ]
    show max d.dep (deps (List.replicate n d)) = 0
    rw [ih, h]
    rfl
theorem nI_dep (l : List Nat) : (tI l).dep ≤ 1 := by
  show deps (nI l) + 1 ≤ 1
  have := deps_map (f := fun n : Nat => Dt.int n) (n := 0) (fun _ => Nat.le_refl _) l
  unfold nI
  omega
theorem tM_dep (c : Cd) : (tM c).dep ≤ 1 := by
  show deps (c.marks.map .str) + 1 ≤ 1
  rw [deps_strs]
  exact Nat.le_refl _
theorem encT_dep (g : Gd) (t : Tb) : (Dt.tup (encT g t)).dep ≤ 3 := by
  show deps (encT g t) + 1 ≤ 3
  have h1 := deps_map (f := tI) (n := 1) nI_dep t.decks
  have h2 := deps_map (f := tI) (n := 1) nI_dep t.hands
  have h3 := nI_dep t.lying
  have h4 := nI_dep t.heap
  have h5 := deps_map (f := tM) (n := 1) tM_dep g.cs
  have e1 : (Dt.tup (List.replicate g.n (.int 20))).dep = 1 := congrArg (· + 1) (deps_rep _ rfl)
  have e2 : (Dt.tup (List.replicate g.n (.int 0))).dep = 1 := congrArg (· + 1) (deps_rep _ rfl)
  have e3 : (Dt.tup (List.replicate g.n (.bl false))).dep = 1 := congrArg (· + 1) (deps_rep _ rfl)
  have e4 : (Dt.tup (List.replicate g.cs.length (.int 0))).dep = 1 := congrArg (· + 1) (deps_rep _ rfl)
  have e5 : (Dt.tup (t.decks.map tI)).dep ≤ 2 := Nat.succ_le_succ h1
  have e6 : (Dt.tup (t.hands.map tI)).dep ≤ 2 := Nat.succ_le_succ h2
  have e7 : (Dt.tup (g.cs.map tM)).dep ≤ 2 := Nat.succ_le_succ h5
  simp only [encT, deps]
  omega
theorem c_tabNon (g : Gd) (t : Tb) : CmpD .NotEq .non (.tup (encT g t)) true := lk (.ne _ _ rfl (encT_pure g t) (Nat.zero_le _)) rfl
theorem c_tabSame (g : Gd) (t : Tb) : CmpD .NotEq (.tup (encT g t)) (.tup (encT g t)) false := lk (.ne _ _ (encT_pure g t) (encT_pure g t) (Nat.le_trans (encT_dep g t) (by decide))) (by rw [eqD_refl]; rfl)
theorem c_tabNe (g : Gd) {t t' : Tb} (h : t.lying ≠ t'.lying) : CmpD .NotEq (.tup (encT g t)) (.tup (encT g t')) true := lk (.ne _ _ (encT_pure g t) (encT_pure g t') (Nat.le_trans (encT_dep g t) (by decide))) (by
  cases e : eqD (.tup (encT g t)) (.tup (encT g t')) with
  | false => rfl
  | true => exact absurd (eqD_tI (eqD_tup e (i := 5) rfl rfl)) h)
theorem leave_ne {t : Tb} {c : Nat} (h : c ∈ t.lying) : t.lying ≠ (t.leave c).lying := fun e => by
  have h2 : c ∈ (t.leave c).lying := e ▸ h
  have h3 := (List.mem_filter.mp h2).2
  simp at h3
theorem k_looked {M : Gm} (T : Tx M) (C1 : Keeps M 2 "without_goers" R_without_goers) (C2 : Keeps M 4 "worn_out" R_worn_out) (C3 : Keeps M 5 "put_and_done" R_put_and_done) {f : Addr} {fd : FuncData} (F : Fn M "looked" s_looked f fd) : Keeps M 6 "looked" R_looked := by
  refine keeps_of F.1 F.2 sc_looked (fun ds d h => ?_) (fun _ _ _ _ _ _ us hl => match us, hl with | [_, _, _, _], _ => rfl) (fun ds d h => ?_)
  · obtain ⟨g, t, t', log, ch, _, _, rfl, _⟩ := h
    rfl
  · obtain ⟨g, t0, tf, log, ch, L0, hL, rfl, rfl⟩ := h
    -- one turn of the loop
    have turn : ∀ (p : Addr) (D : Dn) (t : Tb) (lg : List Dt) (b : Dt) (s7 s8 s9 : Sl), Sd g t → lg.length ≤ 10 → (∀ t' l2 s7 s8 s9, Look g t t' l2 → D.nx [.dat (.lst g.cd), .dat (.lst (nI g.ow)), .dat (.tup (encT g t')), .dat (.lst ch), .own p (lg ++ l2), .dat (.lst []), .dat (.tup (encT g t)), s7, s8, s9, .no]) →
        (∃ t' l2, Look g t t' l2) →
        Exe M ["cards", "owners", "table", "choices", "log", "calls", "before", "number", "line", "more", "one"] (defScope s_looked) 5 (whileBody ((defBody s_looked).getD 3 (.Pass ⟨0, 0, 0, 0⟩))) [.dat (.lst g.cd), .dat (.lst (nI g.ow)), .dat (.tup (encT g t)), .dat (.lst ch), .own p lg, .dat (.lst []), .dat b, s7, s8, s9, .no] D := by
      intro p D t lg b s7 s8 s9 L hl q ⟨t', l2, hk⟩
      refine xa 6 (nm 2) ?_
      refine xa 2 (ca C1 (ac (nm 0) (ac (nm 1) (a1 (nm 2)))) ⟨g, t, L, rfl, rfl⟩) ?_
      refine Exe.at [.dat (.lst g.cd), .dat (.lst (nI g.ow)), .dat (.tup (encT g t)), .dat (.lst ch), .own p lg, .dat (.lst []), .dat (.tup (encT g t)), s7, s8, s9, .no] ?_
      cases hk with
      | rest hw =>
        refine fe0 (ei_list (ca C2 (ac (nm 0) (ac (nm 1) (a1 (nm 2)))) ⟨g, t, L.toLy, rfl, by rw [hw]; rfl⟩)) (x_nil ?_)
        have z := q t [] s7 s8 s9 (.rest hw)
        rw [List.append_nil] at z
        exact z
      | out c hw hc L2 hw2 =>
        refine fe (A := Nat) (enc := fun n => .int (n : Nat)) (xs := [c]) (fun i r' => (i = 0 ∧ r' = [.dat (.lst g.cd), .dat (.lst (nI g.ow)), .dat (.tup (encT g t)), .dat (.lst ch), .own p lg, .dat (.lst []), .dat (.tup (encT g t)), s7, s8, s9, .no]) ∨ (i = 1 ∧ ∃ s7 s8 s9, r' = [.dat (.lst g.cd), .dat (.lst (nI g.ow)), .dat (.tup (encT g (t.leave c))), .dat (.lst ch), .own p (lg ++ [line (hLeave c)]), .dat (.lst []), .dat (.tup (encT g t)), s7, s8, s9, .no])) (ei_list (ca C2 (ac (nm 0) (ac (nm 1) (a1 (nm 2)))) ⟨g, t, L.toLy, rfl, by rw [hw]; rfl⟩)) (.inl ⟨rfl, rfl⟩) (fun i w r' hw' e => ?_) (fun r' e => ?_)
        · rcases e with ⟨rfl, rfl⟩ | ⟨rfl, _⟩
          · have ew : c = w := Option.some.inj hw'
            subst ew
            refine ⟨_, [.dat (.lst g.cd), .dat (.lst (nI g.ow)), .dat (.tup (encT g t)), .dat (.lst ch), .own p lg, .dat (.lst []), .dat (.tup (encT g t)), .dat (.int (c : Nat)), s8, s9, .no], tN 7, ?_⟩
            refine x_ifT (tc (nm 7) (ix (nm 2) ev_int) (lk (c_in c t.lying) (decide_eq_true hc))) ?_
            refine xt (ca C3 (ac (nm 0) (ac (nm 1) (ac (nm 2) (ac (tp (ac ev_str (ac (nm 7) (a1 ev_int)))) (a1 (nm 3)))))) ⟨g, t, .leave c, ch, L.toTo, hc, L2.toLy, rfl, rfl⟩) (gc (tN 2) (gc (tN 8) (gc (tN 9) (gc (tN 3) tgs_nil)))) ?_
            refine xp (ds := lg) (q := p) 4 (nm 8) ?_ (by omega)
            refine xa 5 (EvN.ev (en_addL (nm 5) (nm 9) (by decide))) (x_nil (x_nil (.inr ⟨rfl, _, _, _, rfl⟩)))
          · cases hw'
        · rcases e with ⟨h, _⟩ | ⟨_, s7, s8, s9, rfl⟩
          · cases h
          · exact x_nil (q _ _ _ _ _ (.out c hw hc L2 hw2))
    refine xo 4 (lsN ea_nil) fun p => ?_
    refine xa 5 (ls ea_nil) (xa 6 ev_non ?_)
    refine x_while (fun m r' => (m = 2 ∧ r' = [.dat (.lst g.cd), .dat (.lst (nI g.ow)), .dat (.tup (encT g t0)), .dat (.lst ch), .own p [], .dat (.lst []), .dat .non, .no, .no, .no, .no]) ∨ (m = 1 ∧ t0.lying ≠ tf.lying ∧ Sd g tf ∧ worn g tf = [] ∧ ∃ s7 s8 s9, r' = [.dat (.lst g.cd), .dat (.lst (nI g.ow)), .dat (.tup (encT g tf)), .dat (.lst ch), .own p log, .dat (.lst []), .dat (.tup (encT g t0)), s7, s8, s9, .no]) ∨ (m = 0 ∧ ∃ s7 s8 s9, r' = [.dat (.lst g.cd), .dat (.lst (nI g.ow)), .dat (.tup (encT g tf)), .dat (.lst ch), .own p log, .dat (.lst []), .dat (.tup (encT g tf)), s7, s8, s9, .no])) 2 (.inl ⟨rfl, rfl⟩) (fun m r' e => ?_)
    have hlog : log.length ≤ 1 := by
      cases hL with
      | rest => exact Nat.zero_le _
      | out => exact Nat.le_refl _
    rcases e with ⟨rfl, rfl⟩ | ⟨rfl, hne, Lf, hwf, s7, s8, s9, rfl⟩ | ⟨rfl, s7, s8, s9, rfl⟩
    · refine ⟨true, tc (nm 6) (nm 2) (c_tabNon g t0), fun _ => ?_, fun z => nomatch z⟩
      refine turn p _ t0 [] .non .no .no .no L0 (by decide) (fun t' l2 s7 s8 s9 h2 => ?_) ⟨_, _, hL⟩
      have same : t' = tf ∧ l2 = log := by
        cases hL with
        | rest hw =>
          cases h2 with
          | rest _ => exact ⟨rfl, rfl⟩
          | out c hw2 => rw [hw] at hw2; cases hw2
        | out c hw =>
          cases h2 with
          | rest hw2 => rw [hw] at hw2; cases hw2
          | out c2 hw2 => rw [hw] at hw2; cases hw2; exact ⟨rfl, rfl⟩
      obtain ⟨rfl, rfl⟩ := same
      cases hL with
      | rest hw => exact ⟨0, by decide, .inr (.inr ⟨rfl, _, _, _, rfl⟩)⟩
      | out c hw hc L2 hw2 => exact ⟨1, by decide, .inr (.inl ⟨rfl, leave_ne hc, L2, hw2, _, _, _, rfl⟩)⟩
    · refine ⟨true, tc (nm 6) (nm 2) (c_tabNe g hne), fun _ => ?_, fun z => nomatch z⟩
      refine turn p _ tf log _ s7 s8 s9 Lf (by omega) (fun t' l2 s7 s8 s9 h2 => ?_) ⟨_, _, .rest hwf⟩
      cases h2 with
      | rest _ =>
        rw [List.append_nil]
        exact ⟨0, by decide, .inr (.inr ⟨rfl, _, _, _, rfl⟩)⟩
      | out c hw2 => rw [hwf] at hw2; cases hw2
    · refine ⟨false, tc (nm 6) (nm 2) (c_tabSame g tf), (fun z => nomatch z), fun _ => ?_⟩
      refine xz 4 ?_
      refine x_ret (d := .tup [.tup (encT g tf), .lst log, .lst [], .lst ch]) (tp (ac (nm 2) (ac (nm 4) (ac (Ev.to (EvN.ev (lcf (A := Dt) (enc := id) (xs := []) (is := [10]) (r2 := fun _ => []) [("one", 10)] (fun _ => true) id (ei_list (nm 5)) (fun _ h => nomatch h) (fun _ h => nomatch h) (fun _ h => nomatch h) (by decide))) rfl) (a1 (nm 3)))))) rfl
end Ts

set_option Elab.async false
set_option linter.all false
set_option maxRecDepth 100000
set_option maxHeartbeats 1000000
/-! P7: whose word, the pile, the end. -/
namespace Ts
open PySem L2
structure Nn (g : Gd) : Prop where
  n2 : 2 ≤ g.n
  n4 : g.n ≤ 4
theorem sc_next_player : FnScope ["table", "player", "many", "step"] ["table", "player"] (defScope s_next_player) := ⟨rfl, rfl, rfl, by decide +kernel, rfl, by decide +kernel, by decide +kernel⟩
def R_next_player (ds : List Dt) (d : Dt) : Prop := ∃ (g : Gd) (t : Tb) (p : Nat), Nn g ∧ ds = [.tup (encT g t), .int (p : Nat)] ∧ d = .int (((p + 1) % g.n : Nat) : Nat)
theorem k_next_player {M : Gm} (T : Tx M) {f : Addr} {fd : FuncData} (F : Fn M "next_player" s_next_player f fd) : Keeps M 1 "next_player" R_next_player := by
  refine keeps_of F.1 F.2 sc_next_player (fun ds d h => ?_) (fun _ _ _ _ _ _ us hl => match us, hl with | [_, _], _ => rfl) (fun ds d h => ?_)
  · obtain ⟨g, t, p, _, rfl, _⟩ := h
    rfl
  · obtain ⟨g, t, p, L, rfl, rfl⟩ := h
    have h2 := L.n2
    have h4 := L.n4
    refine xa 2 (le (n := g.n) (d := .tup (List.replicate g.n (.int 20))) (ix (nm 0) ev_int) (len_rep _ _)) ?_
    refine fe (A := Nat) (enc := fun i => .int (1 + (i : Nat))) (xs := List.range ((g.n : Int) - 1).toNat) (fun i r' => i = 0 ∧ r' = [.dat (.tup (encT g t)), .dat (.int (p : Nat)), .dat (.int (g.n : Nat)), .no]) (EvI.to (rg2 (lo := 1) (hi := (g.n : Nat)) ev_int (nm 2)) rfl) ⟨rfl, rfl⟩ (fun i w r' hw e => ?_) (fun r' e => ?_)
    · obtain ⟨rfl, rfl⟩ := e
      have ew : w = 0 := by
        rw [List.getElem?_range (by omega)] at hw
        exact (Option.some.inj hw).symm
      subst ew
      have e0 : ((p : Nat) : Int) + (1 + ((0 : Nat) : Int)) = ((p + 1 : Nat) : Int) := by omega
      have e1 : (((p : Nat) : Int) + (1 + ((0 : Nat) : Int))) % (g.n : Nat) = (((p + 1) % g.n : Nat) : Int) := by
        rw [e0]
        rfl
      refine ⟨_, [.dat (.tup (encT g t)), .dat (.int (p : Nat)), .dat (.int (g.n : Nat)), .dat (.int (1 + ((0 : Nat) : Int)))], tN 3, ?_⟩
      refine x_ifT (EvT.to (et_not (tv (ix (d := .bl false) (ix (nm 0) ev_int) (Ev.to (md (pl (nm 1) (nm 3)) (nm 2)) (by rw [e1])) (at_rep (Nat.mod_lt _ (by omega)))))) rfl) ?_
      exact x_ret (d := .int (((p + 1) % g.n : Nat) : Nat)) (Ev.to (md (pl (nm 1) (nm 3)) (nm 2)) (by rw [e1])) rfl
    · obtain ⟨e, _⟩ := e
      rw [List.length_range] at e
      omega
theorem sc_with_word : FnScope ["table", "player", "word"] ["table", "player", "word"] (defScope s_with_word) := ⟨rfl, rfl, rfl, by decide +kernel, rfl, by decide +kernel, by decide +kernel⟩
def R_with_word (ds : List Dt) (d : Dt) : Prop := ∃ (g : Gd) (t : Tb) (p : Nat) (w : Dt), p < g.n ∧ ds = [.tup (encT g t), .int (p : Nat), w] ∧ d = .int (p : Nat)
theorem k_with_word {M : Gm} (T : Tx M) {f : Addr} {fd : FuncData} (F : Fn M "with_word" s_with_word f fd) : Keeps M 1 "with_word" R_with_word := by
  refine keeps_of F.1 F.2 sc_with_word (fun ds d h => ?_) (fun _ _ _ _ _ _ us hl => match us, hl with | [_, _, _], _ => rfl) (fun ds d h => ?_)
  · obtain ⟨g, t, p, w, _, rfl, _⟩ := h
    rfl
  · obtain ⟨g, t, p, w, hp, rfl, rfl⟩ := h
    refine x_ifT (EvT.to (et_not (tv (ix (d := .bl false) (ix (nm 0) ev_int) (nm 1) (at_rep hp)))) rfl) ?_
    exact x_ret (nm 1) rfl
theorem sc_in_heap : FnScope ["table", "numbers"] ["table", "numbers"] (defScope s_in_heap) := ⟨rfl, rfl, rfl, by decide +kernel, rfl, by decide +kernel, by decide +kernel⟩
def R_in_heap (ds : List Dt) (d : Dt) : Prop := ∃ (g : Gd) (t : Tb), t.heap.Pairwise (· ≤ ·) ∧ t.heap.length ≤ 100 ∧ ds = [.tup (encT g t), .lst []] ∧ d = .tup (encT g t)
theorem cut6 (g : Gd) (t : Tb) : cutD (encT g t) none (some 6) = (encT g t).take 6 := cut_to _ 6
theorem cut7 (g : Gd) (t : Tb) : cutD (encT g t) (some 7) none = (encT g t).drop 7 := cut_from _ 7
theorem k_in_heap {M : Gm} (T : Tx M) {f : Addr} {fd : FuncData} (F : Fn M "in_heap" s_in_heap f fd) : Keeps M 1 "in_heap" R_in_heap := by
  refine keeps_of F.1 F.2 sc_in_heap (fun ds d h => ?_) (fun _ _ _ _ _ _ us hl => match us, hl with | [_, _], _ => rfl) (fun ds d h => ?_)
  · obtain ⟨g, t, _, _, rfl, _⟩ := h
    rfl
  · obtain ⟨g, t, hs, hh, rfl, rfl⟩ := h
    refine x_ret (d := .tup (encT g t)) (Ev.to (pt (pt (ev_sliceT (nm 0) eo_none (eo_some ev_int)) (tp (a1 (tu (soN (l := t.heap) (EvN.ev (en_addL (li (ix (nm 0) ev_int)) (nm 1) ?_)) ?_)))) ?_) (ev_sliceT (nm 0) (eo_some ev_int) eo_none) ?_) ?_) rfl
    · rw [nI_len]
      show _ + 0 ≤ _
      omega
    · rw [List.append_nil]
      rfl
    · rw [cut6]
      exact Nat.le_of_ble_eq_true rfl
    · rw [cut6, cut7]
      exact Nat.le_of_ble_eq_true rfl
    · rw [cut6, cut7, sortN_id hs]
      rfl
def encP (p : Nat × Nat) : Dt := .tup [.str "card", .int (p.1 : Nat), .int (p.2 : Nat), .int 0]
theorem sc_off_the_pile : FnScope ["table", "pile", "left", "dropped", "one"] ["table", "pile"] (defScope s_off_the_pile) := ⟨rfl, rfl, rfl, by decide +kernel, rfl, by decide +kernel, by decide +kernel⟩
def R_off_the_pile (ds : List Dt) (d : Dt) : Prop := ∃ (g : Gd) (t : Tb) (P : List (Nat × Nat)), t.heap.Pairwise (· ≤ ·) ∧ t.heap.length ≤ 100 ∧ (∀ q ∈ P, q.1 < g.n) ∧ P.length ≤ 100 ∧ ds = [.tup (encT g t), .lst (P.map encP)] ∧ d = .tup [.tup (encT g t), .lst (P.map encP)]
theorem k_off_the_pile {M : Gm} (T : Tx M) (C : Keeps M 1 "in_heap" R_in_heap) {f : Addr} {fd : FuncData} (F : Fn M "off_the_pile" s_off_the_pile f fd) : Keeps M 2 "off_the_pile" R_off_the_pile := by
  refine keeps_of F.1 F.2 sc_off_the_pile (fun ds d h => ?_) (fun _ _ _ _ _ _ us hl => match us, hl with | [_, _], _ => rfl) (fun ds d h => ?_)
  · obtain ⟨g, t, P, _, _, _, _, rfl, _⟩ := h
    rfl
  · obtain ⟨g, t, P, hs, hh, hP, hl, rfl, rfl⟩ := h
    refine xlf (A := Nat × Nat) (enc := encP) (xs := P) 2 [("one", 4)] (fun _ => true) encP (r2 := fun y => [.dat (.tup (encT g t)), .dat (.lst (P.map encP)), .no, .no, .dat (encP y)]) (ei_list (nm 1)) (fun y _ => tN 4) (fun y hy => ?_) (fun y _ _ => nm 4) (by omega) ?_
    · exact EvT.to (et_not (tv (ix (d := .bl false) (ix (nm 0) ev_int) (ix (nm 4) ev_int) (at_rep (hP _ hy))))) rfl
    rw [filter_all]
    refine xlf (A := Nat × Nat) (enc := encP) (xs := P) 3 [("one", 4)] (fun _ => false) encP (r2 := fun y => [.dat (.tup (encT g t)), .dat (.lst (P.map encP)), .dat (.lst (P.map encP)), .no, .dat (encP y)]) (ei_list (nm 1)) (fun y _ => tN 4) (fun y hy => ?_) (fun y _ h => nomatch h) (by omega) ?_
    · exact EvT.to (et_w (ew_and (c' := true) (tv (ix (d := .bl false) (ix (nm 0) ev_int) (ix (nm 4) ev_int) (at_rep (hP _ hy)))) (fun h => nomatch h))) rfl
    rw [filter_no]
    exact x_ret (tp (ac (ca C (ac (nm 0) (a1 (nm 3))) ⟨g, t, hs, hh, rfl, rfl⟩) (a1 (nm 2)))) rfl
theorem sc_piled : FnScope ["table", "pile", "turn", "calls", "choices", "many", "room", "step", "player", "own", "way", "one"] ["table", "pile", "turn", "calls", "choices"] (defScope s_piled) := ⟨rfl, rfl, rfl, by decide +kernel, rfl, by decide +kernel, by decide +kernel⟩
def R_piled (ds : List Dt) (d : Dt) : Prop := ∃ (g : Gd) (t : Tb) (P ch : Dt) (tn : Int), Nn g ∧ ds = [.tup (encT g t), P, .int tn, .lst [], ch] ∧ d = .tup [P, .bl true]
theorem k_piled {M : Gm} (T : Tx M) {f : Addr} {fd : FuncData} (F : Fn M "piled" s_piled f fd) : Keeps M 1 "piled" R_piled := by
  refine keeps_of F.1 F.2 sc_piled (fun ds d h => ?_) (fun _ _ _ _ _ _ us hl => match us, hl with | [_, _, _, _, _], _ => rfl) (fun ds d h => ?_)
  · obtain ⟨g, t, P, ch, tn, _, rfl, _⟩ := h
    rfl
  · obtain ⟨g, t, P, ch, tn, L, rfl, rfl⟩ := h
    have h2 := L.n2
    have h4 := L.n4
    refine xa 5 (le (n := g.n) (d := .tup (List.replicate g.n (.int 20))) (ix (nm 0) ev_int) (len_rep _ _)) ?_
    refine xa 6 ev_bl ?_
    refine fe (A := Nat) (enc := fun i => .int (i : Nat)) (xs := List.range g.n) (fun i r' => ∃ s7 s8 s9, r' = [.dat (.tup (encT g t)), .dat P, .dat (.int tn), .dat (.lst []), .dat ch, .dat (.int (g.n : Nat)), .dat (.bl true), s7, s8, s9, .no, .no]) (EvI.to (rg (hi := (g.n : Nat)) (nm 5)) (rgD_nat g.n)) ⟨_, _, _, rfl⟩ (fun i w r' hw ⟨s7, s8, s9, e⟩ => ?_) (fun r' ⟨s7, s8, s9, e⟩ => ?_)
    · subst e
      refine ⟨_, [.dat (.tup (encT g t)), .dat P, .dat (.int tn), .dat (.lst []), .dat ch, .dat (.int (g.n : Nat)), .dat (.bl true), .dat (.int (w : Nat)), s8, s9, .no, .no], tN 7, ?_⟩
      refine xa 8 (md (pl (nm 2) (nm 7)) (nm 5)) ?_
      refine xlf (A := Dt) (enc := id) (xs := []) (is := [11]) (r2 := fun _ => []) 9 [("one", 11)] (fun _ => true) id (ei_list (nm 3)) (fun _ h => nomatch h) (fun _ h => nomatch h) (fun _ h => nomatch h) (by decide) ?_
      refine Exe.at [.dat (.tup (encT g t)), .dat P, .dat (.int tn), .dat (.lst []), .dat ch, .dat (.int (g.n : Nat)), .dat (.bl true), .dat (.int (w : Nat)), .dat (.int ((tn + (w : Nat)) % (g.n : Nat))), .dat (.lst []), .no, .no] ?_
      refine x_while (fun m r' => r' = [.dat (.tup (encT g t)), .dat P, .dat (.int tn), .dat (.lst []), .dat ch, .dat (.int (g.n : Nat)), .dat (.bl true), .dat (.int (w : Nat)), .dat (.int ((tn + (w : Nat)) % (g.n : Nat))), .dat (.lst []), .no, .no]) 0 rfl (fun m r' e => ⟨false, e ▸ tc (nm 9) (ls ea_nil) ne_nil, (fun z => nomatch z), fun _ => e ▸ x_nil ⟨_, _, _, rfl⟩⟩)
    · subst e
      exact x_ret (tp (ac (nm 1) (a1 (nm 6)))) rfl
theorem sc_ended : FnScope ["table", "room", "left", "player"] ["table", "room"] (defScope s_ended) := ⟨rfl, rfl, rfl, by decide +kernel, rfl, by decide +kernel, by decide +kernel⟩
def R_ended (ds : List Dt) (d : Dt) : Prop := ∃ (g : Gd) (t : Tb), Nn g ∧ ds = [.tup (encT g t), .bl true] ∧ d = .non
theorem eq_cons {d : Dt} {ds : List Dt} (h : (Dt.lst (d :: ds)).pure = true) (h2 : (Dt.lst (d :: ds)).dep ≤ 64) : CmpD .Eq (.lst (d :: ds)) (.lst []) false := lk (.eq _ _ h rfl h2) (by
  unfold eqD Dt.py pys
  simp only [PyData.eqv, PyData.eqvAll])
theorem k_ended {M : Gm} (T : Tx M) {f : Addr} {fd : FuncData} (F : Fn M "ended" s_ended f fd) : Keeps M 1 "ended" R_ended := by
  refine keeps_of F.1 F.2 sc_ended (fun ds d h => ?_) (fun _ _ _ _ _ _ us hl => match us, hl with | [_, _], _ => rfl) (fun ds d h => ?_)
  · obtain ⟨g, t, _, rfl, _⟩ := h
    rfl
  · obtain ⟨g, t, L, rfl, rfl⟩ := h
    have h2 := L.n2
    have h4 := L.n4
    refine xlf (A := Nat) (enc := fun n => .int (n : Nat)) (xs := List.range g.n) 2 [("player", 3)] (fun _ => true) (fun n => .int (n : Nat)) (r2 := fun y => [.dat (.tup (encT g t)), .dat (.bl true), .no, .dat (.int (y : Nat))]) (EvI.to (rg (hi := (g.n : Nat)) (le (d := .tup (List.replicate g.n (.int 20))) (ix (nm 0) ev_int) (len_rep _ _))) (rgD_nat g.n)) (fun y _ => tN 3) (fun y hy => ?_) (fun y _ _ => nm 3) (by rw [List.length_range]; omega) ?_
    · exact EvT.to (et_not (tv (ix (d := .bl false) (ix (nm 0) ev_int) (nm 3) (at_rep (List.mem_range.mp hy))))) rfl
    rw [filter_all]
    refine x_ifF0 (tc (le (n := g.n) (d := .lst (nI (List.range g.n))) (nm 2) (by show some _ = _; rw [nI_len, List.length_range])) ev_int (lk (c_eqI _ _) (by rw [decide_eq_false_iff_not]; omega))) ?_
    have e : ∃ d ds, nI (List.range g.n) = d :: ds := by
      cases hn : g.n with
      | zero => omega
      | succ m => exact ⟨_, _, by rw [List.range_succ_eq_map]; rfl⟩
    obtain ⟨d, ds, e⟩ := e
    refine x_ifF0 (tc (d1 := .lst (nI (List.range g.n))) (nm 2) (ls ea_nil) (by
      have hp : (Dt.lst (nI (List.range g.n))).pure = true := nI_pure _
      have hd : (Dt.lst (nI (List.range g.n))).dep ≤ 64 := Nat.le_trans (nI_dep (List.range g.n)) (by decide)
      rw [e] at hp hd ⊢
      exact eq_cons hp hd)) ?_
    refine x_ifF0 (EvT.to (et_not (tv (nm 1))) rfl) ?_
    exact x_ret ev_non rfl
end Ts

set_option Elab.async false
set_option linter.all false
set_option maxRecDepth 100000
set_option maxHeartbeats 1000000
/-! P8: reading cards. -/
namespace Ts
open PySem L2
def letters : Str := "abcdefghijklmnopqrstuvwxyz"
def figures : Str := "0123456789"
def okName (w : Str) : Bool := (w.cps.toList.all fun c => decide (c ∈ letters.cps.toList)) && decide (0 < w.length) && decide (w.length < 9)
def dg (i : Nat) : Str := (["0", "1", "2", "3", "4"] : List Str).getD i "0"
theorem sc_is_name : FnScope ["word", "sign"] ["word"] (defScope s_is_name) := ⟨rfl, rfl, rfl, by decide +kernel, rfl, by decide +kernel, by decide +kernel⟩
def R_is_name (ds : List Dt) (d : Dt) : Prop := ∃ w : Str, okName w = true ∧ ds = [.str w] ∧ d = .bl true
theorem len_str {w : Str} (h : w.length < 1000) : lenD (.str w) = some w.length := if_pos (Nat.le_trans (Nat.le_of_lt h) (by decide))
theorem k_is_name {M : Gm} (T : Tx M) {f : Addr} {fd : FuncData} (F : Fn M "is_name" s_is_name f fd) : Keeps M 1 "is_name" R_is_name := by
  refine keeps_of F.1 F.2 sc_is_name (fun ds d h => ?_) (fun _ _ _ _ _ _ us hl => match us, hl with | [_], _ => rfl) (fun ds d h => ?_)
  · obtain ⟨w, _, rfl, _⟩ := h
    rfl
  · obtain ⟨w, ok, rfl, rfl⟩ := h
    unfold okName at ok
    rw [Bool.and_eq_true, Bool.and_eq_true, List.all_eq_true, decide_eq_true_eq, decide_eq_true_eq] at ok
    obtain ⟨⟨h1, h2⟩, h3⟩ := ok
    refine fe (A := Nat) (enc := fun c => .str ⟨#[c]⟩) (xs := signs w) (fun i r' => ∃ s1, r' = [.dat (.str w), s1]) (ei_str (nm 0)) ⟨_, rfl⟩ (fun i c r' hw ⟨s1, e⟩ => ?_) (fun r' ⟨s1, e⟩ => ?_)
    · subst e
      refine ⟨_, [.dat (.str w), .dat (.str ⟨#[c]⟩)], tN 1, ?_⟩
      have hc := h1 c (List.mem_of_getElem? hw)
      exact x_ifF0 (tc (nm 1) (gS T.s1) (lk (.niC c letters) (by rw [hc]; rfl))) (x_nil ⟨_, rfl⟩)
    · subst e
      have h3' : w.length < 1000 := by omega
      refine x_ret (d := .bl true) (Ev.to (ev_chain ev_int (le (nm 0) (len_str h3')) ev_int rfl (.lt _ _) (.lt _ _)) ?_) rfl
      rw [decide_eq_true (by omega), decide_eq_true (by omega)]
      rfl
theorem sc_is_number : FnScope ["word", "sign"] ["word"] (defScope s_is_number) := ⟨rfl, rfl, rfl, by decide +kernel, rfl, by decide +kernel, by decide +kernel⟩
def R_is_number (ds : List Dt) (d : Dt) : Prop := ∃ i : Nat, i < 5 ∧ ds = [.str (dg i)] ∧ d = .bl true
theorem k_is_number {M : Gm} (T : Tx M) {f : Addr} {fd : FuncData} (F : Fn M "is_number" s_is_number f fd) : Keeps M 1 "is_number" R_is_number := by
  refine keeps_of F.1 F.2 sc_is_number (fun ds d h => ?_) (fun _ _ _ _ _ _ us hl => match us, hl with | [_], _ => rfl) (fun ds d h => ?_)
  · obtain ⟨w, _, rfl, _⟩ := h
    rfl
  · obtain ⟨j, hj, rfl, rfl⟩ := h
    have h1 : ∀ c ∈ signs (dg j), decide (c ∈ figures.cps.toList) = true := by
      have z : ∀ j < 5, ∀ c ∈ signs (dg j), decide (c ∈ figures.cps.toList) = true := by decide +kernel
      exact z j hj
    have h2 : (dg j).length = 1 := by
      have z : ∀ j < 5, (dg j).length = 1 := by decide +kernel
      exact z j hj
    have h4 : ∃ ch : Nat, atI (dg j).cps.toList 0 = some ch ∧ decide ((⟨#[ch]⟩ : Str) = "0") = decide (dg j = "0") := by
      have z : ∀ j < 5, (atI (dg j).cps.toList 0).map (fun ch => decide ((⟨#[ch]⟩ : Str) = "0")) = some (decide (dg j = "0")) := by decide +kernel
      have y := z j hj
      cases e : atI (dg j).cps.toList 0 with
      | none => rw [e] at y; cases y
      | some ch =>
        rw [e] at y
        exact ⟨ch, rfl, Option.some.inj y⟩
    obtain ⟨ch, h4, h5⟩ := h4
    generalize dg j = w at *
    refine fe (A := Nat) (enc := fun c => .str ⟨#[c]⟩) (xs := signs w) (fun i r' => ∃ s1, r' = [.dat (.str w), s1]) (ei_str (nm 0)) ⟨_, rfl⟩ (fun i c r' hw ⟨s1, e⟩ => ?_) (fun r' ⟨s1, e⟩ => ?_)
    · subst e
      refine ⟨_, [.dat (.str w), .dat (.str ⟨#[c]⟩)], tN 1, ?_⟩
      have hc := h1 c (List.mem_of_getElem? hw)
      exact x_ifF0 (tc (nm 1) (gS T.s2) (lk (.niC c figures) (by rw [hc]; rfl))) (x_nil ⟨_, rfl⟩)
    · subst e
      have h3' : w.length < 1000 := by omega
      have hz : w.length ≤ 1000000 := by omega
      refine x_ret (d := .bl true) (Ev.to (ev_and (c' := true) (ev_chain ev_int (le (nm 0) (len_str h3')) ev_int rfl (.lt _ _) (.lt _ _)) (fun _ => ev_one (Ev.to (ev_or (c' := !decide (w = "0")) (cm (nm 0) ev_str (c_eqS _ _)) (fun _ => ev_one (cm (is (nm 0) ev_int hz h4) ev_str (lk (c_neS _ _) (by rw [h5]))))) ?_))) ?_) rfl
      · cases decide (w = "0") <;> rfl
      · rw [h2]
        rfl
theorem sc_word_at : FnScope ["words", "at"] ["words", "at"] (defScope s_word_at) := ⟨rfl, rfl, rfl, by decide +kernel, rfl, by decide +kernel, by decide +kernel⟩
def R_word_at (ds : List Dt) (d : Dt) : Prop := ∃ (ws : List Str) (n : Nat) (w : Str), ws[n]? = some w ∧ ds = [.lst (ws.map .str), .int (n : Nat)] ∧ d = .str w
theorem k_word_at {M : Gm} (T : Tx M) {f : Addr} {fd : FuncData} (F : Fn M "word_at" s_word_at f fd) : Keeps M 1 "word_at" R_word_at := by
  refine keeps_of F.1 F.2 sc_word_at (fun ds d h => ?_) (fun _ _ _ _ _ _ us hl => match us, hl with | [_, _], _ => rfl) (fun ds d h => ?_)
  · obtain ⟨ws, n, w, _, rfl, _⟩ := h
    rfl
  · obtain ⟨ws, n, w, hw, rfl, rfl⟩ := h
    have hl : n < ws.length := (List.getElem?_eq_some_iff.mp hw).1
    refine x_ifF0 (tc (nm 1) (le (nm 0)) (lk (.ge _ _) ?_)) (x_ret (il (nm 0) (nm 1) (at_map hw)) rfl)
    rw [List.length_map, decide_eq_false_iff_not]
    omega
theorem sc_name_at : FnScope ["words", "at"] ["words", "at"] (defScope s_name_at) := ⟨rfl, rfl, rfl, by decide +kernel, rfl, by decide +kernel, by decide +kernel⟩
def R_name_at (ds : List Dt) (d : Dt) : Prop := ∃ (ws : List Str) (n : Nat) (w : Str), ws[n]? = some w ∧ okName w = true ∧ ds = [.lst (ws.map .str), .int (n : Nat)] ∧ d = .str w
theorem k_name_at {M : Gm} (T : Tx M) (C1 : Keeps M 1 "is_name" R_is_name) (C2 : Keeps M 1 "word_at" R_word_at) {f : Addr} {fd : FuncData} (F : Fn M "name_at" s_name_at f fd) : Keeps M 2 "name_at" R_name_at := by
  refine keeps_of F.1 F.2 sc_name_at (fun ds d h => ?_) (fun _ _ _ _ _ _ us hl => match us, hl with | [_, _], _ => rfl) (fun ds d h => ?_)
  · obtain ⟨ws, n, w, _, _, rfl, _⟩ := h
    rfl
  · obtain ⟨ws, n, w, hw, ok, rfl, rfl⟩ := h
    refine x_ifF0 (EvT.to (et_not (tv (ca C1 (a1 (ca C2 (ac (nm 0) (a1 (nm 1))) ⟨ws, n, w, hw, rfl, rfl⟩)) ⟨w, ok, rfl, rfl⟩))) rfl) ?_
    exact x_ret (il (nm 0) (nm 1) (at_map hw)) rfl
theorem sc_number_at : FnScope ["words", "at"] ["words", "at"] (defScope s_number_at) := ⟨rfl, rfl, rfl, by decide +kernel, rfl, by decide +kernel, by decide +kernel⟩
def R_number_at (ds : List Dt) (d : Dt) : Prop := ∃ (ws : List Str) (n i : Nat), ws[n]? = some (dg i) ∧ i < 5 ∧ ds = [.lst (ws.map .str), .int (n : Nat)] ∧ d = .int (i : Nat)
theorem dg_int {i : Nat} (h : i < 5) : PySem.intText? (dg i) = some (i : Int) ∧ (dg i).length ≤ 640 := by
  have z : ∀ i < 5, PySem.intText? (dg i) = some (i : Int) ∧ (dg i).length ≤ 640 := by decide +kernel
  exact z i h
theorem k_number_at {M : Gm} (T : Tx M) (C1 : Keeps M 1 "is_number" R_is_number) (C2 : Keeps M 1 "word_at" R_word_at) {f : Addr} {fd : FuncData} (F : Fn M "number_at" s_number_at f fd) : Keeps M 2 "number_at" R_number_at := by
  refine keeps_of F.1 F.2 sc_number_at (fun ds d h => ?_) (fun _ _ _ _ _ _ us hl => match us, hl with | [_, _], _ => rfl) (fun ds d h => ?_)
  · obtain ⟨ws, n, w, _, _, rfl, _⟩ := h
    rfl
  · obtain ⟨ws, n, i, hw, hi, rfl, rfl⟩ := h
    refine x_ifF0 (EvT.to (et_not (tv (ca C1 (a1 (ca C2 (ac (nm 0) (a1 (nm 1))) ⟨ws, n, _, hw, rfl, rfl⟩)) ⟨i, hi, rfl, rfl⟩))) rfl) ?_
    exact x_ret (inS (il (nm 0) (nm 1) (at_map hw)) (dg_int hi).1 (dg_int hi).2) rfl
/-! ### marks, cards -/
def mkT (i : Nat) : Str := (["-", "a", "bb", "a,bb"] : List Str).getD i "-"
def mkL (i : Nat) : List Str := ([[], ["a"], ["bb"], ["a", "bb"]] : List (List Str)).getD i []
def nmT (i : Nat) : Str := (["ox", "wolf", "a", "bb", "oxen", "kestrels"] : List Str).getD i "ox"
theorem sc_read_marks : FnScope ["text", "names", "at"] ["text"] (defScope s_read_marks) := ⟨rfl, rfl, rfl, by decide +kernel, rfl, by decide +kernel, by decide +kernel⟩
def R_read_marks (ds : List Dt) (d : Dt) : Prop := ∃ i : Nat, i < 4 ∧ ds = [.str (mkT i)] ∧ d = .tup ((mkL i).map .str)
theorem k_read_marks {M : Gm} (T : Tx M) (C : Keeps M 1 "is_name" R_is_name) {f : Addr} {fd : FuncData} (F : Fn M "read_marks" s_read_marks f fd) : Keeps M 2 "read_marks" R_read_marks := by
  refine keeps_of F.1 F.2 sc_read_marks (fun ds d h => ?_) (fun _ _ _ _ _ _ us hl => match us, hl with | [_], _ => rfl) (fun ds d h => ?_)
  · obtain ⟨i, _, rfl, _⟩ := h
    rfl
  · obtain ⟨i, hi, rfl, rfl⟩ := h
    have z1 : ∀ i < 4, decide (mkT i = "-") = decide (i = 0) := by decide +kernel
    have z2 : ∀ i < 4, i ≠ 0 → Txt.split (mkT i) "," = mkL i ∧ (mkT i).length < 100 ∧ (mkL i).length ≤ 2 ∧ (∀ w ∈ mkL i, okName w = true) ∧ ((mkL i).getD 0 "").cps.toList < ((mkL i).getD 1 "z").cps.toList := by decide +kernel
    refine x_if (tc (nm 0) ev_str (c_eqS _ _)) (fun h => ?_) (fun h => ?_)
    · rw [z1 i hi, decide_eq_true_eq] at h
      subst h
      exact x_ret (tp ea_nil) rfl
    · rw [z1 i hi, decide_eq_false_iff_not] at h
      obtain ⟨e1, e2, e3, e4, e5⟩ := z2 i hi h
      refine x_nil (xa 1 (Ev.to (ev_split (nm 0) ev_str rfl (Nat.le_trans (show (mkT i).length + 2 ≤ 1000 by omega) (by decide)) (by intros; rfl) (by intros; rfl) rfl) (by rw [e1])) ?_)
      refine fe (A := Nat) (enc := fun n => .int (n : Nat)) (xs := List.range (mkL i).length) (fun i_1 r' => ∃ s2, r' = [.dat (.str (mkT i)), .dat (.lst ((mkL i).map .str)), s2]) (EvI.to (rg (hi := ((mkL i).length : Nat)) (le (nm 1) (by show some _ = _; rw [List.length_map]))) (rgD_nat _)) ⟨_, rfl⟩ (fun q w r' hw ⟨s2, e⟩ => ?_) (fun r' ⟨s2, e⟩ => ?_)
      · subst e
        have hq : w < (mkL i).length := by
          have := List.mem_of_getElem? hw
          exact List.mem_range.mp this
        have eq := List.getElem?_eq_getElem hq
        refine ⟨_, [.dat (.str (mkT i)), .dat (.lst ((mkL i).map .str)), .dat (.int (w : Nat))], tN 2, ?_⟩
        refine x_ifF0 (EvT.to (et_w (ew_or (c' := false) (et_not (tv (ca C (a1 (il (nm 1) (nm 2) (at_map eq))) ⟨_, e4 _ (List.getElem_mem hq), rfl, rfl⟩))) (fun _ => ew_or1 (EvT.to (et_w (ew_and (c' := false) (tc (nm 2) ev_int (.gt _ _)) (fun h0 => ew_and1 ?_))) (by rw [Bool.and_false]))))) rfl) (x_nil ⟨_, rfl⟩)
        rw [decide_eq_true_eq] at h0
        have ew : w = 1 := by omega
        subst ew
        have q0 : 0 < (mkL i).length := by omega
        have eq0 := List.getElem?_eq_getElem q0
        refine tc (il (nm 1) (nm 2) (at_map eq)) (il (nm 1) (Ev.to (mi (nm 2) ev_int) (d' := .int ((0 : Nat) : Int)) rfl) (at_map eq0)) (lk (.les _ _) ?_)
        have g0 : (mkL i).getD 0 "" = (mkL i)[0] := by simp [List.getD_eq_getElem?_getD, eq0]
        have g1 : (mkL i).getD 1 "z" = (mkL i)[1] := by simp [List.getD_eq_getElem?_getD, eq]
        rw [g0, g1] at e5
        rw [decide_eq_true e5]
        rfl
      · subst e
        exact x_ret (tu (nm 1)) rfl
/-! ### a card's text, by a number below 360 -/
def cdW (k : Nat) : List Str := [nmT (k % 6), dg (k / 6 % 3), dg (k / 18 % 5), mkT (k / 90 % 4)]
def cdT (k : Nat) : Str := Txt.join " " (cdW k)
def cdC (k : Nat) : Cd := ⟨nmT (k % 6), k / 6 % 3, k / 18 % 5, mkL (k / 90 % 4)⟩
theorem nm_ok {i : Nat} (h : i < 6) : okName (nmT i) = true := by
  have z : ∀ i < 6, okName (nmT i) = true := by decide +kernel
  exact z i h
theorem cd_text {k : Nat} (h : k < 360) : Txt.split (cdT k) " / " = [cdT k] ∧ Txt.split (cdT k) " " = cdW k ∧ (cdT k).length < 100 := by
  have z : ∀ k < 360, Txt.split (cdT k) " / " = [cdT k] ∧ Txt.split (cdT k) " " = cdW k ∧ (cdT k).length < 100 := by decide +kernel
  exact z k h
theorem sc_read_card : FnScope ["text", "parts", "words", "rules", "part"] ["text"] (defScope s_read_card) := ⟨rfl, rfl, rfl, by decide +kernel, rfl, by decide +kernel, by decide +kernel⟩
def R_read_card (ds : List Dt) (d : Dt) : Prop := ∃ k : Nat, k < 360 ∧ ds = [.str (cdT k)] ∧ d = (cdC k).dt
theorem k_read_card {M : Gm} (T : Tx M) (C1 : Keeps M 2 "name_at" R_name_at) (C2 : Keeps M 2 "number_at" R_number_at) (C3 : Keeps M 2 "read_marks" R_read_marks) (ck : C8.Mak M.P M.w M.K M.mg M.base 1 "Card" M.C (spCard M) []) {f : Addr} {fd : FuncData} (F : Fn M "read_card" s_read_card f fd) : Keeps M 3 "read_card" R_read_card := by
  refine keeps_of F.1 F.2 sc_read_card (fun ds d h => ?_) (fun _ _ _ _ _ _ us hl => match us, hl with | [_], _ => rfl) (fun ds d h => ?_)
  · obtain ⟨k, _, rfl, _⟩ := h
    rfl
  · obtain ⟨k, hk, rfl, rfl⟩ := h
    obtain ⟨e1, e2, e3⟩ := cd_text hk
    have e4 : (cdT k).length + 2 ≤ sizeLine := Nat.le_trans (show (cdT k).length + 2 ≤ 1000 by omega) (by decide)
    refine x_ifF0 (EvT.to (et_not (tv (ev_isStr T.toBlt rfl rfl (nm 0) (by intros; rfl)))) rfl) ?_
    refine xa 1 (d := .lst ([cdT k].map .str)) (Ev.to (ev_split (nm 0) ev_str rfl e4 (by intros; rfl) (by intros; rfl) rfl) (by rw [e1])) ?_
    refine xa 2 (d := .lst ((cdW k).map .str)) (Ev.to (ev_split (il (d := .str (cdT k)) (nm 1) ev_int rfl) ev_str rfl e4 (by intros; rfl) (by intros; rfl) rfl) (by rw [e2])) ?_
    refine x_ifF0 (EvT.to (et_w (ew_or (c' := false) (tc (le (n := 4) (nm 2) rfl) ev_int (c_neI _ _)) (fun _ => ew_or1 (tc (le (n := 1) (nm 1) rfl) (pl ev_int (gI T.i1)) (lk (.gt _ _) (by decide)))))) (by decide)) ?_
    refine xa 3 (d := .tup []) (Ev.to (tun (lc (A := Dt) (enc := id) (xs := []) (is := [4]) (r2 := fun _ => []) [("part", 4)] id (EvI.to (ei_list (ev_sliceL (nm 1) (eo_some ev_int) eo_none)) rfl) (fun _ h => nomatch h) (fun _ h => nomatch h) (by decide))) rfl) ?_
    exact x_ret (ev_card ck (by decide) rfl (ac (ca C1 (ac (nm 2) (a1 ev_int)) ⟨cdW k, 0, _, rfl, nm_ok (Nat.mod_lt _ (by decide)), rfl, rfl⟩) (ac (ca C2 (ac (nm 2) (a1 ev_int)) ⟨cdW k, 1, _, rfl, by omega, rfl, rfl⟩) (ac (ca C2 (ac (nm 2) (a1 ev_int)) ⟨cdW k, 2, _, rfl, by omega, rfl, rfl⟩) (ac (ca C3 (a1 (il (d := .str (mkT (k / 90 % 4))) (nm 2) ev_int rfl)) ⟨_, Nat.mod_lt _ (by decide), rfl, rfl⟩) (a1 (nm 3)))))) (by intros; rfl) (by intros; rfl)) rfl
theorem EvW.to {M : Gm} {N : List Str} {sc : Scope} {k : Nat} {e : Expr} {r : List Sl} {b b' : Bool} (h : EvW M N sc k e r b) (q : b = b') : EvW M N sc k e r b' := q ▸ h
theorem sc_look_at : FnScope ["many", "cards", "holds", "card", "rule"] ["many", "cards"] (defScope s_look_at) := ⟨rfl, rfl, rfl, by decide +kernel, rfl, by decide +kernel, by decide +kernel⟩
def R_look_at (ds : List Dt) (d : Dt) : Prop := ∃ (n : Nat) (cs : List Cd), 2 ≤ n ∧ n ≤ 4 ∧ cs.length ≤ 16 ∧ ds = [.int (n : Nat), .lst (cs.map Cd.dt)] ∧ d = .non
theorem k_look_at {M : Gm} (T : Tx M) {f : Addr} {fd : FuncData} (F : Fn M "look_at" s_look_at f fd) : Keeps M 1 "look_at" R_look_at := by
  refine keeps_of F.1 F.2 sc_look_at (fun ds d h => ?_) (fun _ _ _ _ _ _ us hl => match us, hl with | [_, _], _ => rfl) (fun ds d h => ?_)
  · obtain ⟨n, cs, _, _, _, rfl, _⟩ := h
    rfl
  · obtain ⟨n, cs, h2, h4, hm, rfl, rfl⟩ := h
    refine xa 2 ev_int ?_
    refine fe (A := Cd) (enc := Cd.dt) (xs := cs) (fun i r' => ∃ s3, r' = [.dat (.int (n : Nat)), .dat (.lst (cs.map Cd.dt)), .dat (.int 0), s3, .no]) (ei_list (nm 1)) ⟨_, rfl⟩ (fun q w r' hw ⟨s3, e⟩ => ?_) (fun r' ⟨s3, e⟩ => ?_)
    · subst e
      refine ⟨_, [.dat (.int (n : Nat)), .dat (.lst (cs.map Cd.dt)), .dat (.int 0), .dat w.dt, .no], tN 3, ?_⟩
      refine xa 2 (d := .int 0) (Ev.to (pl (nm 2) (le (n := 0) (EvN.ev (lcf (A := Dt) (enc := id) (xs := []) (is := [4]) (r2 := fun _ => []) [("rule", 4)] (fun _ => true) id (EvI.to (ei_tup (fl (nm 3) .rules)) rfl) (fun _ h => nomatch h) (fun _ h => nomatch h) (fun _ h => nomatch h) (by decide))) rfl)) rfl) (x_nil ⟨_, rfl⟩)
    · subst e
      refine x_ifF0 (EvT.to (et_w (ew_or (c' := false) (et_not (et_chain ev_int (nm 0) ev_int rfl (.le _ _) (.le _ _))) (fun _ => EvW.to (ew_or (c' := false) (tc (le (n := cs.length) (d := .lst (cs.map Cd.dt)) (nm 1) (by show some _ = _; rw [List.length_map])) (gI T.i2) (.gt _ _)) (fun _ => ew_or1 (tc (nm 2) (gI T.i3) (lk (.gt _ _) (by decide))))) ?_))) ?_) (x_nil rfl)
      · rw [decide_eq_false (by omega)]
        rfl
      · rw [decide_eq_true (by omega), decide_eq_true (by omega)]
        rfl
end Ts

set_option Elab.async false
set_option linter.all false
set_option maxRecDepth 100000
set_option maxHeartbeats 1000000
/-! S2: the decks, what a fight begins with, as plain data. -/
namespace Ts
open PySem L2
abbrev Dk := List (List Nat)
structure DkOk (dk : Dk) : Prop where
  n2 : 2 ≤ dk.length
  n4 : dk.length ≤ 4
  l4 : ∀ l ∈ dk, l.length ≤ 4
  k : ∀ l ∈ dk, ∀ k ∈ l, k < 360
def dkT (l : List Nat) : Dt := .lst (l.map fun k => .str (cdT k))
def dksT (dk : Dk) : Dt := .lst (dk.map dkT)
def fstN (dk : Dk) (i : Nat) : Nat := (dk.take i).flatten.length
def ownN (dk : Dk) (i : Nat) : List Nat := (List.range (dk.getD i []).length).map fun j => fstN dk i + j
def owP (dk : Dk) (i : Nat) : List Nat := (List.range i).flatMap fun j => List.replicate (dk.getD j []).length j
def lfP (dk : Dk) (i : Nat) : List (List Nat) := (List.range i).map fun j => (ownN dk j).drop 3
def hdP (dk : Dk) (i : Nat) : List (List Nat) := (List.range i).map fun j => (ownN dk j).take 3
def gdOf (dk : Dk) : Gd := ⟨dk.length, dk.flatten.map cdC, owP dk dk.length⟩
def tbOf (dk : Dk) : Tb := ⟨lfP dk dk.length, hdP dk dk.length, [], []⟩
theorem num_map {A : Type} (f : A → Dt) : ∀ (xs : List A) (n : Nat), numD n (xs.map f) = (xs.zipIdx n).map fun p => .tup [.int (p.2 : Nat), f p.1]
  | [], _ => rfl
  | x :: l, n => by
    show numD n (f x :: l.map f) = _
    unfold numD
    rw [num_map f l (n + 1), List.zipIdx_cons, List.map_cons]
theorem zip_get {A : Type} {xs : List A} {i : Nat} {p : A × Nat} (h : xs.zipIdx[i]? = some p) : xs[i]? = some p.1 ∧ p.2 = i := by
  rw [List.getElem?_zipIdx] at h
  cases e : xs[i]? with
  | none => rw [e] at h; cases h
  | some a =>
    rw [e] at h
    have h := Option.some.inj h
    subst h
    exact ⟨rfl, by simp⟩
theorem getD_of {A : Type} {l : List A} {i : Nat} {a z : A} (h : l[i]? = some a) : l.getD i z = a := by
  rw [List.getD_eq_getElem?_getD, h]
  rfl
theorem take_succ' {A : Type} {l : List A} {i : Nat} {a : A} (h : l[i]? = some a) : l.take (i + 1) = l.take i ++ [a] := by
  rw [List.take_succ, h]
  rfl
theorem flat_succ {dk : Dk} {i : Nat} {l : List Nat} (h : dk[i]? = some l) : (dk.take (i + 1)).flatten = (dk.take i).flatten ++ l := by
  rw [take_succ' h, List.flatten_append]
  simp
theorem fst_succ {dk : Dk} {i : Nat} {l : List Nat} (h : dk[i]? = some l) : fstN dk (i + 1) = fstN dk i + l.length := by
  unfold fstN
  rw [flat_succ h, List.length_append]
theorem ow_succ {dk : Dk} {i : Nat} {l : List Nat} (h : dk[i]? = some l) : owP dk (i + 1) = owP dk i ++ List.replicate l.length i := by
  unfold owP
  rw [List.range_succ, List.flatMap_append, List.flatMap_singleton, getD_of h]
theorem lf_succ (dk : Dk) (i : Nat) : lfP dk (i + 1) = lfP dk i ++ [(ownN dk i).drop 3] := by
  unfold lfP
  rw [List.range_succ, List.map_append]
  rfl
theorem hd_succ (dk : Dk) (i : Nat) : hdP dk (i + 1) = hdP dk i ++ [(ownN dk i).take 3] := by
  unfold hdP
  rw [List.range_succ, List.map_append]
  rfl
theorem own_rg {dk : Dk} {i : Nat} {l : List Nat} (h : dk[i]? = some l) : rgD (fstN dk i : Nat) ((fstN dk i + l.length : Nat) : Nat) = nI (ownN dk i) := by
  unfold rgD ownN nI
  rw [getD_of h, List.map_map, show (((fstN dk i + l.length : Nat) : Int) - (fstN dk i : Nat)).toNat = l.length by omega]
  refine List.map_congr_left fun j _ => ?_
  show Dt.int _ = Dt.int _
  congr 1
theorem flat_le : ∀ {dk : Dk}, (∀ l ∈ dk, l.length ≤ 4) → dk.flatten.length ≤ 4 * dk.length
  | [], _ => Nat.le_refl _
  | l :: dk, h => by
    have h1 := h l (List.mem_cons_self ..)
    have h2 := flat_le (dk := dk) fun m hm => h m (List.mem_cons_of_mem _ hm)
    rw [List.flatten_cons, List.length_append, List.length_cons]
    omega
theorem DkOk.m {dk : Dk} (h : DkOk dk) : dk.flatten.length ≤ 16 := by
  have := flat_le (dk := dk) h.l4
  have := h.n4
  omega
theorem DkOk.fst {dk : Dk} (h : DkOk dk) (i : Nat) : fstN dk i ≤ 16 := by
  have h1 := flat_le (dk := dk.take i) fun l hl => h.l4 l (List.mem_of_mem_take hl)
  have h2 : (dk.take i).length ≤ dk.length := by
    rw [List.length_take]
    omega
  have := h.n4
  unfold fstN
  omega
theorem ow_len {dk : Dk} : ∀ {i : Nat}, i ≤ dk.length → (owP dk i).length = fstN dk i
  | 0, _ => rfl
  | i + 1, h => by
    have e : dk[i]? = some dk[i] := List.getElem?_eq_getElem (by omega)
    rw [ow_succ e, fst_succ e, List.length_append, List.length_replicate, ow_len (by omega)]
theorem fst_all (dk : Dk) : fstN dk dk.length = dk.flatten.length := by
  unfold fstN
  rw [List.take_length]
end Ts

set_option Elab.async false
set_option linter.all false
set_option maxRecDepth 100000
set_option maxHeartbeats 1000000
/-! P9: begun. -/
namespace Ts
open PySem L2
theorem xe {M : Gm} {N : List Str} {sc : Scope} {k : Nat} {e : Expr} {r : List Sl} {d : Dt} {pos : Pos} {sts : List Stmt} {D : Dn} (h : Ev M N sc k e r d) (q : Exe M N sc k sts r D) (hs : ∀ env, swapsWith e none pos.line env = pure false := by intros; rfl) : Exe M N sc k (.Expr e pos :: sts) r D := x_cons fun X hX H0 G0 G H sg F =>
  ⟨_, ps_expr pe_w (hs _), h X hX H0 G0 G H sg F _ fun v G1 H1 g1 r1 => ⟨G1, r, F.grow g1, q⟩⟩
abbrev N_begun : List Str := ["decks", "cards", "owners", "left", "hands", "player", "deck", "first", "text", "own", "many", "marks", "head", "card"]
theorem sc_begun : FnScope N_begun ["decks"] (defScope s_begun) := ⟨rfl, rfl, rfl, by decide +kernel, rfl, by decide +kernel, by decide +kernel⟩
def R_begun (ds : List Dt) (d : Dt) : Prop := ∃ dk : Dk, DkOk dk ∧ ds = [dksT dk] ∧ d = .tup [.lst (gdOf dk).cd, .lst (nI (gdOf dk).ow), .tup (encT (gdOf dk) (tbOf dk))]
def cds (l : List Nat) : List Dt := l.map fun k => (cdC k).dt
theorem cds_app (a b : List Nat) : cds (a ++ b) = cds a ++ cds b := List.map_append
theorem cds_cd (dk : Dk) : (gdOf dk).cd = cds dk.flatten := List.map_map
theorem k_begun {M : Gm} (T : Tx M) (C1 : Keeps M 3 "read_card" R_read_card) (C2 : Keeps M 1 "look_at" R_look_at) {f : Addr} {fd : FuncData} (F : Fn M "begun" s_begun f fd) : Keeps M 4 "begun" R_begun := by
  refine keeps_of F.1 F.2 sc_begun (fun ds d h => ?_) (fun _ _ _ _ _ _ us hl => match us, hl with | [_], _ => rfl) (fun ds d h => ?_)
  · obtain ⟨dk, _, rfl, _⟩ := h
    rfl
  · obtain ⟨dk, L, rfl, rfl⟩ := h
    have h2 := L.n2
    have h4 := L.n4
    have hm := L.m
    refine xo 1 (lsN ea_nil) fun p1 => xo 2 (lsN ea_nil) fun p2 => xo 3 (lsN ea_nil) fun p3 => xo 4 (lsN ea_nil) fun p4 => ?_
    refine fe (A := List Nat × Nat) (enc := fun p => .tup [.int (p.2 : Nat), dkT p.1]) (xs := dk.zipIdx) (fun i r' => ∃ s5 s6 s7 s8 s9, r' = [.dat (dksT dk), .own p1 (cds (dk.take i).flatten), .own p2 (nI (owP dk i)), .own p3 ((lfP dk i).map tI), .own p4 ((hdP dk i).map tI), s5, s6, s7, s8, s9, .no, .no, .no, .no]) (EvI.to (enL (nm 0)) (num_map dkT dk 0)) ⟨_, _, _, _, _, rfl⟩ (fun i w r' hw ⟨s5, s6, s7, s8, s9, e⟩ => ?_) (fun r' ⟨s5, s6, s7, s8, s9, e⟩ => ?_)
    · subst e
      obtain ⟨l, i2⟩ := w
      obtain ⟨hl, e2⟩ := zip_get hw
      have e2 : i2 = i := e2
      have hl : dk[i]? = some l := hl
      subst e2
      have hil : i2 < dk.length := (List.getElem?_eq_some_iff.mp hl).1
      have hl4 := L.l4 l (List.mem_of_getElem? hl)
      have hf := L.fst i2
      refine ⟨_, [.dat (dksT dk), .own p1 (cds (dk.take i2).flatten), .own p2 (nI (owP dk i2)), .own p3 ((lfP dk i2).map tI), .own p4 ((hdP dk i2).map tI), .dat (.int (i2 : Nat)), .dat (dkT l), s7, s8, s9, .no, .no, .no, .no], gt (gc (tN 5) (gc (tN 6) tgs_nil)), ?_⟩
      refine xa 7 (d := .int (fstN dk i2 : Nat)) (Ev.to (lem (ow 1)) ?_) ?_
      · unfold cds fstN
        rw [List.length_map]
      refine fe (A := Nat) (enc := fun k => .str (cdT k)) (xs := l) (fun j r' => ∃ s8, r' = [.dat (dksT dk), .own p1 (cds ((dk.take i2).flatten ++ l.take j)), .own p2 (nI (owP dk i2 ++ List.replicate j i2)), .own p3 ((lfP dk i2).map tI), .own p4 ((hdP dk i2).map tI), .dat (.int (i2 : Nat)), .dat (dkT l), .dat (.int (fstN dk i2 : Nat)), s8, s9, .no, .no, .no, .no]) (ei_list (nm 6)) ⟨s8, ?_⟩ (fun j k r' hk ⟨s8, e⟩ => ?_) (fun r' ⟨s8, e⟩ => ?_)
      · rw [List.take_zero, List.append_nil, List.replicate_zero, List.append_nil]
        rfl
      · subst e
        have hj : j < l.length := (List.getElem?_eq_some_iff.mp hk).1
        have hk3 := L.k l (List.mem_of_getElem? hl) k (List.mem_of_getElem? hk)
        refine ⟨_, [.dat (dksT dk), .own p1 (cds ((dk.take i2).flatten ++ l.take j)), .own p2 (nI (owP dk i2 ++ List.replicate j i2)), .own p3 ((lfP dk i2).map tI), .own p4 ((hdP dk i2).map tI), .dat (.int (i2 : Nat)), .dat (dkT l), .dat (.int (fstN dk i2 : Nat)), .dat (.str (cdT k)), s9, .no, .no, .no, .no], tN 8, ?_⟩
        refine xp (ds := cds ((dk.take i2).flatten ++ l.take j)) (q := p1) 1 (ca C1 (a1 (nm 8)) ⟨k, hk3, rfl, rfl⟩) ?_ ?_
        · refine xp (ds := nI (owP dk i2 ++ List.replicate j i2)) (q := p2) 2 (nm 5) (x_nil ⟨.dat (.str (cdT k)), ?_⟩) ?_
          · have ea : cds ((dk.take i2).flatten ++ l.take j) ++ [(cdC k).dt] = cds ((dk.take i2).flatten ++ l.take (j + 1)) := by
              rw [take_succ' hk, ← List.append_assoc, cds_app (_ ++ _)]
              rfl
            have eb : nI (owP dk i2 ++ List.replicate j i2) ++ [.int (i2 : Nat)] = nI (owP dk i2 ++ List.replicate (j + 1) i2) := by
              rw [List.replicate_succ', ← List.append_assoc, nI_app (_ ++ _)]
              rfl
            rw [← ea, ← eb]
            rfl
          · rw [nI_len, List.length_append, List.length_replicate, ow_len (by omega)]
            omega
        · unfold cds
          rw [List.length_map, List.length_append, List.length_take]
          have : (dk.take i2).flatten.length = fstN dk i2 := rfl
          omega
      · subst e
        have e1 : cds ((dk.take i2).flatten ++ l.take l.length) = cds (dk.take (i2 + 1)).flatten := by rw [List.take_length, flat_succ hl]
        have e3 : (cds ((dk.take i2).flatten ++ l.take l.length)).length = fstN dk i2 + l.length := by
          rw [List.take_length]
          unfold cds fstN
          rw [List.length_map, List.length_append]
        refine xa 9 (d := tI (ownN dk i2)) (Ev.to (ev_tupRg2 (lo := (fstN dk i2 : Nat)) (hi := ((fstN dk i2 + l.length : Nat) : Nat)) T.toBlt rfl rfl (nm 7) (Ev.to (lem (ow 1)) (by rw [e3])) (.of_le (by omega) (by omega) (by omega) (by omega)) (by intros; rfl) (by intros; rfl)) ?_) ?_
        · rw [own_rg hl]
          rfl
        refine xp (ds := (hdP dk i2).map tI) (q := p4) 4 (d := tI ((ownN dk i2).take 3)) (Ev.to (ev_sliceT (nm 9) eo_none (eo_some (gI T.i5))) ?_) ?_ ?_
        · rw [show cutD (nI (ownN dk i2)) none (some 3) = (nI (ownN dk i2)).take 3 from cut_to _ 3]
          unfold nI tI nI
          rw [List.map_take]
        · refine xp (ds := (lfP dk i2).map tI) (q := p3) 3 (d := tI ((ownN dk i2).drop 3)) (Ev.to (ev_sliceT (nm 9) (eo_some (gI T.i5)) eo_none) ?_) (x_nil ⟨.dat (.int (i2 : Nat)), .dat (dkT l), .dat (.int (fstN dk i2 : Nat)), s8, .dat (tI (ownN dk i2)), ?_⟩) ?_
          · rw [show cutD (nI (ownN dk i2)) (some 3) none = (nI (ownN dk i2)).drop 3 from cut_from _ 3]
            unfold nI tI nI
            rw [List.map_drop]
          · rw [lf_succ, hd_succ, ow_succ hl, ← e1, List.map_append, List.map_append]
            rfl
          · unfold lfP
            rw [List.length_map, List.length_map, List.length_range]
            omega
        · unfold hdP
          rw [List.length_map, List.length_map, List.length_range]
          omega
    · subst e
      rw [List.length_zipIdx, List.take_length]
      refine xa 10 (le (n := dk.length) (d := dksT dk) (nm 0) (by show some _ = _; rw [List.length_map])) ?_
      refine xz 1 (xz 2 ?_)
      refine Exe.at [.dat (dksT dk), .dat (.lst (cds dk.flatten)), .dat (.lst (nI (owP dk dk.length))), .own p3 ((lfP dk dk.length).map tI), .own p4 ((hdP dk dk.length).map tI), s5, s6, s7, s8, s9, .dat (.int (dk.length : Nat)), .no, .no, .no] ?_
      refine xe (ca C2 (ac (nm 10) (a1 (nm 1))) ⟨dk.length, dk.flatten.map cdC, h2, h4, by rw [List.length_map]; exact hm, by unfold cds; rw [List.map_map]; rfl, rfl⟩) ?_
      refine xa 11 (d := .tup (dk.flatten.map fun k => tM (cdC k))) (Ev.to (tun (lc (A := Nat) (enc := fun k => (cdC k).dt) (xs := dk.flatten) [("card", 13)] (fun k => tM (cdC k)) (r2 := fun k => [.dat (dksT dk), .dat (.lst (cds dk.flatten)), .dat (.lst (nI (owP dk dk.length))), .own p3 ((lfP dk dk.length).map tI), .own p4 ((hdP dk dk.length).map tI), s5, s6, s7, s8, s9, .dat (.int (dk.length : Nat)), .no, .no, .dat (cdC k).dt]) (ei_list (nm 1)) (fun k _ => tN 13) (fun k _ => fl (nm 13) .marks) (by omega))) rfl) ?_
      refine xa 12 (d := .tup [.tup (List.replicate dk.length (.int 20)), .tup (List.replicate dk.length (.int 0)), .tup (List.replicate dk.length (.bl false)), .tup ((lfP dk dk.length).map tI), .tup ((hdP dk dk.length).map tI)]) (tp (ac (ev_rep (n := (dk.length : Nat)) (tp (a1 (gI T.i4))) (nm 10) (by omega) (by omega)) (ac (ev_rep (n := (dk.length : Nat)) (tp (a1 ev_int)) (nm 10) (by omega) (by omega)) (ac (ev_rep (n := (dk.length : Nat)) (tp (a1 ev_bl)) (nm 10) (by omega) (by omega)) (ac (tum (ow 3)) (a1 (tum (ow 4)))))))) ?_
      refine x_ret (Ev.to (tp (ac (nm 1) (ac (nm 2) (a1 (pt (nm 12) (tp (ac (tp ea_nil) (ac (tp ea_nil) (ac (nm 11) (a1 (ev_rep (n := (dk.flatten.length : Nat)) (tp (a1 ev_int)) (le (n := dk.flatten.length) (d := .lst (cds dk.flatten)) (nm 1) (by show some _ = _; unfold cds; rw [List.length_map])) (by omega) (by omega)))))))))))) ?_) rfl
      rw [cds_cd]
      unfold encT gdOf tbOf
      rw [List.map_map, List.length_map]
      rfl
end Ts

set_option Elab.async false
set_option linter.all false
set_option maxRecDepth 100000
set_option maxHeartbeats 1000000
/-! S3: the stand, and what the deeds do to it; a fight's fields changed. -/
namespace Ts
open PySem L2
structure Sn where
  t : Tb
  pile : List (Nat × Nat)
  turn : Nat
  word : Nat
  passes : Nat
  coins : List Int
def cI (l : List Int) : Dt := .tup (l.map .int)
def encL (g : Gd) (s : Sn) : List Dt := [.tup (encT g s.t), .tup (s.pile.map encP), .int (s.turn : Nat), .int (s.word : Nat), .int (s.passes : Nat), cI s.coins, .non]
def encS (g : Gd) (s : Sn) : Dt := .tup (encL g s)
/-- a fight that stands so -/
structure Stands (g : Gd) (s : Sn) (F : FigD) : Prop where
  kn : F.known = g.cd
  ke : F.keepers = nI g.ow
  st : ∃ ss, F.stands = ss ++ [encS g s]
  sl : F.stands.length ≤ 1000
  pl : F.past.length ≤ 1000
def FigD.on (F : FigD) (deed stand : Dt) (log : List Dt) : FigD := ⟨F.known, F.keepers, F.stands ++ [stand], F.past ++ [deed], log⟩
theorem last_at {ss : List Dt} {d : Dt} : atI (ss ++ [d]) (-1) = some d := by
  unfold atI ixN
  rw [List.length_append, List.length_singleton]
  rw [if_neg (by omega), if_pos (by omega)]
  show (ss ++ [d])[((-1 : Int) + ((ss.length + 1 : Nat) : Int)).toNat]? = some d
  rw [show ((-1 : Int) + ((ss.length + 1 : Nat) : Int)).toNat = ss.length by omega, List.getElem?_append_right (Nat.le_refl _), Nat.sub_self]
  rfl
section
variable {M : Gm} {N : List Str} {sc : Scope} {k : Nat} {e : Expr} {es : List Expr} {r : List Sl} {d : Dt} {ds : List Dt} {pos p : Pos} {x m f : Str} {sts : List Stmt} {D : Dn}
theorem ff (i : Nat) {W : FigV} {F : FigD} {p2 : Pos} (hf : FigFld f F d) (h : r[i]? = some (.fig W F) := by rfl) (T : Tx M := by assumption) (hN : N[i]? = some x := by rfl) (hv : Vis sc x := by first | exact .inl rfl | exact .inr (.inl rfl) | exact .inr (.inr rfl)) (hd : (x == ("__debug__" : Str)) = false := by decide) (hcd : (x == ("__classdict__" : Str)) = false := by decide) : Ev M N sc k (.Attribute (.Name x p2) f pos) r d := ev_ffld T.toClsF h hN hv hd hcd hf
theorem fm (i : Nat) {W : FigV} {F : FigD} {p2 : Pos} (hf : FigLst f F ds) (h : r[i]? = some (.fig W F) := by rfl) (T : Tx M := by assumption) (hN : N[i]? = some x := by rfl) (hv : Vis sc x := by first | exact .inl rfl | exact .inr (.inl rfl) | exact .inr (.inr rfl)) (hd : (x == ("__debug__" : Str)) = false := by decide) (hcd : (x == ("__classdict__" : Str)) = false := by decide) : EvM M N sc k (.Attribute (.Name x p2) f pos) r ds := em_ffld T.toClsF h hN hv hd hcd hf
theorem mt0 (i : Nat) {j : Nat} {W : FigV} {F : FigD} {p2 apos : Pos} {R : FigD → List Dt → Dt → Prop} {pl : Env → Sem Bool} (c : KeepsP M j m R) (hR : R F [] d) (hk : j ≤ k := by decide) (h : r[i]? = some (.fig W F) := by rfl) (hN : N[i]? = some x := by rfl) (hv : Vis sc x := by first | exact .inl rfl | exact .inr (.inl rfl) | exact .inr (.inr rfl)) (hd : (x == ("__debug__" : Str)) = false := by decide) (hcd : (x == ("__classdict__" : Str)) = false := by decide)
    (hm : m ∉ ([("known" : Str), "keepers", "stands", "past", "last_log"] : List Str) := by decide +kernel)
    (ht : ∀ env, eval (.Call (.Attribute (.Name x p2) m apos) [] [] pos) env = (do
      let ov ← eval (.Name x p2) env
      standAt apos.atName
      let (f, first) ← holding [ov] (getMethod ov m (pl env))
      callWith pos f first (backTo pos (starEach [] env)) (backToKw pos (keywordEach [] env))) := by intros; rfl) : Ev M N sc k (.Call (.Attribute (.Name x p2) m apos) [] [] pos) r d := ev_meth0 c hk h hN hv hd hcd hm hR ht
theorem mt (i : Nat) {j : Nat} {W : FigV} {F : FigD} {p2 apos : Pos} {R : FigD → List Dt → Dt → Prop} {pl : Env → Sem Bool} (c : KeepsP M j m R) (ha : EvA M N sc k (e :: es) r ds) (hR : R F ds d) (hk : j ≤ k := by decide) (h : r[i]? = some (.fig W F) := by rfl) (hN : N[i]? = some x := by rfl) (hv : Vis sc x := by first | exact .inl rfl | exact .inr (.inl rfl) | exact .inr (.inr rfl)) (hd : (x == ("__debug__" : Str)) = false := by decide) (hcd : (x == ("__classdict__" : Str)) = false := by decide)
    (hm : m ∉ ([("known" : Str), "keepers", "stands", "past", "last_log"] : List Str) := by decide +kernel) (hst : ∀ env, starEach (e :: es) env = (false, eval e env) :: starEach es env := by intros; rfl) (hpl : ∀ env, (backTo pos (starEach es env)).any (·.1) = false := by intros; rfl)
    (ht : ∀ env, eval (.Call (.Attribute (.Name x p2) m apos) (e :: es) [] pos) env = (do
      let ov ← eval (.Name x p2) env
      standAt apos.atName
      let (f, first) ← holding [ov] (getMethod ov m (pl env))
      callWith pos f first (backTo pos (starEach (e :: es) env)) (backToKw pos (keywordEach [] env))) := by intros; rfl) : Ev M N sc k (.Call (.Attribute (.Name x p2) m apos) (e :: es) [] pos) r d := ev_meth c hk h hN hv hd hcd hm ha hR hst hpl ht
theorem xm (i : Nat) {j : Nat} {W : FigV} {F F' : FigD} {p2 apos cpos : Pos} {R : FigD → List Dt → FigD → Dt → Prop} {pl : Env → Sem Bool} (c : KeepsM M j m R []) (ha : EvA M N sc k (e :: es) r ds) (hR : R F ds F' d) (z : ∀ W', W'.ft = W.ft → Exe M N sc k sts (r.set i (.fig W' F')) D) (hk : j ≤ k := by decide) (h : r[i]? = some (.fig W F) := by rfl) (hN : N[i]? = some x := by rfl) (hv : Vis sc x := by first | exact .inl rfl | exact .inr (.inl rfl) | exact .inr (.inr rfl)) (hd : (x == ("__debug__" : Str)) = false := by decide) (hcd : (x == ("__classdict__" : Str)) = false := by decide)
    (hm : m ∉ ([("known" : Str), "keepers", "stands", "past", "last_log"] : List Str) := by decide +kernel) (hst : ∀ env, starEach (e :: es) env = (false, eval e env) :: starEach es env := by intros; rfl) (hpl : ∀ env, (backTo cpos (starEach es env)).any (·.1) = false := by intros; rfl)
    (ht : ∀ env, eval (.Call (.Attribute (.Name x p2) m apos) (e :: es) [] cpos) env = (do
      let ov ← eval (.Name x p2) env
      standAt apos.atName
      let (f, first) ← holding [ov] (getMethod ov m (pl env))
      callWith cpos f first (backTo cpos (starEach (e :: es) env)) (backToKw cpos (keywordEach [] env))) := by intros; rfl) : Exe M N sc k (.Expr (.Call (.Attribute (.Name x p2) m apos) (e :: es) [] cpos) pos :: sts) r D :=
  x_meth (dds := []) c hk h hN hv hd hcd hm ha (fun _ => .nil) (by rw [List.append_nil]; exact hR) hst hpl ht z
/-- self.past.append(e), self.stands.append(e) -/
theorem fig_ne {W : FigV} (h : W.ft.Nodup) : W.self ≠ W.st ∧ W.self ≠ W.pa ∧ W.st ≠ W.pa := by
  simp only [List.nodup_cons, List.mem_cons, List.not_mem_nil, or_false, not_or] at h
  exact ⟨h.1.1, h.1.2, h.2.1⟩
theorem x_fapp (i : Nat) {W : FigV} {F : FigD} {px p2 apos cpos : Pos} (isS : Bool) (hf : f = if isS then "stands" else "past") (h : r[i]? = some (.fig W F)) (T : Tx M) (hN : N[i]? = some x) (hv : Vis sc x) (he : Ev M N sc k e r d) (hz : F.stands.length ≤ 1001 ∧ F.past.length ≤ 1001) (hd : (x == ("__debug__" : Str)) = false) (hcd : (x == ("__classdict__" : Str)) = false)
    (hs : ∀ env, starEach [e] env = (false, eval e env) :: starEach [] env) (hln : (apos.endLine == cpos.line) = true) (hb : ∀ env, attributeBase (.Name x px) f env (eval (.Name x px) env) = eval (.Name x px) env)
    (z : ∀ W', W'.ft = W.ft → Exe M N sc k sts (r.set i (.fig W' (if isS then { F with stands := F.stands ++ [d] } else { F with past := F.past ++ [d] }))) D) :
    Exe M N sc k (.Expr (.Call (.Attribute (.Attribute (.Name x px) f p2) "append" apos) [e] [] cpos) pos :: sts) r D := x_cons fun X hX H0 G0 G H sg Q => by
  have hm := hX.gm
  subst hm
  refine ⟨_, ps_expr (pe_bm PySem.F.plainAttrs_list PySem.F.slot_list_append PySem.F.type_list_append mt_append (pe_fld (pe_var (i := i) (by rw [hX.nm]; exact hN) (by rw [hX.scp]; exact hv) hd hcd) (hb _)) (pa_cons pe_w pa_nil (hs _)) (hfew := by rw [hs]; rfl) (hline := hln) (hs := hs _)) rfl, ?_⟩
  obtain ⟨e1, y, y2, y3⟩ := Q.fig h
  obtain ⟨n1, n2, n3⟩ := fig_ne y2
  refine ⟨_, e1, ?_⟩
  cases isS with
  | true =>
    have hf : f = "stands" := hf
    subst hf
    refine ⟨_, _, _, _, V.ref W.st, rfl, y.ins, T.cf, T.aF _ (by decide +kernel), (by with_unfolding_all rfl), .inl ⟨rfl, _, .inl (.inl y.st)⟩, ?_⟩
    refine he X hX H0 G0 G H sg Q _ fun v G1 H1 g1 r1 => ?_
    have Q1 := Q.grow g1
    obtain ⟨_, y, _, _⟩ := Q1.fig h
    refine ⟨_, _, v, rfl, rfl, y.st, ?_, G1, _, Q1.mut (s' := .fig { W with xs := W.xs ++ [v] } { F with stands := F.stands ++ [d] }) h (List.mem_cons_of_mem _ (List.mem_cons_self ..)) rfl fun o so => ?_, z _ rfl⟩
    · rw [y.rs.length]
      exact Nat.lt_of_le_of_lt hz.1 (by decide)
    · cases so
      exact SlOk.fig (W := { W with xs := W.xs ++ [v] }) (F := { F with stands := F.stands ++ [d] }) ⟨by rw [upd_ne n1]; exact y.ins, upd_same, by rw [upd_ne (Ne.symm n3)]; exact y.pa, y.rk, y.ro, y.rl, y.rs.app (RpA.one r1), y.rp⟩
  | false =>
    have hf : f = "past" := hf
    subst hf
    refine ⟨_, _, _, _, V.ref W.pa, rfl, y.ins, T.cf, T.aF _ (by decide +kernel), (by with_unfolding_all rfl), .inl ⟨rfl, _, .inl (.inl y.pa)⟩, ?_⟩
    refine he X hX H0 G0 G H sg Q _ fun v G1 H1 g1 r1 => ?_
    have Q1 := Q.grow g1
    obtain ⟨_, y, _, _⟩ := Q1.fig h
    refine ⟨_, _, v, rfl, rfl, y.pa, ?_, G1, _, Q1.mut (s' := .fig { W with ys := W.ys ++ [v] } { F with past := F.past ++ [d] }) h (List.mem_cons_of_mem _ (List.mem_cons_of_mem _ (List.mem_cons_self ..))) rfl fun o so => ?_, z _ rfl⟩
    · rw [y.rp.length]
      exact Nat.lt_of_le_of_lt hz.2 (by decide)
    · cases so
      exact SlOk.fig (W := { W with ys := W.ys ++ [v] }) (F := { F with past := F.past ++ [d] }) ⟨by rw [upd_ne n2]; exact y.ins, by rw [upd_ne n3]; exact y.st, upd_same, y.rk, y.ro, y.rl, y.rs, y.rp.app (RpA.one r1)⟩
/-- self.last_log = e -/
theorem x_flog (i : Nat) {W : FigV} {F : FigD} {px p2 : Pos} (h : r[i]? = some (.fig W F)) (T : Tx M) (hN : N[i]? = some x) (hv : Vis sc x) (he : Ev M N sc k e r (.lst ds)) (hd : (x == ("__debug__" : Str)) = false) (hcd : (x == ("__classdict__" : Str)) = false)
    (hs : ∀ env, swapsWith e (some (.Attribute (.Name x px) "last_log" p2)) pos.line env = pure false) (z : ∀ W', W'.ft = W.ft → Exe M N sc k sts (r.set i (.fig W' { F with log := ds })) D) :
    Exe M N sc k (.Assign [.Attribute (.Name x px) "last_log" p2] e pos :: sts) r D := x_cons fun X hX H0 G0 G H sg Q => by
  have hm := hX.gm
  subst hm
  refine ⟨_, ps_fld (pe_var (i := i) (by rw [hX.nm]; exact hN) (by rw [hX.scp]; exact hv) hd hcd) pe_w (hs _), ?_⟩
  refine he X hX H0 G0 G H sg Q _ fun v G1 H1 g1 r1 => ?_
  have Q1 := Q.grow g1
  obtain ⟨e1, y, y2, y3⟩ := Q1.fig h
  obtain ⟨n1, n2, n3⟩ := fig_ne y2
  refine ⟨_, e1, _, _, _, _, rfl, y.ins, T.cf, T.aF _ (by decide +kernel), (by show 5 < 1000; decide), G1, _, Q1.mut (s' := .fig { W with vl := v } { F with log := ds }) h (List.mem_cons_self ..) rfl fun o so => ?_, z _ rfl⟩
  cases so
  refine SlOk.fig (W := { W with vl := v }) (F := { F with log := ds }) ⟨?_, by rw [upd_ne (Ne.symm n1)]; exact y.st, by rw [upd_ne (Ne.symm n2)]; exact y.pa, y.rk, y.ro, r1, y.rs, y.rp⟩
  rw [upd_same]
  rfl
end
/-! ### deeds -/
def Gd.cost (g : Gd) (c : Nat) : Int := ((g.cs.getD c ⟨Str.empty, 0, 0, []⟩).cost : Nat)
def Gd.force (g : Gd) (c : Nat) : Nat := (g.cs.getD c ⟨Str.empty, 0, 0, []⟩).force
def Sn.pay (s : Sn) (t : Tb) (p c : Nat) (price : Int) : Sn := ⟨t, s.pile ++ [(p, c)], s.turn, s.word, 0, s.coins.set s.word (s.coins.getD s.word 0 - price)⟩
def Sn.less (s : Sn) (c : Nat) : Tb := { s.t with hands := s.t.hands.set s.word ((s.t.hands.getD s.word []).filter fun y => !decide (y = c)) }
def Sn.played (g : Gd) (s : Sn) (c : Nat) : Sn := s.pay (s.less c) s.word c (g.cost c)
def deedP (p c : Nat) : Dt := .tup [.str "play", .int (p : Nat), .int (c : Nat)]
def deedL (p : Nat) (ch : List Dt) : Dt := .tup [.str "let", .int (p : Nat), .tup ch]
/-- a card that may be played -/
structure CanP (g : Gd) (s : Sn) (c : Nat) : Prop where
  tw : s.turn = s.word
  pl : s.pile = []
  wn : s.word < g.n
  n4 : g.n ≤ 4
  hn : s.t.hands.length = g.n
  cn : s.coins.length = g.n
  ol : c < g.cs.length
  ih : c ∈ s.t.hands.getD s.word []
  l100 : (s.t.hands.getD s.word []).length ≤ 100
  co : g.cost c ≤ s.coins.getD s.word 0
theorem pay_coins {cs : List Int} {w : Nat} {p : Int} (h : w < cs.length) : ((List.range cs.length).map fun j => Dt.int (cs.getD j 0 - p * (if decide (j = w) then 1 else 0))) = (cs.set w (cs.getD w 0 - p)).map .int := by
  refine List.ext_getElem? fun i => ?_
  rw [List.getElem?_map, List.getElem?_map, List.getElem?_set]
  by_cases hi : i < cs.length
  · rw [List.getElem?_range hi]
    by_cases e : w = i
    · subst e
      rw [if_pos rfl, if_pos hi]
      simp
    · rw [if_neg e, get_D hi (z := 0)]
      simp [Ne.symm e]
  · rw [List.getElem?_eq_none (by rw [List.length_range]; omega), if_neg (by omega), List.getElem?_eq_none (by omega)]
    rfl
theorem cmul_b (i : Int) (c : Bool) : CMul i (if c then 1 else 0) := .inr (by cases c <;> exact ⟨by decide, by decide⟩)
theorem cut4 (g : Gd) (t : Tb) : cutD (encT g t) none (some 4) = (encT g t).take 4 := cut_to _ 4
theorem cut5 (g : Gd) (t : Tb) : cutD (encT g t) (some 5) none = (encT g t).drop 5 := cut_from _ 5
theorem ixN_nat {n j : Nat} (h : j < n) : ixN n (j : Int) = some j := by
  unfold ixN
  rw [if_pos (by omega), if_pos (by omega)]
  rfl
theorem ne_tup0 : CmpD .NotEq (.tup []) (.tup []) false := lk (.ne _ _ rfl rfl (by simp only [Dt.dep, deps]; decide)) (by rw [eqD_refl]; rfl)
end Ts

set_option Elab.async false
set_option linter.all false
set_option maxRecDepth 100000
set_option maxHeartbeats 1000000
/-! P10: a fight's methods. -/
namespace Ts
open PySem L2
abbrev Mt (M : Gm) (m qual : Str) (st : Stmt) (dvs : List V) (f : Addr) (fd : FuncData) : Prop := FunD M.K m qual (defArgs st) (defBody st) (defScope st) dvs [] f fd ∧ Meth M.K M.CF m f
section
variable {M : Gm} {N ps : List Str} {k : Nat} {m qual : Str} {st : Stmt} {f : Addr} {fd : FuncData}
theorem keepsP_of {R : FigD → List Dt → Dt → Prop} (T : Tx M) (F : Mt M m qual st [] f fd) (S : FnScope N ps (defScope st)) (len : ∀ F ds d, R F ds d → ds.length + 1 = ps.length)
    (hbi : ∀ (kV doc pm : Value) (an : Option Addr) (cdv ct : Value) (us : List Value), us.length = ps.length → bindArgs (PySem.W.fnOf m qual (defArgs st) (defBody st) (defScope st) .none kV doc pm an cdv ct) ⟨us, []⟩ = pure (ps.zip us))
    (hb : ∀ W F ds d, R F ds d → Exe M N (defScope st) k (defBody st) (startM N W F ds) (dnMp W F d)) : KeepsP M (k + 1) m R :=
  ⟨f, fd, ps, [], T.cf, F.2, fn_methp F.1 S len hb, F.1.bindsN hbi, .nil⟩
theorem keepsM_of {R : FigD → List Dt → FigD → Dt → Prop} (T : Tx M) (F : Mt M m qual st [] f fd) (S : FnScope N ps (defScope st)) (len : ∀ F ds F' d, R F ds F' d → ds.length + 1 = ps.length)
    (hbi : ∀ (kV doc pm : Value) (an : Option Addr) (cdv ct : Value) (us : List Value), us.length = ps.length → bindArgs (PySem.W.fnOf m qual (defArgs st) (defBody st) (defScope st) .none kV doc pm an cdv ct) ⟨us, []⟩ = pure (ps.zip us))
    (hb : ∀ W F ds F' d, R F ds F' d → Exe M N (defScope st) k (defBody st) (startM N W F ds) (dnM W F' d)) : KeepsM M (k + 1) m R [] :=
  ⟨f, fd, ps, [], T.cf, F.2, fn_meth F.1 S len hb, F.1.bindsN hbi, .nil⟩
end
theorem sc_stand : FnScope ["self"] ["self"] (defScope s_Fight_stand) := ⟨rfl, rfl, rfl, by decide +kernel, rfl, by decide +kernel, by decide +kernel⟩
def R_stand (F : FigD) (ds : List Dt) (d : Dt) : Prop := ds = [] ∧ ∃ ss, F.stands = ss ++ [d]
theorem k_stand {M : Gm} (T : Tx M) {f : Addr} {fd : FuncData} (F : Mt M "stand" "Fight.stand" s_Fight_stand [] f fd) : KeepsP M 1 "stand" R_stand := by
  refine keepsP_of T F sc_stand (fun F ds d h => ?_) (fun _ _ _ _ _ _ us hl => match us, hl with | [_], _ => rfl) (fun W F ds d h => ?_)
  · obtain ⟨rfl, _⟩ := h
    rfl
  · obtain ⟨rfl, ss, e⟩ := h
    refine x_ret (im (fm 0 .stands) (ev_neg ev_int) ?_) ⟨rfl, rfl⟩
    rw [e]
    exact last_at
theorem sc_log : FnScope ["self", "one"] ["self"] (defScope s_Fight_log) := ⟨rfl, rfl, rfl, by decide +kernel, rfl, by decide +kernel, by decide +kernel⟩
def R_log (F : FigD) (ds : List Dt) (d : Dt) : Prop := ds = [] ∧ ∃ hs : List Hap, hs.length ≤ 10 ∧ F.log = (hs.map fun h => line h.dt) ∧ d = .lst (hs.map fun h => line h.dt)
theorem k_log {M : Gm} (T : Tx M) {f : Addr} {fd : FuncData} (F : Mt M "log" "Fight.log" s_Fight_log [] f fd) : KeepsP M 1 "log" R_log := by
  refine keepsP_of T F sc_log (fun F ds d h => ?_) (fun _ _ _ _ _ _ us hl => match us, hl with | [_], _ => rfl) (fun W F ds d h => ?_)
  · obtain ⟨rfl, _⟩ := h
    rfl
  · obtain ⟨rfl, hs, hl, e, rfl⟩ := h
    refine x_ret (EvN.ev (lc (A := Hap) (enc := fun h => line h.dt) (xs := hs) [("one", 1)] (fun h => line h.dt) (r2 := fun h => [.fig W F, .dat (line h.dt)]) (EvI.to (ei_list (ff 0 .log)) e) (fun h _ => tN 1) (fun h _ => tp (ac (ix (nm 1) ev_int) (ac (li (ix (d := .lst []) (nm 1) ev_int rfl)) (a1 (ix (nm 1) ev_int))))) (by omega))) ⟨rfl, rfl⟩
theorem sc_many : FnScope ["self"] ["self"] (defScope s_Fight_many) := ⟨rfl, rfl, rfl, by decide +kernel, rfl, by decide +kernel, by decide +kernel⟩
def R_many (F : FigD) (ds : List Dt) (d : Dt) : Prop := ds = [] ∧ d = .int (F.past.length : Nat)
theorem k_many {M : Gm} (T : Tx M) {f : Addr} {fd : FuncData} (F : Mt M "many" "Fight.many" s_Fight_many [] f fd) : KeepsP M 1 "many" R_many := by
  refine keepsP_of T F sc_many (fun F ds d h => ?_) (fun _ _ _ _ _ _ us hl => match us, hl with | [_], _ => rfl) (fun W F ds d h => ?_)
  · obtain ⟨rfl, _⟩ := h
    rfl
  · obtain ⟨rfl, rfl⟩ := h
    exact x_ret (lem (fm 0 .past)) ⟨rfl, rfl⟩
theorem sc_on : FnScope ["self", "deed", "stand", "log"] ["self", "deed", "stand", "log"] (defScope s_Fight_on) := ⟨rfl, rfl, rfl, by decide +kernel, rfl, by decide +kernel, by decide +kernel⟩
def R_on (F : FigD) (ds : List Dt) (F' : FigD) (d : Dt) : Prop := ∃ (deed stand : Dt) (log : List Dt), F.stands.length ≤ 1000 ∧ F.past.length ≤ 1000 ∧ ds = [deed, stand, .lst log] ∧ F' = F.on deed stand log ∧ d = .non
theorem k_on {M : Gm} (T : Tx M) {f : Addr} {fd : FuncData} (F : Mt M "on" "Fight.on" s_Fight_on [] f fd) : KeepsM M 1 "on" R_on [] := by
  refine keepsM_of T F sc_on (fun F ds F' d h => ?_) (fun _ _ _ _ _ _ us hl => match us, hl with | [_, _, _, _], _ => rfl) (fun W F ds F' d h => ?_)
  · obtain ⟨_, _, _, _, _, rfl, _⟩ := h
    rfl
  · obtain ⟨deed, stand, log, h1, h2, rfl, rfl, rfl⟩ := h
    refine x_fapp 0 false rfl (W := W) (F := F) rfl T rfl (.inl rfl) (nm 1) ⟨by omega, by omega⟩ (by decide) (by decide) (by intros; rfl) rfl (by intros; rfl) fun W1 e1 => ?_
    refine x_fapp 0 true rfl (W := W1) rfl T rfl (.inl rfl) (nm 2) ⟨by show F.stands.length ≤ 1001; omega, by show (F.past ++ [deed]).length ≤ 1001; rw [List.length_append]; exact Nat.succ_le_succ h2⟩ (by decide) (by decide) (by intros; rfl) rfl (by intros; rfl) fun W2 e2 => ?_
    refine x_flog 0 (W := W2) rfl T rfl (.inl rfl) (nm 3) (by decide) (by decide) (by intros; rfl) fun W3 e3 => ?_
    exact x_nil ⟨rfl, W3, e3.trans (e2.trans e1), rfl⟩
theorem sc_wns : FnScope ["self", "player", "stand"] ["self", "player"] (defScope s_Fight_why_not_speak) := ⟨rfl, rfl, rfl, by decide +kernel, rfl, by decide +kernel, by decide +kernel⟩
def R_wns (F : FigD) (ds : List Dt) (d : Dt) : Prop := ∃ (g : Gd) (s : Sn), Stands g s F ∧ ds = [.int (s.word : Nat)] ∧ d = .non
theorem c_eqN (i : Nat) : CmpD .NotEq (.int (i : Nat)) (.int (i : Nat)) false := lk (c_natN i i) (by simp)
theorem k_wns {M : Gm} (T : Tx M) (C : KeepsP M 1 "stand" R_stand) {f : Addr} {fd : FuncData} (F : Mt M "why_not_speak" "Fight.why_not_speak" s_Fight_why_not_speak [] f fd) : KeepsP M 2 "why_not_speak" R_wns := by
  refine keepsP_of T F sc_wns (fun F ds d h => ?_) (fun _ _ _ _ _ _ us hl => match us, hl with | [_, _], _ => rfl) (fun W F ds d h => ?_)
  · obtain ⟨_, _, _, rfl, _⟩ := h
    rfl
  · obtain ⟨g, s, S, rfl, rfl⟩ := h
    refine xa 2 (mt0 0 (W := W) (F := F) C ⟨rfl, S.st⟩) ?_
    refine x_ifF0 (tc (d1 := .non) (ix (nm 2) ev_int) ev_non (lk (.notN _) rfl)) ?_
    refine x_ifF0 (tc (ix (nm 2) ev_int) (nm 1) (c_eqN _)) ?_
    exact x_ret ev_non ⟨rfl, rfl⟩
theorem sc_wnp : FnScope ["self", "player", "number", "stand", "reason"] ["self", "player", "number"] (defScope s_Fight_why_not_play) := ⟨rfl, rfl, rfl, by decide +kernel, rfl, by decide +kernel, by decide +kernel⟩
def R_wnp (F : FigD) (ds : List Dt) (d : Dt) : Prop := ∃ (g : Gd) (s : Sn) (c : Nat), Stands g s F ∧ CanP g s c ∧ ds = [.int (s.word : Nat), .int (c : Nat)] ∧ d = .non
theorem k_wnp {M : Gm} (T : Tx M) (C : KeepsP M 1 "stand" R_stand) (C2 : KeepsP M 2 "why_not_speak" R_wns) {f : Addr} {fd : FuncData} (F : Mt M "why_not_play" "Fight.why_not_play" s_Fight_why_not_play [] f fd) : KeepsP M 3 "why_not_play" R_wnp := by
  refine keepsP_of T F sc_wnp (fun F ds d h => ?_) (fun _ _ _ _ _ _ us hl => match us, hl with | [_, _, _], _ => rfl) (fun W F ds d h => ?_)
  · obtain ⟨_, _, _, _, _, rfl, _⟩ := h
    rfl
  · obtain ⟨g, s, c, S, L, rfl, rfl⟩ := h
    have hw := L.wn
    refine xa 3 (mt0 0 (W := W) (F := F) C ⟨rfl, S.st⟩) ?_
    refine xa 4 (mt 0 (W := W) (F := F) C2 (a1 (nm 1)) ⟨g, s, S, rfl, rfl⟩) ?_
    refine x_ifF0 (tc (d1 := .non) (nm 4) ev_non (lk (.notN _) rfl)) ?_
    refine x_ifF0 (EvT.to (et_w (ew_or (c' := false) (tc (ix (d := .int (s.turn : Nat)) (nm 3) ev_int) (nm 1) (by rw [L.tw]; exact c_eqN _)) (fun _ => ew_or1 (tc (ix (d := .tup (s.pile.map encP)) (nm 3) ev_int) (tp ea_nil) (by rw [L.pl]; exact ne_tup0))))) rfl) ?_
    refine x_ifF0 (tc (nm 2) (ix (d := tI (s.t.hands.getD s.word [])) (ix (ix (nm 3) ev_int) ev_int) (nm 1) (at_tI (get_D (by rw [L.hn]; exact hw)))) (lk (c_ni c _) (by rw [decide_eq_true L.ih]; rfl))) ?_
    refine x_ifF0 (tc (d1 := .int (g.cost c)) (d2 := .int (s.coins.getD s.word 0)) (fl (il (ff 0 .known) (nm 2) (by rw [S.kn]; exact at_map (Gd.get L.ol))) .cost) (ix (ix (nm 3) ev_int) (nm 1) (at_map (get_D (by rw [L.cn]; exact hw)))) (lk (.gt _ _) (decide_eq_false (by have := L.co; omega)))) ?_
    exact x_ret ev_non ⟨rfl, rfl⟩
theorem sc_paid : FnScope ["self", "deed", "table", "price", "one", "old", "pile", "turn", "word", "passes", "coins", "over", "left", "player"] ["self", "deed", "table", "price", "one"] (defScope s_Fight_paid) := ⟨rfl, rfl, rfl, by decide +kernel, rfl, by decide +kernel, by decide +kernel⟩
def R_paid (F : FigD) (ds : List Dt) (F' : FigD) (d : Dt) : Prop := ∃ (g : Gd) (s : Sn) (t : Tb) (p c : Nat) (price : Int) (deed : Dt), Stands g s F ∧ s.coins.length ≤ 4 ∧ s.word < s.coins.length ∧ s.pile.length < 40 ∧ ds = [deed, .tup (encT g t), .int price, encP (p, c)] ∧ F' = F.on deed (encS g (s.pay t p c price)) [] ∧ d = .non
theorem k_paid {M : Gm} (T : Tx M) (C : KeepsP M 1 "stand" R_stand) (C2 : KeepsM M 1 "on" R_on []) {f : Addr} {fd : FuncData} (F : Mt M "paid" "Fight.paid" s_Fight_paid [] f fd) : KeepsM M 2 "paid" R_paid [] := by
  refine keepsM_of T F sc_paid (fun F ds F' d h => ?_) (fun _ _ _ _ _ _ us hl => match us, hl with | [_, _, _, _, _], _ => rfl) (fun W F ds F' d h => ?_)
  · obtain ⟨_, _, _, _, _, _, _, _, _, _, _, rfl, _⟩ := h
    rfl
  · obtain ⟨g, s, t, p, c, price, deed, S, h4, hw, hp, rfl, rfl, rfl⟩ := h
    refine xt (is := [5, 6, 7, 8, 9, 10, 11]) (mt0 0 (W := W) (F := F) (d := .tup (encL g s)) C ⟨rfl, S.st⟩) (gc (tN 5) (gc (tN 6) (gc (tN 7) (gc (tN 8) (gc (tN 9) (gc (tN 10) (gc (tN 11) tgs_nil))))))) ?_
    refine Exe.at [.fig W F, .dat deed, .dat (.tup (encT g t)), .dat (.int price), .dat (encP (p, c)), .dat (.tup (encT g s.t)), .dat (.tup (s.pile.map encP)), .dat (.int (s.turn : Nat)), .dat (.int (s.word : Nat)), .dat (.int (s.passes : Nat)), .dat (cI s.coins), .dat .non, .no, .no] ?_
    refine xl 12 (A := Nat) (enc := fun j => .int (j : Nat)) (xs := List.range s.coins.length) [("player", 13)] (fun j => .int (s.coins.getD j 0 - price * (if decide (j = s.word) then 1 else 0))) (r2 := fun j => [.fig W F, .dat deed, .dat (.tup (encT g t)), .dat (.int price), .dat (encP (p, c)), .dat (.tup (encT g s.t)), .dat (.tup (s.pile.map encP)), .dat (.int (s.turn : Nat)), .dat (.int (s.word : Nat)), .dat (.int (s.passes : Nat)), .dat (cI s.coins), .dat .non, .no, .dat (.int (j : Nat))]) (EvI.to (rg (hi := (s.coins.length : Nat)) (le (d := cI s.coins) (nm 10) (by show some _ = _; rw [List.length_map]))) (rgD_nat _)) (fun j _ => tN 13) (fun j hj => ?_) (by rw [List.length_range]; omega) ?_
    · exact mi (ix (nm 10) (nm 13) (at_map (get_D (List.mem_range.mp hj)))) (mu (nm 3) (inB (cm (nm 13) (nm 8) (c_nat _ _))) (cmul_b _ _))
    rw [pay_coins hw]
    refine x_ifT (tc (le (n := s.pile.length) (d := .tup (s.pile.map encP)) (nm 6) (by show some _ = _; rw [List.length_map])) (gI T.i6) (lk (.lt _ _) (decide_eq_true (by omega)))) ?_
    refine xa 6 (d := .tup ((s.pile ++ [(p, c)]).map encP)) (Ev.to (pt (nm 6) (tp (a1 (nm 4))) (by rw [List.length_map]; show _ + 1 ≤ _; omega)) (by rw [List.map_append]; rfl)) (x_nil ?_)
    refine xm 0 (W := W) (F := F) C2 (ac (nm 1) (ac (tp (ac (nm 2) (ac (nm 6) (ac (nm 7) (ac (nm 8) (ac ev_int (ac (tu (nm 12)) (a1 (nm 11))))))))) (a1 (ls ea_nil)))) ⟨deed, _, [], S.sl, S.pl, rfl, rfl, rfl⟩ fun W2 e2 => ?_
    exact x_nil ⟨rfl, W2, e2, rfl⟩
theorem sc_play : FnScope ["self", "player", "number", "reason", "table", "hands", "one"] ["self", "player", "number"] (defScope s_Fight_play) := ⟨rfl, rfl, rfl, by decide +kernel, rfl, by decide +kernel, by decide +kernel⟩
def R_play (F : FigD) (ds : List Dt) (F' : FigD) (d : Dt) : Prop := ∃ (g : Gd) (s : Sn) (c : Nat), Stands g s F ∧ CanP g s c ∧ ds = [.int (s.word : Nat), .int (c : Nat)] ∧ F' = F.on (deedP s.word c) (encS g (s.played g c)) [] ∧ d = .non
theorem k_play {M : Gm} (T : Tx M) (C1 : KeepsP M 3 "why_not_play" R_wnp) (C : KeepsP M 1 "stand" R_stand) (C2 : KeepsM M 2 "paid" R_paid []) {f : Addr} {fd : FuncData} (F : Mt M "play" "Fight.play" s_Fight_play [] f fd) : KeepsM M 4 "play" R_play [] := by
  refine keepsM_of T F sc_play (fun F ds F' d h => ?_) (fun _ _ _ _ _ _ us hl => match us, hl with | [_, _, _], _ => rfl) (fun W F ds F' d h => ?_)
  · obtain ⟨_, _, _, _, _, rfl, _⟩ := h
    rfl
  · obtain ⟨g, s, c, S, L, rfl, rfl, rfl⟩ := h
    have hw := L.wn
    have hL := L.l100
    have hH := get_D (l := s.t.hands) (i := s.word) (z := []) (by rw [L.hn]; exact hw)
    refine xa 3 (mt 0 (W := W) (F := F) C1 (ac (nm 1) (a1 (nm 2))) ⟨g, s, c, S, L, rfl, rfl⟩) ?_
    refine x_ifF0 (tc (d1 := .non) (nm 3) ev_non (lk (.notN _) rfl)) ?_
    refine xa 4 (ix (d := .tup (encT g s.t)) (mt0 0 (W := W) (F := F) (d := encS g s) C ⟨rfl, S.st⟩) ev_int) ?_
    refine xo 5 (liN (d := .tup (s.t.hands.map tI)) (ix (nm 4) ev_int)) fun q => ?_
    refine xs (ds := s.t.hands.map tI) (q := q) 5 s.word (d := tI ((s.t.hands.getD s.word []).filter fun y => !decide (y = c))) (Ev.to (tun (lcf (A := Nat) (enc := fun n => .int (n : Nat)) (xs := s.t.hands.getD s.word []) [("one", 6)] (fun y => !decide (y = c)) (fun n => .int (n : Nat)) (r2 := fun y => [.fig W F, .dat (.int (s.word : Nat)), .dat (.int (c : Nat)), .dat .non, .dat (.tup (encT g s.t)), .own q (s.t.hands.map tI), .dat (.int (y : Nat))]) (ei_tup (im (ow 5) (nm 1) (at_tI hH))) (fun y _ => tN 6) (fun y _ => tc (nm 6) (nm 2) (c_natN y c)) (fun y _ _ => nm 6) (by omega))) rfl) (nm 1) ?_ (ixN_nat (by rw [List.length_map, L.hn]; exact hw))
    rw [← List.map_set]
    refine xa 4 (d := .tup (encT g (s.less c))) (Ev.to (pt (pt (ev_sliceT (nm 4) eo_none (eo_some ev_int)) (tp (a1 (tum (ow 5)))) ?_) (ev_sliceT (nm 4) (eo_some ev_int) eo_none) ?_) ?_) ?_
    · rw [cut4]
      exact Nat.le_of_ble_eq_true rfl
    · rw [cut4, cut5]
      exact Nat.le_of_ble_eq_true rfl
    · rw [cut4, cut5]
      rfl
    refine xm 0 (W := W) (F := F) C2 (ac (tp (ac ev_str (ac (nm 1) (a1 (nm 2))))) (ac (nm 4) (ac (fl (il (ff 0 .known) (nm 2) (by rw [S.kn]; exact at_map (Gd.get L.ol))) .cost) (a1 (tp (ac ev_str (ac (nm 1) (ac (nm 2) (a1 ev_int))))))))) ⟨g, s, s.less c, s.word, c, g.cost c, _, S, by rw [L.cn]; exact L.n4, by rw [L.cn]; exact hw, by rw [L.pl]; decide, rfl, rfl, rfl⟩ fun W2 e2 => ?_
    exact x_nil ⟨rfl, W2, e2, rfl⟩
end Ts

set_option Elab.async false
set_option linter.all false
set_option maxRecDepth 100000
set_option maxHeartbeats 1000000
/-! P11: settled, top_done, turn_begun, let. -/
namespace Ts
open PySem L2
abbrev N_settled : List Str := ["self", "deed", "stand", "heard", "table", "pile", "turn", "word", "coins", "log", "calls", "choices", "more", "later", "room", "over"]
theorem sc_settled : FnScope N_settled ["self", "deed", "stand", "heard"] (defScope s_Fight_settled) := ⟨rfl, rfl, rfl, by decide +kernel, rfl, by decide +kernel, by decide +kernel⟩
/-- the fight keeps these cards -/
structure Knows (g : Gd) (F : FigD) : Prop where
  kn : F.known = g.cd
  ke : F.keepers = nI g.ow
  sl : F.stands.length ≤ 1000
  pl : F.past.length ≤ 1000
theorem Stands.knows {g : Gd} {s : Sn} {F : FigD} (h : Stands g s F) : Knows g F := ⟨h.kn, h.ke, h.sl, h.pl⟩
def R_settled (F : FigD) (ds : List Dt) (F' : FigD) (d : Dt) : Prop := ∃ (g : Gd) (t t' : Tb) (P : List (Nat × Nat)) (tn : Nat) (wd deed : Dt) (coins : List Int) (log0 more ch : List Dt), Knows g F ∧ Sd g t ∧ Look g t t' more ∧ (∀ q ∈ P, q.1 < g.n) ∧ P.length ≤ 100 ∧ tn < g.n ∧ log0.length ≤ 10 ∧
  ds = [deed, .tup [.tup (encT g t), .lst (P.map encP), .int (tn : Nat), wd, cI coins], .tup [.lst log0, .lst [], .lst ch]] ∧ F' = F.on deed (encS g ⟨t', P, tn, tn, 0, coins⟩) (log0 ++ more) ∧ d = .non
theorem Look.sd {g : Gd} {t t' : Tb} {more : List Dt} (h : Look g t t' more) (S : Sd g t) : Sd g t' ∧ more.length ≤ 1 := by
  cases h with
  | rest => exact ⟨S, Nat.zero_le _⟩
  | out c _ _ S2 => exact ⟨S2, Nat.le_refl _⟩
theorem k_settled {M : Gm} (T : Tx M) (C1 : Keeps M 6 "looked" R_looked) (C2 : Keeps M 2 "off_the_pile" R_off_the_pile) (C3 : Keeps M 1 "piled" R_piled) (C4 : Keeps M 1 "with_word" R_with_word) (C5 : Keeps M 1 "ended" R_ended) (C6 : KeepsM M 1 "on" R_on []) {f : Addr} {fd : FuncData} (F : Mt M "settled" "Fight.settled" s_Fight_settled [] f fd) : KeepsM M 7 "settled" R_settled [] := by
  refine keepsM_of T F sc_settled (fun F ds F' d h => ?_) (fun _ _ _ _ _ _ us hl => match us, hl with | [_, _, _, _], _ => rfl) (fun W F ds F' d h => ?_)
  · obtain ⟨_, _, _, _, _, _, _, _, _, _, _, _, _, _, _, _, _, _, rfl, _⟩ := h
    rfl
  · obtain ⟨g, t, t', P, tn, wd, deed, coins, log0, more, ch, K, S, L, hP, hPl, hT, hl0, rfl, rfl, rfl⟩ := h
    obtain ⟨S2, hm⟩ := L.sd S
    have hN : Nn g := ⟨S.n2, S.n4⟩
    refine xt (nm 2) (gc (tN 4) (gc (tN 5) (gc (tN 6) (gc (tN 7) (gc (tN 8) tgs_nil))))) ?_
    refine xt (nm 3) (gc (tN 9) (gc (tN 10) (gc (tN 11) tgs_nil))) ?_
    refine Exe.at [.fig W F, .dat deed, .dat (.tup [.tup (encT g t), .lst (P.map encP), .int (tn : Nat), wd, cI coins]), .dat (.tup [.lst log0, .lst [], .lst ch]), .dat (.tup (encT g t)), .dat (.lst (P.map encP)), .dat (.int (tn : Nat)), .dat wd, .dat (cI coins), .dat (.lst log0), .dat (.lst []), .dat (.lst ch), .no, .no, .no, .no] ?_
    refine xt (ca C1 (ac (ff 0 .known) (ac (ff 0 .keepers) (ac (nm 4) (a1 (nm 11))))) ⟨g, t, t', more, ch, S, L, by rw [K.kn, K.ke], rfl⟩) (gc (tN 4) (gc (tN 12) (gc (tN 13) (gc (tN 11) tgs_nil)))) ?_
    refine xt (ca C2 (ac (nm 4) (a1 (nm 5))) ⟨g, t', P, S2.hs, S2.hh, hP, hPl, rfl, rfl⟩) (gc (tN 4) (gc (tN 5) tgs_nil)) ?_
    refine Exe.at [.fig W F, .dat deed, .dat (.tup [.tup (encT g t), .lst (P.map encP), .int (tn : Nat), wd, cI coins]), .dat (.tup [.lst log0, .lst [], .lst ch]), .dat (.tup (encT g t')), .dat (.lst (P.map encP)), .dat (.int (tn : Nat)), .dat wd, .dat (cI coins), .dat (.lst log0), .dat (.lst []), .dat (.lst ch), .dat (.lst more), .dat (.lst []), .no, .no] ?_
    refine xt (ca C3 (ac (nm 4) (ac (nm 5) (ac (nm 6) (ac (EvN.ev (en_addL (li (nm 10)) (li (nm 13)) (by decide))) (a1 (nm 11)))))) ⟨g, t', _, _, tn, hN, rfl, rfl⟩) (gc (tN 5) (gc (tN 14) tgs_nil)) ?_
    refine xa 7 (ca C4 (ac (nm 4) (ac (nm 6) (a1 (nm 7)))) ⟨g, t', tn, _, hT, rfl, rfl⟩) ?_
    refine xa 15 (ca C5 (ac (nm 4) (a1 (nm 14))) ⟨g, t', hN, rfl, rfl⟩) ?_
    refine Exe.at [.fig W F, .dat deed, .dat (.tup [.tup (encT g t), .lst (P.map encP), .int (tn : Nat), wd, cI coins]), .dat (.tup [.lst log0, .lst [], .lst ch]), .dat (.tup (encT g t')), .dat (.lst (P.map encP)), .dat (.int (tn : Nat)), .dat (.int (tn : Nat)), .dat (cI coins), .dat (.lst log0), .dat (.lst []), .dat (.lst ch), .dat (.lst more), .dat (.lst []), .dat (.bl true), .dat .non] ?_
    refine xm 0 (W := W) (F := F) C6 (ac (nm 1) (ac (tp (ac (nm 4) (ac (tu (nm 5)) (ac (nm 6) (ac (nm 7) (ac ev_int (ac (nm 8) (a1 (nm 15))))))))) (a1 (EvN.ev (en_addL (li (nm 9)) (li (nm 12)) (by omega)))))) ⟨deed, _, _, K.sl, K.pl, rfl, rfl, rfl⟩ fun W2 e2 => ?_
    exact x_nil ⟨rfl, W2, e2, rfl⟩
theorem sc_top : FnScope ["self", "deed", "choices", "table", "pile", "turn", "word", "passes", "coins", "over", "sort", "player", "number", "place", "happening", "log", "calls", "rule"] ["self", "deed", "choices"] (defScope s_Fight_top_done) := ⟨rfl, rfl, rfl, by decide +kernel, rfl, by decide +kernel, by decide +kernel⟩
theorem cut_last (xs : List Dt) (d : Dt) : cutD (xs ++ [d]) none (some (-1)) = xs := by
  have e : cutD (xs ++ [d]) none (some (-1)) = (xs ++ [d]).take xs.length := by
    unfold cutD
    rw [HT.sIx_none, List.drop_zero, Nat.sub_zero, List.length_append, List.length_singleton]
    congr 1
    unfold HT.sIx
    simp
    omega
  rw [e, List.take_left]
def R_top (F : FigD) (ds : List Dt) (F' : FigD) (d : Dt) : Prop := ∃ (g : Gd) (s : Sn) (P : List (Nat × Nat)) (p c : Nat) (t' : Tb) (deed : Dt) (more ch : List Dt), Stands g s F ∧ s.pile = P ++ [(p, c)] ∧ To g s.t ∧ c < g.cs.length ∧ Sd g (s.t.come c) ∧ Look g (s.t.come c) t' more ∧ (∀ q ∈ P, q.1 < g.n) ∧ P.length ≤ 99 ∧ s.turn < g.n ∧
  ds = [deed, .lst ch] ∧ F' = F.on deed (encS g ⟨t', P, s.turn, s.turn, 0, s.coins⟩) (line (hCome c) :: more) ∧ d = .non
theorem k_top {M : Gm} (T : Tx M) (C : KeepsP M 1 "stand" R_stand) (C1 : Keeps M 4 "called" R_called) (C2 : Keeps M 3 "happen" R_happen) (C3 : KeepsM M 7 "settled" R_settled []) {f : Addr} {fd : FuncData} (F : Mt M "top_done" "Fight.top_done" s_Fight_top_done [] f fd) : KeepsM M 8 "top_done" R_top [] := by
  refine keepsM_of T F sc_top (fun F ds F' d h => ?_) (fun _ _ _ _ _ _ us hl => match us, hl with | [_, _, _], _ => rfl) (fun W F ds F' d h => ?_)
  · obtain ⟨_, _, _, _, _, _, _, _, _, _, _, _, _, _, _, _, _, _, rfl, _⟩ := h
    rfl
  · obtain ⟨g, s, P, p, c, t', deed, more, ch, S, hp, L0, hc, L1, L, hP, hPl, hT, rfl, rfl, rfl⟩ := h
    refine xt (is := [3, 4, 5, 6, 7, 8, 9]) (mt0 0 (W := W) (F := F) (d := .tup (encL g s)) C ⟨rfl, S.st⟩) (gc (tN 3) (gc (tN 4) (gc (tN 5) (gc (tN 6) (gc (tN 7) (gc (tN 8) (gc (tN 9) tgs_nil))))))) ?_
    refine Exe.at [.fig W F, .dat deed, .dat (.lst ch), .dat (.tup (encT g s.t)), .dat (.tup (s.pile.map encP)), .dat (.int (s.turn : Nat)), .dat (.int (s.word : Nat)), .dat (.int (s.passes : Nat)), .dat (cI s.coins), .dat .non, .no, .no, .no, .no, .no, .no, .no, .no] ?_
    have e1 : s.pile.map encP = P.map encP ++ [encP (p, c)] := by rw [hp, List.map_append]; rfl
    refine xt (ix (d := encP (p, c)) (nm 4) (ev_neg ev_int) (by rw [e1]; exact last_at)) (gc (tN 10) (gc (tN 11) (gc (tN 12) (gc (tN 13) tgs_nil)))) ?_
    refine Exe.at [.fig W F, .dat deed, .dat (.lst ch), .dat (.tup (encT g s.t)), .dat (.tup (s.pile.map encP)), .dat (.int (s.turn : Nat)), .dat (.int (s.word : Nat)), .dat (.int (s.passes : Nat)), .dat (cI s.coins), .dat .non, .dat (.str "card"), .dat (.int (p : Nat)), .dat (.int (c : Nat)), .dat (.int 0), .no, .no, .no, .no] ?_
    refine x_ifT (tc (nm 10) ev_str (lk (c_eqS _ _) (by decide +kernel))) ?_
    refine xa 14 (d := hCome c) (tp (ac ev_str (ac (nm 12) (a1 ev_int)))) ?_
    refine xa 15 (d := .lst [line (hCome c)]) (ls (a1 (tp (ac (nm 14) (ac (ls ea_nil) (a1 (nm 14))))))) ?_
    refine xa 16 (ca C1 (ac (ff 0 .known) (ac (ff 0 .keepers) (ac (nm 3) (a1 (nm 14))))) ⟨g, s.t, .come c, L0, hc, L1.toLy, by rw [S.kn, S.ke]; rfl, rfl⟩) ?_
    refine xa 3 (ca C2 (ac (ff 0 .known) (ac (nm 3) (a1 (nm 14)))) ⟨g, s.t, .come c, L0, hc, by rw [S.kn]; rfl, rfl⟩) (x_nil ?_)
    refine Exe.at [.fig W F, .dat deed, .dat (.lst ch), .dat (.tup (encT g (s.t.come c))), .dat (.tup (s.pile.map encP)), .dat (.int (s.turn : Nat)), .dat (.int (s.word : Nat)), .dat (.int (s.passes : Nat)), .dat (cI s.coins), .dat .non, .dat (.str "card"), .dat (.int (p : Nat)), .dat (.int (c : Nat)), .dat (.int 0), .dat (hCome c), .dat (.lst [line (hCome c)]), .dat (.lst []), .no] ?_
    refine xm 0 (W := W) (F := F) C3 (ac (nm 1) (ac (tp (ac (nm 3) (ac (li (d := .tup (P.map encP)) (Ev.to (ev_sliceT (nm 4) eo_none (eo_some (ev_neg ev_int))) (by rw [e1, cut_last]))) (ac (nm 5) (ac (nm 6) (a1 (nm 8))))))) (a1 (tp (ac (nm 15) (ac (nm 16) (a1 (nm 2)))))))) ⟨g, s.t.come c, t', P, s.turn, _, deed, s.coins, [line (hCome c)], more, ch, S.knows, L1, L, hP, by omega, hT, by show 1 ≤ 10; decide, rfl, rfl, rfl⟩ fun W2 e2 => ?_
    exact x_nil ⟨rfl, W2, e2, rfl⟩
theorem sc_tb : FnScope ["self", "deed", "choices", "table", "pile", "turn", "word", "passes", "coins", "over", "purses", "happening", "line", "calls"] ["self", "deed", "choices"] (defScope s_Fight_turn_begun) := ⟨rfl, rfl, rfl, by decide +kernel, rfl, by decide +kernel, by decide +kernel⟩
def R_tb (F : FigD) (ds : List Dt) (F' : FigD) (d : Dt) : Prop := ∃ (g : Gd) (s : Sn) (tn : Nat) (deed : Dt) (ch : List Dt), Stands g s F ∧ To g s.t ∧ tn = (s.turn + 1) % g.n ∧ tn < g.n ∧ s.coins.length = g.n ∧ Sd g (s.t.draw tn) ∧ worn g (s.t.draw tn) = [] ∧
  ds = [deed, .lst ch] ∧ F' = F.on deed (encS g ⟨s.t.draw tn, [], tn, tn, 0, s.coins.set tn 5⟩) [line (hDraw tn)] ∧ d = .non
theorem k_tb {M : Gm} (T : Tx M) (C : KeepsP M 1 "stand" R_stand) (C1 : Keeps M 1 "next_player" R_next_player) (C2 : Keeps M 5 "put_and_done" R_put_and_done) (C3 : KeepsM M 7 "settled" R_settled []) {f : Addr} {fd : FuncData} (F : Mt M "turn_begun" "Fight.turn_begun" s_Fight_turn_begun [] f fd) : KeepsM M 8 "turn_begun" R_tb [] := by
  refine keepsM_of T F sc_tb (fun F ds F' d h => ?_) (fun _ _ _ _ _ _ us hl => match us, hl with | [_, _, _], _ => rfl) (fun W F ds F' d h => ?_)
  · obtain ⟨_, _, _, _, _, _, _, _, _, _, _, _, rfl, _⟩ := h
    rfl
  · obtain ⟨g, s, tn, deed, ch, S, L0, etn, htn, hcn, L1, hw, rfl, rfl, rfl⟩ := h
    have hN : Nn g := ⟨L0.n2, L0.n4⟩
    refine xt (is := [3, 4, 5, 6, 7, 8, 9]) (mt0 0 (W := W) (F := F) (d := .tup (encL g s)) C ⟨rfl, S.st⟩) (gc (tN 3) (gc (tN 4) (gc (tN 5) (gc (tN 6) (gc (tN 7) (gc (tN 8) (gc (tN 9) tgs_nil))))))) ?_
    refine xa 5 (d := .int (tn : Nat)) (ca C1 (ac (nm 3) (a1 (nm 5))) ⟨g, s.t, s.turn, hN, rfl, by rw [etn]⟩) ?_
    refine Exe.at [.fig W F, .dat deed, .dat (.lst ch), .dat (.tup (encT g s.t)), .dat (.tup (s.pile.map encP)), .dat (.int (tn : Nat)), .dat (.int (s.word : Nat)), .dat (.int (s.passes : Nat)), .dat (cI s.coins), .dat .non, .no, .no, .no, .no] ?_
    refine xo 10 (liN (d := cI s.coins) (nm 8)) fun q => ?_
    refine xs (ds := s.coins.map .int) (q := q) 10 tn (gI T.i7) (nm 5) ?_ (ixN_nat (by rw [List.length_map, hcn]; exact htn))
    refine xa 11 (d := hDraw tn) (tp (ac ev_str (ac (mi (ev_neg ev_int) (nm 5)) (a1 ev_int)))) ?_
    refine xt (ca C2 (ac (ff 0 .known) (ac (ff 0 .keepers) (ac (nm 3) (ac (nm 11) (a1 (nm 2)))))) ⟨g, s.t, .draw tn, ch, L0, htn, L1.toLy, by rw [S.kn, S.ke]; rfl, rfl⟩) (gc (tN 3) (gc (tN 12) (gc (tN 13) (gc (tN 2) tgs_nil)))) ?_
    refine Exe.at [.fig W F, .dat deed, .dat (.lst ch), .dat (.tup (encT g (s.t.draw tn))), .dat (.tup (s.pile.map encP)), .dat (.int (tn : Nat)), .dat (.int (s.word : Nat)), .dat (.int (s.passes : Nat)), .dat (cI s.coins), .dat .non, .own q ((s.coins.map .int).set tn (.int 5)), .dat (hDraw tn), .dat (line (hDraw tn)), .dat (.lst [])] ?_
    refine xm 0 (W := W) (F := F) C3 (ac (nm 1) (ac (tp (ac (nm 3) (ac (ls ea_nil) (ac (nm 5) (ac (nm 6) (a1 (tum (ow 10)))))))) (a1 (tp (ac (ls (a1 (nm 12))) (ac (nm 13) (a1 (nm 2)))))))) ⟨g, s.t.draw tn, s.t.draw tn, [], tn, .int (s.word : Nat), deed, s.coins.set tn 5, [line (hDraw tn)], [], ch, S.knows, L1, .rest hw, (fun _ h => nomatch h), by decide, htn, by show 1 ≤ 10; decide, ?_, rfl, rfl⟩ fun W2 e2 => ?_
    · unfold cI
      rw [List.map_set]
      rfl
    · exact x_nil ⟨rfl, W2, e2, rfl⟩
end Ts

set_option Elab.async false
set_option linter.all false
set_option maxRecDepth 100000
set_option maxHeartbeats 1000000
/-! S4: the plain law: what holds of every stand, and that the deeds keep it. -/
namespace Ts
open PySem L2
def sumL (l : List (List Nat)) : Nat := (l.map List.length).sum
structure InvS (g : Gd) (s : Sn) : Prop where
  ol : g.ow.length = g.cs.length
  m : g.cs.length ≤ 16
  n2 : 2 ≤ g.n
  n4 : g.n ≤ 4
  dl : s.t.decks.length = g.n
  hl : s.t.hands.length = g.n
  dk : ∀ l ∈ s.t.decks, ∀ c ∈ l, c < g.cs.length
  hd : ∀ l ∈ s.t.hands, ∀ c ∈ l, c < g.cs.length
  ly : ∀ c ∈ s.t.lying, c < g.cs.length
  lf : ∀ c ∈ s.t.lying, 0 < g.force c
  hs : s.t.heap.Pairwise (· ≤ ·)
  pl : ∀ q ∈ s.pile, q.1 < g.n ∧ q.2 < g.cs.length
  wn : s.word < g.n
  tn : s.turn < g.n
  cn : s.coins.length = g.n
  cnt : sumL s.t.decks + sumL s.t.hands + s.t.lying.length + s.t.heap.length + s.pile.length ≤ 16
theorem sum_mem : ∀ {l : List (List Nat)} {x : List Nat}, x ∈ l → x.length ≤ sumL l
  | y :: l, x, h => by
    unfold sumL
    rw [List.map_cons, List.sum_cons]
    rcases List.mem_cons.mp h with rfl | h
    · omega
    · have := sum_mem h
      unfold sumL at this
      omega
theorem sum_set : ∀ {l : List (List Nat)} {i : Nat} {x y : List Nat}, l[i]? = some x → sumL (l.set i y) + x.length = sumL l + y.length
  | [], i, x, y, h => by simp at h
  | z :: l, 0, x, y, h => by
    rw [List.getElem?_cons_zero] at h
    cases h
    unfold sumL
    rw [List.set_cons_zero, List.map_cons, List.map_cons, List.sum_cons, List.sum_cons]
    omega
  | z :: l, i + 1, x, y, h => by
    rw [List.getElem?_cons_succ] at h
    have := sum_set (y := y) h
    unfold sumL at this ⊢
    rw [List.set_cons_succ, List.map_cons, List.map_cons, List.sum_cons, List.sum_cons]
    omega
theorem mem_set {A : Type} {l : List A} {i : Nat} {a x : A} (h : x ∈ l.set i a) : x ∈ l ∨ x = a := List.mem_or_eq_of_mem_set h
theorem InvS.to {g : Gd} {s : Sn} (h : InvS g s) : Sd g s.t where
  ol := h.ol
  m := h.m
  ly := h.ly
  ll := by have := h.cnt; omega
  hh := by have := h.cnt; omega
  dl := h.dl
  hl := h.hl
  n4 := h.n4
  dk := fun l hl => by have := sum_mem hl; have := h.cnt; omega
  hd := fun l hl => by have := sum_mem hl; have := h.cnt; omega
  n2 := h.n2
  hs := h.hs
/-! ### who is worn out -/
theorem row_force (g : Gd) (p : Nat × Nat) : (g.row p).card.force = g.force p.1 := rfl
theorem worn_nil {g : Gd} {t : Tb} (h : ∀ c ∈ t.lying, 0 < g.force c) : worn g t = [] := by
  unfold worn
  rw [List.filter_eq_nil_iff.mpr fun w hw => ?_]
  · rfl
  · have hw := (sight_perm _).subset hw
    unfold Gd.rows at hw
    obtain ⟨p, hp, rfl⟩ := List.mem_map.mp hw
    have := h _ (zip_mem hp)
    rw [decide_eq_true_eq, row_force]
    omega
theorem filter_rows {g : Gd} : ∀ {l : List Nat} (n : Nat), (∀ c ∈ l, 0 < g.force c) → ((l.zipIdx n).map g.row).filter (fun w => decide ((w.card.force : Int) ≤ 0)) = []
  | [], _, _ => rfl
  | x :: l, n, h => by
    rw [List.zipIdx_cons, List.map_cons, List.filter_cons_of_neg, filter_rows (n + 1) fun c hc => h c (List.mem_cons_of_mem _ hc)]
    have := h x (List.mem_cons_self ..)
    rw [row_force]
    simp
    omega
theorem worn_one {g : Gd} {t : Tb} {c : Nat} (h : ∀ c ∈ t.lying, 0 < g.force c) (hc : g.force c = 0) : worn g (t.come c) = [c] := by
  have e : ((g.rows (t.lying ++ [c])).filter fun w => decide ((w.card.force : Int) ≤ 0)) = [g.row (c, t.lying.length)] := by
    unfold Gd.rows
    rw [List.zipIdx_append, List.map_append, List.filter_append, filter_rows 0 h, List.nil_append, Nat.zero_add]
    show List.filter _ [g.row (c, t.lying.length)] = _
    rw [List.filter_cons_of_pos]
    · rfl
    · rw [row_force, hc]
      decide
  have p := (sight_perm (g.rows (t.lying ++ [c]))).filter fun w => decide ((w.card.force : Int) ≤ 0)
  rw [e] at p
  unfold worn
  show ((sight (g.rows (t.lying ++ [c]))).filter fun w => decide ((w.card.force : Int) ≤ 0)).map Row.num = [c]
  rw [List.perm_singleton.mp p]
  rfl
/-! ### what the deeds do -/
def Tb.comes (g : Gd) (t : Tb) (c : Nat) : Tb := if g.force c = 0 then { t with heap := sortN (t.heap ++ [c]) } else t.come c
def comeLog (g : Gd) (c : Nat) : List Hap := if g.force c = 0 then [.come c, .leave c] else [.come c]
def Sn.cameS (g : Gd) (s : Sn) (P : List (Nat × Nat)) (c : Nat) : Sn := ⟨s.t.comes g c, P, s.turn, s.turn, 0, s.coins⟩
def Sn.nx (g : Gd) (s : Sn) : Nat := (s.turn + 1) % g.n
def Sn.turnS (g : Gd) (s : Sn) : Sn := ⟨s.t.draw (s.nx g), [], s.nx g, s.nx g, 0, s.coins.set (s.nx g) 5⟩
def Sn.passS (g : Gd) (s : Sn) : Sn := ⟨s.t, s.pile, s.turn, (s.word + 1) % g.n, s.passes + 1, s.coins⟩
inductive LetTo (g : Gd) (s : Sn) : Sn → List Hap → Prop
  | pass : s.passes + 1 < g.n → LetTo g s (s.passS g) []
  | turn : ¬ s.passes + 1 < g.n → s.pile = [] → LetTo g s (s.turnS g) [.draw (s.nx g)]
  | came (P : List (Nat × Nat)) (p c : Nat) : ¬ s.passes + 1 < g.n → s.pile = P ++ [(p, c)] → LetTo g s (s.cameS g P c) (comeLog g c)
theorem leave_come {g : Gd} {t : Tb} {c : Nat} (h : ∀ x ∈ t.lying, 0 < g.force x) (hc : g.force c = 0) : (t.come c).leave c = t.comes g c := by
  unfold Tb.comes Tb.leave Tb.come
  rw [if_pos hc]
  have e : (t.lying ++ [c]).filter (fun x => !decide (x = c)) = t.lying := by
    rw [List.filter_append, List.filter_eq_self.mpr fun x hx => ?_]
    · simp
    · have := h x hx
      have : x ≠ c := fun e => by subst e; omega
      simp [this]
  show Tb.mk _ _ ((t.lying ++ [c]).filter _) _ = _
  rw [e]
theorem come_sd {g : Gd} {s : Sn} {P : List (Nat × Nat)} {p c : Nat} (h : InvS g s) (hp : s.pile = P ++ [(p, c)]) : c < g.cs.length ∧ Sd g (s.t.come c) ∧ Look g (s.t.come c) (s.t.comes g c) ((comeLog g c).tail.map fun h => line h.dt) := by
  have hc : c < g.cs.length := (h.pl (p, c) (by rw [hp]; simp)).2
  have S := h.to
  have hl : s.t.lying.length ≤ 16 := by have := h.cnt; omega
  have S1 : Sd g (s.t.come c) := ⟨⟨⟨⟨S.ol, S.m, fun x hx => ?_, ?_⟩, S.hh⟩, ⟨S.dl, S.hl, S.n4, S.dk, S.hd⟩, S.n2⟩, S.hs⟩
  · refine ⟨hc, S1, ?_⟩
    by_cases hf : g.force c = 0
    · have e := leave_come h.lf hf
      unfold comeLog
      rw [if_pos hf, ← e]
      have cnt := h.cnt
      refine .out c (worn_one h.lf hf) (List.mem_append_right _ (List.mem_singleton.mpr rfl)) ?_ ?_
      · rw [e]
        unfold Tb.comes
        rw [if_pos hf]
        refine ⟨⟨⟨⟨S.ol, S.m, S.ly, S.ll⟩, ?_⟩, ⟨S.dl, S.hl, S.n4, S.dk, S.hd⟩, S.n2⟩, sortN_sorted _⟩
        show (sortN _).length ≤ 100
        rw [sortN_len, List.length_append, List.length_singleton]
        omega
      · rw [e]
        unfold Tb.comes
        rw [if_pos hf]
        exact worn_nil h.lf
    · unfold comeLog Tb.comes
      rw [if_neg hf, if_neg hf]
      refine .rest (worn_nil fun x hx => ?_)
      rcases List.mem_append.mp hx with hx | hx
      · exact h.lf x hx
      · rw [List.mem_singleton.mp hx]
        omega
  · rcases List.mem_append.mp hx with hx | hx
    · exact h.ly x hx
    · rw [List.mem_singleton.mp hx]
      exact hc
  · show (s.t.lying ++ [c]).length ≤ 100
    rw [List.length_append, List.length_singleton]
    omega
theorem nx_lt {g : Gd} {s : Sn} (h : InvS g s) : s.nx g < g.n := Nat.mod_lt _ (by have := h.n2; omega)
theorem draw_cnt {t : Tb} {p : Nat} (h1 : p < t.decks.length) (h2 : p < t.hands.length) : sumL (t.draw p).decks + sumL (t.draw p).hands = sumL t.decks + sumL t.hands := by
  have e1 := get_D (z := []) h1
  have e2 := get_D (z := []) h2
  have a := sum_set (y := (t.decks.getD p []).drop 1) e1
  have b := sum_set (y := sortN (t.hands.getD p [] ++ (t.decks.getD p []).take 1)) e2
  rw [sortN_len, List.length_append, List.length_take] at b
  rw [List.length_drop] at a
  show sumL (t.decks.set _ _) + sumL (t.hands.set _ _) = _
  omega
theorem turn_inv {g : Gd} {s : Sn} (h : InvS g s) (hp : s.pile = []) : InvS g (s.turnS g) := by
  have hn := nx_lt h
  have e1 := get_D (l := s.t.decks) (z := []) (show s.nx g < _ by rw [h.dl]; exact hn)
  have e2 := get_D (l := s.t.hands) (z := []) (show s.nx g < _ by rw [h.hl]; exact hn)
  have cnt := draw_cnt (t := s.t) (p := s.nx g) (by rw [h.dl]; exact hn) (by rw [h.hl]; exact hn)
  refine ⟨h.ol, h.m, h.n2, h.n4, ?_, ?_, fun l hl c hc => ?_, fun l hl c hc => ?_, h.ly, h.lf, h.hs, (fun _ h => nomatch h), hn, hn, ?_, ?_⟩
  · show (s.t.decks.set _ _).length = _
    rw [List.length_set]
    exact h.dl
  · show (s.t.hands.set _ _).length = _
    rw [List.length_set]
    exact h.hl
  · rcases mem_set hl with hl | rfl
    · exact h.dk l hl c hc
    · exact h.dk _ (List.mem_of_getElem? e1) c (List.mem_of_mem_drop hc)
  · rcases mem_set hl with hl | rfl
    · exact h.hd l hl c hc
    · rcases List.mem_append.mp ((sortN_perm _).subset hc) with hc | hc
      · exact h.hd _ (List.mem_of_getElem? e2) c hc
      · exact h.dk _ (List.mem_of_getElem? e1) c (List.mem_of_mem_take hc)
  · show (s.coins.set _ _).length = _
    rw [List.length_set]
    exact h.cn
  · have c0 := h.cnt
    rw [hp] at c0
    show sumL (s.t.draw (s.nx g)).decks + sumL (s.t.draw (s.nx g)).hands + s.t.lying.length + s.t.heap.length + 0 ≤ 16
    have : ([] : List (Nat × Nat)).length = 0 := rfl
    omega
theorem pass_inv {g : Gd} {s : Sn} (h : InvS g s) : InvS g (s.passS g) :=
  ⟨h.ol, h.m, h.n2, h.n4, h.dl, h.hl, h.dk, h.hd, h.ly, h.lf, h.hs, h.pl, Nat.mod_lt _ (by have := h.n2; omega), h.tn, h.cn, h.cnt⟩
theorem came_inv {g : Gd} {s : Sn} {P : List (Nat × Nat)} {p c : Nat} (h : InvS g s) (hp : s.pile = P ++ [(p, c)]) : InvS g (s.cameS g P c) := by
  have hc := (come_sd h hp).1
  have cnt := h.cnt
  rw [hp, List.length_append, List.length_singleton] at cnt
  have hP : ∀ q ∈ P, q.1 < g.n ∧ q.2 < g.cs.length := fun q hq => h.pl q (by rw [hp]; exact List.mem_append_left _ hq)
  by_cases hf : g.force c = 0
  · unfold Sn.cameS Tb.comes
    rw [if_pos hf]
    refine ⟨h.ol, h.m, h.n2, h.n4, h.dl, h.hl, h.dk, h.hd, h.ly, h.lf, sortN_sorted _, hP, h.tn, h.tn, h.cn, ?_⟩
    show sumL s.t.decks + sumL s.t.hands + s.t.lying.length + (sortN _).length + P.length ≤ 16
    rw [sortN_len, List.length_append, List.length_singleton]
    omega
  · unfold Sn.cameS Tb.comes
    rw [if_neg hf]
    refine ⟨h.ol, h.m, h.n2, h.n4, h.dl, h.hl, h.dk, h.hd, fun x hx => ?_, fun x hx => ?_, h.hs, hP, h.tn, h.tn, h.cn, ?_⟩
    · rcases List.mem_append.mp hx with hx | hx
      · exact h.ly x hx
      · rw [List.mem_singleton.mp hx]
        exact hc
    · rcases List.mem_append.mp hx with hx | hx
      · exact h.lf x hx
      · rw [List.mem_singleton.mp hx]
        omega
    · show sumL s.t.decks + sumL s.t.hands + (s.t.lying ++ [c]).length + s.t.heap.length + P.length ≤ 16
      rw [List.length_append, List.length_singleton]
      omega
theorem LetTo.inv {g : Gd} {s s' : Sn} {hs : List Hap} (l : LetTo g s s' hs) (h : InvS g s) : InvS g s' := by
  cases l with
  | pass => exact pass_inv h
  | turn _ hp => exact turn_inv h hp
  | came P p c _ hp => exact came_inv h hp
theorem LetTo.len {g : Gd} {s s' : Sn} {hs : List Hap} (l : LetTo g s s' hs) : hs.length ≤ 2 := by
  cases l with
  | pass => exact Nat.zero_le _
  | turn _ hp => show 1 ≤ 2; decide
  | came P p c _ hp =>
    unfold comeLog
    split
    · exact Nat.le_refl _
    · show 1 ≤ 2; decide
theorem played_inv {g : Gd} {s : Sn} {c : Nat} (h : InvS g s) (k : CanP g s c) : InvS g (s.played g c) := by
  have e := get_D (l := s.t.hands) (z := []) (show s.word < _ by rw [h.hl]; exact h.wn)
  have a := sum_set (y := (s.t.hands.getD s.word []).filter fun y => !decide (y = c)) e
  have lt : ((s.t.hands.getD s.word []).filter fun y => !decide (y = c)).length + 1 ≤ (s.t.hands.getD s.word []).length := by
    refine List.length_filter_lt_length_iff_exists.mpr ⟨c, k.ih, ?_⟩
    simp
  have cnt := h.cnt
  refine ⟨h.ol, h.m, h.n2, h.n4, h.dl, ?_, h.dk, fun l hl x hx => ?_, h.ly, h.lf, h.hs, fun q hq => ?_, h.wn, h.tn, ?_, ?_⟩
  · show (s.t.hands.set _ _).length = _
    rw [List.length_set]
    exact h.hl
  · rcases mem_set hl with hl | rfl
    · exact h.hd l hl x hx
    · exact h.hd _ (List.mem_of_getElem? e) x (List.mem_filter.mp hx).1
  · rcases List.mem_append.mp hq with hq | hq
    · exact h.pl q hq
    · rw [List.mem_singleton.mp hq]
      exact ⟨h.wn, k.ol⟩
  · show (s.coins.set _ _).length = _
    rw [List.length_set]
    exact h.cn
  · show sumL s.t.decks + sumL (s.t.hands.set _ _) + s.t.lying.length + s.t.heap.length + (s.pile ++ [(s.word, c)]).length ≤ 16
    rw [List.length_append, List.length_singleton]
    omega
end Ts

set_option Elab.async false
set_option linter.all false
set_option maxRecDepth 100000
set_option maxHeartbeats 1000000
/-! P12: let. -/
namespace Ts
open PySem L2
theorem sc_let : FnScope ["self", "player", "choices", "reason", "handed", "deed", "table", "pile", "turn", "word", "passes", "coins", "over", "still", "one"] ["self", "player", "choices"] (defScope s_Fight_let) := ⟨rfl, rfl, rfl, by decide +kernel, rfl, by decide +kernel, by decide +kernel⟩
def lineL (hs : List Hap) : List Dt := hs.map fun h => line h.dt
def R_let (F : FigD) (ds : List Dt) (F' : FigD) (d : Dt) : Prop := ∃ (g : Gd) (s s' : Sn) (hs : List Hap) (ch : List Dt) (cv : Dt), Stands g s F ∧ InvS g s ∧ LetTo g s s' hs ∧ (cv = .non ∧ ch = [] ∨ cv = .lst ch) ∧ ds = [.int (s.word : Nat), cv] ∧ F' = F.on (deedL s.word ch) (encS g s') (lineL hs) ∧ d = .non
theorem fn_let {M : Gm} (T : Tx M) (C0 : KeepsP M 2 "why_not_speak" R_wns) (C : KeepsP M 1 "stand" R_stand) (C1 : Keeps M 1 "next_player" R_next_player) (C2 : KeepsM M 1 "on" R_on []) (C3 : KeepsM M 8 "top_done" R_top []) (C4 : KeepsM M 8 "turn_begun" R_tb []) {f : Addr} {fd : FuncData} (F : Mt M "let" "Fight.let" s_Fight_let [.non] f fd) :
    FnOk M.P M.w M.K M.mg M.base CX0 9 f fd ["self", "player", "choices"] (spM M R_let) := by
  refine fn_meth F.1 sc_let (fun F ds F' d h => ?_) (fun W F ds F' d h => ?_)
  · obtain ⟨_, _, _, _, _, _, _, _, _, _, rfl, _⟩ := h
    rfl
  · obtain ⟨g, s, s', hs, ch, cv, S, I, L, hcv, rfl, rfl, rfl⟩ := h
    have h2 := I.n2
    have h4 := I.n4
    have hN : Nn g := ⟨h2, h4⟩
    refine xa 3 (mt 0 (W := W) (F := F) C0 (a1 (nm 1)) ⟨g, s, S, rfl, rfl⟩) ?_
    refine x_ifF0 (tc (d1 := .non) (nm 3) ev_non (lk (.notN _) rfl)) ?_
    refine xa 4 (ls ea_nil) ?_
    have tail : Exe M ["self", "player", "choices", "reason", "handed", "deed", "table", "pile", "turn", "word", "passes", "coins", "over", "still", "one"] (defScope s_Fight_let) 8 ((defBody s_Fight_let).drop 4) [.fig W F, .dat (.int (s.word : Nat)), .dat cv, .dat .non, .dat (.lst ch), .no, .no, .no, .no, .no, .no, .no, .no, .no, .no] (dnM W (F.on (deedL s.word ch) (encS g s') (lineL hs)) .non) := by
      refine xa 5 (d := deedL s.word ch) (tp (ac ev_str (ac (nm 1) (a1 (tu (nm 4)))))) ?_
      refine xt (is := [6, 7, 8, 9, 10, 11, 12]) (mt0 0 (W := W) (F := F) (d := .tup (encL g s)) C ⟨rfl, S.st⟩) (gc (tN 6) (gc (tN 7) (gc (tN 8) (gc (tN 9) (gc (tN 10) (gc (tN 11) (gc (tN 12) tgs_nil))))))) ?_
      refine xa 13 (d := .int (g.n : Nat)) (le (n := g.n) (d := .lst (List.replicate g.n (.bl false))) (EvN.ev (EvN.to (lcf (A := Nat) (enc := fun _ => .bl false) (xs := List.range g.n) [("one", 14)] (fun _ => true) (fun _ => .bl false) (r2 := fun _ => [.fig W F, .dat (.int (s.word : Nat)), .dat cv, .dat .non, .dat (.lst ch), .dat (deedL s.word ch), .dat (.tup (encT g s.t)), .dat (.tup (s.pile.map encP)), .dat (.int (s.turn : Nat)), .dat (.int (s.word : Nat)), .dat (.int (s.passes : Nat)), .dat (cI s.coins), .dat .non, .no, .dat (.bl false)]) (EvI.to (ei_tup (ds := List.replicate g.n (.bl false)) (ix (nm 6) ev_int)) (by rw [map_const, List.length_range])) (fun _ _ => tN 14) (fun _ _ => EvT.to (et_not (tv (nm 14))) rfl) (fun _ _ _ => nm 14) (by rw [List.length_range]; omega)) (by rw [filter_all, map_const, List.length_range]))) (congrArg some List.length_replicate)) ?_
      refine Exe.at [.fig W F, .dat (.int (s.word : Nat)), .dat cv, .dat .non, .dat (.lst ch), .dat (deedL s.word ch), .dat (.tup (encT g s.t)), .dat (.tup (s.pile.map encP)), .dat (.int (s.turn : Nat)), .dat (.int (s.word : Nat)), .dat (.int (s.passes : Nat)), .dat (cI s.coins), .dat .non, .dat (.int (g.n : Nat)), .no] ?_
      cases L with
      | pass hp =>
        refine x_ifT (tc (pl (nm 10) ev_int) (nm 13) (lk (.lt _ _) (decide_eq_true (by omega)))) ?_
        refine xm 0 (W := W) (F := F) C2 (ac (nm 5) (ac (tp (ac (nm 6) (ac (nm 7) (ac (nm 8) (ac (ca C1 (ac (nm 6) (a1 (nm 9))) ⟨g, s.t, s.word, hN, rfl, rfl⟩) (ac (pl (nm 10) ev_int) (ac (nm 11) (a1 (nm 12))))))))) (a1 (ls ea_nil)))) ⟨_, _, [], S.sl, S.pl, rfl, rfl, rfl⟩ fun W2 e2 => ?_
        exact x_nil (x_nil ⟨rfl, W2, e2, rfl⟩)
      | turn hp hpile =>
        have L1 := (turn_inv I hpile).to
        refine x_ifF (tc (pl (nm 10) ev_int) (nm 13) (lk (.lt _ _) (decide_eq_false (by omega)))) ?_
        refine x_ifF (tc (le (n := s.pile.length) (d := .tup (s.pile.map encP)) (nm 7) (by show some _ = _; rw [List.length_map])) ev_int (lk (.gt _ _) (decide_eq_false (by rw [hpile]; decide)))) ?_
        refine xm 0 (W := W) (F := F) C4 (ac (nm 5) (a1 (nm 4))) ⟨g, s, s.nx g, _, ch, S, I.to.toTo, rfl, nx_lt I, I.cn, L1, worn_nil I.lf, rfl, rfl, rfl⟩ fun W2 e2 => ?_
        exact x_nil (x_nil (x_nil ⟨rfl, W2, e2, rfl⟩))
      | came P p c hp hpile =>
        obtain ⟨hc, L1, Lk⟩ := come_sd I hpile
        have cnt := I.cnt
        have hPl : P.length ≤ 16 := by
          rw [hpile, List.length_append] at cnt
          omega
        refine x_ifF (tc (pl (nm 10) ev_int) (nm 13) (lk (.lt _ _) (decide_eq_false (by omega)))) ?_
        refine x_ifT (tc (le (n := s.pile.length) (d := .tup (s.pile.map encP)) (nm 7) (by show some _ = _; rw [List.length_map])) ev_int (lk (.gt _ _) (decide_eq_true (by rw [hpile, List.length_append, List.length_singleton]; omega)))) ?_
        refine xm 0 (W := W) (F := F) C3 (ac (nm 5) (a1 (nm 4))) ⟨g, s, P, p, c, _, _, _, ch, S, hpile, I.to.toTo, hc, L1, Lk, (fun q hq => (I.pl q (by rw [hpile]; exact List.mem_append_left _ hq)).1), by omega, I.tn, rfl, rfl, rfl⟩ fun W2 e2 => ?_
        refine x_nil (x_nil (x_nil ⟨rfl, W2, e2, ?_⟩))
        have el : line (hCome c) :: (comeLog g c).tail.map (fun h => line h.dt) = lineL (comeLog g c) := by
          unfold comeLog
          split <;> rfl
        rw [← el]
        rfl
    rcases hcv with ⟨rfl, rfl⟩ | rfl
    · exact x_ifF0 (tc (d1 := .non) (nm 2) ev_non (lk (.notN _) rfl)) tail
    · exact x_ifT (tc (nm 2) ev_non (lk (.notN _) rfl)) (xa 4 (li (nm 2)) (x_nil tail))
theorem k_let {M : Gm} (T : Tx M) {f : Addr} {fd : FuncData} (F : Mt M "let" "Fight.let" s_Fight_let [.non] f fd) (h : FnOk M.P M.w M.K M.mg M.base CX0 9 f fd ["self", "player", "choices"] (spM M R_let)) : KeepsM M 9 "let" R_let [] := by
  obtain ⟨ds, v, b⟩ := F.1.binds1 (ps := ["self", "player", "choices"]) 3 1 (by decide) rfl (fun T kV doc pm an cdv ct us its h1 h2 => match us, its, h1, h2 with | [_, _, _], [_], _, _ => ⟨_, rfl, rfl⟩)
  exact ⟨f, fd, _, ds, T.cf, F.2, h, b, v⟩
theorem k_let1 {M : Gm} (T : Tx M) {f : Addr} {fd : FuncData} (F : Mt M "let" "Fight.let" s_Fight_let [.non] f fd) (h : FnOk M.P M.w M.K M.mg M.base CX0 9 f fd ["self", "player", "choices"] (spM M R_let)) : KeepsM M 9 "let" R_let [.non] := by
  obtain ⟨ds, v, b⟩ := F.1.binds1 (ps := ["self", "player", "choices"]) 2 0 (by decide) rfl (fun T kV doc pm an cdv ct us its h1 h2 => match us, its, h1, h2 with | [_, _], [_], _, _ => ⟨_, rfl, rfl⟩)
  exact ⟨f, fd, _, ds, T.cf, F.2, h, b, v⟩
end Ts

set_option Elab.async false
set_option linter.all false
set_option maxRecDepth 100000
set_option maxHeartbeats 1000000
/-! DF: a fight made. -/
namespace Ts
open PySem L2
def s0 (dk : Dk) : Sn := ⟨tbOf dk, [], 0, 0, 0, (List.range dk.length).map fun j => 5 * (if decide (j = 0) then 1 else 0)⟩
def fig0 (dk : Dk) : FigD := ⟨(gdOf dk).cd, nI (gdOf dk).ow, [encS (gdOf dk) (s0 dk)], [], []⟩
abbrev N_fi : List Str := ["self", "decks", "table", "coins", "player"]
theorem sc_fi : FnScope N_fi ["self", "decks"] (defScope s_Fight_init) := ⟨rfl, rfl, rfl, by decide +kernel, rfl, by decide +kernel, by decide +kernel⟩
def spFight (M : Gm) : Sp := fun vs H Q _ => ∃ (G : Hp) (x dx : Addr) (w : V) (dk : Dk), vs = [.ref x, w] ∧ DkOk dk ∧ Same G H ∧ G x = none ∧ Rp M G w (dksT dk) ∧ H x = some (.ins M.CF dx []) ∧
  ∀ G' H' W, W.self = x → GrowF [x] G H G' H' → W.ft.Nodup → (∀ p ∈ W.ft, G' p = none) → H W.st = none → H W.pa = none → FigOk M G' H' W (fig0 dk) → Q .non H'
theorem Fr.put {M : Gm} {H0 G0 G H : Hp} {sg : L2.St} {r : List Sl} {x : Addr} {o : HO} (F : Fr M H0 G0 G H sg r) (h0 : H0 x = none) (hG : G x = none) (hf : x ∉ feet r) : Fr M H0 G0 G (upd H x o) sg r :=
  ⟨F.sl.other hf, F.nd, F.fr, same_mut F.e0 h0, F.g0, same_mut F.gh hG, F.nw⟩
theorem k_Fight {M : Gm} (T : Tx M) (C : Keeps M 4 "begun" R_begun) {f : Addr} {fd : FuncData} (F : FunD M.K "__init__" "Fight.__init__" (defArgs s_Fight_init) (defBody s_Fight_init) (defScope s_Fight_init) [] [] f fd) (mk : Mk M.K M.CF f) (hm : M.mg "Fight" = some (.ref M.CF)) : C8.Mak M.P M.w M.K M.mg M.base 5 "Fight" M.CF (spFight M) [] := by
  refine ⟨f, fd, ["self", "decks"], [], mk, F.ok sc_fi (fun vs H Q E h => ?_) (fun cdv A outer s H vs Q E hr h => ?_), hm, F.bindsN (fun _ _ _ _ _ _ us hl => match us, hl with | [_, _], _ => rfl), .nil⟩
  · obtain ⟨G, x, dx, w, dk, rfl, _⟩ := h
    rfl
  · obtain ⟨G, x, dx, w, dk, rfl, L, hGH, hGx, rw0, hx, q⟩ := h
    have hX := xok_fn (M := M) (qual := "Fight.__init__") (f := f) (k := 4) sc_fi hr (cdv := cdv) (A := A) (outer := outer) (s := s) (H := H) (E := E)
    suffices z : wSs (cxOf CX0 M.P M.w M.K M.mg M.base N_fi "Fight.__init__" (defScope s_Fight_init) f cdv A outer s H E).nox (defBody s_Fight_init) { nx := fun _ H' => Q .non H', rt := Q } (L2.start N_fi [.ref x, w]) H by
      obtain ⟨t, pt, z⟩ := z
      exact ⟨t, PSs.nox pt, z⟩
    generalize hXe : (cxOf CX0 M.P M.w M.K M.mg M.base N_fi "Fight.__init__" (defScope s_Fight_init) f cdv A outer s H E).nox = X at hX
    have hgm := hX.gm
    have hK : M.K = X.K := by rw [hgm]
    have n2 := L.n2
    have n4 := L.n4
    have l0 : ∀ a, a ∈ [x] ↔ a = x := fun a => List.mem_singleton
    have fr : Fr M (less [x] H) G G H (L2.start N_fi [.ref x, w]) [.no, .dat (dksT dk), .no, .no, .no] :=
      ⟨.cons .no (.cons (.dat rw0) (.cons .no (.cons .no (.cons .no .nil)))), List.nodup_nil, (fun p hp => nomatch hp), fun a o z => (less_some z).2, .refl _, hGH, fun _ _ _ n => n⟩
    have hlx : less [x] H x = none := less_in (List.mem_singleton.mpr rfl)
    have pv : ∀ p : Pos, PE X (.Name "self" p) (tVar 0) := fun p => pe_var (by rw [hX.nm]; rfl) (by rw [hX.scp]; exact .inl rfl) (by decide) (by decide)
    -- the first line
    refine ⟨_, pss_cons (ps_asg pe_w (pg_tup hX.calm (pgs_cons (pg_attr (pv _)) (pgs_cons (pg_attr (pv _)) (pgs_cons (pg_name (i := 2) (by rw [hX.nm]; exact hX.nd) (by rw [hX.nm]; rfl) (by rw [hX.scp]; first | exact .inl rfl | exact .inr rfl) (by rw [hX.scp]; first | exact .inr rfl | exact .inl (hX.cell rfl _ rfl))) pgs_nil))))) pss_w, ?_⟩
    refine (ca (N := N_fi) (sc := defScope s_Fight_init) (k := 4) (d := .tup [.lst (gdOf dk).cd, .lst (nI (gdOf dk).ow), .tup (encT (gdOf dk) (tbOf dk))]) C (a1 (nm 1)) ⟨dk, L, rfl, rfl⟩) X hX _ _ _ _ _ fr _ fun v G1 H1 g1 r1 => ?_
    cases r1 with
    | tup h1 a1 =>
      cases a1 with
      | @cons v1 _ _ _ rv1 a1 => cases a1 with
        | @cons v2 _ _ _ rv2 a1 => cases a1 with
          | @cons v3 _ _ _ rv3 a1 =>
            cases a1
            have hx1 := g1.h _ _ hx
            refine ⟨_, _, rfl, by rw [← hK]; exact same_t g1.i h1, rfl, v1, _, rfl, .ref x, rfl, x, M.CF, dx, _, rfl, hx1, by rw [← hK]; exact T.cf, by rw [← hK]; exact T.aF _ (by decide +kernel), by decide, v2, _, rfl, .ref x, rfl, x, M.CF, dx, _, rfl, upd_same, by rw [← hK]; exact T.cf, by rw [← hK]; exact T.aF _ (by decide +kernel), Nat.lt_of_le_of_lt (pl1 (Nat.le_refl 0)) (by decide), v3, _, rfl, rfl, ?_⟩
            rw [upd_upd]
            have hG1 := g1.n x _ hx hGx
            have fr2 := ((fr.grow g1).put (o := .ins M.CF dx (putF "keepers" v2 (putF "known" v1 []))) hlx hG1 (fun h => nomatch h)).setD 2 rv3
            -- the coins
            refine ⟨_, pss_cons (ps_asg pe_w (pg_name (i := 3) (by rw [hX.nm]; exact hX.nd) (by rw [hX.nm]; rfl) (by rw [hX.scp]; exact .inl rfl) (by rw [hX.scp]; exact .inr rfl))) pss_w, ?_⟩
            refine (Ev.to (tun (lc (A := Nat) (enc := fun j => .int (j : Nat)) (xs := List.range dk.length) [("player", 4)] (fun j => .int (5 * (if decide (j = 0) then 1 else 0))) (r2 := fun j => [.no, .dat (dksT dk), .dat (.tup (encT (gdOf dk) (tbOf dk))), .no, .dat (.int (j : Nat))]) (EvI.to (rg (hi := (dk.length : Nat)) (le (d := .tup (List.replicate dk.length (.int 20))) (ix (nm 2) ev_int) (len_rep _ _))) (rgD_nat _)) (fun j _ => tN 4) (fun j _ => mu (gI T.i7) (inB (cm (nm 4) ev_int (c_nat j 0))) (cmul_b _ _)) (by rw [List.length_range]; omega))) (d' := cI (s0 dk).coins) (by unfold cI s0; rw [List.map_map]; rfl)) X hX _ _ _ _ _ fr2 _ fun v4 G3 H3 g3 r4 => ?_
            have fr3 := (fr2.grow g3).setD 3 r4
            have hx3 := g3.h _ _ (upd_same (H := H1) (a := x))
            have hG3 := g3.n x _ upd_same hG1
            -- the stands
            refine ⟨_, pss_cons (ps_fld (pv _) pe_w rfl) pss_w, ?_⟩
            refine (lsN (ds := [encS (gdOf dk) (s0 dk)]) (a1 (tp (ac (nm 2) (ac (tp ea_nil) (ac ev_int (ac ev_int (ac ev_int (ac (nm 3) (a1 ev_non))))))))) : EvN M N_fi (defScope s_Fight_init) 4 _ _ _) X hX _ _ _ _ _ fr3 _ fun p xs G4 H4 g4 hp r5 => ?_
            have hx4 := g4.h _ _ hx3
            have hG4 := g4.n x _ hx3 hG3
            have npx : x ≠ p := ne_of_none hx4 hp
            have hGp := free_of g4.i hp
            have fr4 := fr3.grow g4
            have lp := free_of fr4.e0 hp
            refine ⟨.ref x, rfl, x, M.CF, dx, _, rfl, by rw [upd_ne npx]; exact hx4, by rw [← hK]; exact T.cf, by rw [← hK]; exact T.aF _ (by decide +kernel), Nat.lt_of_le_of_lt (pl1 (pl1 (Nat.le_refl 0))) (by decide), ?_⟩
            have fr5 := (fr4.grow (Grow.newH (o := .lst xs) g4.i hp)).put (o := .ins M.CF dx (putF "stands" (.ref p) (putF "keepers" v2 (putF "known" v1 [])))) hlx hG4 (fun h => nomatch h)
            have hp5 : (upd (upd H4 p (.lst xs)) x (.ins M.CF dx (putF "stands" (.ref p) (putF "keepers" v2 (putF "known" v1 []))))) p = some (.lst xs) := by rw [upd_ne (Ne.symm npx), upd_same]
            generalize hH5 : upd (upd H4 p (.lst xs)) x (.ins M.CF dx (putF "stands" (.ref p) (putF "keepers" v2 (putF "known" v1 [])))) = H5 at *
            have hx5 : H5 x = some (.ins M.CF dx (putF "stands" (.ref p) (putF "keepers" v2 (putF "known" v1 [])))) := by rw [← hH5, upd_same]
            -- the past
            refine ⟨_, pss_cons (ps_fld (pv _) pe_w rfl) pss_w, ?_⟩
            refine (lsN ea_nil : EvN M N_fi (defScope s_Fight_init) 4 _ _ []) X hX _ _ _ _ _ fr5 _ fun b ys G6 H6 g6 hb r6 => ?_
            have hx6 := g6.h _ _ hx5
            have hp6 := g6.h _ _ hp5
            have hG6 := g6.n x _ hx5 hG4
            have hGp6 := g6.n p _ hp5 hGp
            have nbx : x ≠ b := ne_of_none hx6 hb
            have nbp : p ≠ b := ne_of_none hp6 hb
            have hGb := free_of g6.i hb
            have fr6 := fr5.grow g6
            have lb := free_of fr6.e0 hb
            refine ⟨.ref x, rfl, x, M.CF, dx, _, rfl, by rw [upd_ne nbx]; exact hx6, by rw [← hK]; exact T.cf, by rw [← hK]; exact T.aF _ (by decide +kernel), Nat.lt_of_le_of_lt (pl1 (pl1 (pl1 (Nat.le_refl 0)))) (by decide), ?_⟩
            have fr7 := (fr6.grow (Grow.newH (o := .lst ys) g6.i hb)).put (o := .ins M.CF dx (putF "past" (.ref b) (putF "stands" (.ref p) (putF "keepers" v2 (putF "known" v1 []))))) hlx hG6 (fun h => nomatch h)
            have hb7 : (upd (upd H6 b (.lst ys)) x (.ins M.CF dx (putF "past" (.ref b) (putF "stands" (.ref p) (putF "keepers" v2 (putF "known" v1 [])))))) b = some (.lst ys) := by rw [upd_ne (Ne.symm nbx), upd_same]
            have hp7 : (upd (upd H6 b (.lst ys)) x (.ins M.CF dx (putF "past" (.ref b) (putF "stands" (.ref p) (putF "keepers" v2 (putF "known" v1 [])))))) p = some (.lst xs) := by rw [upd_ne (Ne.symm npx), upd_ne nbp]; exact hp6
            generalize hH7 : upd (upd H6 b (.lst ys)) x (.ins M.CF dx (putF "past" (.ref b) (putF "stands" (.ref p) (putF "keepers" v2 (putF "known" v1 []))))) = H7 at *
            have hx7 : H7 x = some (.ins M.CF dx (putF "past" (.ref b) (putF "stands" (.ref p) (putF "keepers" v2 (putF "known" v1 []))))) := by rw [← hH7, upd_same]
            -- the log
            refine ⟨_, pss_cons (ps_fld (pv _) pe_w rfl) pss_w, ?_⟩
            refine (ls ea_nil : Ev M N_fi (defScope s_Fight_init) 4 _ _ (.lst [])) X hX _ _ _ _ _ fr7 _ fun v5 G8 H8 g8 r8 => ?_
            have hx8 := g8.h _ _ hx7
            have hG8 := g8.n x _ hx7 hG6
            have hGp8 := g8.n p _ hp7 hGp6
            have hGb8 := g8.n b _ hb7 hGb
            have fr8 := (fr7.grow g8).put (o := .ins M.CF dx (putF "last_log" v5 (putF "past" (.ref b) (putF "stands" (.ref p) (putF "keepers" v2 (putF "known" v1 [])))))) hlx hG8 (fun h => nomatch h)
            refine ⟨.ref x, rfl, x, M.CF, dx, _, rfl, hx8, by rw [← hK]; exact T.cf, by rw [← hK]; exact T.aF _ (by decide +kernel), Nat.lt_of_le_of_lt (pl1 (pl1 (pl1 (pl1 (Nat.le_refl 0))))) (by decide), _, pss_nil, ?_⟩
            have unl : ∀ {a : Addr}, x ≠ a → less [x] H a = none → H a = none := fun {a} n h => by
              cases e : H a with
              | none => rfl
              | some o =>
                rw [less_of (fun m => n (List.mem_singleton.mp m).symm) e] at h
                cases h
            refine q G8 _ ⟨x, dx, p, b, v1, v2, v5, xs, ys⟩ rfl ⟨fr8.g0, fun a o n e => fr8.e0 a o (less_of n e), fr8.gh, fun a o e n => ?_⟩ ?_ ?_ (unl npx lp) (unl nbx lb) ?_
            · by_cases m : a = x
              · rw [m]
                exact hG8
              · exact fr8.nw a o (less_of (fun z => m (List.mem_singleton.mp z)) e) n
            · show [x, p, b].Nodup
              simp [npx, nbx, nbp]
            · intro a ha
              rcases List.mem_cons.mp ha with rfl | ha
              · exact hG8
              rcases List.mem_cons.mp ha with rfl | ha
              · exact hGp8
              rw [List.mem_singleton.mp ha]
              exact hGb8
            · have s13 := g3.g
              have s38 := (g4.g.trans g6.g).trans g8.g
              refine ⟨?_, ?_, ?_, (rv1.mono s13).mono s38, (rv2.mono s13).mono s38, r8, r5.mono (g6.g.trans g8.g), r6.mono g8.g⟩
              · rw [upd_same]
                rfl
              · rw [upd_ne (Ne.symm npx)]
                exact g8.h _ _ hp7
              · rw [upd_ne (Ne.symm nbx)]
                exact g8.h _ _ hb7
end Ts

set_option Elab.async false
set_option linter.all false
set_option maxRecDepth 100000
set_option maxHeartbeats 1000000
/-! DG: x = Fight(decks). -/
namespace Ts
open PySem L2
theorem nd_adds {A B C : List Addr} (h : (A ++ B).Nodup) (hc : C.Nodup) (hd : ∀ p ∈ C, p ∉ A ++ B) : (A ++ (C ++ B)).Nodup := by
  rw [List.nodup_append] at h ⊢
  obtain ⟨h1, h2, h3⟩ := h
  refine ⟨h1, ?_, ?_⟩
  · rw [List.nodup_append]
    refine ⟨hc, h2, fun a ha b hb e => ?_⟩
    subst e
    exact hd a ha (List.mem_append_right _ hb)
  · intro a ha b hb e
    subst e
    rcases List.mem_append.mp hb with q | q
    · exact hd a q (List.mem_append_left _ ha)
    · exact h3 a ha a q rfl
section
variable {M : Gm} {N : List Str} {sc : Scope} {k : Nat} {e : Expr} {r : List Sl} {d : Dt} {ds : List Dt} {pos p : Pos} {x : Str} {sts : List Stmt} {D : Dn}
theorem Fr.setFig {H0 G0 G H : Hp} {sg : L2.St} (Q : Fr M H0 G0 G H sg r) (i : Nat) {W : FigV} {F : FigD} (z : FigOk M G H W F) (hn : W.ft.Nodup) (hd : ∀ p ∈ W.ft, p ∉ feet r) (hp : ∀ p ∈ W.ft, H0 p = none ∧ G p = none) : Fr M H0 G0 G H (sg.set i (some (.ref W.self))) (r.set i (.fig W F)) := by
  refine ⟨Q.sl.set (.fig z) i, ?_, fun q hq => ?_, Q.e0, Q.g0, Q.gh, Q.nw⟩
  · refine (feet_set r i (.fig W F)).nodup ?_
    exact nd_adds ((feet_split r i).nodup Q.nd) hn fun p hp q => hd p hp ((feet_split r i).subset q)
  · rcases feet_add r i _ hq with y | y
    · exact hp q y
    · exact Q.fr q y
theorem x_fight (i : Nat) {dk : Dk} {px cpos : Pos} (ck : C8.Mak M.P M.w M.K M.mg M.base 5 "Fight" M.CF (spFight M) []) (ha : EvA M N sc k [e] r [dksT dk]) (L : DkOk dk) (q : ∀ W, Exe M N sc k sts (r.set i (.fig W (fig0 dk))) D) (hk : 6 ≤ k := by decide) (hg : sc.names.lookup ("Fight" : Str) = some .globalImplicit := by rfl) (hx : Loc sc x := by first | exact .inl rfl | exact .inr rfl) (hN : N[i]? = some x := by rfl) (h0 : sc.names.lookup (".0" : Str) = none := by rfl)
    (he : ∀ env, starEach [e] env = (false, eval e env) :: starEach [] env := by intros; rfl) (hs : ∀ env, swapsWithSole [.Name x px] (.Call (.Name "Fight" p) [e] [] cpos) pos.line env = pure false := by intros; rfl) (hw : ∀ env, swappedStores [.Name x px] (.Call (.Name "Fight" p) [e] [] cpos) env = pure none := by intros; rfl) :
    Exe M N sc k (.Assign [.Name x px] (.Call (.Name "Fight" p) [e] [] cpos) pos :: sts) r D := x_cons fun X hX H0 G0 G H sg F => by
  have hgm := hX.gm
  subst hgm
  have hf : X.fn x = true ∨ X.env.scope.names.lookup x = some .local := by
    rw [hX.scp]
    rcases hx with z | z
    · exact .inr z
    · exact .inl (hX.cell h0 x z)
  refine ⟨_, ps_asg (C8.pe_mk ck hX.room hk (hX.gl hg) pa_w (by decide) (he _) rfl) (pg_name (i := i) (by rw [hX.nm]; exact hX.nd) (by rw [hX.nm]; exact hN) (by rw [hX.scp]; exact hx) hf) (hs _) (hw _), ?_⟩
  refine ha X hX H0 G0 G H sg F _ fun vs G1 H1 g1 r1 a dx hxa hdx ne => ?_
  cases r1 with
  | cons a1 r1 =>
    cases r1
    have F1 := F.grow g1
    have s1 : Same G1 (upd (upd H1 dx (.own a)) a (.ins (Gm.CF ⟨X.prog, X.w, X.K, X.mg, X.base⟩) dx [])) := by
      refine Same.trans g1.i (Same.trans (same_new hdx) (same_new ?_))
      rw [upd_ne (Ne.symm ne)]
      exact hxa
    have ga := free_of g1.i hxa
    refine ⟨G1, a, dx, _, dk, rfl, L, s1, ga, a1, upd_same, fun G' H' W ew g nd hfree hst hpa z => ⟨rfl, ?_⟩⟩
    have up : ∀ b o, H1 b = some o → b ≠ a ∧ (upd (upd H1 dx (.own a)) a (.ins (Gm.CF ⟨X.prog, X.w, X.K, X.mg, X.base⟩) dx [])) b = some o := fun b o e => by
      have n1 : b ≠ a := ne_of_none e hxa
      have n2 : b ≠ dx := ne_of_none e hdx
      exact ⟨n1, by rw [upd_ne n1, upd_ne n2]; exact e⟩
    have g2 : Grow G1 H1 G' H' := ⟨g.g, fun b o e => g.h b o (fun m => (up b o e).1 (List.mem_singleton.mp m)) (up b o e).2, g.i, fun b o e n => g.n b o (up b o e).2 n⟩
    have F2 := F1.grow g2
    have nf : ∀ b, b = a ∨ (upd (upd H1 dx (.own a)) a (.ins (Gm.CF ⟨X.prog, X.w, X.K, X.mg, X.base⟩) dx [])) b = none → H1 b = none := fun b hb => by
      cases e : H1 b with
      | none => rfl
      | some o =>
        have u := up b o e
        rcases hb with hb | hb
        · exact absurd hb u.1
        · rw [u.2] at hb
          cases hb
    have hft : ∀ b ∈ W.ft, H1 b = none := fun b hb => by
      rcases List.mem_cons.mp hb with rfl | hb
      · exact nf _ (.inl ew)
      rcases List.mem_cons.mp hb with rfl | hb
      · exact nf _ (.inr hst)
      rw [List.mem_singleton.mp hb]
      exact nf _ (.inr hpa)
    refine ⟨G', r.set i (.fig W (fig0 dk)), ?_, q W⟩
    rw [← ew]
    refine F2.setFig i z nd (fun b hb hr => ?_) fun b hb => ⟨free_of F1.e0 (hft b hb), hfree b hb⟩
    obtain ⟨u, e⟩ := F1.sl.there b hr
    rw [hft b hb] at e
    cases e
end
end Ts

set_option Elab.async false
set_option linter.all false
set_option maxRecDepth 100000
set_option maxHeartbeats 1000000
/-! P13: the law's number, card, decks. -/
namespace Ts
open PySem L2
def numL (xs : List Int) (k : Nat) : Int := ((if 0 < xs.length then xs.getD (k % xs.length) 0 else 0) * 48271 + (k : Int) * k * 40014 + 7 * k + 1) % 2147483647
def num (xs : List Int) (k : Nat) : Nat := (numL xs k).toNat
theorem num_eq (xs : List Int) (k : Nat) : numL xs k = (num xs k : Nat) := by
  unfold num
  have : 0 ≤ numL xs k := Int.emod_nonneg _ (by decide)
  omega
theorem sc_lnum : FnScope ["_law_script", "_law_k", "_law_cell"] ["_law_script", "_law_k"] (defScope s_law_number) := ⟨rfl, rfl, rfl, by decide +kernel, rfl, by decide +kernel, by decide +kernel⟩
def R_lnum (ds : List Dt) (d : Dt) : Prop := ∃ (xs : List Int) (k : Nat), xs.length ≤ 1000 ∧ k ≤ 1000 ∧ ds = [.lst (xs.map .int), .int (k : Nat)] ∧ d = .int (num xs k : Nat)
theorem k_lnum {M : Gm} (T : Tx M) {f : Addr} {fd : FuncData} (F : Fn M "_law_number" s_law_number f fd) : Keeps M 1 "_law_number" R_lnum := by
  refine keeps_of F.1 F.2 sc_lnum (fun ds d h => ?_) (fun _ _ _ _ _ _ us hl => match us, hl with | [_, _], _ => rfl) (fun ds d h => ?_)
  · obtain ⟨_, _, _, _, rfl, _⟩ := h
    rfl
  · obtain ⟨xs, k, hl, hk, rfl, rfl⟩ := h
    have tail : ∀ c : Int, c = (if 0 < xs.length then xs.getD (k % xs.length) 0 else 0) → Exe M ["_law_script", "_law_k", "_law_cell"] (defScope s_law_number) 0 ((defBody s_law_number).drop 2) [.dat (.lst (xs.map .int)), .dat (.int (k : Nat)), .dat (.int c)] (dnD (.int (num xs k : Nat))) := by
      intro c hc
      refine x_ret (d := .int (num xs k : Nat)) (Ev.to (md (pl (pl (pl (mu (nm 2) ev_int) (mu (mu (nm 1) (nm 1) (.inl ⟨by omega, by omega⟩)) ev_int)) (mu ev_int (nm 1))) ev_int) ev_int) ?_) rfl
      rw [← num_eq, hc]
      rfl
    refine xa 2 ev_int ?_
    refine x_if (tc (le (n := xs.length) (d := .lst (xs.map .int)) (nm 0) (by show some _ = _; rw [List.length_map])) ev_int (.gt _ _)) (fun h => ?_) (fun h => ?_)
    · rw [decide_eq_true_eq] at h
      have h : 0 < xs.length := by omega
      have hm : k % xs.length < xs.length := Nat.mod_lt _ h
      refine xa 2 (il (d := .int (xs.getD (k % xs.length) 0)) (nm 0) (md (nm 1) (le (n := xs.length) (d := .lst (xs.map .int)) (nm 0) (by show some _ = _; rw [List.length_map]))) ?_) (x_nil (tail _ (by rw [if_pos h])))
      exact at_map (f := Dt.int) (get_D (z := 0) hm)
    · rw [decide_eq_false_iff_not] at h
      exact x_nil (tail _ (by rw [if_neg (by omega)]))
theorem sc_lcard : FnScope ["_law_number_here", "_law_sorts", "_law_name", "_law_head", "_law_rules", "_law_k"] ["_law_number_here", "_law_sorts"] (defScope s_law_card) := ⟨rfl, rfl, rfl, by decide +kernel, rfl, by decide +kernel, by decide +kernel⟩
def R_lcard (ds : List Dt) (d : Dt) : Prop := ∃ m : Nat, m < 2147483647 ∧ ds = [.int (m : Nat), .lst []] ∧ d = .str (cdT (m % 360))
theorem dg_str {j : Nat} (h : j < 5) : ((toString ((j : Nat) : Int) : String) : Str) = dg j := by
  have z : ∀ j < 5, ((toString ((j : Nat) : Int) : String) : Str) = dg j := by decide +kernel
  exact z j h
theorem dg_log {j : Nat} (h : j < 5) : ((j : Nat) : Int).natAbs.log2 < 1920 := by
  have z : ∀ j < 5, ((j : Nat) : Int).natAbs.log2 < 1920 := by decide +kernel
  exact z j h
theorem cdW_len (k : Nat) : ((cdW k).map (·.length)).sum ≤ 1000 := by
  have z1 : ∀ i < 6, (nmT i).length ≤ 10 := by decide +kernel
  have z2 : ∀ i < 5, (dg i).length ≤ 10 := by decide +kernel
  have z3 : ∀ i < 4, (mkT i).length ≤ 10 := by decide +kernel
  have a := z1 (k % 6) (by omega)
  have b := z2 (k / 6 % 3) (by omega)
  have c := z2 (k / 18 % 5) (by omega)
  have d := z3 (k / 90 % 4) (by omega)
  show (nmT (k % 6)).length + ((dg (k / 6 % 3)).length + ((dg (k / 18 % 5)).length + ((mkT (k / 90 % 4)).length + 0))) ≤ 1000
  omega
theorem join_one (sep x : Str) : Txt.join sep [x] = x := by
  rfl
theorem k_lcard {M : Gm} (T : Tx M) {f : Addr} {fd : FuncData} (F : Fn M "_law_card" s_law_card f fd) : Keeps M 1 "_law_card" R_lcard := by
  refine keeps_of F.1 F.2 sc_lcard (fun ds d h => ?_) (fun _ _ _ _ _ _ us hl => match us, hl with | [_, _], _ => rfl) (fun ds d h => ?_)
  · obtain ⟨_, _, rfl, _⟩ := h
    rfl
  · obtain ⟨m, hm, rfl, rfl⟩ := h
    have q6 : (m : Int) % 6 = ((m % 6 : Nat) : Int) := by omega
    have q3 : (m : Int) / 6 % 3 = ((m / 6 % 3 : Nat) : Int) := by omega
    have q5 : (m : Int) / 18 % 5 = ((m / 18 % 5 : Nat) : Int) := by omega
    have q4 : (m : Int) / 90 % 4 = ((m / 90 % 4 : Nat) : Int) := by omega
    have ew : cdW (m % 360) = [nmT (m % 6), dg (m / 6 % 3), dg (m / 18 % 5), mkT (m / 90 % 4)] := by
      unfold cdW
      rw [show m % 360 % 6 = m % 6 by omega, show m % 360 / 6 % 3 = m / 6 % 3 by omega, show m % 360 / 18 % 5 = m / 18 % 5 by omega, show m % 360 / 90 % 4 = m / 90 % 4 by omega]
    refine xa 2 (d := .str (nmT (m % 6))) (il (ls (ac ev_str (ac ev_str (ac ev_str (ac ev_str (ac ev_str (a1 ev_str))))))) (Ev.to (md (nm 0) ev_int) (by rw [q6])) (at_map (f := Dt.str) (xs := ["ox", "wolf", "a", "bb", "oxen", "kestrels"]) (get_D (l := (["ox", "wolf", "a", "bb", "oxen", "kestrels"] : List Str)) (z := "ox") (Nat.mod_lt m (by decide : 0 < 6))))) ?_
    refine xa 3 (d := .lst ((cdW (m % 360)).map .str)) (Ev.to (ls (ac (nm 2) (ac (Ev.to (sI (Ev.to (md (Ts.fd (nm 0) ev_int) ev_int) (by rw [q3])) (dg_log (by omega))) (by rw [dg_str (by omega)])) (ac (Ev.to (sI (Ev.to (md (Ts.fd (nm 0) ev_int) ev_int) (by rw [q5])) (dg_log (by omega))) (by rw [dg_str (by omega)])) (a1 (d := .str (mkT (m / 90 % 4))) (il (ls (ac ev_str (ac ev_str (ac ev_str (a1 ev_str))))) (Ev.to (md (Ts.fd (nm 0) ev_int) ev_int) (by rw [q4])) (at_map (f := Dt.str) (xs := ["-", "a", "bb", "a,bb"]) (get_D (l := (["-", "a", "bb", "a,bb"] : List Str)) (z := "-") (Nat.mod_lt (m / 90) (by decide : 0 < 4)))))))))) (by rw [ew]; rfl)) ?_
    refine xo 4 (lsN ea_nil) fun p => xz 4 ?_
    refine fe0 (EvI.to (rg (hi := 0) (Ev.to (mu (md (Ts.fd (nm 0) ev_int) ev_int) (inB (c := false) (cm (nm 1) (ls ea_nil) ne_nil)) (cmul_b _ false)) (by rw [show (if false = true then (1 : Int) else 0) = 0 from rfl, Int.mul_zero]))) rfl) ?_
    have hc := cdW_len (m % 360)
    have hT : (cdT (m % 360)).length < 100 := (cd_text (Nat.mod_lt _ (by decide))).2.2
    refine x_ret (d := .str (cdT (m % 360))) (Ev.to (ev_join (ys := [cdT (m % 360)]) ev_str (EvN.ev (en_addL (xs := [.str (cdT (m % 360))]) (ys := []) (ls (a1 (ev_join (ys := cdW (m % 360)) ev_str (nm 3) ?_ (by intros; rfl) (by intros; rfl) rfl))) (nm 4) (show 1 + 0 ≤ 1000000 from by decide))) ?_ (by intros; rfl) (by intros; rfl) rfl) (by rw [join_one])) rfl
    · refine Nat.le_trans (Nat.add_le_add hc (show (cdW (m % 360)).length * 1 ≤ 4 from (show 4 * 1 ≤ 4 from by decide))) (by decide)
    · show (cdT (m % 360)).length + 0 + 1 * 3 ≤ 16777216
      omega
/-! ### decks -/
def dkN (xs : List Int) : Nat := 2 + num xs 0 % 3
def dkL (xs : List Int) (p : Nat) : List Nat := (List.range (num xs (1 + p) % 5)).map fun k => num xs (5 + 5 * p + k) % 360
def dkOf (xs : List Int) : Dk := (List.range (dkN xs)).map (dkL xs)
theorem dk_ok (xs : List Int) : DkOk (dkOf xs) where
  n2 := by unfold dkOf dkN; rw [List.length_map, List.length_range]; omega
  n4 := by unfold dkOf dkN; rw [List.length_map, List.length_range]; omega
  l4 := fun l hl => by
    obtain ⟨p, _, rfl⟩ := List.mem_map.mp hl
    unfold dkL
    rw [List.length_map, List.length_range]
    omega
  k := fun l hl k hk => by
    obtain ⟨p, _, rfl⟩ := List.mem_map.mp hl
    obtain ⟨j, _, rfl⟩ := List.mem_map.mp hk
    exact Nat.mod_lt _ (by decide)
theorem sc_ldecks : FnScope ["_law_script", "_law_sorts", "_law_first_here", "_law_decks_here", "_law_player", "_law_deck", "_law_k"] ["_law_script", "_law_sorts"] (defScope s_law_decks) := ⟨rfl, rfl, rfl, by decide +kernel, rfl, by decide +kernel, by decide +kernel⟩
def R_ldecks (ds : List Dt) (d : Dt) : Prop := ∃ xs : List Int, xs.length ≤ 1000 ∧ ds = [.lst (xs.map .int), .lst []] ∧ d = dksT (dkOf xs)
theorem num_lt (xs : List Int) (k : Nat) : num xs k < 2147483647 := by
  unfold num
  have : numL xs k < 2147483647 := Int.emod_lt_of_pos _ (by decide)
  have : 0 ≤ numL xs k := Int.emod_nonneg _ (by decide)
  omega
theorem k_ldecks {M : Gm} (T : Tx M) (C1 : Keeps M 1 "_law_number" R_lnum) (C2 : Keeps M 1 "_law_card" R_lcard) {f : Addr} {fd : FuncData} (F : Fn M "_law_decks" s_law_decks f fd) : Keeps M 2 "_law_decks" R_ldecks := by
  refine keeps_of F.1 F.2 sc_ldecks (fun ds d h => ?_) (fun _ _ _ _ _ _ us hl => match us, hl with | [_, _], _ => rfl) (fun ds d h => ?_)
  · obtain ⟨_, _, rfl, _⟩ := h
    rfl
  · obtain ⟨xs, hl, rfl, rfl⟩ := h
    have hn : dkN xs ≤ 4 := by unfold dkN; omega
    refine xa 2 (ca C1 (ac (nm 0) (a1 ev_int)) ⟨xs, 0, hl, by decide, rfl, rfl⟩) ?_
    refine xo 3 (lsN ea_nil) fun p => ?_
    refine fe (A := Nat) (enc := fun i => .int (i : Nat)) (xs := List.range (dkN xs)) (fun i r' => ∃ s4 s5 s6, r' = [.dat (.lst (xs.map .int)), .dat (.lst []), .dat (.int (num xs 0 : Nat)), .own p (((List.range i).map (dkL xs)).map dkT), s4, s5, s6]) (EvI.to (rg (hi := (dkN xs : Nat)) (Ev.to (pl ev_int (md (nm 2) ev_int)) (by unfold dkN; congr 1))) (rgD_nat _)) ⟨_, _, _, rfl⟩ (fun i w r' hw ⟨s4, s5, s6, e⟩ => ?_) (fun r' ⟨s4, s5, s6, e⟩ => ?_)
    · subst e
      have ew : w = i ∧ i < dkN xs := by
        have hi : i < dkN xs := by
          have := (List.getElem?_eq_some_iff.mp hw).1
          rw [List.length_range] at this
          exact this
        rw [List.getElem?_range hi] at hw
        exact ⟨(Option.some.inj hw).symm, hi⟩
      obtain ⟨rfl, hi⟩ := ew
      refine ⟨_, [.dat (.lst (xs.map .int)), .dat (.lst []), .dat (.int (num xs 0 : Nat)), .own p (((List.range w).map (dkL xs)).map dkT), .dat (.int (w : Nat)), s5, s6], tN 4, ?_⟩
      refine xo 5 (lsN ea_nil) fun b => ?_
      refine fe (A := Nat) (enc := fun i => .int (i : Nat)) (xs := List.range (num xs (1 + w) % 5)) (fun j r' => ∃ s6, r' = [.dat (.lst (xs.map .int)), .dat (.lst []), .dat (.int (num xs 0 : Nat)), .own p (((List.range w).map (dkL xs)).map dkT), .dat (.int (w : Nat)), .own b (((List.range j).map fun k => num xs (5 + 5 * w + k) % 360).map fun k => .str (cdT k)), s6]) (EvI.to (rg (hi := (num xs (1 + w) % 5 : Nat)) (Ev.to (md (ca C1 (ac (nm 0) (a1 (pl ev_int (nm 4)))) ⟨xs, 1 + w, hl, by omega, by congr 1, rfl⟩) ev_int) (by congr 1))) (rgD_nat _)) ⟨_, rfl⟩ (fun j v r' hv ⟨s6, e⟩ => ?_) (fun r' ⟨s6, e⟩ => ?_)
      · subst e
        have ev : v = j ∧ j < num xs (1 + w) % 5 := by
          have hi : j < num xs (1 + w) % 5 := by
            have := (List.getElem?_eq_some_iff.mp hv).1
            rw [List.length_range] at this
            exact this
          rw [List.getElem?_range hi] at hv
          exact ⟨(Option.some.inj hv).symm, hi⟩
        obtain ⟨rfl, hj⟩ := ev
        refine ⟨_, [.dat (.lst (xs.map .int)), .dat (.lst []), .dat (.int (num xs 0 : Nat)), .own p (((List.range w).map (dkL xs)).map dkT), .dat (.int (w : Nat)), .own b (((List.range v).map fun k => num xs (5 + 5 * w + k) % 360).map fun k => .str (cdT k)), .dat (.int (v : Nat))], tN 6, ?_⟩
        refine xp (ds := ((List.range v).map fun k => num xs (5 + 5 * w + k) % 360).map fun k => .str (cdT k)) (q := b) 5 (ca C2 (ac (ca C1 (ac (nm 0) (a1 (pl (pl ev_int (mu ev_int (nm 4))) (nm 6)))) ⟨xs, 5 + 5 * w + v, hl, by omega, by congr 1, rfl⟩) (a1 (nm 1))) ⟨_, num_lt _ _, rfl, rfl⟩) (x_nil ⟨.dat (.int (v : Nat)), ?_⟩) ?_
        · rw [List.range_succ, List.map_append, List.map_append]
          rfl
        · rw [List.length_map, List.length_map, List.length_range]
          omega
      · subst e
        refine xz 5 ?_
        refine xp (ds := ((List.range w).map (dkL xs)).map dkT) (q := p) 3 (d := dkT (dkL xs w)) (Ev.to (nm 5) (by rw [List.length_range]; rfl)) (x_nil ⟨.dat (.int (w : Nat)), .dat (dkT (dkL xs w)), s6, ?_⟩) ?_
        · rw [List.range_succ, List.map_append, List.map_append, List.length_range]
          rfl
        · rw [List.length_map, List.length_map, List.length_range]
          omega
    · subst e
      rw [List.length_range]
      exact xz 3 (x_ret (nm 3) rfl)
theorem x_ifJ {M : Gm} {N : List Str} {sc : Scope} {k : Nat} {c : Expr} {r : List Sl} {b : Bool} {pos : Pos} {thn sts : List Stmt} {D : Dn} (R : List Sl) (h : EvT M N sc k c r b) (h1 : b = true → Exe M N sc k thn r { D with nx := fun r' => r' = R }) (h2 : b = false → r = R) (q : Exe M N sc k sts R D) : Exe M N sc k (.If c thn [] pos :: sts) r D :=
  x_if h (fun e => (h1 e).imp (fun r' e' => by have e' : r' = R := e'; rw [e']; exact q) (fun _ _ z => z) (fun _ z => z) (fun _ z => z)) (fun e => x_nil (by have e2 := h2 e; rw [e2]; exact q))
/-! ### heads -/
def hdD (c : Cd) : Dt := .tup [.int (c.cost : Nat), .int (c.force : Nat), tM c]
theorem sc_lheads : FnScope ["_law_decks_here", "_law_heads_here", "_law_deck", "_law_text", "_law_words", "_law_marks"] ["_law_decks_here"] (defScope s_law_heads) := ⟨rfl, rfl, rfl, by decide +kernel, rfl, by decide +kernel, by decide +kernel⟩
def R_lheads (ds : List Dt) (d : Dt) : Prop := ∃ dk : Dk, DkOk dk ∧ ds = [dksT dk] ∧ d = .lst ((gdOf dk).cs.map hdD)
theorem k_lheads {M : Gm} (T : Tx M) {f : Addr} {fd : FuncData} (F : Fn M "_law_heads" s_law_heads f fd) : Keeps M 1 "_law_heads" R_lheads := by
  refine keeps_of F.1 F.2 sc_lheads (fun ds d h => ?_) (fun _ _ _ _ _ _ us hl => match us, hl with | [_], _ => rfl) (fun ds d h => ?_)
  · obtain ⟨_, _, rfl, _⟩ := h
    rfl
  · obtain ⟨dk, L, rfl, rfl⟩ := h
    have hm := L.m
    refine xo 1 (lsN ea_nil) fun p => ?_
    refine fe (A := List Nat) (enc := dkT) (xs := dk) (fun i r' => ∃ s2 s3 s4 s5, r' = [.dat (dksT dk), .own p (((dk.take i).flatten.map cdC).map hdD), s2, s3, s4, s5]) (ei_list (nm 0)) ⟨_, _, _, _, rfl⟩ (fun i l r' hw ⟨s2, s3, s4, s5, e⟩ => ?_) (fun r' ⟨s2, s3, s4, s5, e⟩ => ?_)
    · subst e
      have hf := L.fst i
      have hl4 := L.l4 l (List.mem_of_getElem? hw)
      refine ⟨_, [.dat (dksT dk), .own p (((dk.take i).flatten.map cdC).map hdD), .dat (dkT l), s3, s4, s5], tN 2, ?_⟩
      refine fe (A := Nat) (enc := fun k => .str (cdT k)) (xs := l) (fun j r' => ∃ s3 s4 s5, r' = [.dat (dksT dk), .own p ((((dk.take i).flatten ++ l.take j).map cdC).map hdD), .dat (dkT l), s3, s4, s5]) (ei_list (nm 2)) ⟨s3, s4, s5, by rw [List.take_zero, List.append_nil]⟩ (fun j k r' hk ⟨s3, s4, s5, e⟩ => ?_) (fun r' ⟨s3, s4, s5, e⟩ => ?_)
      · subst e
        have hj : j < l.length := (List.getElem?_eq_some_iff.mp hk).1
        have hk3 := L.k l (List.mem_of_getElem? hw) k (List.mem_of_getElem? hk)
        obtain ⟨_, e2, e3⟩ := cd_text hk3
        have e4 : (cdT k).length + 2 ≤ sizeLine := Nat.le_trans (show (cdT k).length + 2 ≤ 1000 by omega) (by decide)
        refine ⟨_, [.dat (dksT dk), .own p ((((dk.take i).flatten ++ l.take j).map cdC).map hdD), .dat (dkT l), .dat (.str (cdT k)), s4, s5], tN 3, ?_⟩
        refine xa 4 (d := .lst ((cdW k).map .str)) (Ev.to (ev_split (nm 3) ev_str rfl e4 (by intros; rfl) (by intros; rfl) rfl) (by rw [e2])) ?_
        refine xa 5 (tp ea_nil) ?_
        have hi : k / 90 % 4 < 4 := Nat.mod_lt _ (by decide)
        have z1 : ∀ i < 4, decide (mkT i = "-") = decide (i = 0) := by decide +kernel
        have z2 : ∀ i < 4, i ≠ 0 → Txt.split (mkT i) "," = mkL i ∧ (mkT i).length < 100 := by decide +kernel
        have R5 : k / 90 % 4 = 0 → (Dt.tup []) = tM (cdC k) := fun h0 => by
          unfold tM cdC
          rw [h0]
          rfl
        refine x_ifJ (b := !decide (k / 90 % 4 = 0)) [.dat (dksT dk), .own p ((((dk.take i).flatten ++ l.take j).map cdC).map hdD), .dat (dkT l), .dat (.str (cdT k)), .dat (.lst ((cdW k).map .str)), .dat (tM (cdC k))] (tc (il (d := .str (mkT (k / 90 % 4))) (nm 4) ev_int) ev_str (lk (c_neS _ _) (by rw [z1 _ hi]))) (fun h0 => ?_) (fun h0 => ?_) ?_
        · have h0 : k / 90 % 4 ≠ 0 := by simpa using h0
          obtain ⟨b1, b2⟩ := z2 _ hi h0
          exact xa 5 (d := tM (cdC k)) (tu (Ev.to (d' := .lst ((mkL (k / 90 % 4)).map .str)) (ev_split (il (d := .str (mkT (k / 90 % 4))) (nm 4) ev_int) ev_str rfl (Nat.le_trans (show (mkT (k / 90 % 4)).length + 2 ≤ 1000 by omega) (by decide)) (by intros; rfl) (by intros; rfl) rfl) (by rw [b1]))) (x_nil rfl)
        · have h0 : k / 90 % 4 = 0 := by simpa using h0
          rw [← R5 h0]
          rfl
        refine xp (ds := (((dk.take i).flatten ++ l.take j).map cdC).map hdD) (q := p) 1 (d := hdD (cdC k)) (tp (ac (inS (i := (k / 6 % 3 : Nat)) (il (d := .str (dg (k / 6 % 3))) (nm 4) ev_int) (dg_int (by omega)).1 (dg_int (by omega)).2) (ac (inS (i := (k / 18 % 5 : Nat)) (il (d := .str (dg (k / 18 % 5))) (nm 4) ev_int) (dg_int (by omega)).1 (dg_int (by omega)).2) (a1 (nm 5))))) (x_nil ⟨.dat (.str (cdT k)), .dat (.lst ((cdW k).map .str)), .dat (tM (cdC k)), ?_⟩) ?_
        · rw [take_succ' hk, ← List.append_assoc, List.map_append (l₂ := [k]), List.map_append (l₂ := [k].map cdC)]
          rfl
        · rw [List.length_map, List.length_map, List.length_append, List.length_take]
          have : (dk.take i).flatten.length = fstN dk i := rfl
          omega
      · subst e
        rw [List.take_length, ← flat_succ hw]
        exact x_nil ⟨.dat (dkT l), s3, s4, s5, rfl⟩
    · subst e
      rw [List.take_length]
      exact xz 1 (x_ret (nm 1) rfl)
end Ts

set_option Elab.async false
set_option linter.all false
set_option maxRecDepth 100000
set_option maxHeartbeats 1000000
/-! P14: the law's stands. -/
namespace Ts
open PySem L2
abbrev N_lf : List Str := ["_law_decks_here", "_law_heads_here", "_law_hands", "_law_left", "_law_first_here", "_law_deck", "_law_own", "_law_nobody", "_law_head", "_law_marks", "_law_table", "_law_coins", "_law_row", "_law_player"]
theorem sc_lfirst : FnScope N_lf ["_law_decks_here", "_law_heads_here"] (defScope s_law_first) := ⟨rfl, rfl, rfl, by decide +kernel, rfl, by decide +kernel, by decide +kernel⟩
def R_lfirst (ds : List Dt) (d : Dt) : Prop := ∃ dk : Dk, DkOk dk ∧ ds = [dksT dk, .lst ((gdOf dk).cs.map hdD)] ∧ d = encS (gdOf dk) (s0 dk)
theorem k_lfirst {M : Gm} (T : Tx M) {f : Addr} {fd : FuncData} (F : Fn M "_law_first" s_law_first f fd) : Keeps M 1 "_law_first" R_lfirst := by
  refine keeps_of F.1 F.2 sc_lfirst (fun ds d h => ?_) (fun _ _ _ _ _ _ us hl => match us, hl with | [_, _], _ => rfl) (fun ds d h => ?_)
  · obtain ⟨_, _, rfl, _⟩ := h
    rfl
  · obtain ⟨dk, L, rfl, rfl⟩ := h
    have h2 := L.n2
    have h4 := L.n4
    have hm := L.m
    refine xo 2 (lsN ea_nil) fun p2 => xo 3 (lsN ea_nil) fun p3 => xa 4 ev_int ?_
    refine fe (A := List Nat) (enc := dkT) (xs := dk) (fun i r' => ∃ s5 s6, r' = [.dat (dksT dk), .dat (.lst ((gdOf dk).cs.map hdD)), .own p2 ((hdP dk i).map tI), .own p3 ((lfP dk i).map tI), .dat (.int (fstN dk i : Nat)), s5, s6, .no, .no, .no, .no, .no, .no, .no]) (ei_list (nm 0)) ⟨_, _, rfl⟩ (fun i l r' hl ⟨s5, s6, e⟩ => ?_) (fun r' ⟨s5, s6, e⟩ => ?_)
    · subst e
      have hil : i < dk.length := (List.getElem?_eq_some_iff.mp hl).1
      have hl4 := L.l4 l (List.mem_of_getElem? hl)
      have hf := L.fst i
      refine ⟨_, [.dat (dksT dk), .dat (.lst ((gdOf dk).cs.map hdD)), .own p2 ((hdP dk i).map tI), .own p3 ((lfP dk i).map tI), .dat (.int (fstN dk i : Nat)), .dat (dkT l), s6, .no, .no, .no, .no, .no, .no, .no], tN 5, ?_⟩
      refine xa 6 (d := .lst (nI (ownN dk i))) (Ev.to (ev_lstRg2 (lo := (fstN dk i : Nat)) (hi := ((fstN dk i + l.length : Nat) : Nat)) T.toBlt rfl rfl (nm 4) (Ev.to (pl (nm 4) (le (n := l.length) (d := dkT l) (nm 5) (by show some _ = _; rw [List.length_map]))) (by congr 1)) (.of_le (by omega) (by omega) (by omega) (by omega)) (by intros; rfl) (by intros; rfl)) (by rw [own_rg hl])) ?_
      refine xp (ds := (hdP dk i).map tI) (q := p2) 2 (d := tI ((ownN dk i).take 3)) (Ev.to (tu (ev_sliceL (nm 6) eo_none (eo_some ev_int))) ?_) ?_ ?_
      · rw [show cutD (nI (ownN dk i)) none (some 3) = (nI (ownN dk i)).take 3 from cut_to _ 3]
        unfold nI tI nI
        rw [List.map_take]
      · refine xp (ds := (lfP dk i).map tI) (q := p3) 3 (d := tI ((ownN dk i).drop 3)) (Ev.to (tu (ev_sliceL (nm 6) (eo_some ev_int) eo_none)) ?_) ?_ ?_
        · rw [show cutD (nI (ownN dk i)) (some 3) none = (nI (ownN dk i)).drop 3 from cut_from _ 3]
          unfold nI tI nI
          rw [List.map_drop]
        · refine xa 4 (d := .int (fstN dk (i + 1) : Nat)) (Ev.to (pl (nm 4) (le (n := l.length) (d := dkT l) (nm 5) (by show some _ = _; rw [List.length_map]))) (by rw [fst_succ hl]; congr 1)) (x_nil ⟨.dat (dkT l), .dat (.lst (nI (ownN dk i))), ?_⟩)
          rw [hd_succ, lf_succ, List.map_append, List.map_append]
          rfl
        · unfold lfP
          rw [List.length_map, List.length_map, List.length_range]
          omega
      · unfold hdP
        rw [List.length_map, List.length_map, List.length_range]
        omega
    · subst e
      refine xa 7 (d := .tup (List.replicate dk.length (.bl false))) (Ev.to (tun (lc (A := List Nat) (enc := dkT) (xs := dk) [("_law_deck", 5)] (fun _ => .bl false) (r2 := fun l => [.dat (dksT dk), .dat (.lst ((gdOf dk).cs.map hdD)), .own p2 ((hdP dk dk.length).map tI), .own p3 ((lfP dk dk.length).map tI), .dat (.int (fstN dk dk.length : Nat)), .dat (dkT l), s6, .no, .no, .no, .no, .no, .no, .no]) (ei_list (nm 0)) (fun l _ => tN 5) (fun l _ => ev_bl) (by omega))) (by rw [map_const])) ?_
      refine xa 8 (d := .tup [.tup (List.replicate dk.length (.int 20)), .tup (List.replicate dk.length (.int 0)), .tup (List.replicate dk.length (.bl false)), .tup ((lfP dk dk.length).map tI), .tup ((hdP dk dk.length).map tI)]) (Ev.to (tp (ac (tun (lc (A := List Nat) (enc := dkT) (xs := dk) [("_law_deck", 5)] (fun _ => .int 20) (r2 := fun l => [.dat (dksT dk), .dat (.lst ((gdOf dk).cs.map hdD)), .own p2 ((hdP dk dk.length).map tI), .own p3 ((lfP dk dk.length).map tI), .dat (.int (fstN dk dk.length : Nat)), .dat (dkT l), s6, .dat (.tup (List.replicate dk.length (.bl false))), .no, .no, .no, .no, .no, .no]) (ei_list (nm 0)) (fun l _ => tN 5) (fun l _ => ev_int) (by omega))) (ac (tun (lc (A := List Nat) (enc := dkT) (xs := dk) [("_law_deck", 5)] (fun _ => .int 0) (r2 := fun l => [.dat (dksT dk), .dat (.lst ((gdOf dk).cs.map hdD)), .own p2 ((hdP dk dk.length).map tI), .own p3 ((lfP dk dk.length).map tI), .dat (.int (fstN dk dk.length : Nat)), .dat (dkT l), s6, .dat (.tup (List.replicate dk.length (.bl false))), .no, .no, .no, .no, .no, .no]) (ei_list (nm 0)) (fun l _ => tN 5) (fun l _ => ev_int) (by omega))) (ac (nm 7) (ac (tum (ow 3)) (a1 (tum (ow 2)))))))) (by rw [map_const, map_const])) ?_
      refine Exe.at [.dat (dksT dk), .dat (.lst ((gdOf dk).cs.map hdD)), .own p2 ((hdP dk dk.length).map tI), .own p3 ((lfP dk dk.length).map tI), .dat (.int (fstN dk dk.length : Nat)), s5, s6, .dat (.tup (List.replicate dk.length (.bl false))), .dat (.tup [.tup (List.replicate dk.length (.int 20)), .tup (List.replicate dk.length (.int 0)), .tup (List.replicate dk.length (.bl false)), .tup ((lfP dk dk.length).map tI), .tup ((hdP dk dk.length).map tI)]), .no, .no, .no, .no, .no] ?_
      have hcs : (gdOf dk).cs.length = dk.flatten.length := List.length_map _
      refine xa 9 (d := .tup ((gdOf dk).cs.map tM)) (tun (lc (A := Cd) (enc := hdD) (xs := (gdOf dk).cs) [("_law_row", 12)] tM (r2 := fun c => [.dat (dksT dk), .dat (.lst ((gdOf dk).cs.map hdD)), .own p2 ((hdP dk dk.length).map tI), .own p3 ((lfP dk dk.length).map tI), .dat (.int (fstN dk dk.length : Nat)), s5, s6, .dat (.tup (List.replicate dk.length (.bl false))), .dat (.tup [.tup (List.replicate dk.length (.int 20)), .tup (List.replicate dk.length (.int 0)), .tup (List.replicate dk.length (.bl false)), .tup ((lfP dk dk.length).map tI), .tup ((hdP dk dk.length).map tI)]), .no, .no, .no, .dat (hdD c), .no]) (ei_list (nm 1)) (fun c _ => tN 12) (fun c _ => ix (nm 12) ev_int) (by rw [hcs]; omega))) ?_
      refine xa 10 (d := .tup (encT (gdOf dk) (tbOf dk))) (Ev.to (pt (nm 8) (tp (ac (tp ea_nil) (ac (tp ea_nil) (ac (nm 9) (a1 (tun (lc (A := Cd) (enc := hdD) (xs := (gdOf dk).cs) [("_law_row", 12)] (fun _ => .int 0) (r2 := fun c => [.dat (dksT dk), .dat (.lst ((gdOf dk).cs.map hdD)), .own p2 ((hdP dk dk.length).map tI), .own p3 ((lfP dk dk.length).map tI), .dat (.int (fstN dk dk.length : Nat)), s5, s6, .dat (.tup (List.replicate dk.length (.bl false))), .dat (.tup [.tup (List.replicate dk.length (.int 20)), .tup (List.replicate dk.length (.int 0)), .tup (List.replicate dk.length (.bl false)), .tup ((lfP dk dk.length).map tI), .tup ((hdP dk dk.length).map tI)]), .dat (.tup ((gdOf dk).cs.map tM)), .no, .no, .dat (hdD c), .no]) (ei_list (nm 1)) (fun c _ => tN 12) (fun c _ => ev_int) (by rw [hcs]; omega)))))))) ) (by rw [map_const]; rfl)) ?_
      refine xl 11 (A := Nat) (enc := fun j => .int (j : Nat)) (xs := List.range dk.length) [("_law_player", 13)] (fun j => .int (5 * (if decide (j = 0) then 1 else 0))) (r2 := fun j => [.dat (dksT dk), .dat (.lst ((gdOf dk).cs.map hdD)), .own p2 ((hdP dk dk.length).map tI), .own p3 ((lfP dk dk.length).map tI), .dat (.int (fstN dk dk.length : Nat)), s5, s6, .dat (.tup (List.replicate dk.length (.bl false))), .dat (.tup [.tup (List.replicate dk.length (.int 20)), .tup (List.replicate dk.length (.int 0)), .tup (List.replicate dk.length (.bl false)), .tup ((lfP dk dk.length).map tI), .tup ((hdP dk dk.length).map tI)]), .dat (.tup ((gdOf dk).cs.map tM)), .dat (.tup (encT (gdOf dk) (tbOf dk))), .no, .no, .dat (.int (j : Nat))]) (EvI.to (rg (hi := (dk.length : Nat)) (le (n := dk.length) (d := dksT dk) (nm 0) (by show some _ = _; rw [List.length_map]))) (rgD_nat _)) (fun j _ => tN 13) (fun j _ => mu ev_int (inB (cm (nm 13) ev_int (c_nat j 0))) (cmul_b _ _)) (by rw [List.length_range]; omega) ?_
      refine x_ret (d := encS (gdOf dk) (s0 dk)) (Ev.to (tp (ac (nm 10) (ac (tp ea_nil) (ac ev_int (ac ev_int (ac ev_int (ac (tu (nm 11)) (a1 ev_non)))))))) ?_) rfl
      unfold encS encL s0 cI
      rw [List.map_map]
      rfl
end Ts

set_option Elab.async false
set_option linter.all false
set_option maxRecDepth 100000
set_option maxHeartbeats 1000000
/-! P15: the law's deeds. -/
namespace Ts
open PySem L2
def hdsT (g : Gd) : Dt := .lst (g.cs.map hdD)
abbrev N_lp : List Str := ["_law_stand", "_law_heads_here", "_law_number_here", "_law_table", "_law_pile", "_law_turn_here", "_law_word", "_law_passes", "_law_coins", "_law_over", "_law_hands", "_law_one"]
theorem sc_lplayed : FnScope N_lp ["_law_stand", "_law_heads_here", "_law_number_here"] (defScope s_law_played) := ⟨rfl, rfl, rfl, by decide +kernel, rfl, by decide +kernel, by decide +kernel⟩
def R_lplayed (ds : List Dt) (d : Dt) : Prop := ∃ (g : Gd) (s : Sn) (c : Nat), CanP g s c ∧ ds = [encS g s, hdsT g, .int (c : Nat)] ∧ d = encS g (s.played g c)
theorem k_lplayed {M : Gm} (T : Tx M) {f : Addr} {fd : FuncData} (F : Fn M "_law_played" s_law_played f fd) : Keeps M 1 "_law_played" R_lplayed := by
  refine keeps_of F.1 F.2 sc_lplayed (fun ds d h => ?_) (fun _ _ _ _ _ _ us hl => match us, hl with | [_, _, _], _ => rfl) (fun ds d h => ?_)
  · obtain ⟨_, _, _, _, rfl, _⟩ := h
    rfl
  · obtain ⟨g, s, c, L, rfl, rfl⟩ := h
    have hw := L.wn
    have hL := L.l100
    have hH := get_D (l := s.t.hands) (i := s.word) (z := []) (by rw [L.hn]; exact hw)
    have hC := get_D (l := s.coins) (i := s.word) (z := 0) (by rw [L.cn]; exact hw)
    refine xt (ds := encL g s) (nm 0) (gc (tN 3) (gc (tN 4) (gc (tN 5) (gc (tN 6) (gc (tN 7) (gc (tN 8) (gc (tN 9) tgs_nil))))))) ?_
    refine Exe.at [.dat (encS g s), .dat (hdsT g), .dat (.int (c : Nat)), .dat (.tup (encT g s.t)), .dat (.tup (s.pile.map encP)), .dat (.int (s.turn : Nat)), .dat (.int (s.word : Nat)), .dat (.int (s.passes : Nat)), .dat (cI s.coins), .dat .non, .no, .no] ?_
    refine xo 10 (liN (d := .tup (s.t.hands.map tI)) (ix (nm 3) ev_int)) fun q => ?_
    refine xs (ds := s.t.hands.map tI) (q := q) 10 s.word (d := tI ((s.t.hands.getD s.word []).filter fun y => !decide (y = c))) (Ev.to (tun (lcf (A := Nat) (enc := fun n => .int (n : Nat)) (xs := s.t.hands.getD s.word []) [("_law_one", 11)] (fun y => !decide (y = c)) (fun n => .int (n : Nat)) (r2 := fun y => [.dat (encS g s), .dat (hdsT g), .dat (.int (c : Nat)), .dat (.tup (encT g s.t)), .dat (.tup (s.pile.map encP)), .dat (.int (s.turn : Nat)), .dat (.int (s.word : Nat)), .dat (.int (s.passes : Nat)), .dat (cI s.coins), .dat .non, .own q (s.t.hands.map tI), .dat (.int (y : Nat))]) (ei_tup (im (ow 10) (nm 6) (at_tI hH))) (fun y _ => tN 11) (fun y _ => tc (nm 11) (nm 2) (c_natN y c)) (fun y _ _ => nm 11) (by omega))) rfl) (nm 6) ?_ (ixN_nat (by rw [List.length_map, L.hn]; exact hw))
    refine xo 8 (liN (d := cI s.coins) (nm 8)) fun b => ?_
    refine xs (ds := s.coins.map .int) (q := b) 8 s.word (d := .int (s.coins.getD s.word 0 - g.cost c)) (mi (im (ow 8) (nm 6) (at_map (f := Dt.int) hC)) (ix (il (d := hdD (g.cs.getD c ⟨Str.empty, 0, 0, []⟩)) (nm 1) (nm 2) (at_map (Gd.get L.ol))) ev_int)) (nm 6) ?_ (ixN_nat (by rw [List.length_map, L.cn]; exact hw))
    refine Exe.at [.dat (encS g s), .dat (hdsT g), .dat (.int (c : Nat)), .dat (.tup (encT g s.t)), .dat (.tup (s.pile.map encP)), .dat (.int (s.turn : Nat)), .dat (.int (s.word : Nat)), .dat (.int (s.passes : Nat)), .own b ((s.coins.map .int).set s.word (.int (s.coins.getD s.word 0 - g.cost c))), .dat .non, .own q ((s.t.hands.map tI).set s.word (tI ((s.t.hands.getD s.word []).filter fun y => !decide (y = c)))), .no] ?_
    refine xa 3 (d := .tup (encT g (s.less c))) (Ev.to (pt (pt (ev_sliceT (nm 3) eo_none (eo_some ev_int)) (tp (a1 (tum (ow 10)))) ?_) (ev_sliceT (nm 3) (eo_some ev_int) eo_none) ?_) ?_) ?_
    · rw [cut4]
      exact Nat.le_of_ble_eq_true rfl
    · rw [cut4, cut5]
      exact Nat.le_of_ble_eq_true rfl
    · rw [cut4, cut5, ← List.map_set]
      rfl
    refine x_ret (d := encS g (s.played g c)) (Ev.to (tp (ac (nm 3) (ac (pt (nm 4) (tp (a1 (tp (ac ev_str (ac (nm 6) (ac (nm 2) (a1 ev_int))))))) ?_) (ac (nm 5) (ac (nm 6) (ac ev_int (ac (tum (ow 8)) (a1 (nm 9))))))))) ?_) rfl
    · rw [List.length_map, L.pl]
      exact Nat.le_of_ble_eq_true rfl
    · rw [← List.map_set]
      unfold Sn.played Sn.pay encS encL cI
      rw [List.map_append]
      rfl
abbrev N_lc : List Str := ["_law_stand", "_law_heads_here", "_law_table", "_law_pile", "_law_turn_here", "_law_word", "_law_passes", "_law_coins", "_law_over", "_law_number_here", "_law_log"]
theorem sc_lcome : FnScope N_lc ["_law_stand", "_law_heads_here"] (defScope s_law_come) := ⟨rfl, rfl, rfl, by decide +kernel, rfl, by decide +kernel, by decide +kernel⟩
def R_lcome (ds : List Dt) (d : Dt) : Prop := ∃ (g : Gd) (s : Sn) (P : List (Nat × Nat)) (p c : Nat), c < g.cs.length ∧ s.pile = P ++ [(p, c)] ∧ s.t.lying.length ≤ 100 ∧ s.t.heap.length ≤ 100 ∧ ds = [encS g s, hdsT g] ∧ d = .tup [encS g (s.cameS g P c), .lst (lineL (comeLog g c))]
theorem k_lcome {M : Gm} (T : Tx M) {f : Addr} {fd : FuncData} (F : Fn M "_law_come" s_law_come f fd) : Keeps M 1 "_law_come" R_lcome := by
  refine keeps_of F.1 F.2 sc_lcome (fun ds d h => ?_) (fun _ _ _ _ _ _ us hl => match us, hl with | [_, _], _ => rfl) (fun ds d h => ?_)
  · obtain ⟨_, _, _, _, _, _, _, _, _, rfl, _⟩ := h
    rfl
  · obtain ⟨g, s, P, p, c, hc, hp, hll, hhl, rfl, rfl⟩ := h
    have e1 : s.pile.map encP = P.map encP ++ [encP (p, c)] := by rw [hp, List.map_append]; rfl
    refine xt (ds := encL g s) (nm 0) (gc (tN 2) (gc (tN 3) (gc (tN 4) (gc (tN 5) (gc (tN 6) (gc (tN 7) (gc (tN 8) tgs_nil))))))) ?_
    refine Exe.at [.dat (encS g s), .dat (hdsT g), .dat (.tup (encT g s.t)), .dat (.tup (s.pile.map encP)), .dat (.int (s.turn : Nat)), .dat (.int (s.word : Nat)), .dat (.int (s.passes : Nat)), .dat (cI s.coins), .dat .non, .no, .no] ?_
    refine xa 9 (d := .int (c : Nat)) (ix (ix (d := encP (p, c)) (nm 3) (ev_neg ev_int) (by rw [e1]; exact last_at)) ev_int) ?_
    refine xo 10 (ds := [line (hCome c)]) (lsN (a1 (tp (ac (tp (ac ev_str (ac (nm 9) (a1 ev_int)))) (ac (ls ea_nil) (a1 (tp (ac ev_str (ac (nm 9) (a1 ev_int)))))))))) fun q => ?_
    have fin : ∀ (t' : Tb) (lg : List Dt), t' = s.t.comes g c → lg = lineL (comeLog g c) → Exe M N_lc (defScope s_law_come) 0 ((defBody s_law_come).drop 4) [.dat (encS g s), .dat (hdsT g), .dat (.tup (encT g t')), .dat (.tup (s.pile.map encP)), .dat (.int (s.turn : Nat)), .dat (.int (s.word : Nat)), .dat (.int (s.passes : Nat)), .dat (cI s.coins), .dat .non, .dat (.int (c : Nat)), .own q lg] (dnD (.tup [encS g (s.cameS g P c), .lst (lineL (comeLog g c))])) := by
      intro t' lg et el
      subst et
      subst el
      refine xz 10 ?_
      refine x_ret (d := .tup [encS g (s.cameS g P c), .lst (lineL (comeLog g c))]) (Ev.to (tp (ac (tp (ac (nm 2) (ac (ev_sliceT (nm 3) eo_none (eo_some (ev_neg ev_int))) (ac (nm 4) (ac (nm 4) (ac ev_int (ac (nm 7) (a1 ev_non)))))))) (a1 (nm 10)))) ?_) rfl
      rw [e1, cut_last]
      rfl
    refine x_if (b := decide (g.force c = 0)) (tc (ix (d := .int (g.force c : Nat)) (il (d := hdD (g.cs.getD c ⟨Str.empty, 0, 0, []⟩)) (nm 1) (nm 9) (at_map (Gd.get hc))) ev_int) ev_int (c_nat (g.force c) 0)) (fun hf => ?_) (fun hf => ?_)
    · rw [decide_eq_true_eq] at hf
      refine xp (ds := [line (hCome c)]) (q := q) 10 (d := line (hLeave c)) (tp (ac (tp (ac ev_str (ac (nm 9) (a1 ev_int)))) (ac (ls ea_nil) (a1 (tp (ac ev_str (ac (nm 9) (a1 ev_int)))))))) ?_ (show 1 ≤ 1000000 from by decide)
      refine xa 2 (d := .tup (encT g { s.t with heap := sortN (s.t.heap ++ [c]) })) (Ev.to (pt (pt (ev_sliceT (nm 2) eo_none (eo_some ev_int)) (tp (a1 (tu (soN (l := s.t.heap ++ [c]) (pt (ix (nm 2) ev_int) (tp (a1 (nm 9))) ?_) ?_)))) ?_) (ev_sliceT (nm 2) (eo_some ev_int) eo_none) ?_) ?_) (x_nil (fin _ _ ?_ ?_))
      · rw [nI_len]
        show _ + 1 ≤ _
        omega
      · rw [nI_app]
        rfl
      · rw [cut6]
        exact Nat.le_of_ble_eq_true rfl
      · rw [cut6, cut7]
        exact Nat.le_of_ble_eq_true rfl
      · rw [cut6, cut7]
        rfl
      · unfold Tb.comes
        rw [if_pos hf]
      · unfold comeLog
        rw [if_pos hf]
        rfl
    · rw [decide_eq_false_iff_not] at hf
      refine xa 2 (d := .tup (encT g (s.t.come c))) (Ev.to (pt (pt (ev_sliceT (nm 2) eo_none (eo_some ev_int)) (tp (a1 (pt (ix (nm 2) ev_int) (tp (a1 (nm 9))) ?_))) ?_) (ev_sliceT (nm 2) (eo_some ev_int) eo_none) ?_) ?_) (x_nil (fin _ _ ?_ ?_))
      · rw [nI_len]
        show _ + 1 ≤ _
        omega
      · rw [show cutD (encT g s.t) none (some 5) = (encT g s.t).take 5 from cut_to _ 5]
        exact Nat.le_of_ble_eq_true rfl
      · rw [show cutD (encT g s.t) none (some 5) = (encT g s.t).take 5 from cut_to _ 5, show cutD (encT g s.t) (some 6) none = (encT g s.t).drop 6 from cut_from _ 6]
        exact Nat.le_of_ble_eq_true rfl
      · rw [show cutD (encT g s.t) none (some 5) = (encT g s.t).take 5 from cut_to _ 5, show cutD (encT g s.t) (some 6) none = (encT g s.t).drop 6 from cut_from _ 6]
        unfold encT Tb.come tI
        rw [nI_app]
        rfl
      · unfold Tb.comes
        rw [if_neg hf]
      · unfold comeLog
        rw [if_neg hf]
        rfl
abbrev N_ln : List Str := ["_law_stand", "_law_table", "_law_pile", "_law_turn_here", "_law_word", "_law_passes", "_law_coins", "_law_over", "_law_hands", "_law_decks_here", "_law_log"]
theorem sc_lnew : FnScope N_ln ["_law_stand"] (defScope s_law_new_turn) := ⟨rfl, rfl, rfl, by decide +kernel, rfl, by decide +kernel, by decide +kernel⟩
def R_lnew (ds : List Dt) (d : Dt) : Prop := ∃ (g : Gd) (s : Sn), InvS g s ∧ s.pile = [] ∧ ds = [encS g s] ∧ d = .tup [encS g (s.turnS g), .lst (lineL [.draw (s.nx g)])]
theorem k_lnew {M : Gm} (T : Tx M) {f : Addr} {fd : FuncData} (F : Fn M "_law_new_turn" s_law_new_turn f fd) : Keeps M 1 "_law_new_turn" R_lnew := by
  refine keeps_of F.1 F.2 sc_lnew (fun ds d h => ?_) (fun _ _ _ _ _ _ us hl => match us, hl with | [_], _ => rfl) (fun ds d h => ?_)
  · obtain ⟨_, _, _, _, rfl, _⟩ := h
    rfl
  · obtain ⟨g, s, I, hp, rfl, rfl⟩ := h
    have h2 := I.n2
    have hn := nx_lt I
    have hD := get_D (l := s.t.decks) (i := s.nx g) (z := []) (by rw [I.dl]; exact hn)
    have hH := get_D (l := s.t.hands) (i := s.nx g) (z := []) (by rw [I.hl]; exact hn)
    have hdl := (I.to).dk _ (List.mem_of_getElem? hD)
    have hhl := (I.to).hd _ (List.mem_of_getElem? hH)
    refine xt (ds := encL g s) (nm 0) (gc (tN 1) (gc (tN 2) (gc (tN 3) (gc (tN 4) (gc (tN 5) (gc (tN 6) (gc (tN 7) tgs_nil))))))) ?_
    refine Exe.at [.dat (encS g s), .dat (.tup (encT g s.t)), .dat (.tup (s.pile.map encP)), .dat (.int (s.turn : Nat)), .dat (.int (s.word : Nat)), .dat (.int (s.passes : Nat)), .dat (cI s.coins), .dat .non, .no, .no, .no] ?_
    refine xa 3 (d := .int (s.nx g : Nat)) (Ev.to (md (pl (nm 3) ev_int) (le (n := g.n) (d := cI s.coins) (nm 6) (by show some _ = _; rw [List.length_map, I.cn]))) (by unfold Sn.nx; congr 1)) ?_
    refine xo 6 (liN (d := cI s.coins) (nm 6)) fun b => ?_
    refine xs (ds := s.coins.map .int) (q := b) 6 (s.nx g) (d := .int 5) ev_int (nm 3) ?_ (ixN_nat (by rw [List.length_map, I.cn]; exact hn))
    refine xo 8 (liN (d := .tup (s.t.hands.map tI)) (ix (nm 1) ev_int)) fun q => ?_
    refine xo 9 (liN (d := .tup (s.t.decks.map tI)) (ix (nm 1) ev_int)) fun p => ?_
    refine Exe.at [.dat (encS g s), .dat (.tup (encT g s.t)), .dat (.tup (s.pile.map encP)), .dat (.int (s.nx g : Nat)), .dat (.int (s.word : Nat)), .dat (.int (s.passes : Nat)), .own b ((s.coins.map .int).set (s.nx g) (.int 5)), .dat .non, .own q (s.t.hands.map tI), .own p (s.t.decks.map tI), .no] ?_
    have ct : cutD (nI (s.t.decks.getD (s.nx g) [])) none (some 1) = nI ((s.t.decks.getD (s.nx g) []).take 1) := by
      rw [show cutD (nI (s.t.decks.getD (s.nx g) [])) none (some 1) = _ from cut_to _ 1]
      unfold nI
      rw [List.map_take]
    have cf : cutD (nI (s.t.decks.getD (s.nx g) [])) (some 1) none = nI ((s.t.decks.getD (s.nx g) []).drop 1) := by
      rw [show cutD (nI (s.t.decks.getD (s.nx g) [])) (some 1) none = _ from cut_from _ 1]
      unfold nI
      rw [List.map_drop]
    refine xs (ds := s.t.hands.map tI) (q := q) 8 (s.nx g) (d := tI (sortN (s.t.hands.getD (s.nx g) [] ++ (s.t.decks.getD (s.nx g) []).take 1))) (tu (soN (l := s.t.hands.getD (s.nx g) [] ++ (s.t.decks.getD (s.nx g) []).take 1) (pt (im (ow 8) (nm 3) (at_tI hH)) (ev_sliceT (im (ow 9) (nm 3) (at_tI hD)) eo_none (eo_some ev_int)) ?_) ?_)) (nm 3) ?_ (ixN_nat (by rw [List.length_map, I.hl]; exact hn))
    · rw [ct, nI_len, nI_len, List.length_take]
      omega
    · rw [ct, nI_app]
      rfl
    refine xs (ds := s.t.decks.map tI) (q := p) 9 (s.nx g) (d := tI ((s.t.decks.getD (s.nx g) []).drop 1)) (Ev.to (ev_sliceT (im (ow 9) (nm 3) (at_tI hD)) (eo_some ev_int) eo_none) (by rw [cf]; rfl)) (nm 3) ?_ (ixN_nat (by rw [List.length_map, I.dl]; exact hn))
    refine xa 1 (d := .tup (encT g (s.t.draw (s.nx g)))) (Ev.to (pt (pt (ev_sliceT (nm 1) eo_none (eo_some ev_int)) (tp (ac (tum (ow 9)) (a1 (tum (ow 8))))) ?_) (ev_sliceT (nm 1) (eo_some ev_int) eo_none) ?_) ?_) ?_
    · rw [show cutD (encT g s.t) none (some 3) = (encT g s.t).take 3 from cut_to _ 3]
      exact Nat.le_of_ble_eq_true rfl
    · rw [show cutD (encT g s.t) none (some 3) = (encT g s.t).take 3 from cut_to _ 3, cut5]
      exact Nat.le_of_ble_eq_true rfl
    · rw [show cutD (encT g s.t) none (some 3) = (encT g s.t).take 3 from cut_to _ 3, cut5, ← List.map_set, ← List.map_set]
      rfl
    refine xa 10 (d := .lst (lineL [.draw (s.nx g)])) (ls (a1 (tp (ac (tp (ac ev_str (ac (mi (ev_neg ev_int) (nm 3)) (a1 ev_int)))) (ac (ls ea_nil) (a1 (tp (ac ev_str (ac (mi (ev_neg ev_int) (nm 3)) (a1 ev_int)))))))))) ?_
    refine x_ret (d := .tup [encS g (s.turnS g), .lst (lineL [.draw (s.nx g)])]) (Ev.to (tp (ac (tp (ac (nm 1) (ac (nm 2) (ac (nm 3) (ac (nm 3) (ac ev_int (ac (tum (ow 6)) (a1 ev_non)))))))) (a1 (nm 10)))) ?_) rfl
    rw [hp, ← List.map_set]
    rfl
abbrev N_ll : List Str := ["_law_stand", "_law_heads_here", "_law_table", "_law_pile", "_law_turn_here", "_law_word", "_law_passes", "_law_coins", "_law_over"]
theorem sc_llet : FnScope N_ll ["_law_stand", "_law_heads_here"] (defScope s_law_let) := ⟨rfl, rfl, rfl, by decide +kernel, rfl, by decide +kernel, by decide +kernel⟩
def R_llet (ds : List Dt) (d : Dt) : Prop := ∃ (g : Gd) (s s' : Sn) (hs : List Hap), InvS g s ∧ LetTo g s s' hs ∧ ds = [encS g s, hdsT g] ∧ d = .tup [encS g s', .lst (lineL hs)]
theorem encP_pure (P : List (Nat × Nat)) : (Dt.tup (P.map encP)).pure = true := pures_map (f := encP) (fun _ => rfl) P
theorem encP_dep (P : List (Nat × Nat)) : (Dt.tup (P.map encP)).dep ≤ 2 := Nat.succ_le_succ (deps_map (f := encP) (n := 1) (fun _ => by show max 0 (max 0 (max 0 (max 0 0))) + 1 ≤ 1; decide) P)
theorem eq_pile (P : List (Nat × Nat)) : CmpD .Eq (.tup (P.map encP)) (.tup []) (decide (P = [])) := lk (.eq _ _ (encP_pure P) rfl (Nat.le_trans (encP_dep P) (by decide))) (by
  cases P with
  | nil => rw [show (([] : List (Nat × Nat)).map encP) = [] from rfl, eqD_refl]; rfl
  | cons q P =>
    rw [decide_eq_false (by simp)]
    unfold eqD Dt.py
    simp only [List.map_cons, pys, PyData.eqv, PyData.eqvAll])
theorem ne_pile (P : List (Nat × Nat)) : CmpD .NotEq (.tup (P.map encP)) (.tup []) (!decide (P = [])) := lk (.ne _ _ (encP_pure P) rfl (Nat.le_trans (encP_dep P) (by decide))) (by
  cases P with
  | nil => rw [show (([] : List (Nat × Nat)).map encP) = [] from rfl, eqD_refl]; rfl
  | cons q P =>
    rw [decide_eq_false (by simp)]
    unfold eqD Dt.py
    simp only [List.map_cons, pys, PyData.eqv, PyData.eqvAll])
theorem k_llet {M : Gm} (T : Tx M) (C1 : Keeps M 1 "_law_new_turn" R_lnew) (C2 : Keeps M 1 "_law_come" R_lcome) {f : Addr} {fd : FuncData} (F : Fn M "_law_let" s_law_let f fd) : Keeps M 2 "_law_let" R_llet := by
  refine keeps_of F.1 F.2 sc_llet (fun ds d h => ?_) (fun _ _ _ _ _ _ us hl => match us, hl with | [_, _], _ => rfl) (fun ds d h => ?_)
  · obtain ⟨_, _, _, _, _, _, rfl, _⟩ := h
    rfl
  · obtain ⟨g, s, s', hs, I, L, rfl, rfl⟩ := h
    have h2 := I.n2
    refine xt (ds := encL g s) (nm 0) (gc (tN 2) (gc (tN 3) (gc (tN 4) (gc (tN 5) (gc (tN 6) (gc (tN 7) (gc (tN 8) tgs_nil))))))) ?_
    refine Exe.at [.dat (encS g s), .dat (hdsT g), .dat (.tup (encT g s.t)), .dat (.tup (s.pile.map encP)), .dat (.int (s.turn : Nat)), .dat (.int (s.word : Nat)), .dat (.int (s.passes : Nat)), .dat (cI s.coins), .dat .non] ?_
    cases L with
    | pass hp =>
      refine x_ifT (tc (pl (nm 6) ev_int) (le (n := g.n) (d := cI s.coins) (nm 7) (by show some _ = _; rw [List.length_map, I.cn])) (lk (.lt _ _) (decide_eq_true (by omega)))) ?_
      refine x_ret (d := .tup [encS g (s.passS g), .lst []]) (tp (ac (tp (ac (nm 2) (ac (nm 3) (ac (nm 4) (ac (Ev.to (d' := .int (((s.word + 1) % g.n : Nat) : Nat)) (md (pl (nm 5) ev_int) (le (n := g.n) (d := cI s.coins) (nm 7) (by show some _ = _; rw [List.length_map, I.cn]))) (by congr 1)) (ac (Ev.to (d' := .int ((s.passes + 1 : Nat) : Nat)) (pl (nm 6) ev_int) rfl) (ac (nm 7) (a1 (nm 8))))))))) (a1 (ls ea_nil)))) rfl
    | turn hp hpile =>
      refine x_ifF0 (tc (pl (nm 6) ev_int) (le (n := g.n) (d := cI s.coins) (nm 7) (by show some _ = _; rw [List.length_map, I.cn])) (lk (.lt _ _) (decide_eq_false (by omega)))) ?_
      refine x_ifT (tc (nm 3) (tp ea_nil) (lk (eq_pile _) (decide_eq_true hpile))) ?_
      exact x_ret (ca C1 (a1 (nm 0)) ⟨g, s, I, hpile, rfl, rfl⟩) rfl
    | came P p c hp hpile =>
      refine x_ifF0 (tc (pl (nm 6) ev_int) (le (n := g.n) (d := cI s.coins) (nm 7) (by show some _ = _; rw [List.length_map, I.cn])) (lk (.lt _ _) (decide_eq_false (by omega)))) ?_
      refine x_ifF0 (tc (nm 3) (tp ea_nil) (lk (eq_pile _) (decide_eq_false (by rw [hpile]; simp)))) ?_
      exact x_ret (ca C2 (ac (nm 0) (a1 (nm 1))) ⟨g, s, P, p, c, (come_sd I hpile).1, hpile, I.to.ll, I.to.hh, rfl, rfl⟩) rfl
abbrev N_can : List Str := ["_law_stand", "_law_heads_here", "_law_table", "_law_pile", "_law_turn_here", "_law_word", "_law_passes", "_law_coins", "_law_over", "_law_number_here"]
theorem sc_lcan : FnScope N_can ["_law_stand", "_law_heads_here"] (defScope s_law_can) := ⟨rfl, rfl, rfl, by decide +kernel, rfl, by decide +kernel, by decide +kernel⟩
def canL (g : Gd) (s : Sn) : List Nat := if s.turn = s.word ∧ s.pile = [] then (s.t.hands.getD s.word []).filter fun c => decide (g.cost c ≤ s.coins.getD s.word 0) else []
def R_lcan (ds : List Dt) (d : Dt) : Prop := ∃ (g : Gd) (s : Sn), InvS g s ∧ ds = [encS g s, hdsT g] ∧ d = .lst (nI (canL g s))
theorem k_lcan {M : Gm} (T : Tx M) {f : Addr} {fd : FuncData} (F : Fn M "_law_can" s_law_can f fd) : Keeps M 1 "_law_can" R_lcan := by
  refine keeps_of F.1 F.2 sc_lcan (fun ds d h => ?_) (fun _ _ _ _ _ _ us hl => match us, hl with | [_, _], _ => rfl) (fun ds d h => ?_)
  · obtain ⟨_, _, _, rfl, _⟩ := h
    rfl
  · obtain ⟨g, s, I, rfl, rfl⟩ := h
    have hw := I.wn
    have hH := get_D (l := s.t.hands) (i := s.word) (z := []) (by rw [I.hl]; exact hw)
    have hC := get_D (l := s.coins) (i := s.word) (z := 0) (by rw [I.cn]; exact hw)
    have hhl := (I.to).hd _ (List.mem_of_getElem? hH)
    refine xt (ds := encL g s) (nm 0) (gc (tN 2) (gc (tN 3) (gc (tN 4) (gc (tN 5) (gc (tN 6) (gc (tN 7) (gc (tN 8) tgs_nil))))))) ?_
    refine Exe.at [.dat (encS g s), .dat (hdsT g), .dat (.tup (encT g s.t)), .dat (.tup (s.pile.map encP)), .dat (.int (s.turn : Nat)), .dat (.int (s.word : Nat)), .dat (.int (s.passes : Nat)), .dat (cI s.coins), .dat .non, .no] ?_
    refine x_if (et_w (ew_or (tc (nm 4) (nm 5) (c_natN _ _)) (fun _ => ew_or1 (tc (nm 3) (tp ea_nil) (ne_pile _))))) (fun h => ?_) (fun h => ?_)
    · have hn : ¬ (s.turn = s.word ∧ s.pile = []) := fun ⟨a, b⟩ => by
        rw [decide_eq_true a, decide_eq_true b] at h
        cases h
      unfold canL
      rw [if_neg hn]
      exact x_ret (ls ea_nil) rfl
    · rw [Bool.or_eq_false_iff, Bool.not_eq_false', Bool.not_eq_false', decide_eq_true_eq, decide_eq_true_eq] at h
      unfold canL
      rw [if_pos h]
      refine x_nil (x_ret (EvN.ev (lcf (A := Nat) (enc := fun n => .int (n : Nat)) (xs := s.t.hands.getD s.word []) [("_law_number_here", 9)] (fun c => decide (g.cost c ≤ s.coins.getD s.word 0)) (fun n => .int (n : Nat)) (r2 := fun c => [.dat (encS g s), .dat (hdsT g), .dat (.tup (encT g s.t)), .dat (.tup (s.pile.map encP)), .dat (.int (s.turn : Nat)), .dat (.int (s.word : Nat)), .dat (.int (s.passes : Nat)), .dat (cI s.coins), .dat .non, .dat (.int (c : Nat))]) (ei_tup (ix (ix (nm 2) ev_int) (nm 5) (at_tI hH))) (fun c _ => tN 9) (fun c hc => ?_) (fun c _ _ => nm 9) (by omega))) rfl)
      exact tc (d1 := .int (g.cost c)) (ix (il (d := hdD (g.cs.getD c ⟨Str.empty, 0, 0, []⟩)) (nm 1) (nm 9) (at_map (Gd.get (I.hd _ (List.mem_of_getElem? hH) c hc)))) ev_int) (ix (nm 7) (nm 5) (at_map (f := Dt.int) hC)) (.le _ _)
theorem can_ok {g : Gd} {s : Sn} (I : InvS g s) {c : Nat} (h : c ∈ canL g s) : CanP g s c := by
  unfold canL at h
  split at h
  · rename_i e
    obtain ⟨h1, h2⟩ := List.mem_filter.mp h
    have hH := get_D (l := s.t.hands) (i := s.word) (z := []) (by rw [I.hl]; exact I.wn)
    exact ⟨e.1, e.2, I.wn, I.n4, I.hl, I.cn, I.hd _ (List.mem_of_getElem? hH) c h1, h1, (I.to).hd _ (List.mem_of_getElem? hH), by simpa using h2⟩
  · exact nomatch h
end Ts

set_option Elab.async false
set_option linter.all false
set_option maxRecDepth 100000
set_option maxHeartbeats 1000000
/-! PL: the law. -/
namespace Ts
open PySem L2
abbrev N_law : List Str := ["_law_script", "_law_decks_here", "_law_heads_here", "_law_fight", "_law_beside", "_law_stand", "_law_many", "_law_k", "_law_number_here", "_law_some", "_law_word", "_law_card_here", "_law_log", "_law_deck", "_law_j"]
theorem sc_law : FnScope N_law ["_law_script"] (defScope s_law) := ⟨rfl, rfl, rfl, by decide +kernel, rfl, by decide +kernel, by decide +kernel⟩
def R_law (ds : List Dt) (d : Dt) : Prop := ∃ xs : List Int, xs.length ≤ 63 ∧ ds = [.lst (xs.map .int)] ∧ d = .bl true
theorem cI_pure (l : List Int) : (cI l).pure = true := pures_ints l
theorem encS_pure (g : Gd) (s : Sn) : (encS g s).pure = true := by
  show pures (encL g s) = true
  simp only [encL, pures, encT_pure, encP_pure, cI_pure, Dt.pure, Bool.and_self]
  have h1 := encT_pure g s.t
  have h2 := encP_pure s.pile
  simp only [Dt.pure] at h1 h2
  simp only [h1, h2, Bool.and_self]
theorem cI_dep (l : List Int) : (cI l).dep = 1 := congrArg (· + 1) (deps_ints l)
theorem encS_dep (g : Gd) (s : Sn) : (encS g s).dep ≤ 4 := by
  show deps (encL g s) + 1 ≤ 4
  have h1 := encT_dep g s.t
  have h2 := encP_dep s.pile
  have h3 := cI_dep s.coins
  have e0 : ∀ i : Int, (Dt.int i).dep = 0 := fun _ => rfl
  have e1 : Dt.non.dep = 0 := rfl
  simp only [encL, deps, e0, e1]
  omega
theorem line_pure (hs : List Hap) : (Dt.lst (lineL hs)).pure = true := pures_map (f := fun h : Hap => line h.dt) (fun h => by cases h <;> rfl) hs
theorem line_dep (hs : List Hap) : (Dt.lst (lineL hs)).dep ≤ 4 := by
  refine Nat.succ_le_succ (deps_map (f := fun h : Hap => line h.dt) (n := 3) (fun h => ?_) hs)
  cases h <;> exact Nat.le_of_ble_eq_true rfl
theorem ne_same {d : Dt} (h : d.pure = true) (h2 : d.dep ≤ 64) : CmpD .NotEq d d false := lk (.ne _ _ h h h2) (by rw [eqD_refl]; rfl)
theorem let_ex {g : Gd} {s : Sn} (I : InvS g s) : ∃ s' hs, LetTo g s s' hs := by
  by_cases h : s.passes + 1 < g.n
  · exact ⟨_, _, .pass h⟩
  · cases e : s.pile with
    | nil => exact ⟨_, _, .turn h e⟩
    | cons q l =>
      have e2 := List.dropLast_concat_getLast (l := q :: l) (by simp)
      exact ⟨_, _, .came _ _ _ h (e.trans e2.symm)⟩
def forBody : Stmt → List Stmt
  | .For _ _ b _ _ => b
  | _ => []
def elsOf : Stmt → List Stmt
  | .If _ _ e _ => e
  | _ => []
theorem ne_nI (l : List Nat) : CmpD .NotEq (.lst (nI l)) (.lst []) (!decide (l = [])) := lk (.ne _ _ (nI_pure l) rfl (Nat.le_trans (nI_dep l) (by decide))) (by
  cases l with
  | nil => rw [show nI [] = [] from rfl, eqD_refl]; rfl
  | cons q P =>
    rw [decide_eq_false (by simp)]
    unfold eqD Dt.py nI
    simp only [List.map_cons, pys, PyData.eqv, PyData.eqvAll])
theorem own_lt {dk : Dk} {i c : Nat} (hi : i < dk.length) (h : c ∈ ownN dk i) : c < dk.flatten.length := by
  have e : dk[i]? = some dk[i] := List.getElem?_eq_getElem hi
  unfold ownN at h
  rw [getD_of e] at h
  obtain ⟨j, hj, rfl⟩ := List.mem_map.mp h
  have hj := List.mem_range.mp hj
  have h1 := fst_succ e
  have h2 : fstN dk (i + 1) ≤ fstN dk dk.length := by
    unfold fstN
    rw [List.take_length]
    have : dk = dk.take (i + 1) ++ dk.drop (i + 1) := (List.take_append_drop _ _).symm
    have h3 : dk.flatten.length = (dk.take (i + 1)).flatten.length + (dk.drop (i + 1)).flatten.length := by
      rw [← List.length_append, ← List.flatten_append, List.take_append_drop]
    omega
  rw [fst_all] at h2
  omega
theorem sum_snoc (l : List (List Nat)) (x : List Nat) : sumL (l ++ [x]) = sumL l + x.length := by
  unfold sumL
  rw [List.map_append, List.sum_append]
  simp
theorem sum_own {dk : Dk} : ∀ {i : Nat}, i ≤ dk.length → sumL (lfP dk i) + sumL (hdP dk i) = fstN dk i
  | 0, _ => rfl
  | i + 1, h => by
    have e : dk[i]? = some dk[i] := List.getElem?_eq_getElem (by omega)
    have ih := sum_own (dk := dk) (i := i) (by omega)
    rw [lf_succ, hd_succ, sum_snoc, sum_snoc, fst_succ e, List.length_drop, List.length_take]
    have : (ownN dk i).length = dk[i].length := by
      unfold ownN
      rw [getD_of e, List.length_map, List.length_range]
    omega
theorem inv0 {dk : Dk} (L : DkOk dk) : InvS (gdOf dk) (s0 dk) := by
  have h2 := L.n2
  have hcs : (gdOf dk).cs.length = dk.flatten.length := List.length_map _
  refine ⟨?_, ?_, h2, L.n4, ?_, ?_, fun l hl c hc => ?_, fun l hl c hc => ?_, (fun _ h => nomatch h), (fun _ h => nomatch h), List.Pairwise.nil, (fun _ h => nomatch h), ?_, ?_, ?_, ?_⟩
  · rw [hcs]
    exact (ow_len (Nat.le_refl _)).trans (fst_all dk)
  · rw [hcs]
    exact L.m
  · show (lfP dk dk.length).length = dk.length
    unfold lfP
    rw [List.length_map, List.length_range]
  · show (hdP dk dk.length).length = dk.length
    unfold hdP
    rw [List.length_map, List.length_range]
  · obtain ⟨i, hi, rfl⟩ := List.mem_map.mp (show l ∈ (List.range dk.length).map fun j => (ownN dk j).drop 3 from hl)
    rw [hcs]
    exact own_lt (List.mem_range.mp hi) (List.mem_of_mem_drop hc)
  · obtain ⟨i, hi, rfl⟩ := List.mem_map.mp (show l ∈ (List.range dk.length).map fun j => (ownN dk j).take 3 from hl)
    rw [hcs]
    exact own_lt (List.mem_range.mp hi) (List.mem_of_mem_take hc)
  · show 0 < dk.length
    omega
  · show 0 < dk.length
    omega
  · show ((List.range dk.length).map _).length = dk.length
    rw [List.length_map, List.length_range]
  · show sumL (lfP dk dk.length) + sumL (hdP dk dk.length) + 0 + 0 + 0 ≤ 16
    have a := sum_own (dk := dk) (Nat.le_refl _)
    have b := L.m
    rw [fst_all] at a
    omega
section
variable {M : Gm} {N : List Str} {sc : Scope} {k : Nat} {e : Expr} {es : List Expr} {r : List Sl} {d : Dt} {ds : List Dt} {pos p : Pos} {x m : Str} {sts : List Stmt} {D : Dn}
theorem xm1 (i : Nat) {j : Nat} {W : FigV} {F F' : FigD} {p2 apos cpos : Pos} {R : FigD → List Dt → FigD → Dt → Prop} {pl : Env → Sem Bool} (c : KeepsM M j m R [.non]) (ha : EvA M N sc k (e :: es) r ds) (hR : R F (ds ++ [.non]) F' d) (z : ∀ W', W'.ft = W.ft → Exe M N sc k sts (r.set i (.fig W' F')) D) (hk : j ≤ k := by decide) (h : r[i]? = some (.fig W F) := by rfl) (hN : N[i]? = some x := by rfl) (hv : Vis sc x := by first | exact .inl rfl | exact .inr (.inl rfl) | exact .inr (.inr rfl)) (hd : (x == ("__debug__" : Str)) = false := by decide) (hcd : (x == ("__classdict__" : Str)) = false := by decide)
    (hm : m ∉ ([("known" : Str), "keepers", "stands", "past", "last_log"] : List Str) := by decide +kernel) (hst : ∀ env, starEach (e :: es) env = (false, eval e env) :: starEach es env := by intros; rfl) (hpl : ∀ env, (backTo cpos (starEach es env)).any (·.1) = false := by intros; rfl)
    (ht : ∀ env, eval (.Call (.Attribute (.Name x p2) m apos) (e :: es) [] cpos) env = (do
      let ov ← eval (.Name x p2) env
      standAt apos.atName
      let (f, first) ← holding [ov] (getMethod ov m (pl env))
      callWith cpos f first (backTo cpos (starEach (e :: es) env)) (backToKw cpos (keywordEach [] env))) := by intros; rfl) : Exe M N sc k (.Expr (.Call (.Attribute (.Name x p2) m apos) (e :: es) [] cpos) pos :: sts) r D :=
  x_meth (dds := [.non]) c hk h hN hv hd hcd hm ha (fun _ => .cons .non .nil) hR hst hpl ht z
end
theorem Stands.on {g : Gd} {s s' : Sn} {F : FigD} {deed : Dt} {lg : List Dt} (S : Stands g s F) (h1 : F.stands.length ≤ 900) (h2 : F.past.length ≤ 900) : Stands g s' (F.on deed (encS g s') lg) := by
  refine ⟨S.kn, S.ke, ⟨F.stands, rfl⟩, ?_, ?_⟩
  · show (F.stands ++ [_]).length ≤ 1000
    rw [List.length_append, List.length_singleton]
    omega
  · show (F.past ++ [_]).length ≤ 1000
    rw [List.length_append, List.length_singleton]
    omega
theorem x_ifK {M : Gm} {N : List Str} {sc : Scope} {k : Nat} {c : Expr} {r : List Sl} {b : Bool} {pos : Pos} {thn els sts : List Stmt} {D : Dn} {A : Type} (R : A → List Sl) (h : EvT M N sc k c r b) (h1 : b = true → Exe M N sc k thn r { D with nx := fun r' => ∃ a, r' = R a }) (h2 : b = false → Exe M N sc k els r { D with nx := fun r' => ∃ a, r' = R a }) (q : ∀ a, Exe M N sc k sts (R a) D) : Exe M N sc k (.If c thn els pos :: sts) r D :=
  x_if h (fun e => (h1 e).imp (fun r' ⟨a, e'⟩ => by rw [e']; exact q a) (fun _ _ z => z) (fun _ z => z) (fun _ z => z)) (fun e => (h2 e).imp (fun r' ⟨a, e'⟩ => by rw [e']; exact q a) (fun _ _ z => z) (fun _ z => z) (fun _ z => z))
theorem fn_law {M : Gm} (T : Tx M) (C1 : Keeps M 2 "_law_decks" R_ldecks) (C2 : Keeps M 1 "_law_heads" R_lheads) (ck : C8.Mak M.P M.w M.K M.mg M.base 5 "Fight" M.CF (spFight M) []) (C3 : Keeps M 1 "_law_first" R_lfirst) (C4 : Keeps M 1 "_law_number" R_lnum) (C5 : Keeps M 1 "_law_can" R_lcan) (C6 : Keeps M 1 "_law_played" R_lplayed) (C7 : Keeps M 2 "_law_let" R_llet)
    (m1 : KeepsM M 4 "play" R_play []) (m2 : KeepsM M 9 "let" R_let []) (m3 : KeepsM M 9 "let" R_let [.non]) (m4 : KeepsP M 1 "stand" R_stand) (m5 : KeepsP M 1 "log" R_log) (m6 : KeepsP M 1 "many" R_many) {f : Addr} {fd : FuncData} (F : FunD M.K "law" "law" (defArgs s_law) (defBody s_law) (defScope s_law) [] [] f fd) :
    FnOk M.P M.w M.K M.mg M.base CX0 10 f fd ["_law_script"] (spD M R_law) := by
  refine fn_data F sc_law (fun ds d h => ?_) (fun ds d h => ?_)
  · obtain ⟨_, _, rfl, _⟩ := h
    rfl
  · obtain ⟨xs, hxs, rfl, rfl⟩ := h
    have L := dk_ok xs
    generalize hdk : dkOf xs = dk at L
    have hx1 : xs.length ≤ 1000 := by omega
    refine xa 1 (d := dksT dk) (ca C1 (ac (nm 0) (a1 (ls ea_nil))) ⟨xs, hx1, rfl, by rw [hdk]⟩) ?_
    refine xa 2 (d := hdsT (gdOf dk)) (ca C2 (a1 (nm 1)) ⟨dk, L, rfl, rfl⟩) ?_
    refine x_fight 3 ck (a1 (Ev.to (d' := dksT dk) (EvN.ev (lc (A := List Nat) (enc := dkT) (xs := dk) [("_law_deck", 13)] dkT (r2 := fun l => [.dat (.lst (xs.map .int)), .dat (dksT dk), .dat (hdsT (gdOf dk)), .no, .no, .no, .no, .no, .no, .no, .no, .no, .no, .dat (dkT l), .no]) (ei_list (nm 1)) (fun l _ => tN 13) (fun l _ => li (nm 13)) (by have := L.n4; omega))) rfl)) L fun W1 => ?_
    refine x_fight 4 ck (a1 (nm 1)) L fun W2 => ?_
    refine xa 5 (d := encS (gdOf dk) (s0 dk)) (ca C3 (ac (nm 1) (a1 (nm 2))) ⟨dk, L, rfl, rfl⟩) ?_
    obtain ⟨mN, hmN, emN⟩ : ∃ m : Nat, m ≤ 52 ∧ (12 : Int) + (if (40 : Int) * (if decide (num xs 75 % 8 = 5) then 1 else 0) > ((xs.take 40).length : Nat) then (40 : Int) * (if decide (num xs 75 % 8 = 5) then 1 else 0) else ((xs.take 40).length : Nat)) = (m : Nat) := by
      have h40 : (xs.take 40).length ≤ 40 := by
        rw [List.length_take]
        omega
      generalize (xs.take 40).length = q at h40
      cases decide (num xs 75 % 8 = 5) with
      | true =>
        show ∃ m : Nat, m ≤ 52 ∧ (12 : Int) + (if (40 : Int) * 1 > (q : Nat) then (40 : Int) * 1 else (q : Nat)) = (m : Nat)
        split
        · exact ⟨52, by omega, by omega⟩
        · exact ⟨12 + q, by omega, by omega⟩
      | false =>
        show ∃ m : Nat, m ≤ 52 ∧ (12 : Int) + (if (40 : Int) * 0 > (q : Nat) then (40 : Int) * 0 else (q : Nat)) = (m : Nat)
        split
        · exact ⟨12, by omega, by omega⟩
        · exact ⟨12 + q, by omega, by omega⟩
    refine xa 6 (d := .int (mN : Nat)) (Ev.to (pl ev_int (ev_max2 T.toBlt rfl (ac (le (n := (xs.take 40).length) (d := .lst ((xs.take 40).map .int)) (Ev.to (ev_sliceL (nm 0) eo_none (eo_some ev_int)) (by rw [show cutD (xs.map Dt.int) none (some 40) = (xs.map Dt.int).take 40 from cut_to _ 40, List.map_take])) (by show some _ = _; rw [List.length_map])) (a1 (mu ev_int (inB (c := decide (num xs 75 % 8 = 5)) (cm (Ev.to (d' := .int ((num xs 75 % 8 : Nat) : Nat)) (md (ca C4 (ac (nm 0) (a1 ev_int)) ⟨xs, 75, hx1, by decide, rfl, rfl⟩) ev_int) (by congr 1)) ev_int (c_nat (num xs 75 % 8) 5))) (cmul_b _ _)))) (by intros; rfl) (by intros; rfl))) (by rw [emN])) ?_
    have I0 := inv0 L
    have S0 : Stands (gdOf dk) (s0 dk) (fig0 dk) := ⟨rfl, rfl, ⟨[], rfl⟩, by show 1 ≤ 1000; decide, by show 0 ≤ 1000; decide⟩
    refine Exe.at [.dat (.lst (xs.map .int)), .dat (dksT dk), .dat (hdsT (gdOf dk)), .fig W1 (fig0 dk), .fig W2 (fig0 dk), .dat (encS (gdOf dk) (s0 dk)), .dat (.int (mN : Nat)), .no, .no, .no, .no, .no, .no, .no, .no] ?_
    generalize hg : gdOf dk = g at *
    -- the comparison behind each deed
    have tail : ∀ (D : Dn) (s : Sn) (hs : List Hap) (W1 W2 : FigV) (F1 F2 : FigD) (s7 s8 s9 s10 s11 : Sl), Stands g s F1 → Stands g s F2 → hs.length ≤ 2 → F1.log = lineL hs → D.nx [.dat (.lst (xs.map .int)), .dat (dksT dk), .dat (hdsT g), .fig W1 F1, .fig W2 F2, .dat (encS g s), .dat (.int (mN : Nat)), s7, s8, s9, s10, s11, .dat (.lst (lineL hs)), .no, .no] →
        Exe M N_law (defScope s_law) 9 ((forBody ((defBody s_law).getD 6 (.Pass ⟨0, 0, 0, 0⟩))).drop 4) [.dat (.lst (xs.map .int)), .dat (dksT dk), .dat (hdsT g), .fig W1 F1, .fig W2 F2, .dat (encS g s), .dat (.int (mN : Nat)), s7, s8, s9, s10, s11, .dat (.lst (lineL hs)), .no, .no] D := by
      intro D s hs W1 W2 F1 F2 s7 s8 s9 s10 s11 S1 S2 hl hlog q
      have eS := ne_same (encS_pure g s) (Nat.le_trans (encS_dep g s) (by decide))
      refine x_ifF0 (EvT.to (et_w (ew_or (c' := false) (tc (mt0 3 (W := W1) (F := F1) m4 ⟨rfl, S1.st⟩) (nm 5) eS) (fun _ => EvW.to (ew_or (c' := false) (tc (d1 := .lst (lineL hs)) (mt0 3 (W := W1) (F := F1) m5 ⟨rfl, hs, by omega, hlog, rfl⟩) (nm 12) (ne_same (line_pure hs) (Nat.le_trans (line_dep hs) (by decide)))) (fun _ => ew_or1 (tc (mt0 4 (W := W2) (F := F2) m4 ⟨rfl, S2.st⟩) (nm 5) eS))) rfl))) rfl) ?_
      exact x_nil q
    refine fe (A := Nat) (enc := fun i => .int (i : Nat)) (xs := List.range mN) (fun i r' => ∃ (s : Sn) (W1 W2 : FigV) (F1 F2 : FigD) (s7 s8 s9 s10 s11 s12 : Sl), InvS g s ∧ Stands g s F1 ∧ Stands g s F2 ∧ F1.stands.length = i + 1 ∧ F2.stands.length = i + 1 ∧ F1.past.length = i ∧ F2.past.length = i ∧
      r' = [.dat (.lst (xs.map .int)), .dat (dksT dk), .dat (hdsT g), .fig W1 F1, .fig W2 F2, .dat (encS g s), .dat (.int (mN : Nat)), s7, s8, s9, s10, s11, s12, .no, .no]) (EvI.to (rg (hi := (mN : Nat)) (nm 6)) (rgD_nat mN)) ⟨s0 dk, W1, W2, fig0 dk, fig0 dk, _, _, _, _, _, _, I0, S0, S0, rfl, rfl, rfl, rfl, rfl⟩ (fun i w r' hw ⟨s, W1, W2, F1, F2, s7, s8, s9, s10, s11, s12, I, S1, S2, a1', a2', b1', b2', e⟩ => ?_) (fun r' ⟨s, W1, W2, F1, F2, s7, s8, s9, s10, s11, s12, I, S1, S2, a1', a2', b1', b2', e⟩ => ?_)
    · subst e
      have ew : w = i ∧ i < mN := by
        have hi : i < mN := by
          have := (List.getElem?_eq_some_iff.mp hw).1
          rw [List.length_range] at this
          exact this
        rw [List.getElem?_range hi] at hw
        exact ⟨(Option.some.inj hw).symm, hi⟩
      obtain ⟨rfl, hi⟩ := ew
      refine ⟨_, [.dat (.lst (xs.map .int)), .dat (dksT dk), .dat (hdsT g), .fig W1 F1, .fig W2 F2, .dat (encS g s), .dat (.int (mN : Nat)), .dat (.int (w : Nat)), s8, s9, s10, s11, s12, .no, .no], tN 7, ?_⟩
      refine xa 8 (d := .int (num xs (80 + w) : Nat)) (ca C4 (ac (nm 0) (a1 (pl ev_int (nm 7)))) ⟨xs, 80 + w, hx1, by omega, by congr 1, rfl⟩) ?_
      refine xa 9 (d := .lst (nI (canL g s))) (ca C5 (ac (nm 5) (a1 (nm 2))) ⟨g, s, I, rfl, rfl⟩) ?_
      refine xa 10 (d := .int (s.word : Nat)) (ix (nm 5) ev_int) ?_
      generalize hnm : num xs (80 + w) = nmb
      refine Exe.at [.dat (.lst (xs.map .int)), .dat (dksT dk), .dat (hdsT g), .fig W1 F1, .fig W2 F2, .dat (encS g s), .dat (.int (mN : Nat)), .dat (.int (w : Nat)), .dat (.int (nmb : Nat)), .dat (.lst (nI (canL g s))), .dat (.int (s.word : Nat)), s11, s12, .no, .no] ?_
      have fin1 : ∀ {s' : Sn} {d1 : Dt} {lg : List Dt}, Stands g s' (F1.on d1 (encS g s') lg) := fun {s' d1 lg} => S1.on (by omega) (by omega)
      have fin2 : ∀ {s' : Sn} {d1 : Dt} {lg : List Dt}, Stands g s' (F2.on d1 (encS g s') lg) := fun {s' d1 lg} => S2.on (by omega) (by omega)
      refine x_if (b := !decide (canL g s = []) && decide (0 < nmb % 3)) (et_w (ew_and (tc (d1 := .lst (nI (canL g s))) (nm 9) (ls ea_nil) (ne_nI _)) (fun _ => ew_and1 (tc (d1 := .int ((nmb % 3 : Nat) : Nat)) (Ev.to (md (nm 8) ev_int) (by congr 1)) ev_int (lk (.gt _ _) (by rw [decide_eq_decide]; omega)))))) (fun hb => ?_) (fun hb => ?_)
      · rw [Bool.and_eq_true, Bool.not_eq_true', decide_eq_false_iff_not] at hb
        have hl : 0 < (canL g s).length := List.length_pos_iff.mpr hb.1
        have hm : nmb / 3 % (canL g s).length < (canL g s).length := Nat.mod_lt _ hl
        obtain ⟨c, hc⟩ := lt_some hm
        have hP := can_ok I (List.mem_of_getElem? hc)
        refine xa 11 (d := .int (c : Nat)) (il (nm 9) (Ev.to (d' := .int ((nmb / 3 % (canL g s).length : Nat) : Nat)) (md (Ts.fd (nm 8) ev_int) (le (n := (canL g s).length) (d := .lst (nI (canL g s))) (nm 9) (by show some _ = _; rw [nI_len]))) (by congr 1)) (at_nI hc)) ?_
        refine xa 5 (d := encS g (s.played g c)) (ca C6 (ac (nm 5) (ac (nm 2) (a1 (nm 11)))) ⟨g, s, c, hP, rfl, rfl⟩) ?_
        refine xa 12 (d := .lst (lineL [])) (ls ea_nil) ?_
        refine xm 3 (W := W1) (F := F1) m1 (ac (nm 10) (a1 (nm 11))) ⟨g, s, c, S1, hP, rfl, rfl, rfl⟩ fun W3 e3 => ?_
        refine xm 4 (W := W2) (F := F2) m1 (ac (nm 10) (a1 (nm 11))) ⟨g, s, c, S2, hP, rfl, rfl, rfl⟩ fun W4 e4 => x_nil ?_
        refine Exe.at [.dat (.lst (xs.map .int)), .dat (dksT dk), .dat (hdsT g), .fig W3 (F1.on (deedP s.word c) (encS g (s.played g c)) []), .fig W4 (F2.on (deedP s.word c) (encS g (s.played g c)) []), .dat (encS g (s.played g c)), .dat (.int (mN : Nat)), .dat (.int (w : Nat)), .dat (.int (nmb : Nat)), .dat (.lst (nI (canL g s))), .dat (.int (s.word : Nat)), .dat (.int (c : Nat)), .dat (.lst (lineL [])), .no, .no] ?_
        refine tail _ (s.played g c) [] W3 W4 _ _ _ _ _ _ _ fin1 fin2 (Nat.zero_le _) rfl ⟨s.played g c, W3, W4, _, _, _, _, _, _, _, _, played_inv I hP, fin1, fin2, ?_, ?_, ?_, ?_, rfl⟩
        · show (F1.stands ++ [_]).length = _
          rw [List.length_append, a1']
          rfl
        · show (F2.stands ++ [_]).length = _
          rw [List.length_append, a2']
          rfl
        · show (F1.past ++ [_]).length = _
          rw [List.length_append, b1']
          rfl
        · show (F2.past ++ [_]).length = _
          rw [List.length_append, b2']
          rfl
      · obtain ⟨s', hs, Lt⟩ := let_ex I
        have I' := Lt.inv I
        refine xt (ca C7 (ac (nm 5) (a1 (nm 2))) ⟨g, s, s', hs, I, Lt, rfl, rfl⟩) (gc (tN 5) (gc (tN 12) tgs_nil)) ?_
        refine Exe.at [.dat (.lst (xs.map .int)), .dat (dksT dk), .dat (hdsT g), .fig W1 F1, .fig W2 F2, .dat (encS g s'), .dat (.int (mN : Nat)), .dat (.int (w : Nat)), .dat (.int (nmb : Nat)), .dat (.lst (nI (canL g s))), .dat (.int (s.word : Nat)), s11, .dat (.lst (lineL hs)), .no, .no] ?_
        refine x_ifK (A := FigV × List Dt) (fun q => [.dat (.lst (xs.map .int)), .dat (dksT dk), .dat (hdsT g), .fig q.1 (F1.on (deedL s.word q.2) (encS g s') (lineL hs)), .fig W2 F2, .dat (encS g s'), .dat (.int (mN : Nat)), .dat (.int (w : Nat)), .dat (.int (nmb : Nat)), .dat (.lst (nI (canL g s))), .dat (.int (s.word : Nat)), s11, .dat (.lst (lineL hs)), .no, .no]) (tc (d1 := .int ((nmb / 7 % 2 : Nat) : Nat)) (Ev.to (md (Ts.fd (nm 8) ev_int) ev_int) (by congr 1)) ev_int (c_nat (nmb / 7 % 2) 0)) (fun _ => ?_) (fun _ => ?_) (fun q => ?_)
        · exact xm1 3 (W := W1) (F := F1) m3 (a1 (nm 10)) ⟨g, s, s', hs, [], .non, S1, I, Lt, .inl ⟨rfl, rfl⟩, rfl, rfl, rfl⟩ fun W3 e3 => x_nil ⟨(W3, []), rfl⟩
        · refine xm 3 (W := W1) (F := F1) m2 (ac (nm 10) (a1 (EvN.ev (lc (A := Nat) (enc := fun n => .int (n : Nat)) (xs := List.range (nmb / 126 % 4)) [("_law_j", 14)] (fun _ => .int ((nmb : Int) / 14 % 9 - 4)) (r2 := fun j => [.dat (.lst (xs.map .int)), .dat (dksT dk), .dat (hdsT g), .fig W1 F1, .fig W2 F2, .dat (encS g s'), .dat (.int (mN : Nat)), .dat (.int (w : Nat)), .dat (.int (nmb : Nat)), .dat (.lst (nI (canL g s))), .dat (.int (s.word : Nat)), s11, .dat (.lst (lineL hs)), .no, .dat (.int (j : Nat))]) (EvI.to (rg (hi := ((nmb / 126 % 4 : Nat) : Nat)) (Ev.to (md (Ts.fd (nm 8) ev_int) ev_int) (by congr 1))) (rgD_nat _)) (fun j _ => tN 14) (fun j _ => mi (md (Ts.fd (nm 8) ev_int) ev_int) ev_int) (by rw [List.length_range]; omega))))) ⟨g, s, s', hs, _, _, S1, I, Lt, .inr rfl, rfl, rfl, rfl⟩ fun W3 e3 => ?_
          exact x_nil ⟨(W3, _), rfl⟩
        · refine xm1 4 (W := W2) (F := F2) m3 (a1 (nm 10)) ⟨g, s, s', hs, [], .non, S2, I, Lt, .inl ⟨rfl, rfl⟩, rfl, rfl, rfl⟩ fun W4 e4 => x_nil ?_
          refine Exe.at [.dat (.lst (xs.map .int)), .dat (dksT dk), .dat (hdsT g), .fig q.1 (F1.on (deedL s.word q.2) (encS g s') (lineL hs)), .fig W4 (F2.on (deedL s.word []) (encS g s') (lineL hs)), .dat (encS g s'), .dat (.int (mN : Nat)), .dat (.int (w : Nat)), .dat (.int (nmb : Nat)), .dat (.lst (nI (canL g s))), .dat (.int (s.word : Nat)), s11, .dat (.lst (lineL hs)), .no, .no] ?_
          refine tail _ s' hs q.1 W4 _ _ _ _ _ _ _ fin1 fin2 Lt.len rfl ⟨s', q.1, W4, _, _, _, _, _, _, _, _, I', fin1, fin2, ?_, ?_, ?_, ?_, rfl⟩
          · show (F1.stands ++ [_]).length = _
            rw [List.length_append, a1']
            rfl
          · show (F2.stands ++ [_]).length = _
            rw [List.length_append, a2']
            rfl
          · show (F1.past ++ [_]).length = _
            rw [List.length_append, b1']
            rfl
          · show (F2.past ++ [_]).length = _
            rw [List.length_append, b2']
            rfl
    · subst e
      rw [List.length_range] at *
      refine x_ret (d := .bl true) (Ev.to (cm (d1 := .int (F1.past.length : Nat)) (d2 := .int (F2.past.length : Nat)) (mt0 3 (W := W1) (F := F1) m6 ⟨rfl, rfl⟩) (mt0 4 (W := W2) (F := F2) m6 ⟨rfl, rfl⟩) (c_nat _ _)) ?_) rfl
      rw [b1', b2', decide_eq_true rfl]
end Ts

set_option Elab.async false
set_option linter.all false
set_option maxRecDepth 100000
set_option maxHeartbeats 0
/-! HT: the head: facts of the defs by names, by one run in the kernel. Printed by gen_head.py -/
namespace Ts
open PySem PySem.Spec PyProof.Rows L2
def d_is_name : He.DefD := ⟨("is_name", none), "is_name", "is_name", defArgs s_is_name, defBody s_is_name, defScope s_is_name, [], []⟩
def d_is_number : He.DefD := ⟨("is_number", none), "is_number", "is_number", defArgs s_is_number, defBody s_is_number, defScope s_is_number, [], []⟩
def d_word_at : He.DefD := ⟨("word_at", none), "word_at", "word_at", defArgs s_word_at, defBody s_word_at, defScope s_word_at, [], []⟩
def d_name_at : He.DefD := ⟨("name_at", none), "name_at", "name_at", defArgs s_name_at, defBody s_name_at, defScope s_name_at, [], []⟩
def d_number_at : He.DefD := ⟨("number_at", none), "number_at", "number_at", defArgs s_number_at, defBody s_number_at, defScope s_number_at, [], []⟩
def d_read_marks : He.DefD := ⟨("read_marks", none), "read_marks", "read_marks", defArgs s_read_marks, defBody s_read_marks, defScope s_read_marks, [], []⟩
def d_read_card : He.DefD := ⟨("read_card", none), "read_card", "read_card", defArgs s_read_card, defBody s_read_card, defScope s_read_card, [], []⟩
def d_first_sight : He.DefD := ⟨("first_sight", none), "first_sight", "first_sight", defArgs s_first_sight, defBody s_first_sight, defScope s_first_sight, [], []⟩
def d_changes : He.DefD := ⟨("changes", none), "changes", "changes", defArgs s_changes, defBody s_changes, defScope s_changes, [], []⟩
def d_layered : He.DefD := ⟨("layered", none), "layered", "layered", defArgs s_layered, defBody s_layered, defScope s_layered, [], []⟩
def d_keeper_in : He.DefD := ⟨("keeper_in", none), "keeper_in", "keeper_in", defArgs s_keeper_in, defBody s_keeper_in, defScope s_keeper_in, [], []⟩
def d_rules_for : He.DefD := ⟨("rules_for", none), "rules_for", "rules_for", defArgs s_rules_for, defBody s_rules_for, defScope s_rules_for, [], []⟩
def d_put_in_place : He.DefD := ⟨("put_in_place", none), "put_in_place", "put_in_place", defArgs s_put_in_place, defBody s_put_in_place, defScope s_put_in_place, [], []⟩
def d_look_at : He.DefD := ⟨("look_at", none), "look_at", "look_at", defArgs s_look_at, defBody s_look_at, defScope s_look_at, [], []⟩
def d_begun : He.DefD := ⟨("begun", none), "begun", "begun", defArgs s_begun, defBody s_begun, defScope s_begun, [], []⟩
def d_rows_of : He.DefD := ⟨("rows_of", none), "rows_of", "rows_of", defArgs s_rows_of, defBody s_rows_of, defScope s_rows_of, [], []⟩
def d_sight_of : He.DefD := ⟨("sight_of", none), "sight_of", "sight_of", defArgs s_sight_of, defBody s_sight_of, defScope s_sight_of, [], []⟩
def d_put_at : He.DefD := ⟨("put_at", none), "put_at", "put_at", defArgs s_put_at, defBody s_put_at, defScope s_put_at, [], []⟩
def d_touches : He.DefD := ⟨("touches", none), "touches", "touches", defArgs s_touches, defBody s_touches, defScope s_touches, [], []⟩
def d_to_player : He.DefD := ⟨("to_player", none), "to_player", "to_player", defArgs s_to_player, defBody s_to_player, defScope s_to_player, [], []⟩
def d_to_card : He.DefD := ⟨("to_card", none), "to_card", "to_card", defArgs s_to_card, defBody s_to_card, defScope s_to_card, [], []⟩
def d_happen : He.DefD := ⟨("happen", none), "happen", "happen", defArgs s_happen, defBody s_happen, defScope s_happen, [], []⟩
def d_called : He.DefD := ⟨("called", none), "called", "called", defArgs s_called, defBody s_called, defScope s_called, [], []⟩
def d_put_and_done : He.DefD := ⟨("put_and_done", none), "put_and_done", "put_and_done", defArgs s_put_and_done, defBody s_put_and_done, defScope s_put_and_done, [], []⟩
def d_going : He.DefD := ⟨("going", none), "going", "going", defArgs s_going, defBody s_going, defScope s_going, [], []⟩
def d_without_goers : He.DefD := ⟨("without_goers", none), "without_goers", "without_goers", defArgs s_without_goers, defBody s_without_goers, defScope s_without_goers, [], []⟩
def d_worn_out : He.DefD := ⟨("worn_out", none), "worn_out", "worn_out", defArgs s_worn_out, defBody s_worn_out, defScope s_worn_out, [], []⟩
def d_looked : He.DefD := ⟨("looked", none), "looked", "looked", defArgs s_looked, defBody s_looked, defScope s_looked, [], []⟩
def d_next_player : He.DefD := ⟨("next_player", none), "next_player", "next_player", defArgs s_next_player, defBody s_next_player, defScope s_next_player, [], []⟩
def d_with_word : He.DefD := ⟨("with_word", none), "with_word", "with_word", defArgs s_with_word, defBody s_with_word, defScope s_with_word, [], []⟩
def d_in_heap : He.DefD := ⟨("in_heap", none), "in_heap", "in_heap", defArgs s_in_heap, defBody s_in_heap, defScope s_in_heap, [], []⟩
def d_off_the_pile : He.DefD := ⟨("off_the_pile", none), "off_the_pile", "off_the_pile", defArgs s_off_the_pile, defBody s_off_the_pile, defScope s_off_the_pile, [], []⟩
def d_piled : He.DefD := ⟨("piled", none), "piled", "piled", defArgs s_piled, defBody s_piled, defScope s_piled, [], []⟩
def d_ended : He.DefD := ⟨("ended", none), "ended", "ended", defArgs s_ended, defBody s_ended, defScope s_ended, [], []⟩
def d_law_number : He.DefD := ⟨("_law_number", none), "_law_number", "_law_number", defArgs s_law_number, defBody s_law_number, defScope s_law_number, [], []⟩
def d_law_card : He.DefD := ⟨("_law_card", none), "_law_card", "_law_card", defArgs s_law_card, defBody s_law_card, defScope s_law_card, [], []⟩
def d_law_decks : He.DefD := ⟨("_law_decks", none), "_law_decks", "_law_decks", defArgs s_law_decks, defBody s_law_decks, defScope s_law_decks, [], []⟩
def d_law_heads : He.DefD := ⟨("_law_heads", none), "_law_heads", "_law_heads", defArgs s_law_heads, defBody s_law_heads, defScope s_law_heads, [], []⟩
def d_law_first : He.DefD := ⟨("_law_first", none), "_law_first", "_law_first", defArgs s_law_first, defBody s_law_first, defScope s_law_first, [], []⟩
def d_law_played : He.DefD := ⟨("_law_played", none), "_law_played", "_law_played", defArgs s_law_played, defBody s_law_played, defScope s_law_played, [], []⟩
def d_law_come : He.DefD := ⟨("_law_come", none), "_law_come", "_law_come", defArgs s_law_come, defBody s_law_come, defScope s_law_come, [], []⟩
def d_law_new_turn : He.DefD := ⟨("_law_new_turn", none), "_law_new_turn", "_law_new_turn", defArgs s_law_new_turn, defBody s_law_new_turn, defScope s_law_new_turn, [], []⟩
def d_law_let : He.DefD := ⟨("_law_let", none), "_law_let", "_law_let", defArgs s_law_let, defBody s_law_let, defScope s_law_let, [], []⟩
def d_law_can : He.DefD := ⟨("_law_can", none), "_law_can", "_law_can", defArgs s_law_can, defBody s_law_can, defScope s_law_can, [], []⟩
def d_law : He.DefD := ⟨("law", none), "law", "law", defArgs s_law, defBody s_law, defScope s_law, [], []⟩
def d_Card_init : He.DefD := ⟨("Card", some "__init__"), "__init__", "Card.__init__", defArgs s_Card_init, defBody s_Card_init, defScope s_Card_init, [], []⟩
def d_Fight_init : He.DefD := ⟨("Fight", some "__init__"), "__init__", "Fight.__init__", defArgs s_Fight_init, defBody s_Fight_init, defScope s_Fight_init, [], []⟩
def d_Fight_stand : He.DefD := ⟨("Fight", some "stand"), "stand", "Fight.stand", defArgs s_Fight_stand, defBody s_Fight_stand, defScope s_Fight_stand, [], []⟩
def d_Fight_log : He.DefD := ⟨("Fight", some "log"), "log", "Fight.log", defArgs s_Fight_log, defBody s_Fight_log, defScope s_Fight_log, [], []⟩
def d_Fight_many : He.DefD := ⟨("Fight", some "many"), "many", "Fight.many", defArgs s_Fight_many, defBody s_Fight_many, defScope s_Fight_many, [], []⟩
def d_Fight_on : He.DefD := ⟨("Fight", some "on"), "on", "Fight.on", defArgs s_Fight_on, defBody s_Fight_on, defScope s_Fight_on, [], []⟩
def d_Fight_why_not_speak : He.DefD := ⟨("Fight", some "why_not_speak"), "why_not_speak", "Fight.why_not_speak", defArgs s_Fight_why_not_speak, defBody s_Fight_why_not_speak, defScope s_Fight_why_not_speak, [], []⟩
def d_Fight_why_not_play : He.DefD := ⟨("Fight", some "why_not_play"), "why_not_play", "Fight.why_not_play", defArgs s_Fight_why_not_play, defBody s_Fight_why_not_play, defScope s_Fight_why_not_play, [], []⟩
def d_Fight_paid : He.DefD := ⟨("Fight", some "paid"), "paid", "Fight.paid", defArgs s_Fight_paid, defBody s_Fight_paid, defScope s_Fight_paid, [], []⟩
def d_Fight_play : He.DefD := ⟨("Fight", some "play"), "play", "Fight.play", defArgs s_Fight_play, defBody s_Fight_play, defScope s_Fight_play, [], []⟩
def d_Fight_let : He.DefD := ⟨("Fight", some "let"), "let", "Fight.let", defArgs s_Fight_let, defBody s_Fight_let, defScope s_Fight_let, [.non], []⟩
def d_Fight_top_done : He.DefD := ⟨("Fight", some "top_done"), "top_done", "Fight.top_done", defArgs s_Fight_top_done, defBody s_Fight_top_done, defScope s_Fight_top_done, [], []⟩
def d_Fight_turn_begun : He.DefD := ⟨("Fight", some "turn_begun"), "turn_begun", "Fight.turn_begun", defArgs s_Fight_turn_begun, defBody s_Fight_turn_begun, defScope s_Fight_turn_begun, [], []⟩
def d_Fight_settled : He.DefD := ⟨("Fight", some "settled"), "settled", "Fight.settled", defArgs s_Fight_settled, defBody s_Fight_settled, defScope s_Fight_settled, [], []⟩
def fnL : List He.DefD := [d_is_name, d_is_number, d_word_at, d_name_at, d_number_at, d_read_marks, d_read_card, d_first_sight, d_changes, d_layered, d_keeper_in, d_rules_for, d_put_in_place, d_look_at, d_begun, d_rows_of, d_sight_of, d_put_at, d_touches, d_to_player, d_to_card, d_happen, d_called, d_put_and_done, d_going, d_without_goers, d_worn_out, d_looked, d_next_player, d_with_word, d_in_heap, d_off_the_pile, d_piled, d_ended, d_law_number, d_law_card, d_law_decks, d_law_heads, d_law_first, d_law_played, d_law_come, d_law_new_turn, d_law_let, d_law_can, d_law, d_Card_init, d_Fight_init, d_Fight_stand, d_Fight_log, d_Fight_many, d_Fight_on, d_Fight_why_not_speak, d_Fight_why_not_play, d_Fight_paid, d_Fight_play, d_Fight_let, d_Fight_top_done, d_Fight_turn_begun, d_Fight_settled]
def fa0 : List He.Fa := [.glo "is_name", .glo "is_number", .glo "word_at", .glo "name_at", .glo "number_at", .glo "read_marks", .glo "read_card", .glo "first_sight", .glo "changes", .glo "layered", .glo "keeper_in", .glo "rules_for", .glo "put_in_place", .glo "look_at", .glo "begun", .glo "rows_of", .glo "sight_of", .glo "put_at", .glo "touches", .glo "to_player", .glo "to_card", .glo "happen", .glo "called", .glo "put_and_done", .glo "going", .glo "without_goers", .glo "worn_out", .glo "looked", .glo "next_player", .glo "with_word"]
def fa1 : List He.Fa := [.glo "in_heap", .glo "off_the_pile", .glo "piled", .glo "ended", .glo "_law_number", .glo "_law_card", .glo "_law_decks", .glo "_law_heads", .glo "_law_first", .glo "_law_played", .glo "_law_come", .glo "_law_new_turn", .glo "_law_let", .glo "_law_can", .glo "law", .glo "Card", .cls "Card", .mkr "Card", .glo "Fight", .cls "Fight", .mkr "Fight", .noat "Card" "name", .noat "Card" "cost", .noat "Card" "force", .noat "Card" "marks", .noat "Card" "rules", .noat "Fight" "known", .noat "Fight" "keepers", .noat "Fight" "stands", .noat "Fight" "past"]
def fa2 : List He.Fa := [.noat "Fight" "last_log", .meth "Fight" "stand", .meth "Fight" "log", .meth "Fight" "many", .meth "Fight" "on", .meth "Fight" "why_not_speak", .meth "Fight" "why_not_play", .meth "Fight" "paid", .meth "Fight" "play", .meth "Fight" "let", .meth "Fight" "top_done", .meth "Fight" "turn_begun", .meth "Fight" "settled", .free "len", .free "int", .free "str", .free "list", .free "tuple", .free "sorted", .free "range", .free "enumerate", .free "min", .free "max", .free "isinstance", .int "MOST_WORDS" 9, .int "MOST_RULES" 3, .int "MOST_CARDS" 16, .int "MOST_HOLDS" 8, .int "POINTS" 20, .int "HAND" 3]
def fa3 : List He.Fa := [.int "MOST_WAITING" 40, .int "COINS" 5, .str "LETTERS" "abcdefghijklmnopqrstuvwxyz", .str "FIGURES" "0123456789", .glo "CARD_KINDS", .glo "PLAYER_KINDS_cards", .glo "COUNTED", .glo "PLAYER_KINDS_table"]
def faL : List He.Fa := fa0 ++ fa1 ++ fa2 ++ fa3
def exL (K : PySem.W.Frag) : Bool := He.tupB K "PLAYER_KINDS_table" [.str "lose", .str "score", .str "draw"]
def lo0 : List PySem.Str := ["_wall", "FightError", "NoCard", "NotNow", "NoFight", "LETTERS", "FIGURES", "MOST_WORDS", "is_name", "is_number", "row_of", "Whom", "Itself", "Mine", "Marked", "Strong", "Others", "Pair", "word_at", "name_at", "number_at", "part_at", "whom_at", "CARD_KINDS", "PLAYER_KINDS_cards", "COUNTED", "MOST_RULES", "Card", "one_of", "kind_at"]
def lo1 : List PySem.Str := ["amount_at", "deed_at", "hold_by", "when_by", "turns_of", "instead_by", "may_by", "read_rule", "read_marks", "read_card", "LAYERS", "first_sight", "changes", "rule_of", "amount_of", "reach", "changed", "behind", "leans", "leanings", "led_to", "waits_by", "layered", "chosen", "keeper_in", "player_of", "rules_for", "turned", "rule_at", "put_in_place"]
def lo2 : List PySem.Str := ["MOST_CARDS", "MOST_HOLDS", "POINTS", "HAND", "PLAYER_KINDS_table", "look_at", "begun", "rows_of", "sight_of", "put_at", "touches", "to_player", "to_card", "happen", "called", "ways_of", "done", "put_and_done", "going", "without_goers", "worn_out", "looked", "MOST_WAITING", "COINS", "next_player", "with_word", "in_heap", "off_the_pile", "piled", "ended"]
def lo3 : List PySem.Str := ["Fight", "_law_number", "_law_whom", "_law_deed", "_law_turn", "_law_rule", "_law_card", "_law_decks", "_law_heads", "_law_first", "_law_played", "_law_come", "_law_new_turn", "_law_let", "_law_can"]
def loL : List PySem.Str := lo0 ++ lo1 ++ lo2 ++ lo3
-- law at place 114
abbrev RR : PySem.W.OpenRow := PySem.W.OpenLaw.row PySem.Challenge.rw_turnstack_k37_whole_plain_fights
/-! what the facts read of the heap: the named things, and what they name, some steps on -/
def gloNames : List He.Fa → List Str
  | [] => []
  | .glo x :: r => x :: gloNames r
  | _ :: r => gloNames r
def refsG (g : Addr → Option Obj) (as : List Addr) : List Addr := as.flatMap fun a => match g a with
  | some o => He.refsD o
  | none => []
def asM (g : Addr → Option Obj) : List Addr :=
  let l1 := (gloNames faL).map fun x => He.ga (He.frG g [mainGlobals]) x
  let l2 := refsG g l1
  let l3 := refsG g l2
  let l4 := refsG g l3
  let l5 := refsG g l4
  mainGlobals :: (l1 ++ (l2 ++ (l3 ++ (l4 ++ l5))))
abbrev AlM : Type := He.AlD × Bool
def obsM (g : Addr → Option Obj) : AlM := (He.obsD faL fnL (He.frG g (asM g)), exL (He.frG g (asM g)))
def SaysM (K : PySem.W.Frag) : Prop := He.SaysD faL fnL K ∧ exL K = true
theorem says_of {g : Addr → Option Obj} (e : obsM g = (He.valD fnL, true)) : SaysM (He.frG g (asM g)) := by
  have e1 : (He.obsD faL fnL (He.frG g (asM g)), exL (He.frG g (asM g))) = (He.valD fnL, true) := e
  have e2 := Prod.mk.inj e1
  unfold SaysM He.SaysD
  exact e2
def hkL : PySem.W.Hook where
  α := AlM
  obs := fun s => obsM s.heap.get?
  val := fun _ => (He.valD fnL, true)
  says := fun _ h => ∃ K : PySem.W.Frag, K.In h ∧ SaysM K
  of := fun _ s e => ⟨He.frG s.heap.get? (asM s.heap.get?), He.frG_in, says_of e⟩
  keeps := fun _ _ _ ⟨K, hK, c⟩ k => ⟨K, PySem.W.Frag.In.keeps hK k, c⟩
def obL (s : PySem.W.SharedT) : AlM := obsM (HandSHeadRun.getT s)
theorem ob_eq (s : PySem.W.SharedT) : obL s = hkL.obs s.abs := by
  have e : HandSHeadRun.getT s = s.abs.heap.get? := funext (HandSHeadRun.getT_eq s)
  show obsM (HandSHeadRun.getT s) = obsM s.abs.heap.get?
  rw [e]
abbrev wf (w : World) (b : Bool) := PySem.World.withFollow w "special-get-raises" b
theorem runF (w : World) : HandSHeadRun.RunEq RR (PySem.W.view RR.prog [114]) hkL obL 8000 loL (wf w false) := by
  intro os
  kernel_rfl
theorem runT (w : World) : HandSHeadRun.RunEq RR (PySem.W.view RR.prog [114]) hkL obL 8000 loL (wf w true) := by
  intro os
  kernel_rfl
theorem runL (w : World) : HandSHeadRun.RunEq RR (PySem.W.view RR.prog [114]) hkL obL 8000 loL w :=
  PySem.W.byRow2 "special-get-raises" (P := fun w => HandSHeadRun.RunEq RR (PySem.W.view RR.prog [114]) hkL obL 8000 loL w) runF runT w
end Ts

set_option Elab.async false
set_option linter.all false
set_option maxRecDepth 100000
set_option maxHeartbeats 4000000
/-! PE: the facts of the head, chained; the law holds. -/
namespace Ts
open PySem L2
section
variable {P : Program} {w : World} {K : PySem.W.Frag} {mg : Str → Option Value} {base h : Heap}
theorem gl_card (X : K.In h) (G : h.Ns mainGlobals mg) (c : SaysM K) : mg "Card" = some (.ref (He.ga K "Card")) := He.glo_ok X G (c.1.fact 45 (f := .glo "Card") rfl)
theorem gl_fight (X : K.In h) (G : h.Ns mainGlobals mg) (c : SaysM K) : mg "Fight" = some (.ref (He.ga K "Fight")) := He.glo_ok X G (c.1.fact 48 (f := .glo "Fight") rfl)
theorem eC (X : K.In h) (G : h.Ns mainGlobals mg) (c : SaysM K) : Gm.C ⟨P, w, K, mg, base⟩ = He.ga K "Card" := by
  show refOf (mg "Card") = _
  rw [gl_card X G c]
  rfl
theorem eF (X : K.In h) (G : h.Ns mainGlobals mg) (c : SaysM K) : Gm.CF ⟨P, w, K, mg, base⟩ = He.ga K "Fight" := by
  show refOf (mg "Fight") = _
  rw [gl_fight X G c]
  rfl
theorem tx (X : K.In h) (G : h.Ns mainGlobals mg) (c : SaysM K) : Tx ⟨P, w, K, mg, base⟩ where
  cc := by rw [eC X G c]; exact He.cls_ok (c.1.fact 46 (f := .cls "Card") rfl)
  cf := by rw [eF X G c]; exact He.cls_ok (c.1.fact 49 (f := .cls "Fight") rfl)
  aC := fun f hf => by
    rw [eC X G c]
    simp only [List.mem_cons, List.not_mem_nil, or_false] at hf
    rcases hf with rfl | rfl | rfl | rfl | rfl
    · exact He.noat_ok (c.1.fact 51 (f := .noat "Card" "name") rfl)
    · exact He.noat_ok (c.1.fact 52 (f := .noat "Card" "cost") rfl)
    · exact He.noat_ok (c.1.fact 53 (f := .noat "Card" "force") rfl)
    · exact He.noat_ok (c.1.fact 54 (f := .noat "Card" "marks") rfl)
    · exact He.noat_ok (c.1.fact 55 (f := .noat "Card" "rules") rfl)
  aF := fun f hf => by
    rw [eF X G c]
    simp only [List.mem_cons, List.not_mem_nil, or_false] at hf
    rcases hf with rfl | rfl | rfl | rfl | rfl
    · exact He.noat_ok (c.1.fact 56 (f := .noat "Fight" "known") rfl)
    · exact He.noat_ok (c.1.fact 57 (f := .noat "Fight" "keepers") rfl)
    · exact He.noat_ok (c.1.fact 58 (f := .noat "Fight" "stands") rfl)
    · exact He.noat_ok (c.1.fact 59 (f := .noat "Fight" "past") rfl)
    · exact He.noat_ok (c.1.fact 60 (f := .noat "Fight" "last_log") rfl)
  len := He.free_ok X G (c.1.fact 73 (f := .free "len") rfl)
  int := He.free_ok X G (c.1.fact 74 (f := .free "int") rfl)
  str := He.free_ok X G (c.1.fact 75 (f := .free "str") rfl)
  list := He.free_ok X G (c.1.fact 76 (f := .free "list") rfl)
  tuple := He.free_ok X G (c.1.fact 77 (f := .free "tuple") rfl)
  sorted := He.free_ok X G (c.1.fact 78 (f := .free "sorted") rfl)
  range := He.free_ok X G (c.1.fact 79 (f := .free "range") rfl)
  enumerate := He.free_ok X G (c.1.fact 80 (f := .free "enumerate") rfl)
  min := He.free_ok X G (c.1.fact 81 (f := .free "min") rfl)
  max := He.free_ok X G (c.1.fact 82 (f := .free "max") rfl)
  isinstance := He.free_ok X G (c.1.fact 83 (f := .free "isinstance") rfl)
  i1 := He.int_ok X G (c.1.fact 85 (f := .int "MOST_RULES" 3) rfl)
  i2 := He.int_ok X G (c.1.fact 86 (f := .int "MOST_CARDS" 16) rfl)
  i3 := He.int_ok X G (c.1.fact 87 (f := .int "MOST_HOLDS" 8) rfl)
  i4 := He.int_ok X G (c.1.fact 88 (f := .int "POINTS" 20) rfl)
  i5 := He.int_ok X G (c.1.fact 89 (f := .int "HAND" 3) rfl)
  i6 := He.int_ok X G (c.1.fact 90 (f := .int "MOST_WAITING" 40) rfl)
  i7 := He.int_ok X G (c.1.fact 91 (f := .int "COINS" 5) rfl)
  s1 := He.str_ok X G (c.1.fact 92 (f := .str "LETTERS" "abcdefghijklmnopqrstuvwxyz") rfl)
  s2 := He.str_ok X G (c.1.fact 93 (f := .str "FIGURES" "0123456789") rfl)
  pk := ⟨_, He.glo_ok X G (c.1.fact 97 (f := .glo "PLAYER_KINDS_table") rfl), fun H => He.tupB_ok (vs := [.str "lose", .str "score", .str "draw"]) c.2 H⟩
theorem FunD.same {x q x2 q2 : Str} {pa pa2 : Arguments} {b b2 : List Stmt} {s s2 : Scope} {d d2 : List V} {k k2 : List (Str × V)} {f : Addr} {fd fd2 : FuncData} (F : FunD K x q pa b s d k f fd) (F2 : FunD K x2 q2 pa2 b2 s2 d2 k2 f fd2) : fd = fd2 := by
  obtain ⟨_, _, _, _, _, _, _, _, _, _, _, lk, _⟩ := F.ex
  obtain ⟨_, _, _, _, _, _, _, _, _, _, _, lk2, _⟩ := F2.ex
  rw [lk] at lk2
  cases lk2
  rfl
theorem law_ok (X : K.In h) (G : h.Ns mainGlobals mg) (c : SaysM K) : ∃ fd, FunD K "law" "law" (defArgs s_law) (defBody s_law) (defScope s_law) [] [] (He.ga K "law") fd ∧ FnOk P w K mg base CX0 10 (He.ga K "law") fd ["_law_script"] (spD ⟨P, w, K, mg, base⟩ R_law) := by
  have T : Tx ⟨P, w, K, mg, base⟩ := tx X G c
  have hC : mg "Card" = some (.ref (Gm.C ⟨P, w, K, mg, base⟩)) := by rw [eC X G c]; exact gl_card X G c
  have hF : mg "Fight" = some (.ref (Gm.CF ⟨P, w, K, mg, base⟩)) := by rw [eF X G c]; exact gl_fight X G c
  have mkC : Mk K (Gm.C ⟨P, w, K, mg, base⟩) (He.ma K (He.ga K "Card") "__init__") := by rw [eC X G c]; exact He.mkr_ok (c.1.fact 47 (f := .mkr "Card") rfl)
  have mkF : Mk K (Gm.CF ⟨P, w, K, mg, base⟩) (He.ma K (He.ga K "Fight") "__init__") := by rw [eF X G c]; exact He.mkr_ok (c.1.fact 50 (f := .mkr "Fight") rfl)
  obtain ⟨fd_put_at, F_put_at⟩ := c.1.def_ 17 (d := d_put_at) rfl
  have N_put_at : Fn ⟨P, w, K, mg, base⟩ "put_at" s_put_at (He.ga K "put_at") fd_put_at := ⟨F_put_at, He.glo_ok X G (c.1.fact 17 (f := .glo "put_at") rfl)⟩
  have k_put_at' := k_put_at T  N_put_at
  obtain ⟨fd_is_name, F_is_name⟩ := c.1.def_ 0 (d := d_is_name) rfl
  have N_is_name : Fn ⟨P, w, K, mg, base⟩ "is_name" s_is_name (He.ga K "is_name") fd_is_name := ⟨F_is_name, He.glo_ok X G (c.1.fact 0 (f := .glo "is_name") rfl)⟩
  have k_is_name' := k_is_name T  N_is_name
  obtain ⟨fd_is_number, F_is_number⟩ := c.1.def_ 1 (d := d_is_number) rfl
  have N_is_number : Fn ⟨P, w, K, mg, base⟩ "is_number" s_is_number (He.ga K "is_number") fd_is_number := ⟨F_is_number, He.glo_ok X G (c.1.fact 1 (f := .glo "is_number") rfl)⟩
  have k_is_number' := k_is_number T  N_is_number
  obtain ⟨fd_word_at, F_word_at⟩ := c.1.def_ 2 (d := d_word_at) rfl
  have N_word_at : Fn ⟨P, w, K, mg, base⟩ "word_at" s_word_at (He.ga K "word_at") fd_word_at := ⟨F_word_at, He.glo_ok X G (c.1.fact 2 (f := .glo "word_at") rfl)⟩
  have k_word_at' := k_word_at T  N_word_at
  obtain ⟨fd_name_at, F_name_at⟩ := c.1.def_ 3 (d := d_name_at) rfl
  have N_name_at : Fn ⟨P, w, K, mg, base⟩ "name_at" s_name_at (He.ga K "name_at") fd_name_at := ⟨F_name_at, He.glo_ok X G (c.1.fact 3 (f := .glo "name_at") rfl)⟩
  have k_name_at' := k_name_at T k_is_name' k_word_at' N_name_at
  obtain ⟨fd_number_at, F_number_at⟩ := c.1.def_ 4 (d := d_number_at) rfl
  have N_number_at : Fn ⟨P, w, K, mg, base⟩ "number_at" s_number_at (He.ga K "number_at") fd_number_at := ⟨F_number_at, He.glo_ok X G (c.1.fact 4 (f := .glo "number_at") rfl)⟩
  have k_number_at' := k_number_at T k_is_number' k_word_at' N_number_at
  obtain ⟨fd_read_marks, F_read_marks⟩ := c.1.def_ 5 (d := d_read_marks) rfl
  have N_read_marks : Fn ⟨P, w, K, mg, base⟩ "read_marks" s_read_marks (He.ga K "read_marks") fd_read_marks := ⟨F_read_marks, He.glo_ok X G (c.1.fact 5 (f := .glo "read_marks") rfl)⟩
  have k_read_marks' := k_read_marks T k_is_name' N_read_marks
  obtain ⟨fdC, FC⟩ := c.1.def_ 45 (d := d_Card_init) rfl
  have ckC := k_Card (M := ⟨P, w, K, mg, base⟩) T FC mkC hC
  obtain ⟨fd_read_card, F_read_card⟩ := c.1.def_ 6 (d := d_read_card) rfl
  have N_read_card : Fn ⟨P, w, K, mg, base⟩ "read_card" s_read_card (He.ga K "read_card") fd_read_card := ⟨F_read_card, He.glo_ok X G (c.1.fact 6 (f := .glo "read_card") rfl)⟩
  have k_read_card' := k_read_card T k_name_at' k_number_at' k_read_marks' ckC N_read_card
  obtain ⟨fd_first_sight, F_first_sight⟩ := c.1.def_ 7 (d := d_first_sight) rfl
  have N_first_sight : Fn ⟨P, w, K, mg, base⟩ "first_sight" s_first_sight (He.ga K "first_sight") fd_first_sight := ⟨F_first_sight, He.glo_ok X G (c.1.fact 7 (f := .glo "first_sight") rfl)⟩
  have k_first_sight' := k_first_sight T  N_first_sight
  obtain ⟨fd_changes, F_changes⟩ := c.1.def_ 8 (d := d_changes) rfl
  have N_changes : Fn ⟨P, w, K, mg, base⟩ "changes" s_changes (He.ga K "changes") fd_changes := ⟨F_changes, He.glo_ok X G (c.1.fact 8 (f := .glo "changes") rfl)⟩
  have k_changes' := k_changes T  N_changes
  obtain ⟨fd_layered, F_layered⟩ := c.1.def_ 9 (d := d_layered) rfl
  have N_layered : Fn ⟨P, w, K, mg, base⟩ "layered" s_layered (He.ga K "layered") fd_layered := ⟨F_layered, He.glo_ok X G (c.1.fact 9 (f := .glo "layered") rfl)⟩
  have k_layered' := k_layered T k_first_sight' k_changes' N_layered
  obtain ⟨fd_keeper_in, F_keeper_in⟩ := c.1.def_ 10 (d := d_keeper_in) rfl
  have N_keeper_in : Fn ⟨P, w, K, mg, base⟩ "keeper_in" s_keeper_in (He.ga K "keeper_in") fd_keeper_in := ⟨F_keeper_in, He.glo_ok X G (c.1.fact 10 (f := .glo "keeper_in") rfl)⟩
  have k_keeper_in' := k_keeper_in T  N_keeper_in
  obtain ⟨fd_rules_for, F_rules_for⟩ := c.1.def_ 11 (d := d_rules_for) rfl
  have N_rules_for : Fn ⟨P, w, K, mg, base⟩ "rules_for" s_rules_for (He.ga K "rules_for") fd_rules_for := ⟨F_rules_for, He.glo_ok X G (c.1.fact 11 (f := .glo "rules_for") rfl)⟩
  have k_rules_for' := k_rules_for T k_keeper_in' N_rules_for
  obtain ⟨fd_put_in_place, F_put_in_place⟩ := c.1.def_ 12 (d := d_put_in_place) rfl
  have N_put_in_place : Fn ⟨P, w, K, mg, base⟩ "put_in_place" s_put_in_place (He.ga K "put_in_place") fd_put_in_place := ⟨F_put_in_place, He.glo_ok X G (c.1.fact 12 (f := .glo "put_in_place") rfl)⟩
  have k_put_in_place' := k_put_in_place T k_rules_for' N_put_in_place
  obtain ⟨fd_look_at, F_look_at⟩ := c.1.def_ 13 (d := d_look_at) rfl
  have N_look_at : Fn ⟨P, w, K, mg, base⟩ "look_at" s_look_at (He.ga K "look_at") fd_look_at := ⟨F_look_at, He.glo_ok X G (c.1.fact 13 (f := .glo "look_at") rfl)⟩
  have k_look_at' := k_look_at T  N_look_at
  obtain ⟨fd_begun, F_begun⟩ := c.1.def_ 14 (d := d_begun) rfl
  have N_begun : Fn ⟨P, w, K, mg, base⟩ "begun" s_begun (He.ga K "begun") fd_begun := ⟨F_begun, He.glo_ok X G (c.1.fact 14 (f := .glo "begun") rfl)⟩
  have k_begun' := k_begun T k_read_card' k_look_at' N_begun
  obtain ⟨fd_rows_of, F_rows_of⟩ := c.1.def_ 15 (d := d_rows_of) rfl
  have N_rows_of : Fn ⟨P, w, K, mg, base⟩ "rows_of" s_rows_of (He.ga K "rows_of") fd_rows_of := ⟨F_rows_of, He.glo_ok X G (c.1.fact 15 (f := .glo "rows_of") rfl)⟩
  have k_rows_of' := k_rows_of T  N_rows_of
  obtain ⟨fd_sight_of, F_sight_of⟩ := c.1.def_ 16 (d := d_sight_of) rfl
  have N_sight_of : Fn ⟨P, w, K, mg, base⟩ "sight_of" s_sight_of (He.ga K "sight_of") fd_sight_of := ⟨F_sight_of, He.glo_ok X G (c.1.fact 16 (f := .glo "sight_of") rfl)⟩
  have k_sight_of' := k_sight_of T k_rows_of' k_layered' N_sight_of
  obtain ⟨fd_touches, F_touches⟩ := c.1.def_ 18 (d := d_touches) rfl
  have N_touches : Fn ⟨P, w, K, mg, base⟩ "touches" s_touches (He.ga K "touches") fd_touches := ⟨F_touches, He.glo_ok X G (c.1.fact 18 (f := .glo "touches") rfl)⟩
  have k_touches' := k_touches T  N_touches
  obtain ⟨fd_to_player, F_to_player⟩ := c.1.def_ 19 (d := d_to_player) rfl
  have N_to_player : Fn ⟨P, w, K, mg, base⟩ "to_player" s_to_player (He.ga K "to_player") fd_to_player := ⟨F_to_player, He.glo_ok X G (c.1.fact 19 (f := .glo "to_player") rfl)⟩
  have k_to_player' := k_to_player T k_put_at' N_to_player
  obtain ⟨fd_to_card, F_to_card⟩ := c.1.def_ 20 (d := d_to_card) rfl
  have N_to_card : Fn ⟨P, w, K, mg, base⟩ "to_card" s_to_card (He.ga K "to_card") fd_to_card := ⟨F_to_card, He.glo_ok X G (c.1.fact 20 (f := .glo "to_card") rfl)⟩
  have k_to_card' := k_to_card T k_put_at' N_to_card
  obtain ⟨fd_happen, F_happen⟩ := c.1.def_ 21 (d := d_happen) rfl
  have N_happen : Fn ⟨P, w, K, mg, base⟩ "happen" s_happen (He.ga K "happen") fd_happen := ⟨F_happen, He.glo_ok X G (c.1.fact 21 (f := .glo "happen") rfl)⟩
  have k_happen' := k_happen T k_touches' k_to_player' k_to_card' N_happen
  obtain ⟨fd_called, F_called⟩ := c.1.def_ 22 (d := d_called) rfl
  have N_called : Fn ⟨P, w, K, mg, base⟩ "called" s_called (He.ga K "called") fd_called := ⟨F_called, He.glo_ok X G (c.1.fact 22 (f := .glo "called") rfl)⟩
  have k_called' := k_called T k_touches' k_happen' k_sight_of' k_keeper_in' N_called
  obtain ⟨fd_put_and_done, F_put_and_done⟩ := c.1.def_ 23 (d := d_put_and_done) rfl
  have N_put_and_done : Fn ⟨P, w, K, mg, base⟩ "put_and_done" s_put_and_done (He.ga K "put_and_done") fd_put_and_done := ⟨F_put_and_done, He.glo_ok X G (c.1.fact 23 (f := .glo "put_and_done") rfl)⟩
  have k_put_and_done' := k_put_and_done T k_sight_of' k_put_in_place' k_rows_of' k_called' k_happen' N_put_and_done
  obtain ⟨fd_going, F_going⟩ := c.1.def_ 24 (d := d_going) rfl
  have N_going : Fn ⟨P, w, K, mg, base⟩ "going" s_going (He.ga K "going") fd_going := ⟨F_going, He.glo_ok X G (c.1.fact 24 (f := .glo "going") rfl)⟩
  have k_going' := k_going T  N_going
  obtain ⟨fd_without_goers, F_without_goers⟩ := c.1.def_ 25 (d := d_without_goers) rfl
  have N_without_goers : Fn ⟨P, w, K, mg, base⟩ "without_goers" s_without_goers (He.ga K "without_goers") fd_without_goers := ⟨F_without_goers, He.glo_ok X G (c.1.fact 25 (f := .glo "without_goers") rfl)⟩
  have k_without_goers' := k_without_goers T k_going' N_without_goers
  obtain ⟨fd_worn_out, F_worn_out⟩ := c.1.def_ 26 (d := d_worn_out) rfl
  have N_worn_out : Fn ⟨P, w, K, mg, base⟩ "worn_out" s_worn_out (He.ga K "worn_out") fd_worn_out := ⟨F_worn_out, He.glo_ok X G (c.1.fact 26 (f := .glo "worn_out") rfl)⟩
  have k_worn_out' := k_worn_out T k_sight_of' N_worn_out
  obtain ⟨fd_looked, F_looked⟩ := c.1.def_ 27 (d := d_looked) rfl
  have N_looked : Fn ⟨P, w, K, mg, base⟩ "looked" s_looked (He.ga K "looked") fd_looked := ⟨F_looked, He.glo_ok X G (c.1.fact 27 (f := .glo "looked") rfl)⟩
  have k_looked' := k_looked T k_without_goers' k_worn_out' k_put_and_done' N_looked
  obtain ⟨fd_next_player, F_next_player⟩ := c.1.def_ 28 (d := d_next_player) rfl
  have N_next_player : Fn ⟨P, w, K, mg, base⟩ "next_player" s_next_player (He.ga K "next_player") fd_next_player := ⟨F_next_player, He.glo_ok X G (c.1.fact 28 (f := .glo "next_player") rfl)⟩
  have k_next_player' := k_next_player T  N_next_player
  obtain ⟨fd_with_word, F_with_word⟩ := c.1.def_ 29 (d := d_with_word) rfl
  have N_with_word : Fn ⟨P, w, K, mg, base⟩ "with_word" s_with_word (He.ga K "with_word") fd_with_word := ⟨F_with_word, He.glo_ok X G (c.1.fact 29 (f := .glo "with_word") rfl)⟩
  have k_with_word' := k_with_word T  N_with_word
  obtain ⟨fd_in_heap, F_in_heap⟩ := c.1.def_ 30 (d := d_in_heap) rfl
  have N_in_heap : Fn ⟨P, w, K, mg, base⟩ "in_heap" s_in_heap (He.ga K "in_heap") fd_in_heap := ⟨F_in_heap, He.glo_ok X G (c.1.fact 30 (f := .glo "in_heap") rfl)⟩
  have k_in_heap' := k_in_heap T  N_in_heap
  obtain ⟨fd_off_the_pile, F_off_the_pile⟩ := c.1.def_ 31 (d := d_off_the_pile) rfl
  have N_off_the_pile : Fn ⟨P, w, K, mg, base⟩ "off_the_pile" s_off_the_pile (He.ga K "off_the_pile") fd_off_the_pile := ⟨F_off_the_pile, He.glo_ok X G (c.1.fact 31 (f := .glo "off_the_pile") rfl)⟩
  have k_off_the_pile' := k_off_the_pile T k_in_heap' N_off_the_pile
  obtain ⟨fd_piled, F_piled⟩ := c.1.def_ 32 (d := d_piled) rfl
  have N_piled : Fn ⟨P, w, K, mg, base⟩ "piled" s_piled (He.ga K "piled") fd_piled := ⟨F_piled, He.glo_ok X G (c.1.fact 32 (f := .glo "piled") rfl)⟩
  have k_piled' := k_piled T  N_piled
  obtain ⟨fd_ended, F_ended⟩ := c.1.def_ 33 (d := d_ended) rfl
  have N_ended : Fn ⟨P, w, K, mg, base⟩ "ended" s_ended (He.ga K "ended") fd_ended := ⟨F_ended, He.glo_ok X G (c.1.fact 33 (f := .glo "ended") rfl)⟩
  have k_ended' := k_ended T  N_ended
  obtain ⟨gd_stand, G_stand⟩ := c.1.def_ 47 (d := d_Fight_stand) rfl
  have M_stand : Mt ⟨P, w, K, mg, base⟩ "stand" "Fight.stand" s_Fight_stand [] (He.ma K (He.ga K "Fight") "stand") gd_stand := ⟨G_stand, by rw [eF X G c]; exact He.meth_ok (c.1.fact 61 (f := .meth "Fight" "stand") rfl)⟩
  obtain ⟨gd_log, G_log⟩ := c.1.def_ 48 (d := d_Fight_log) rfl
  have M_log : Mt ⟨P, w, K, mg, base⟩ "log" "Fight.log" s_Fight_log [] (He.ma K (He.ga K "Fight") "log") gd_log := ⟨G_log, by rw [eF X G c]; exact He.meth_ok (c.1.fact 62 (f := .meth "Fight" "log") rfl)⟩
  obtain ⟨gd_many, G_many⟩ := c.1.def_ 49 (d := d_Fight_many) rfl
  have M_many : Mt ⟨P, w, K, mg, base⟩ "many" "Fight.many" s_Fight_many [] (He.ma K (He.ga K "Fight") "many") gd_many := ⟨G_many, by rw [eF X G c]; exact He.meth_ok (c.1.fact 63 (f := .meth "Fight" "many") rfl)⟩
  obtain ⟨gd_on, G_on⟩ := c.1.def_ 50 (d := d_Fight_on) rfl
  have M_on : Mt ⟨P, w, K, mg, base⟩ "on" "Fight.on" s_Fight_on [] (He.ma K (He.ga K "Fight") "on") gd_on := ⟨G_on, by rw [eF X G c]; exact He.meth_ok (c.1.fact 64 (f := .meth "Fight" "on") rfl)⟩
  obtain ⟨gd_why_not_speak, G_why_not_speak⟩ := c.1.def_ 51 (d := d_Fight_why_not_speak) rfl
  have M_why_not_speak : Mt ⟨P, w, K, mg, base⟩ "why_not_speak" "Fight.why_not_speak" s_Fight_why_not_speak [] (He.ma K (He.ga K "Fight") "why_not_speak") gd_why_not_speak := ⟨G_why_not_speak, by rw [eF X G c]; exact He.meth_ok (c.1.fact 65 (f := .meth "Fight" "why_not_speak") rfl)⟩
  obtain ⟨gd_why_not_play, G_why_not_play⟩ := c.1.def_ 52 (d := d_Fight_why_not_play) rfl
  have M_why_not_play : Mt ⟨P, w, K, mg, base⟩ "why_not_play" "Fight.why_not_play" s_Fight_why_not_play [] (He.ma K (He.ga K "Fight") "why_not_play") gd_why_not_play := ⟨G_why_not_play, by rw [eF X G c]; exact He.meth_ok (c.1.fact 66 (f := .meth "Fight" "why_not_play") rfl)⟩
  obtain ⟨gd_paid, G_paid⟩ := c.1.def_ 53 (d := d_Fight_paid) rfl
  have M_paid : Mt ⟨P, w, K, mg, base⟩ "paid" "Fight.paid" s_Fight_paid [] (He.ma K (He.ga K "Fight") "paid") gd_paid := ⟨G_paid, by rw [eF X G c]; exact He.meth_ok (c.1.fact 67 (f := .meth "Fight" "paid") rfl)⟩
  obtain ⟨gd_play, G_play⟩ := c.1.def_ 54 (d := d_Fight_play) rfl
  have M_play : Mt ⟨P, w, K, mg, base⟩ "play" "Fight.play" s_Fight_play [] (He.ma K (He.ga K "Fight") "play") gd_play := ⟨G_play, by rw [eF X G c]; exact He.meth_ok (c.1.fact 68 (f := .meth "Fight" "play") rfl)⟩
  obtain ⟨gd_top_done, G_top_done⟩ := c.1.def_ 56 (d := d_Fight_top_done) rfl
  have M_top_done : Mt ⟨P, w, K, mg, base⟩ "top_done" "Fight.top_done" s_Fight_top_done [] (He.ma K (He.ga K "Fight") "top_done") gd_top_done := ⟨G_top_done, by rw [eF X G c]; exact He.meth_ok (c.1.fact 70 (f := .meth "Fight" "top_done") rfl)⟩
  obtain ⟨gd_turn_begun, G_turn_begun⟩ := c.1.def_ 57 (d := d_Fight_turn_begun) rfl
  have M_turn_begun : Mt ⟨P, w, K, mg, base⟩ "turn_begun" "Fight.turn_begun" s_Fight_turn_begun [] (He.ma K (He.ga K "Fight") "turn_begun") gd_turn_begun := ⟨G_turn_begun, by rw [eF X G c]; exact He.meth_ok (c.1.fact 71 (f := .meth "Fight" "turn_begun") rfl)⟩
  obtain ⟨gd_settled, G_settled⟩ := c.1.def_ 58 (d := d_Fight_settled) rfl
  have M_settled : Mt ⟨P, w, K, mg, base⟩ "settled" "Fight.settled" s_Fight_settled [] (He.ma K (He.ga K "Fight") "settled") gd_settled := ⟨G_settled, by rw [eF X G c]; exact He.meth_ok (c.1.fact 72 (f := .meth "Fight" "settled") rfl)⟩
  obtain ⟨gd_let, G_let⟩ := c.1.def_ 55 (d := d_Fight_let) rfl
  have M_let : Mt ⟨P, w, K, mg, base⟩ "let" "Fight.let" s_Fight_let [.non] (He.ma K (He.ga K "Fight") "let") gd_let := ⟨G_let, by rw [eF X G c]; exact He.meth_ok (c.1.fact 69 (f := .meth "Fight" "let") rfl)⟩
  have m_stand := k_stand T M_stand
  have m_log := k_log T M_log
  have m_many := k_many T M_many
  have m_on := k_on T M_on
  have m_wns := k_wns T m_stand M_why_not_speak
  have m_wnp := k_wnp T m_stand m_wns M_why_not_play
  have m_paid := k_paid T m_stand m_on M_paid
  have m_play := k_play T m_wnp m_stand m_paid M_play
  have m_settled := k_settled T k_looked' k_off_the_pile' k_piled' k_with_word' k_ended' m_on M_settled
  have m_top := k_top T m_stand k_called' k_happen' m_settled M_top_done
  have m_tb := k_tb T m_stand k_next_player' k_put_and_done' m_settled M_turn_begun
  have f_let := fn_let T m_wns m_stand k_next_player' m_on m_top m_tb M_let
  have m_let := k_let T M_let f_let
  have m_let1 := k_let1 T M_let f_let
  obtain ⟨fdF, FF⟩ := c.1.def_ 46 (d := d_Fight_init) rfl
  have ckF := k_Fight (M := ⟨P, w, K, mg, base⟩) T k_begun' FF mkF hF
  obtain ⟨fd__law_number, F__law_number⟩ := c.1.def_ 34 (d := d_law_number) rfl
  have N__law_number : Fn ⟨P, w, K, mg, base⟩ "_law_number" s_law_number (He.ga K "_law_number") fd__law_number := ⟨F__law_number, He.glo_ok X G (c.1.fact 34 (f := .glo "_law_number") rfl)⟩
  have k_law_number := k_lnum T  N__law_number
  obtain ⟨fd__law_card, F__law_card⟩ := c.1.def_ 35 (d := d_law_card) rfl
  have N__law_card : Fn ⟨P, w, K, mg, base⟩ "_law_card" s_law_card (He.ga K "_law_card") fd__law_card := ⟨F__law_card, He.glo_ok X G (c.1.fact 35 (f := .glo "_law_card") rfl)⟩
  have k_law_card := k_lcard T  N__law_card
  obtain ⟨fd__law_decks, F__law_decks⟩ := c.1.def_ 36 (d := d_law_decks) rfl
  have N__law_decks : Fn ⟨P, w, K, mg, base⟩ "_law_decks" s_law_decks (He.ga K "_law_decks") fd__law_decks := ⟨F__law_decks, He.glo_ok X G (c.1.fact 36 (f := .glo "_law_decks") rfl)⟩
  have k_law_decks := k_ldecks T k_law_number k_law_card N__law_decks
  obtain ⟨fd__law_heads, F__law_heads⟩ := c.1.def_ 37 (d := d_law_heads) rfl
  have N__law_heads : Fn ⟨P, w, K, mg, base⟩ "_law_heads" s_law_heads (He.ga K "_law_heads") fd__law_heads := ⟨F__law_heads, He.glo_ok X G (c.1.fact 37 (f := .glo "_law_heads") rfl)⟩
  have k_law_heads := k_lheads T  N__law_heads
  obtain ⟨fd__law_first, F__law_first⟩ := c.1.def_ 38 (d := d_law_first) rfl
  have N__law_first : Fn ⟨P, w, K, mg, base⟩ "_law_first" s_law_first (He.ga K "_law_first") fd__law_first := ⟨F__law_first, He.glo_ok X G (c.1.fact 38 (f := .glo "_law_first") rfl)⟩
  have k_law_first := k_lfirst T  N__law_first
  obtain ⟨fd__law_played, F__law_played⟩ := c.1.def_ 39 (d := d_law_played) rfl
  have N__law_played : Fn ⟨P, w, K, mg, base⟩ "_law_played" s_law_played (He.ga K "_law_played") fd__law_played := ⟨F__law_played, He.glo_ok X G (c.1.fact 39 (f := .glo "_law_played") rfl)⟩
  have k_law_played := k_lplayed T  N__law_played
  obtain ⟨fd__law_come, F__law_come⟩ := c.1.def_ 40 (d := d_law_come) rfl
  have N__law_come : Fn ⟨P, w, K, mg, base⟩ "_law_come" s_law_come (He.ga K "_law_come") fd__law_come := ⟨F__law_come, He.glo_ok X G (c.1.fact 40 (f := .glo "_law_come") rfl)⟩
  have k_law_come := k_lcome T  N__law_come
  obtain ⟨fd__law_new_turn, F__law_new_turn⟩ := c.1.def_ 41 (d := d_law_new_turn) rfl
  have N__law_new_turn : Fn ⟨P, w, K, mg, base⟩ "_law_new_turn" s_law_new_turn (He.ga K "_law_new_turn") fd__law_new_turn := ⟨F__law_new_turn, He.glo_ok X G (c.1.fact 41 (f := .glo "_law_new_turn") rfl)⟩
  have k_law_new_turn := k_lnew T  N__law_new_turn
  obtain ⟨fd__law_let, F__law_let⟩ := c.1.def_ 42 (d := d_law_let) rfl
  have N__law_let : Fn ⟨P, w, K, mg, base⟩ "_law_let" s_law_let (He.ga K "_law_let") fd__law_let := ⟨F__law_let, He.glo_ok X G (c.1.fact 42 (f := .glo "_law_let") rfl)⟩
  have k_law_let := k_llet T k_law_new_turn k_law_come N__law_let
  obtain ⟨fd__law_can, F__law_can⟩ := c.1.def_ 43 (d := d_law_can) rfl
  have N__law_can : Fn ⟨P, w, K, mg, base⟩ "_law_can" s_law_can (He.ga K "_law_can") fd__law_can := ⟨F__law_can, He.glo_ok X G (c.1.fact 43 (f := .glo "_law_can") rfl)⟩
  have k_law_can := k_lcan T  N__law_can
  obtain ⟨fdL, FL⟩ := c.1.def_ 44 (d := d_law) rfl
  exact ⟨fdL, FL, fn_law T k_law_decks k_law_heads ckF k_law_first k_law_number k_law_can k_law_played k_law_let m_play m_let m_let1 m_stand m_log m_many FL⟩
end
def spLaw (K : PySem.W.Frag) : Sp := fun vs H Q _ => ∃ (a : Addr) (ns : List Int), vs = [.ref a] ∧ ns.length ≤ 63 ∧ SqL K H a (ns.map V.int) ∧ ∀ H', Q (.bl true) H'
theorem facts {P : Program} {w : World} {K : PySem.W.Frag} {h : Heap} {mg : Str → Option Value} {f : Addr} (X : K.In h) (G : h.Ns mainGlobals mg) (hfa : mg ("law" : Str) = some (.ref f)) (c : SaysM K) :
    ∃ fd : FuncData, (∀ (s : Shared) (v : Value), BindsTo s fd ⟨[v], []⟩ [("_law_script", v)]) ∧ ∀ base : Heap, K.In base → base.Ns mainGlobals mg → FnOk P w K mg base CX0 10 f fd ["_law_script"] (spLaw K) := by
  obtain ⟨fd, F⟩ := c.1.def_ 44 (d := d_law) rfl
  have e := hfa.symm.trans (He.glo_ok X G (c.1.fact 44 (f := .glo "law") rfl))
  cases e
  have b := FunD.bindsA (ps := ["_law_script"]) F fun _ _ _ _ _ _ us hl => match us, hl with | [_], _ => rfl
  refine ⟨fd, fun s v => b s [v] rfl, fun base _ _ => ?_⟩
  obtain ⟨fd2, F2, ok⟩ := law_ok (P := P) (w := w) (base := base) X G c
  have e2 : fd2 = fd := FunD.same F2 F
  subst e2
  refine ok.imp fun vs H Q E q => ?_
  obtain ⟨a, ns, rfl, hl, hS, hQ⟩ := q
  refine ⟨H, [.lst (ns.map .int)], .bl true, .refl _, .cons (.lst hS (RpA.ints ns)) .nil, ⟨ns, hl, rfl, rfl⟩, fun v G' H' g r => ?_⟩
  cases r
  exact hQ H'
end Ts
open PySem PySem.W PySem.Calls PyProof.Rows
theorem PySem.Challenge.cw_turnstack_k37_whole_plain_fights_holds : PySem.Challenge.rw_turnstack_k37_whole_plain_fights.Holds := by
  w_on; o_law
  refine HandSHeadRun.head_any (r := OpenLaw.row PySem.Challenge.rw_turnstack_k37_whole_plain_fights) (q := view (OpenLaw.row PySem.Challenge.rw_turnstack_k37_whole_plain_fights).prog [114]) (H := Ts.hkL) (ob := Ts.obL) (M := 8000) (loose := Ts.loL) (d := HandSHeadRun.topDef (OpenLaw.row PySem.Challenge.rw_turnstack_k37_whole_plain_fights).prog 114) (kwd := []) Ts.ob_eq
    (by kernel_rfl) (fun s => by kernel_rfl) Ts.runL (by kernel_rfl) (by kernel_rfl) (by kernel_rfl) (by rfl) (by first | assumption | decide +kernel) (by decide +kernel) ⟨rfl, rfl, rfl, rfl, rfl, by decide +kernel⟩ ?hw ?hc
  case hw => w_witness2
  case hc =>
    refine L2.walk_ofE (l := PySem.Challenge.rw_turnstack_k37_whole_plain_fights) (n := 63) (k := 10) (x := "_law_script") (CX := L2.CX0) rfl (by decide) (by kernel_rfl) ⟨rfl, by decide, by decide⟩ ?F (fun _ _ _ _ z => z)
    intro w mg fa h Y G hmg0
    obtain ⟨K, KX, c⟩ := Y
    have hmg : mg ("law" : PySem.Str) = some (.ref fa) := by
      have e : (HandSHeadRun.topDef (OpenLaw.row PySem.Challenge.rw_turnstack_k37_whole_plain_fights).prog 114).name = ("law" : PySem.Str) := by kernel_rfl
      rw [← e]
      exact hmg0
    obtain ⟨fd, hb, hF⟩ := Ts.facts (P := (PySem.Challenge.rw_turnstack_k37_whole_plain_fights).prog) (w := w) KX G hmg c
    exact ⟨K, fd, Ts.spLaw K, KX, hb, fun H a ns hl _ hS => ⟨a, ns, rfl, hl, hS, fun _ => rfl⟩, hF⟩
