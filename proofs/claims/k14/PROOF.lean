import PyProof.Rows.All
import Wide.All
import OpenK.AllK
import Wide.FinOn
import HandS.ForMost
import HandS.ForExc
import HandS.IsInst
import HandS.Deep
import HandS.Style
import KE.KExcIs
import HandS.Codes
import PySem.Challenge.RW_eitherbook_k14_lines
set_option Elab.async false
set_option linter.all false
set_option maxRecDepth 100000
set_option maxHeartbeats 4000000
namespace Px
open PySem L2
noncomputable section
abbrev PD := PyData
/-- what an evaluation comes to -/
inductive R (α : Type) where
  | ok (a : α)
  | exc (c : Str)
  | bad
def R.bind {α β : Type} : R α → (α → R β) → R β
  | .ok a, g => g a
  | .exc c, _ => .exc c
  | .bad, _ => .bad
/-- what a slot holds: data that stays, a list of the def's own, a dict of its own -/
inductive D where
  | val (d : PD)
  | own (ds : List PD)
  | dic (ks : List (Int × PD))
def D.isMut : D → Bool
  | .val _ => false
  | _ => true
abbrev Env := List (Option D)
def getE : Env → Nat → Option D
  | [], _ => none
  | x :: _, 0 => x
  | _ :: r, n + 1 => getE r n
def setE : Env → Nat → Option D → Env
  | [], _, _ => []
  | _ :: r, 0, d => d :: r
  | x :: r, n + 1, d => x :: setE r n d
theorem getE_set_same : ∀ (L : Env) (i : Nat) (d d' : D), getE (setE L i (some d)) i = some d' → d' = d
  | [], i, d, d', h => by cases i <;> cases h
  | x :: r, 0, d, d', h => by
    have e : some d = some d' := h
    exact (Option.some.inj e).symm
  | x :: r, i + 1, d, d', h => getE_set_same r i d d' h
theorem getE_set_none : ∀ (L : Env) (i : Nat), getE (setE L i none) i = none
  | [], i => by cases i <;> rfl
  | x :: r, 0 => rfl
  | x :: r, i + 1 => getE_set_none r i
theorem getE_set_ne : ∀ (L : Env) (i j : Nat) (d : Option D), j ≠ i → getE (setE L i d) j = getE L j
  | [], i, j, d, h => by cases i <;> rfl
  | x :: r, 0, 0, d, h => absurd rfl h
  | x :: r, 0, j + 1, d, h => rfl
  | x :: r, i + 1, 0, d, h => rfl
  | x :: r, i + 1, j + 1, d, h => getE_set_ne r i j d fun e => h (by rw [e])
theorem getE_len : ∀ {L : Env} {i : Nat} {d : D}, getE L i = some d → i < L.length
  | [], i, d, h => by cases i <;> cases h
  | x :: r, 0, d, h => Nat.zero_lt_succ _
  | x :: r, i + 1, d, h => Nat.succ_lt_succ (getE_len (L := r) h)
theorem setE_len : ∀ (L : Env) (i : Nat) (d : Option D), (setE L i d).length = L.length
  | [], i, d => by cases i <;> rfl
  | x :: r, 0, d => rfl
  | x :: r, i + 1, d => by
    show _ + 1 = _ + 1
    rw [setE_len r i d]
/-- what a statement comes to -/
inductive Out where
  | next (L : Env)
  | ret (d : D)
  | brk (L : Env)
  | ct (L : Env)
  | exc (c : Str)
  | bad
/-- the script, handed in from outside: read by place and by length alone -/
abbrev scr (ns : List Int) : PD := .dict [(.list (ns.map PyData.int), .none)]
mutual
/-- as the layer's data, every list and tuple tracked -/
inductive Dq (K : PySem.W.Frag) (H : Hp) : V → PyData → Prop
  | non : Dq K H .non .none
  | bl (b : Bool) : Dq K H (.bl b) (.bool b)
  | int (i : Int) : Dq K H (.int i) (.int i)
  | str (x : Str) : Dq K H (.str x) (.str x)
  | lst {a : Addr} {xs : List V} {ds : List PyData} : H a = some (.lst xs) → DqAll K H xs ds → Dq K H (.ref a) (.list ds)
  | tup {a : Addr} {xs : List V} {ds : List PyData} : H a = some (.tup xs) → DqAll K H xs ds → Dq K H (.ref a) (.tuple ds)
  | scr {a : Addr} {ns : List Int} : SqL K H a (ns.map V.int) → Dq K H (.ref a) (scr ns)
inductive DqAll (K : PySem.W.Frag) (H : Hp) : List V → List PyData → Prop
  | nil : DqAll K H [] []
  | cons {v : V} {vs : List V} {d : PyData} {ds : List PyData} : Dq K H v d → DqAll K H vs ds → DqAll K H (v :: vs) (d :: ds)
end
section
variable {K : PySem.W.Frag} {G G2 H H2 : Hp}
theorem sqL_mono {a : Addr} {xs : List V} (e : Same G G2) (h : SqL K G a xs) : SqL K G2 a xs := e.seq h
theorem sqT_mono {a : Addr} {xs : List V} (e : Same G G2) (h : SqT K G a xs) : SqT K G2 a xs := by
  rcases h with (h | ⟨o, h⟩) | h
  · exact .inl (.inl (e _ _ h))
  · exact .inl (.inr ⟨o, e _ _ h⟩)
  · exact .inr h
mutual
theorem dp_mono (e : Same G G2) : ∀ (d : PD) (v : V), Dq K G v d → Dq K G2 v d
  | .none, _, h => by cases h; exact .non
  | .bool _, _, h => by cases h; exact .bl _
  | .int _, _, h => by cases h; exact .int _
  | .str _, _, h => by cases h; exact .str _
  | .list ds, _, h => by
    cases h with
    | lst q a => exact .lst (e _ _ q) (dpAll_mono e ds _ a)
  | .tuple ds, _, h => by
    cases h with
    | tup q a => exact .tup (e _ _ q) (dpAll_mono e ds _ a)
  | .dict _, _, h => by
    cases h with
    | scr q => exact .scr (sqL_mono e q)
theorem dpAll_mono (e : Same G G2) : ∀ (ds : List PD) (vs : List V), DqAll K G vs ds → DqAll K G2 vs ds
  | [], _, h => by cases h; exact .nil
  | d :: ds, _, h => by
    cases h with
    | cons a b => exact .cons (dp_mono e d _ a) (dpAll_mono e ds _ b)
end
mutual
/-- the layer's own data, the script left out -/
theorem dq_dp0 : ∀ (d : PD) (v : V), PyData.canLay0 d = true → Dq K G v d → Dp K G v d
  | .none, _, _, h => by cases h; exact .non
  | .bool _, _, _, h => by cases h; exact .bl _
  | .int _, _, _, h => by cases h; exact .int _
  | .str _, _, _, h => by cases h; exact .str _
  | .list ds, _, s, h => by
    cases h with
    | lst q a => exact .lst (SqL.of q) (dqAll_dp ds _ (by
        unfold PyData.canLay0 at s
        exact s) a)
  | .tuple ds, _, s, h => by
    cases h with
    | tup q a => exact .tup (SqT.of q) (dqAll_dp ds _ (by
        unfold PyData.canLay0 at s
        exact s) a)
  | .dict _, _, s, h => by
    unfold PyData.canLay0 at s
    cases s
theorem dqAll_dp : ∀ (ds : List PD) (vs : List V), PyData.canLayAll0 ds = true → DqAll K G vs ds → DpAll K G vs ds
  | [], _, _, h => by cases h; exact .nil
  | d :: ds, _, s, h => by
    unfold PyData.canLayAll0 at s
    cases h with
    | cons a b => exact .cons (dq_dp0 d _ (Bool.and_eq_true_iff.mp s).1 a) (dqAll_dp ds _ (Bool.and_eq_true_iff.mp s).2 b)
end
theorem dq_dp (d : PD) (v : V) (s : SeqAt.shaped d = true) (h : Dq K G v d) : Dp K G v d := dq_dp0 d v (SeqAt.canLay_of_shaped s) h
theorem dpAll_len : ∀ {ds : List PD} {vs : List V}, DqAll K G vs ds → vs.length = ds.length
  | [], _, h => by cases h; rfl
  | d :: ds, _, h => by
    cases h with
    | cons a b =>
      show _ + 1 = _ + 1
      rw [dpAll_len b]
theorem dpAll_get : ∀ {ds : List PD} {vs : List V} {i : Nat} {d : PD}, DqAll K G vs ds → ds[i]? = some d → ∃ v, vs[i]? = some v ∧ Dq K G v d
  | [], _, _, _, _, h => by simp at h
  | _ :: _, _, 0, d, h, e => by
    cases h with
    | cons a b =>
      have e' : _ = d := Option.some.inj e
      subst e'
      exact ⟨_, rfl, a⟩
  | _ :: ds, _, i + 1, d, h, e => by
    cases h with
    | cons a b => exact dpAll_get (ds := ds) (i := i) b e
theorem dpAll_get' : ∀ {ds : List PD} {vs : List V} {i : Nat} {v : V}, DqAll K G vs ds → vs[i]? = some v → ∃ d, ds[i]? = some d ∧ Dq K G v d
  | [], _, _, _, h, e => by cases h; simp at e
  | _ :: _, _, 0, v, h, e => by
    cases h with
    | cons a b =>
      have e' : _ = v := Option.some.inj e
      subst e'
      exact ⟨_, rfl, a⟩
  | _ :: ds, _, i + 1, v, h, e => by
    cases h with
    | cons a b => exact dpAll_get' (ds := ds) (i := i) b e
theorem dpAll_app : ∀ {ds es : List PD} {vs ws : List V}, DqAll K G vs ds → DqAll K G ws es → DqAll K G (vs ++ ws) (ds ++ es)
  | [], _, _, _, h, k => by cases h; exact k
  | _ :: _, _, _, _, h, k => by
    cases h with
    | cons a b => exact .cons a (dpAll_app b k)
theorem dpAll_drop : ∀ {ds : List PD} {vs : List V} (n : Nat), DqAll K G vs ds → DqAll K G (vs.drop n) (ds.drop n)
  | _, _, 0, h => h
  | [], _, n + 1, h => by cases h; exact .nil
  | _ :: _, _, n + 1, h => by
    cases h with
    | cons a b => exact dpAll_drop n b
theorem dpAll_take : ∀ {ds : List PD} {vs : List V} (n : Nat), DqAll K G vs ds → DqAll K G (vs.take n) (ds.take n)
  | _, _, 0, h => .nil
  | [], _, n + 1, h => by cases h; exact .nil
  | _ :: _, _, n + 1, h => by
    cases h with
    | cons a b => exact .cons a (dpAll_take n b)
theorem dpAll_set {d : PD} {v : V} (hv : Dq K G v d) : ∀ {ds : List PD} {vs : List V} (n : Nat), DqAll K G vs ds → DqAll K G (vs.set n v) (ds.set n d)
  | [], _, n, h => by cases h; exact .nil
  | _ :: _, _, 0, h => by
    cases h with
    | cons a b => exact .cons hv b
  | _ :: _, _, n + 1, h => by
    cases h with
    | cons a b => exact .cons a (dpAll_set hv n b)
theorem dpAll_rep {ds : List PD} {vs : List V} (h : DqAll K G vs ds) : ∀ (n : Nat), DqAll K G (List.replicate n vs).flatten (List.replicate n ds).flatten
  | 0 => .nil
  | n + 1 => by
    rw [List.replicate_succ, List.replicate_succ, List.flatten_cons, List.flatten_cons]
    exact dpAll_app h (dpAll_rep h n)
theorem dpAll_dropLast {ds : List PD} {vs : List V} (h : DqAll K G vs ds) : DqAll K G vs.dropLast ds.dropLast := by
  rw [List.dropLast_eq_take, List.dropLast_eq_take, dpAll_len h]
  exact dpAll_take _ h
end
theorem same_new {H : Hp} {p : Addr} {o : HO} (h : H p = none) : Same H (upd H p o) := fun b u e => by
  rw [upd_ne (ne_of_none e h)]
  exact e
/-- what G does not know may change -/
theorem same_mut {G H : Hp} {p : Addr} {o : HO} (e : Same G H) (h : G p = none) : Same G (upd H p o) := fun b u q => by
  rw [upd_ne (ne_of_none q h)]
  exact e b u q
theorem same_none {H : Hp} : Same (fun _ => none) H := fun _ _ h => by cases h
def KvOk (K : PySem.W.Frag) (G : Hp) : List (Key × V) → List (Int × PD) → Prop := Paired fun p q => p.1 = .inl q.1 ∧ Dq K G p.2 q.2
theorem kv_mono {K : PySem.W.Frag} {G G2 : Hp} (e : Same G G2) : ∀ {ks : List (Int × PD)} {kvs : List (Key × V)}, KvOk K G kvs ks → KvOk K G2 kvs ks
  | _, _, .nil => .nil
  | _, _, .cons r t => .cons ⟨r.1, dp_mono e _ _ r.2⟩ (kv_mono e t)
def SlotOk (K : PySem.W.Frag) (M G : Hp) (s : Option (Option V)) : D → Prop
  | .val d => ∃ x, s = some (some x) ∧ Dq K G x d
  | .own ds => ∃ p xs, s = some (some (.ref p)) ∧ M p = some (.lst xs) ∧ DqAll K G xs ds
  | .dic ks => ∃ p kvs, s = some (some (.ref p)) ∧ M p = some (.dK kvs) ∧ KvOk K G kvs ks
/-- F: what is not ours; M: the def's own lists and dicts; G: what stays -/
structure LR (K : PySem.W.Frag) (F M G H : Hp) (σ : St) (L : Env) : Prop where
  f : Same F H
  m : Same M H
  g : Same G H
  fm : ∀ a o, F a = some o → M a = none
  fg : ∀ a o, F a = some o → G a = none
  mg : ∀ a o, M a = some o → G a = none
  slot : ∀ i d, getE L i = some d → SlotOk K M G σ[i]? d
  len : L.length = σ.length
  inj : ∀ i j a di dj, getE L i = some di → getE L j = some dj → di.isMut = true → dj.isMut = true → σ[i]? = some (some (.ref a)) → σ[j]? = some (some (.ref a)) → i = j
theorem slot_mono {K : PySem.W.Frag} {M M2 G G2 : Hp} {s : Option (Option V)} (eM : Same M M2) (eG : Same G G2) : ∀ {d : D}, SlotOk K M G s d → SlotOk K M2 G2 s d
  | .val _, ⟨x, e, h⟩ => ⟨x, e, dp_mono eG _ _ h⟩
  | .own _, ⟨p, xs, e, h, a⟩ => ⟨p, xs, e, eM _ _ h, dpAll_mono eG _ _ a⟩
  | .dic _, ⟨p, kvs, e, h, a⟩ => ⟨p, kvs, e, eM _ _ h, kv_mono eG a⟩
section
variable {K : PySem.W.Frag} {F M G H G2 H2 : Hp} {σ : St} {L : Env}
theorem LR.mono (h : LR K F M G H σ L) (eG : Same G G2) (g2 : Same G2 H2) (f2 : Same F H2) (m2 : Same M H2) (fg2 : ∀ a o, F a = some o → G2 a = none) (mg2 : ∀ a o, M a = some o → G2 a = none) : LR K F M G2 H2 σ L :=
  ⟨f2, m2, g2, h.fm, fg2, mg2, fun i d e => slot_mono (Same.refl M) eG (h.slot i d e), h.len, h.inj⟩
/-- a new object that stays -/
theorem LR.new (h : LR K F M G H σ L) {p : Addr} {o : HO} (np : H p = none) : LR K F M (upd G p o) (upd H p o) σ L ∧ Same G (upd G p o) ∧ Same H (upd H p o) := by
  have gp : G p = none := h.g.free np
  have fp : F p = none := h.f.free np
  have mp : M p = none := h.m.free np
  refine ⟨h.mono (same_new gp) (fun b u e => ?_) (same_mut h.f fp) (same_mut h.m mp) (fun a u e => ?_) (fun a u e => ?_), same_new gp, same_new np⟩
  · by_cases hb : b = p
    · subst hb
      rw [upd_same] at e ⊢
      exact e
    · rw [upd_ne hb] at e ⊢
      exact h.g _ _ e
  · rw [upd_ne (ne_of_none e fp)]
    exact h.fg _ _ e
  · rw [upd_ne (ne_of_none e mp)]
    exact h.mg _ _ e
/-- a new object that is the def's own, not yet in a slot -/
theorem LR.newM (h : LR K F M G H σ L) {p : Addr} {o : HO} (np : H p = none) : LR K F M G (upd H p o) σ L ∧ Same H (upd H p o) ∧ G p = none ∧ F p = none ∧ M p = none := by
  have gp : G p = none := h.g.free np
  have fp : F p = none := h.f.free np
  have mp : M p = none := h.m.free np
  exact ⟨h.mono (Same.refl G) (same_mut h.g gp) (same_mut h.f fp) (same_mut h.m mp) h.fg h.mg, same_new np, gp, fp, mp⟩
/-- what is the def's own and in no slot may come to stay -/
theorem LR.keep (h : LR K F M G H σ L) {p : Addr} {o : HO} (hp : H p = some o) (gp : G p = none) (fp : F p = none) (mp : M p = none) : LR K F M (upd G p o) H σ L ∧ Same G (upd G p o) := by
  refine ⟨h.mono (same_new gp) (fun b u e => ?_) h.f h.m (fun a u e => ?_) (fun a u e => ?_), same_new gp⟩
  · by_cases hb : b = p
    · subst hb
      rw [upd_same] at e
      rw [hp]
      exact e
    · rw [upd_ne hb] at e
      exact h.g _ _ e
  · rw [upd_ne (ne_of_none e fp)]
    exact h.fg _ _ e
  · rw [upd_ne (ne_of_none e mp)]
    exact h.mg _ _ e
theorem st_get_set {σ : St} {i j : Nat} {v : Option V} (h : j ≠ i) : (σ.set i v)[j]? = σ[j]? := by
  rw [List.getElem?_set_ne (fun e => h e.symm)]
/-- a slot is forgotten -/
theorem LR.wipe (h : LR K F M G H σ L) (i : Nat) (v : Option V) : LR K F M G H (σ.set i v) (setE L i none) := by
  have ne : ∀ {j d}, getE (setE L i none) j = some d → j ≠ i ∧ getE L j = some d := fun {j d} e => by
    by_cases hj : j = i
    · subst hj
      rw [getE_set_none] at e
      cases e
    · rw [getE_set_ne _ _ _ _ hj] at e
      exact ⟨hj, e⟩
  refine ⟨h.f, h.m, h.g, h.fm, h.fg, h.mg, fun j d e => ?_, by rw [setE_len, List.length_set]; exact h.len, fun j k a dj dk e1 e2 m1 m2 s1 s2 => ?_⟩
  · obtain ⟨hj, e'⟩ := ne e
    rw [st_get_set hj]
    exact h.slot j d e'
  · obtain ⟨hj, e1'⟩ := ne e1
    obtain ⟨hk, e2'⟩ := ne e2
    rw [st_get_set hj] at s1
    rw [st_get_set hk] at s2
    exact h.inj j k a dj dk e1' e2' m1 m2 s1 s2
theorem LR.setVal (h : LR K F M G H σ L) {i : Nat} {v : V} {d : PD} (hv : Dq K G v d) : LR K F M G H (σ.set i (some v)) (setE L i (some (.val d))) := by
  refine ⟨h.f, h.m, h.g, h.fm, h.fg, h.mg, fun j dj e => ?_, by rw [setE_len, List.length_set]; exact h.len, fun j k a dj dk e1 e2 m1 m2 s1 s2 => ?_⟩
  · by_cases hj : j = i
    · subst hj
      have lt : j < σ.length := by
        have := getE_len e
        rw [setE_len, h.len] at this
        exact this
      have ed := getE_set_same _ _ _ _ e
      subst ed
      exact ⟨v, List.getElem?_set_self lt, hv⟩
    · rw [getE_set_ne _ _ _ _ hj] at e
      rw [st_get_set hj]
      exact h.slot j dj e
  · by_cases hj : j = i
    · subst hj
      have ed := getE_set_same _ _ _ _ e1
      subst ed
      cases m1
    · by_cases hk : k = i
      · subst hk
        have ed := getE_set_same _ _ _ _ e2
        subst ed
        cases m2
      · rw [getE_set_ne _ _ _ _ hj] at e1
        rw [getE_set_ne _ _ _ _ hk] at e2
        rw [st_get_set hj] at s1
        rw [st_get_set hk] at s2
        exact h.inj j k a dj dk e1 e2 m1 m2 s1 s2
end
/-- a value that a slot may come to hold -/
def DRes (K : PySem.W.Frag) (F M G H : Hp) (v : V) : D → Prop
  | .val d => Dq K G v d
  | .own ds => ∃ p xs, v = .ref p ∧ G p = none ∧ F p = none ∧ M p = none ∧ H p = some (.lst xs) ∧ DqAll K G xs ds
  | .dic ks => ∃ p kvs, v = .ref p ∧ G p = none ∧ F p = none ∧ M p = none ∧ H p = some (.dK kvs) ∧ KvOk K G kvs ks
section
variable {K : PySem.W.Frag} {F M G H G2 H2 : Hp} {σ : St} {L : Env}
theorem LR.setOwn (h : LR K F M G H σ L) {i : Nat} {p : Addr} {o : HO} {d : D} (hm : d.isMut = true) (gp : G p = none) (fp : F p = none) (mp : M p = none) (hp : H p = some o)
    (ok : SlotOk K (upd M p o) G (some (some (.ref p))) d) : LR K F (upd M p o) G H (σ.set i (some (.ref p))) (setE L i (some d)) := by
  have mm : Same M (upd M p o) := same_new mp
  have old : ∀ {j dj a}, j ≠ i → getE L j = some dj → dj.isMut = true → σ[j]? = some (some (.ref a)) → a ≠ p := fun {j dj a} hj e m s => by
    have q := h.slot j dj e
    cases dj with
    | val _ => cases m
    | own ds =>
      obtain ⟨p', xs, e1, e2, _⟩ := q
      rw [s] at e1
      cases e1
      exact ne_of_none e2 mp
    | dic ks =>
      obtain ⟨p', xs, e1, e2, _⟩ := q
      rw [s] at e1
      cases e1
      exact ne_of_none e2 mp
  refine ⟨h.f, fun b u e => ?_, h.g, fun a u e => ?_, h.fg, fun a u e => ?_, fun j dj e => ?_, by rw [setE_len, List.length_set]; exact h.len, fun j k a dj dk e1 e2 m1 m2 s1 s2 => ?_⟩
  · by_cases hb : b = p
    · subst hb
      rw [upd_same] at e
      rw [hp]
      exact e
    · rw [upd_ne hb] at e
      exact h.m _ _ e
  · rw [upd_ne (ne_of_none e fp)]
    exact h.fm _ _ e
  · by_cases hb : a = p
    · subst hb
      exact gp
    · rw [upd_ne hb] at e
      exact h.mg _ _ e
  · by_cases hj : j = i
    · subst hj
      have lt : j < σ.length := by
        have := getE_len e
        rw [setE_len, h.len] at this
        exact this
      have ed := getE_set_same _ _ _ _ e
      subst ed
      rw [List.getElem?_set_self lt]
      exact ok
    · rw [getE_set_ne _ _ _ _ hj] at e
      rw [st_get_set hj]
      exact slot_mono mm (Same.refl G) (h.slot j dj e)
  · by_cases hj : j = i
    · by_cases hk : k = i
      · rw [hj, hk]
      · subst hj
        have lt : j < σ.length := by
          have := getE_len e1
          rw [setE_len, h.len] at this
          exact this
        rw [List.getElem?_set_self lt] at s1
        cases s1
        rw [getE_set_ne _ _ _ _ hk] at e2
        rw [st_get_set hk] at s2
        exact absurd rfl (old hk e2 m2 s2)
    · by_cases hk : k = i
      · subst hk
        have lt : k < σ.length := by
          have := getE_len e2
          rw [setE_len, h.len] at this
          exact this
        rw [List.getElem?_set_self lt] at s2
        cases s2
        rw [getE_set_ne _ _ _ _ hj] at e1
        rw [st_get_set hj] at s1
        exact absurd rfl (old hj e1 m1 s1)
      · rw [getE_set_ne _ _ _ _ hj] at e1
        rw [getE_set_ne _ _ _ _ hk] at e2
        rw [st_get_set hj] at s1
        rw [st_get_set hk] at s2
        exact h.inj j k a dj dk e1 e2 m1 m2 s1 s2
theorem LR.setD (h : LR K F M G H σ L) {i : Nat} {v : V} : ∀ {d : D}, DRes K F M G H v d → ∃ M', LR K F M' G H (σ.set i (some v)) (setE L i (some d))
  | .val d, hv => ⟨M, h.setVal hv⟩
  | .own ds, ⟨p, xs, ev, gp, fp, mp, hp, ha⟩ => by
    subst ev
    exact ⟨_, h.setOwn rfl gp fp mp hp ⟨p, xs, rfl, upd_same, ha⟩⟩
  | .dic ks, ⟨p, xs, ev, gp, fp, mp, hp, ha⟩ => by
    subst ev
    exact ⟨_, h.setOwn rfl gp fp mp hp ⟨p, xs, rfl, upd_same, ha⟩⟩
/-- the def's own list in slot i changes -/
theorem LR.change (h : LR K F M G H σ L) {i : Nat} {d d' : D} {p : Addr} {o' : HO} (e : getE L i = some d) (hm : d.isMut = true) (hm' : d'.isMut = true) (hs : σ[i]? = some (some (.ref p))) (hp : ∃ o, M p = some o)
    (ok : SlotOk K (upd M p o') G (some (some (.ref p))) d') : LR K F (upd M p o') G (upd H p o') σ (setE L i (some d')) := by
  obtain ⟨o, hp⟩ := hp
  have gp : G p = none := h.mg _ _ hp
  have fp : F p = none := by
    cases q : F p with
    | none => rfl
    | some u =>
      rw [h.fm _ _ q] at hp
      cases hp
  refine ⟨same_mut h.f fp, fun b u q => ?_, same_mut h.g gp, fun a u q => ?_, h.fg, fun a u q => ?_, fun j dj ej => ?_, by rw [setE_len]; exact h.len, fun j k a dj dk e1 e2 m1 m2 s1 s2 => ?_⟩
  · by_cases hb : b = p
    · subst hb
      rw [upd_same] at q ⊢
      exact q
    · rw [upd_ne hb] at q ⊢
      exact h.m _ _ q
  · rw [upd_ne (ne_of_none q fp)]
    exact h.fm _ _ q
  · by_cases hb : a = p
    · subst hb
      exact gp
    · rw [upd_ne hb] at q
      exact h.mg _ _ q
  · by_cases hj : j = i
    · subst hj
      have ed := getE_set_same _ _ _ _ ej
      subst ed
      rw [hs]
      exact ok
    · rw [getE_set_ne _ _ _ _ hj] at ej
      have q := h.slot j dj ej
      cases dj with
      | val _ => exact q
      | own ds =>
        obtain ⟨p', xs, e1, e2, e3⟩ := q
        have np : p' ≠ p := fun z => by
          subst z
          exact hj (h.inj j i p' _ _ ej e rfl hm e1 hs)
        exact ⟨p', xs, e1, by rw [upd_ne np]; exact e2, e3⟩
      | dic ks =>
        obtain ⟨p', xs, e1, e2, e3⟩ := q
        have np : p' ≠ p := fun z => by
          subst z
          exact hj (h.inj j i p' _ _ ej e rfl hm e1 hs)
        exact ⟨p', xs, e1, by rw [upd_ne np]; exact e2, e3⟩
  · have back : ∀ {j dj}, getE (setE L i (some d')) j = some dj → dj.isMut = true → ∃ dj', getE L j = some dj' ∧ dj'.isMut = true := fun {j dj} ej m => by
      by_cases hj : j = i
      · subst hj
        exact ⟨d, e, hm⟩
      · rw [getE_set_ne _ _ _ _ hj] at ej
        exact ⟨dj, ej, m⟩
    obtain ⟨dj', e1', m1'⟩ := back e1 m1
    obtain ⟨dk', e2', m2'⟩ := back e2 m2
    exact h.inj j k a dj' dk' e1' e2' m1' m2' s1 s2
/-- the def's own list in slot i comes to stay -/
theorem LR.freeze (h : LR K F M G H σ L) {i : Nat} {ds : List PD} (e : getE L i = some (.own ds)) : ∃ M' G', Same G G' ∧ LR K F M' G' H σ (setE L i (some (.val (.list ds)))) := by
  obtain ⟨p, xs, hs, hp, ha⟩ := h.slot i _ e
  have gp : G p = none := h.mg _ _ hp
  have fp : F p = none := by
    cases q : F p with
    | none => rfl
    | some u =>
      rw [h.fm _ _ q] at hp
      cases hp
  have gg : Same G (upd G p (.lst xs)) := same_new gp
  refine ⟨fun a => if a = p then none else M a, upd G p (.lst xs), gg, h.f, fun b u q => ?_, fun b u q => ?_, fun a u q => ?_, fun a u q => ?_, fun a u q => ?_, fun j dj ej => ?_, by rw [setE_len]; exact h.len, fun j k a dj dk e1 e2 m1 m2 s1 s2 => ?_⟩
  · split at q
    · cases q
    · exact h.m _ _ q
  · by_cases hb : b = p
    · subst hb
      rw [upd_same] at q
      rw [h.m _ _ hp]
      exact q
    · rw [upd_ne hb] at q
      exact h.g _ _ q
  · split
    · rfl
    · exact h.fm _ _ q
  · rw [upd_ne (ne_of_none q fp)]
    exact h.fg _ _ q
  · split at q
    · cases q
    · rename_i hb
      rw [upd_ne hb]
      exact h.mg _ _ q
  · by_cases hj : j = i
    · subst hj
      have ed := getE_set_same _ _ _ _ ej
      subst ed
      exact ⟨.ref p, hs, .lst upd_same (dpAll_mono gg _ _ ha)⟩
    · rw [getE_set_ne _ _ _ _ hj] at ej
      have q := h.slot j dj ej
      cases dj with
      | val _ => exact slot_mono (Same.refl M) gg q
      | own es =>
        obtain ⟨p', xs', e1, e2, e3⟩ := q
        have np : p' ≠ p := fun z => by
          subst z
          exact hj (h.inj j i p' _ _ ej e rfl rfl e1 hs)
        exact ⟨p', xs', e1, by dsimp only; rw [if_neg np]; exact e2, dpAll_mono gg _ _ e3⟩
      | dic ks =>
        obtain ⟨p', xs', e1, e2, e3⟩ := q
        have np : p' ≠ p := fun z => by
          subst z
          exact hj (h.inj j i p' _ _ ej e rfl rfl e1 hs)
        exact ⟨p', xs', e1, by dsimp only; rw [if_neg np]; exact e2, kv_mono gg e3⟩
  · have back : ∀ {j dj}, getE (setE L i (some (.val (.list ds)))) j = some dj → dj.isMut = true → getE L j = some dj := fun {j dj} ej m => by
      by_cases hj : j = i
      · subst hj
        have ed := getE_set_same _ _ _ _ ej
        subst ed
        cases m
      · rw [getE_set_ne _ _ _ _ hj] at ej
        exact ej
    exact h.inj j k a dj dk (back e1 m1) (back e2 m2) m1 m2 s1 s2
end
end
end Px
namespace Px
open PySem L2
noncomputable section
section
variable {X : Cx}
theorem peW {e : Expr} {t t' : TE} (h : PE X e t) (w : ∀ σ H Q, t' σ H Q → t σ H Q) : PE X e t' := ⟨fun pins s σ H Q I q => h.run pins s σ H Q I (w _ _ _ q)⟩
theorem ptW {e : Expr} {t t' : TT} (h : PT X e t) (w : ∀ σ H Q, t' σ H Q → t σ H Q) : PT X e t' := ⟨fun pins s σ H Q I q => h.run pins s σ H Q I (w _ _ _ q)⟩
theorem pwW {e : Expr} {t t' : TT} (h : PW X e t) (w : ∀ σ H Q, t' σ H Q → t σ H Q) : PW X e t' := ⟨fun wh pins s σ H Q I q => h.run wh pins s σ H Q I (w _ _ _ q)⟩
theorem paW {e : List Expr} {t t' : TA} (h : PA X e t) (w : ∀ σ H Q, t' σ H Q → t σ H Q) : PA X e t' := ⟨fun p pins s σ H Q I q => h.run p pins s σ H Q I (w _ _ _ q)⟩
theorem poW {e : Option Expr} {t t' : TO} (h : PO X e t) (w : ∀ σ H Q, t' σ H Q → t σ H Q) : PO X e t' := ⟨fun pins s σ H Q I q => h.run pins s σ H Q I (w _ _ _ q)⟩
theorem psW {e : Stmt} {t t' : TS} (h : PS X e t) (w : ∀ D σ H, t' D σ H → t D σ H) : PS X e t' := ⟨fun pins s σ H D I q => h.run pins s σ H D I (w _ _ _ q)⟩
theorem pssW {e : List Stmt} {t t' : TS} (h : PSs X e t) (w : ∀ D σ H, t' D σ H → t D σ H) : PSs X e t' := ⟨fun pins s σ H D I q => h.run pins s σ H D I (w _ _ _ q)⟩
theorem ptsW {e : List Expr} {t t' : TT} (h : PTs X e t) (w : ∀ σ H Q, t' σ H Q → t σ H Q) : PTs X e t' := ⟨fun pins s σ H Q I q => h.run pins s σ H Q I (w _ _ _ q)⟩
end
section
variable (K : PySem.W.Frag) (mg : Str → Option Value) (E : XK)
def OkR (F M G : Hp) (L : Env) (H : Hp) (σ : St) {α : Type} (P : α → Hp → Hp → Prop) : R α → Prop
  | .ok a => ∀ G2 H2, Same G G2 → Same H H2 → LR K F M G2 H2 σ L → P a G2 H2
  | .exc c => ∀ a H2, mg c = some (.ref a) → Same F H2 → Same G H2 → E (.ref a) none H2
  | .bad => False
/-- a value that stays, or a list of the def's own looked at -/
def BRes (G H : Hp) (v : V) (d : PD) : Prop := Dq K G v d ∨ ∃ a xs ds, v = .ref a ∧ d = .list ds ∧ H a = some (.lst xs) ∧ DqAll K G xs ds
def tX (f : Env → R PD) : TE := fun σ H Q => ∃ F M G L, LR K F M G H σ L ∧ OkR K mg E F M G L H σ (fun d G2 H2 => ∀ v, Dq K G2 v d → Q v H2) (f L)
def tF (f : Env → R D) : TE := fun σ H Q => ∃ F M G L, LR K F M G H σ L ∧ OkR K mg E F M G L H σ (fun d G2 H2 => ∀ v, DRes K F M G2 H2 v d → Q v H2) (f L)
def tBo (f : Env → R PD) : TE := fun σ H Q => ∃ F M G L, LR K F M G H σ L ∧ OkR K mg E F M G L H σ (fun d G2 H2 => ∀ v, BRes K G2 H2 v d → Q v H2) (f L)
def tT (f : Env → R Bool) : TT := fun σ H Q => ∃ F M G L, LR K F M G H σ L ∧ OkR K mg E F M G L H σ (fun b G2 H2 => Q b H2) (f L)
def tA (f : Env → R (List PD)) : TA := fun σ H Q => ∃ F M G L, LR K F M G H σ L ∧ OkR K mg E F M G L H σ (fun ds G2 H2 => ∀ vs, DqAll K G2 vs ds → Q vs H2) (f L)
def tO (f : Env → R (Option Int)) : TO := fun σ H Q => ∃ F M G L, LR K F M G H σ L ∧ OkR K mg E F M G L H σ (fun o G2 H2 => Q o H2) (f L)
end
abbrev XE (X : Cx) (E : XK) (e : Expr) (f : Env → R PD) : Prop := PE X e (tX X.K X.mg E f)
abbrev XF (X : Cx) (E : XK) (e : Expr) (f : Env → R D) : Prop := PE X e (tF X.K X.mg E f)
abbrev XB (X : Cx) (E : XK) (e : Expr) (f : Env → R PD) : Prop := PE X e (tBo X.K X.mg E f)
abbrev XT (X : Cx) (E : XK) (e : Expr) (f : Env → R Bool) : Prop := PT X e (tT X.K X.mg E f)
abbrev XW (X : Cx) (E : XK) (e : Expr) (f : Env → R Bool) : Prop := PW X e (tT X.K X.mg E f)
abbrev XA (X : Cx) (E : XK) (e : List Expr) (f : Env → R (List PD)) : Prop := PA X e (tA X.K X.mg E f)
abbrev XO (X : Cx) (E : XK) (e : Option Expr) (f : Env → R (Option Int)) : Prop := PO X e (tO X.K X.mg E f)
section
variable {K : PySem.W.Frag} {mg : Str → Option Value} {E : XK} {F M G G2 H H2 : Hp} {L : Env} {σ : St} {α β : Type}
theorem OkR.mono {P : α → Hp → Hp → Prop} (eG : Same G G2) (eH : Same H H2) : ∀ {r : R α}, OkR K mg E F M G L H σ P r → OkR K mg E F M G2 L H2 σ P r
  | .ok a, h => fun G3 H3 e1 e2 lr => h G3 H3 (eG.trans e1) (eH.trans e2) lr
  | .exc c, h => fun a H3 e f g => h a H3 e f (eG.trans g)
  | .bad, h => h
theorem OkR.imp {P P' : α → Hp → Hp → Prop} : ∀ {r : R α}, OkR K mg E F M G L H σ P r → (∀ a G2 H2, r = .ok a → Same G G2 → Same H H2 → LR K F M G2 H2 σ L → P a G2 H2 → P' a G2 H2) → OkR K mg E F M G L H σ P' r
  | .ok a, h, i => fun G3 H3 e1 e2 lr => i a G3 H3 rfl e1 e2 lr (h G3 H3 e1 e2 lr)
  | .exc c, h, _ => h
  | .bad, h, _ => h
/-- one evaluation, then what follows -/
theorem OkR.seq {P : β → Hp → Hp → Prop} {g : α → R β} : ∀ {r : R α}, OkR K mg E F M G L H σ P (r.bind g) → OkR K mg E F M G L H σ (fun a G1 H1 => OkR K mg E F M G1 L H1 σ P (g a)) r
  | .ok a, h => fun G3 H3 e1 e2 lr => OkR.mono e1 e2 h
  | .exc c, h => h
  | .bad, h => h
/-- an answer at once -/
theorem OkR.here {P : α → Hp → Hp → Prop} {a : α} (h : OkR K mg E F M G L H σ P (.ok a)) (lr : LR K F M G H σ L) : P a G H := h G H (Same.refl _) (Same.refl _) lr
theorem bres_mono {v : V} {d : PD} (eG : Same G G2) (eH : Same H H2) (h : BRes K G H v d) : BRes K G2 H2 v d := by
  rcases h with h | ⟨a, xs, ds, e1, e2, q, r⟩
  · exact .inl (dp_mono eG _ _ h)
  · exact .inr ⟨a, xs, ds, e1, e2, eH _ _ q, dpAll_mono eG _ _ r⟩
theorem bres_int {v : V} {i : Int} (h : BRes K G H v (.int i)) : v = .int i := by
  rcases h with h | ⟨a, xs, ds, e1, e2, _⟩
  · cases h; rfl
  · cases e2
theorem bres_bl {v : V} {i : Bool} (h : BRes K G H v (.bool i)) : v = .bl i := by
  rcases h with h | ⟨a, xs, ds, e1, e2, _⟩
  · cases h; rfl
  · cases e2
theorem bres_str {v : V} {i : Str} (h : BRes K G H v (.str i)) : v = .str i := by
  rcases h with h | ⟨a, xs, ds, e1, e2, _⟩
  · cases h; rfl
  · cases e2
theorem bres_non {v : V} (h : BRes K G H v .none) : v = .non := by
  rcases h with h | ⟨a, xs, ds, e1, e2, _⟩
  · cases h; rfl
  · cases e2
theorem bres_list {v : V} {ds : List PD} (g : Same G H) (h : BRes K G H v (.list ds)) : ∃ a xs, v = .ref a ∧ H a = some (.lst xs) ∧ DqAll K G xs ds := by
  rcases h with h | ⟨a, xs, ds', e1, e2, q, r⟩
  · cases h with
    | lst q r => exact ⟨_, _, rfl, g _ _ q, r⟩
  · cases e2
    exact ⟨a, xs, e1, q, r⟩
theorem bres_tuple {v : V} {ds : List PD} (g : Same G H) (h : BRes K G H v (.tuple ds)) : ∃ a xs, v = .ref a ∧ H a = some (.tup xs) ∧ DqAll K G xs ds := by
  rcases h with h | ⟨a, xs, ds', e1, e2, q, r⟩
  · cases h with
    | tup q r => exact ⟨_, _, rfl, g _ _ q, r⟩
  · cases e2
theorem bres_dp {v : V} {d : PD} (g : Same G H) (h : BRes K G H v d) : Dq K H v d := by
  rcases h with h | ⟨a, xs, ds', e1, e2, q, r⟩
  · exact dp_mono g _ _ h
  · subst e1
    subst e2
    exact .lst q (dpAll_mono g _ _ r)
end
section
variable (K : PySem.W.Frag) (mg : Str → Option Value) (E : XK)
/-- two places looked at, a value that stays -/
def R2X (r : R2) (g : PD → PD → R PD) : Prop := ∀ {F M G H : Hp} {σ : St} {L : Env} {x y : V} {dx dy : PD} {Q : VK}, LR K F M G H σ L → BRes K G H x dx → BRes K G H y dy →
  OkR K mg E F M G L H σ (fun d G2 H2 => ∀ v, Dq K G2 v d → Q v H2) (g dx dy) → r x y H Q
/-- .. a new list -/
def R2F (r : R2) (g : PD → PD → R D) : Prop := ∀ {F M G H : Hp} {σ : St} {L : Env} {x y : V} {dx dy : PD} {Q : VK}, LR K F M G H σ L → BRes K G H x dx → BRes K G H y dy →
  OkR K mg E F M G L H σ (fun d G2 H2 => ∀ v, DRes K F M G2 H2 v d → Q v H2) (g dx dy) → r x y H Q
/-- .. True or False -/
def R2T (r : R2) (g : PD → PD → R Bool) : Prop := ∀ {F M G H : Hp} {σ : St} {L : Env} {x y : V} {dx dy : PD} {Q : VK}, LR K F M G H σ L → BRes K G H x dx → BRes K G H y dy →
  OkR K mg E F M G L H σ (fun b G2 H2 => Q (.bl b) H2) (g dx dy) → r x y H Q
/-- one place -/
def R1X (r : List V → Hp → VK → Prop) (g : PD → R PD) : Prop := ∀ {F M G H : Hp} {σ : St} {L : Env} {x : V} {dx : PD} {Q : VK}, LR K F M G H σ L → BRes K G H x dx →
  OkR K mg E F M G L H σ (fun d G2 H2 => ∀ v, Dq K G2 v d → Q v H2) (g dx) → r [x] H Q
def R1F (r : List V → Hp → VK → Prop) (g : PD → R D) : Prop := ∀ {F M G H : Hp} {σ : St} {L : Env} {x : V} {dx : PD} {Q : VK}, LR K F M G H σ L → BRes K G H x dx →
  OkR K mg E F M G L H σ (fun d G2 H2 => ∀ v, DRes K F M G2 H2 v d → Q v H2) (g dx) → r [x] H Q
end
def op2 {α : Type} (g : PD → PD → R α) (fa fb : Env → R PD) : Env → R α := fun L => (fa L).bind fun x => (fb L).bind fun y => g x y
def op1 {α : Type} (g : PD → R α) (fa : Env → R PD) : Env → R α := fun L => (fa L).bind g
def fz : D → R PD
  | .val d => .ok d
  | .own ds => .ok (.list ds)
  | .dic _ => .bad
def constE (d : PD) : Env → R PD := fun _ => .ok d
def slotE (o : Option D) : R PD := match o with
  | some (.val d) => .ok d
  | _ => .bad
def slotB (o : Option D) : R PD := match o with
  | some (.val d) => .ok d
  | some (.own ds) => .ok (.list ds)
  | _ => .bad
def varE (i : Nat) : Env → R PD := fun L => slotE (getE L i)
def varB (i : Nat) : Env → R PD := fun L => slotB (getE L i)
def asB : PD → R Bool
  | .bool b => .ok b
  | _ => .bad
def valD (d : PD) : R D := .ok (.val d)
def valF (f : Env → R PD) : Env → R D := fun L => (f L).bind valD
def fzE (f : Env → R D) : Env → R PD := fun L => (f L).bind fz
def bV (r : R Bool) : R PD := r.bind fun b => .ok (.bool b)
def bvE (f : Env → R Bool) : Env → R PD := fun L => bV (f L)
section
variable {X : Cx} {E : XK} {a b c : Expr} {fa fb fc : Env → R PD} {pos : Pos}
theorem xb_of (h : XE X E a fa) : XB X E a fa := peW h fun σ H Q ⟨F, M, G, L, lr, q⟩ => ⟨F, M, G, L, lr, q.imp fun d G2 H2 _ _ _ _ p v hv => p v (.inl hv)⟩
theorem xf_of (h : XE X E a fa) : XF X E a (valF fa) := peW h fun σ H Q ⟨F, M, G, L, lr, q⟩ => ⟨F, M, G, L, lr, q.seq.imp fun d G2 H2 _ _ _ lr2 p v hv => p.here lr2 v hv⟩
theorem xe_fz {f : Env → R D} (h : XF X E a f) : XE X E a (fzE f) := peW h fun σ H Q ⟨F, M, G, L, lr, q⟩ => ⟨F, M, G, L, lr, q.seq.imp fun d G2 H2 _ _ _ lr2 p v hv => by
  cases d with
  | val d => exact p.here lr2 v hv
  | own ds =>
    obtain ⟨p', xs, ev, gp, fp, mp, hp, ha⟩ := hv
    subst ev
    obtain ⟨lr3, gg⟩ := lr2.keep hp gp fp mp
    exact p _ H2 gg (Same.refl _) lr3 (.ref p') (.lst upd_same (dpAll_mono gg _ _ ha))
  | dic ks => exact False.elim p⟩
theorem xe_var (i : Nat) {x : Str} (hN : X.N[i]? = some x := by rfl) (hv : Vis X.env.scope x := by first | exact Or.inl rfl | exact Or.inr (Or.inl rfl) | exact Or.inr (Or.inr rfl)) (hd : (x == ("__debug__" : Str)) = false := by decide)
    (hcd : (x == ("__classdict__" : Str)) = false := by decide) : XE X E (.Name x pos) (varE i) := peW (pe_var hN hv hd hcd) fun σ H Q ⟨F, M, G, L, lr, q⟩ => by
  unfold varE at q
  cases e : getE L i with
  | none => rw [e] at q; exact False.elim q
  | some d =>
    rw [e] at q
    cases d with
    | val d =>
      obtain ⟨v, hs, hv⟩ := lr.slot i _ e
      exact ⟨v, hs, OkR.here q lr v hv⟩
    | own ds => exact False.elim q
    | dic ds => exact False.elim q
theorem xb_var (i : Nat) {x : Str} (hN : X.N[i]? = some x := by rfl) (hv : Vis X.env.scope x := by first | exact Or.inl rfl | exact Or.inr (Or.inl rfl) | exact Or.inr (Or.inr rfl)) (hd : (x == ("__debug__" : Str)) = false := by decide)
    (hcd : (x == ("__classdict__" : Str)) = false := by decide) : XB X E (.Name x pos) (varB i) := peW (pe_var hN hv hd hcd) fun σ H Q ⟨F, M, G, L, lr, q⟩ => by
  unfold varB at q
  cases e : getE L i with
  | none => rw [e] at q; exact False.elim q
  | some d =>
    rw [e] at q
    cases d with
    | val d =>
      obtain ⟨v, hs, hv⟩ := lr.slot i _ e
      exact ⟨v, hs, OkR.here q lr v (.inl hv)⟩
    | own ds =>
      obtain ⟨p, xs, hs, hp, ha⟩ := lr.slot i _ e
      exact ⟨.ref p, hs, OkR.here q lr _ (.inr ⟨p, xs, ds, rfl, rfl, lr.m _ _ hp, ha⟩)⟩
    | dic ds => exact False.elim q
theorem xe_int {i j} : XE X E (.Constant (.int i) j pos) (constE (.int i)) := peW pe_int fun σ H Q ⟨F, M, G, L, lr, q⟩ => OkR.here q lr _ (.int i)
theorem xe_bl {i j} : XE X E (.Constant (.bool i) j pos) (constE (.bool i)) := peW pe_bl fun σ H Q ⟨F, M, G, L, lr, q⟩ => OkR.here q lr _ (.bl i)
theorem xe_non {j} : XE X E (.Constant .none j pos) (constE .none) := peW pe_non fun σ H Q ⟨F, M, G, L, lr, q⟩ => OkR.here q lr _ .non
theorem xe_str {i j} : XE X E (.Constant (.str i) j pos) (constE (.str i)) := peW pe_str fun σ H Q ⟨F, M, G, L, lr, q⟩ => OkR.here q lr _ (.str i)
theorem xe_globI {x : Str} {i : Int} {t : Tok} (hg : Gl X x) (hm : X.mg x = some (.int i t)) (hd : (x == ("__debug__" : Str)) = false := by decide) : XE X E (.Name x pos) (constE (.int i)) :=
  peW (pe_glob (v := .int i) hg hm ⟨_, rfl⟩ hd) fun σ H Q ⟨F, M, G, L, lr, q⟩ => OkR.here q lr _ (.int i)
theorem xe_globS {x z : Str} {t : Tok} (hg : Gl X x) (hm : X.mg x = some (.str z t)) (hd : (x == ("__debug__" : Str)) = false := by decide) : XE X E (.Name x pos) (constE (.str z)) :=
  peW (pe_glob (v := .str z) hg hm ⟨_, rfl⟩ hd) fun σ H Q ⟨F, M, G, L, lr, q⟩ => OkR.here q lr _ (.str z)
theorem two {r : R2} {α : Type} {P : α → Hp → Hp → Prop} {g : PD → PD → R α} {K : PySem.W.Frag} {mg : Str → Option Value} {σ : St} {H : Hp} {Q : VK} {F M G : Hp} {L : Env} (lr : LR K F M G H σ L) (q : OkR K mg E F M G L H σ P (op2 g fa fb L))
    (rule : ∀ {G1 H1 : Hp} {x y : V} {dx dy : PD}, LR K F M G1 H1 σ L → Same G G1 → Same H H1 → BRes K G1 H1 x dx → BRes K G1 H1 y dy → OkR K mg E F M G1 L H1 σ P (g dx dy) → r x y H1 Q) :
    tOp r (tBo K mg E fa) (tBo K mg E fb) σ H Q := by
  refine ⟨F, M, G, L, lr, (OkR.seq q).imp fun dx G1 H1 _ e1 e2 lr1 p1 x hx => ?_⟩
  refine ⟨F, M, G1, L, lr1, (OkR.seq p1).imp fun dy G2 H2 _ e3 e4 lr2 p2 y hy => ?_⟩
  exact rule lr2 (e1.trans e3) (e2.trans e4) (bres_mono e3 e4 hx) hy p2
theorem xe_op {op : Operator} {r : R2} {g : PD → PD → R PD} (ho : OpR X (binaryOp op) r) (rule : R2X X.K X.mg E r g) (ha : XB X E a fa) (hb : XB X E b fb) : XE X E (.BinOp a op b pos) (op2 g fa fb) :=
  peW (pe_op ho ha hb) fun σ H Q ⟨F, M, G, L, lr, q⟩ => two lr q fun lr1 _ _ hx hy p => rule lr1 hx hy p
theorem xf_op {op : Operator} {r : R2} {g : PD → PD → R D} (ho : OpR X (binaryOp op) r) (rule : R2F X.K X.mg E r g) (ha : XB X E a fa) (hb : XB X E b fb) : XF X E (.BinOp a op b pos) (op2 g fa fb) :=
  peW (pe_op ho ha hb) fun σ H Q ⟨F, M, G, L, lr, q⟩ => two lr q fun lr1 _ _ hx hy p => rule lr1 hx hy p
theorem xe_cmp {op : CmpOp} {r : R2} {g : PD → PD → R Bool} (ho : OpR X (compareOp op) r) (rule : R2T X.K X.mg E r g) (ha : XB X E a fa) (hb : XB X E b fb) (hm : behindInMarks op b = false) : XE X E (.Compare a [op] [b] pos) (bvE (op2 g fa fb)) :=
  peW (pe_cmpR ho ha hb hm) fun σ H Q ⟨F, M, G, L, lr, q⟩ => two (P := fun b G2 H2 => Q (.bl b) H2) lr (q.seq.imp fun k G2 H2 _ _ _ lr2 p => p.here lr2 _ (.bl k)) fun lr1 _ _ hx hy p => rule lr1 hx hy p
theorem xt_cmp {op : CmpOp} {r : R2} {g : PD → PD → R Bool} (ho : OpR X (compareOp op) r) (rule : R2T X.K X.mg E r g) (ha : XB X E a fa) (hb : XB X E b fb) (hm : behindInMarks op b = false) : XT X E (.Compare a [op] [b] pos) (op2 g fa fb) :=
  ptW (pt_cmpR ho ha hb hm) fun σ H Q ⟨F, M, G, L, lr, q⟩ => two (Q := fun x H' => ∃ k, x = .bl k ∧ Q k H') (P := fun b G2 H2 => Q b H2) lr q fun lr1 _ _ hx hy p => rule lr1 hx hy (p.imp fun k G2 H2 _ _ _ _ h => ⟨k, rfl, h⟩)
/-- an expression that gives True or False, as a test -/
theorem xt_val (h : XE X E a fa) (he : ∀ whole, isTrue a X.env whole = (do let v ← whole; standAt a.pos; holding [v] (truthy v)) := by intro _; rfl) : XT X E a (op1 asB fa) :=
  ptW (pt_val h he) fun σ H Q ⟨F, M, G, L, lr, q⟩ => ⟨F, M, G, L, lr, q.seq.imp fun d G2 H2 _ _ _ lr2 p v hv => by
    cases d with
    | bool b =>
      cases hv
      exact ⟨b, rfl, p.here lr2⟩
    | _ => exact False.elim p⟩
def notT (f : Env → R Bool) : Env → R Bool := fun L => (f L).bind fun b => .ok (!b)
def andT (f g : Env → R Bool) : Env → R Bool := fun L => (f L).bind fun b => if b = true then g L else .ok false
def orT (f g : Env → R Bool) : Env → R Bool := fun L => (f L).bind fun b => if b = true then .ok true else g L
variable {ft fu : Env → R Bool} {rest : List Expr}
theorem xt_not (h : XT X E a ft) : XT X E (.UnaryOp .Not a pos) (notT ft) := ptW (pt_not h) fun σ H Q ⟨F, M, G, L, lr, q⟩ => ⟨F, M, G, L, lr, q.seq.imp fun d G2 H2 _ _ _ lr2 p => p.here lr2⟩
theorem xw_and1 (h : XT X E a ft) : XW X E (.BoolOp .And [a] pos) ft := pw_and1 h
theorem xw_or1 (h : XT X E a ft) : XW X E (.BoolOp .Or [a] pos) ft := pw_or1 h
theorem xw_and (ha : XT X E a ft) (hb : XW X E (.BoolOp .And (b :: rest) pos) fu) : XW X E (.BoolOp .And (a :: b :: rest) pos) (andT ft fu) :=
  pwW (pw_and ha hb) fun σ H Q ⟨F, M, G, L, lr, q⟩ => ⟨F, M, G, L, lr, (OkR.seq q).imp fun k G2 H2 _ _ _ lr2 p => by
    cases k with
    | true => exact ⟨F, M, G2, L, lr2, p⟩
    | false => exact p.here lr2⟩
theorem xw_or (ha : XT X E a ft) (hb : XW X E (.BoolOp .Or (b :: rest) pos) fu) : XW X E (.BoolOp .Or (a :: b :: rest) pos) (orT ft fu) :=
  pwW (pw_or ha hb) fun σ H Q ⟨F, M, G, L, lr, q⟩ => ⟨F, M, G, L, lr, (OkR.seq q).imp fun k G2 H2 _ _ _ lr2 p => by
    cases k with
    | true => exact p.here lr2
    | false => exact ⟨F, M, G2, L, lr2, p⟩⟩
theorem xt_w (h : XW X E a ft) : XT X E a ft := h.pt
/-- and, or, not as values: all True or False -/
def boV (f : Env → R PD) : Env → R Bool := op1 asB f
def andV (f g : Env → R PD) : Env → R PD := fun L => (f L).bind fun d => (asB d).bind fun b => if b = true then g L else .ok (.bool false)
def orV (f g : Env → R PD) : Env → R PD := fun L => (f L).bind fun d => (asB d).bind fun b => if b = true then .ok (.bool true) else g L
def notV (f : Env → R PD) : Env → R PD := fun L => (f L).bind fun d => (asB d).bind fun b => .ok (.bool (!b))
theorem xe_one {op} (h : XE X E a fa) : XE X E (.BoolOp op [a] pos) fa := pe_one h
theorem xe_and (ha : XE X E a fa) (hb : XE X E (.BoolOp .And (b :: rest) pos) fb) : XE X E (.BoolOp .And (a :: b :: rest) pos) (andV fa fb) :=
  peW (pe_and ha hb) fun σ H Q ⟨F, M, G, L, lr, q⟩ => ⟨F, M, G, L, lr, (OkR.seq q).imp fun d G2 H2 _ _ _ lr2 p v hv => by
    cases d with
    | bool k =>
      cases hv
      cases k with
      | true => exact ⟨true, rfl, ⟨F, M, G2, L, lr2, p⟩⟩
      | false => exact ⟨false, rfl, OkR.here p lr2 _ (.bl false)⟩
    | _ => exact False.elim p⟩
theorem xe_or (ha : XE X E a fa) (hb : XE X E (.BoolOp .Or (b :: rest) pos) fb) : XE X E (.BoolOp .Or (a :: b :: rest) pos) (orV fa fb) :=
  peW (pe_or ha hb) fun σ H Q ⟨F, M, G, L, lr, q⟩ => ⟨F, M, G, L, lr, (OkR.seq q).imp fun d G2 H2 _ _ _ lr2 p v hv => by
    cases d with
    | bool k =>
      cases hv
      cases k with
      | true => exact ⟨true, rfl, OkR.here p lr2 _ (.bl true)⟩
      | false => exact ⟨false, rfl, ⟨F, M, G2, L, lr2, p⟩⟩
    | _ => exact False.elim p⟩
theorem xe_not (ha : XE X E a fa) : XE X E (.UnaryOp .Not a pos) (notV fa) :=
  peW (pe_not ha) fun σ H Q ⟨F, M, G, L, lr, q⟩ => ⟨F, M, G, L, lr, (OkR.seq q).imp fun d G2 H2 _ _ _ lr2 p v hv => by
    cases d with
    | bool k =>
      cases hv
      exact ⟨k, rfl, OkR.here p lr2 _ (.bl (!k))⟩
    | _ => exact False.elim p⟩
def iteE {α : Type} (t : Env → R Bool) (f g : Env → R α) : Env → R α := fun L => (t L).bind fun b => if b = true then f L else g L
theorem xe_if (hc : XT X E c ft) (ha : XE X E a fa) (hb : XE X E b fb) : XE X E (.IfExp c a b pos) (iteE ft fa fb) :=
  peW (pe_ifExp hc ha hb) fun σ H Q ⟨F, M, G, L, lr, q⟩ => ⟨F, M, G, L, lr, (OkR.seq q).imp fun k G2 H2 _ _ _ lr2 p => by
    cases k with
    | true => exact ⟨F, M, G2, L, lr2, p⟩
    | false => exact ⟨F, M, G2, L, lr2, p⟩⟩
def argsE : List (Env → R PD) → Env → R (List PD)
  | [], _ => .ok []
  | f :: fs, L => (f L).bind fun d => (argsE fs L).bind fun ds => .ok (d :: ds)
theorem argsE_len : ∀ {fs : List (Env → R PD)} {L : Env} {ds : List PD}, argsE fs L = .ok ds → ds.length = fs.length
  | [], _, _, h => by cases h; rfl
  | f :: fs, L, ds, h => by
    unfold argsE at h
    cases e : f L with
    | ok d =>
      rw [e] at h
      cases e2 : argsE fs L with
      | ok es =>
        rw [e2] at h
        cases h
        show _ + 1 = _ + 1
        rw [argsE_len e2]
      | exc c => rw [e2] at h; cases h
      | bad => rw [e2] at h; cases h
    | exc c => rw [e] at h; cases h
    | bad => rw [e] at h; cases h
variable {es : List Expr} {fs : List (Env → R PD)}
theorem xa_nil : XA X E [] (argsE []) := paW pa_nil fun σ H Q ⟨F, M, G, L, lr, q⟩ => OkR.here q lr _ .nil
theorem xa_cons (ha : XE X E a fa) (hr : XA X E es (argsE fs)) (hs : starEach (a :: es) X.env = (false, eval a X.env) :: starEach es X.env := by rfl) : XA X E (a :: es) (argsE (fa :: fs)) :=
  paW (pa_cons ha hr hs) fun σ H Q ⟨F, M, G, L, lr, q⟩ => ⟨F, M, G, L, lr, (OkR.seq q).imp fun d G2 H2 _ _ _ lr2 p v hv => ⟨F, M, G2, L, lr2, (OkR.seq p).imp fun ds G3 H3 _ e3 _ lr3 p3 vs hvs => p3.here lr3 _ (.cons (dp_mono e3 _ _ hv) hvs)⟩⟩
theorem line_of {n : Nat} (h : n ≤ 1000000) : n ≤ sizeLine := Nat.le_trans h (by decide)
def tupE (fs : List (Env → R PD)) : Env → R PD := fun L => (argsE fs L).bind fun ds => .ok (.tuple ds)
def lstE (fs : List (Env → R PD)) : Env → R D := fun L => (argsE fs L).bind fun ds => .ok (.own ds)
theorem xe_tup {x1} (h : XA X E es (argsE fs)) (hl : fs.length ≤ 1000000 := by decide) : XE X E (.Tuple es x1 pos) (tupE fs) :=
  peW (pe_tup h) fun σ H Q ⟨F, M, G, L, lr, q⟩ => ⟨F, M, G, L, lr, (OkR.seq q).imp fun ds G2 H2 eq _ _ lr2 p vs hvs => by
    refine ⟨by rw [dpAll_len hvs, argsE_len eq]; exact line_of hl, fun a na => ?_⟩
    obtain ⟨lr3, gg, hh⟩ := lr2.new (o := .tup vs) na
    exact p _ _ gg hh lr3 (.ref a) (.tup upd_same (dpAll_mono gg _ _ hvs))⟩
theorem xf_lst (h : XA X E es (argsE fs)) (hl : fs.length ≤ 1000000 := by decide) : XF X E (.List es pos) (lstE fs) :=
  peW (pe_lst h) fun σ H Q ⟨F, M, G, L, lr, q⟩ => ⟨F, M, G, L, lr, (OkR.seq q).imp fun ds G2 H2 eq _ _ lr2 p vs hvs => by
    refine ⟨by rw [dpAll_len hvs, argsE_len eq]; exact line_of hl, fun a na => ?_⟩
    obtain ⟨lr3, hh, gp, fp, mp⟩ := lr2.newM (o := .lst vs) na
    exact p _ _ (Same.refl _) hh lr3 (.ref a) ⟨a, vs, rfl, gp, fp, mp, upd_same, hvs⟩⟩
end
end
end Px
namespace Px
open PySem L2
noncomputable section
/-- a choice that the kernel does not reckon -/
def cif {α : Type} (c : Prop) (a b : α) : α := @ite α c (Classical.propDecidable c) a b
theorem cif_pos {α : Type} {c : Prop} {a b : α} (h : c) : cif c a b = a := by
  unfold cif
  exact if_pos h
theorem cif_neg {α : Type} {c : Prop} {a b : α} (h : ¬ c) : cif c a b = b := by
  unfold cif
  exact if_neg h
def addP : PD → PD → R PD
  | .int i, .int j => .ok (.int (i + j))
  | .str a, .str b => cif (a.length + b.length ≤ 1000000) (.ok (.str (a ++ b))) .bad
  | _, _ => .bad
def subP : PD → PD → R PD
  | .int i, .int j => .ok (.int (i - j))
  | _, _ => .bad
def mulOk (i j : Int) : Prop := (-(2 ^ 64) < i ∧ i < 2 ^ 64) ∨ (-(2 ^ 64) < j ∧ j < 2 ^ 64)
def mulP : PD → PD → R PD
  | .int i, .int j => cif (mulOk i j) (.ok (.int (i * j))) .bad
  | _, _ => .bad
def divP : PD → PD → R PD
  | .int i, .int j => cif (0 < j ∧ j < 1073741824) (.ok (.int (i / j))) .bad
  | _, _ => .bad
def modP : PD → PD → R PD
  | .int i, .int j => cif (0 < j) (.ok (.int (i % j))) .bad
  | _, _ => .bad
def powP : PD → PD → R PD
  | .int i, .int j => cif (0 ≤ j ∧ j ≤ 1000000 ∧ i.natAbs < 2 ^ 64) (.ok (.int (i ^ j.toNat))) .bad
  | _, _ => .bad
def catP : PD → PD → R D
  | .list a, .list b => cif (a.length + b.length ≤ 1000000) (.ok (.own (a ++ b))) .bad
  | _, _ => .bad
def repP : PD → PD → R D
  | .list a, .int k => cif (0 ≤ k ∧ k ≤ 1000 ∧ a.length ≤ 1000) (.ok (.own (List.replicate k.toNat a).flatten)) .bad
  | _, _ => .bad
def negP : PD → R PD
  | .int i => .ok (.int (-i))
  | _ => .bad
def cmpP (p : Int → Int → Bool) : PD → PD → R Bool
  | .int i, .int j => .ok (p i j)
  | _, _ => .bad
def ltP := cmpP fun i j => decide (i < j)
def leP := cmpP fun i j => decide (i ≤ j)
def gtP := cmpP fun i j => decide (j < i)
def geP := cmpP fun i j => decide (j ≤ i)
def eqP (a b : PD) : R Bool := cif (SeqAt.shaped a = true ∧ SeqAt.shaped b = true) (.ok (PyData.eqv a b)) .bad
def neP (a b : PD) : R Bool := cif (SeqAt.shaped a = true ∧ SeqAt.shaped b = true) (.ok (!PyData.eqv a b)) .bad
def isNon : PD → Bool
  | .none => true
  | _ => false
def isNP : PD → PD → R Bool
  | a, .none => .ok (isNon a)
  | _, _ => .bad
def notNP : PD → PD → R Bool
  | a, .none => .ok (!isNon a)
  | _, _ => .bad
def isBP : PD → PD → R Bool
  | .bool a, .bool b => .ok (decide (a = b))
  | _, _ => .bad
def flatP : PD → Bool
  | .none => true
  | .bool _ => true
  | .int _ => true
  | .str _ => true
  | _ => false
def inP (neg : Bool) : PD → PD → R Bool
  | x, .list ds => cif (SeqAt.shaped x = true ∧ SeqAt.shaped (.list ds) = true) (.ok (if neg = true then !ds.any (fun z => PyData.eqv z x) else ds.any fun z => PyData.eqv z x)) .bad
  | x, .tuple ds => cif (flatP x = true ∧ ds.all flatP = true) (.ok (if neg = true then !ds.any (fun z => PyData.eqv z x) else ds.any fun z => PyData.eqv z x)) .bad
  | .str ⟨⟨[c]⟩⟩, .str z => .ok (if neg = true then !decide (c ∈ z.cps.toList) else decide (c ∈ z.cps.toList))
  | _, _ => .bad
def ofO {α : Type} (f : α → PD) : Option α → R PD
  | some a => .ok (f a)
  | none => .bad
def ixP : PD → PD → R PD
  | .list ds, .int i => ofO id (atI ds i)
  | .tuple ds, .int i => ofO id (atI ds i)
  | .str z, .int i => cif (z.length ≤ 1000000) (ofO (fun c => .str ⟨#[c]⟩) (atI z.cps.toList i)) .bad
  | .dict [(.list ns, .none)], .int i => ofO id (atI ns i)
  | _, _ => .bad
def cutP (ds : List PD) (lo hi : Option Int) : List PD := (ds.drop (HT.sIx ds.length 0 lo)).take (HT.sIx ds.length ds.length hi - HT.sIx ds.length 0 lo)
def lenP : PD → R PD
  | .list ds => .ok (.int ds.length)
  | .tuple ds => .ok (.int ds.length)
  | .str z => cif (z.length ≤ 1000000) (.ok (.int z.length)) .bad
  | .dict [(.list ns, .none)] => .ok (.int ns.length)
  | _ => .bad
def listP : PD → R D
  | .list ds => .ok (.own ds)
  | .tuple ds => .ok (.own ds)
  | _ => .bad
def absP : PD → R PD
  | .int i => .ok (.int (if i < 0 then -i else i))
  | _ => .bad
def intP : PD → R PD
  | .int i => .ok (.int i)
  | .bool k => .ok (.int (if k = true then 1 else 0))
  | .str a => match PySem.intText? a with
    | some n => cif (a.length ≤ 640) (.ok (.int n)) .bad
    | none => .bad
  | _ => .bad
def strP : PD → R PD
  | .int i => cif (i.natAbs.log2 < 1920) (.ok (.str (toString i))) .bad
  | _ => .bad
def tyN : PD → String
  | .none => "NoneType"
  | .bool _ => "bool"
  | .int _ => "int"
  | .str _ => "str"
  | .list _ => "list"
  | .tuple _ => "tuple"
  | .dict _ => ""
def isiQ (T U : String) : R PD := match kitB U T with
  | some b => .ok (.bool b)
  | none => .bad
def isiP (T : String) : PD → R PD
  | .dict _ => .bad
  | d => isiQ T (tyN d)
section
variable {K : PySem.W.Frag} {mg : Str → Option Value} {E : XK} {X : Cx}
theorem ok_ite {F M G H : Hp} {L : Env} {σ : St} {α : Type} {P : α → Hp → Hp → Prop} {c : Prop} {r : R α} (h : OkR K mg E F M G L H σ P (cif c r .bad)) : c ∧ OkR K mg E F M G L H σ P r := by
  by_cases e : c
  · rw [cif_pos e] at h
    exact ⟨e, h⟩
  · rw [cif_neg e] at h
    exact False.elim h
theorem rInt {C : Int → Int → Prop} {g : Int → Int → Int} {gp : PD → PD → R PD} (h0 : ∀ {a b : PD}, (∀ i j, a = .int i → b = .int j → False) → gp a b = .bad)
    (h1 : ∀ {i j : Int} {F M G H : Hp} {L : Env} {σ : St} {P : PD → Hp → Hp → Prop}, OkR K mg E F M G L H σ P (gp (.int i) (.int j)) → C i j ∧ OkR K mg E F M G L H σ P (.ok (.int (g i j)))) :
    R2X K mg E (rI C fun i j => .int (g i j)) gp := fun {F M G H σ L x y dx dy Q} lr hx hy q => by
  by_cases e : ∃ i j, dx = .int i ∧ dy = .int j
  · obtain ⟨i, j, e1, e2⟩ := e
    subst e1
    subst e2
    obtain ⟨hc, q⟩ := h1 q
    exact ⟨i, j, bres_int hx, bres_int hy, hc, OkR.here q lr _ (.int _)⟩
  · rw [h0 fun i j e1 e2 => e ⟨i, j, e1, e2⟩] at q
    exact False.elim q
theorem no_int {g : Int → Int → R PD} {gp : PD → PD → R PD} (h : ∀ a b, gp a b = (match a, b with | .int i, .int j => g i j | _, _ => .bad)) {a b : PD} (k : ∀ i j, a = .int i → b = .int j → False) : gp a b = .bad := by
  rw [h]
  cases a <;> cases b <;> first | rfl | exact (k _ _ rfl rfl).elim
theorem r_sub : R2X K mg E (rI0 fun i j => .int (i - j)) subP := fun {F M G H σ L x y dx dy Q} lr hx hy q => by
  cases dx with
  | int i =>
    cases dy with
    | int j => exact ⟨i, j, bres_int hx, bres_int hy, OkR.here q lr _ (.int _)⟩
    | _ => exact False.elim q
  | _ => exact False.elim (by cases dy <;> exact q)
abbrev rAdd : R2 := fun x y H Q => rI0 (fun i j => .int (i + j)) x y H Q ∨ ∃ i j, x = .str i ∧ y = .str j ∧ i.length + j.length ≤ sizeLine ∧ Q (.str (i ++ j)) H
theorem op_addX : OpR X (binaryOp .Add) rAdd := op_add.or op_add_str
theorem r_add : R2X K mg E rAdd addP := fun {F M G H σ L x y dx dy Q} lr hx hy q => by
  cases dx with
  | int i =>
    cases dy with
    | int j => exact .inl ⟨i, j, bres_int hx, bres_int hy, OkR.here q lr _ (.int _)⟩
    | _ => exact False.elim q
  | str i =>
    cases dy with
    | str j =>
      obtain ⟨h, q⟩ := ok_ite q
      exact .inr ⟨i, j, bres_str hx, bres_str hy, line_of h, OkR.here q lr _ (.str _)⟩
    | _ => exact False.elim q
  | _ => exact False.elim (by cases dy <;> exact q)
theorem r_mul : R2X K mg E (rI CMul fun i j => .int (i * j)) mulP := rInt (fun k => no_int (fun a b => by cases a <;> cases b <;> rfl) k) fun q => by
  obtain ⟨h, q⟩ := ok_ite q
  exact ⟨h, q⟩
theorem r_div : R2X K mg E (rI CDiv fun i j => .int (i / j)) divP := rInt (fun k => no_int (fun a b => by cases a <;> cases b <;> rfl) k) fun {i j F M G H L σ P} q => ok_ite (c := 0 < j ∧ j < 1073741824) q
theorem r_mod : R2X K mg E (rI (fun _ j => 0 < j) fun i j => .int (i % j)) modP := rInt (fun k => no_int (fun a b => by cases a <;> cases b <;> rfl) k) fun {i j F M G H L σ P} q => ok_ite (c := 0 < j) q
theorem r_pow : R2X K mg E (rI CPow fun i j => .int (i ^ j.toNat)) powP := rInt (fun k => no_int (fun a b => by cases a <;> cases b <;> rfl) k) fun {i j F M G H L σ P} q => ok_ite (c := 0 ≤ j ∧ j ≤ 1000000 ∧ i.natAbs < 2 ^ 64) q
theorem r_cat : R2F K mg E rCat catP := fun {F M G H σ L x y dx dy Q} lr hx hy q => by
  cases dx with
  | list a =>
    cases dy with
    | list b =>
      obtain ⟨h, q⟩ := ok_ite q
      obtain ⟨p1, xs, e1, h1, a1⟩ := bres_list lr.g hx
      obtain ⟨p2, ys, e2, h2, a2⟩ := bres_list lr.g hy
      refine ⟨p1, p2, xs, ys, e1, e2, h1, h2, by rw [dpAll_len a1, dpAll_len a2]; exact line_of h, fun p np => ?_⟩
      obtain ⟨lr2, hh, gp, fp, mp⟩ := lr.newM (o := .lst (xs ++ ys)) np
      exact q _ _ (Same.refl _) hh lr2 _ ⟨p, _, rfl, gp, fp, mp, upd_same, dpAll_app a1 a2⟩
    | _ => exact False.elim q
  | _ => exact False.elim (by cases dy <;> exact q)
theorem r_rep : R2F K mg E rRep repP := fun {F M G H σ L x y dx dy Q} lr hx hy q => by
  cases dx with
  | list a =>
    cases dy with
    | int k =>
      obtain ⟨⟨h1, h2, h3⟩, q⟩ := ok_ite q
      obtain ⟨p1, xs, e1, hp, a1⟩ := bres_list lr.g hx
      have hk : k.toNat ≤ 1000 := by omega
      refine ⟨p1, k, xs, e1, bres_int hy, hp, by omega, by omega, ?_, fun p np => ?_⟩
      · rw [dpAll_len a1]
        exact line_of (Nat.le_trans (Nat.mul_le_mul h3 hk) (by decide))
      · obtain ⟨lr2, hh, gp, fp, mp⟩ := lr.newM (o := .lst (List.replicate k.toNat xs).flatten) np
        exact q _ _ (Same.refl _) hh lr2 _ ⟨p, _, rfl, gp, fp, mp, upd_same, dpAll_rep a1 _⟩
    | _ => exact False.elim q
  | _ => exact False.elim (by cases dy <;> exact q)
theorem r_cmp {p : Int → Int → Bool} : R2T K mg E (rI0 fun i j => .bl (p i j)) (cmpP p) := fun {F M G H σ L x y dx dy Q} lr hx hy q => by
  cases dx with
  | int i =>
    cases dy with
    | int j => exact ⟨i, j, bres_int hx, bres_int hy, OkR.here q lr⟩
    | _ => exact False.elim q
  | _ => exact False.elim (by cases dy <;> exact q)
theorem r_eq : R2T K mg E (rEqD K) eqP := fun {F M G H σ L x y dx dy Q} lr hx hy q => by
  obtain ⟨⟨h1, h2⟩, q⟩ := ok_ite q
  exact ⟨dx, dy, dq_dp _ _ h1 (bres_dp lr.g hx), dq_dp _ _ h2 (bres_dp lr.g hy), h1, h2, OkR.here q lr⟩
theorem r_ne : R2T K mg E (rNeD K) neP := fun {F M G H σ L x y dx dy Q} lr hx hy q => by
  obtain ⟨⟨h1, h2⟩, q⟩ := ok_ite q
  exact ⟨dx, dy, dq_dp _ _ h1 (bres_dp lr.g hx), dq_dp _ _ h2 (bres_dp lr.g hy), h1, h2, OkR.here q lr⟩
theorem isNon_of {G H : Hp} {v : V} {d : PD} (h : BRes K G H v d) : decide (v = .non) = isNon d := by
  rcases h with h | ⟨a, xs, ds, e1, e2, _⟩
  · cases h <;> first | rfl | (exact decide_eq_false fun z => by cases z)
  · subst e1
    subst e2
    exact decide_eq_false fun z => by cases z
theorem r_isN : R2T K mg E (fun x y H Q => y = .non ∧ Q (.bl (decide (x = .non))) H) isNP := fun {F M G H σ L x y dx dy Q} lr hx hy q => by
  cases dy with
  | none =>
    refine ⟨bres_non hy, ?_⟩
    rw [isNon_of hx]
    exact OkR.here q lr
  | _ => exact False.elim (by cases dx <;> exact q)
theorem r_notN : R2T K mg E (fun x y H Q => y = .non ∧ Q (.bl (!decide (x = .non))) H) notNP := fun {F M G H σ L x y dx dy Q} lr hx hy q => by
  cases dy with
  | none =>
    refine ⟨bres_non hy, ?_⟩
    rw [isNon_of hx]
    exact OkR.here q lr
  | _ => exact False.elim (by cases dx <;> exact q)
theorem r_isB : R2T K mg E rIsB isBP := fun {F M G H σ L x y dx dy Q} lr hx hy q => by
  cases dx with
  | bool i =>
    cases dy with
    | bool j => exact ⟨i, j, bres_bl hx, bres_bl hy, OkR.here q lr⟩
    | _ => exact False.elim q
  | _ => exact False.elim (by cases dy <;> exact q)
def flV : PD → V
  | .bool b => .bl b
  | .int i => .int i
  | .str z => .str z
  | _ => .non
theorem flat_of {G : Hp} {v : V} {d : PD} (h : Dq K G v d) (f : flatP d = true) : v = flV d := by
  cases h <;> first | rfl | cases f
theorem flatV_of {d : PD} (f : flatP d = true) : flatV (flV d) = true := by
  cases d <;> first | rfl | cases f
theorem eqV_of {a b : PD} (fa : flatP a = true) (fb : flatP b = true) : eqV (flV a) (flV b) = PyData.eqv a b := by
  cases a <;> first | (cases fa; done) | (cases b <;> first | (cases fb; done) | simp [eqV, flV, PyData.eqv])
theorem all_flat {G : Hp} : ∀ {ds : List PD} {vs : List V}, DqAll K G vs ds → ds.all flatP = true → vs = ds.map flV ∧ vs.all flatV = true
  | [], _, h, _ => by cases h; exact ⟨rfl, rfl⟩
  | d :: ds, _, h, f => by
    cases h with
    | cons a b =>
      rw [List.all_cons, Bool.and_eq_true] at f
      obtain ⟨e1, e2⟩ := all_flat b f.2
      rw [flat_of a f.1, e1]
      refine ⟨rfl, ?_⟩
      rw [List.all_cons, flatV_of f.1, ← e1, e2]
      rfl
theorem any_flat {x : PD} (fx : flatP x = true) : ∀ {ds : List PD}, ds.all flatP = true → inV (flV x) (ds.map flV) = ds.any fun z => PyData.eqv z x
  | [], _ => rfl
  | d :: ds, f => by
    rw [List.all_cons, Bool.and_eq_true] at f
    unfold inV
    rw [List.map_cons, List.any_cons, List.any_cons, eqV_of f.1 fx]
    exact congrArg _ (any_flat fx f.2)
abbrev rInX (K : PySem.W.Frag) : R2 := fun x y H Q => rInD K x y H Q ∨ (rIn K false x y H Q ∨ ∃ (c : Nat) (z : Str), x = .str ⟨#[c]⟩ ∧ y = .str z ∧ Q (.bl (decide (c ∈ z.cps.toList))) H)
abbrev rNiX (K : PySem.W.Frag) : R2 := fun x y H Q => rNotInD K x y H Q ∨ (rIn K true x y H Q ∨ ∃ (c : Nat) (z : Str), x = .str ⟨#[c]⟩ ∧ y = .str z ∧ Q (.bl (!decide (c ∈ z.cps.toList))) H)
theorem op_inX (hu : X.A.units + 65 < cLine) : OpR X (compareOp .In) (rInX X.K) := (op_inD hu).or (op_in_seq.or op_in_sign)
theorem op_niX (hu : X.A.units + 65 < cLine) : OpR X (compareOp .NotIn) (rNiX X.K) := (op_notInD hu).or (op_notIn_seq.or op_notIn_sign)
theorem dp_list {G : Hp} {a : Addr} {xs : List V} {ds : List PD} (h : G a = some (.lst xs)) (k : DqAll K G xs ds) : Dq K G (.ref a) (.list ds) := .lst h k
theorem in_str {F M G H : Hp} {L : Env} {σ : St} {P : Bool → Hp → Hp → Prop} {neg : Bool} {dx : PD} {z : Str} (q : OkR K mg E F M G L H σ P (inP neg dx (.str z))) :
    ∃ c, dx = .str ⟨#[c]⟩ ∧ OkR K mg E F M G L H σ P (.ok (if neg = true then !decide (c ∈ z.cps.toList) else decide (c ∈ z.cps.toList))) := by
  unfold inP at q
  split at q
  · rename_i h; cases h
  · rename_i h; cases h
  · rename_i c z' h
    cases h
    exact ⟨c, rfl, q⟩
  · exact False.elim q
theorem r_in : R2T K mg E (rInX K) (inP false) := fun {F M G H σ L x y dx dy Q} lr hx hy q => by
  cases dy with
  | list ds =>
    obtain ⟨⟨h1, h2⟩, q⟩ := ok_ite q
    exact .inl ⟨dx, ds, dq_dp _ _ h1 (bres_dp lr.g hx), dq_dp _ _ h2 (bres_dp lr.g hy), h1, h2, OkR.here q lr⟩
  | tuple ds =>
    obtain ⟨⟨h1, h2⟩, q⟩ := ok_ite q
    obtain ⟨p, xs, e, hp, ha⟩ := bres_tuple lr.g hy
    obtain ⟨e1, e2⟩ := all_flat ha h2
    have ex := flat_of (bres_dp lr.g hx) h1
    refine .inr (.inl ⟨p, xs, e, .inr (SqT.of hp), by rw [ex]; exact flatV_of h1, e2, ?_⟩)
    rw [ex, e1, any_flat h1 h2]
    exact OkR.here q lr
  | str z =>
    obtain ⟨c, e, q⟩ := in_str q
    subst e
    exact .inr (.inr ⟨c, z, bres_str hx, bres_str hy, OkR.here q lr⟩)
  | _ => exact False.elim (by unfold inP at q; split at q <;> first | exact q | (rename_i h; cases h))
theorem r_ni : R2T K mg E (rNiX K) (inP true) := fun {F M G H σ L x y dx dy Q} lr hx hy q => by
  cases dy with
  | list ds =>
    obtain ⟨⟨h1, h2⟩, q⟩ := ok_ite q
    exact .inl ⟨dx, ds, dq_dp _ _ h1 (bres_dp lr.g hx), dq_dp _ _ h2 (bres_dp lr.g hy), h1, h2, OkR.here q lr⟩
  | tuple ds =>
    obtain ⟨⟨h1, h2⟩, q⟩ := ok_ite q
    obtain ⟨p, xs, e, hp, ha⟩ := bres_tuple lr.g hy
    obtain ⟨e1, e2⟩ := all_flat ha h2
    have ex := flat_of (bres_dp lr.g hx) h1
    refine .inr (.inl ⟨p, xs, e, .inr (SqT.of hp), by rw [ex]; exact flatV_of h1, e2, ?_⟩)
    rw [ex, e1, any_flat h1 h2]
    exact OkR.here q lr
  | str z =>
    obtain ⟨c, e, q⟩ := in_str q
    subst e
    exact .inr (.inr ⟨c, z, bres_str hx, bres_str hy, OkR.here q lr⟩)
  | _ => exact False.elim (by unfold inP at q; split at q <;> first | exact q | (rename_i h; cases h))
theorem ofO_ok {F M G H : Hp} {L : Env} {σ : St} {P : PD → Hp → Hp → Prop} {α : Type} {f : α → PD} {o : Option α} (q : OkR K mg E F M G L H σ P (ofO f o)) : ∃ a, o = some a ∧ OkR K mg E F M G L H σ P (.ok (f a)) := by
  cases o with
  | none => exact False.elim q
  | some a => exact ⟨a, rfl, q⟩
theorem at_all {G : Hp} {ds : List PD} {vs : List V} {i : Int} {d : PD} (h : DqAll K G vs ds) (e : atI ds i = some d) : ∃ v, atI vs i = some v ∧ Dq K G v d := by
  unfold atI at e ⊢
  rw [dpAll_len h]
  cases q : ixN ds.length i with
  | none => rw [q] at e; cases e
  | some j =>
    rw [q] at e
    exact dpAll_get h e
theorem at_map {ns : List Int} {i : Int} {d : PD} (e : atI (ns.map PyData.int) i = some d) : ∃ n, d = .int n ∧ atI (ns.map V.int) i = some (.int n) := by
  unfold atI at e ⊢
  rw [List.length_map] at e ⊢
  cases q : ixN ns.length i with
  | none => rw [q] at e; cases e
  | some j =>
    rw [q] at e
    have e : (ns.map PyData.int)[j]? = some d := e
    show ∃ n, d = .int n ∧ (ns.map V.int)[j]? = some (.int n)
    rw [List.getElem?_map] at e ⊢
    cases q2 : ns[j]? with
    | none => rw [q2] at e; cases e
    | some n =>
      rw [q2] at e
      cases e
      exact ⟨n, rfl, rfl⟩
theorem r_ix : R2X K mg E (rIx K) ixP := fun {F M G H σ L x y dx dy Q} lr hx hy q => by
  unfold ixP at q
  split at q
  · rename_i ds i
    obtain ⟨d, e, q⟩ := ofO_ok q
    obtain ⟨p, xs, e1, hp, ha⟩ := bres_list lr.g hx
    obtain ⟨v, hv, hd⟩ := at_all ha e
    exact .inl ⟨p, xs, i, v, e1, bres_int hy, SqL.of hp, hv, OkR.here q lr v hd⟩
  · rename_i ds i
    obtain ⟨d, e, q⟩ := ofO_ok q
    obtain ⟨p, xs, e1, hp, ha⟩ := bres_tuple lr.g hx
    obtain ⟨v, hv, hd⟩ := at_all ha e
    exact .inr (.inl ⟨p, xs, i, v, e1, bres_int hy, SqT.of hp, hv, OkR.here q lr v hd⟩)
  · rename_i z i
    obtain ⟨h, q⟩ := ok_ite q
    obtain ⟨c, e, q⟩ := ofO_ok q
    exact .inr (.inr ⟨z, i, c, bres_str hx, bres_int hy, line_of h, e, OkR.here q lr _ (.str _)⟩)
  · rename_i ms i
    obtain ⟨d, e, q⟩ := ofO_ok q
    rcases hx with hx | ⟨a, xs, es, e1, e2, _⟩
    · cases hx with
      | scr hs =>
        rename_i a ns
        obtain ⟨n, e1, e2⟩ := at_map e
        subst e1
        exact .inl ⟨a, _, i, .int n, rfl, bres_int hy, sqL_mono lr.g hs, e2, OkR.here q lr _ (.int n)⟩
    · cases e2
  · exact False.elim q
theorem r_len : R1X K mg E (fun xs H Q => ∃ x n, xs = [x] ∧ LenV K x H n ∧ Q (.int n) H) lenP := fun {F M G H σ L x dx Q} lr hx q => by
  unfold lenP at q
  split at q
  · obtain ⟨p, xs, e1, hp, ha⟩ := bres_list lr.g hx
    subst e1
    exact ⟨_, xs.length, rfl, .inl ⟨xs, SqL.of hp, rfl⟩, by rw [dpAll_len ha]; exact OkR.here q lr _ (.int _)⟩
  · obtain ⟨p, xs, e1, hp, ha⟩ := bres_tuple lr.g hx
    subst e1
    exact ⟨_, xs.length, rfl, .inr ⟨xs, SqT.of hp, rfl⟩, by rw [dpAll_len ha]; exact OkR.here q lr _ (.int _)⟩
  · rename_i z
    obtain ⟨h, q⟩ := ok_ite q
    rw [bres_str hx]
    exact ⟨_, z.length, rfl, ⟨line_of h, rfl⟩, OkR.here q lr _ (.int _)⟩
  · rcases hx with hx | ⟨a, xs, es, e1, e2, _⟩
    · cases hx with
      | scr hs =>
        rename_i a ns
        refine ⟨_, ns.length, rfl, .inl ⟨_, sqL_mono lr.g hs, by rw [List.length_map]⟩, ?_⟩
        rw [List.length_map] at q
        exact OkR.here q lr _ (.int _)
    · cases e2
  · exact False.elim q
theorem r_list : R1F K mg E (fun xs H Q => ∃ p ys, xs = [.ref p] ∧ (SqL K H p ys ∨ SqT K H p ys) ∧ ∀ l, H l = none → Q (.ref l) (upd H l (.lst ys))) listP := fun {F M G H σ L x dx Q} lr hx q => by
  unfold listP at q
  split at q
  · obtain ⟨p, xs, e1, hp, ha⟩ := bres_list lr.g hx
    subst e1
    refine ⟨p, xs, rfl, .inl (SqL.of hp), fun l nl => ?_⟩
    obtain ⟨lr2, hh, gp, fp, mp⟩ := lr.newM (o := .lst xs) nl
    exact q _ _ (Same.refl _) hh lr2 _ ⟨l, _, rfl, gp, fp, mp, upd_same, ha⟩
  · obtain ⟨p, xs, e1, hp, ha⟩ := bres_tuple lr.g hx
    subst e1
    refine ⟨p, xs, rfl, .inr (SqT.of hp), fun l nl => ?_⟩
    obtain ⟨lr2, hh, gp, fp, mp⟩ := lr.newM (o := .lst xs) nl
    exact q _ _ (Same.refl _) hh lr2 _ ⟨l, _, rfl, gp, fp, mp, upd_same, ha⟩
  · exact False.elim q
theorem r_abs : R1X K mg E (fun xs H Q => ∃ i, xs = [.int i] ∧ Q (.int (if i < 0 then -i else i)) H) absP := fun {F M G H σ L x dx Q} lr hx q => by
  cases dx with
  | int i =>
    rw [bres_int hx]
    exact ⟨i, rfl, OkR.here q lr _ (.int _)⟩
  | _ => exact False.elim q
abbrev rIntX : List V → Hp → VK → Prop := fun xs H Q => ((∃ i, xs = [.int i] ∧ Q (.int i) H) ∨ ∃ k, xs = [.bl k] ∧ Q (.int (if k then 1 else 0)) H) ∨ ∃ a n, xs = [.str a] ∧ PySem.intText? a = some n ∧ a.length ≤ 640 ∧ Q (.int n) H
theorem call_intX : CallR X (.type "int") rIntX := call_int1.or call_int_str
theorem r_int : R1X K mg E rIntX intP := fun {F M G H σ L x dx Q} lr hx q => by
  cases dx with
  | int i =>
    rw [bres_int hx]
    exact .inl (.inl ⟨i, rfl, OkR.here q lr _ (.int _)⟩)
  | bool i =>
    rw [bres_bl hx]
    exact .inl (.inr ⟨i, rfl, OkR.here q lr _ (.int _)⟩)
  | str a =>
    rw [bres_str hx]
    have q' : OkR K mg E F M G L H σ (fun d G2 H2 => ∀ v, Dq K G2 v d → Q v H2) (match PySem.intText? a with
    | some n => cif (a.length ≤ 640) (.ok (.int n)) .bad
    | none => .bad) := q
    cases e : PySem.intText? a with
    | none =>
      rw [e] at q'
      exact False.elim q'
    | some n =>
      rw [e] at q'
      obtain ⟨h, q'⟩ := ok_ite q'
      exact .inr ⟨a, n, rfl, e, h, OkR.here q' lr _ (.int _)⟩
  | _ => exact False.elim q
theorem r_str : R1X K mg E (fun xs H Q => ∃ i, xs = [.int i] ∧ i.natAbs.log2 < 1920 ∧ Q (.str (toString i)) H) strP := fun {F M G H σ L x dx Q} lr hx q => by
  cases dx with
  | int i =>
    rw [bres_int hx]
    obtain ⟨h, q⟩ := ok_ite q
    exact ⟨i, rfl, h, OkR.here q lr _ (.str _)⟩
  | _ => exact False.elim q
theorem ty_of {G H : Hp} {v : V} {d : PD} (g : Same G H) (h : BRes K G H v d) (n : tyN d ≠ "") : TyX K H v (.type (tyN d)) := by
  have k := bres_dp g h
  cases k with
  | non => exact .base .non
  | bl b => exact .base (.bl b)
  | int i => exact .base (.int i)
  | str z => exact .base (.str z)
  | lst q a => exact .base (.lst q)
  | tup q a => exact .base (.tup q)
  | scr q => exact absurd rfl n
end
section
variable {X : Cx} {E : XK} {a b c : Expr} {fa fb : Env → R PD} {pos p : Pos}
theorem xe_neg (ha : XB X E a fa) : XE X E (.UnaryOp .USub a pos) (op1 negP fa) :=
  peW (pe_un un_neg ha) fun σ H Q ⟨F, M, G, L, lr, q⟩ => ⟨F, M, G, L, lr, (OkR.seq q).imp fun d G2 H2 _ _ _ lr2 p v hv => by
    cases d with
    | int i =>
      rw [bres_int hv]
      exact ⟨i, rfl, OkR.here p lr2 _ (.int _)⟩
    | _ => exact False.elim p⟩
theorem xe_ix (ha : XB X E a fa) (hb : XB X E b fb) (hs : PlainIx b := by exact fun _ _ => rfl) : XE X E (.Subscript a b pos) (op2 ixP fa fb) :=
  peW (pe_ix ix_seq ha hb hs) fun σ H Q ⟨F, M, G, L, lr, q⟩ => two lr q fun lr1 _ _ hx hy p => r_ix lr1 hx hy p
/-- f(a), T(a), built in -/
theorem xe_B {x : Str} {id : String} {r : List V → Hp → VK → Prop} {g : PD → R PD} (hc : CallR X (.builtin id) r) (rule : R1X X.K X.mg E r g) (hg : Gl X x) (hm : X.mg x = none) (hv : bootBuiltins x = some (.builtin id)) (ha : XB X E a fa) (hn : x ≠ "__name__" := by decide)
    (hdb : (x == ("__debug__" : Str)) = false := by decide) (hs : starEach [a] X.env = (false, eval a X.env) :: starEach [] X.env := by rfl) (hpl : (backTo pos (starEach [] X.env)).any (·.1) = false := by rfl) : XE X E (.Call (.Name x p) [a] [] pos) (op1 g fa) :=
  peW (pe_callB hc hg hm hv (pa_cons ha pa_nil hs) hn hdb hs hpl) fun σ H Q ⟨F, M, G, L, lr, q⟩ => ⟨F, M, G, L, lr, (OkR.seq q).imp fun d G2 H2 _ _ _ lr2 p v hv => rule lr2 hv p⟩
theorem xe_Ty {x : Str} {T : String} {r : List V → Hp → VK → Prop} {g : PD → R PD} (hc : CallR X (.type T) r) (rule : R1X X.K X.mg E r g) (hg : Gl X x) (hm : X.mg x = none) (hv : bootBuiltins x = some (.type T)) (ha : XB X E a fa) (hn : x ≠ "__name__" := by decide)
    (hdb : (x == ("__debug__" : Str)) = false := by decide) (hs : starEach [a] X.env = (false, eval a X.env) :: starEach [] X.env := by rfl) (hpl : (backTo pos (starEach [] X.env)).any (·.1) = false := by rfl) : XE X E (.Call (.Name x p) [a] [] pos) (op1 g fa) :=
  peW (pe_callTy hc hg hm hv (pa_cons ha pa_nil hs) hn hdb hs hpl) fun σ H Q ⟨F, M, G, L, lr, q⟩ => ⟨F, M, G, L, lr, (OkR.seq q).imp fun d G2 H2 _ _ _ lr2 p v hv => rule lr2 hv p⟩
theorem xf_Ty {x : Str} {T : String} {r : List V → Hp → VK → Prop} {g : PD → R D} (hc : CallR X (.type T) r) (rule : R1F X.K X.mg E r g) (hg : Gl X x) (hm : X.mg x = none) (hv : bootBuiltins x = some (.type T)) (ha : XB X E a fa) (hn : x ≠ "__name__" := by decide)
    (hdb : (x == ("__debug__" : Str)) = false := by decide) (hs : starEach [a] X.env = (false, eval a X.env) :: starEach [] X.env := by rfl) (hpl : (backTo pos (starEach [] X.env)).any (·.1) = false := by rfl) : XF X E (.Call (.Name x p) [a] [] pos) (op1 g fa) :=
  peW (pe_callTy hc hg hm hv (pa_cons ha pa_nil hs) hn hdb hs hpl) fun σ H Q ⟨F, M, G, L, lr, q⟩ => ⟨F, M, G, L, lr, (OkR.seq q).imp fun d G2 H2 _ _ _ lr2 p v hv => rule lr2 hv p⟩
/-- isinstance(a, T), T a built-in class -/
theorem xe_isi {x y : Str} {T : String} {p2 : Pos} (hg : Gl X x) (hm : X.mg x = none) (hv : bootBuiltins x = some (.builtin "isinstance")) (hgy : Gl X y) (hmy : X.mg y = none) (hvy : bootBuiltins y = some (.type T)) (ha : XB X E a fa) (hn : x ≠ "__name__" := by decide)
    (hny : y ≠ "__name__" := by decide) (hdy : (y == ("__debug__" : Str)) = false := by decide) (hdb : (x == ("__debug__" : Str)) = false := by decide)
    (hs : starEach [a, .Name y p2] X.env = (false, eval a X.env) :: starEach [.Name y p2] X.env := by rfl) (hs2 : starEach [.Name y p2] X.env = (false, eval (.Name y p2) X.env) :: starEach [] X.env := by rfl)
    (hpl : (backTo pos (starEach [.Name y p2] X.env)).any (·.1) = false := by rfl) : XE X E (.Call (.Name x p) [a, .Name y p2] [] pos) (op1 (isiP T) fa) :=
  peW (pe_callB call_isi hg hm hv (pa_cons ha (pa_cons (pe_bltn (v := .ty T) hgy hmy hvy rfl hny hdy) pa_nil hs2) hs) hn hdb hs hpl) fun σ H Q ⟨F, M, G, L, lr, q⟩ => ⟨F, M, G, L, lr, (OkR.seq q).imp fun d G2 H2 _ _ _ lr2 p v hv => by
    have n : tyN d ≠ "" ∧ OkR X.K X.mg E F M G2 L H2 σ (fun d G2 H2 => ∀ v, Dq X.K G2 v d → Q v H2) (isiQ T (tyN d)) := by
      cases d with
      | dict _ => exact False.elim p
      | _ => exact ⟨fun z => by simp [tyN] at z, p⟩
    obtain ⟨n, p⟩ := n
    unfold isiQ at p
    cases e : kitB (tyN d) T with
    | none => rw [e] at p; exact False.elim p
    | some k =>
      rw [e] at p
      exact ⟨v, .ty T, _, _, k, rfl, .ty T, ty_of lr2.g hv n, kit_ty e, OkR.here p lr2 _ (.bl k)⟩⟩
/-- parts -/
def partE (f : Env → R PD) : Env → R (Option Int) := fun L => (f L).bind fun d => match d with
  | .int i => .ok (some i)
  | _ => .bad
def noPart : Env → R (Option Int) := fun _ => .ok none
theorem xo_none : XO X E none noPart := poW po_none fun σ H Q ⟨F, M, G, L, lr, q⟩ => OkR.here q lr
theorem xo_some (ha : XB X E a fa) : XO X E (some a) (partE fa) := poW (po_some ha) fun σ H Q ⟨F, M, G, L, lr, q⟩ => ⟨F, M, G, L, lr, (OkR.seq q).imp fun d G2 H2 _ _ _ lr2 p v hv => by
    cases d with
    | int i =>
      rw [bres_int hv]
      exact ⟨i, rfl, OkR.here p lr2⟩
    | _ => exact False.elim p⟩
def sliceL (fa : Env → R PD) (fl fh : Env → R (Option Int)) : Env → R D := fun L => (fa L).bind fun d => (fl L).bind fun lo => (fh L).bind fun hi => match d with
  | .list ds => .ok (.own (cutP ds lo hi))
  | _ => .bad
def sliceS (fa : Env → R PD) (fl fh : Env → R (Option Int)) : Env → R PD := fun L => (fa L).bind fun d => (fl L).bind fun lo => (fh L).bind fun hi => match d with
  | .str z => cif (z.length ≤ 1000000) (.ok (.str (cutS z lo hi))) .bad
  | _ => .bad
variable {lo hi : Option Expr} {fl fh : Env → R (Option Int)} {p2 : Pos}
theorem xf_slice (ha : XB X E a fa) (hl : XO X E lo fl) (hh : XO X E hi fh) : XF X E (.Subscript a (.Slice lo hi none p2) pos) (sliceL fa fl fh) :=
  peW (pe_slice sl_list ha hl hh) fun σ H Q ⟨F, M, G, L, lr, q⟩ => ⟨F, M, G, L, lr, (OkR.seq q).imp fun d G1 H1 _ _ _ lr1 p1 v hv => ⟨F, M, G1, L, lr1, (OkR.seq p1).imp fun l G2 H2 _ e1 e2 lr2 p2 => ⟨F, M, G2, L, lr2, (OkR.seq p2).imp fun u G3 H3 _ e3 e4 lr3 p3 => by
    cases d with
    | list ds =>
      obtain ⟨a, xs, ev, hp, ha⟩ := bres_list lr1.g hv
      refine ⟨a, xs, ev, SqL.of (e4 _ _ (e2 _ _ hp)), fun z nz => ?_⟩
      obtain ⟨lr4, hh, gp, fp, mp⟩ := lr3.newM (o := .lst (cutV xs l u)) nz
      refine p3 _ _ (Same.refl _) hh lr4 _ ⟨z, _, rfl, gp, fp, mp, upd_same, ?_⟩
      unfold cutV cutP
      rw [dpAll_len ha]
      exact dpAll_take _ (dpAll_drop _ (dpAll_mono (e1.trans e3) _ _ ha))
    | _ => exact False.elim p3⟩⟩⟩
theorem xe_sliceS (ha : XB X E a fa) (hl : XO X E lo fl) (hh : XO X E hi fh) : XE X E (.Subscript a (.Slice lo hi none p2) pos) (sliceS fa fl fh) :=
  peW (pe_slice sl_str ha hl hh) fun σ H Q ⟨F, M, G, L, lr, q⟩ => ⟨F, M, G, L, lr, (OkR.seq q).imp fun d G1 H1 _ _ _ lr1 p1 v hv => ⟨F, M, G1, L, lr1, (OkR.seq p1).imp fun l G2 H2 _ e1 e2 lr2 p2 => ⟨F, M, G2, L, lr2, (OkR.seq p2).imp fun u G3 H3 _ e3 e4 lr3 p3 => by
    cases d with
    | str z =>
      obtain ⟨h, p3⟩ := ok_ite p3
      exact ⟨z, bres_str hv, line_of h, OkR.here p3 lr3 _ (.str _)⟩
    | _ => exact False.elim p3⟩⟩⟩
end
end
end Px
namespace Px
open PySem L2
noncomputable section
abbrev noHp : Hp := fun _ => none
def OkC (K : PySem.W.Frag) (mg : Str → Option Value) (E : XK) (F G : Hp) (Q : VK) : R D → Prop
  | .ok d => ∀ v G' H', Same G G' → Same F H' → Same G' H' → (∀ a o, F a = some o → G' a = none) → DRes K F noHp G' H' v d → Q v H'
  | .exc c => ∀ a H', mg c = some (.ref a) → Same F H' → Same G H' → E (.ref a) none H'
  | .bad => False
def spF (K : PySem.W.Frag) (mg : Str → Option Value) (n : Nat) (fc : List PD → R D) : Sp := fun vs H Q E =>
  ∃ F G ds, Same F H ∧ Same G H ∧ (∀ a o, F a = some o → G a = none) ∧ DqAll K G vs ds ∧ ds.length = n ∧ OkC K mg E F G Q (fc ds)
def OkS (K : PySem.W.Frag) (mg : Str → Option Value) (E : XK) (F G : Hp) (D : Ends) : Out → Prop
  | .next L => ∀ σ M G' H', Same G G' → LR K F M G' H' σ L → D.nx σ H'
  | .ret d => ∀ v G' H', Same G G' → Same F H' → Same G' H' → (∀ a o, F a = some o → G' a = none) → DRes K F noHp G' H' v d → D.rt v H'
  | .brk L => ∀ σ M G' H', Same G G' → LR K F M G' H' σ L → D.bk σ H'
  | .ct L => ∀ σ M G' H', Same G G' → LR K F M G' H' σ L → D.ct σ H'
  | .exc c => ∀ a H', mg c = some (.ref a) → Same F H' → Same G H' → E (.ref a) none H'
  | .bad => False
def tS (K : PySem.W.Frag) (mg : Str → Option Value) (E : XK) (g : Env → Out) : TS := fun D σ H => ∃ F M G L, LR K F M G H σ L ∧ OkS K mg E F G D (g L)
abbrev XS (X : Cx) (E : XK) (s : Stmt) (g : Env → Out) : Prop := PS X s (tS X.K X.mg E g)
abbrev XSs (X : Cx) (E : XK) (s : List Stmt) (g : Env → Out) : Prop := PSs X s (tS X.K X.mg E g)
def R.out {α : Type} : R α → (α → Out) → Out
  | .ok a, k => k a
  | .exc c, _ => .exc c
  | .bad, _ => .bad
section
variable {K : PySem.W.Frag} {mg : Str → Option Value} {E : XK} {F M G G2 H H2 : Hp} {L : Env} {σ : St} {D : Ends} {α : Type}
theorem OkS.mono (e : Same G G2) : ∀ {r : Out}, OkS K mg E F G D r → OkS K mg E F G2 D r
  | .next L, h => fun σ M G' H' e1 lr => h σ M G' H' (e.trans e1) lr
  | .ret d, h => fun v G' H' e1 f g fg r => h v G' H' (e.trans e1) f g fg r
  | .brk L, h => fun σ M G' H' e1 lr => h σ M G' H' (e.trans e1) lr
  | .ct L, h => fun σ M G' H' e1 lr => h σ M G' H' (e.trans e1) lr
  | .exc c, h => fun a H' e1 f g => h a H' e1 f (e.trans g)
  | .bad, h => h
theorem OkS.of {k : α → Out} : ∀ {r : R α}, OkS K mg E F G D (r.out k) → OkR K mg E F M G L H σ (fun a G2 H2 => OkS K mg E F G2 D (k a)) r
  | .ok a, h => fun G2 H2 e1 e2 lr => OkS.mono e1 h
  | .exc c, h => fun a H' e1 f g => h a H' e1 f g
  | .bad, h => h
theorem dres_noM {v : V} : ∀ {d : Px.D}, DRes K F M G H v d → DRes K F noHp G H v d
  | .val d, h => h
  | .own ds, ⟨p, xs, a, b, c, _, e, f⟩ => ⟨p, xs, a, b, c, rfl, e, f⟩
  | .dic ds, ⟨p, xs, a, b, c, _, e, f⟩ => ⟨p, xs, a, b, c, rfl, e, f⟩
end
/-- what a body's rules lean on -/
structure Ctx (X : Cx) (E : XK) (k : Nat) : Prop where
  room : Room k X.A
  pass : Passes (L2.CX X.prog X.w) X E
  calm : X.calm = true
  own : PassesOwn (model X.prog X.w) X.A X.env X.xe
def restOf (G H : Hp) : Hp := fun a => if G a = none then H a else none
section
variable {X : Cx} {E : XK} {a b c : Expr} {fa fb : Env → R PD} {pos p : Pos} {es : List Expr}
def callE (fc : List PD → R D) (fs : Env → R (List PD)) : Env → R D := fun L => (fs L).bind fc
theorem xf_call {k j n : Nat} {f : Addr} {fd : FuncData} {ps : List Str} {x : Str} {fc : List PD → R D} {fs : Env → R (List PD)} (C : Ctx X E k) (Fk : FnOk X.prog X.w X.K X.mg X.base (L2.CX X.prog X.w) j f fd ps (spF X.K X.mg n fc)) (hj : j ≤ k) (hn : ∀ ds, ds.length ≠ n → fc ds = .bad)
    (hm : X.mg x = some (.ref f)) (hk : PySem.W.keepIn X.K (.ref f) = true) (hb : Binds X.K fd ps []) (ha : XA X E (a :: es) fs) (hg : Gl X x := by rfl) (hdb : (x == ("__debug__" : Str)) = false := by decide)
    (he : starEach (a :: es) X.env = (false, eval a X.env) :: starEach es X.env := by rfl) (hpl : (backTo pos (starEach es X.env)).any (·.1) = false := by rfl) : XF X E (.Call (.Name x p) (a :: es) [] pos) (callE fc fs) :=
  peW (pe_call Fk (C.room.mono hj) hg hm hk hb .nil C.pass ha hdb he hpl) fun σ H Q ⟨F, M, G, L, lr, q⟩ => ⟨F, M, G, L, lr, (OkR.seq q).imp fun ds G1 H1 _ _ _ lr1 p vs hvs => by
    have hlen : ds.length = n := by
      by_cases e : ds.length = n
      · exact e
      · rw [hn ds e] at p
        exact False.elim p
    show spF X.K X.mg n fc (vs ++ []) H1 Q E
    rw [List.append_nil]
    have fr : ∀ a o, restOf G1 H1 a = some o → G1 a = none := fun a o e => by
      unfold restOf at e
      split at e
      · assumption
      · cases e
    have sf : Same (restOf G1 H1) H1 := fun a o e => by
      unfold restOf at e
      split at e
      · exact e
      · cases e
    have inR : ∀ {a o}, G1 a = none → H1 a = some o → restOf G1 H1 a = some o := fun {a o} e h => by
      unfold restOf
      rw [if_pos e]
      exact h
    refine ⟨restOf G1 H1, G1, ds, sf, lr1.g, fr, hvs, hlen, ?_⟩
    cases e : fc ds with
    | ok d =>
      rw [e] at p
      intro v G' H' g1 f1 g2 fg hv
      have sf' : ∀ {A : Hp}, Same A H1 → (∀ a o, A a = some o → G1 a = none) → Same A H' := fun {A} s d b o h => f1 b o (inR (d b o h) (s b o h))
      have all : Same H1 H' := fun b o h => by
        cases e2 : G1 b with
        | none => exact f1 b o (inR e2 h)
        | some u =>
          have e3 := lr1.g _ _ e2
          rw [h] at e3
          cases e3
          exact g2 _ _ (g1 _ _ e2)
      have lr2 : LR X.K F M G' H' σ L := lr1.mono g1 g2 (sf' lr1.f lr1.fg) (sf' lr1.m lr1.mg) (fun b o h => fg b o (inR (lr1.fg b o h) (lr1.f b o h))) (fun b o h => fg b o (inR (lr1.mg b o h) (lr1.m b o h)))
      have notIn : ∀ {A : Hp} {b : Addr}, Same A H1 → (∀ a o, A a = some o → G1 a = none) → restOf G1 H1 b = none → A b = none := fun {A b} s d h => by
        cases e2 : A b with
        | none => rfl
        | some o =>
          rw [inR (d b o e2) (s b o e2)] at h
          cases h
      refine p G' H' g1 all lr2 v ?_
      cases d with
      | val d => exact hv
      | own es =>
        obtain ⟨z, xs, ev, gp, fp, _, hp, hd⟩ := hv
        exact ⟨z, xs, ev, gp, notIn lr1.f lr1.fg fp, notIn lr1.m lr1.mg fp, hp, hd⟩
      | dic es =>
        obtain ⟨z, xs, ev, gp, fp, _, hp, hd⟩ := hv
        exact ⟨z, xs, ev, gp, notIn lr1.f lr1.fg fp, notIn lr1.m lr1.mg fp, hp, hd⟩
    | exc c =>
      rw [e] at p
      intro b H' hb f1 g1
      exact p b H' hb (fun b o h => f1 b o (inR (lr1.fg b o h) (lr1.f b o h))) g1
    | bad =>
      rw [e] at p
      exact p⟩
end
def seqS (g h : Env → Out) : Env → Out := fun L => match g L with
  | .next L' => h L'
  | .ret d => .ret d
  | .brk L' => .brk L'
  | .ct L' => .ct L'
  | .exc c => .exc c
  | .bad => .bad
def skipS : Env → Out := fun L => .next L
def setS (i : Nat) (f : Env → R D) : Env → Out := fun L => (f L).out fun d => .next (setE L i (some d))
def ifS (t : Env → R Bool) (g h : Env → Out) : Env → Out := fun L => (t L).out fun b => if b = true then g L else h L
def retS (f : Env → R D) : Env → Out := fun L => (f L).out fun d => .ret d
def retV (i : Nat) : Env → Out := fun L => match getE L i with
  | some d => .ret d
  | none => .bad
def retN : Env → Out := fun _ => .ret (.val .none)
def frzS (i : Nat) : Env → Out := fun L => match getE L i with
  | some (.own ds) => .next (setE L i (some (.val (.list ds))))
  | some (.val d) => .next L
  | _ => .bad
def pushS (i : Nat) (f : Env → R PD) : Env → Out := fun L => match getE L i with
  | some (.own ds) => (f L).out fun d => cif (ds.length < 1000000) (.next (setE L i (some (.own (ds ++ [d]))))) .bad
  | _ => .bad
def putS (i : Nat) (fk fv : Env → R PD) : Env → Out := fun L => match getE L i with
  | some (.own ds) => (fv L).out fun d => (fk L).out fun k => match k with
    | .int j => match ixN ds.length j with
      | some m => .next (setE L i (some (.own (ds.set m d))))
      | none => .bad
    | _ => .bad
  | _ => .bad
def raiseS (c : Str) : Env → Out := fun _ => .exc c
/-- for: the target's store, the body, the items -/
def forE (tg : PD → Env → R Env) (g : Env → Out) : List PD → Env → Out
  | [], L => .next L
  | d :: ds, L => (tg d L).out fun L1 => match g L1 with
    | .next L' => forE tg g ds L'
    | .ct L' => forE tg g ds L'
    | .brk L' => .next L'
    | .ret d => .ret d
    | .exc c => .exc c
    | .bad => .bad
def tgN (i : Nat) : PD → Env → R Env := fun d L => .ok (setE L i (some (.val d)))
def tgT (i j : Nat) : PD → Env → R Env := fun d L => match d with
  | .tuple [a, b] => .ok (setE (setE L i (some (.val a))) j (some (.val b)))
  | _ => .bad
def forL (f : Env → R PD) (tg : PD → Env → R Env) (g : Env → Out) : Env → Out := fun L => (f L).out fun d => match d with
  | .list ds => forE tg g ds L
  | _ => .bad
def forT (f : Env → R PD) (tg : PD → Env → R Env) (g : Env → Out) : Env → Out := fun L => (f L).out fun d => match d with
  | .tuple ds => forE tg g ds L
  | _ => .bad
def rng (lo : Int) (n : Nat) : List PD := (List.range n).map fun (i : Nat) => .int (lo + (i : Int))
def rngC (lo c : Int) (n : Nat) : List PD := (List.range n).map fun (i : Nat) => .int (lo + (i : Int) * c)
def small (i : Int) : Prop := -(2 ^ 62) ≤ i ∧ i < 2 ^ 62
def rngP : List PD → R (List PD)
  | [.int j] => cif (small j) (.ok (rng 0 j.toNat)) .bad
  | [.int i, .int j] => cif (small i ∧ small j) (.ok (rng i (j - i).toNat)) .bad
  | [.int i, .int j, .int c] => cif (small i ∧ small j ∧ c = -1) (.ok (rngC i (-1) (i - j).toNat)) .bad
  | _ => .bad
def forR (f : Env → R (List PD)) (tg : PD → Env → R Env) (g : Env → Out) : Env → Out := fun L => ((f L).bind rngP).out fun ds => forE tg g ds L
def signs (z : Str) : List PD := z.cps.toList.map fun c => .str ⟨#[c]⟩
def forStr (f : Env → R PD) (tg : PD → Env → R Env) (g : Env → Out) : Env → Out := fun L => (f L).out fun d => match d with
  | .str z => forE tg g (signs z) L
  | _ => .bad
def whileE (t : Env → R Bool) (g : Env → Out) : Nat → Env → Out
  | 0, _ => .bad
  | n + 1, L => (t L).out fun b => if b = true then (match g L with
    | .next L' => whileE t g n L'
    | .ct L' => whileE t g n L'
    | .brk L' => .next L'
    | .ret d => .ret d
    | .exc c => .exc c
    | .bad => .bad) else .next L
def fuel : Nat := 10000000
def whileS (t : Env → R Bool) (g : Env → Out) : Env → Out := whileE t g fuel
section
variable {X : Cx} {E : XK} {a b c e : Expr} {fa fb : Env → R PD} {pos p : Pos} {st : Stmt} {sts su sv : List Stmt} {g h : Env → Out}
theorem xs_nil : XSs X E [] skipS := pssW pss_nil fun D σ H ⟨F, M, G, L, lr, q⟩ => q σ M G H (Same.refl _) lr
theorem xs_one (h1 : XS X E st g) : XSs X E [st] g := pss_one h1
theorem xs_cons (h1 : XS X E st g) (h2 : XSs X E sts h) : XSs X E (st :: sts) (seqS g h) := pssW (pss_cons h1 h2) fun D σ H ⟨F, M, G, L, lr, q⟩ => ⟨F, M, G, L, lr, by
  unfold seqS at q
  cases e : g L with
  | next L' =>
    rw [e] at q
    exact fun σ' M' G' H' e1 lr' => ⟨F, M', G', L', lr', OkS.mono e1 q⟩
  | _ =>
    rw [e] at q
    exact q⟩
/-- a list of the def's own comes to stay, ahead of a block -/
theorem xs_frz (i : Nat) (h1 : XSs X E sts g) : XSs X E sts (seqS (frzS i) g) := pssW h1 fun D σ H ⟨F, M, G, L, lr, q⟩ => by
  unfold seqS frzS at q
  cases e : getE L i with
  | none => rw [e] at q; exact False.elim q
  | some d =>
    rw [e] at q
    cases d with
    | val d => exact ⟨F, M, G, L, lr, q⟩
    | own ds =>
      obtain ⟨M', G', gg, lr'⟩ := lr.freeze e
      exact ⟨F, M', G', _, lr', OkS.mono gg q⟩
    | dic ds => exact False.elim q
theorem xs_pass : XS X E (.Pass pos) skipS := psW ps_pass fun D σ H ⟨F, M, G, L, lr, q⟩ => q σ M G H (Same.refl _) lr
theorem xs_set {i : Nat} {x : Str} {f : Env → R D} {pos' : Pos} (hN : X.N.Nodup) (he : XF X E e f) (hi : X.N[i]? = some x := by rfl) (hx : Loc X.env.scope x := by first | exact .inl rfl | exact .inr rfl)
    (hs : swapsWith e (some (.Name x pos')) pos.line X.env = pure false := by rfl) (hf : X.fn x = true ∨ X.env.scope.names.lookup x = some .local := by first | exact .inl rfl | exact .inr rfl) : XS X E (.Assign [.Name x pos'] e pos) (setS i f) :=
  psW (ps_set hN hi hx he hs hf) fun D σ H ⟨F, M, G, L, lr, q⟩ => ⟨F, M, G, L, lr, (OkS.of q).imp fun d G2 H2 _ _ _ lr2 p v hv => by
    obtain ⟨M', lr3⟩ := lr2.setD (i := i) hv
    exact p _ _ _ _ (Same.refl _) lr3⟩
theorem xs_if {t : Env → R Bool} (hc : XT X E c t) (ha : XSs X E su g) (hb : XSs X E sv h) : XS X E (.If c su sv pos) (ifS t g h) :=
  psW (ps_if hc ha hb) fun D σ H ⟨F, M, G, L, lr, q⟩ => ⟨F, M, G, L, lr, (OkS.of q).imp fun b G2 H2 _ _ _ lr2 p => by
    cases b with
    | true => exact ⟨F, M, G2, L, lr2, p⟩
    | false => exact ⟨F, M, G2, L, lr2, p⟩⟩
theorem xs_ret {f : Env → R D} (he : XF X E e f) : XS X E (.Return (some e) pos) (retS f) :=
  psW (ps_ret he) fun D σ H ⟨F, M, G, L, lr, q⟩ => ⟨F, M, G, L, lr, (OkS.of q).imp fun d G2 H2 _ _ _ lr2 p v hv => p v G2 H2 (Same.refl _) lr2.f lr2.g lr2.fg (dres_noM hv)⟩
theorem xs_retV (i : Nat) {x : Str} {pos' : Pos} (hN : X.N[i]? = some x := by rfl) (hv : Vis X.env.scope x := by first | exact Or.inl rfl | exact Or.inr (Or.inl rfl) | exact Or.inr (Or.inr rfl)) (hd : (x == ("__debug__" : Str)) = false := by decide)
    (hcd : (x == ("__classdict__" : Str)) = false := by decide) : XS X E (.Return (some (.Name x pos')) pos) (retV i) :=
  psW (ps_ret (pe_var hN hv hd hcd)) fun D σ H ⟨F, M, G, L, lr, q⟩ => by
    unfold retV at q
    cases e : getE L i with
    | none => rw [e] at q; exact False.elim q
    | some d =>
      rw [e] at q
      have s := lr.slot i _ e
      have fp : ∀ {b o}, M b = some o → F b = none := fun {b o} h => by
        cases z : F b with
        | none => rfl
        | some u => rw [lr.fm _ _ z] at h; cases h
      cases d with
      | val d =>
        obtain ⟨v, hs, hv⟩ := s
        exact ⟨v, hs, q v G H (Same.refl _) lr.f lr.g lr.fg hv⟩
      | own ds =>
        obtain ⟨b, xs, hs, hp, ha⟩ := s
        exact ⟨_, hs, q _ G H (Same.refl _) lr.f lr.g lr.fg ⟨b, xs, rfl, lr.mg _ _ hp, fp hp, rfl, lr.m _ _ hp, ha⟩⟩
      | dic ds =>
        obtain ⟨b, xs, hs, hp, ha⟩ := s
        exact ⟨_, hs, q _ G H (Same.refl _) lr.f lr.g lr.fg ⟨b, xs, rfl, lr.mg _ _ hp, fp hp, rfl, lr.m _ _ hp, ha⟩⟩
theorem xs_retN : XS X E (.Return none pos) retN := psW ps_retN fun D σ H ⟨F, M, G, L, lr, q⟩ => q .non G H (Same.refl _) lr.f lr.g lr.fg .non
/-- x.append(e), x the def's own list -/
theorem xs_push (i : Nat) {x : Str} {p1 p2 p3 : Pos} (ha : XE X E a fa) (hN : X.N[i]? = some x := by rfl) (hv : Vis X.env.scope x := by first | exact Or.inl rfl | exact Or.inr (Or.inl rfl) | exact Or.inr (Or.inr rfl)) (hd : (x == ("__debug__" : Str)) = false := by decide)
    (hcd : (x == ("__classdict__" : Str)) = false := by decide) (hs : swapsWith (.Call (.Attribute (.Name x p1) "append" p2) [a] [] p3) none pos.line X.env = pure false := by rfl)
    (hbase : attributeBase (.Name x p1) "append" X.env (eval (.Name x p1) X.env) = eval (.Name x p1) X.env := by rfl)
    (hfew : ((backTo p3 (starEach [a] X.env)).all (fun x => !x.1) && (backToKw p3 (keywordEach [] X.env)).all (fun x => x.1.isSome)
      && decide ([a].length + ([] : List Keyword).length + (if ([] : List Keyword).isEmpty then 0 else 1) < 30)) = true := by rfl)
    (hline : (p2.endLine == p3.line) = true := by rfl) (hst : starEach [a] X.env = (false, eval a X.env) :: starEach [] X.env := by rfl) (hplain : (backTo p3 (starEach [] X.env)).any (·.1) = false := by rfl) :
    XS X E (.Expr (.Call (.Attribute (.Name x p1) "append" p2) [a] [] p3) pos) (pushS i fa) :=
  psW (ps_expr (pe_bm PySem.F.plainAttrs_list PySem.F.slot_list_append PySem.F.type_list_append mt_append (pe_var hN hv hd hcd) (pa_cons ha pa_nil hst) hbase hfew hline hst hplain) hs) fun D σ H ⟨F, M, G, L, lr, q⟩ => by
    unfold pushS at q
    cases e2 : getE L i with
    | none => rw [e2] at q; exact False.elim q
    | some dl =>
      rw [e2] at q
      cases dl with
      | own ds =>
        obtain ⟨l, xs, hs, hp, hall⟩ := lr.slot i _ e2
        refine ⟨_, hs, .inl ⟨rfl, xs, SqL.of (lr.m _ _ hp)⟩, F, M, G, L, lr, (OkS.of q).imp fun d G2 H2 eq e1 e3 lr2 p v hv => ?_⟩
        by_cases hl : ds.length < 1000000
        · rw [cif_pos hl] at p
          have hl' : xs.length < sizeLine := by
            rw [dpAll_len hall]
            exact Nat.lt_of_lt_of_le hl (by decide)
          refine ⟨l, xs, v, rfl, rfl, lr2.m _ _ hp, hl', ?_⟩
          refine p σ _ G2 _ (Same.refl _) (lr2.change e2 rfl rfl hs ⟨_, hp⟩ ⟨l, _, rfl, upd_same, ?_⟩)
          exact dpAll_app (dpAll_mono e1 _ _ hall) (.cons hv .nil)
        · rw [cif_neg hl] at p
          exact False.elim p
      | _ => exact False.elim q
/-- x[k] = e, x the def's own list -/
theorem xs_put (i : Nat) {x : Str} {p1 p2 : Pos} {k : Expr} {fk : Env → R PD} (he : XE X E e fa) (hk : XE X E k fk) (hN : X.N[i]? = some x := by rfl) (hv : Vis X.env.scope x := by first | exact Or.inl rfl | exact Or.inr (Or.inl rfl) | exact Or.inr (Or.inr rfl)) (hd : (x == ("__debug__" : Str)) = false := by decide)
    (hcd : (x == ("__classdict__" : Str)) = false := by decide) (hs : swapsWithSole [.Subscript (.Name x p1) k p2] e pos.line X.env = pure false := by rfl) (hw : swappedStores [.Subscript (.Name x p1) k p2] e X.env = pure none := by rfl)
    (has : ∀ v, assign (.Subscript (.Name x p1) k p2) X.env v = (do let ov ← holding [v] (eval (.Name x p1) X.env); let iv ← holding [v, ov] (eval k X.env); standAt p2; holding [v, ov, iv] (setItem ov iv v); release [v, ov, iv] []) := by intro _; rfl) :
    XS X E (.Assign [.Subscript (.Name x p1) k p2] e pos) (putS i fk fa) :=
  psW (ps_asg he (pg_sub (pe_var hN hv hd hcd) hk set_list has) hs hw) fun D σ H ⟨F, M, G, L, lr, q⟩ => by
    unfold putS at q
    cases e2 : getE L i with
    | none => rw [e2] at q; exact False.elim q
    | some dl =>
      rw [e2] at q
      cases dl with
      | own ds =>
        obtain ⟨l, xs, hs, hp, hall⟩ := lr.slot i _ e2
        refine ⟨F, M, G, L, lr, (OkS.of q).imp fun d G2 H2 eq e1 e3 lr2 p v hv => ⟨_, hs, F, M, G2, L, lr2, (OkS.of p).imp fun kd G3 H3 eq e4 e5 lr3 p3 kv hkv => ?_⟩⟩
        cases kd with
        | int j =>
          dsimp only at p3
          cases kx : ixN ds.length j with
          | none =>
            rw [kx] at p3
            exact False.elim p3
          | some m =>
            rw [kx] at p3
            cases hkv
            refine ⟨l, xs, j, m, rfl, rfl, lr3.m _ _ hp, by rw [dpAll_len hall]; exact kx, ?_⟩
            refine p3 σ _ G3 _ (Same.refl _) (lr3.change e2 rfl rfl hs ⟨_, hp⟩ ⟨l, _, rfl, upd_same, ?_⟩)
            exact dpAll_set (dp_mono e4 _ _ hv) _ (dpAll_mono (e1.trans e4) _ _ hall)
        | _ => exact False.elim p3
      | _ => exact False.elim q
/-- a target's store -/
def TgOk (X : Cx) (gt : TG) (tg : PD → Env → R Env) : Prop := ∀ {F M G H : Hp} {σ : St} {L L1 : Env} {v : V} {d : PD} {Q : St → Hp → Prop}, LR X.K F M G H σ L → Dq X.K G v d → tg d L = .ok L1 →
  (∀ σ1, LR X.K F M G H σ1 L1 → Q σ1 H) → gt v σ H Q
theorem tg_name {i : Nat} : TgOk X (gName i) (tgN i) := fun {F M G H σ L L1 v d Q} lr hv e k => by
  cases e
  exact k _ (lr.setVal hv)
theorem tg_tup {i j : Nat} : TgOk X (gTup X.K 2 (gCons (gName i) (gCons (gName j) gNil))) (tgT i j) := fun {F M G H σ L L1 v d Q} lr hv e k => by
  unfold tgT at e
  split at e
  · rename_i a b
    cases e
    cases hv with
    | tup hp ha =>
      cases ha with
      | cons h1 h2 =>
        cases h2 with
        | cons h2 h3 =>
          cases h3
          exact ⟨_, _, rfl, SqT.of (lr.g _ _ hp), rfl, _, _, rfl, _, _, rfl, rfl, k _ ((lr.setVal h1).setVal h2)⟩
  · cases e
theorem tg_exc {tg : PD → Env → R Env} {d : PD} {L : Env} : (∀ d L, tg d L ≠ .bad → ∃ L1, tg d L = .ok L1) → tg d L = .bad ∨ ∃ L1, tg d L = .ok L1 := fun h => by
  by_cases e : tg d L = .bad
  · exact .inl e
  · exact .inr (h d L e)
def TgNx (tg : PD → Env → R Env) : Prop := ∀ d L c, tg d L ≠ .exc c
theorem nx_name {i : Nat} : TgNx (tgN i) := fun d L c h => by cases h
theorem nx_tup {i j : Nat} : TgNx (tgT i j) := fun d L c h => by
  unfold tgT at h
  split at h <;> cases h
/-- a body's turn within a loop -/
theorem turn {K : PySem.W.Frag} {mg : Str → Option Value} {F G G1 M1 H1 : Hp} {σ1 : St} {L1 : Env} {D : Ends} {N : St → Hp → Prop} {r : Out} {k : Env → Out} (e1 : Same G G1) (lr : LR K F M1 G1 H1 σ1 L1) (q : OkS K mg E F G D r)
    (er : r = (match g L1 with | .next L' => k L' | .ct L' => k L' | .brk L' => .next L' | .ret d => .ret d | .exc c => .exc c | .bad => .bad))
    (hN : ∀ σ' M' G' H' L', Same G1 G' → LR K F M' G' H' σ' L' → r = k L' → N σ' H') : tS K mg E g { D with nx := N, ct := N, bk := D.nx } σ1 H1 := by
  refine ⟨F, M1, G1, L1, lr, ?_⟩
  cases e : g L1 with
  | next L' =>
    rw [e] at er
    exact fun σ' M' G' H' e2 lr' => hN σ' M' G' H' L' e2 lr' er
  | ct L' =>
    rw [e] at er
    exact fun σ' M' G' H' e2 lr' => hN σ' M' G' H' L' e2 lr' er
  | brk L' =>
    rw [e] at er
    rw [er] at q
    exact fun σ' M' G' H' e2 lr' => q σ' M' G' H' (e1.trans e2) lr'
  | ret d =>
    rw [e] at er
    rw [er] at q
    exact OkS.mono e1 q
  | exc c =>
    rw [e] at er
    rw [er] at q
    exact OkS.mono e1 q
  | bad =>
    rw [e] at er
    rw [er] at q
    exact q
theorem drop_cons {α : Type} : ∀ {l : List α} {i : Nat} {d : α}, l[i]? = some d → l.drop i = d :: l.drop (i + 1)
  | [], i, d, h => by simp at h
  | x :: r, 0, d, h => by cases h; rfl
  | x :: r, i + 1, d, h => drop_cons (l := r) h
/-- what the loop has come to -/
def LoopAt (K : PySem.W.Frag) (F G : Hp) (tg : PD → Env → R Env) (g : Env → Out) (ds : List PD) (r : Out) (i : Nat) (σ : St) (H : Hp) : Prop := ∃ M' G' L', Same G G' ∧ LR K F M' G' H σ L' ∧ forE tg g (ds.drop i) L' = r
theorem loop_step {K : PySem.W.Frag} {mg : Str → Option Value} {F G H : Hp} {σ : St} {D : Ends} {r : Out} {gt : TG} {tg : PD → Env → R Env} {ds : List PD} {i : Nat} {v : V} {d : PD} (htg : ∀ {F M G H : Hp} {σ : St} {L L1 : Env} {v : V} {d : PD} {Q : St → Hp → Prop}, LR K F M G H σ L → Dq K G v d → tg d L = .ok L1 →
  (∀ σ1, LR K F M G H σ1 L1 → Q σ1 H) → gt v σ H Q) (hnx : TgNx tg) (q : OkS K mg E F G D r) (hd : ds[i]? = some d) (hv : ∀ G', Same G G' → Dq K G' v d) (p : LoopAt K F G tg g ds r i σ H) :
    gt v σ H fun σ2 H2 => tS K mg E g { D with nx := LoopAt K F G tg g ds r (i + 1), ct := LoopAt K F G tg g ds r (i + 1), bk := D.nx } σ2 H2 := by
  obtain ⟨M', G', L', e1, lr, er⟩ := p
  rw [drop_cons hd] at er
  unfold forE at er
  cases et : tg d L' with
  | ok L1 =>
    rw [et] at er
    refine htg lr (hv G' e1) et fun σ1 lr1 => turn e1 lr1 q er.symm fun σ' M2 G2 H2 L2 e2 lr2 e3 => ⟨M2, G2, L2, e1.trans e2, lr2, e3.symm⟩
  | exc c => exact absurd et (hnx _ _ _)
  | bad =>
    rw [et] at er
    have er : Out.bad = r := er
    rw [← er] at q
    exact False.elim q
theorem loop_end {K : PySem.W.Frag} {mg : Str → Option Value} {F G H : Hp} {σ : St} {D : Ends} {r : Out} {tg : PD → Env → R Env} {ds : List PD} (q : OkS K mg E F G D r) (p : LoopAt K F G tg g ds r ds.length σ H) : D.nx σ H := by
  obtain ⟨M', G', L', e1, lr, er⟩ := p
  rw [List.drop_length] at er
  have er : Out.next L' = r := er
  rw [← er] at q
  exact q σ M' G' H e1 lr
variable {tg : Expr} {gt : TG} {tp : PD → Env → R Env} {body : List Stmt}
theorem xs_forL {k : Nat} (C : Ctx X E k) (ha : XE X E a fa) (hg : PG X tg gt) (ht : TgOk X gt tp) (hnx : TgNx tp) (hb : XSs X E body g) (hs : ∀ x, foldedSetIterable a X.env x = pure x := by intro _; rfl) : XS X E (.For tg a body [] pos) (forL fa tp g) :=
  psW (ps_for C.own C.calm (pi_list ha) hg hb hs) fun D σ H ⟨F, M, G, L, lr, q⟩ => ⟨F, M, G, L, lr, (OkS.of q).imp fun d G1 H1 _ _ _ lr1 p v hv => by
    cases d with
    | list ds =>
      cases hv with
      | lst hp hall =>
        rename_i z xs
        have hlen := dpAll_len hall
        refine ⟨z, rfl, ⟨xs, SqL.of (lr1.g _ _ hp)⟩, for_list (xs := xs) (LoopAt X.K F G1 tp g ds (forE tp g ds L)) ⟨M, G1, L, Same.refl _, lr1, rfl⟩ (fun i σ H _ ⟨_, _, _, e1, lr, _⟩ => SqL.of (lr.g _ _ (e1 _ _ hp))) (fun i x σ H hx pv => ?_) (fun σ H pv => ?_)⟩
        · obtain ⟨d, hd, hdv⟩ := dpAll_get' hall hx
          exact loop_step ht hnx p hd (fun G' e => dp_mono e _ _ hdv) pv
        · rw [hlen] at pv
          exact loop_end p pv
    | _ => exact False.elim p⟩
theorem xs_forT {k : Nat} (C : Ctx X E k) (ha : XE X E a fa) (hg : PG X tg gt) (ht : TgOk X gt tp) (hnx : TgNx tp) (hb : XSs X E body g) (hs : ∀ x, foldedSetIterable a X.env x = pure x := by intro _; rfl) : XS X E (.For tg a body [] pos) (forT fa tp g) :=
  psW (ps_for C.own C.calm (pi_tup ha) hg hb hs) fun D σ H ⟨F, M, G, L, lr, q⟩ => ⟨F, M, G, L, lr, (OkS.of q).imp fun d G1 H1 _ _ _ lr1 p v hv => by
    cases d with
    | tuple ds =>
      cases hv with
      | tup hp hall =>
        rename_i z xs
        have hlen := dpAll_len hall
        refine ⟨z, rfl, ⟨xs, SqT.of (lr1.g _ _ hp)⟩, for_tup (xs := xs) (LoopAt X.K F G1 tp g ds (forE tp g ds L)) ⟨M, G1, L, Same.refl _, lr1, rfl⟩ (fun i σ H _ ⟨_, _, _, e1, lr, _⟩ => SqT.of (lr.g _ _ (e1 _ _ hp))) (fun i x σ H hx pv => ?_) (fun σ H pv => ?_)⟩
        · obtain ⟨d, hd, hdv⟩ := dpAll_get' hall hx
          exact loop_step ht hnx p hd (fun G' e => dp_mono e _ _ hdv) pv
        · rw [hlen] at pv
          exact loop_end p pv
    | _ => exact False.elim p⟩
theorem rng_len (lo : Int) (n : Nat) : (rng lo n).length = n := by unfold rng; rw [List.length_map, List.length_range]
theorem rng_get {lo : Int} {n i : Nat} (h : i < n) : (rng lo n)[i]? = some (.int (lo + (i : Int))) := by
  unfold rng
  rw [List.getElem?_map, List.getElem?_range h]
  rfl
theorem rngC_len (lo c : Int) (n : Nat) : (rngC lo c n).length = n := by unfold rngC; rw [List.length_map, List.length_range]
theorem rngC_get {lo c : Int} {n i : Nat} (h : i < n) : (rngC lo c n)[i]? = some (.int (lo + (i : Int) * c)) := by
  unfold rngC
  rw [List.getElem?_map, List.getElem?_range h]
  rfl
theorem small_of {i : Int} (h : small i) : -(2 ^ 62) ≤ i ∧ i < 2 ^ 62 := h
theorem out_bind {α β : Type} {r : R α} {f : α → R β} {k : β → Out} : (r.bind f).out k = r.out fun a => (f a).out k := by cases r <;> rfl
variable {fs : Env → R (List PD)} {pr : Pos}
theorem rngP1 {K : PySem.W.Frag} {mg : Str → Option Value} {F G : Hp} {D : Ends} {ds : List PD} {k : List PD → Out} (h : OkS K mg E F G D ((rngP ds).out k)) (hl : ds.length = 1) :
    ∃ j, ds = [.int j] ∧ small j ∧ OkS K mg E F G D (k (rng 0 j.toNat)) := by
  unfold rngP at h
  split at h
  · rename_i j
    by_cases sj : small j
    · rw [cif_pos sj] at h
      exact ⟨j, rfl, sj, h⟩
    · rw [cif_neg sj] at h
      exact False.elim h
  · cases hl
  · cases hl
  · exact False.elim h
theorem xs_forR1 {k : Nat} (C : Ctx X E k) (hm : X.mg "range" = none) (ha : XA X E [a] fs) (hg : PG X tg gt) (ht : TgOk X gt tp) (hnx : TgNx tp) (hb : XSs X E body g) (hlen : ∀ {L ds}, fs L = .ok ds → ds.length = 1) (hgr : Gl X "range" := by rfl)
    (hs : starEach [a] X.env = [(false, eval a X.env)] := by rfl) (hfs : ∀ x, foldedSetIterable (.Call (.Name "range" p) [a] [] pr) X.env x = pure x := by intro _; rfl) : XS X E (.For tg (.Call (.Name "range" p) [a] [] pr) body [] pos) (forR fs tp g) :=
  psW (ps_for C.own C.calm (pi_range1 hgr hm ha hs) hg hb hfs) fun D σ H ⟨F, M, G, L, lr, q⟩ => ⟨F, M, G, L, lr, by
    unfold forR at q
    rw [out_bind] at q
    refine (OkS.of q).imp fun ds G1 H1 ed _ _ lr1 p vs hv => ?_
    obtain ⟨j, e, sj, p9⟩ := rngP1 (k := fun ds => forE tp g ds L) p (hlen ed)
    subst e
    cases hv with
    | cons h1 h2 =>
      cases h1
      cases h2
      refine ⟨j, rfl, (small_of sj).1, (small_of sj).2, for_range (LoopAt X.K F G1 tp g (rng 0 j.toNat) (forE tp g (rng 0 j.toNat) L)) ⟨M, G1, L, Same.refl _, lr1, rfl⟩ (fun i σ H hi pv => loop_step ht hnx p9 (rng_get hi) (fun G' e => .int _) pv) (fun σ H pv => loop_end p9 (by rw [rng_len]; exact pv))⟩⟩
theorem rngP2 {K : PySem.W.Frag} {mg : Str → Option Value} {F G : Hp} {D : Ends} {ds : List PD} {k : List PD → Out} (h : OkS K mg E F G D ((rngP ds).out k)) (hl : ds.length = 2) :
    ∃ i j, ds = [.int i, .int j] ∧ small i ∧ small j ∧ OkS K mg E F G D (k (rng i (j - i).toNat)) := by
  unfold rngP at h
  split at h
  · cases hl
  · rename_i i j
    by_cases sj : small i ∧ small j
    · rw [cif_pos sj] at h
      exact ⟨i, j, rfl, sj.1, sj.2, h⟩
    · rw [cif_neg sj] at h
      exact False.elim h
  · cases hl
  · exact False.elim h
theorem rngP3 {K : PySem.W.Frag} {mg : Str → Option Value} {F G : Hp} {D : Ends} {ds : List PD} {k : List PD → Out} (h : OkS K mg E F G D ((rngP ds).out k)) (hl : ds.length = 3) :
    ∃ i j, ds = [.int i, .int j, .int (-1)] ∧ small i ∧ small j ∧ OkS K mg E F G D (k (rngC i (-1) (i - j).toNat)) := by
  unfold rngP at h
  split at h
  · cases hl
  · cases hl
  · rename_i i j c
    by_cases sj : small i ∧ small j ∧ c = -1
    · rw [cif_pos sj] at h
      obtain ⟨s1, s2, s3⟩ := sj
      subst s3
      exact ⟨i, j, rfl, s1, s2, h⟩
    · rw [cif_neg sj] at h
      exact False.elim h
  · exact False.elim h
theorem xs_forR2 {k : Nat} (C : Ctx X E k) (hm : X.mg "range" = none) (ha : XA X E [a, b] fs) (hg : PG X tg gt) (ht : TgOk X gt tp) (hnx : TgNx tp) (hb : XSs X E body g) (hlen : ∀ {L ds}, fs L = .ok ds → ds.length = 2) (hgr : Gl X "range" := by rfl)
    (hs : starEach [a, b] X.env = [(false, eval a X.env), (false, eval b X.env)] := by rfl) (hs2 : starEach [b] X.env = [(false, eval b X.env)] := by rfl) (hfs : ∀ x, foldedSetIterable (.Call (.Name "range" p) [a, b] [] pr) X.env x = pure x := by intro _; rfl) :
    XS X E (.For tg (.Call (.Name "range" p) [a, b] [] pr) body [] pos) (forR fs tp g) :=
  psW (ps_for C.own C.calm (pi_range2 hgr hm ha hs hs2) hg hb hfs) fun D σ H ⟨F, M, G, L, lr, q⟩ => ⟨F, M, G, L, lr, by
    unfold forR at q
    rw [out_bind] at q
    refine (OkS.of q).imp fun ds G1 H1 ed _ _ lr1 p vs hv => ?_
    obtain ⟨i, j, e, si, sj, p9⟩ := rngP2 (k := fun ds => forE tp g ds L) p (hlen ed)
    subst e
    cases hv with
    | cons h1 h2 =>
      cases h1
      cases h2 with
      | cons h2 h3 =>
        cases h2
        cases h3
        refine ⟨i, j, rfl, ⟨(small_of si).1, (small_of si).2, (small_of sj).1, (small_of sj).2⟩, for_range (LoopAt X.K F G1 tp g (rng i (j - i).toNat) (forE tp g (rng i (j - i).toNat) L)) ⟨M, G1, L, Same.refl _, lr1, rfl⟩ (fun i σ H hi pv => loop_step ht hnx p9 (rng_get hi) (fun G' e => .int _) pv) (fun σ H pv => loop_end p9 (by rw [rng_len]; exact pv))⟩⟩
theorem xs_forR3 {k : Nat} (C : Ctx X E k) (hm : X.mg "range" = none) (ha : XA X E [a, b, c] fs) (hg : PG X tg gt) (ht : TgOk X gt tp) (hnx : TgNx tp) (hb : XSs X E body g) (hlen : ∀ {L ds}, fs L = .ok ds → ds.length = 3) (hgr : Gl X "range" := by rfl)
    (hs : starEach [a, b, c] X.env = (false, eval a X.env) :: starEach [b, c] X.env := by rfl) (hpl : (backTo pr (starEach [b, c] X.env)).any (·.1) = false := by rfl)
    (hfs : ∀ x, foldedSetIterable (.Call (.Name "range" p) [a, b, c] [] pr) X.env x = pure x := by intro _; rfl) :
    XS X E (.For tg (.Call (.Name "range" p) [a, b, c] [] pr) body [] pos) (forR fs tp g) :=
  psW (ps_for C.own C.calm (pi_range3 hgr hm ha hs hpl) hg hb hfs) fun D σ H ⟨F, M, G, L, lr, q⟩ => ⟨F, M, G, L, lr, by
    unfold forR at q
    rw [out_bind] at q
    refine (OkS.of q).imp fun ds G1 H1 ed _ _ lr1 p vs hv => ?_
    obtain ⟨i, j, e, si, sj, p9⟩ := rngP3 (k := fun ds => forE tp g ds L) p (hlen ed)
    subst e
    cases hv with
    | cons h1 h2 =>
      cases h1
      cases h2 with
      | cons h2 h3 =>
        cases h2
        cases h3 with
        | cons h3 h4 =>
          cases h3
          cases h4
          refine ⟨i, j, -1, _, rfl, RgC.neg (small_of si).1 (small_of si).2 (small_of sj).1 (small_of sj).2, for_rangeC (LoopAt X.K F G1 tp g (rngC i (-1) (i - j).toNat) (forE tp g (rngC i (-1) (i - j).toNat) L)) ⟨M, G1, L, Same.refl _, lr1, rfl⟩ (fun i σ H hi pv => loop_step ht hnx p9 (rngC_get hi) (fun G' e => .int _) pv) (fun σ H pv => loop_end p9 (by rw [rngC_len]; exact pv))⟩⟩
theorem xs_while {k : Nat} {t : Env → R Bool} (C : Ctx X E k) (ht : XT X E c t) (hb : XSs X E body g) : XS X E (.While c body [] pos) (whileS t g) :=
  psW (ps_while C.own ht hb) fun D σ H ⟨F, M, G, L, lr, q⟩ => by
    have q0 := q
    refine ⟨fun m σ' H' => ∃ M' G' L', Same G G' ∧ LR X.K F M' G' H' σ' L' ∧ whileE t g m L' = whileS t g L, ⟨fuel, M, G, L, Same.refl _, lr, rfl⟩, ?_⟩
    rintro m σ' H' ⟨M', G', L', e1, lr', er⟩
    cases m with
    | zero =>
      have er : Out.bad = whileS t g L := er
      rw [← er] at q
      exact False.elim q
    | succ m =>
      unfold whileE at er
      rw [← er] at q
      refine ⟨F, M', G', L', lr', (OkS.of (OkS.mono e1 q)).imp fun b G2 H2 eb e2 _ lr2 p => ?_⟩
      cases b with
      | true =>
        refine ⟨fun σ3 H3 => ∃ M3 G3 L3, Same G G3 ∧ LR X.K F M3 G3 H3 σ3 L3 ∧ whileE t g m L3 = whileS t g L, fun σ3 H3 h => ⟨m, Nat.lt_succ_self _, h⟩, ?_⟩
        rw [eb] at er
        exact turn (k := whileE t g m) (r := whileS t g L) (e1.trans e2) lr2 q0 er.symm fun σ' M' G' H' L' e3 lr' e4 => ⟨M', G', L', (e1.trans e2).trans e3, lr', e4.symm⟩
      | false => exact p σ' M' G2 H2 (Same.refl _) lr2
end
end
end Px
namespace Px
open PySem L2
noncomputable section
section
variable {K : PySem.W.Frag} {F M G H : Hp} {σ : St} {L : Env}
/-- a new object laid outside of all that is looked at -/
theorem LR.outside (h : LR K F M G H σ L) {p : Addr} {o : HO} (np : H p = none) : LR K (upd F p o) M G (upd H p o) σ L := by
  have gp : G p = none := h.g.free np
  have fp : F p = none := h.f.free np
  have mp : M p = none := h.m.free np
  refine ⟨fun b u e => ?_, same_mut h.m mp, same_mut h.g gp, fun a u e => ?_, fun a u e => ?_, h.mg, h.slot, h.len, h.inj⟩
  · by_cases hb : b = p
    · subst hb
      rw [upd_same] at e ⊢
      exact e
    · rw [upd_ne hb] at e ⊢
      exact h.f _ _ e
  · by_cases hb : a = p
    · subst hb
      exact mp
    · rw [upd_ne hb] at e
      exact h.fm _ _ e
  · by_cases hb : a = p
    · subst hb
      exact gp
    · rw [upd_ne hb] at e
      exact h.fg _ _ e
theorem LR.outsideCh {p : Addr} {o o' : HO} (h : LR K (upd F p o) M G H σ L) : LR K (upd F p o') M G (upd H p o') σ L := by
  have gp : G p = none := h.fg p o upd_same
  have mp : M p = none := h.fm p o upd_same
  refine ⟨fun b u e => ?_, same_mut h.m mp, same_mut h.g gp, fun a u e => ?_, fun a u e => ?_, h.mg, h.slot, h.len, h.inj⟩
  · by_cases hb : b = p
    · subst hb
      rw [upd_same] at e ⊢
      exact e
    · rw [upd_ne hb] at e ⊢
      exact h.f _ _ (by rw [upd_ne hb]; exact e)
  · by_cases hb : a = p
    · subst hb
      exact mp
    · rw [upd_ne hb] at e
      exact h.fm _ _ (by rw [upd_ne hb]; exact e)
  · by_cases hb : a = p
    · subst hb
      exact gp
    · rw [upd_ne hb] at e
      exact h.fg _ _ (by rw [upd_ne hb]; exact e)
end
def R.nx {α : Type} : R α → R α
  | .ok a => .ok a
  | _ => .bad
theorem nx_ok {α : Type} : ∀ {r : R α} {a : α}, r.nx = .ok a → r = .ok a
  | .ok a, b, h => h
  | .exc c, b, h => by cases h
  | .bad, b, h => by cases h
def lcE (j : Nat) (t : Env → R Bool) (f : Env → R PD) : List PD → Env → R (List PD)
  | [], _ => .ok []
  | d :: ds, L => (t (setE L j (some (.val d)))).nx.bind fun b => if b = true then (f (setE L j (some (.val d)))).nx.bind fun y => (lcE j t f ds L).bind fun ys => .ok (y :: ys) else lcE j t f ds L
def yesT : Env → R Bool := fun _ => .ok true
def lcR (j : Nat) (t : Env → R Bool) (f : Env → R PD) (ds : List PD) (L : Env) : R Px.D := cif (ds.length ≤ 1000000) ((lcE j t f ds (setE L j none)).nx.bind fun ys => .ok (.own ys)) .bad
def lcL (j : Nat) (fi : Env → R PD) (t : Env → R Bool) (f : Env → R PD) : Env → R Px.D := fun L => (fi L).bind fun d => match d with
  | .list ds => lcR j t f ds L
  | _ => .bad
def lcRg (j : Nat) (fi : Env → R (List PD)) (t : Env → R Bool) (f : Env → R PD) : Env → R Px.D := fun L => ((fi L).bind rngP).bind fun ds => lcR j t f ds L
section
variable {K : PySem.W.Frag} {mg : Str → Option Value}
theorem bind_ok {α β : Type} {r : R α} {f : α → R β} {b : β} (h : r.bind f = .ok b) : ∃ a, r = .ok a ∧ f a = .ok b := by
  cases r with
  | ok a => exact ⟨a, rfl, h⟩
  | exc c => cases h
  | bad => cases h
/-- what the comprehension has come to -/
def LcAt (K : PySem.W.Frag) (H0 F M G : Hp) (σ : St) (L : Env) (Dl : Addr) (j : Nat) (t : Env → R Bool) (f : Env → R PD) (ds ys : List PD) (i : Nat) (H : Hp) : Prop :=
  ∃ G' acc done rest, (H0 Dl = none ∧ Same H0 H) ∧ Same G G' ∧ LR K (upd F Dl (.lst acc)) M G' H (σ.set j none) (setE L j none) ∧ DqAll K G' acc done ∧ lcE j t f (ds.drop i) (setE L j none) = .ok rest ∧ done ++ rest = ys ∧ done.length ≤ i
theorem lc_step {H0 F M G H : Hp} {σ : St} {L : Env} {Dl : Addr} {j : Nat} {t : Env → R Bool} {f : Env → R PD} {ds ys : List PD} {i : Nat} {x : V} {d : PD} (hd : ds[i]? = some d) (hi : i < 1000000) (hv : ∀ G', Same G G' → Dq K G' x d)
    (p : LcAt K H0 F M G σ L Dl j t f ds ys i H) : wipe ((wipe σ [j]).set j (some x)) [j] = wipe σ [j] ∧ tT K mg E0 t ((wipe σ [j]).set j (some x)) H fun b H3 =>
      if b = true then tX K mg E0 f ((wipe σ [j]).set j (some x)) H3 fun y H4 => ∃ acc, H4 Dl = some (.lst acc) ∧ acc.length < sizeLine ∧ LcAt K H0 F M G σ L Dl j t f ds ys (i + 1) (upd H4 Dl (.lst (acc ++ [y]))) else LcAt K H0 F M G σ L Dl j t f ds ys (i + 1) H3 := by
  obtain ⟨G', acc, done, rest, ⟨n0, s0⟩, e1, lr, ha, er, ey, hlen⟩ := p
  rw [drop_cons hd] at er
  unfold lcE at er
  obtain ⟨b, hb, er⟩ := bind_ok er
  have hb := nx_ok hb
  have lr1 : LR K (upd F Dl (.lst acc)) M G' H ((wipe σ [j]).set j (some x)) (setE (setE L j none) j (some (.val d))) := lr.setVal (hv G' e1)
  have setset : ∀ (L : Env) (j : Nat) (a b : Option Px.D), setE (setE L j a) j b = setE L j b := fun L => by
    induction L with
    | nil => intro j a b; cases j <;> rfl
    | cons x r ih =>
      intro j a b
      cases j with
      | zero => rfl
      | succ j =>
        show x :: setE (setE r j a) j b = x :: setE r j b
        rw [ih]
  have back : ∀ {G2 H2 : Hp} {acc : List V}, LR K (upd F Dl (.lst acc)) M G2 H2 ((wipe σ [j]).set j (some x)) (setE (setE L j none) j (some (.val d))) → LR K (upd F Dl (.lst acc)) M G2 H2 (σ.set j none) (setE L j none) := fun {G2 H2 acc} lr => by
    have q := lr.wipe j none
    rw [setset, setset] at q
    have e : ((wipe σ [j]).set j (some x)).set j none = σ.set j none := by
      show ((σ.set j none).set j (some x)).set j none = σ.set j none
      rw [List.set_set, List.set_set]
    rw [e] at q
    exact q
  refine ⟨?_, upd F Dl (.lst acc), M, G', _, lr1, ?_⟩
  · show ((σ.set j none).set j (some x)).set j none = σ.set j none
    rw [List.set_set, List.set_set]
  rw [hb]
  intro G2 H2 g2 h2 lr2
  cases b with
  | true =>
    rw [if_pos rfl] at er ⊢
    obtain ⟨y, hy, er⟩ := bind_ok er
    have hy := nx_ok hy
    obtain ⟨rest', er', e3⟩ := bind_ok er
    cases e3
    refine ⟨upd F Dl (.lst acc), M, G2, _, lr2, ?_⟩
    rw [hy]
    intro G3 H3 g3 h3 lr3 v hv3
    have hD : H3 Dl = some (.lst acc) := lr3.f _ _ upd_same
    refine ⟨acc, hD, ?_, G3, acc ++ [v], done ++ [y], rest', ⟨n0, same_mut ((s0.trans h2).trans h3) n0⟩, (e1.trans g2).trans g3, (back lr3).outsideCh, dpAll_app (dpAll_mono (g2.trans g3) _ _ ha) (.cons hv3 .nil), er', by rw [List.append_assoc]; exact ey, by rw [List.length_append, List.length_singleton]; omega⟩
    rw [dpAll_len ha]
    exact Nat.lt_of_le_of_lt hlen (Nat.lt_of_lt_of_le hi (by decide))
  | false =>
    rw [if_neg Bool.false_ne_true] at er ⊢
    exact ⟨G2, acc, done, rest, ⟨n0, s0.trans h2⟩, e1.trans g2, back lr2, dpAll_mono g2 _ _ ha, er, ey, by omega⟩
theorem lc_start {F M G H : Hp} {σ : St} {L : Env} {Dl : Addr} {j : Nat} {t : Env → R Bool} {f : Env → R PD} {ds ys : List PD} (lr : LR K F M G H σ L) (nD : H Dl = none) (e : lcE j t f ds (setE L j none) = .ok ys) :
    LcAt K H F M G σ L Dl j t f ds ys 0 (upd H Dl (.lst [])) := ⟨G, [], [], ys, ⟨nD, same_new nD⟩, Same.refl _, (lr.outside nD).wipe j none, .nil, e, rfl, Nat.le_refl _⟩
theorem lc_end {F M G H H0 : Hp} {σ : St} {L : Env} {Dl : Addr} {j : Nat} {t : Env → R Bool} {f : Env → R PD} {ds ys : List PD} {Q : VK} (lr : LR K F M G H0 σ L) (nD : H0 Dl = none)
    (q : OkR K mg E F M G L H0 σ (fun d G2 H2 => ∀ v, DRes K F M G2 H2 v d → Q v H2) (.ok (.own ys))) (p : LcAt K H0 F M G σ L Dl j t f ds ys ds.length H) : Q (.ref Dl) H := by
  obtain ⟨G', acc, done, rest, ⟨_, hs⟩, e1, lr', ha, er, ey, _⟩ := p
  rw [List.drop_length] at er
  have er : R.ok [] = R.ok rest := er
  cases er
  rw [List.append_nil] at ey
  subst ey
  have fD : F Dl = none := lr.f.free nD
  have mD : M Dl = none := lr.m.free nD
  have gD : G' Dl = none := lr'.fg _ _ upd_same
  have hD : H Dl = some (.lst acc) := lr'.f _ _ upd_same
  have sF : Same F (upd F Dl (.lst acc)) := same_new fD
  refine q G' H e1 hs (lr.mono e1 lr'.g (sF.trans lr'.f) lr'.m (fun a o h => lr'.fg a o (sF _ _ h)) (fun a o h => lr'.mg a o h)) _ ⟨Dl, acc, rfl, gD, fD, mD, hD, ha⟩
theorem lcR_ok {F M G H : Hp} {σ : St} {L : Env} {j : Nat} {t : Env → R Bool} {f : Env → R PD} {ds : List PD} {P : Px.D → Hp → Hp → Prop} (q : OkR K mg E F M G L H σ P (lcR j t f ds L)) :
    ds.length ≤ 1000000 ∧ ∃ ys, lcE j t f ds (setE L j none) = .ok ys ∧ OkR K mg E F M G L H σ P (.ok (.own ys)) := by
  obtain ⟨h, q⟩ := ok_ite q
  refine ⟨h, ?_⟩
  cases e : lcE j t f ds (setE L j none) with
  | ok ys =>
    rw [e] at q
    exact ⟨ys, rfl, q⟩
  | exc c =>
    rw [e] at q
    exact False.elim q
  | bad =>
    rw [e] at q
    exact False.elim q
/-- the reading of a comprehension over a list -/
theorem lc_list_ok {σ : St} {H : Hp} {Q : VK} {fi : Env → R PD} {j : Nat} {t : Env → R Bool} {f : Env → R PD} (h : tF K mg E (lcL j fi t f) σ H Q) : tLc (iList K (tX K mg E fi)) (gName j) (tT K mg E0 t) (tX K mg E0 f) [j] σ H Q := by
  obtain ⟨F, M, G, L, lr, q⟩ := h
  refine ⟨F, M, G, L, lr, (OkR.seq q).imp fun d G1 H1 _ _ _ lr1 p v hv => ?_⟩
  cases d with
  | list ds =>
    cases hv with
    | lst hp hall =>
      rename_i z xs
      obtain ⟨hl, ys, ey, p⟩ := lcR_ok p
      have hlen := dpAll_len hall
      refine ⟨z, rfl, ⟨xs, SqL.of (lr1.g _ _ hp)⟩, fun Dl nD => lc_list (xs := xs) (LcAt K H1 F M G1 σ L Dl j t f ds ys) (lc_start lr1 nD ey) (fun i H _ ⟨_, _, _, _, _, e1, lr, _⟩ => SqL.of (lr.g _ _ (e1 _ _ hp))) (fun i x H hx pv => ?_) (fun H pv => ?_)⟩
      · obtain ⟨d, hd, hdv⟩ := dpAll_get' hall hx
        exact lc_step hd (by have := (List.getElem?_eq_some_iff.mp hd).1; omega) (fun G' e => dp_mono e _ _ hdv) pv
      · rw [hlen] at pv
        exact lc_end lr1 nD p pv
  | _ => exact False.elim p
theorem rngP_2 {F M G H : Hp} {σ : St} {L : Env} {ds : List PD} {k : List PD → R Px.D} {P : Px.D → Hp → Hp → Prop} (h : OkR K mg E F M G L H σ P ((rngP ds).bind k)) (hl : ds.length = 2) :
    ∃ i j, ds = [.int i, .int j] ∧ small i ∧ small j ∧ OkR K mg E F M G L H σ P (k (rng i (j - i).toNat)) := by
  unfold rngP at h
  split at h
  · cases hl
  · rename_i i j
    by_cases sj : small i ∧ small j
    · rw [cif_pos sj] at h
      exact ⟨i, j, rfl, sj.1, sj.2, h⟩
    · rw [cif_neg sj] at h
      exact False.elim h
  · cases hl
  · exact False.elim h
theorem bind_bind {α β γ : Type} {r : R α} {f : α → R β} {g : β → R γ} : (r.bind f).bind g = r.bind fun a => (f a).bind g := by cases r <;> rfl
theorem lc_rng_ok {σ : St} {H : Hp} {Q : VK} {fi : Env → R (List PD)} {j : Nat} {t : Env → R Bool} {f : Env → R PD} (hlen : ∀ {L ds}, fi L = .ok ds → ds.length = 2) (h : tF K mg E (lcRg j fi t f) σ H Q) :
    tLc (iRng2 (tA K mg E fi)) (gName j) (tT K mg E0 t) (tX K mg E0 f) [j] σ H Q := by
  obtain ⟨F, M, G, L, lr, q⟩ := h
  unfold lcRg at q
  rw [bind_bind] at q
  refine ⟨F, M, G, L, lr, (OkR.seq q).imp fun ds G1 H1 ed _ _ lr1 p vs hv => ?_⟩
  obtain ⟨a, b, e, sa, sb, p9⟩ := rngP_2 (k := fun ds => lcR j t f ds L) p (hlen ed)
  subst e
  cases hv with
  | cons h1 h2 =>
    cases h1
    cases h2 with
    | cons h2 h3 =>
      cases h2
      cases h3
      obtain ⟨hl, ys, ey, p8⟩ := lcR_ok p9
      rw [rng_len] at hl
      refine ⟨a, b, rfl, ⟨(small_of sa).1, (small_of sa).2, (small_of sb).1, (small_of sb).2⟩, fun Dl nD => lc_range (LcAt K H1 F M G1 σ L Dl j t f (rng a (b - a).toNat) ys) (lc_start lr1 nD ey) (fun i H hi pv => lc_step (rng_get hi) (by omega) (fun G' e => .int _) pv) (fun H pv => lc_end lr1 nD p8 (by rw [rng_len]; exact pv))⟩
end
section
variable {X : Cx} {E : XK} {a b c e elt iter tg : Expr} {fi f : Env → R PD} {t : Env → R Bool} {pos p : Pos} {ifs : List Expr} {scope : Scope} {j : Nat} {x : Str}
/-- the block of a comprehension: what its parts are read in -/
abbrev Blk (X : Cx) (scope : Scope) (P : Cx → Prop) : Prop := ∀ (s : Shared) (H : Hp) (C : Addr) (cl : List (Str × Addr)) (fp : List Addr), P (X.blk s H scope (compEnvC scope cl C X.env) fp)
theorem pts_yes : PTs X [] (tT X.K X.mg E yesT) := ptsW pts_nil fun σ H Q ⟨F, M, G, L, lr, q⟩ => OkR.here q lr
theorem pts_if (h : XT X E c t) : PTs X [c] (tT X.K X.mg E t) := pts_one h
theorem xf_lcL (hc : X.calm = true) (hN : X.N.Nodup) (hi : XE X E iter fi) (ok : BlkOk X.N X.env.scope scope [(x, j)]) (hg : Blk X scope fun Y => PG Y tg (gName j)) (ht : Blk X scope fun Y => PTs Y ifs (tT Y.K Y.mg E0 t)) (he : Blk X scope fun Y => XE Y E0 elt f)
    (hs : ∀ x, foldedSetIterable iter X.env x = pure x := by intro _; rfl) : XF X E (.ListComp elt [⟨tg, iter, ifs, 0⟩] scope pos) (lcL j fi t f) :=
  peW (pe_lc hc hN (pi_list hi) ok hg ht he hs) fun σ H Q h => lc_list_ok h
theorem xs_setLcL {i : Nat} {y : Str} {py : Pos} (hc : X.calm = true) (hN : X.N.Nodup) (hi : XE X E iter fi) (ok : BlkOk X.N X.env.scope scope [(x, j)]) (hg : Blk X scope fun Y => PG Y tg (gName j)) (ht : Blk X scope fun Y => PTs Y ifs (tT Y.K Y.mg E0 t)) (he : Blk X scope fun Y => XE Y E0 elt f)
    (hy : X.N[i]? = some y) (hyl : X.env.scope.names.lookup y = some .local) (hsw : swapsWith (.ListComp elt [⟨tg, iter, ifs, 0⟩] scope p) (some (.Name y py)) pos.line X.env = pure true)
    (hs : ∀ x, foldedSetIterable iter X.env x = pure x := by intro _; rfl) : XS X E (.Assign [.Name y py] (.ListComp elt [⟨tg, iter, ifs, 0⟩] scope p) pos) (setS i (lcL j fi t f)) :=
  psW (ps_setLc hc hN hy hyl hsw (pi_list hi) ok hg ht he hs) fun D σ H ⟨F, M, G, L, lr, q⟩ => lc_list_ok ⟨F, M, G, L, lr, (OkS.of q).imp fun d G2 H2 _ _ _ lr2 p v hv => by
    obtain ⟨M', lr3⟩ := lr2.setD (i := i) hv
    exact p _ _ _ _ (Same.refl _) lr3⟩
variable {fs : Env → R (List PD)} {pr : Pos}
theorem xf_lcR (hc : X.calm = true) (hN : X.N.Nodup) (hm : X.mg "range" = none) (hi : XA X E [a, b] fs) (hlen : ∀ {L ds}, fs L = .ok ds → ds.length = 2) (ok : BlkOk X.N X.env.scope scope [(x, j)]) (hg : Blk X scope fun Y => PG Y tg (gName j)) (ht : Blk X scope fun Y => PTs Y ifs (tT Y.K Y.mg E0 t))
    (he : Blk X scope fun Y => XE Y E0 elt f) (hgr : Gl X "range" := by rfl) (hsr : starEach [a, b] X.env = [(false, eval a X.env), (false, eval b X.env)] := by rfl) (hs2 : starEach [b] X.env = [(false, eval b X.env)] := by rfl)
    (hs : ∀ x, foldedSetIterable (.Call (.Name "range" p) [a, b] [] pr) X.env x = pure x := by intro _; rfl) : XF X E (.ListComp elt [⟨tg, .Call (.Name "range" p) [a, b] [] pr, ifs, 0⟩] scope pos) (lcRg j fs t f) :=
  peW (pe_lc hc hN (pi_range2 hgr hm hi hsr hs2) ok hg ht he hs) fun σ H Q h => lc_rng_ok hlen h
theorem xs_setLcR {i : Nat} {y : Str} {py p3 : Pos} (hc : X.calm = true) (hN : X.N.Nodup) (hm : X.mg "range" = none) (hi : XA X E [a, b] fs) (hlen : ∀ {L ds}, fs L = .ok ds → ds.length = 2) (ok : BlkOk X.N X.env.scope scope [(x, j)]) (hg : Blk X scope fun Y => PG Y tg (gName j)) (ht : Blk X scope fun Y => PTs Y ifs (tT Y.K Y.mg E0 t))
    (he : Blk X scope fun Y => XE Y E0 elt f) (hy : X.N[i]? = some y) (hyl : X.env.scope.names.lookup y = some .local) (hsw : swapsWith (.ListComp elt [⟨tg, .Call (.Name "range" p) [a, b] [] pr, ifs, 0⟩] scope p3) (some (.Name y py)) pos.line X.env = pure true)
    (hgr : Gl X "range" := by rfl) (hsr : starEach [a, b] X.env = [(false, eval a X.env), (false, eval b X.env)] := by rfl) (hs2 : starEach [b] X.env = [(false, eval b X.env)] := by rfl)
    (hs : ∀ x, foldedSetIterable (.Call (.Name "range" p) [a, b] [] pr) X.env x = pure x := by intro _; rfl) : XS X E (.Assign [.Name y py] (.ListComp elt [⟨tg, .Call (.Name "range" p) [a, b] [] pr, ifs, 0⟩] scope p3) pos) (setS i (lcRg j fs t f)) :=
  psW (ps_setLc hc hN hy hyl hsw (pi_range2 hgr hm hi hsr hs2) ok hg ht he hs) fun D σ H ⟨F, M, G, L, lr, q⟩ => lc_rng_ok hlen ⟨F, M, G, L, lr, (OkS.of q).imp fun d G2 H2 _ _ _ lr2 p v hv => by
    obtain ⟨M', lr3⟩ := lr2.setD (i := i) hv
    exact p _ _ _ _ (Same.refl _) lr3⟩
theorem for_its {z : Str} {gt : TG} {tb : TS} {D : Ends} {σ : St} {H : Hp} (Pv : Nat → St → Hp → Prop) (h0 : Pv 0 σ H)
    (hs : ∀ i c σ H, z.cps[i]? = some c → Pv i σ H → gt (.str ⟨#[c]⟩) σ H fun σ2 H2 => tb { D with nx := Pv (i + 1), ct := Pv (i + 1), bk := D.nx } σ2 H2) (hd : ∀ σ H, Pv z.cps.size σ H → D.nx σ H) :
    ∃ W : Nat → Nat → St → Hp → Prop, (∃ m, W 0 m σ H) ∧ ∀ i m σ H, W i m σ H →
      ((Its z).stop i H ∧ D.nx σ H) ∨ ((Its z).go i H ∧ ∃ N : St → Hp → Prop, (∀ σ' H', N σ' H' → ∃ m', m' < m ∧ W (i + 1) m' σ' H') ∧ ∀ x H', (Its z).yld i H x H' → gt x σ H' fun σ2 H2 => tb { D with nx := N, ct := N, bk := D.nx } σ2 H2) := by
  refine ⟨fun i m σ H => m = z.cps.size - i ∧ i ≤ z.cps.size ∧ Pv i σ H, ⟨z.cps.size, by simp, Nat.zero_le _, h0⟩, ?_⟩
  rintro i m σ H ⟨rfl, hi, p⟩
  by_cases hlt : i < z.cps.size
  · refine .inr ⟨hlt, Pv (i + 1), fun σ' H' p' => ⟨z.cps.size - (i + 1), by omega, rfl, hlt, p'⟩, fun x H' y => ?_⟩
    obtain ⟨e, c, hc, ex⟩ := y
    subst e
    subst ex
    exact hs i c σ _ hc p
  · have e : i = z.cps.size := by omega
    subst e
    exact .inl ⟨Nat.le_refl _, hd σ H p⟩
variable {body : List Stmt} {gt : TG} {tp : PD → Env → R Env} {g : Env → Out} {fa : Env → R PD}
theorem signs_len (z : Str) : (signs z).length = z.cps.size := by unfold signs; rw [List.length_map, Array.length_toList]
theorem xs_forS {k : Nat} (C : Ctx X E k) (ha : XE X E a fa) (hg : PG X tg gt) (ht : TgOk X gt tp) (hnx : TgNx tp) (hb : XSs X E body g) (hs : ∀ x, foldedSetIterable a X.env x = pure x := by intro _; rfl) : XS X E (.For tg a body [] pos) (forStr fa tp g) :=
  psW (ps_for C.own C.calm (pi_str ha) hg hb hs) fun D σ H ⟨F, M, G, L, lr, q⟩ => ⟨F, M, G, L, lr, (OkS.of q).imp fun d G1 H1 _ _ _ lr1 p v hv => by
    cases d with
    | str z =>
      cases hv
      refine ⟨z, rfl, for_its (LoopAt X.K F G1 tp g (signs z) (forE tp g (signs z) L)) ⟨M, G1, L, Same.refl _, lr1, rfl⟩ (fun i c σ H hc pv => ?_) (fun σ H pv => ?_)⟩
      · refine loop_step ht hnx p (d := .str ⟨#[c]⟩) ?_ (fun G' e => .str _) pv
        unfold signs
        rw [List.getElem?_map, Array.getElem?_toList, hc]
        rfl
      · rw [← signs_len] at pv
        exact loop_end p pv
    | _ => exact False.elim p⟩
def hasK (ks : List (Int × PD)) (j : Int) : Bool := ks.any fun p => decide (p.1 = j)
def putD (ks : List (Int × PD)) (j : Int) (d : PD) : List (Int × PD) := if hasK ks j = true then ks.map (fun p => if p.1 = j then (p.1, d) else p) else ks ++ [(j, d)]
theorem kv_has {K : PySem.W.Frag} {G : Hp} {j : Int} : ∀ {ks : List (Int × PD)} {kvs : List (Key × V)}, KvOk K G kvs ks → (valV kvs (.inl j)).isSome = hasK ks j
  | _, _, .nil => rfl
  | _, _, .cons r t => by
    rename_i p q kvs ks
    rw [← valV_any]
    have ih := kv_has (j := j) t
    rw [← valV_any] at ih
    unfold hasK at ih ⊢
    rw [List.any_cons, List.any_cons, ih]
    congr 1
    rw [r.1]
    by_cases e : q.1 = j
    · rw [decide_eq_true e, e]
      exact decide_eq_true rfl
    · rw [decide_eq_false e]
      exact decide_eq_false fun z => e (Sum.inl.inj z)
theorem kv_map {K : PySem.W.Frag} {G : Hp} {j : Int} {v : V} {d : PD} (hv : Dq K G v d) : ∀ {ks : List (Int × PD)} {kvs : List (Key × V)}, KvOk K G kvs ks →
    KvOk K G (kvs.map fun kv => if kv.1 = .inl j then (kv.1, v) else kv) (ks.map fun p => if p.1 = j then (p.1, d) else p)
  | _, _, .nil => .nil
  | _, _, .cons r t => by
    rename_i p q kvs ks
    refine .cons ?_ (kv_map hv t)
    by_cases e : q.1 = j
    · have e2 : p.1 = .inl j := by rw [r.1, e]
      dsimp only
      rw [if_pos e, if_pos e2]
      exact ⟨r.1, hv⟩
    · have e2 : ¬ p.1 = .inl j := fun z => e (Sum.inl.inj (r.1.symm.trans z))
      dsimp only
      rw [if_neg e, if_neg e2]
      exact r
theorem kv_app {K : PySem.W.Frag} {G : Hp} {a : Key × V} {b : Int × PD} (h : a.1 = .inl b.1 ∧ Dq K G a.2 b.2) : ∀ {ks : List (Int × PD)} {kvs : List (Key × V)}, KvOk K G kvs ks → KvOk K G (kvs ++ [a]) (ks ++ [b])
  | _, _, .nil => .cons h .nil
  | _, _, .cons r t => .cons r (kv_app h t)
theorem kv_put {K : PySem.W.Frag} {G : Hp} {j : Int} {v : V} {d : PD} (hv : Dq K G v d) {ks : List (Int × PD)} {kvs : List (Key × V)} (h : KvOk K G kvs ks) : KvOk K G (putK kvs (.inl j) v) (putD ks j d) := by
  unfold putK putD
  have e := kv_has (j := j) h
  rw [← valV_any] at e
  rw [e]
  by_cases z : hasK ks j = true
  · rw [if_pos z, if_pos z]
    exact kv_map hv h
  · rw [if_neg z, if_neg z]
    exact kv_app ⟨rfl, hv⟩ h
theorem kv_len {K : PySem.W.Frag} {G : Hp} : ∀ {ks : List (Int × PD)} {kvs : List (Key × V)}, KvOk K G kvs ks → kvs.length = ks.length
  | _, _, .nil => rfl
  | _, _, .cons r t => congrArg (· + 1) (kv_len t)
def mkD1 : PD → PD → R Px.D
  | .int j, v => .ok (.dic [(j, v)])
  | _, _ => .bad
def dic1 (fk fv : Env → R PD) : Env → R Px.D := fun L => (fk L).bind fun k => (fv L).bind fun v => mkD1 k v
def notInD (i : Nat) (fk : Env → R PD) : Env → R Bool := fun L => (fk L).bind fun k => match getE L i, k with
  | some (.dic ks), .int j => .ok (!hasK ks j)
  | _, _ => .bad
def putDS (i : Nat) (fk fv : Env → R PD) : Env → Out := fun L => match getE L i with
  | some (.dic ks) => (fv L).out fun d => (fk L).out fun k => match k with
    | .int j => cif (ks.length < 1000000) (.next (setE L i (some (.dic (putD ks j d))))) .bad
    | _ => .bad
  | _ => .bad
variable {fk fv : Env → R PD} {k : Expr}
theorem xf_dic1 (hk : XE X E a fk) (hv : XE X E b fv) : XF X E (.Dict [some a] [b] pos) (dic1 fk fv) :=
  peW (pe_disp (pps_cons hk hv pps_nil) rfl rfl (fun z => by cases z) (by show 1 ≤ 15; decide)) fun σ H Q ⟨F, M, G, L, lr, q⟩ => fun p np => by
    refine ⟨upd F p (.dK []), M, G, L, lr.outside np, ?_⟩
    have s0 : Same H (upd H p (.dK [])) := same_new np
    have fp : F p = none := lr.f.free np
    have mp : M p = none := lr.m.free np
    have sF : Same F (upd F p (.dK [])) := same_new fp
    unfold dic1 at q
    cases e : fk L with
    | ok d =>
      rw [e] at q
      intro G1 H1 g1 h1 lr1 v hv'
      refine ⟨upd F p (.dK []), M, G1, L, lr1, ?_⟩
      cases e2 : fv L with
      | ok d2 =>
        have q : OkR X.K X.mg E F M G L H σ (fun d G2 H2 => ∀ v, DRes X.K F M G2 H2 v d → Q v H2) ((fv L).bind fun v => mkD1 d v) := q
        rw [e2] at q
        intro G2 H2 g2 h2 lr2 v2 hv2
        have hp : H2 p = some (.dK []) := lr2.f _ _ upd_same
        cases d with
        | int j =>
          cases hv'
          refine ⟨hp, [(.inl j, v2)], rfl, by show 1 ≤ 15; decide, ?_⟩
          have gp : G2 p = none := lr2.fg _ _ upd_same
          have lr3 := lr2.outsideCh (o' := .dK (mergeK [] [(.inl j, v2)]))
          have sF3 : Same F (upd F p (.dK (mergeK [] [(.inl j, v2)]))) := same_new fp
          refine q G2 _ (g1.trans g2) (same_mut ((s0.trans h1).trans h2) np) (lr.mono (g1.trans g2) lr3.g (sF3.trans lr3.f) lr3.m (fun a o h => lr3.fg a o (sF3 _ _ h)) (fun a o h => lr3.mg a o h)) _ ⟨p, _, rfl, gp, fp, mp, upd_same, ?_⟩
          exact .cons ⟨rfl, hv2⟩ .nil
        | _ => exact False.elim q
      | exc c =>
        have q : OkR X.K X.mg E F M G L H σ (fun d G2 H2 => ∀ v, DRes X.K F M G2 H2 v d → Q v H2) ((fv L).bind fun v => mkD1 d v) := q
        rw [e2] at q
        exact fun a H' ha f g => q a H' ha (sF.trans f) (g1.trans g)
      | bad =>
        have q : OkR X.K X.mg E F M G L H σ (fun d G2 H2 => ∀ v, DRes X.K F M G2 H2 v d → Q v H2) ((fv L).bind fun v => mkD1 d v) := q
        rw [e2] at q
        exact q
    | exc c =>
      rw [e] at q
      exact fun a H' ha f g => q a H' ha (sF.trans f) g
    | bad =>
      rw [e] at q
      exact q
theorem xt_notInD {kk : Nat} (C : Ctx X E kk) (i : Nat) {y : Str} {py : Pos} (hk : XE X E a fk) (hN : X.N[i]? = some y := by rfl) (hv : Vis X.env.scope y := by first | exact Or.inl rfl | exact Or.inr (Or.inl rfl) | exact Or.inr (Or.inr rfl)) (hd : (y == ("__debug__" : Str)) = false := by decide)
    (hcd : (y == ("__classdict__" : Str)) = false := by decide) (hb : behindInMarks .NotIn (.Name y py) = false := by rfl) : XT X E (.Compare a [.NotIn] [.Name y py] pos) (notInD i fk) :=
  ptW (pt_cmp (pc_dnotin (hu_of C.room) hk (pe_var hN hv hd hcd)) hb) fun σ H Q ⟨F, M, G, L, lr, q⟩ => ⟨F, M, G, L, lr, (OkR.seq q).imp fun d G2 H2 _ _ _ lr2 p v hv => by
    cases e : getE L i with
    | none => rw [e] at p; exact False.elim p
    | some s =>
      rw [e] at p
      cases s with
      | dic ks =>
        cases d with
        | int j =>
          cases hv
          obtain ⟨z, kvs, hs, hp, hk⟩ := lr2.slot i _ e
          refine ⟨_, hs, z, _, rfl, DGet.k (k := .inl j) (lr2.m _ _ hp), _, rfl, ?_⟩
          rw [kv_has hk]
          exact OkR.here p lr2
        | _ => exact False.elim p
      | _ => exact False.elim (by cases d <;> exact p)⟩
theorem xs_putD {kk : Nat} (C : Ctx X E kk) (i : Nat) {y : Str} {p1 p2 : Pos} (he : XE X E e fv) (hk : XE X E k fk) (hN : X.N[i]? = some y := by rfl) (hv : Vis X.env.scope y := by first | exact Or.inl rfl | exact Or.inr (Or.inl rfl) | exact Or.inr (Or.inr rfl)) (hd : (y == ("__debug__" : Str)) = false := by decide)
    (hcd : (y == ("__classdict__" : Str)) = false := by decide) (hs : swapsWith e (some (.Subscript (.Name y p1) k p2)) pos.line X.env = pure false := by rfl) : XS X E (.Assign [.Subscript (.Name y p1) k p2] e pos) (putDS i fk fv) :=
  psW (ps_dput (hu_of C.room) (pe_var hN hv hd hcd) hk he hs) fun D σ H ⟨F, M, G, L, lr, q⟩ => by
    unfold putDS at q
    cases e2 : getE L i with
    | none => rw [e2] at q; exact False.elim q
    | some dl =>
      rw [e2] at q
      cases dl with
      | dic ks =>
        obtain ⟨l, kvs, hs, hp, hkv⟩ := lr.slot i _ e2
        refine ⟨F, M, G, L, lr, (OkS.of q).imp fun d G2 H2 eq e1 e3 lr2 p v hv => ⟨_, hs, F, M, G2, L, lr2, (OkS.of p).imp fun kd G3 H3 eq e4 e5 lr3 p3 kv hkv' => ?_⟩⟩
        cases kd with
        | int j =>
          dsimp only at p3
          by_cases hl : ks.length < 1000000
          · rw [cif_pos hl] at p3
            cases hkv'
            refine ⟨l, _, rfl, DPut.k (k := .inl j) (lr3.m _ _ hp) (by rw [kv_len hkv]; exact Nat.lt_of_lt_of_le hl (by decide)), ?_⟩
            refine p3 σ _ G3 _ (Same.refl _) (lr3.change e2 rfl rfl hs ⟨_, hp⟩ ⟨l, _, rfl, upd_same, ?_⟩)
            exact kv_put (dp_mono e4 _ _ hv) (kv_mono (e1.trans e4) hkv)
          · rw [cif_neg hl] at p3
            exact False.elim p3
        | _ => exact False.elim p3
      | _ => exact False.elim q
theorem xs_raise {cn : Str} {Ca : Addr} (hc : X.calm = true) (tk : Takes X (fun cls d _ H => E cls d H)) (mk : PMk X e (fun _ H Q => Q (.ref Ca) none H)) (gC : X.mg cn = some (.ref Ca)) : XS X E (.Raise (some e) none pos) (raiseS cn) :=
  psW (ps_raise hc tk mk) fun D σ H ⟨F, M, G, L, lr, q⟩ => q Ca H gC lr.f lr.g
def finish : Out → R Px.D
  | .next _ => .ok (.val .none)
  | .ret d => .ok d
  | .exc c => .exc c
  | _ => .bad
def envOf (n : Nat) (ds : List PD) : Env := ds.map (fun d => some (.val d)) ++ List.replicate (n - ds.length) none
/-- a def's own function: n slots, m parameters -/
def fnE (n m : Nat) (g : Env → Out) (ds : List PD) : R Px.D := if ds.length = m then finish (g (envOf n ds)) else .bad
theorem fnE_len {n m : Nat} {g : Env → Out} (ds : List PD) (h : ds.length ≠ m) : fnE n m g ds = .bad := if_neg h
theorem slot_start {K : PySem.W.Frag} {G : Hp} {n : Nat} : ∀ {ds : List PD} {vs : List V} {i : Nat} {d : Px.D}, DqAll K G vs ds → getE (ds.map (fun d => some (.val d)) ++ List.replicate n none) i = some d → SlotOk K noHp G (vs.map some ++ List.replicate n none)[i]? d
  | [], _, i, d, h, e => by
    have no : ∀ (n i : Nat), getE (List.replicate n none) i = (none : Option Px.D) := fun n => by
      induction n with
      | zero => intro i; cases i <;> rfl
      | succ n ih =>
        intro i
        cases i with
        | zero => rfl
        | succ i => exact ih i
    have e : getE (List.replicate n none) i = some d := e
    rw [no] at e
    cases e
  | x :: ds, _, 0, d, h, e => by
    cases h with
    | cons a b =>
      have e : some (Px.D.val x) = some d := e
      cases e
      exact ⟨_, rfl, a⟩
  | x :: ds, _, i + 1, d, h, e => by
    cases h with
    | cons a b => exact slot_start (ds := ds) (i := i) b e
theorem own_start {n : Nat} : ∀ {ds : List PD} {i : Nat} {d : Px.D}, getE (ds.map (fun d => some (.val d)) ++ List.replicate n none) i = some d → d.isMut = false
  | [], i, d, e => by
    have no : ∀ (n i : Nat), getE (List.replicate n none) i = (none : Option Px.D) := fun n => by
      induction n with
      | zero => intro i; cases i <;> rfl
      | succ n ih =>
        intro i
        cases i with
        | zero => rfl
        | succ i => exact ih i
    have e : getE (List.replicate n none) i = some d := e
    rw [no] at e
    cases e
  | x :: ds, 0, d, e => by
    have e : some (Px.D.val x) = some d := e
    cases e
    rfl
  | x :: ds, i + 1, d, e => own_start (ds := ds) (i := i) e
section
variable {P : Program} {w : World} {K : PySem.W.Frag} {mg : Str → Option Value} {base : Heap}
theorem fn_ok {y qual : Str} {st : Stmt} {fa : Addr} {fd : FuncData} {N ps : List Str} {k : Nat} {g : Env → Out} (Fn : Fun K y qual st fa fd) (S : FnScope N ps (defScope st))
    (hbody : ∀ (cdv : Value) (A : Around) (outer : List PySem.Env) (s : Shared) (H : Hp) (E : XK), Ctx (cxOf (L2.CX P w) P w K mg base N qual (defScope st) fa cdv A outer s H E) E k →
      Takes (cxOf (L2.CX P w) P w K mg base N qual (defScope st) fa cdv A outer s H E) (fun cls d _ H => E cls d H) → XSs (cxOf (L2.CX P w) P w K mg base N qual (defScope st) fa cdv A outer s H E) E (defBody st) g) :
    FnOk P w K mg base (L2.CX P w) (k + 1) fa fd ps (spF K mg ps.length (fnE N.length ps.length g)) := by
  refine Fn.okX S (fun vs H Q E h => ?_) (fun cdv A outer s H vs Q E hr h => ?_)
  · obtain ⟨F, G, ds, _, _, _, hd, hl, _⟩ := h
    rw [dpAll_len hd, hl]
  · have tk : Takes (cxOf (L2.CX P w) P w K mg base N qual (defScope st) fa cdv A outer s H E) (fun cls d _ H => E cls d H) := takes_of rfl rfl rfl rfl
    refine ⟨_, hbody cdv A outer s H E ⟨hr, passes_call tk fun _ _ _ _ h => h, rfl, passes_of rfl⟩ tk, ?_⟩
    obtain ⟨F, G, ds, f, g', fg, hd, hl, q⟩ := h
    have hN : vs.length = ds.length := dpAll_len hd
    unfold fnE at q
    rw [if_pos hl] at q
    refine ⟨F, noHp, G, envOf N.length ds, ⟨f, same_none, g', fun _ _ _ => rfl, fg, (fun _ _ h => by cases h), fun i d e => ?_, ?_, fun i j a di dj e1 e2 m1 => ?_⟩, ?_⟩
    · unfold L2.start
      rw [hN]
      exact slot_start hd e
    · unfold L2.start envOf
      rw [List.length_append, List.length_append, List.length_map, List.length_map, List.length_replicate, List.length_replicate, hN]
    · rw [own_start e1] at m1
      cases m1
    · cases e : g (envOf N.length ds) with
      | next L => 
        rw [e] at q
        exact fun σ M G' H' e1 lr => q .non G' H' e1 lr.f lr.g lr.fg .non
      | ret d =>
        rw [e] at q
        exact fun v G' H' e1 f1 g1 fg1 r => q v G' H' e1 f1 g1 fg1 r
      | exc c =>
        rw [e] at q
        exact q
      | brk L => rw [e] at q; exact False.elim q
      | ct L => rw [e] at q; exact False.elim q
      | bad => rw [e] at q; exact False.elim q
end
end
end
end Px
namespace Px
open PySem L2
noncomputable section
theorem hu65 {A : Around} {k : Nat} (hr : Room k A) : A.units + 65 < cLine := by
  have := hr.un
  omega
/-- a def stands there -/
structure Has (K : PySem.W.Frag) (mg : Str → Option Value) (nm : Str) (st : Stmt) (ps : List Str) : Prop where
  ex : ∃ (a : Addr) (fd : FuncData), Fun K nm nm st a fd ∧ mg nm = some (.ref a) ∧ ∀ us : List Value, us.length = ps.length → bindArgs fd ⟨us, []⟩ = pure (ps.zip us)
/-- a def keeps its contract -/
structure Fct (P : Program) (w : World) (K : PySem.W.Frag) (mg : Str → Option Value) (base : Heap) (nm : Str) (ps : List Str) (k : Nat) (fc : List PD → R D) : Prop where
  ex : ∃ (a : Addr) (fd : FuncData), mg nm = some (.ref a) ∧ PySem.W.keepIn K (.ref a) = true ∧ Binds K fd ps [] ∧ FnOk P w K mg base (L2.CX P w) k a fd ps (spF K mg ps.length fc)
/-- the built-in names stand for themselves -/
structure Blt (mg : Str → Option Value) : Prop where
  len : mg "len" = none
  range : mg "range" = none
  list : mg "list" = none
  isinstance : mg "isinstance" = none
  int : mg "int" = none
  str : mg "str" = none
  bool : mg "bool" = none
  tuple : mg "tuple" = none
  abs : mg "abs" = none
section
variable {P : Program} {w : World} {K : PySem.W.Frag} {mg : Str → Option Value} {base : Heap}
theorem has_of {h : Heap} {nm : Str} {st : Stmt} {ps : List Str} (b : ∀ (kV doc pm : Value) (an : Option Addr) (cdv ct : Value) (us : List Value), us.length = ps.length → bindArgs (PySem.W.fnOf nm nm (defArgs st) (defBody st) (defScope st) .none kV doc pm an cdv ct) ⟨us, []⟩ = pure (ps.zip us))
    (X : K.In h) (G : h.Ns mainGlobals mg) {f : Addr} {oc : Value} {od an : Option Addr} {osl : Array (Option Value)} {kV doc pm cdv ct : Value} (a : PySem.W.nsIn K mainGlobals nm = some (some (.ref f)))
    (l : K.lookup f = some ⟨oc, od, .func (PySem.W.fnOf nm nm (defArgs st) (defBody st) (defScope st) .none kV doc pm an cdv ct), osl⟩) (c : PySem.W.codeIn K cdv nm = true) (k : PySem.W.keepIn K (.ref f) = true) : Has K mg nm st ps :=
  ⟨f, _, fun_mk l c k, PySem.W.mg_of X G a, b kV doc pm an cdv ct⟩
theorem fct_ok {nm : Str} {st : Stmt} {N ps : List Str} {k n m : Nat} {g : Env → Out} {f : List PD → R D} (hf : f = fnE n m g) (hN : N.length = n) (hm : ps.length = m) (Hs : Has K mg nm st ps) (S : FnScope N ps (defScope st))
    (hbody : ∀ (fa : Addr) (cdv : Value) (A : Around) (outer : List PySem.Env) (s : Shared) (H : Hp) (E : XK), Ctx (cxOf (L2.CX P w) P w K mg base N nm (defScope st) fa cdv A outer s H E) E k →
      Takes (cxOf (L2.CX P w) P w K mg base N nm (defScope st) fa cdv A outer s H E) (fun cls d _ H => E cls d H) → XSs (cxOf (L2.CX P w) P w K mg base N nm (defScope st) fa cdv A outer s H E) E (defBody st) g) :
    Fct P w K mg base nm ps (k + 1) f := by
  subst hf
  subst hN
  subst hm
  obtain ⟨a, fd, Fn, hm, hb⟩ := Hs.ex
  exact ⟨a, fd, hm, Fn.kp, .all hb, fn_ok Fn S fun cdv A outer s H E C tk => hbody a cdv A outer s H E C tk⟩
theorem xf_callF {X : Cx} {E : XK} {k j : Nat} {ps : List Str} {x : Str} {a : Expr} {es : List Expr} {pos p : Pos} {fc : List PD → R D} {fs : Env → R (List PD)} (C : Ctx X E k) (Fc : Fct X.prog X.w X.K X.mg X.base x ps j fc) (hj : j ≤ k) (hn : ∀ ds, ds.length ≠ ps.length → fc ds = .bad)
    (ha : XA X E (a :: es) fs) (hg : Gl X x := by rfl) (hdb : (x == ("__debug__" : Str)) = false := by decide)
    (he : starEach (a :: es) X.env = (false, eval a X.env) :: starEach es X.env := by rfl) (hpl : (backTo pos (starEach es X.env)).any (·.1) = false := by rfl) : XF X E (.Call (.Name x p) (a :: es) [] pos) (callE fc fs) := by
  obtain ⟨f, fd, hm, hk, hb, Fk⟩ := Fc.ex
  exact xf_call C Fk hj hn hm hk hb ha hg hdb he hpl
section
variable (K : PySem.W.Frag) (mg : Str → Option Value) (E : XK)
def tAB (f : Env → R (List PD)) : TA := fun σ H Q => ∃ F M G L, LR K F M G H σ L ∧ OkR K mg E F M G L H σ (fun ds G2 H2 => ∀ vs, DqAll K H2 vs ds → Q vs H2) (f L)
end
abbrev XAB (X : Cx) (E : XK) (e : List Expr) (f : Env → R (List PD)) : Prop := PA X e (tAB X.K X.mg E f)
section
variable {X : Cx} {E : XK} {a : Expr} {es : List Expr} {fa : Env → R PD} {fs : List (Env → R PD)}
theorem xab_nil : XAB X E [] (argsE []) := paW pa_nil fun σ H Q ⟨F, M, G, L, lr, q⟩ => OkR.here q lr _ .nil
theorem xab_cons (ha : XB X E a fa) (hr : XAB X E es (argsE fs)) (hs : starEach (a :: es) X.env = (false, eval a X.env) :: starEach es X.env := by rfl) : XAB X E (a :: es) (argsE (fa :: fs)) :=
  paW (pa_cons ha hr hs) fun σ H Q ⟨F, M, G, L, lr, q⟩ => ⟨F, M, G, L, lr, (OkR.seq q).imp fun d G2 H2 _ _ _ lr2 p v hv => ⟨F, M, G2, L, lr2, (OkR.seq p).imp fun ds G3 H3 _ e3 e4 lr3 p3 vs hvs => p3.here lr3 _ (.cons (dp_mono e4 _ _ (bres_dp lr2.g hv)) hvs)⟩⟩
end
def plainD : D → R PD
  | .val d => cif (flatP d = true) (.ok d) .bad
  | _ => .bad
def callS (fc : List PD → R D) (fs : Env → R (List PD)) : Env → R PD := fun L => (fs L).bind fun ds => (fc ds).bind plainD
theorem flat_any {G G' : Hp} {v : V} {d : PD} (f : flatP d = true) (h : Dq K G v d) : Dq K G' v d := by
  cases h <;> first | exact .non | exact .bl _ | exact .int _ | exact .str _ | cases f
theorem xe_callS {X : Cx} {E : XK} {k j : Nat} {ps : List Str} {x : Str} {a : Expr} {es : List Expr} {pos p : Pos} {fc : List PD → R D} {fs : Env → R (List PD)} (C : Ctx X E k) (Fc : Fct X.prog X.w X.K X.mg X.base x ps j fc) (hj : j ≤ k) (hn : ∀ ds, ds.length ≠ ps.length → fc ds = .bad)
    (ha : XAB X E (a :: es) fs) (hg : Gl X x := by rfl) (hdb : (x == ("__debug__" : Str)) = false := by decide)
    (he : starEach (a :: es) X.env = (false, eval a X.env) :: starEach es X.env := by rfl) (hpl : (backTo pos (starEach es X.env)).any (·.1) = false := by rfl) : XE X E (.Call (.Name x p) (a :: es) [] pos) (callS fc fs) := by
  obtain ⟨f, fd, hm, hk, hb, Fk⟩ := Fc.ex
  refine peW (pe_call Fk (C.room.mono hj) hg hm hk hb .nil C.pass ha hdb he hpl) fun σ H Q ⟨F, M, G, L, lr, q⟩ => ⟨F, M, G, L, lr, (OkR.seq q).imp fun ds G1 H1 _ _ _ lr1 p vs hvs => ?_⟩
  have hlen : ds.length = ps.length := by
    by_cases e : ds.length = ps.length
    · exact e
    · rw [hn ds e] at p
      exact False.elim p
  show spF X.K X.mg ps.length fc (vs ++ []) H1 Q E
  rw [List.append_nil]
  refine ⟨noHp, H1, ds, same_none, Same.refl _, (fun _ _ e => by cases e), hvs, hlen, ?_⟩
  cases e : fc ds with
  | ok d =>
    rw [e] at p
    intro v G' H' g1 _ g2 _ hv
    cases d with
    | val d =>
      obtain ⟨hf, p⟩ := ok_ite p
      have s : Same H1 H' := g1.trans g2
      exact p G1 H' (Same.refl _) s (lr1.mono (Same.refl _) (lr1.g.trans s) (lr1.f.trans s) (lr1.m.trans s) lr1.fg lr1.mg) v (flat_any hf hv)
    | _ => exact False.elim p
  | exc c =>
    rw [e] at p
    exact fun b H' hb _ g => p b H' hb (lr1.f.trans g) (lr1.g.trans g)
  | bad =>
    rw [e] at p
    exact p
/-- an argument list's length -/
theorem argsE1 {f : Env → R PD} : ∀ {L ds}, argsE [f] L = .ok ds → ds.length = 1 := fun h => argsE_len h
theorem argsE2 {f g : Env → R PD} : ∀ {L ds}, argsE [f, g] L = .ok ds → ds.length = 2 := fun h => argsE_len h
theorem argsE3 {f g h : Env → R PD} : ∀ {L ds}, argsE [f, g, h] L = .ok ds → ds.length = 3 := fun h => argsE_len h
/-- within a comprehension's block -/
theorem Ctx.blk {X : Cx} {E : XK} {k : Nat} (C : Ctx X E k) (s : Shared) (H : Hp) (scope : Scope) (env : PySem.Env) (fp : List Addr) : Ctx (X.blk s H scope env fp) E0 k := ⟨C.room, passL, C.calm, PassesOwn.never⟩
def spLaw (K : PySem.W.Frag) : Sp := fun vs H Q _ => ∃ (a : Addr) (ns : List Int), vs = [.ref a] ∧ SqL K H a (ns.map V.int) ∧ ns.length ≤ 63 ∧ ∀ H', Q (.bl true) H'
theorem law_of {a : Addr} {fd : FuncData} {k : Nat} {f : List PD → R D} (h : ∀ ns : List Int, ns.length ≤ 63 → f [scr ns] = .ok (.val (.bool true))) {x : Str} (F : FnOk P w K mg base (L2.CX P w) k a fd [x] (spF K mg 1 f)) : FnOk P w K mg base (L2.CX P w) k a fd [x] (spLaw K) :=
  F.imp fun vs H Q E ⟨a, ns, ev, hS, hl, q⟩ => by
    subst ev
    refine ⟨noHp, H, [scr ns], same_none, Same.refl H, (fun _ _ e => by cases e), .cons (.scr hS) .nil, rfl, ?_⟩
    rw [h ns hl]
    intro v G' H' _ _ _ _ hv
    cases hv
    exact q H'
theorem law_fn {st : Stmt} {N : List Str} {k n : Nat} {g : Env → Out} {f : List PD → R D} {a : Addr} {fd : FuncData} (hf : f = fnE n 1 g) (hN : N.length = n) (Fn : Fun K "law" "law" st a fd) (S : FnScope N ["script"] (defScope st)) (h : ∀ ns : List Int, ns.length ≤ 63 → f [scr ns] = .ok (.val (.bool true)))
    (hbody : ∀ (fa : Addr) (cdv : Value) (A : Around) (outer : List PySem.Env) (s : Shared) (H : Hp) (E : XK), Ctx (cxOf (L2.CX P w) P w K mg base N "law" (defScope st) fa cdv A outer s H E) E k →
      Takes (cxOf (L2.CX P w) P w K mg base N "law" (defScope st) fa cdv A outer s H E) (fun cls d _ H => E cls d H) → XSs (cxOf (L2.CX P w) P w K mg base N "law" (defScope st) fa cdv A outer s H E) E (defBody st) g) :
    FnOk P w K mg base (L2.CX P w) (k + 1) a fd ["script"] (spLaw K) := by
  subst hf
  subst hN
  exact law_of h (fn_ok Fn S fun cdv A outer s H E C tk => hbody a cdv A outer s H E C tk)
theorem cx_no {P : Program} {w : World} {H : Hp} {s s' : Shared} {e : Value} (h : L2.CX P w [] H s (fun _ _ _ => False) e s') : False := by
  obtain ⟨_, _, _, _, _, _, _, _, _, _, _, _, z⟩ := h
  exact z
/-- the law's row, from what the top has left -/
theorem law_walk {l : PySem.W.OpenLaw} {k : Nat} {q : Program} {loose : List Str} {XP : (Str → Option Value) → Heap → Prop} {YP : World → Heap → Prop} {d : DefRec} {K : Params → PySem.W.Frag} {st : Stmt} (hn : l.most = some 63) (hdf : d.params.defaults = []) (hr : Room k callerA) (hnm : d.name = "law")
    (hY : ∀ (w : World) (h : Heap), YP w h → (K w.params).In h)
    (F : ∀ (w : World) (mg : Str → Option Value) (h : Heap), (K w.params).In h → h.Ns mainGlobals mg → Has (K w.params) mg "law" st ["script"] ∧ ∀ (a : Addr) (fd : FuncData), Fun (K w.params) "law" "law" st a fd → ∀ base : Heap, FnOk l.prog w (K w.params) mg base (L2.CX l.prog w) k a fd ["script"] (spLaw (K w.params))) :
    PySem.W.WalkO q loose XP YP l.row.toRowW d [] (fun f vs => PySem.call f vs) :=
  L2.walk_of (n := 63) (k := k) (x := "script") (CX := fun w => L2.CX l.prog w) (sp := fun w => spLaw (K w.params)) hn (by decide) hdf hr hY (fun w mg fa h KX G hmg => by
    obtain ⟨Hl, ok⟩ := F w mg h KX G
    obtain ⟨a, fd, Fn, hm, hb⟩ := Hl.ex
    rw [hnm, hm] at hmg
    cases hmg
    exact ⟨fd, fun s u => .of_eq (hb [u] rfl), fun base _ _ => ok _ fd Fn base⟩)
    (fun w H a ns hl _ hS => ⟨a, ns, rfl, hS, hl, fun _ => rfl⟩) fun w H s e s' h => cx_no h
end
end
end Px
namespace Px
open PySem L2
noncomputable section
def onStr {α : Type} (g : Str → PD → R α) (fa fb : Env → R PD) : Env → R α := fun L => (fa L).bind fun x => match x with
  | .str z => (fb L).bind (g z)
  | _ => .bad
def splitP (a : Str) : PD → R D
  | .str b => cif ((b.length == 0) = false ∧ a.length ≤ 1000000) (.ok (.own ((Txt.split a b).map PyData.str))) .bad
  | _ => .bad
def strsOf : List PD → Option (List Str)
  | [] => some []
  | .str a :: ds => (strsOf ds).map fun r => a :: r
  | _ :: _ => none
def joinP (a : Str) : PD → R PD
  | .list ds => match strsOf ds with
    | some ys => cif ((ys.map (·.length)).sum + ys.length * a.length ≤ 1000000) (.ok (.str (Txt.join a ys))) .bad
    | none => .bad
  | _ => .bad
theorem dq_strs {K : PySem.W.Frag} {G : Hp} : ∀ (ys : List Str), DqAll K G (ys.map V.str) (ys.map PyData.str)
  | [] => .nil
  | y :: ys => .cons (.str y) (dq_strs ys)
theorem strs_dq {K : PySem.W.Frag} {G : Hp} : ∀ {ds : List PD} {vs : List V} {ys : List Str}, DqAll K G vs ds → strsOf ds = some ys → vs = ys.map V.str
  | [], _, ys, h, e => by
    cases h
    cases e
    rfl
  | d :: ds, _, ys, h, e => by
    cases h with
    | cons a b =>
      cases d with
      | str z =>
        cases a
        have e : (strsOf ds).map (fun r => z :: r) = some ys := e
        cases e2 : strsOf ds with
        | none =>
          rw [e2] at e
          cases e
        | some r =>
          rw [e2] at e
          cases e
          rw [strs_dq b e2]
          rfl
      | _ => cases e
section
variable {X : Cx} {E : XK} {a b : Expr} {fa fb : Env → R PD} {pos p : Pos}
theorem xf_split {apos pos : Pos} (ha : XB X E a fa) (hb : XB X E b fb) (hs : starEach [b] X.env = [(false, eval b X.env)] := by rfl) (hbase : attributeBase a "split" X.env (eval a X.env) = eval a X.env := by rfl) (hline : (apos.endLine == pos.line) = true := by rfl) :
    XF X E (.Call (.Attribute a "split" apos) [b] [] pos) (onStr splitP fa fb) :=
  peW (pe_split ha hb hs hbase hline) fun σ H Q ⟨F, M, G, L, lr, q⟩ => ⟨F, M, G, L, lr, (OkR.seq q).imp fun d G1 H1 _ _ _ lr1 p1 v hv => by
    cases d with
    | str z =>
      rw [bres_str hv]
      refine ⟨⟨z, rfl⟩, F, M, G1, L, lr1, (OkR.seq p1).imp fun d2 G2 H2 _ e1 e2 lr2 p2 v2 hv2 => ?_⟩
      cases d2 with
      | str y =>
        rw [bres_str hv2]
        obtain ⟨⟨h1, h2⟩, p2⟩ := ok_ite p2
        refine ⟨z, y, rfl, rfl, h1, Nat.le_trans (Nat.add_le_add_right h2 2) (by decide), fun w nw => ?_⟩
        obtain ⟨lr3, hh, gp, fp, mp⟩ := lr2.newM (o := .lst ((Txt.split z y).map V.str)) nw
        exact p2 _ _ (Same.refl _) hh lr3 _ ⟨w, _, rfl, gp, fp, mp, upd_same, dq_strs _⟩
      | _ => exact False.elim p2
    | _ => exact False.elim p1⟩
theorem xe_join {apos pos : Pos} (ha : XB X E a fa) (hb : XB X E b fb) (hs : starEach [b] X.env = [(false, eval b X.env)] := by rfl) (hbase : attributeBase a "join" X.env (eval a X.env) = eval a X.env := by rfl) (hline : (apos.endLine == pos.line) = true := by rfl) :
    XE X E (.Call (.Attribute a "join" apos) [b] [] pos) (onStr joinP fa fb) :=
  peW (pe_join ha hb hs hbase hline) fun σ H Q ⟨F, M, G, L, lr, q⟩ => ⟨F, M, G, L, lr, (OkR.seq q).imp fun d G1 H1 _ _ _ lr1 p1 v hv => by
    cases d with
    | str z =>
      rw [bres_str hv]
      refine ⟨⟨z, rfl⟩, F, M, G1, L, lr1, (OkR.seq p1).imp fun d2 G2 H2 _ e1 e2 lr2 p2 v2 hv2 => ?_⟩
      cases d2 with
      | list ds =>
        have p2 : OkR X.K X.mg E F M G2 L H2 σ (fun d G2 H2 => ∀ v, Dq X.K G2 v d → Q v H2) (match strsOf ds with
          | some ys => cif ((ys.map (·.length)).sum + ys.length * z.length ≤ 1000000) (.ok (.str (Txt.join z ys))) .bad
          | none => .bad) := p2
        cases e : strsOf ds with
        | none =>
          rw [e] at p2
          exact False.elim p2
        | some ys =>
          rw [e] at p2
          obtain ⟨h, p2⟩ := ok_ite p2
          obtain ⟨w, xs, ev, hp, hall⟩ := bres_list lr2.g hv2
          have ex := strs_dq hall e
          subst ex
          exact ⟨z, w, ys, rfl, by rw [ev], .inl (SqL.of hp), Nat.le_trans h (by decide), OkR.here p2 lr2 _ (.str _)⟩
      | _ => exact False.elim p2
    | _ => exact False.elim p1⟩
end
end
end Px
namespace Px
open PySem L2
noncomputable section
def asNone : Px.D → R Bool
  | .val d => .ok (isNon d)
  | .own _ => .ok false
  | .dic _ => .bad
def callN (fc : List PD → R Px.D) (fs : Env → R (List PD)) : Env → R Bool := fun L => (fs L).bind fun ds => (fc ds).bind asNone
/-- f(..) is None: the arguments may be looked at, for the answer is let go -/
theorem xt_callN {X : Cx} {E : XK} {k j : Nat} {ps : List Str} {x : Str} {a : Expr} {es : List Expr} {pos p p2 p3 : Pos} {u : Nat} {fc : List PD → R Px.D} {fs : Env → R (List PD)} (C : Ctx X E k) (Fc : Fct X.prog X.w X.K X.mg X.base x ps j fc) (hj : j ≤ k) (hn : ∀ ds, ds.length ≠ ps.length → fc ds = .bad)
    (ha : XAB X E (a :: es) fs) (hg : Gl X x := by rfl) (hdb : (x == ("__debug__" : Str)) = false := by decide)
    (he : starEach (a :: es) X.env = (false, eval a X.env) :: starEach es X.env := by rfl) (hpl : (backTo pos (starEach es X.env)).any (·.1) = false := by rfl) :
    XT X E (.Compare (.Call (.Name x p) (a :: es) [] pos) [.Is] [.Constant .none u p2] p3) (callN fc fs) := by
  obtain ⟨f, fd, hm, hk, hb, Fk⟩ := Fc.ex
  refine ptW (pt_cmpR op_isN (pe_call Fk (C.room.mono hj) hg hm hk hb .nil C.pass ha hdb he hpl) pe_non (nomark _)) fun σ H Q ⟨F, M, G, L, lr, q⟩ => ⟨F, M, G, L, lr, (OkR.seq q).imp fun ds G1 H1 _ _ _ lr1 p vs hvs => ?_⟩
  have hlen : ds.length = ps.length := by
    by_cases e : ds.length = ps.length
    · exact e
    · rw [hn ds e] at p
      exact False.elim p
  show spF X.K X.mg ps.length fc (vs ++ []) H1 _ E
  rw [List.append_nil]
  refine ⟨noHp, H1, ds, same_none, Same.refl _, (fun _ _ e => by cases e), hvs, hlen, ?_⟩
  cases e : fc ds with
  | ok d =>
    rw [e] at p
    intro v G' H' g1 _ g2 _ hv
    have s : Same H1 H' := g1.trans g2
    have lr2 : LR X.K F M G1 H' σ L := lr1.mono (Same.refl _) (lr1.g.trans s) (lr1.f.trans s) (lr1.m.trans s) lr1.fg lr1.mg
    cases d with
    | val d =>
      have e2 : decide (v = .non) = isNon d := isNon_of (G := G') (H := H') (.inl hv)
      have p2 := p G1 H' (Same.refl _) s lr2
      exact ⟨rfl, _, rfl, by rw [e2]; exact p2⟩
    | own es2 =>
      obtain ⟨z, xs, ev, _⟩ := hv
      have p2 := p G1 H' (Same.refl _) s lr2
      exact ⟨rfl, _, rfl, by rw [ev]; exact p2⟩
    | dic es2 => exact False.elim p
  | exc c =>
    rw [e] at p
    exact fun b H' hb _ g => p b H' hb (lr1.f.trans g) (lr1.g.trans g)
  | bad =>
    rw [e] at p
    exact p
/-- x = y, y's own list, y forgotten -/
def mvS (i j : Nat) : Env → Out := fun L => match getE L j with
  | some (.own ds) => .next (setE (setE L j none) i (some (.own ds)))
  | _ => .bad
theorem LR.move {K : PySem.W.Frag} {F M G H : Hp} {σ : St} {L : Env} (h : LR K F M G H σ L) {i j : Nat} (ij : i ≠ j) {v : V} {ds : List PD} (e : getE L j = some (.own ds)) (hs : σ[j]? = some (some v)) : LR K F M G H (σ.set i (some v)) (setE (setE L j none) i (some (.own ds))) := by
  obtain ⟨p, xs, hs2, hp, ha⟩ := h.slot j _ e
  rw [hs] at hs2
  cases hs2
  have low : ∀ {k d}, k ≠ i → getE (setE (setE L j none) i (some (.own ds))) k = some d → k ≠ j ∧ getE L k = some d := fun {k d} hk z => by
    rw [getE_set_ne _ _ _ _ hk] at z
    by_cases hj : k = j
    · subst hj
      rw [getE_set_none] at z
      cases z
    · rw [getE_set_ne _ _ _ _ hj] at z
      exact ⟨hj, z⟩
  refine ⟨h.f, h.m, h.g, h.fm, h.fg, h.mg, fun k d z => ?_, by rw [setE_len, setE_len, List.length_set]; exact h.len, fun k l a dk dl e1 e2 m1 m2 s1 s2 => ?_⟩
  · by_cases hk : k = i
    · subst hk
      have lt : k < σ.length := by
        have := getE_len z
        rw [setE_len, setE_len, h.len] at this
        exact this
      have ed := getE_set_same _ _ _ _ z
      subst ed
      exact ⟨p, xs, List.getElem?_set_self lt, hp, ha⟩
    · obtain ⟨_, z2⟩ := low hk z
      rw [st_get_set hk]
      exact h.slot k d z2
  · have at_i : ∀ {k d}, getE (setE (setE L j none) i (some (.own ds))) k = some d → k = i → (σ.set i (some (.ref p)))[k]? = some (some (.ref a)) → p = a := fun {k d} z hk s => by
      subst hk
      have lt : k < σ.length := by
        have := getE_len z
        rw [setE_len, setE_len, h.len] at this
        exact this
      rw [List.getElem?_set_self lt] at s
      cases s
      rfl
    by_cases hk : k = i
    · by_cases hl : l = i
      · rw [hk, hl]
      · have pa := at_i e1 hk s1
        subst pa
        obtain ⟨lj, z2⟩ := low hl e2
        rw [st_get_set hl] at s2
        exact absurd (h.inj j l p _ dl e z2 rfl m2 hs s2).symm lj
    · by_cases hl : l = i
      · have pa := at_i e2 hl s2
        subst pa
        obtain ⟨kj, z2⟩ := low hk e1
        rw [st_get_set hk] at s1
        exact absurd (h.inj j k p _ dk e z2 rfl m1 hs s1).symm kj
      · obtain ⟨_, z1⟩ := low hk e1
        obtain ⟨_, z2⟩ := low hl e2
        rw [st_get_set hk] at s1
        rw [st_get_set hl] at s2
        exact h.inj k l a dk dl z1 z2 m1 m2 s1 s2
section
variable {X : Cx} {E : XK} {pos pos' p2 : Pos}
theorem xs_mv (i j : Nat) (ij : i ≠ j) {x y : Str} (hN : X.N.Nodup) (hi : X.N[i]? = some x := by rfl) (hj : X.N[j]? = some y := by rfl) (hv : Vis X.env.scope y := by first | exact Or.inl rfl | exact Or.inr (Or.inl rfl) | exact Or.inr (Or.inr rfl)) (hd : (y == ("__debug__" : Str)) = false := by decide)
    (hcd : (y == ("__classdict__" : Str)) = false := by decide) (hx : Loc X.env.scope x := by first | exact .inl rfl | exact .inr rfl)
    (hs : swapsWith (.Name y p2) (some (.Name x pos')) pos.line X.env = pure false := by rfl) (hf : X.fn x = true ∨ X.env.scope.names.lookup x = some .local := by first | exact .inl rfl | exact .inr rfl) : XS X E (.Assign [.Name x pos'] (.Name y p2) pos) (mvS i j) :=
  psW (ps_set hN hi hx (pe_var hj hv hd hcd) hs hf) fun D σ H ⟨F, M, G, L, lr, q⟩ => by
    unfold mvS at q
    cases e : getE L j with
    | none => rw [e] at q; exact False.elim q
    | some d =>
      rw [e] at q
      cases d with
      | own ds =>
        obtain ⟨p, xs, hs, hp, ha⟩ := lr.slot j _ e
        exact ⟨_, hs, q _ M G H (Same.refl _) (lr.move ij e hs)⟩
      | val d => exact False.elim q
      | dic d => exact False.elim q
/-- an own exception class over ValueError -/
structure ExcAt (K : PySem.W.Frag) (mg : Str → Option Value) (n : Str) : Prop where
  ex : ∃ C : Addr, mg n = some (.ref C) ∧ PySem.W.excIn K C [.type "ValueError", .type "Exception", .type "BaseException", .type "object"] "ValueError.__new__" = true ∧ PySem.W.keepIn K (.ref C) = true ∧
    PySem.W.subIn K (.ref C) (.type "BaseException") = some true ∧ PySem.W.typeIn K (.ref C) = some (.type "type")
theorem exc_of {K : PySem.W.Frag} {mg : Str → Option Value} {h : Heap} {n : Str} (KX : K.In h) (G : h.Ns mainGlobals mg) {C : Addr} (a : PySem.W.nsIn K mainGlobals n = some (some (.ref C))) (b : PySem.W.excIn K C [.type "ValueError", .type "Exception", .type "BaseException", .type "object"] "ValueError.__new__" = true)
    (c : PySem.W.keepIn K (.ref C) = true) (d : PySem.W.subIn K (.ref C) (.type "BaseException") = some true) (e : PySem.W.typeIn K (.ref C) = some (.type "type")) : ExcAt K mg n := ⟨C, PySem.W.mg_of KX G a, b, c, d, e⟩
theorem xs_raiseE {cn m : Str} {j : Nat} {p p3 : Pos} (hc : X.calm = true) (tk : Takes X (fun cls d _ H => E cls d H)) (e : ExcAt X.K X.mg cn) (hg : Gl X cn := by rfl) (hdb : (cn == ("__debug__" : Str)) = false := by decide) :
    XS X E (.Raise (some (.Call (.Name cn p) [.Constant (.str m) j p2] [] p3)) none pos) (raiseS cn) := by
  obtain ⟨C, gC, q, kC, b, t⟩ := e.ex
  exact xs_raise hc tk (pmk_own PySem.F.excBase_ValueError q gC kC (raises_own b t) hg hdb) gC
end
end
end Px
namespace Px
open PySem L2
noncomputable section
/-- e; as a statement -/
def dropS (f : Env → R Px.D) : Env → Out := fun L => (f L).out fun _ => .next L
/-- try: body, except S as e: a suite that answers r at an exception of class c -/
def tryS (g : Env → Out) (c : Str) (r : PD) : Env → Out := fun L => match g L with
  | .exc c' => cif (c' = c) (.ret (.val r)) .bad
  | o => o
/-- what is told of an own exception class: it is made, it is caught by S, its kind is asked for -/
structure ExcIs (K : PySem.W.Frag) (mg : Str → Option Value) (c s : Str) (no : List Str) : Prop where
  val : mg "ValueError" = none
  ex : ∃ C S : Addr, mg c = some (.ref C) ∧ mg s = some (.ref S) ∧ PySem.W.exmOne K (.ref C) (.ref S) = some true ∧ (PySem.W.clsIn K C).isSome = true ∧ PySem.W.findIn K (.ref C) "__getattribute__" = some (some (.builtin "BaseException.__getattribute__")) ∧
    (∃ gt, PySem.W.findIn K (.ref C) "__getattr__" = some gt) ∧ PySem.W.subIn K (.ref C) (.type "BaseException") = some true ∧ PySem.W.findIn K (.ref C) "__class__" = some (some (.builtin "object.__class__")) ∧
    PySem.W.specialIn K (.builtin "object.__class__") "__get__" = some (some (.builtin "getset_descriptor.__get__")) ∧ PySem.W.takesIn K (.builtin "object.__class__") = some true ∧ PySem.W.mroIn K C (.type "object") = some true ∧
    PySem.W.kitOne K (.ref C) (.type "ValueError") = some true ∧ ∀ y ∈ no, ∃ A : Addr, mg y = some (.ref A) ∧ PySem.W.kitOne K (.ref C) (.ref A) = some false
section
variable {X : Cx} {E : XK} {a b e : Expr} {pos pos' p p2 q np : Pos}
theorem xs_drop {f : Env → R Px.D} (he : XF X E e f) (hs : swapsWith e none pos.line X.env = pure false := by rfl) : XS X E (.Expr e pos) (dropS f) :=
  psW (ps_expr he hs) fun D σ H ⟨F, M, G, L, lr, q⟩ => ⟨F, M, G, L, lr, (OkS.of q).imp fun d G2 H2 _ _ _ lr2 p v hv => by
    cases d with
    | val d => exact p σ M G2 H2 (Same.refl _) lr2
    | own ds => exact p σ M G2 H2 (Same.refl _) lr2
    | dic ds => exact p σ M G2 H2 (Same.refl _) lr2⟩
/-- isinstance(e, Y), e the exception that is caught -/
theorem call_isE {a : Addr} {oe : Obj} {C : Addr} {pn : List (Addr × Obj)} (hz : Zc (.ref C) none oe) (hf : ∃ vs, oe.data = .fields vs) (hcl : (PySem.W.clsIn X.K C).isSome = true) (hga : PySem.W.findIn X.K (.ref C) "__getattribute__" = some (some (.builtin "BaseException.__getattribute__")))
    {gt : Option Value} (hgt : PySem.W.findIn X.K (.ref C) "__getattr__" = some gt) (hsub : PySem.W.subIn X.K (.ref C) (.type "BaseException") = some true) (ha : PySem.W.findIn X.K (.ref C) "__class__" = some (some (.builtin "object.__class__")))
    (hn : PySem.W.specialIn X.K (.builtin "object.__class__") "__get__" = some (some (.builtin "getset_descriptor.__get__"))) (htk : PySem.W.takesIn X.K (.builtin "object.__class__") = some true) (hm : PySem.W.mroIn X.K C (.type "object") = some true) :
    CallR (X.suite a ((a, oe) :: pn)) (.builtin "isinstance") (fun xs H Q => ∃ (c : V) (u : Value) (b : Bool), xs = [.ref a, c] ∧ ClsV c u ∧ PySem.W.kitOne X.K (.ref C) u = some b ∧ Q (.bl b) H) := by
  intro pins s σ H xs us Q I r h
  obtain ⟨c, u, b, rfl, k, e, q⟩ := h
  obtain ⟨u1, u2, rfl, r1, r2⟩ := L2.vals2 r
  have e2 := k.eq r2
  subst e2
  cases (show u1 = Value.ref a from r1)
  have pin := I.pin (a, oe) (List.mem_append_left _ List.mem_cons_self)
  obtain ⟨vs, hd⟩ := hf
  obtain ⟨h1, h2⟩ := hz
  have hI : PySem.W.InstAt s.heap a oe C none := ⟨pin.1, h1, by unfold PySem.W.notCls; rw [hd], by rw [h2]; trivial⟩
  exact PySem.W.kia_one (PySem.W.kitx_exc hcl hga hgt hsub ha hn htk hm) I.kIn hI e (fun z => nomatch z) fun tk => ⟨.bl b, H, I.tok tk, rfl, q⟩
def tIs (i : Nat) (a : Addr) (b : Bool) : TE := fun σ H Q => σ[i]? = some (some (.ref a)) ∧ Q (.bl b) H
theorem pe_isE {a A : Addr} {oe : Obj} {C : Addr} {pn : List (Addr × Obj)} {i : Nat} {n y : Str} {b : Bool} (hc : CallR (X.suite a ((a, oe) :: pn)) (.builtin "isinstance") (fun xs H Q => ∃ (c : V) (u : Value) (b : Bool), xs = [.ref a, c] ∧ ClsV c u ∧ PySem.W.kitOne X.K (.ref C) u = some b ∧ Q (.bl b) H))
    (hk : PySem.W.kitOne X.K (.ref C) (.ref A) = some b) (hgi : Gl X "isinstance") (hmi : X.mg "isinstance" = none) (hN : X.N[i]? = some n) (hv : Vis X.env.scope n) (hd : (n == ("__debug__" : Str)) = false) (hcd : (n == ("__classdict__" : Str)) = false)
    (hgy : Gl X y) (hmy : X.mg y = some (.ref A)) (hdy : (y == ("__debug__" : Str)) = false) : PE (X.suite a ((a, oe) :: pn)) (.Call (.Name "isinstance" p) [.Name n q, .Name y p2] [] pos) (tIs i a b) :=
  peW (pe_callB hc hgi hmi (by decide +kernel) (pa_cons (pe_var (i := i) hN hv hd hcd) (pa_cons (pe_glob (v := .ref A) hgy hmy rfl hdy) pa_nil))) fun σ H Q ⟨e, q⟩ => ⟨.ref a, e, .ref A, _, b, rfl, .own A, hk, q⟩
theorem pe_isV {a : Addr} {oe : Obj} {C : Addr} {pn : List (Addr × Obj)} {i : Nat} {n : Str} {b : Bool} (hc : CallR (X.suite a ((a, oe) :: pn)) (.builtin "isinstance") (fun xs H Q => ∃ (c : V) (u : Value) (b : Bool), xs = [.ref a, c] ∧ ClsV c u ∧ PySem.W.kitOne X.K (.ref C) u = some b ∧ Q (.bl b) H))
    (hk : PySem.W.kitOne X.K (.ref C) (.type "ValueError") = some b) (hgi : Gl X "isinstance") (hmi : X.mg "isinstance" = none) (hN : X.N[i]? = some n) (hv : Vis X.env.scope n) (hd : (n == ("__debug__" : Str)) = false) (hcd : (n == ("__classdict__" : Str)) = false)
    (hgy : Gl X "ValueError") (hmy : X.mg "ValueError" = none) : PE (X.suite a ((a, oe) :: pn)) (.Call (.Name "isinstance" p) [.Name n q, .Name "ValueError" p2] [] pos) (tIs i a b) :=
  peW (pe_callB hc hgi hmi (by decide +kernel) (pa_cons (pe_var (i := i) hN hv hd hcd) (pa_cons (pe_bltn (v := .ty "ValueError") hgy hmy (by decide +kernel) rfl) pa_nil))) fun σ H Q ⟨e, q⟩ => ⟨.ref a, e, .ty "ValueError", _, b, rfl, .ty "ValueError", hk, q⟩
/-- some == [False] * 4 -/
def no4 (j : Nat) : Env → R PD := bvE (op2 eqP (varB j) (fzE (op2 repP (fzE (lstE [constE (.bool false)])) (constE (.int 4)))))
def four : List PD := [.bool false, .bool false, .bool false, .bool false]
theorem no4_val {j : Nat} {L : Env} (h : getE L j = some (.own four)) : no4 j L = .ok (.bool true) := by
  have h1 : eqP (.list four) (.list four) = .ok (PyData.eqv (.list four) (.list four)) := cif_pos ⟨by decide +kernel, by decide +kernel⟩
  have h2 : repP (.list [.bool false]) (.int 4) = .ok (.own four) := cif_pos (by decide)
  have h3 : PyData.eqv (.list four) (.list four) = true := by decide +kernel
  rw [h3] at h1
  unfold no4 bvE op2 varB fzE lstE argsE argsE constE
  rw [h]
  show bV ((R.bind (R.bind (repP (.list [.bool false]) (.int 4)) fz) fun y => eqP (.list four) y)) = _
  rw [h2]
  show bV (eqP (.list four) (.list four)) = _
  rw [h1]
  rfl
theorem pe_flag {Xs : Cx} {i j : Nat} {a : Addr} {e0 eV ec : Expr} (h0 : PE Xs e0 (tIs i a true)) (hV : PE Xs eV (tIs i a true)) (hc : XE Xs E ec (no4 j)) :
    PE Xs (.BoolOp .And [e0, eV, ec] pos) (fun σ H Q => σ[i]? = some (some (.ref a)) ∧ (∃ F M G L, LR Xs.K F M G H σ L ∧ getE L j = some (.own four)) ∧ ∀ H', Same H H' → Q (.bl true) H') :=
  peW (pe_and h0 (pe_and hV (pe_one hc))) fun σ H Q ⟨e, ⟨F, M, G, L, lr, hj⟩, q⟩ => ⟨e, true, rfl, ⟨e, true, rfl, ⟨F, M, G, L, lr, by
    rw [no4_val hj]
    exact fun G2 H2 _ e2 _ v hv => by cases hv; exact q H2 e2⟩⟩⟩
theorem getE_set_eq : ∀ (L : Env) (j : Nat) (d : Option Px.D), j < L.length → getE (setE L j d) j = d
  | [], j, d, h => absurd h (Nat.not_lt_zero j)
  | x :: r, 0, d, h => rfl
  | x :: r, j + 1, d, h => getE_set_eq r j d (Nat.lt_of_succ_lt_succ h)
theorem getE_rep : ∀ (n j : Nat), getE (List.replicate n none) j = none
  | 0, j => by cases j <;> rfl
  | n + 1, 0 => rfl
  | n + 1, j + 1 => getE_rep n j
/-- the state that a list of four of the suite's own is in -/
theorem lr_four {K : PySem.W.Frag} {H : Hp} {σ : St} {j : Nat} {p : Addr} (hj : j < σ.length) (np : H p = none) : LR K H (upd noHp p (.lst [.bl false, .bl false, .bl false, .bl false])) noHp (upd H p (.lst [.bl false, .bl false, .bl false, .bl false])) (σ.set j (some (.ref p))) (setE (List.replicate σ.length none) j (some (.own four))) := by
  have get : ∀ {k d}, getE (setE (List.replicate σ.length none) j (some (.own four))) k = some d → k = j ∧ d = .own four := fun {k d} h => by
    by_cases e : k = j
    · subst e
      rw [getE_set_eq _ _ _ (by rw [List.length_replicate]; exact hj)] at h
      cases h
      exact ⟨rfl, rfl⟩
    · rw [getE_set_ne _ _ _ _ e, getE_rep] at h
      cases h
  refine ⟨same_new np, fun b o h => ?_, same_none, fun b o h => ?_, fun _ _ _ => rfl, fun _ _ _ => rfl, fun k d h => ?_, by rw [setE_len, List.length_replicate, List.length_set], fun k l c dk dl e1 e2 _ _ _ _ => by rw [(get e1).1, (get e2).1]⟩
  · by_cases e : b = p
    · subst e
      rw [upd_same] at h ⊢
      exact h
    · rw [upd_ne e] at h
      cases h
  · rw [upd_ne (ne_of_none h np)]
  · obtain ⟨rfl, rfl⟩ := get h
    exact ⟨p, _, List.getElem?_set_self hj, upd_same, .cons (.bl false) (.cons (.bl false) (.cons (.bl false) (.cons (.bl false) .nil)))⟩
/-- what the suite promises: the answer r -/
def tSu (K : PySem.W.Frag) (i : Nat) (a : Addr) (len : Nat) (r : PD) : TS := fun D σ H => σ[i]? = some (some (.ref a)) ∧ σ.length = len ∧ ∃ F G : Hp, Same F H ∧ Same G H ∧ (∀ b o, F b = some o → G b = none) ∧
  ∀ v G' H', Same G G' → Same F H' → Same G' H' → (∀ b o, F b = some o → G' b = none) → Dq K G' v r → D.rt v H'
theorem su_set {Xs : Cx} {i j : Nat} {a : Addr} {y : Str} {e1 e2 e3 e4 er : Expr} {pl : Pos} {te : TE} {r : PD} (ij : i ≠ j) (hN : Xs.N.Nodup) (hj : Xs.N[j]? = some y) (hx : Loc Xs.env.scope y) (h1 : PE Xs e1 (tIs i a false)) (h2 : PE Xs e2 (tIs i a false)) (h3 : PE Xs e3 (tIs i a false)) (h4 : PE Xs e4 (tIs i a false))
    (hs : swapsWith (.List [e1, e2, e3, e4] pl) (some (.Name y pos')) pos.line Xs.env = pure false) (hf : Xs.fn y = true ∨ Xs.env.scope.names.lookup y = some .local)
    (s1 : starEach [e1, e2, e3, e4] Xs.env = (false, eval e1 Xs.env) :: starEach [e2, e3, e4] Xs.env) (s2 : starEach [e2, e3, e4] Xs.env = (false, eval e2 Xs.env) :: starEach [e3, e4] Xs.env) (s3 : starEach [e3, e4] Xs.env = (false, eval e3 Xs.env) :: starEach [e4] Xs.env) (s4 : starEach [e4] Xs.env = (false, eval e4 Xs.env) :: starEach [] Xs.env)
    (hr : PE Xs er te) (ht : ∀ {σ : St} {H H1 : Hp} {F G : Hp} {Q : VK}, σ[i]? = some (some (.ref a)) → (∃ F M G L, LR Xs.K F M G H1 σ L ∧ getE L j = some (.own four)) → Same H H1 → Same F H → Same G H → (∀ b o, F b = some o → G b = none) →
      (∀ v G' H', Same G G' → Same F H' → Same G' H' → (∀ b o, F b = some o → G' b = none) → Dq Xs.K G' v r → Q v H') → te σ H1 Q) :
    PSs Xs [.Assign [.Name y pos'] (.List [e1, e2, e3, e4] pl) pos, .Return (some er) p2] (tSu Xs.K i a Xs.N.length r) :=
  pssW (pss_cons (ps_set hN hj hx (pe_lst (pa_cons h1 (pa_cons h2 (pa_cons h3 (pa_cons h4 pa_nil s4) s3) s2) s1)) hs hf) (pss_one (ps_ret hr))) fun D σ H ⟨e, hl, F, G, f, g, fg, k⟩ => by
    have jl : j < σ.length := by rw [hl]; exact (List.getElem?_eq_some_iff.mp hj).1
    refine ⟨e, e, e, e, by show 4 ≤ sizeLine; decide, fun p np => ?_⟩
    refine ht (H := H) (F := F) (G := G) ?_ ⟨_, _, _, _, lr_four jl np, ?_⟩ (same_new np) f g fg k
    · rw [List.getElem?_set_ne (fun z => ij z.symm)]
      exact e
    · exact getE_set_eq _ _ _ (by rw [List.length_replicate]; exact jl)
/-- return the flag itself -/
theorem su_flag {Xs : Cx} {i j : Nat} {a : Addr} {y : Str} {e1 e2 e3 e4 e0 eV ec : Expr} {pl pf : Pos} (ij : i ≠ j) (hN : Xs.N.Nodup) (hj : Xs.N[j]? = some y) (hx : Loc Xs.env.scope y) (h1 : PE Xs e1 (tIs i a false)) (h2 : PE Xs e2 (tIs i a false)) (h3 : PE Xs e3 (tIs i a false)) (h4 : PE Xs e4 (tIs i a false))
    (hs : swapsWith (.List [e1, e2, e3, e4] pl) (some (.Name y pos')) pos.line Xs.env = pure false) (hf : Xs.fn y = true ∨ Xs.env.scope.names.lookup y = some .local)
    (s1 : starEach [e1, e2, e3, e4] Xs.env = (false, eval e1 Xs.env) :: starEach [e2, e3, e4] Xs.env) (s2 : starEach [e2, e3, e4] Xs.env = (false, eval e2 Xs.env) :: starEach [e3, e4] Xs.env) (s3 : starEach [e3, e4] Xs.env = (false, eval e3 Xs.env) :: starEach [e4] Xs.env) (s4 : starEach [e4] Xs.env = (false, eval e4 Xs.env) :: starEach [] Xs.env)
    (h0 : PE Xs e0 (tIs i a true)) (hV : PE Xs eV (tIs i a true)) (hc : XE Xs E0 ec (no4 j)) :
    PSs Xs [.Assign [.Name y pos'] (.List [e1, e2, e3, e4] pl) pos, .Return (some (.BoolOp .And [e0, eV, ec] pf)) p2] (tSu Xs.K i a Xs.N.length (.bool true)) :=
  su_set ij hN hj hx h1 h2 h3 h4 hs hf s1 s2 s3 s4 (pe_flag h0 hV hc) fun {σ H H1 F G Q} e l s f g fg k => ⟨e, l, fun H' s' => k _ G H' (Same.refl _) ((f.trans s).trans s') ((g.trans s).trans s') fg (.bl true)⟩
/-- return (False, the flag) -/
theorem su_pair {Xs : Cx} {i j : Nat} {a : Addr} {y : Str} {e1 e2 e3 e4 e0 eV ec : Expr} {pl pf pt pk : Pos} {x1 kk : Nat} (ij : i ≠ j) (hN : Xs.N.Nodup) (hj : Xs.N[j]? = some y) (hx : Loc Xs.env.scope y) (h1 : PE Xs e1 (tIs i a false)) (h2 : PE Xs e2 (tIs i a false)) (h3 : PE Xs e3 (tIs i a false)) (h4 : PE Xs e4 (tIs i a false))
    (hs : swapsWith (.List [e1, e2, e3, e4] pl) (some (.Name y pos')) pos.line Xs.env = pure false) (hf : Xs.fn y = true ∨ Xs.env.scope.names.lookup y = some .local)
    (s1 : starEach [e1, e2, e3, e4] Xs.env = (false, eval e1 Xs.env) :: starEach [e2, e3, e4] Xs.env) (s2 : starEach [e2, e3, e4] Xs.env = (false, eval e2 Xs.env) :: starEach [e3, e4] Xs.env) (s3 : starEach [e3, e4] Xs.env = (false, eval e3 Xs.env) :: starEach [e4] Xs.env) (s4 : starEach [e4] Xs.env = (false, eval e4 Xs.env) :: starEach [] Xs.env)
    (h0 : PE Xs e0 (tIs i a true)) (hV : PE Xs eV (tIs i a true)) (hc : XE Xs E0 ec (no4 j)) :
    PSs Xs [.Assign [.Name y pos'] (.List [e1, e2, e3, e4] pl) pos, .Return (some (.Tuple [.Constant (.bool false) kk pk, .BoolOp .And [e0, eV, ec] pf] x1 pt)) p2] (tSu Xs.K i a Xs.N.length (.tuple [.bool false, .bool true])) :=
  su_set ij hN hj hx h1 h2 h3 h4 hs hf s1 s2 s3 s4 (pe_tup (pa_cons pe_bl (pa_cons (pe_flag h0 hV hc) pa_nil))) fun {σ H H1 F G Q} e l s f g fg k => ⟨e, l, fun H' s' => ⟨by show 2 ≤ sizeLine; decide, fun p np => by
    have gp : G p = none := ((g.trans s).trans s').free np
    have fp : F p = none := ((f.trans s).trans s').free np
    refine k (.ref p) (upd G p (.tup [.bl false, .bl true])) _ (same_new gp) (((f.trans s).trans s').trans (same_new np)) (fun b o h => ?_) (fun b o h => ?_) (.tup upd_same (.cons (.bl false) (.cons (.bl true) .nil)))
    · by_cases z : b = p
      · subst z
        rw [upd_same] at h ⊢
        exact h
      · rw [upd_ne z] at h ⊢
        exact ((g.trans s).trans s') b o h
    · rw [upd_ne (ne_of_none h fp)]
      exact fg b o h⟩⟩
/-- try: body, except S as n: suite -/
theorem xs_try {k i : Nat} {n s c : Str} {no : List Str} {body suite : List Stmt} {b₀ : Stmt} {g : Env → Out} {r : PD} (C : Ctx X E k) (tk : Takes X (fun cls d _ H => E cls d H)) (ei : ExcIs X.K X.mg c s no) (hs : X.stack = X.env :: X.outer) (hfr : X.env.frame = some X.env.locals) (hN : X.N.Nodup) (hi : X.N[i]? = some n) (hln : X.env.kindOf n = some .local)
    (hgs : Gl X s) (hds : (s == ("__debug__" : Str)) = false)
    (hb : ∀ (pn : List (Addr × Obj)) (xe : Value → Shared → Prop) (E' : XK), Ctx (X.tr pn xe) E' k → Takes (X.tr pn xe) (fun cls d _ H => E' cls d H) → XSs (X.tr pn xe) E' body g)
    (hsu : ∀ (a : Addr) (oe : Obj) (Ca : Addr) (pn : List (Addr × Obj)), X.mg c = some (.ref Ca) → Zc (.ref Ca) none oe → (∃ vs, oe.data = .fields vs) → PSs (X.suite a ((a, oe) :: pn)) (b₀ :: suite) (tSu X.K i a X.N.length r)) :
    XS X E (.Try body [.ExceptHandler (some (.Name s np)) (some n) (b₀ :: suite) pos'] [] [] pos) (tryS g c r) := by
  obtain ⟨Ca, S, gC, gS, ex, _⟩ := ei.ex
  have il : i < X.N.length := (List.getElem?_eq_some_iff.mp hi).1
  refine psW (ps_try_as (i := i) (c := .ref S) (Wout := fun cls d _ H => E cls d H) (tb := fun W D σ H => ∃ E' : XK, (∀ cls d σ' H', σ'.length = X.N.length → E' cls d H' → W cls d σ' H') ∧ tS X.K X.mg E' g D σ H) (ts := fun a cls d D σ H => cls = .ref Ca ∧ d = none ∧ tSu X.K i a X.N.length r D σ H) hs hfr hN hi hln ⟨hgs, hds, .inl gS⟩ tk (fun W pn xe tk' po => ?_) (fun a oe cls d pn hz hf => ?_)) fun D σ H ⟨F, M, G, L, lr, q⟩ => ?_
  · refine ⟨fun pins s σ H D I h => ?_⟩
    obtain ⟨E', hE, t⟩ := h
    have tk2 : Takes (X.tr pn xe) (fun cls d _ H => E' cls d H) := fun u s' ⟨a, B, sI, pins, σ, H, cls, d, e, I, nb, up, sky, na, os, ag, w⟩ => tk' u s' ⟨a, B, sI, pins, σ, H, cls, d, e, I, nb, up, sky, na, os, ag, hE _ _ _ _ I.len w⟩
    exact (hb pn xe E' ⟨C.room, passes_call tk2 (fun _ _ _ _ h => h), C.calm, po⟩ tk2).run pins s σ H D I t
  · refine ⟨fun pins s σ H D I h => ?_⟩
    obtain ⟨rfl, rfl, h⟩ := h
    exact (hsu a oe Ca pn gC hz hf).run pins s σ H D I h
  · unfold tryS at q
    cases e : g L with
    | exc c' =>
      rw [e] at q
      by_cases ec : c' = c
      · have q2 : OkS X.K X.mg E F G D (cif (c' = c) (.ret (.val r)) .bad) := q
        rw [cif_pos ec] at q2
        clear q
        subst ec
        refine ⟨fun cls d H' => cls = .ref Ca ∧ d = none ∧ Same F H' ∧ Same G H', fun cls d σ' H' hl ⟨e1, e2, f, g'⟩ => ?_, F, M, G, L, lr, ?_⟩
        · subst e1
          subst e2
          refine ⟨true, ex, fun _ a na => ⟨rfl, rfl, List.getElem?_set_self (by rw [hl]; exact il), by rw [List.length_set]; exact hl, F, G, f, g', lr.fg, fun v G' H'' s1 s2 s3 s4 hv => ?_⟩, fun z => by cases z⟩
          exact q2 v G' H'' s1 s2 s3 s4 hv
        · rw [e]
          intro a H' ha f g'
          rw [gC] at ha
          cases ha
          exact ⟨rfl, rfl, f, g'⟩
      · have q : OkS X.K X.mg E F G D (cif (c' = c) (.ret (.val r)) .bad) := q
        rw [cif_neg ec] at q
        exact False.elim q
    | bad =>
      rw [e] at q
      exact False.elim q
    | _ =>
      rw [e] at q
      exact ⟨fun _ _ _ => False, fun _ _ _ _ _ z => z.elim, F, M, G, L, lr, by rw [e]; exact q⟩
theorem kit_self (K : PySem.W.Frag) (C : Addr) : PySem.W.kitOne K (.ref C) (.ref C) = some true := by
  unfold PySem.W.kitOne
  rw [if_pos (by simp)]
section
variable {a : Addr} {oe : Obj} {Ca : Addr} {pn : List (Addr × Obj)} {i : Nat} {n y c s : Str} {no : List Str}
theorem ei_call (ei : ExcIs X.K X.mg c s no) (gC : X.mg c = some (.ref Ca)) (hz : Zc (.ref Ca) none oe) (hf : ∃ vs, oe.data = .fields vs) :
    CallR (X.suite a ((a, oe) :: pn)) (.builtin "isinstance") (fun xs H Q => ∃ (c : V) (u : Value) (b : Bool), xs = [.ref a, c] ∧ ClsV c u ∧ PySem.W.kitOne X.K (.ref Ca) u = some b ∧ Q (.bl b) H) := by
  obtain ⟨C, S, g1, g2, ex, h1, h2, ⟨gt, h3⟩, h4, h5, h6, h7, h8, _⟩ := ei.ex
  rw [gC] at g1
  cases g1
  exact call_isE hz hf h1 h2 h3 h4 h5 h6 h7 h8
theorem pe_no (ei : ExcIs X.K X.mg c s no) (gC : X.mg c = some (.ref Ca)) (hz : Zc (.ref Ca) none oe) (hf : ∃ vs, oe.data = .fields vs) (hy : y ∈ no) (hmi : X.mg "isinstance" = none) (hN : X.N[i]? = some n := by rfl) (hgi : Gl X "isinstance" := by rfl) (hv : Vis X.env.scope n := by first | exact Or.inl rfl | exact Or.inr (Or.inl rfl) | exact Or.inr (Or.inr rfl))
    (hd : (n == ("__debug__" : Str)) = false := by decide) (hcd : (n == ("__classdict__" : Str)) = false := by decide) (hgy : Gl X y := by rfl) (hdy : (y == ("__debug__" : Str)) = false := by decide) : PE (X.suite a ((a, oe) :: pn)) (.Call (.Name "isinstance" p) [.Name n q, .Name y p2] [] pos) (tIs i a false) := by
  have hc := ei_call (a := a) (pn := pn) ei gC hz hf
  obtain ⟨C, S, g1, g2, ex, h1, h2, _, h4, h5, h6, h7, h8, _, h9⟩ := ei.ex
  rw [gC] at g1
  cases g1
  obtain ⟨A, mA, kA⟩ := h9 y hy
  exact pe_isE hc kA hgi hmi hN hv hd hcd hgy mA hdy
theorem pe_yes (ei : ExcIs X.K X.mg c s no) (gC : X.mg c = some (.ref Ca)) (hz : Zc (.ref Ca) none oe) (hf : ∃ vs, oe.data = .fields vs) (hmi : X.mg "isinstance" = none) (hN : X.N[i]? = some n := by rfl) (hgi : Gl X "isinstance" := by rfl) (hv : Vis X.env.scope n := by first | exact Or.inl rfl | exact Or.inr (Or.inl rfl) | exact Or.inr (Or.inr rfl))
    (hd : (n == ("__debug__" : Str)) = false := by decide) (hcd : (n == ("__classdict__" : Str)) = false := by decide) (hgy : Gl X c := by rfl) (hdy : (c == ("__debug__" : Str)) = false := by decide) : PE (X.suite a ((a, oe) :: pn)) (.Call (.Name "isinstance" p) [.Name n q, .Name c p2] [] pos) (tIs i a true) :=
  pe_isE (ei_call (a := a) (pn := pn) ei gC hz hf) (kit_self _ _) hgi hmi hN hv hd hcd hgy gC hdy
theorem pe_val (ei : ExcIs X.K X.mg c s no) (gC : X.mg c = some (.ref Ca)) (hz : Zc (.ref Ca) none oe) (hf : ∃ vs, oe.data = .fields vs) (hmi : X.mg "isinstance" = none) (hN : X.N[i]? = some n := by rfl) (hgi : Gl X "isinstance" := by rfl) (hv : Vis X.env.scope n := by first | exact Or.inl rfl | exact Or.inr (Or.inl rfl) | exact Or.inr (Or.inr rfl))
    (hd : (n == ("__debug__" : Str)) = false := by decide) (hcd : (n == ("__classdict__" : Str)) = false := by decide) (hgy : Gl X "ValueError" := by rfl) : PE (X.suite a ((a, oe) :: pn)) (.Call (.Name "isinstance" p) [.Name n q, .Name "ValueError" p2] [] pos) (tIs i a true) := by
  have hc := ei_call (a := a) (pn := pn) ei gC hz hf
  obtain ⟨C, S, g1, g2, ex, h1, h2, _, h4, h5, h6, h7, h8, h9, _⟩ := ei.ex
  rw [gC] at g1
  cases g1
  exact pe_isV hc h9 hgi hmi hN hv hd hcd hgy ei.val
end
theorem kit_cls {K : PySem.W.Frag} {C A : Addr} {b : Bool} (h2 : PySem.W.isClsIn K A = true) (h3 : PySem.W.typeIn K (.ref A) = some (.type "type")) (h4 : PySem.W.subIn K (.ref C) (.ref A) = some b) : PySem.W.kitCls K (.ref C) (.ref A) = some b := by
  have e2 : ((PySem.W.clsIn K A).isSome && PySem.W.typeIn K (.ref A) == some (.type "type")) = true := by
    have h2' : (PySem.W.clsIn K A).isSome = true := h2
    rw [h2', h3] <;> rfl
  show (if ((PySem.W.clsIn K A).isSome && PySem.W.typeIn K (.ref A) == some (.type "type")) = true then PySem.W.subIn K (.ref C) (.ref A) else none) = some b
  rw [if_pos e2]
  exact h4
theorem kit_other {K : PySem.W.Frag} {C A : Addr} (ne : C ≠ A) (h2 : PySem.W.isClsIn K A = true) (h3 : PySem.W.typeIn K (.ref A) = some (.type "type")) (h4 : PySem.W.subIn K (.ref C) (.ref A) = some false) : PySem.W.kitOne K (.ref C) (.ref A) = some false := by
  unfold PySem.W.kitOne
  rw [if_neg (fun h => ne (by simpa using h))]
  exact kit_cls h2 h3 h4
theorem kit_value {K : PySem.W.Frag} {C : Addr} (h : PySem.W.subIn K (.ref C) (.type "ValueError") = some true) : PySem.W.kitOne K (.ref C) (.type "ValueError") = some true := by
  unfold PySem.W.kitOne
  rw [if_neg (fun h : (Value.ref C == Value.type "ValueError") = true => by have e := eq_of_beq h; cases e)]
  show (if PySem.W.kitMeta "ValueError" = true then PySem.W.subIn K (.ref C) (.type "ValueError") else none) = _
  rw [if_pos (by decide +kernel)]
  exact h
theorem exm_sub {K : PySem.W.Frag} {C S : Addr} (h1 : PySem.W.subIn K (.ref S) (.type "BaseException") = some true) (h2 : PySem.W.isClsIn K S = true) (h3 : PySem.W.typeIn K (.ref S) = some (.type "type")) (h4 : PySem.W.subIn K (.ref C) (.ref S) = some true) :
    PySem.W.exmOne K (.ref C) (.ref S) = some true := by
  have e1 : (PySem.W.subIn K (.ref S) (.type "BaseException") == some true) = true := by rw [h1] <;> rfl
  show (if (PySem.W.subIn K (.ref S) (.type "BaseException") == some true) = true then PySem.W.kitCls K (.ref C) (.ref S) else none) = some true
  rw [if_pos e1]
  exact kit_cls h2 h3 h4
structure ClsNo (K : PySem.W.Frag) (mg : Str → Option Value) (C : Addr) (y : Str) : Prop where
  ex : ∃ A : Addr, mg y = some (.ref A) ∧ PySem.W.kitOne K (.ref C) (.ref A) = some false
theorem cls_no {K : PySem.W.Frag} {mg : Str → Option Value} {h : Heap} {y : Str} {C A : Addr} (KX : K.In h) (G : h.Ns mainGlobals mg) (a : PySem.W.nsIn K mainGlobals y = some (some (.ref A))) (ne : C ≠ A) (h2 : PySem.W.isClsIn K A = true) (h3 : PySem.W.typeIn K (.ref A) = some (.type "type")) (h4 : PySem.W.subIn K (.ref C) (.ref A) = some false) : ClsNo K mg C y :=
  ⟨A, PySem.W.mg_of KX G a, kit_other ne h2 h3 h4⟩
theorem exis_of {K : PySem.W.Frag} {mg : Str → Option Value} {h : Heap} {c s y1 y2 y3 y4 : Str} (KX : K.In h) (G : h.Ns mainGlobals mg) {C S : Addr} {gt : Option Value} (v : PySem.W.nsIn K mainGlobals "ValueError" = some none)
    (a : PySem.W.nsIn K mainGlobals c = some (some (.ref C))) (b : PySem.W.nsIn K mainGlobals s = some (some (.ref S))) (s1 : PySem.W.subIn K (.ref S) (.type "BaseException") = some true) (s2 : PySem.W.isClsIn K S = true) (s3 : PySem.W.typeIn K (.ref S) = some (.type "type")) (s4 : PySem.W.subIn K (.ref C) (.ref S) = some true)
    (h1 : PySem.W.isClsIn K C = true) (h2 : PySem.W.findIn K (.ref C) "__getattribute__" = some (some (.builtin "BaseException.__getattribute__")))
    (h3 : PySem.W.findIn K (.ref C) "__getattr__" = some gt) (h4 : PySem.W.subIn K (.ref C) (.type "BaseException") = some true) (h5 : PySem.W.findIn K (.ref C) "__class__" = some (some (.builtin "object.__class__"))) (h6 : PySem.W.specialIn K (.builtin "object.__class__") "__get__" = some (some (.builtin "getset_descriptor.__get__")))
    (h7 : PySem.W.takesIn K (.builtin "object.__class__") = some true) (h8 : PySem.W.mroIn K C (.type "object") = some true) (h9 : PySem.W.subIn K (.ref C) (.type "ValueError") = some true)
    (n1 : ClsNo K mg C y1) (n2 : ClsNo K mg C y2) (n3 : ClsNo K mg C y3) (n4 : ClsNo K mg C y4) : ExcIs K mg c s [y1, y2, y3, y4] :=
  ⟨PySem.W.mg_none_of KX G v, C, S, PySem.W.mg_of KX G a, PySem.W.mg_of KX G b, exm_sub s1 s2 s3 s4, h1, h2, ⟨gt, h3⟩, h4, h5, h6, h7, h8, kit_value h9, fun y hy => by
    simp only [List.mem_cons, List.not_mem_nil, or_false] at hy
    rcases hy with rfl | rfl | rfl | rfl
    · exact n1.ex
    · exact n2.ex
    · exact n3.ex
    · exact n4.ex⟩
end
end
end Px
namespace Px
open PySem L2
noncomputable section
-- k01
def g_lit_holds : Env → Out := retS (valF (bvE (op2 eqP (op2 ixP (varB 1) (op2 subP (op1 absP (varB 0)) (constE (.int 1)))) (bvE (op2 gtP (varB 0) (constE (.int 0)))))))
def f_lit_holds : List PD → R D := fnE 2 2 g_lit_holds
theorem f_lit_holds_len (ds : List PD) (h : ds.length ≠ 2) : f_lit_holds ds = .bad := fnE_len ds h
-- k01
def g_holds : Env → Out := retS (valF (orV (callS f_lit_holds (argsE [op2 ixP (varB 0) (constE (.int 0)), varB 1])) (callS f_lit_holds (argsE [op2 ixP (varB 0) (constE (.int 1)), varB 1]))))
def f_holds : List PD → R D := fnE 2 2 g_holds
theorem f_holds_len (ds : List PD) (h : ds.length ≠ 2) : f_holds ds = .bad := fnE_len ds h
-- k01
def g__law_cell_at : Env → Out := seqS (ifS (op2 ltP (varB 1) (op1 lenP (varB 0)))
  (retS (valF (op2 ixP (varB 0) (varB 1))))
  (skipS))
  (retS (valF (constE (.int 0))))
def f__law_cell_at : List PD → R D := fnE 2 2 g__law_cell_at
theorem f__law_cell_at_len (ds : List PD) (h : ds.length ≠ 2) : f__law_cell_at ds = .bad := fnE_len ds h
-- k01
def g__law_lit_by : Env → Out := seqS (ifS (op2 eqP (op2 modP (varB 0) (constE (.int 2))) (constE (.int 1)))
  (retS (valF (op1 negP (op2 addP (op2 divP (varB 0) (constE (.int 2))) (constE (.int 1))))))
  (skipS))
  (retS (valF (op2 addP (op2 divP (varB 0) (constE (.int 2))) (constE (.int 1)))))
def f__law_lit_by : List PD → R D := fnE 1 1 g__law_lit_by
theorem f__law_lit_by_len (ds : List PD) (h : ds.length ≠ 1) : f__law_lit_by ds = .bad := fnE_len ds h
-- k01
def l__law_bits_by_1 : Env → Out := seqS (pushS 3 (bvE (op2 eqP (op2 modP (varB 2) (constE (.int 2))) (constE (.int 1)))))
  (setS 2 (valF (op2 divP (varB 2) (constE (.int 2)))))
def g__law_bits_by : Env → Out := seqS (setS 2 (valF (op2 modP (varB 0) (op2 powP (constE (.int 2)) (constE (.int 60))))))
  (seqS (setS 3 (lstE []))
  (seqS (forR (argsE [varE 1]) (tgN 4)
  (l__law_bits_by_1))
  (retV 3)))
def f__law_bits_by : List PD → R D := fnE 5 2 g__law_bits_by
theorem f__law_bits_by_len (ds : List PD) (h : ds.length ≠ 2) : f__law_bits_by ds = .bad := fnE_len ds h
-- k01
def g_law_k01 : Env → Out := seqS (setS 1 (valF (op2 addP (constE (.int 1)) (op2 modP (callS f__law_cell_at (argsE [varB 0, constE (.int 0)])) (constE (.int 60))))))
  (seqS (setS 2 (valF (fzE (callE f__law_bits_by (argsE [callS f__law_cell_at (argsE [varB 0, constE (.int 1)]), varE 1])))))
  (seqS (setS 3 (valF (callS f__law_lit_by (argsE [op2 modP (callS f__law_cell_at (argsE [varB 0, constE (.int 2)])) (op2 mulP (constE (.int 2)) (varB 1))]))))
  (seqS (setS 4 (valF (callS f__law_lit_by (argsE [op2 modP (callS f__law_cell_at (argsE [varB 0, constE (.int 3)])) (op2 mulP (constE (.int 2)) (varB 1))]))))
  (seqS (ifS (op2 eqP (op2 modP (callS f__law_cell_at (argsE [varB 0, constE (.int 4)])) (constE (.int 3))) (constE (.int 1)))
  (setS 4 (valF (varE 3)))
  (skipS))
  (seqS (setS 5 (valF (orV (bvE (op2 eqP (op2 ixP (varB 2) (op2 subP (op1 absP (varB 3)) (constE (.int 1)))) (bvE (op2 gtP (varB 3) (constE (.int 0)))))) (bvE (op2 eqP (op2 ixP (varB 2) (op2 subP (op1 absP (varB 4)) (constE (.int 1)))) (bvE (op2 gtP (varB 4) (constE (.int 0)))))))))
  (seqS (setS 6 (valF (fzE (op1 listP (varB 2)))))
  (seqS (setS 7 (valF (callS f_holds (argsE [tupE [varE 3, varE 4], varB 6]))))
  (retS (valF (andV (op1 (isiP "bool") (varB 7)) (andV (bvE (op2 eqP (varB 7) (varB 5))) (bvE (op2 eqP (varB 6) (varB 2))))))))))))))
def f_law_k01 : List PD → R D := fnE 8 1 g_law_k01
theorem f_law_k01_len (ds : List PD) (h : ds.length ≠ 1) : f_law_k01 ds = .bad := fnE_len ds h
-- k02
def l_good_1 : Env → Out := ifS (notT (op1 asB (callS f_holds (argsE [varB 2, varB 1]))))
  (retS (valF (constE (.bool false))))
  (skipS)
def g_good : Env → Out := seqS (forL (varE 0) (tgN 2)
  (l_good_1))
  (retS (valF (constE (.bool true))))
def f_good : List PD → R D := fnE 3 2 g_good
theorem f_good_len (ds : List PD) (h : ds.length ≠ 2) : f_good ds = .bad := fnE_len ds h
-- k02
def l__law_pile_by_1 : Env → Out := seqS (setS 6 (valF (callS f__law_cell_at (argsE [varB 0, op2 addP (varB 1) (varB 5)]))))
  (pushS 4 (tupE [callS f__law_lit_by (argsE [op2 modP (varB 6) (op2 mulP (constE (.int 2)) (varB 2))]), callS f__law_lit_by (argsE [op2 modP (op2 divP (varB 6) (op2 mulP (constE (.int 2)) (varB 2))) (op2 mulP (constE (.int 2)) (varB 2))])]))
def g__law_pile_by : Env → Out := seqS (setS 4 (lstE []))
  (seqS (forR (argsE [varE 3]) (tgN 5)
  (l__law_pile_by_1))
  (retV 4))
def f__law_pile_by : List PD → R D := fnE 7 4 g__law_pile_by
theorem f__law_pile_by_len (ds : List PD) (h : ds.length ≠ 4) : f__law_pile_by ds = .bad := fnE_len ds h
-- k02
def l__law_far_pile_1 : Env → Out := seqS (setS 0 (valF (op2 modP (op2 addP (op2 mulP (varB 0) (constE (.int 48271))) (constE (.int 11))) (constE (.int 2147483647)))))
  (pushS 3 (tupE [callS f__law_lit_by (argsE [op2 modP (varB 0) (op2 mulP (constE (.int 2)) (varB 1))]), callS f__law_lit_by (argsE [op2 modP (op2 divP (varB 0) (constE (.int 1009))) (op2 mulP (constE (.int 2)) (varB 1))])]))
def g__law_far_pile : Env → Out := seqS (setS 3 (lstE []))
  (seqS (forR (argsE [varE 2]) (tgN 4)
  (l__law_far_pile_1))
  (retV 3))
def f__law_far_pile : List PD → R D := fnE 5 3 g__law_far_pile
theorem f__law_far_pile_len (ds : List PD) (h : ds.length ≠ 3) : f__law_far_pile ds = .bad := fnE_len ds h
-- k02
def l__law_turned_1 : Env → Out := seqS (setS 4 (valF (op1 absP (op2 ixP (varB 3) (constE (.int 0))))))
  (seqS (ifS (notT (op1 asB (op2 ixP (varB 1) (op2 subP (varB 4) (constE (.int 1))))))
  (setS 4 (valF (op1 negP (varB 4))))
  (skipS))
  (pushS 2 (tupE [varE 4, op2 ixP (varB 3) (constE (.int 1))])))
def g__law_turned : Env → Out := seqS (setS 2 (lstE []))
  (seqS (forL (varE 0) (tgN 3)
  (l__law_turned_1))
  (retV 2))
def f__law_turned : List PD → R D := fnE 5 2 g__law_turned
theorem f__law_turned_len (ds : List PD) (h : ds.length ≠ 2) : f__law_turned ds = .bad := fnE_len ds h
-- k02
def l__law_true_1 : Env → Out := ifS (op2 eqP (op2 ixP (varB 1) (op2 subP (op1 absP (varB 2)) (constE (.int 1)))) (bvE (op2 gtP (varB 2) (constE (.int 0)))))
  (retS (valF (constE (.bool true))))
  (skipS)
def g__law_true : Env → Out := seqS (forT (varE 0) (tgN 2)
  (l__law_true_1))
  (retS (valF (constE (.bool false))))
def f__law_true : List PD → R D := fnE 3 2 g__law_true
theorem f__law_true_len (ds : List PD) (h : ds.length ≠ 2) : f__law_true ds = .bad := fnE_len ds h
-- k02
def l__law_all_true_1 : Env → Out := ifS (notT (op1 asB (callS f__law_true (argsE [varB 2, varB 1]))))
  (retS (valF (constE (.bool false))))
  (skipS)
def g__law_all_true : Env → Out := seqS (forL (varE 0) (tgN 2)
  (l__law_all_true_1))
  (retS (valF (constE (.bool true))))
def f__law_all_true : List PD → R D := fnE 3 2 g__law_all_true
theorem f__law_all_true_len (ds : List PD) (h : ds.length ≠ 2) : f__law_all_true ds = .bad := fnE_len ds h
-- k02
def g_law_k02 : Env → Out := seqS (setS 1 (valF (op2 addP (constE (.int 1)) (op2 modP (callS f__law_cell_at (argsE [varB 0, constE (.int 0)])) (constE (.int 60))))))
  (seqS (setS 2 (valF (fzE (callE f__law_bits_by (argsE [callS f__law_cell_at (argsE [varB 0, constE (.int 1)]), varE 1])))))
  (seqS (setS 3 (valF (callS f__law_cell_at (argsE [varB 0, constE (.int 2)]))))
  (seqS (setS 4 (callE f__law_pile_by (argsE [varE 0, constE (.int 5), varE 1, op2 modP (varB 3) (constE (.int 13))])))
  (seqS (ifS (op2 eqP (op2 modP (op2 divP (varB 3) (constE (.int 13))) (constE (.int 4))) (constE (.int 1)))
  (setS 4 (callE f__law_far_pile (argsE [callS f__law_cell_at (argsE [varB 0, constE (.int 3)]), varE 1, op2 addP (constE (.int 17)) (op2 modP (op2 divP (varB 3) (constE (.int 52))) (constE (.int 384)))])))
  (skipS))
  (seqS (ifS (op2 eqP (op2 modP (callS f__law_cell_at (argsE [varB 0, constE (.int 4)])) (constE (.int 2))) (constE (.int 1)))
  (seqS (frzS 4) (seqS (setS 4 (callE f__law_turned (argsE [varE 4, varE 2])))
  (ifS (andT (op2 gtP (op1 lenP (varB 4)) (constE (.int 0))) (op2 eqP (op2 modP (op2 divP (callS f__law_cell_at (argsE [varB 0, constE (.int 4)])) (constE (.int 2))) (constE (.int 2))) (constE (.int 1))))
  (seqS (setS 5 (valF (op2 modP (op2 divP (callS f__law_cell_at (argsE [varB 0, constE (.int 4)])) (constE (.int 4))) (op1 lenP (varB 4)))))
  (putS 4 (varE 5) (tupE [op1 negP (op2 ixP (op2 ixP (varB 4) (varB 5)) (constE (.int 0))), op1 negP (op2 ixP (op2 ixP (varB 4) (varB 5)) (constE (.int 0)))])))
  (skipS))))
  (skipS))
  (seqS (setS 6 (valF (fzE (lstE [fzE (op1 listP (varB 4)), fzE (op1 listP (varB 2))]))))
  (seqS (setS 7 (valF (callS f_good (argsE [op2 ixP (varB 6) (constE (.int 0)), op2 ixP (varB 6) (constE (.int 1))]))))
  (seqS (setS 8 (valF (callS f_good (argsE [fzE (sliceL (varB 4) (noPart) (partE (op1 negP (constE (.int 1))))), fzE (op1 listP (varB 2))]))))
  (seqS (ifS (orT (notT (op1 asB (op1 (isiP "bool") (varB 7)))) (notT (op1 asB (op1 (isiP "bool") (varB 8)))))
  (retS (valF (constE (.bool false))))
  (skipS))
  (seqS (ifS (orT (op2 neP (op2 ixP (varB 6) (constE (.int 0))) (varB 4)) (op2 neP (op2 ixP (varB 6) (constE (.int 1))) (varB 2)))
  (retS (valF (constE (.bool false))))
  (skipS))
  (retS (valF (andV (bvE (op2 eqP (varB 7) (callS f__law_all_true (argsE [varB 4, varB 2])))) (bvE (op2 eqP (varB 8) (callS f__law_all_true (argsE [fzE (sliceL (varB 4) (noPart) (partE (op1 negP (constE (.int 1))))), varB 2])))))))))))))))))
def f_law_k02 : List PD → R D := fnE 9 1 g_law_k02
theorem f_law_k02_len (ds : List PD) (h : ds.length ≠ 1) : f_law_k02 ds = .bad := fnE_len ds h
-- k03
def l_steps_from_2 : Env → Out := ifS (andT (op2 eqP (varB 4) (op1 negP (varB 1))) (op2 (inP true) (varB 5) (varB 2)))
  (pushS 2 (varE 5))
  (skipS)
def l_steps_from_1 : Env → Out := forL (fzE (lstE [tupE [op2 ixP (varB 3) (constE (.int 0)), op2 ixP (varB 3) (constE (.int 1))], tupE [op2 ixP (varB 3) (constE (.int 1)), op2 ixP (varB 3) (constE (.int 0))]])) (tgT 4 5)
  (l_steps_from_2)
def g_steps_from : Env → Out := seqS (setS 2 (lstE []))
  (seqS (forL (varE 0) (tgN 3)
  (l_steps_from_1))
  (retV 2))
def f_steps_from : List PD → R D := fnE 6 2 g_steps_from
theorem f_steps_from_len (ds : List PD) (h : ds.length ≠ 2) : f_steps_from ds = .bad := fnE_len ds h
-- k03
def g__law_many_by : Env → Out := seqS (ifS (op2 eqP (op2 modP (op2 divP (varB 0) (varB 1)) (constE (.int 64))) (constE (.int 2)))
  (retS (valF (constE (.int 60))))
  (skipS))
  (seqS (ifS (op2 eqP (op2 modP (op2 divP (varB 0) (varB 1)) (constE (.int 8))) (constE (.int 1)))
  (retS (valF (op2 addP (constE (.int 1)) (op2 modP (op2 divP (varB 0) (op2 mulP (constE (.int 8)) (varB 1))) (constE (.int 24))))))
  (skipS))
  (retS (valF (op2 addP (constE (.int 1)) (op2 modP (varB 0) (varB 1))))))
def f__law_many_by : List PD → R D := fnE 2 2 g__law_many_by
theorem f__law_many_by_len (ds : List PD) (h : ds.length ≠ 2) : f__law_many_by ds = .bad := fnE_len ds h
-- k03
def g__law_whole : Env → Out := retS (valF (andV (op1 (isiP "int") (varB 0)) (notV (op1 (isiP "bool") (varB 0)))))
def f__law_whole : List PD → R D := fnE 1 1 g__law_whole
theorem f__law_whole_len (ds : List PD) (h : ds.length ≠ 1) : f__law_whole ds = .bad := fnE_len ds h
-- k03
def l__law_due_by_1 : Env → Out := seqS (ifS (andT (op2 eqP (op2 ixP (varB 3) (constE (.int 0))) (op1 negP (varB 1))) (op2 (inP true) (op2 ixP (varB 3) (constE (.int 1))) (varB 2)))
  (pushS 2 (op2 ixP (varB 3) (constE (.int 1))))
  (skipS))
  (ifS (andT (op2 eqP (op2 ixP (varB 3) (constE (.int 1))) (op1 negP (varB 1))) (op2 (inP true) (op2 ixP (varB 3) (constE (.int 0))) (varB 2)))
  (pushS 2 (op2 ixP (varB 3) (constE (.int 0))))
  (skipS))
def g__law_due_by : Env → Out := seqS (setS 2 (lstE []))
  (seqS (forL (varE 0) (tgN 3)
  (l__law_due_by_1))
  (retV 2))
def f__law_due_by : List PD → R D := fnE 4 2 g__law_due_by
theorem f__law_due_by_len (ds : List PD) (h : ds.length ≠ 2) : f__law_due_by ds = .bad := fnE_len ds h
-- k03
def l__law_alike_1 : Env → Out := ifS (orT (notT (op1 asB (callS f__law_whole (argsE [op2 ixP (varB 0) (varB 2)])))) (op2 neP (op2 ixP (varB 0) (varB 2)) (op2 ixP (varB 1) (varB 2))))
  (retS (valF (constE (.bool false))))
  (skipS)
def g__law_alike : Env → Out := seqS (ifS (orT (notT (op1 asB (op1 (isiP "list") (varB 0)))) (op2 neP (op1 lenP (varB 0)) (op1 lenP (varB 1))))
  (retS (valF (constE (.bool false))))
  (skipS))
  (seqS (forR (argsE [op1 lenP (varB 1)]) (tgN 2)
  (l__law_alike_1))
  (retS (valF (constE (.bool true)))))
def f__law_alike : List PD → R D := fnE 3 2 g__law_alike
theorem f__law_alike_len (ds : List PD) (h : ds.length ≠ 2) : f__law_alike ds = .bad := fnE_len ds h
-- k03
def g_law_k03 : Env → Out := seqS (setS 1 (valF (callS f__law_many_by (argsE [callS f__law_cell_at (argsE [varB 0, constE (.int 0)]), constE (.int 7)]))))
  (seqS (setS 2 (valF (op2 modP (callS f__law_cell_at (argsE [varB 0, constE (.int 1)])) (constE (.int 16)))))
  (seqS (setS 3 (valF (fzE (callE f__law_pile_by (argsE [varE 0, constE (.int 3), varE 1, varE 2])))))
  (seqS (ifS (op2 eqP (op2 modP (op2 divP (callS f__law_cell_at (argsE [varB 0, constE (.int 1)])) (constE (.int 32))) (constE (.int 4))) (constE (.int 1)))
  (seqS (setS 3 (valF (fzE (callE f__law_far_pile (argsE [callS f__law_cell_at (argsE [varB 0, constE (.int 2)]), varE 1, op2 addP (constE (.int 17)) (op2 modP (op2 divP (callS f__law_cell_at (argsE [varB 0, constE (.int 1)])) (constE (.int 128))) (constE (.int 384)))])))))
  (setS 2 (valF (op1 lenP (varB 3)))))
  (skipS))
  (seqS (setS 4 (valF (callS f__law_lit_by (argsE [op2 modP (callS f__law_cell_at (argsE [varB 0, constE (.int 2)])) (op2 mulP (constE (.int 2)) (varB 1))]))))
  (seqS (ifS (andT (op2 gtP (varB 2) (constE (.int 0))) (op2 eqP (op2 modP (op2 divP (callS f__law_cell_at (argsE [varB 0, constE (.int 1)])) (constE (.int 16))) (constE (.int 2))) (constE (.int 1))))
  (setS 4 (valF (op1 negP (op2 ixP (op2 ixP (varB 3) (op2 modP (callS f__law_cell_at (argsE [varB 0, constE (.int 2)])) (varB 2))) (op2 modP (op2 divP (callS f__law_cell_at (argsE [varB 0, constE (.int 2)])) (varB 2)) (constE (.int 2)))))))
  (skipS))
  (seqS (setS 5 (valF (fzE (callE f__law_due_by (argsE [varE 3, varE 4])))))
  (seqS (setS 6 (valF (fzE (op1 listP (varB 3)))))
  (seqS (setS 7 (callE f_steps_from (argsE [varE 6, varE 4])))
  (seqS (ifS (orT (notT (op1 asB (callS f__law_alike (argsE [varB 7, varB 5])))) (op2 neP (varB 6) (varB 3)))
  (retS (valF (constE (.bool false))))
  (skipS))
  (seqS (pushS 7 (constE (.int 0)))
  (seqS (ifS (notT (op1 asB (callS f__law_alike (argsE [fzE (callE f_steps_from (argsE [fzE (op1 listP (varB 3)), varE 4])), varB 5]))))
  (retS (valF (constE (.bool false))))
  (skipS))
  (retS (valF (callS f__law_alike (argsE [fzE (callE f_steps_from (argsE [fzE (sliceL (varB 3) (partE (constE (.int 1))) (noPart)), varE 4])), fzE (callE f__law_due_by (argsE [fzE (sliceL (varB 3) (partE (constE (.int 1))) (noPart)), varE 4]))])))))))))))))))
def f_law_k03 : List PD → R D := fnE 8 1 g_law_k03
theorem f_law_k03_len (ds : List PD) (h : ds.length ≠ 1) : f_law_k03 ds = .bad := fnE_len ds h
-- k04
def l_road_2 : Env → Out := ifS (notInD 4 (varE 7))
  (seqS (putDS 4 (varE 7) (constE (.bool true)))
  (pushS 3 (fzE (op2 catP (varB 6) (fzE (lstE [varE 7]))))))
  (skipS)
def l_road_1 : Env → Out := seqS (setS 6 (valF (op2 ixP (varB 3) (varB 5))))
  (seqS (ifS (op2 eqP (op2 ixP (varB 6) (op1 negP (constE (.int 1)))) (varB 2))
  (retV 6)
  (skipS))
  (seqS (forL (fzE (callE f_steps_from (argsE [varE 0, op2 ixP (varB 6) (op1 negP (constE (.int 1)))]))) (tgN 7)
  (l_road_2))
  (setS 5 (valF (op2 addP (varB 5) (constE (.int 1)))))))
def g_road : Env → Out := seqS (setS 3 (lstE [fzE (lstE [varE 1])]))
  (seqS (setS 4 (dic1 (varE 1) (constE (.bool true))))
  (seqS (setS 5 (valF (constE (.int 0))))
  (seqS (whileS (op2 ltP (varB 5) (op1 lenP (varB 3)))
  (l_road_1))
  (retS (valF (constE .none))))))
def f_road : List PD → R D := fnE 8 3 g_road
theorem f_road_len (ds : List PD) (h : ds.length ≠ 3) : f_road ds = .bad := fnE_len ds h
-- k04
def l__law_step_1 : Env → Out := ifS (orT (op2 eqP (varB 3) (tupE [op1 negP (varB 1), varE 2])) (op2 eqP (varB 3) (tupE [varE 2, op1 negP (varB 1)])))
  (retS (valF (constE (.bool true))))
  (skipS)
def g__law_step : Env → Out := seqS (forL (varE 0) (tgN 3)
  (l__law_step_1))
  (retS (valF (constE (.bool false))))
def f__law_step : List PD → R D := fnE 4 3 g__law_step
theorem f__law_step_len (ds : List PD) (h : ds.length ≠ 3) : f__law_step ds = .bad := fnE_len ds h
-- k04
def l__law_is_road_1 : Env → Out := ifS (orT (notT (op1 asB (callS f__law_whole (argsE [varB 2])))) (op2 eqP (varB 2) (constE (.int 0))))
  (retS (valF (constE (.bool false))))
  (skipS)
def l__law_is_road_2 : Env → Out := ifS (notT (op1 asB (callS f__law_step (argsE [varB 0, op2 ixP (varB 1) (varB 3), op2 ixP (varB 1) (op2 addP (varB 3) (constE (.int 1)))]))))
  (retS (valF (constE (.bool false))))
  (skipS)
def g__law_is_road : Env → Out := seqS (ifS (orT (notT (op1 asB (op1 (isiP "list") (varB 1)))) (op2 eqP (op1 lenP (varB 1)) (constE (.int 0))))
  (retS (valF (constE (.bool false))))
  (skipS))
  (seqS (forL (varE 1) (tgN 2)
  (l__law_is_road_1))
  (seqS (forR (argsE [op2 subP (op1 lenP (varB 1)) (constE (.int 1))]) (tgN 3)
  (l__law_is_road_2))
  (retS (valF (constE (.bool true))))))
def f__law_is_road : List PD → R D := fnE 4 2 g__law_is_road
theorem f__law_is_road_len (ds : List PD) (h : ds.length ≠ 2) : f__law_is_road ds = .bad := fnE_len ds h
-- k04
def l__law_fewest_3 : Env → Out := seqS (ifS (andT (op2 eqP (op2 ixP (varB 8) (constE (.int 0))) (op1 negP (varB 7))) (op2 (inP true) (op2 ixP (varB 8) (constE (.int 1))) (varB 4)))
  (seqS (pushS 4 (op2 ixP (varB 8) (constE (.int 1))))
  (pushS 6 (op2 ixP (varB 8) (constE (.int 1)))))
  (skipS))
  (ifS (andT (op2 eqP (op2 ixP (varB 8) (constE (.int 1))) (op1 negP (varB 7))) (op2 (inP true) (op2 ixP (varB 8) (constE (.int 0))) (varB 4)))
  (seqS (pushS 4 (op2 ixP (varB 8) (constE (.int 0))))
  (pushS 6 (op2 ixP (varB 8) (constE (.int 0)))))
  (skipS))
def l__law_fewest_2 : Env → Out := forL (varE 0) (tgN 8)
  (l__law_fewest_3)
def l__law_fewest_1 : Env → Out := seqS (ifS (op2 (inP false) (varB 2) (varB 3))
  (retV 5)
  (skipS))
  (seqS (setS 6 (lstE []))
  (seqS (forL (varE 3) (tgN 7)
  (l__law_fewest_2))
  (seqS (frzS 6) (seqS (setS 3 (valF (varE 6)))
  (setS 5 (valF (op2 addP (varB 5) (constE (.int 1)))))))))
def g__law_fewest : Env → Out := seqS (setS 3 (valF (fzE (lstE [varE 1]))))
  (seqS (setS 4 (lstE [varE 1]))
  (seqS (setS 5 (valF (constE (.int 0))))
  (seqS (whileS (op2 gtP (op1 lenP (varB 3)) (constE (.int 0)))
  (l__law_fewest_1))
  (retS (valF (op1 negP (constE (.int 1))))))))
def f__law_fewest : List PD → R D := fnE 9 3 g__law_fewest
theorem f__law_fewest_len (ds : List PD) (h : ds.length ≠ 3) : f__law_fewest ds = .bad := fnE_len ds h
-- k04
def g__law_right : Env → Out := seqS (setS 3 (valF (fzE (op1 listP (varB 0)))))
  (seqS (setS 4 (valF (fzE (callE f_road (argsE [varE 3, varE 1, varE 2])))))
  (seqS (setS 5 (valF (callS f__law_fewest (argsE [varB 0, varB 1, varB 2]))))
  (seqS (ifS (op2 neP (varB 3) (varB 0))
  (retS (valF (constE (.bool false))))
  (skipS))
  (seqS (ifS (op2 ltP (varB 5) (constE (.int 0)))
  (retS (valF (bvE (op2 isNP (varB 4) (constE .none)))))
  (skipS))
  (seqS (ifS (orT (notT (op1 asB (callS f__law_is_road (argsE [varB 0, varB 4])))) (op2 neP (op1 lenP (varB 4)) (op2 addP (varB 5) (constE (.int 1)))))
  (retS (valF (constE (.bool false))))
  (skipS))
  (retS (valF (andV (bvE (op2 eqP (op2 ixP (varB 4) (constE (.int 0))) (varB 1))) (bvE (op2 eqP (op2 ixP (varB 4) (op1 negP (constE (.int 1)))) (varB 2)))))))))))
def f__law_right : List PD → R D := fnE 6 3 g__law_right
theorem f__law_right_len (ds : List PD) (h : ds.length ≠ 3) : f__law_right ds = .bad := fnE_len ds h
-- k04
def l_law_k04_1 : Env → Out := putS 3 (varE 4) (tupE [op1 negP (op2 ixP (op2 ixP (varB 3) (op2 subP (varB 4) (constE (.int 1)))) (constE (.int 1))), op2 ixP (op2 ixP (varB 3) (varB 4)) (constE (.int 1))])
def g_law_k04 : Env → Out := seqS (setS 1 (valF (callS f__law_many_by (argsE [callS f__law_cell_at (argsE [varB 0, constE (.int 0)]), constE (.int 7)]))))
  (seqS (setS 2 (valF (op2 modP (callS f__law_cell_at (argsE [varB 0, constE (.int 1)])) (constE (.int 16)))))
  (seqS (setS 3 (callE f__law_pile_by (argsE [varE 0, constE (.int 4), varE 1, varE 2])))
  (seqS (ifS (op2 eqP (op2 modP (op2 divP (callS f__law_cell_at (argsE [varB 0, constE (.int 1)])) (constE (.int 16))) (constE (.int 2))) (constE (.int 1)))
  (forR (argsE [constE (.int 1), varE 2]) (tgN 4)
  (l_law_k04_1))
  (skipS))
  (seqS (setS 5 (valF (callS f__law_lit_by (argsE [op2 modP (callS f__law_cell_at (argsE [varB 0, constE (.int 2)])) (op2 mulP (constE (.int 2)) (varB 1))]))))
  (seqS (setS 6 (valF (callS f__law_lit_by (argsE [op2 modP (callS f__law_cell_at (argsE [varB 0, constE (.int 3)])) (op2 mulP (constE (.int 2)) (varB 1))]))))
  (seqS (ifS (andT (op2 gtP (varB 2) (constE (.int 0))) (op2 eqP (op2 modP (op2 divP (callS f__law_cell_at (argsE [varB 0, constE (.int 1)])) (constE (.int 32))) (constE (.int 2))) (constE (.int 1))))
  (seqS (setS 5 (valF (op1 negP (op2 ixP (op2 ixP (varB 3) (constE (.int 0))) (constE (.int 0))))))
  (setS 6 (valF (op2 ixP (op2 ixP (varB 3) (op2 subP (varB 2) (constE (.int 1)))) (constE (.int 1))))))
  (skipS))
  (retS (valF (andV (callS f__law_right (argsE [varB 3, varB 5, varB 6])) (callS f__law_right (argsE [fzE (sliceL (varB 3) (noPart) (partE (op1 negP (constE (.int 1))))), varB 5, varB 6])))))))))))
def f_law_k04 : List PD → R D := fnE 7 1 g_law_k04
theorem f_law_k04_len (ds : List PD) (h : ds.length ≠ 1) : f_law_k04 ds = .bad := fnE_len ds h
-- k05
def l_clash_1 : Env → Out := seqS (setS 3 (valF (fzE (callE f_road (argsE [varE 1, varE 2, op1 negP (varB 2)])))))
  (seqS (setS 4 (valF (fzE (callE f_road (argsE [varE 1, op1 negP (varB 2), varE 2])))))
  (ifS (andT (op2 notNP (varB 3) (constE .none)) (op2 notNP (varB 4) (constE .none)))
  (retS (op2 catP (varB 3) (fzE (sliceL (varB 4) (partE (constE (.int 1))) (noPart)))))
  (skipS)))
def g_clash : Env → Out := seqS (forR (argsE [constE (.int 1), op2 addP (varB 0) (constE (.int 1))]) (tgN 2)
  (l_clash_1))
  (retS (valF (constE .none)))
def f_clash : List PD → R D := fnE 5 2 g_clash
theorem f_clash_len (ds : List PD) (h : ds.length ≠ 2) : f_clash ds = .bad := fnE_len ds h
-- k05
def l_spread_1 : Env → Out := ifS (op2 (inP true) (varB 3) (varB 2))
  (pushS 2 (varE 3))
  (skipS)
def l_spread_3 : Env → Out := ifS (op2 (inP true) (varB 5) (varB 2))
  (pushS 2 (varE 5))
  (skipS)
def l_spread_2 : Env → Out := seqS (forL (fzE (callE f_steps_from (argsE [varE 0, op2 ixP (varB 2) (varB 4)]))) (tgN 5)
  (l_spread_3))
  (setS 4 (valF (op2 addP (varB 4) (constE (.int 1)))))
def g_spread : Env → Out := seqS (setS 2 (lstE []))
  (seqS (forL (varE 1) (tgN 3)
  (l_spread_1))
  (seqS (setS 4 (valF (constE (.int 0))))
  (seqS (whileS (op2 ltP (varB 4) (op1 lenP (varB 2)))
  (l_spread_2))
  (retV 2))))
def f_spread : List PD → R D := fnE 6 2 g_spread
theorem f_spread_len (ds : List PD) (h : ds.length ≠ 2) : f_spread ds = .bad := fnE_len ds h
-- k05
def l_peaceful_1 : Env → Out := ifS (op2 (inP false) (op1 negP (varB 1)) (varB 0))
  (retS (valF (constE (.bool false))))
  (skipS)
def g_peaceful : Env → Out := seqS (forL (varE 0) (tgN 1)
  (l_peaceful_1))
  (retS (valF (constE (.bool true))))
def f_peaceful : List PD → R D := fnE 2 1 g_peaceful
theorem f_peaceful_len (ds : List PD) (h : ds.length ≠ 1) : f_peaceful ds = .bad := fnE_len ds h
-- k05
def l_least_with_1 : Env → Out := ifS (andT (op2 (inP true) (varB 4) (varB 3)) (op2 (inP true) (op1 negP (varB 4)) (varB 3)))
  (seqS (setS 5 (valF (fzE (callE f_spread (argsE [varE 1, fzE (op2 catP (varB 3) (fzE (lstE [op1 negP (varB 4)])))])))))
  (seqS (ifS (notT (op1 asB (callS f_peaceful (argsE [varB 5]))))
  (seqS (setS 5 (valF (fzE (callE f_spread (argsE [varE 1, fzE (op2 catP (varB 3) (fzE (lstE [varE 4])))])))))
  (ifS (notT (op1 asB (callS f_peaceful (argsE [varB 5]))))
  (retS (valF (constE .none)))
  (skipS)))
  (skipS))
  (setS 3 (valF (varE 5)))))
  (skipS)
def g_least_with : Env → Out := seqS (setS 3 (valF (fzE (callE f_spread (argsE [varE 1, varE 2])))))
  (seqS (ifS (notT (op1 asB (callS f_peaceful (argsE [varB 3]))))
  (retS (valF (constE .none)))
  (skipS))
  (seqS (forR (argsE [constE (.int 1), op2 addP (varB 0) (constE (.int 1))]) (tgN 4)
  (l_least_with_1))
  (retS (lcRg 4 (argsE [constE (.int 1), op2 addP (varB 0) (constE (.int 1))]) (yesT) (bvE (op2 (inP false) (varB 4) (varB 3)))))))
def f_least_with : List PD → R D := fnE 6 3 g_least_with
theorem f_least_with_len (ds : List PD) (h : ds.length ≠ 3) : f_least_with ds = .bad := fnE_len ds h
-- k05
def g_least : Env → Out := retS (callE f_least_with (argsE [varE 0, varE 1, fzE (lstE [])]))
def f_least : List PD → R D := fnE 2 2 g_least
theorem f_least_len (ds : List PD) (h : ds.length ≠ 2) : f_least ds = .bad := fnE_len ds h
-- k05
def l__law_is_setting_1 : Env → Out := ifS (notT (op1 asB (op1 (isiP "bool") (varB 2))))
  (retS (valF (constE (.bool false))))
  (skipS)
def g__law_is_setting : Env → Out := seqS (ifS (orT (notT (op1 asB (op1 (isiP "list") (varB 0)))) (op2 neP (op1 lenP (varB 0)) (varB 1)))
  (retS (valF (constE (.bool false))))
  (skipS))
  (seqS (forL (varE 0) (tgN 2)
  (l__law_is_setting_1))
  (retS (valF (constE (.bool true)))))
def f__law_is_setting : List PD → R D := fnE 3 2 g__law_is_setting
theorem f__law_is_setting_len (ds : List PD) (h : ds.length ≠ 2) : f__law_is_setting ds = .bad := fnE_len ds h
-- k05
def l__law_is_ring_1 : Env → Out := ifS (op2 (inP false) (op1 negP (varB 2)) (varB 1))
  (retS (valF (constE (.bool true))))
  (skipS)
def g__law_is_ring : Env → Out := seqS (ifS (orT (notT (op1 asB (callS f__law_is_road (argsE [varB 0, varB 1])))) (op2 neP (op2 ixP (varB 1) (constE (.int 0))) (op2 ixP (varB 1) (op1 negP (constE (.int 1))))))
  (retS (valF (constE (.bool false))))
  (skipS))
  (seqS (forL (varE 1) (tgN 2)
  (l__law_is_ring_1))
  (retS (valF (constE (.bool false)))))
def f__law_is_ring : List PD → R D := fnE 3 2 g__law_is_ring
theorem f__law_is_ring_len (ds : List PD) (h : ds.length ≠ 2) : f__law_is_ring ds = .bad := fnE_len ds h
-- k05
def g__law_knot : Env → Out := seqS (setS 2 (valF (op2 addP (op2 modP (varB 0) (varB 1)) (constE (.int 1)))))
  (seqS (setS 3 (valF (op2 addP (op2 modP (op2 divP (varB 0) (varB 1)) (varB 1)) (constE (.int 1)))))
  (seqS (setS 4 (valF (fzE (lstE [tupE [varE 2, varE 3], tupE [varE 2, op1 negP (varB 3)], tupE [op1 negP (varB 2), varE 3], tupE [op1 negP (varB 2), op1 negP (varB 3)]]))))
  (retS (sliceL (varB 4) (noPart) (partE (op2 modP (op2 divP (varB 0) (op2 mulP (varB 1) (varB 1))) (constE (.int 5))))))))
def f__law_knot : List PD → R D := fnE 5 2 g__law_knot
theorem f__law_knot_len (ds : List PD) (h : ds.length ≠ 2) : f__law_knot ds = .bad := fnE_len ds h
-- k05
def g_law_k05 : Env → Out := seqS (setS 1 (valF (callS f__law_many_by (argsE [callS f__law_cell_at (argsE [varB 0, constE (.int 0)]), constE (.int 7)]))))
  (seqS (setS 2 (valF (callS f__law_cell_at (argsE [varB 0, constE (.int 1)]))))
  (seqS (setS 3 (valF (fzE (callE f__law_pile_by (argsE [varE 0, constE (.int 5), varE 1, op2 modP (varB 2) (constE (.int 13))])))))
  (seqS (ifS (andT (op2 ltP (varB 1) (constE (.int 8))) (op2 eqP (op2 modP (op2 divP (varB 2) (constE (.int 39))) (constE (.int 6))) (constE (.int 1))))
  (seqS (setS 3 (valF (fzE (callE f__law_far_pile (argsE [callS f__law_cell_at (argsE [varB 0, constE (.int 3)]), varE 1, op2 addP (constE (.int 17)) (op2 modP (op2 divP (varB 2) (constE (.int 234))) (constE (.int 24)))])))))
  (setS 3 (valF (fzE (callE f__law_turned (argsE [varE 3, fzE (callE f__law_bits_by (argsE [callS f__law_cell_at (argsE [varB 0, constE (.int 4)]), varE 1]))]))))))
  (skipS))
  (seqS (ifS (op2 eqP (op2 modP (op2 divP (varB 2) (constE (.int 13))) (constE (.int 3))) (constE (.int 1)))
  (seqS (setS 4 (valF (op2 modP (callS f__law_cell_at (argsE [varB 0, constE (.int 2)])) (op2 addP (op1 lenP (varB 3)) (constE (.int 1))))))
  (setS 3 (valF (fzE (op2 catP (fzE (op2 catP (fzE (sliceL (varB 3) (noPart) (partE (varB 4)))) (fzE (callE f__law_knot (argsE [op2 divP (callS f__law_cell_at (argsE [varB 0, constE (.int 2)])) (constE (.int 41)), varE 1]))))) (fzE (sliceL (varB 3) (partE (varB 4)) (noPart))))))))
  (skipS))
  (seqS (setS 5 (valF (fzE (lstE [fzE (op1 listP (varB 3)), fzE (op1 listP (varB 3))]))))
  (seqS (setS 6 (valF (fzE (callE f_least (argsE [varE 1, op2 ixP (varB 5) (constE (.int 0))])))))
  (seqS (setS 7 (valF (fzE (callE f_clash (argsE [varE 1, op2 ixP (varB 5) (constE (.int 1))])))))
  (seqS (ifS (orT (op2 neP (op2 ixP (varB 5) (constE (.int 0))) (varB 3)) (op2 neP (op2 ixP (varB 5) (constE (.int 1))) (varB 3)))
  (retS (valF (constE (.bool false))))
  (skipS))
  (seqS (ifS (op2 isNP (varB 6) (constE .none))
  (retS (valF (callS f__law_is_ring (argsE [varB 3, varB 7]))))
  (skipS))
  (retS (valF (andV (bvE (op2 isNP (varB 7) (constE .none))) (andV (callS f__law_is_setting (argsE [varB 6, varB 1])) (callS f__law_all_true (argsE [varB 3, varB 6])))))))))))))))
def f_law_k05 : List PD → R D := fnE 8 1 g_law_k05
theorem f_law_k05_len (ds : List PD) (h : ds.length ≠ 1) : f_law_k05 ds = .bad := fnE_len ds h
-- k06
def l__law_settings_2 : Env → Out := seqS (pushS 3 (fzE (op2 catP (varB 4) (fzE (lstE [constE (.bool false)])))))
  (pushS 3 (fzE (op2 catP (varB 4) (fzE (lstE [constE (.bool true)])))))
def l__law_settings_1 : Env → Out := seqS (setS 3 (lstE []))
  (seqS (forL (varE 1) (tgN 4)
  (l__law_settings_2))
  (seqS (frzS 3) (setS 1 (valF (varE 3)))))
def g__law_settings : Env → Out := seqS (setS 1 (valF (fzE (lstE [fzE (lstE [])]))))
  (seqS (forR (argsE [varE 0]) (tgN 2)
  (l__law_settings_1))
  (retV 1))
def f__law_settings : List PD → R D := fnE 5 1 g__law_settings
theorem f__law_settings_len (ds : List PD) (h : ds.length ≠ 1) : f__law_settings ds = .bad := fnE_len ds h
-- k06
def l__law_first_1 : Env → Out := ifS (op1 asB (callS f__law_all_true (argsE [varB 1, varB 2])))
  (retV 2)
  (skipS)
def g__law_first : Env → Out := seqS (forL (fzE (callE f__law_settings (argsE [varE 0]))) (tgN 2)
  (l__law_first_1))
  (retS (valF (constE .none)))
def f__law_first : List PD → R D := fnE 3 2 g__law_first
theorem f__law_first_len (ds : List PD) (h : ds.length ≠ 2) : f__law_first ds = .bad := fnE_len ds h
-- k06
def g__law_alike_k06 : Env → Out := seqS (ifS (op2 isNP (varB 1) (constE .none))
  (retS (valF (bvE (op2 isNP (varB 0) (constE .none)))))
  (skipS))
  (retS (valF (andV (callS f__law_is_setting (argsE [varB 0, varB 2])) (bvE (op2 eqP (varB 0) (varB 1))))))
def f__law_alike_k06 : List PD → R D := fnE 3 3 g__law_alike_k06
theorem f__law_alike_k06_len (ds : List PD) (h : ds.length ≠ 3) : f__law_alike_k06 ds = .bad := fnE_len ds h
-- k06
def l_law_k06_1 : Env → Out := pushS 3 (callS f__law_lit_by (argsE [op2 modP (callS f__law_cell_at (argsE [varB 0, op2 addP (constE (.int 2)) (varB 4)])) (op2 mulP (constE (.int 2)) (varB 1))]))
def g_law_k06 : Env → Out := seqS (setS 1 (valF (op2 addP (constE (.int 1)) (op2 modP (callS f__law_cell_at (argsE [varB 0, constE (.int 0)])) (constE (.int 6))))))
  (seqS (setS 2 (valF (fzE (callE f__law_pile_by (argsE [varE 0, constE (.int 4), varE 1, op2 modP (callS f__law_cell_at (argsE [varB 0, constE (.int 1)])) (constE (.int 12))])))))
  (seqS (setS 3 (lstE []))
  (seqS (forR (argsE [op2 modP (op2 divP (callS f__law_cell_at (argsE [varB 0, constE (.int 0)])) (constE (.int 6))) (constE (.int 3))]) (tgN 4)
  (l_law_k06_1))
  (seqS (setS 5 (valF (fzE (lstE [fzE (op1 listP (varB 2)), fzE (op1 listP (varB 3))]))))
  (seqS (frzS 3) (seqS (setS 6 (valF (fzE (callE f__law_first (argsE [varE 1, fzE (op2 catP (varB 2) (fzE (lcL 7 (varE 3) (yesT) (tupE [varE 7, varE 7]))))])))))
  (seqS (setS 8 (callE f_least_with (argsE [varE 1, op2 ixP (varB 5) (constE (.int 0)), op2 ixP (varB 5) (constE (.int 1))])))
  (seqS (frzS 3) (seqS (ifS (orT (notT (op1 asB (callS f__law_alike_k06 (argsE [varB 8, varB 6, varB 1])))) (op2 neP (varB 5) (fzE (lstE [varE 2, varE 3]))))
  (retS (valF (constE (.bool false))))
  (skipS))
  (seqS (ifS (op2 notNP (varB 8) (constE .none))
  (pushS 8 (constE (.bool true)))
  (skipS))
  (seqS (ifS (notT (op1 asB (callS f__law_alike_k06 (argsE [fzE (callE f_least_with (argsE [varE 1, fzE (op1 listP (varB 2)), fzE (op1 listP (varB 3))])), varB 6, varB 1]))))
  (retS (valF (constE (.bool false))))
  (skipS))
  (retS (valF (callS f__law_alike_k06 (argsE [fzE (callE f_least (argsE [varE 1, fzE (op1 listP (varB 2))])), fzE (callE f__law_first (argsE [varE 1, varE 2])), varB 1])))))))))))))))
def f_law_k06 : List PD → R D := fnE 9 1 g_law_k06
theorem f_law_k06_len (ds : List PD) (h : ds.length ≠ 1) : f_law_k06 ds = .bad := fnE_len ds h
-- k07
def l_next_good_1 : Env → Out := ifS (notT (op1 asB (op2 ixP (varB 2) (op2 subP (varB 3) (constE (.int 1))))))
  (seqS (setS 4 (lcRg 5 (argsE [constE (.int 1), varE 3]) (yesT) (iteE (op1 asB (op2 ixP (varB 2) (op2 subP (varB 5) (constE (.int 1))))) (varE 5) (op1 negP (varB 5)))))
  (seqS (frzS 4) (seqS (setS 6 (valF (fzE (callE f_least_with (argsE [varE 0, varE 1, fzE (op2 catP (varB 4) (fzE (lstE [varE 3])))])))))
  (ifS (op2 notNP (varB 6) (constE .none))
  (retV 6)
  (skipS)))))
  (skipS)
def g_next_good : Env → Out := seqS (forR (argsE [varE 0, constE (.int 0), op1 negP (constE (.int 1))]) (tgN 3)
  (l_next_good_1))
  (retS (valF (constE .none)))
def f_next_good : List PD → R D := fnE 7 3 g_next_good
theorem f_next_good_len (ds : List PD) (h : ds.length ≠ 3) : f_next_good ds = .bad := fnE_len ds h
-- k07
def l__law_behind_1 : Env → Out := seqS (ifS (andT (op1 asB (varE 3)) (op2 (inP false) (varB 4) (varB 0)))
  (retV 4)
  (skipS))
  (ifS (op2 eqP (varB 4) (varB 1))
  (setS 3 (valF (constE (.bool true))))
  (skipS))
def g__law_behind : Env → Out := seqS (setS 3 (valF (constE (.bool false))))
  (seqS (forL (fzE (callE f__law_settings (argsE [varE 2]))) (tgN 4)
  (l__law_behind_1))
  (retS (valF (constE .none))))
def f__law_behind : List PD → R D := fnE 5 3 g__law_behind
theorem f__law_behind_len (ds : List PD) (h : ds.length ≠ 3) : f__law_behind ds = .bad := fnE_len ds h
-- k07
def l_law_k07_1 : Env → Out := seqS (ifS (notT (op1 asB (callS f__law_alike_k06 (argsE [varB 5, varB 4, varB 1]))))
  (retS (valF (constE (.bool false))))
  (skipS))
  (seqS (setS 6 (valF (fzE (op1 listP (varB 5)))))
  (seqS (setS 5 (valF (fzE (callE f_next_good (argsE [varE 1, fzE (op1 listP (varB 2)), varE 6])))))
  (ifS (op2 neP (varB 6) (varB 4))
  (retS (valF (constE (.bool false))))
  (skipS))))
def g_law_k07 : Env → Out := seqS (setS 1 (valF (op2 addP (constE (.int 1)) (op2 modP (callS f__law_cell_at (argsE [varB 0, constE (.int 0)])) (constE (.int 5))))))
  (seqS (setS 2 (valF (fzE (callE f__law_pile_by (argsE [varE 0, constE (.int 3), varE 1, op2 modP (callS f__law_cell_at (argsE [varB 0, constE (.int 1)])) (constE (.int 9))])))))
  (seqS (setS 3 (lcL 4 (fzE (callE f__law_settings (argsE [varE 1]))) (op1 asB (callS f__law_all_true (argsE [varB 2, varB 4]))) (varE 4)))
  (seqS (frzS 3) (seqS (setS 5 (valF (fzE (callE f_least (argsE [varE 1, fzE (op1 listP (varB 2))])))))
  (seqS (forL (varE 3) (tgN 4)
  (l_law_k07_1))
  (seqS (ifS (op2 notNP (varB 5) (constE .none))
  (retS (valF (constE (.bool false))))
  (skipS))
  (seqS (setS 7 (valF (fzE (callE f__law_bits_by (argsE [callS f__law_cell_at (argsE [varB 0, constE (.int 2)]), varE 1])))))
  (seqS (setS 6 (valF (fzE (lstE [fzE (op1 listP (varB 2)), fzE (op1 listP (varB 7))]))))
  (seqS (setS 5 (valF (fzE (callE f_next_good (argsE [varE 1, op2 ixP (varB 6) (constE (.int 0)), op2 ixP (varB 6) (constE (.int 1))])))))
  (retS (valF (andV (callS f__law_alike_k06 (argsE [varB 5, fzE (callE f__law_behind (argsE [varE 3, varE 7, varE 1])), varB 1])) (bvE (op2 eqP (varB 6) (fzE (lstE [varE 2, varE 7]))))))))))))))))
def f_law_k07 : List PD → R D := fnE 8 1 g_law_k07
theorem f_law_k07_len (ds : List PD) (h : ds.length ≠ 1) : f_law_k07 ds = .bad := fnE_len ds h
-- k08
def l_why_1 : Env → Out := seqS (setS 8 (valF (fzE (callE f_road (argsE [varE 1, varE 6, varE 7])))))
  (ifS (op2 notNP (varB 8) (constE .none))
  (retS (valF (tupE [constE (.str ("road" : Str)), varE 8])))
  (skipS))
def g_why : Env → Out := seqS (setS 3 (valF (fzE (callE f_clash (argsE [varE 0, varE 1])))))
  (seqS (ifS (op2 notNP (varB 3) (constE .none))
  (retS (valF (tupE [constE (.str ("ring" : Str)), varE 3])))
  (skipS))
  (seqS (setS 4 (valF (op2 ixP (varB 2) (constE (.int 0)))))
  (seqS (setS 5 (valF (op2 ixP (varB 2) (constE (.int 1)))))
  (seqS (forL (fzE (lstE [tupE [op1 negP (varB 4), varE 5], tupE [op1 negP (varB 4), varE 4], tupE [op1 negP (varB 5), varE 5]])) (tgT 6 7)
  (l_why_1))
  (retS (valF (constE .none)))))))
def f_why : List PD → R D := fnE 9 3 g_why
theorem f_why_len (ds : List PD) (h : ds.length ≠ 3) : f_why ds = .bad := fnE_len ds h
-- k08
def g_against : Env → Out := retS (callE f_least_with (argsE [varE 0, varE 1, fzE (lstE [op1 negP (op2 ixP (varB 2) (constE (.int 0))), op1 negP (op2 ixP (varB 2) (constE (.int 1)))])]))
def f_against : List PD → R D := fnE 3 3 g_against
theorem f_against_len (ds : List PD) (h : ds.length ≠ 3) : f_against ds = .bad := fnE_len ds h
-- k08
def g__law_shows : Env → Out := seqS (ifS (orT (notT (op1 asB (op1 (isiP "tuple") (varB 2)))) (op2 neP (op1 lenP (varB 2)) (constE (.int 2))))
  (retS (valF (constE (.bool false))))
  (skipS))
  (seqS (ifS (orT (notT (op1 asB (op1 (isiP "str") (op2 ixP (varB 2) (constE (.int 0)))))) (op2 neP (op2 ixP (varB 2) (constE (.int 0))) (op2 ixP (fzE (lstE [constE (.str ("ring" : Str)), constE (.str ("road" : Str))])) (op1 intP (varB 3)))))
  (retS (valF (constE (.bool false))))
  (skipS))
  (seqS (ifS (notT (op1 asB (varE 3)))
  (retS (valF (callS f__law_is_ring (argsE [varB 0, op2 ixP (varB 2) (constE (.int 1))]))))
  (skipS))
  (seqS (ifS (notT (op1 asB (callS f__law_is_road (argsE [varB 0, op2 ixP (varB 2) (constE (.int 1))]))))
  (retS (valF (constE (.bool false))))
  (skipS))
  (retS (valF (andV (bvE (op2 (inP false) (op1 negP (op2 ixP (op2 ixP (varB 2) (constE (.int 1))) (constE (.int 0)))) (varB 1))) (bvE (op2 (inP false) (op2 ixP (op2 ixP (varB 2) (constE (.int 1))) (op1 negP (constE (.int 1)))) (varB 1)))))))))
def f__law_shows : List PD → R D := fnE 4 4 g__law_shows
theorem f__law_shows_len (ds : List PD) (h : ds.length ≠ 4) : f__law_shows ds = .bad := fnE_len ds h
-- k08
def l_law_k08_1 : Env → Out := putS 3 (varE 4) (tupE [op1 negP (op2 ixP (op2 ixP (varB 3) (op2 subP (varB 4) (constE (.int 1)))) (constE (.int 1))), op2 ixP (op2 ixP (varB 3) (varB 4)) (constE (.int 1))])
def g_law_k08 : Env → Out := seqS (setS 1 (valF (callS f__law_many_by (argsE [callS f__law_cell_at (argsE [varB 0, constE (.int 0)]), constE (.int 7)]))))
  (seqS (setS 2 (valF (op2 modP (callS f__law_cell_at (argsE [varB 0, constE (.int 1)])) (constE (.int 15)))))
  (seqS (setS 3 (callE f__law_pile_by (argsE [varE 0, constE (.int 4), varE 1, varE 2])))
  (seqS (ifS (andT (op2 ltP (varB 1) (constE (.int 8))) (op2 eqP (op2 modP (op2 divP (callS f__law_cell_at (argsE [varB 0, constE (.int 1)])) (constE (.int 60))) (constE (.int 6))) (constE (.int 1))))
  (seqS (setS 2 (valF (op2 addP (constE (.int 17)) (op2 modP (op2 divP (callS f__law_cell_at (argsE [varB 0, constE (.int 1)])) (constE (.int 360))) (constE (.int 20))))))
  (setS 3 (callE f__law_far_pile (argsE [callS f__law_cell_at (argsE [varB 0, constE (.int 4)]), varE 1, varE 2]))))
  (skipS))
  (seqS (ifS (op2 eqP (op2 modP (op2 divP (callS f__law_cell_at (argsE [varB 0, constE (.int 1)])) (constE (.int 15))) (constE (.int 2))) (constE (.int 1)))
  (forR (argsE [constE (.int 1), varE 2]) (tgN 4)
  (l_law_k08_1))
  (skipS))
  (seqS (setS 5 (valF (callS f__law_lit_by (argsE [op2 modP (callS f__law_cell_at (argsE [varB 0, constE (.int 2)])) (op2 mulP (constE (.int 2)) (varB 1))]))))
  (seqS (setS 6 (valF (tupE [varE 5, callS f__law_lit_by (argsE [op2 modP (callS f__law_cell_at (argsE [varB 0, constE (.int 3)])) (op2 mulP (constE (.int 2)) (varB 1))])])))
  (seqS (ifS (andT (op2 gtP (varB 2) (constE (.int 0))) (op2 eqP (op2 modP (op2 divP (callS f__law_cell_at (argsE [varB 0, constE (.int 1)])) (constE (.int 30))) (constE (.int 2))) (constE (.int 1))))
  (setS 6 (valF (tupE [op2 ixP (op2 ixP (varB 3) (constE (.int 0))) (constE (.int 0)), op2 ixP (op2 ixP (varB 3) (op2 subP (varB 2) (constE (.int 1)))) (constE (.int 1))])))
  (skipS))
  (seqS (setS 7 (valF (fzE (lstE [fzE (op1 listP (varB 3)), fzE (op1 listP (varB 3))]))))
  (seqS (setS 8 (valF (fzE (callE f_why (argsE [varE 1, op2 ixP (varB 7) (constE (.int 0)), varE 6])))))
  (seqS (setS 9 (valF (fzE (callE f_against (argsE [varE 1, op2 ixP (varB 7) (constE (.int 1)), varE 6])))))
  (seqS (ifS (orT (op2 neP (op2 ixP (varB 7) (constE (.int 0))) (varB 3)) (op2 neP (op2 ixP (varB 7) (constE (.int 1))) (varB 3)))
  (retS (valF (constE (.bool false))))
  (skipS))
  (seqS (ifS (op2 isNP (varB 9) (constE .none))
  (retS (valF (callS f__law_shows (argsE [varB 3, varB 6, varB 8, bvE (op2 notNP (fzE (callE f_least (argsE [varE 1, fzE (op1 listP (varB 3))]))) (constE .none))]))))
  (skipS))
  (seqS (ifS (orT (op2 notNP (varB 8) (constE .none)) (notT (op1 asB (callS f__law_is_setting (argsE [varB 9, varB 1])))))
  (retS (valF (constE (.bool false))))
  (skipS))
  (retS (valF (andV (callS f__law_all_true (argsE [varB 3, varB 9])) (notV (callS f__law_true (argsE [varB 6, varB 9])))))))))))))))))))
def f_law_k08 : List PD → R D := fnE 10 1 g_law_k08
theorem f_law_k08_len (ds : List PD) (h : ds.length ≠ 1) : f_law_k08 ds = .bad := fnE_len ds h
-- k09
def l_settled_2 : Env → Out := ifS (op2 notNP (fzE (callE f_road (argsE [varE 1, op1 negP (varB 4), varE 4]))) (constE .none))
  (pushS 2 (varE 4))
  (skipS)
def l_settled_1 : Env → Out := forL (fzE (lstE [varE 3, op1 negP (varB 3)])) (tgN 4)
  (l_settled_2)
def g_settled : Env → Out := seqS (ifS (callN f_least (argsE [varB 0, varB 1]))
  (raiseS ("NoSetting" : Str))
  (skipS))
  (seqS (setS 2 (lstE []))
  (seqS (forR (argsE [constE (.int 1), op2 addP (varB 0) (constE (.int 1))]) (tgN 3)
  (l_settled_1))
  (retV 2)))
def f_settled : List PD → R D := fnE 5 2 g_settled
theorem f_settled_len (ds : List PD) (h : ds.length ≠ 2) : f_settled ds = .bad := fnE_len ds h
-- k09
def l__law_settled_by_2 : Env → Out := ifS (op2 eqP (op1 lenP (fzE (lcL 5 (varE 1) (notT (op1 asB (callS f__law_true (argsE [tupE [varE 4, varE 4], varB 5])))) (varE 5)))) (constE (.int 0)))
  (pushS 2 (varE 4))
  (skipS)
def l__law_settled_by_1 : Env → Out := forL (fzE (lstE [varE 3, op1 negP (varB 3)])) (tgN 4)
  (l__law_settled_by_2)
def g__law_settled_by : Env → Out := seqS (setS 2 (lstE []))
  (seqS (forR (argsE [constE (.int 1), op2 addP (varB 0) (constE (.int 1))]) (tgN 3)
  (l__law_settled_by_1))
  (retV 2))
def f__law_settled_by : List PD → R D := fnE 6 2 g__law_settled_by
theorem f__law_settled_by_len (ds : List PD) (h : ds.length ≠ 2) : f__law_settled_by ds = .bad := fnE_len ds h
-- k09
def g__law_refused : Env → Out := seqS (tryS (dropS (callE f_settled (argsE [varE 0, fzE (op1 listP (varB 1))]))) ("NoSetting" : Str) (.bool true))
  (retS (valF (constE (.bool false))))
def f__law_refused : List PD → R D := fnE 4 2 g__law_refused
theorem f__law_refused_len (ds : List PD) (h : ds.length ≠ 2) : f__law_refused ds = .bad := fnE_len ds h
-- k09
def l__law_against_1 : Env → Out := ifS (notT (op1 asB (callS f__law_true (argsE [varB 1, varB 2]))))
  (retV 2)
  (skipS)
def g__law_against : Env → Out := seqS (forL (varE 0) (tgN 2)
  (l__law_against_1))
  (retS (valF (constE .none)))
def f__law_against : List PD → R D := fnE 3 2 g__law_against
theorem f__law_against_len (ds : List PD) (h : ds.length ≠ 2) : f__law_against ds = .bad := fnE_len ds h
-- k09
def l_law_k09_1 : Env → Out := ifS (notT (op1 asB (callS f__law_whole (argsE [varB 3]))))
  (retS (valF (constE (.bool false))))
  (skipS)
def g_law_k09 : Env → Out := seqS (setS 1 (valF (op2 addP (constE (.int 1)) (op2 modP (callS f__law_cell_at (argsE [varB 0, constE (.int 0)])) (constE (.int 6))))))
  (seqS (setS 2 (callE f__law_pile_by (argsE [varE 0, constE (.int 4), varE 1, op2 modP (callS f__law_cell_at (argsE [varB 0, constE (.int 1)])) (constE (.int 12))])))
  (seqS (ifS (op2 eqP (op2 modP (op2 divP (callS f__law_cell_at (argsE [varB 0, constE (.int 1)])) (constE (.int 12))) (constE (.int 2))) (constE (.int 1)))
  (seqS (setS 3 (valF (callS f__law_lit_by (argsE [op2 modP (callS f__law_cell_at (argsE [varB 0, constE (.int 2)])) (op2 mulP (constE (.int 2)) (varB 1))]))))
  (pushS 2 (tupE [varE 3, varE 3])))
  (skipS))
  (seqS (setS 4 (valF (callS f__law_cell_at (argsE [varB 0, constE (.int 3)]))))
  (seqS (setS 5 (valF (tupE [callS f__law_lit_by (argsE [op2 modP (varB 4) (op2 mulP (constE (.int 2)) (varB 1))]), callS f__law_lit_by (argsE [op2 modP (op2 divP (varB 4) (op2 mulP (constE (.int 2)) (varB 1))) (op2 mulP (constE (.int 2)) (varB 1))])])))
  (seqS (setS 6 (lcL 7 (fzE (callE f__law_settings (argsE [varE 1]))) (op1 asB (callS f__law_all_true (argsE [varB 2, varB 7]))) (varE 7)))
  (seqS (frzS 6) (seqS (setS 7 (valF (fzE (callE f__law_against (argsE [varE 6, varE 5])))))
  (seqS (setS 8 (valF (fzE (op1 listP (varB 2)))))
  (seqS (setS 9 (valF (fzE (callE f_against (argsE [varE 1, varE 8, varE 5])))))
  (seqS (ifS (andT (op2 isNP (varB 7) (constE .none)) (op2 notNP (varB 9) (constE .none)))
  (retS (valF (constE (.bool false))))
  (skipS))
  (seqS (ifS (andT (op2 notNP (varB 7) (constE .none)) (orT (notT (op1 asB (callS f__law_is_setting (argsE [varB 9, varB 1])))) (op2 neP (varB 9) (varB 7))))
  (retS (valF (constE (.bool false))))
  (skipS))
  (seqS (ifS (op2 eqP (op1 lenP (varB 6)) (constE (.int 0)))
  (seqS (frzS 2) (retS (valF (andV (fzE (callE f__law_refused (argsE [varE 1, varE 2]))) (bvE (op2 eqP (varB 8) (varB 2)))))))
  (skipS))
  (seqS (setS 9 (valF (fzE (callE f_settled (argsE [varE 1, varE 8])))))
  (seqS (ifS (orT (notT (op1 asB (op1 (isiP "list") (varB 9)))) (op2 neP (varB 8) (varB 2)))
  (retS (valF (constE (.bool false))))
  (skipS))
  (seqS (forL (varE 9) (tgN 3)
  (l_law_k09_1))
  (retS (valF (bvE (op2 eqP (varB 9) (fzE (callE f__law_settled_by (argsE [varE 1, varE 6]))))))))))))))))))))))
def f_law_k09 : List PD → R D := fnE 10 1 g_law_k09
theorem f_law_k09_len (ds : List PD) (h : ds.length ≠ 1) : f_law_k09 ds = .bad := fnE_len ds h
-- k10
def l_thin_1 : Env → Out := seqS (setS 4 (op2 catP (fzE (sliceL (varB 2) (noPart) (partE (varB 3)))) (fzE (sliceL (varB 2) (partE (op2 addP (varB 3) (constE (.int 1)))) (noPart)))))
  (ifS (callN f_why (argsE [varB 0, varB 4, op2 ixP (varB 2) (varB 3)]))
  (setS 3 (valF (op2 addP (varB 3) (constE (.int 1)))))
  (mvS 2 4))
def g_thin : Env → Out := seqS (setS 2 (op1 listP (varB 1)))
  (seqS (setS 3 (valF (constE (.int 0))))
  (seqS (whileS (op2 ltP (varB 3) (op1 lenP (varB 2)))
  (l_thin_1))
  (retV 2)))
def f_thin : List PD → R D := fnE 5 2 g_thin
theorem f_thin_len (ds : List PD) (h : ds.length ≠ 2) : f_thin ds = .bad := fnE_len ds h
-- k10
def l__law_needed_1 : Env → Out := ifS (andT (op1 asB (callS f__law_all_true (argsE [varB 1, varB 3]))) (notT (op1 asB (callS f__law_true (argsE [varB 2, varB 3])))))
  (retS (valF (constE (.bool true))))
  (skipS)
def g__law_needed : Env → Out := seqS (forL (fzE (callE f__law_settings (argsE [varE 0]))) (tgN 3)
  (l__law_needed_1))
  (retS (valF (constE (.bool false))))
def f__law_needed : List PD → R D := fnE 4 3 g__law_needed
theorem f__law_needed_len (ds : List PD) (h : ds.length ≠ 3) : f__law_needed ds = .bad := fnE_len ds h
-- k10
def l__law_thinned_1 : Env → Out := ifS (op1 asB (callS f__law_needed (argsE [varB 0, fzE (op2 catP (varB 2) (fzE (sliceL (varB 1) (partE (op2 addP (varB 3) (constE (.int 1)))) (noPart)))), op2 ixP (varB 1) (varB 3)])))
  (pushS 2 (op2 ixP (varB 1) (varB 3)))
  (skipS)
def g__law_thinned : Env → Out := seqS (setS 2 (lstE []))
  (seqS (forR (argsE [op1 lenP (varB 1)]) (tgN 3)
  (l__law_thinned_1))
  (retV 2))
def f__law_thinned : List PD → R D := fnE 4 2 g__law_thinned
theorem f__law_thinned_len (ds : List PD) (h : ds.length ≠ 2) : f__law_thinned ds = .bad := fnE_len ds h
-- k10
def l__law_says_1 : Env → Out := seqS (ifS (orT (notT (op1 asB (op1 (isiP "tuple") (varB 1)))) (op2 neP (op1 lenP (varB 1)) (constE (.int 2))))
  (retS (valF (constE (.bool false))))
  (skipS))
  (ifS (orT (notT (op1 asB (callS f__law_whole (argsE [op2 ixP (varB 1) (constE (.int 0))])))) (notT (op1 asB (callS f__law_whole (argsE [op2 ixP (varB 1) (constE (.int 1))])))))
  (retS (valF (constE (.bool false))))
  (skipS))
def g__law_says : Env → Out := seqS (ifS (notT (op1 asB (op1 (isiP "list") (varB 0))))
  (retS (valF (constE (.bool false))))
  (skipS))
  (seqS (forL (varE 0) (tgN 1)
  (l__law_says_1))
  (retS (valF (constE (.bool true)))))
def f__law_says : List PD → R D := fnE 2 1 g__law_says
theorem f__law_says_len (ds : List PD) (h : ds.length ≠ 1) : f__law_says ds = .bad := fnE_len ds h
-- k10
def g_law_k10 : Env → Out := seqS (setS 1 (valF (op2 addP (constE (.int 1)) (op2 modP (callS f__law_cell_at (argsE [varB 0, constE (.int 0)])) (constE (.int 5))))))
  (seqS (setS 2 (valF (fzE (callE f__law_pile_by (argsE [varE 0, constE (.int 3), varE 1, op2 modP (callS f__law_cell_at (argsE [varB 0, constE (.int 1)])) (constE (.int 8))])))))
  (seqS (ifS (andT (op2 gtP (op1 lenP (varB 2)) (constE (.int 0))) (op2 eqP (op2 modP (op2 divP (callS f__law_cell_at (argsE [varB 0, constE (.int 1)])) (constE (.int 8))) (constE (.int 2))) (constE (.int 1))))
  (seqS (setS 3 (valF (op2 ixP (varB 2) (op2 modP (callS f__law_cell_at (argsE [varB 0, constE (.int 2)])) (op1 lenP (varB 2))))))
  (setS 2 (valF (fzE (op2 catP (fzE (op2 catP (fzE (lstE [tupE [op2 ixP (varB 3) (constE (.int 1)), op2 ixP (varB 3) (constE (.int 0))]])) (varB 2))) (fzE (lstE [varE 3])))))))
  (skipS))
  (seqS (setS 4 (valF (fzE (op1 listP (varB 2)))))
  (seqS (setS 5 (callE f_thin (argsE [varE 1, varE 4])))
  (seqS (ifS (orT (op2 neP (varB 4) (varB 2)) (notT (op1 asB (callS f__law_says (argsE [varB 5])))))
  (retS (valF (constE (.bool false))))
  (skipS))
  (seqS (setS 6 (valF (fzE (callE f__law_thinned (argsE [varE 1, varE 2])))))
  (seqS (ifS (op2 neP (varB 5) (varB 6))
  (retS (valF (constE (.bool false))))
  (skipS))
  (seqS (pushS 5 (tupE [constE (.int 1), constE (.int 1)]))
  (retS (valF (andV (bvE (op2 eqP (varB 4) (varB 2))) (bvE (op2 eqP (fzE (callE f_thin (argsE [varE 1, varE 4]))) (varB 6))))))))))))))
def f_law_k10 : List PD → R D := fnE 7 1 g_law_k10
theorem f_law_k10_len (ds : List PD) (h : ds.length ≠ 1) : f_law_k10 ds = .bad := fnE_len ds h
-- k11
def l__law_wishes_1 : Env → Out := seqS (pushS 2 (callS f__law_lit_by (argsE [op2 modP (varB 3) (op2 mulP (constE (.int 2)) (varB 1))])))
  (setS 3 (valF (op2 divP (varB 3) (op2 mulP (constE (.int 2)) (varB 1)))))
def g__law_wishes : Env → Out := seqS (setS 2 (lstE []))
  (seqS (setS 3 (valF (op2 divP (varB 0) (constE (.int 4)))))
  (seqS (forR (argsE [op2 modP (varB 0) (constE (.int 4))]) (tgN 4)
  (l__law_wishes_1))
  (retV 2)))
def f__law_wishes : List PD → R D := fnE 5 2 g__law_wishes
theorem f__law_wishes_len (ds : List PD) (h : ds.length ≠ 2) : f__law_wishes ds = .bad := fnE_len ds h
-- k11
def l__law_by_most_2 : Env → Out := ifS (op1 asB (op2 ixP (varB 5) (varB 3)))
  (setS 4 (valF (op2 addP (varB 4) (constE (.int 1)))))
  (skipS)
def l__law_by_most_1 : Env → Out := seqS (setS 4 (valF (constE (.int 0))))
  (seqS (forL (varE 0) (tgN 5)
  (l__law_by_most_2))
  (pushS 2 (bvE (op2 gtP (varB 4) (constE (.int 1))))))
def g__law_by_most : Env → Out := seqS (setS 2 (lstE []))
  (seqS (forR (argsE [varE 1]) (tgN 3)
  (l__law_by_most_1))
  (retV 2))
def f__law_by_most : List PD → R D := fnE 6 2 g__law_by_most
theorem f__law_by_most_len (ds : List PD) (h : ds.length ≠ 2) : f__law_by_most ds = .bad := fnE_len ds h
-- k11
def l_law_k11_1 : Env → Out := seqS (setS 5 (valF (fzE (callE f__law_wishes (argsE [callS f__law_cell_at (argsE [varB 0, op2 addP (constE (.int 2)) (varB 4)]), varE 1])))))
  (seqS (setS 6 (valF (fzE (callE f_least_with (argsE [varE 1, fzE (op1 listP (varB 2)), fzE (op1 listP (varB 5))])))))
  (ifS (op2 notNP (varB 6) (constE .none))
  (seqS (ifS (orT (notT (op1 asB (callS f__law_is_setting (argsE [varB 6, varB 1])))) (notT (op1 asB (callS f__law_all_true (argsE [varB 2, varB 6])))))
  (retS (valF (constE (.bool false))))
  (skipS))
  (seqS (ifS (notT (op1 asB (callS f__law_all_true (argsE [fzE (lcL 7 (varE 5) (yesT) (tupE [varE 7, varE 7])), varB 6]))))
  (retS (valF (constE (.bool false))))
  (skipS))
  (pushS 3 (varE 6))))
  (skipS)))
def g_law_k11 : Env → Out := seqS (setS 1 (valF (callS f__law_many_by (argsE [callS f__law_cell_at (argsE [varB 0, constE (.int 0)]), constE (.int 9)]))))
  (seqS (setS 2 (valF (fzE (callE f__law_pile_by (argsE [varE 0, constE (.int 5), varE 1, op2 modP (callS f__law_cell_at (argsE [varB 0, constE (.int 1)])) (constE (.int 15))])))))
  (seqS (setS 3 (lstE []))
  (seqS (forR (argsE [constE (.int 3)]) (tgN 4)
  (l_law_k11_1))
  (seqS (ifS (op2 ltP (op1 lenP (varB 3)) (constE (.int 3)))
  (retS (valF (constE (.bool true))))
  (skipS))
  (seqS (frzS 3) (seqS (setS 8 (valF (fzE (callE f__law_by_most (argsE [varE 3, varE 1])))))
  (retS (valF (andV (callS f__law_all_true (argsE [varB 2, varB 8])) (bvE (op2 isBP (callS f_good (argsE [fzE (op1 listP (varB 2)), fzE (op1 listP (varB 8))])) (constE (.bool true)))))))))))))
def f_law_k11 : List PD → R D := fnE 9 1 g_law_k11
theorem f_law_k11_len (ds : List PD) (h : ds.length ≠ 1) : f_law_k11 ds = .bad := fnE_len ds h
-- k12
def l_steps_from_k12_2 : Env → Out := ifS (andT (op2 eqP (varB 4) (op1 negP (varB 1))) (op2 (inP true) (varB 5) (varB 2)))
  (pushS 2 (varE 5))
  (skipS)
def l_steps_from_k12_1 : Env → Out := forL (fzE (lstE [tupE [op2 ixP (varB 3) (constE (.int 0)), op2 ixP (varB 3) (constE (.int 1))], tupE [op2 ixP (varB 3) (constE (.int 1)), op2 ixP (varB 3) (constE (.int 0))]])) (tgT 4 5)
  (l_steps_from_k12_2)
def g_steps_from_k12 : Env → Out := seqS (setS 2 (lstE []))
  (seqS (forL (varE 0) (tgN 3)
  (l_steps_from_k12_1))
  (retV 2))
def f_steps_from_k12 : List PD → R D := fnE 6 2 g_steps_from_k12
theorem f_steps_from_k12_len (ds : List PD) (h : ds.length ≠ 2) : f_steps_from_k12 ds = .bad := fnE_len ds h
-- k12
def l_road_k12_2 : Env → Out := ifS (notInD 4 (varE 7))
  (seqS (putDS 4 (varE 7) (constE (.bool true)))
  (pushS 3 (fzE (op2 catP (varB 6) (fzE (lstE [varE 7]))))))
  (skipS)
def l_road_k12_1 : Env → Out := seqS (setS 6 (valF (op2 ixP (varB 3) (varB 5))))
  (seqS (ifS (op2 eqP (op2 ixP (varB 6) (op1 negP (constE (.int 1)))) (varB 2))
  (retV 6)
  (skipS))
  (seqS (forL (fzE (callE f_steps_from_k12 (argsE [varE 0, op2 ixP (varB 6) (op1 negP (constE (.int 1)))]))) (tgN 7)
  (l_road_k12_2))
  (setS 5 (valF (op2 addP (varB 5) (constE (.int 1)))))))
def g_road_k12 : Env → Out := seqS (setS 3 (lstE [fzE (lstE [varE 1])]))
  (seqS (setS 4 (dic1 (varE 1) (constE (.bool true))))
  (seqS (setS 5 (valF (constE (.int 0))))
  (seqS (whileS (op2 ltP (varB 5) (op1 lenP (varB 3)))
  (l_road_k12_1))
  (retS (valF (constE .none))))))
def f_road_k12 : List PD → R D := fnE 8 3 g_road_k12
theorem f_road_k12_len (ds : List PD) (h : ds.length ≠ 3) : f_road_k12 ds = .bad := fnE_len ds h
-- k12
def l_clash_k12_1 : Env → Out := seqS (setS 3 (valF (fzE (callE f_road_k12 (argsE [varE 1, varE 2, op1 negP (varB 2)])))))
  (seqS (setS 4 (valF (fzE (callE f_road_k12 (argsE [varE 1, op1 negP (varB 2), varE 2])))))
  (ifS (andT (op2 notNP (varB 3) (constE .none)) (op2 notNP (varB 4) (constE .none)))
  (retS (op2 catP (varB 3) (fzE (sliceL (varB 4) (partE (constE (.int 1))) (noPart)))))
  (skipS)))
def g_clash_k12 : Env → Out := seqS (forR (argsE [constE (.int 1), op2 addP (varB 0) (constE (.int 1))]) (tgN 2)
  (l_clash_k12_1))
  (retS (valF (constE .none)))
def f_clash_k12 : List PD → R D := fnE 5 2 g_clash_k12
theorem f_clash_k12_len (ds : List PD) (h : ds.length ≠ 2) : f_clash_k12 ds = .bad := fnE_len ds h
-- k12
def l_spread_k12_1 : Env → Out := ifS (op2 (inP true) (varB 3) (varB 2))
  (pushS 2 (varE 3))
  (skipS)
def l_spread_k12_3 : Env → Out := ifS (op2 (inP true) (varB 5) (varB 2))
  (pushS 2 (varE 5))
  (skipS)
def l_spread_k12_2 : Env → Out := seqS (forL (fzE (callE f_steps_from_k12 (argsE [varE 0, op2 ixP (varB 2) (varB 4)]))) (tgN 5)
  (l_spread_k12_3))
  (setS 4 (valF (op2 addP (varB 4) (constE (.int 1)))))
def g_spread_k12 : Env → Out := seqS (setS 2 (lstE []))
  (seqS (forL (varE 1) (tgN 3)
  (l_spread_k12_1))
  (seqS (setS 4 (valF (constE (.int 0))))
  (seqS (whileS (op2 ltP (varB 4) (op1 lenP (varB 2)))
  (l_spread_k12_2))
  (retV 2))))
def f_spread_k12 : List PD → R D := fnE 6 2 g_spread_k12
theorem f_spread_k12_len (ds : List PD) (h : ds.length ≠ 2) : f_spread_k12 ds = .bad := fnE_len ds h
-- k12
def l_peaceful_k12_1 : Env → Out := ifS (op2 (inP false) (op1 negP (varB 1)) (varB 0))
  (retS (valF (constE (.bool false))))
  (skipS)
def g_peaceful_k12 : Env → Out := seqS (forL (varE 0) (tgN 1)
  (l_peaceful_k12_1))
  (retS (valF (constE (.bool true))))
def f_peaceful_k12 : List PD → R D := fnE 2 1 g_peaceful_k12
theorem f_peaceful_k12_len (ds : List PD) (h : ds.length ≠ 1) : f_peaceful_k12 ds = .bad := fnE_len ds h
-- k12
def l_least_with_k12_1 : Env → Out := ifS (andT (op2 (inP true) (varB 4) (varB 3)) (op2 (inP true) (op1 negP (varB 4)) (varB 3)))
  (seqS (setS 5 (valF (fzE (callE f_spread_k12 (argsE [varE 1, fzE (op2 catP (varB 3) (fzE (lstE [op1 negP (varB 4)])))])))))
  (seqS (ifS (notT (op1 asB (callS f_peaceful_k12 (argsE [varB 5]))))
  (seqS (setS 5 (valF (fzE (callE f_spread_k12 (argsE [varE 1, fzE (op2 catP (varB 3) (fzE (lstE [varE 4])))])))))
  (ifS (notT (op1 asB (callS f_peaceful_k12 (argsE [varB 5]))))
  (retS (valF (constE .none)))
  (skipS)))
  (skipS))
  (setS 3 (valF (varE 5)))))
  (skipS)
def g_least_with_k12 : Env → Out := seqS (setS 3 (valF (fzE (callE f_spread_k12 (argsE [varE 1, varE 2])))))
  (seqS (ifS (notT (op1 asB (callS f_peaceful_k12 (argsE [varB 3]))))
  (retS (valF (constE .none)))
  (skipS))
  (seqS (forR (argsE [constE (.int 1), op2 addP (varB 0) (constE (.int 1))]) (tgN 4)
  (l_least_with_k12_1))
  (retS (lcRg 4 (argsE [constE (.int 1), op2 addP (varB 0) (constE (.int 1))]) (yesT) (bvE (op2 (inP false) (varB 4) (varB 3)))))))
def f_least_with_k12 : List PD → R D := fnE 6 3 g_least_with_k12
theorem f_least_with_k12_len (ds : List PD) (h : ds.length ≠ 3) : f_least_with_k12 ds = .bad := fnE_len ds h
-- k12
def g_least_k12 : Env → Out := retS (callE f_least_with_k12 (argsE [varE 0, varE 1, fzE (lstE [])]))
def f_least_k12 : List PD → R D := fnE 2 2 g_least_k12
theorem f_least_k12_len (ds : List PD) (h : ds.length ≠ 2) : f_least_k12 ds = .bad := fnE_len ds h
-- k12
def l_why_k12_1 : Env → Out := seqS (setS 8 (valF (fzE (callE f_road_k12 (argsE [varE 1, varE 6, varE 7])))))
  (ifS (op2 notNP (varB 8) (constE .none))
  (retS (valF (tupE [constE (.str ("road" : Str)), varE 8])))
  (skipS))
def g_why_k12 : Env → Out := seqS (setS 3 (valF (fzE (callE f_clash_k12 (argsE [varE 0, varE 1])))))
  (seqS (ifS (op2 notNP (varB 3) (constE .none))
  (retS (valF (tupE [constE (.str ("ring" : Str)), varE 3])))
  (skipS))
  (seqS (setS 4 (valF (op2 ixP (varB 2) (constE (.int 0)))))
  (seqS (setS 5 (valF (op2 ixP (varB 2) (constE (.int 1)))))
  (seqS (forL (fzE (lstE [tupE [op1 negP (varB 4), varE 5], tupE [op1 negP (varB 4), varE 4], tupE [op1 negP (varB 5), varE 5]])) (tgT 6 7)
  (l_why_k12_1))
  (retS (valF (constE .none)))))))
def f_why_k12 : List PD → R D := fnE 9 3 g_why_k12
theorem f_why_k12_len (ds : List PD) (h : ds.length ≠ 3) : f_why_k12 ds = .bad := fnE_len ds h
-- k12
def g_against_k12 : Env → Out := retS (callE f_least_with_k12 (argsE [varE 0, varE 1, fzE (lstE [op1 negP (op2 ixP (varB 2) (constE (.int 0))), op1 negP (op2 ixP (varB 2) (constE (.int 1)))])]))
def f_against_k12 : List PD → R D := fnE 3 3 g_against_k12
theorem f_against_k12_len (ds : List PD) (h : ds.length ≠ 3) : f_against_k12 ds = .bad := fnE_len ds h
-- k12
def g__law_cell_at_k12 : Env → Out := seqS (ifS (op2 ltP (varB 1) (op1 lenP (varB 0)))
  (retS (valF (op2 ixP (varB 0) (varB 1))))
  (skipS))
  (retS (valF (constE (.int 0))))
def f__law_cell_at_k12 : List PD → R D := fnE 2 2 g__law_cell_at_k12
theorem f__law_cell_at_k12_len (ds : List PD) (h : ds.length ≠ 2) : f__law_cell_at_k12 ds = .bad := fnE_len ds h
-- k12
def g__law_lit_by_k12 : Env → Out := seqS (ifS (op2 eqP (op2 modP (varB 0) (constE (.int 2))) (constE (.int 1)))
  (retS (valF (op1 negP (op2 addP (op2 divP (varB 0) (constE (.int 2))) (constE (.int 1))))))
  (skipS))
  (retS (valF (op2 addP (op2 divP (varB 0) (constE (.int 2))) (constE (.int 1)))))
def f__law_lit_by_k12 : List PD → R D := fnE 1 1 g__law_lit_by_k12
theorem f__law_lit_by_k12_len (ds : List PD) (h : ds.length ≠ 1) : f__law_lit_by_k12 ds = .bad := fnE_len ds h
-- k12
def g__law_whole_k12 : Env → Out := retS (valF (andV (op1 (isiP "int") (varB 0)) (notV (op1 (isiP "bool") (varB 0)))))
def f__law_whole_k12 : List PD → R D := fnE 1 1 g__law_whole_k12
theorem f__law_whole_k12_len (ds : List PD) (h : ds.length ≠ 1) : f__law_whole_k12 ds = .bad := fnE_len ds h
-- k12
def l__law_true_k12_1 : Env → Out := ifS (op2 eqP (op2 ixP (varB 1) (op2 subP (op1 absP (varB 2)) (constE (.int 1)))) (bvE (op2 gtP (varB 2) (constE (.int 0)))))
  (retS (valF (constE (.bool true))))
  (skipS)
def g__law_true_k12 : Env → Out := seqS (forT (varE 0) (tgN 2)
  (l__law_true_k12_1))
  (retS (valF (constE (.bool false))))
def f__law_true_k12 : List PD → R D := fnE 3 2 g__law_true_k12
theorem f__law_true_k12_len (ds : List PD) (h : ds.length ≠ 2) : f__law_true_k12 ds = .bad := fnE_len ds h
-- k12
def l__law_all_true_k12_1 : Env → Out := ifS (notT (op1 asB (callS f__law_true_k12 (argsE [varB 2, varB 1]))))
  (retS (valF (constE (.bool false))))
  (skipS)
def g__law_all_true_k12 : Env → Out := seqS (forL (varE 0) (tgN 2)
  (l__law_all_true_k12_1))
  (retS (valF (constE (.bool true))))
def f__law_all_true_k12 : List PD → R D := fnE 3 2 g__law_all_true_k12
theorem f__law_all_true_k12_len (ds : List PD) (h : ds.length ≠ 2) : f__law_all_true_k12 ds = .bad := fnE_len ds h
-- k12
def l__law_is_setting_k12_1 : Env → Out := ifS (notT (op1 asB (op1 (isiP "bool") (varB 2))))
  (retS (valF (constE (.bool false))))
  (skipS)
def g__law_is_setting_k12 : Env → Out := seqS (ifS (orT (notT (op1 asB (op1 (isiP "list") (varB 0)))) (op2 neP (op1 lenP (varB 0)) (varB 1)))
  (retS (valF (constE (.bool false))))
  (skipS))
  (seqS (forL (varE 0) (tgN 2)
  (l__law_is_setting_k12_1))
  (retS (valF (constE (.bool true)))))
def f__law_is_setting_k12 : List PD → R D := fnE 3 2 g__law_is_setting_k12
theorem f__law_is_setting_k12_len (ds : List PD) (h : ds.length ≠ 2) : f__law_is_setting_k12 ds = .bad := fnE_len ds h
-- k12
def l__law_step_k12_1 : Env → Out := ifS (orT (op2 eqP (varB 3) (tupE [op1 negP (varB 1), varE 2])) (op2 eqP (varB 3) (tupE [varE 2, op1 negP (varB 1)])))
  (retS (valF (constE (.bool true))))
  (skipS)
def g__law_step_k12 : Env → Out := seqS (forL (varE 0) (tgN 3)
  (l__law_step_k12_1))
  (retS (valF (constE (.bool false))))
def f__law_step_k12 : List PD → R D := fnE 4 3 g__law_step_k12
theorem f__law_step_k12_len (ds : List PD) (h : ds.length ≠ 3) : f__law_step_k12 ds = .bad := fnE_len ds h
-- k12
def l__law_is_road_k12_1 : Env → Out := ifS (orT (notT (op1 asB (callS f__law_whole_k12 (argsE [varB 2])))) (op2 eqP (varB 2) (constE (.int 0))))
  (retS (valF (constE (.bool false))))
  (skipS)
def l__law_is_road_k12_2 : Env → Out := ifS (notT (op1 asB (callS f__law_step_k12 (argsE [varB 0, op2 ixP (varB 1) (varB 3), op2 ixP (varB 1) (op2 addP (varB 3) (constE (.int 1)))]))))
  (retS (valF (constE (.bool false))))
  (skipS)
def g__law_is_road_k12 : Env → Out := seqS (ifS (orT (notT (op1 asB (op1 (isiP "list") (varB 1)))) (op2 eqP (op1 lenP (varB 1)) (constE (.int 0))))
  (retS (valF (constE (.bool false))))
  (skipS))
  (seqS (forL (varE 1) (tgN 2)
  (l__law_is_road_k12_1))
  (seqS (forR (argsE [op2 subP (op1 lenP (varB 1)) (constE (.int 1))]) (tgN 3)
  (l__law_is_road_k12_2))
  (retS (valF (constE (.bool true))))))
def f__law_is_road_k12 : List PD → R D := fnE 4 2 g__law_is_road_k12
theorem f__law_is_road_k12_len (ds : List PD) (h : ds.length ≠ 2) : f__law_is_road_k12 ds = .bad := fnE_len ds h
-- k12
def l__law_is_ring_k12_1 : Env → Out := ifS (op2 (inP false) (op1 negP (varB 2)) (varB 1))
  (retS (valF (constE (.bool true))))
  (skipS)
def g__law_is_ring_k12 : Env → Out := seqS (ifS (orT (notT (op1 asB (callS f__law_is_road_k12 (argsE [varB 0, varB 1])))) (op2 neP (op2 ixP (varB 1) (constE (.int 0))) (op2 ixP (varB 1) (op1 negP (constE (.int 1))))))
  (retS (valF (constE (.bool false))))
  (skipS))
  (seqS (forL (varE 1) (tgN 2)
  (l__law_is_ring_k12_1))
  (retS (valF (constE (.bool false)))))
def f__law_is_ring_k12 : List PD → R D := fnE 3 2 g__law_is_ring_k12
theorem f__law_is_ring_k12_len (ds : List PD) (h : ds.length ≠ 2) : f__law_is_ring_k12 ds = .bad := fnE_len ds h
-- k12
def l__law_reach_2 : Env → Out := seqS (ifS (andT (op2 eqP (op2 ixP (varB 4) (constE (.int 0))) (op1 negP (op2 ixP (varB 2) (varB 3)))) (op2 (inP true) (op2 ixP (varB 4) (constE (.int 1))) (varB 2)))
  (pushS 2 (op2 ixP (varB 4) (constE (.int 1))))
  (skipS))
  (ifS (andT (op2 eqP (op2 ixP (varB 4) (constE (.int 1))) (op1 negP (op2 ixP (varB 2) (varB 3)))) (op2 (inP true) (op2 ixP (varB 4) (constE (.int 0))) (varB 2)))
  (pushS 2 (op2 ixP (varB 4) (constE (.int 0))))
  (skipS))
def l__law_reach_1 : Env → Out := seqS (forL (varE 0) (tgN 4)
  (l__law_reach_2))
  (setS 3 (valF (op2 addP (varB 3) (constE (.int 1)))))
def g__law_reach : Env → Out := seqS (setS 2 (op1 listP (varB 1)))
  (seqS (setS 3 (valF (constE (.int 0))))
  (seqS (whileS (op2 ltP (varB 3) (op1 lenP (varB 2)))
  (l__law_reach_1))
  (retV 2)))
def f__law_reach : List PD → R D := fnE 5 2 g__law_reach
theorem f__law_reach_len (ds : List PD) (h : ds.length ≠ 2) : f__law_reach ds = .bad := fnE_len ds h
-- k12
def l__law_torn_1 : Env → Out := ifS (op2 (inP false) (op1 negP (varB 1)) (varB 0))
  (retS (valF (constE (.bool true))))
  (skipS)
def g__law_torn : Env → Out := seqS (forL (varE 0) (tgN 1)
  (l__law_torn_1))
  (retS (valF (constE (.bool false))))
def f__law_torn : List PD → R D := fnE 2 1 g__law_torn
theorem f__law_torn_len (ds : List PD) (h : ds.length ≠ 1) : f__law_torn ds = .bad := fnE_len ds h
-- k12
def g__law_lits : Env → Out := retS (lcRg 2 (argsE [constE (.int 1), op2 addP (varB 1) (constE (.int 1))]) (yesT) (iteE (op1 asB (op2 ixP (varB 0) (op2 subP (varB 2) (constE (.int 1))))) (varE 2) (op1 negP (varB 2))))
def f__law_lits : List PD → R D := fnE 3 2 g__law_lits
theorem f__law_lits_len (ds : List PD) (h : ds.length ≠ 2) : f__law_lits ds = .bad := fnE_len ds h
-- k12
def l__law_first_k12_1 : Env → Out := ifS (andT (op1 asB (op2 ixP (varB 2) (op2 subP (varB 3) (constE (.int 1))))) (notT (op1 asB (callS f__law_torn (argsE [fzE (callE f__law_reach (argsE [varE 0, fzE (op2 catP (fzE (op2 catP (varB 1) (fzE (callE f__law_lits (argsE [varE 2, op2 subP (varB 3) (constE (.int 1))]))))) (fzE (lstE [op1 negP (varB 3)])))]))])))))
  (retS (valF (constE (.bool false))))
  (skipS)
def g__law_first_k12 : Env → Out := seqS (forR (argsE [constE (.int 1), op2 addP (op1 lenP (varB 2)) (constE (.int 1))]) (tgN 3)
  (l__law_first_k12_1))
  (retS (valF (constE (.bool true))))
def f__law_first_k12 : List PD → R D := fnE 4 3 g__law_first_k12
theorem f__law_first_k12_len (ds : List PD) (h : ds.length ≠ 3) : f__law_first_k12 ds = .bad := fnE_len ds h
-- k13
def g_lit_shown : Env → Out := seqS (ifS (op2 ltP (varB 0) (constE (.int 0)))
  (retS (valF (op2 addP (constE (.str ("not " : Str))) (op1 strP (op1 negP (varB 0))))))
  (skipS))
  (retS (valF (op1 strP (varB 0))))
def f_lit_shown : List PD → R D := fnE 1 1 g_lit_shown
theorem f_lit_shown_len (ds : List PD) (h : ds.length ≠ 1) : f_lit_shown ds = .bad := fnE_len ds h
-- k13
def g_shown : Env → Out := seqS (ifS (op2 eqP (op2 ixP (varB 0) (constE (.int 0))) (op2 ixP (varB 0) (constE (.int 1))))
  (retS (valF (callS f_lit_shown (argsE [op2 ixP (varB 0) (constE (.int 0))]))))
  (skipS))
  (retS (valF (op2 addP (op2 addP (callS f_lit_shown (argsE [op2 ixP (varB 0) (constE (.int 0))])) (constE (.str (" or " : Str)))) (callS f_lit_shown (argsE [op2 ixP (varB 0) (constE (.int 1))])))))
def f_shown : List PD → R D := fnE 1 1 g_shown
theorem f_shown_len (ds : List PD) (h : ds.length ≠ 1) : f_shown ds = .bad := fnE_len ds h
-- k13
def l_switch_of_1 : Env → Out := ifS (op2 (inP true) (varB 3) (constE (.str ("0123456789" : Str))))
  (raiseS ("BadLine" : Str))
  (skipS)
def g_switch_of : Env → Out := seqS (ifS (op2 geP (varB 1) (op1 lenP (varB 0)))
  (raiseS ("BadLine" : Str))
  (skipS))
  (seqS (setS 2 (valF (op2 ixP (varB 0) (varB 1))))
  (seqS (ifS (orT (op2 eqP (varB 2) (constE (.str ("" : Str)))) (orT (op2 gtP (op1 lenP (varB 2)) (constE (.int 2))) (op2 eqP (op2 ixP (varB 2) (constE (.int 0))) (constE (.str ("0" : Str))))))
  (raiseS ("BadLine" : Str))
  (skipS))
  (seqS (forStr (varE 2) (tgN 3)
  (l_switch_of_1))
  (seqS (ifS (op2 gtP (op1 intP (varB 2)) (constE (.int 60)))
  (raiseS ("BadLine" : Str))
  (skipS))
  (retS (valF (op1 intP (varB 2))))))))
def f_switch_of : List PD → R D := fnE 4 2 g_switch_of
theorem f_switch_of_len (ds : List PD) (h : ds.length ≠ 2) : f_switch_of ds = .bad := fnE_len ds h
-- k13
def g_lit_of : Env → Out := seqS (ifS (op2 eqP (fzE (sliceL (varB 0) (partE (varB 1)) (partE (op2 addP (varB 1) (constE (.int 1)))))) (fzE (lstE [constE (.str ("not" : Str))])))
  (retS (valF (tupE [op1 negP (callS f_switch_of (argsE [varB 0, op2 addP (varB 1) (constE (.int 1))])), op2 addP (varB 1) (constE (.int 2))])))
  (skipS))
  (retS (valF (tupE [callS f_switch_of (argsE [varB 0, varB 1]), op2 addP (varB 1) (constE (.int 1))])))
def f_lit_of : List PD → R D := fnE 2 2 g_lit_of
theorem f_lit_of_len (ds : List PD) (h : ds.length ≠ 2) : f_lit_of ds = .bad := fnE_len ds h
-- k13
def g_read : Env → Out := seqS (setS 1 (valF (fzE (onStr splitP (varB 0) (constE (.str (" " : Str)))))))
  (seqS (setS 2 (valF (fzE (callE f_lit_of (argsE [varE 1, constE (.int 0)])))))
  (seqS (setS 3 (valF (op2 ixP (varB 2) (constE (.int 0)))))
  (seqS (ifS (op2 eqP (op2 ixP (varB 2) (constE (.int 1))) (op1 lenP (varB 1)))
  (retS (lstE [tupE [varE 3, varE 3]]))
  (skipS))
  (seqS (setS 4 (valF (op2 ixP (varB 1) (op2 ixP (varB 2) (constE (.int 1))))))
  (seqS (setS 2 (valF (fzE (callE f_lit_of (argsE [varE 1, op2 addP (op2 ixP (varB 2) (constE (.int 1))) (constE (.int 1))])))))
  (seqS (setS 5 (valF (op2 ixP (varB 2) (constE (.int 0)))))
  (seqS (ifS (op2 ltP (op2 ixP (varB 2) (constE (.int 1))) (op1 lenP (varB 1)))
  (raiseS ("BadLine" : Str))
  (skipS))
  (seqS (ifS (op2 eqP (varB 4) (constE (.str ("or" : Str))))
  (retS (lstE [tupE [varE 3, varE 5]]))
  (skipS))
  (seqS (ifS (op2 eqP (varB 4) (constE (.str ("then" : Str))))
  (retS (lstE [tupE [op1 negP (varB 3), varE 5]]))
  (skipS))
  (seqS (ifS (op2 eqP (varB 4) (constE (.str ("as" : Str))))
  (retS (lstE [tupE [op1 negP (varB 3), varE 5], tupE [varE 3, op1 negP (varB 5)]]))
  (skipS))
  (seqS (ifS (op2 eqP (varB 4) (constE (.str ("unlike" : Str))))
  (retS (lstE [tupE [varE 3, varE 5], tupE [op1 negP (varB 3), op1 negP (varB 5)]]))
  (skipS))
  (raiseS ("BadLine" : Str)))))))))))))
def f_read : List PD → R D := fnE 6 1 g_read
theorem f_read_len (ds : List PD) (h : ds.length ≠ 1) : f_read ds = .bad := fnE_len ds h
-- k13
def g__law_cell_at_k13 : Env → Out := seqS (ifS (op2 ltP (varB 1) (op1 lenP (varB 0)))
  (retS (valF (op2 ixP (varB 0) (varB 1))))
  (skipS))
  (retS (valF (constE (.int 0))))
def f__law_cell_at_k13 : List PD → R D := fnE 2 2 g__law_cell_at_k13
theorem f__law_cell_at_k13_len (ds : List PD) (h : ds.length ≠ 2) : f__law_cell_at_k13 ds = .bad := fnE_len ds h
-- k13
def g__law_lit_by_k13 : Env → Out := seqS (ifS (op2 eqP (op2 modP (varB 0) (constE (.int 2))) (constE (.int 1)))
  (retS (valF (op1 negP (op2 addP (op2 divP (varB 0) (constE (.int 2))) (constE (.int 1))))))
  (skipS))
  (retS (valF (op2 addP (op2 divP (varB 0) (constE (.int 2))) (constE (.int 1)))))
def f__law_lit_by_k13 : List PD → R D := fnE 1 1 g__law_lit_by_k13
theorem f__law_lit_by_k13_len (ds : List PD) (h : ds.length ≠ 1) : f__law_lit_by_k13 ds = .bad := fnE_len ds h
-- k13
def g__law_whole_k13 : Env → Out := retS (valF (andV (op1 (isiP "int") (varB 0)) (notV (op1 (isiP "bool") (varB 0)))))
def f__law_whole_k13 : List PD → R D := fnE 1 1 g__law_whole_k13
theorem f__law_whole_k13_len (ds : List PD) (h : ds.length ≠ 1) : f__law_whole_k13 ds = .bad := fnE_len ds h
-- k13
def g__law_lit_shown : Env → Out := seqS (ifS (op2 ltP (varB 0) (constE (.int 0)))
  (retS (valF (op2 addP (constE (.str ("not " : Str))) (op1 strP (op1 negP (varB 0))))))
  (skipS))
  (retS (valF (op1 strP (varB 0))))
def f__law_lit_shown : List PD → R D := fnE 1 1 g__law_lit_shown
theorem f__law_lit_shown_len (ds : List PD) (h : ds.length ≠ 1) : f__law_lit_shown ds = .bad := fnE_len ds h
-- k13
def l__law_says_are_1 : Env → Out := seqS (ifS (orT (notT (op1 asB (op1 (isiP "tuple") (op2 ixP (varB 0) (varB 2))))) (op2 neP (op1 lenP (op2 ixP (varB 0) (varB 2))) (constE (.int 2))))
  (retS (valF (constE (.bool false))))
  (skipS))
  (ifS (orT (notT (op1 asB (callS f__law_whole_k13 (argsE [op2 ixP (op2 ixP (varB 0) (varB 2)) (constE (.int 0))])))) (notT (op1 asB (callS f__law_whole_k13 (argsE [op2 ixP (op2 ixP (varB 0) (varB 2)) (constE (.int 1))])))))
  (retS (valF (constE (.bool false))))
  (skipS))
def g__law_says_are : Env → Out := seqS (ifS (orT (notT (op1 asB (op1 (isiP "list") (varB 0)))) (op2 neP (op1 lenP (varB 0)) (op1 lenP (varB 1))))
  (retS (valF (constE (.bool false))))
  (skipS))
  (seqS (forR (argsE [op1 lenP (varB 1)]) (tgN 2)
  (l__law_says_are_1))
  (retS (valF (bvE (op2 eqP (varB 0) (varB 1))))))
def f__law_says_are : List PD → R D := fnE 3 2 g__law_says_are
theorem f__law_says_are_len (ds : List PD) (h : ds.length ≠ 2) : f__law_says_are ds = .bad := fnE_len ds h
-- k13
def g_law_k13 : Env → Out := seqS (setS 1 (valF (callS f__law_lit_by_k13 (argsE [op2 modP (callS f__law_cell_at_k13 (argsE [varB 0, constE (.int 0)])) (constE (.int 120))]))))
  (seqS (setS 2 (valF (callS f__law_lit_by_k13 (argsE [op2 modP (callS f__law_cell_at_k13 (argsE [varB 0, constE (.int 1)])) (constE (.int 120))]))))
  (seqS (ifS (op2 eqP (op2 modP (callS f__law_cell_at_k13 (argsE [varB 0, constE (.int 2)])) (constE (.int 3))) (constE (.int 1)))
  (setS 2 (valF (varE 1)))
  (skipS))
  (seqS (setS 3 (valF (callS f__law_lit_shown (argsE [varB 1]))))
  (seqS (ifS (op2 neP (varB 1) (varB 2))
  (setS 3 (valF (op2 addP (op2 addP (varB 3) (constE (.str (" or " : Str)))) (callS f__law_lit_shown (argsE [varB 2])))))
  (skipS))
  (seqS (setS 4 (valF (callS f_shown (argsE [tupE [varE 1, varE 2]]))))
  (seqS (ifS (orT (notT (op1 asB (op1 (isiP "str") (varB 4)))) (op2 neP (varB 4) (varB 3)))
  (retS (valF (constE (.bool false))))
  (skipS))
  (seqS (setS 5 (callE f_read (argsE [varE 3])))
  (seqS (ifS (notT (op1 asB (callS f__law_says_are (argsE [varB 5, fzE (lstE [tupE [varE 1, varE 2]])]))))
  (retS (valF (constE (.bool false))))
  (skipS))
  (seqS (pushS 5 (tupE [constE (.int 1), constE (.int 1)]))
  (seqS (ifS (notT (op1 asB (callS f__law_says_are (argsE [fzE (callE f_read (argsE [varE 3])), fzE (lstE [tupE [varE 1, varE 2]])]))))
  (retS (valF (constE (.bool false))))
  (skipS))
  (seqS (setS 6 (valF (op2 modP (callS f__law_cell_at_k13 (argsE [varB 0, constE (.int 3)])) (constE (.int 4)))))
  (seqS (setS 7 (valF (op2 ixP (fzE (lstE [constE (.str ("or" : Str)), constE (.str ("then" : Str)), constE (.str ("as" : Str)), constE (.str ("unlike" : Str))])) (varB 6))))
  (seqS (setS 8 (valF (op2 ixP (fzE (lstE [fzE (lstE [tupE [varE 1, varE 2]]), fzE (lstE [tupE [op1 negP (varB 1), varE 2]]), fzE (lstE [tupE [op1 negP (varB 1), varE 2], tupE [varE 1, op1 negP (varB 2)]])])) (op2 modP (varB 6) (constE (.int 3))))))
  (seqS (ifS (op2 eqP (varB 6) (constE (.int 3)))
  (setS 8 (valF (fzE (lstE [tupE [varE 1, varE 2], tupE [op1 negP (varB 1), op1 negP (varB 2)]]))))
  (skipS))
  (seqS (setS 3 (valF (op2 addP (op2 addP (op2 addP (op2 addP (callS f__law_lit_shown (argsE [varB 1])) (constE (.str (" " : Str)))) (varB 7)) (constE (.str (" " : Str)))) (callS f__law_lit_shown (argsE [varB 2])))))
  (retS (valF (callS f__law_says_are (argsE [fzE (callE f_read (argsE [varE 3])), varB 8])))))))))))))))))))
def f_law_k13 : List PD → R D := fnE 9 1 g_law_k13
theorem f_law_k13_len (ds : List PD) (h : ds.length ≠ 1) : f_law_k13 ds = .bad := fnE_len ds h
-- k14
def g__law_word_by : Env → Out := seqS (setS 1 (valF (fzE (lstE [constE (.str ("not" : Str)), constE (.str ("or" : Str)), constE (.str ("then" : Str)), constE (.str ("as" : Str)), constE (.str ("unlike" : Str)), constE (.str ("and" : Str))]))))
  (seqS (setS 2 (valF (op2 modP (varB 0) (constE (.int 16)))))
  (seqS (ifS (op2 ltP (varB 2) (constE (.int 6)))
  (retS (valF (op2 ixP (varB 1) (varB 2))))
  (skipS))
  (seqS (ifS (op2 ltP (varB 2) (constE (.int 13)))
  (retS (valF (op1 strP (op2 modP (op2 divP (varB 0) (constE (.int 16))) (constE (.int 70))))))
  (skipS))
  (seqS (ifS (op2 eqP (varB 2) (constE (.int 13)))
  (retS (valF (op2 addP (constE (.str ("0" : Str))) (op1 strP (op2 modP (op2 divP (varB 0) (constE (.int 16))) (constE (.int 70)))))))
  (skipS))
  (seqS (ifS (op2 eqP (varB 2) (constE (.int 14)))
  (retS (valF (op2 addP (op2 ixP (constE (.str ("+-" : Str))) (op2 modP (op2 divP (varB 0) (constE (.int 16))) (constE (.int 2)))) (op1 strP (op2 modP (op2 divP (varB 0) (constE (.int 32))) (constE (.int 70)))))))
  (skipS))
  (seqS (setS 3 (valF (constE (.str (" !\"#$&'()*+,-./0123456789:;<=>?@ABCDEFGHIJKLMNOPQRSTUVWXYZ[\\]^_`" : Str)))))
  (seqS (setS 3 (valF (op2 addP (varB 3) (constE (.str ("abcdefghijklmnopqrstuvwxyz{|}~" : Str))))))
  (seqS (ifS (op2 eqP (op2 modP (op2 divP (varB 0) (constE (.int 16))) (constE (.int 2))) (constE (.int 1)))
  (retS (valF (op2 addP (op2 addP (op1 strP (op2 modP (op2 divP (varB 0) (constE (.int 32))) (constE (.int 70)))) (op2 ixP (varB 3) (op2 modP (op2 divP (varB 0) (constE (.int 2240))) (constE (.int 94))))) (op1 strP (op2 modP (op2 divP (varB 0) (constE (.int 3))) (constE (.int 10)))))))
  (skipS))
  (retS (valF (op2 ixP (varB 3) (op2 modP (op2 divP (varB 0) (constE (.int 32))) (constE (.int 94))))))))))))))
def f__law_word_by : List PD → R D := fnE 4 1 g__law_word_by
theorem f__law_word_by_len (ds : List PD) (h : ds.length ≠ 1) : f__law_word_by ds = .bad := fnE_len ds h
-- k14
def l__law_number_1 : Env → Out := ifS (op2 (inP true) (varB 1) (constE (.str ("0123456789" : Str))))
  (retS (valF (constE (.int 0))))
  (skipS)
def g__law_number : Env → Out := seqS (ifS (orT (op2 eqP (varB 0) (constE (.str ("" : Str)))) (orT (op2 gtP (op1 lenP (varB 0)) (constE (.int 2))) (op2 eqP (op2 ixP (varB 0) (constE (.int 0))) (constE (.str ("0" : Str))))))
  (retS (valF (constE (.int 0))))
  (skipS))
  (seqS (forStr (varE 0) (tgN 1)
  (l__law_number_1))
  (seqS (ifS (op2 gtP (op1 intP (varB 0)) (constE (.int 60)))
  (retS (valF (constE (.int 0))))
  (skipS))
  (retS (valF (op1 intP (varB 0))))))
def f__law_number : List PD → R D := fnE 2 1 g__law_number
theorem f__law_number_len (ds : List PD) (h : ds.length ≠ 1) : f__law_number ds = .bad := fnE_len ds h
-- k14
def g__law_taken : Env → Out := seqS (ifS (andT (op2 eqP (fzE (sliceL (varB 0) (noPart) (partE (constE (.int 1))))) (fzE (lstE [constE (.str ("not" : Str))]))) (op2 gtP (op1 lenP (varB 0)) (constE (.int 1))))
  (retS (valF (tupE [op1 negP (callS f__law_number (argsE [op2 ixP (varB 0) (constE (.int 1))])), fzE (sliceL (varB 0) (partE (constE (.int 2))) (noPart))])))
  (skipS))
  (seqS (ifS (op2 gtP (op1 lenP (varB 0)) (constE (.int 0)))
  (retS (valF (tupE [callS f__law_number (argsE [op2 ixP (varB 0) (constE (.int 0))]), fzE (sliceL (varB 0) (partE (constE (.int 1))) (noPart))])))
  (skipS))
  (retS (valF (tupE [constE (.int 0), fzE (lstE [])]))))
def f__law_taken : List PD → R D := fnE 1 1 g__law_taken
theorem f__law_taken_len (ds : List PD) (h : ds.length ≠ 1) : f__law_taken ds = .bad := fnE_len ds h
-- k14
def g__law_due : Env → Out := seqS (setS 1 (valF (fzE (callE f__law_taken (argsE [fzE (onStr splitP (varB 0) (constE (.str (" " : Str))))])))))
  (seqS (ifS (op2 eqP (op2 ixP (varB 1) (constE (.int 0))) (constE (.int 0)))
  (retS (valF (constE .none)))
  (skipS))
  (seqS (ifS (op2 eqP (op1 lenP (op2 ixP (varB 1) (constE (.int 1)))) (constE (.int 0)))
  (retS (lstE [tupE [op2 ixP (varB 1) (constE (.int 0)), op2 ixP (varB 1) (constE (.int 0))]]))
  (skipS))
  (seqS (setS 2 (valF (fzE (callE f__law_taken (argsE [fzE (sliceL (op2 ixP (varB 1) (constE (.int 1))) (partE (constE (.int 1))) (noPart))])))))
  (seqS (ifS (orT (op2 eqP (op2 ixP (varB 2) (constE (.int 0))) (constE (.int 0))) (op2 gtP (op1 lenP (op2 ixP (varB 2) (constE (.int 1)))) (constE (.int 0))))
  (retS (valF (constE .none)))
  (skipS))
  (seqS (setS 3 (valF (op2 ixP (varB 1) (constE (.int 0)))))
  (seqS (setS 4 (valF (op2 ixP (varB 2) (constE (.int 0)))))
  (seqS (setS 5 (valF (op2 ixP (op2 ixP (varB 1) (constE (.int 1))) (constE (.int 0)))))
  (seqS (ifS (op2 eqP (varB 5) (constE (.str ("or" : Str))))
  (retS (lstE [tupE [varE 3, varE 4]]))
  (skipS))
  (seqS (ifS (op2 eqP (varB 5) (constE (.str ("then" : Str))))
  (retS (lstE [tupE [op1 negP (varB 3), varE 4]]))
  (skipS))
  (seqS (ifS (op2 eqP (varB 5) (constE (.str ("as" : Str))))
  (retS (lstE [tupE [op1 negP (varB 3), varE 4], tupE [varE 3, op1 negP (varB 4)]]))
  (skipS))
  (seqS (ifS (op2 eqP (varB 5) (constE (.str ("unlike" : Str))))
  (retS (lstE [tupE [varE 3, varE 4], tupE [op1 negP (varB 3), op1 negP (varB 4)]]))
  (skipS))
  (retS (valF (constE .none))))))))))))))
def f__law_due : List PD → R D := fnE 6 1 g__law_due
theorem f__law_due_len (ds : List PD) (h : ds.length ≠ 1) : f__law_due ds = .bad := fnE_len ds h
-- k14
def g__law_read : Env → Out := seqS (tryS (setS 1 (valF (fzE (callE f_read (argsE [varE 0]))))) ("BadLine" : Str) (.tuple [.bool false, .bool true]))
  (retS (valF (tupE [constE (.bool true), varE 1])))
def f__law_read : List PD → R D := fnE 4 1 g__law_read
theorem f__law_read_len (ds : List PD) (h : ds.length ≠ 1) : f__law_read ds = .bad := fnE_len ds h
-- k14
def l__law_right_k14_1 : Env → Out := seqS (ifS (orT (notT (op1 asB (op1 (isiP "tuple") (varB 2)))) (op2 neP (op1 lenP (varB 2)) (constE (.int 2))))
  (retS (valF (constE (.bool false))))
  (skipS))
  (ifS (orT (notT (op1 asB (callS f__law_whole_k13 (argsE [op2 ixP (varB 2) (constE (.int 0))])))) (notT (op1 asB (callS f__law_whole_k13 (argsE [op2 ixP (varB 2) (constE (.int 1))])))))
  (retS (valF (constE (.bool false))))
  (skipS))
def g__law_right_k14 : Env → Out := seqS (ifS (op2 isNP (varB 1) (constE .none))
  (retS (valF (bvE (op2 eqP (varB 0) (tupE [constE (.bool false), constE (.bool true)])))))
  (skipS))
  (seqS (ifS (orT (notT (op1 asB (op2 ixP (varB 0) (constE (.int 0))))) (orT (notT (op1 asB (op1 (isiP "list") (op2 ixP (varB 0) (constE (.int 1)))))) (op2 neP (op1 lenP (op2 ixP (varB 0) (constE (.int 1)))) (op1 lenP (varB 1)))))
  (retS (valF (constE (.bool false))))
  (skipS))
  (seqS (forL (op2 ixP (varB 0) (constE (.int 1))) (tgN 2)
  (l__law_right_k14_1))
  (retS (valF (bvE (op2 eqP (op2 ixP (varB 0) (constE (.int 1))) (varB 1)))))))
def f__law_right_k14 : List PD → R D := fnE 3 2 g__law_right_k14
theorem f__law_right_k14_len (ds : List PD) (h : ds.length ≠ 2) : f__law_right_k14 ds = .bad := fnE_len ds h
-- k14
def l_law_k14_1 : Env → Out := pushS 1 (callS f__law_word_by (argsE [callS f__law_cell_at_k13 (argsE [varB 0, op2 addP (constE (.int 2)) (varB 2)])]))
def g_law_k14 : Env → Out := seqS (setS 1 (lstE []))
  (seqS (forR (argsE [op2 modP (callS f__law_cell_at_k13 (argsE [varB 0, constE (.int 0)])) (constE (.int 7))]) (tgN 2)
  (l_law_k14_1))
  (seqS (setS 3 (valF (onStr joinP (constE (.str (" " : Str))) (varB 1))))
  (seqS (ifS (op2 eqP (op2 modP (op2 divP (callS f__law_cell_at_k13 (argsE [varB 0, constE (.int 0)])) (constE (.int 7))) (constE (.int 8))) (constE (.int 1)))
  (seqS (setS 4 (valF (op2 modP (callS f__law_cell_at_k13 (argsE [varB 0, constE (.int 1)])) (op2 addP (op1 lenP (varB 3)) (constE (.int 1))))))
  (setS 3 (valF (op2 addP (op2 addP (sliceS (varB 3) (noPart) (partE (varB 4))) (constE (.str (" " : Str)))) (sliceS (varB 3) (partE (varB 4)) (noPart))))))
  (skipS))
  (seqS (ifS (op2 eqP (op2 modP (op2 divP (callS f__law_cell_at_k13 (argsE [varB 0, constE (.int 0)])) (constE (.int 56))) (constE (.int 3))) (constE (.int 1)))
  (seqS (setS 5 (valF (callS f__law_cell_at_k13 (argsE [varB 0, constE (.int 1)]))))
  (seqS (setS 6 (valF (op2 ixP (fzE (lstE [constE (.str ("or" : Str)), constE (.str ("then" : Str)), constE (.str ("as" : Str)), constE (.str ("unlike" : Str)), constE (.str ("and" : Str))])) (op2 modP (callS f__law_cell_at_k13 (argsE [varB 0, constE (.int 2)])) (constE (.int 5))))))
  (seqS (setS 1 (lstE [op1 strP (op2 modP (varB 5) (constE (.int 70))), varE 6, constE (.str ("not" : Str)), op1 strP (op2 modP (op2 divP (varB 5) (constE (.int 70))) (constE (.int 70))), callS f__law_word_by (argsE [callS f__law_cell_at_k13 (argsE [varB 0, constE (.int 3)])])]))
  (setS 3 (valF (onStr joinP (constE (.str (" " : Str))) (fzE (sliceL (varB 1) (noPart) (partE (op2 addP (constE (.int 1)) (op2 modP (op2 divP (varB 5) (constE (.int 4900))) (constE (.int 5)))))))))))))
  (skipS))
  (seqS (setS 7 (valF (fzE (callE f__law_due (argsE [varE 3])))))
  (retS (valF (andV (callS f__law_right_k14 (argsE [fzE (callE f__law_read (argsE [varE 3])), varB 7])) (callS f__law_right_k14 (argsE [fzE (callE f__law_read (argsE [varE 3])), varB 7]))))))))))
def f_law_k14 : List PD → R D := fnE 8 1 g_law_k14
theorem f_law_k14_len (ds : List PD) (h : ds.length ≠ 1) : f_law_k14 ds = .bad := fnE_len ds h
-- k15
def l__wall_1 : Env → Out := skipS
def g__wall : Env → Out := whileS (op1 asB (constE (.bool true)))
  (l__wall_1)
def f__wall : List PD → R D := fnE 1 1 g__wall
theorem f__wall_len (ds : List PD) (h : ds.length ≠ 1) : f__wall ds = .bad := fnE_len ds h
-- k15
def l__law_far_pile_k15_1 : Env → Out := seqS (setS 0 (valF (op2 modP (op2 addP (op2 mulP (varB 0) (constE (.int 48271))) (constE (.int 11))) (constE (.int 2147483647)))))
  (pushS 3 (tupE [callS f__law_lit_by_k12 (argsE [op2 modP (varB 0) (op2 mulP (constE (.int 2)) (varB 1))]), callS f__law_lit_by_k12 (argsE [op2 modP (op2 divP (varB 0) (constE (.int 1009))) (op2 mulP (constE (.int 2)) (varB 1))])]))
def g__law_far_pile_k15 : Env → Out := seqS (setS 3 (lstE []))
  (seqS (forR (argsE [varE 2]) (tgN 4)
  (l__law_far_pile_k15_1))
  (retV 3))
def f__law_far_pile_k15 : List PD → R D := fnE 5 3 g__law_far_pile_k15
theorem f__law_far_pile_k15_len (ds : List PD) (h : ds.length ≠ 3) : f__law_far_pile_k15 ds = .bad := fnE_len ds h
-- k16
def l__law_reach_k16_2 : Env → Out := seqS (ifS (andT (op2 eqP (op2 ixP (varB 4) (constE (.int 0))) (op1 negP (op2 ixP (varB 2) (varB 3)))) (op2 (inP true) (op2 ixP (varB 4) (constE (.int 1))) (varB 2)))
  (pushS 2 (op2 ixP (varB 4) (constE (.int 1))))
  (skipS))
  (ifS (andT (op2 eqP (op2 ixP (varB 4) (constE (.int 1))) (op1 negP (op2 ixP (varB 2) (varB 3)))) (op2 (inP true) (op2 ixP (varB 4) (constE (.int 0))) (varB 2)))
  (pushS 2 (op2 ixP (varB 4) (constE (.int 0))))
  (skipS))
def l__law_reach_k16_1 : Env → Out := seqS (forL (varE 0) (tgN 4)
  (l__law_reach_k16_2))
  (setS 3 (valF (op2 addP (varB 3) (constE (.int 1)))))
def g__law_reach_k16 : Env → Out := seqS (setS 2 (op1 listP (varB 1)))
  (seqS (setS 3 (valF (constE (.int 0))))
  (seqS (whileS (op2 ltP (varB 3) (op1 lenP (varB 2)))
  (l__law_reach_k16_1))
  (retV 2)))
def f__law_reach_k16 : List PD → R D := fnE 5 2 g__law_reach_k16
theorem f__law_reach_k16_len (ds : List PD) (h : ds.length ≠ 2) : f__law_reach_k16 ds = .bad := fnE_len ds h
-- k16
def l__law_torn_k16_1 : Env → Out := ifS (op2 (inP false) (op1 negP (varB 1)) (varB 0))
  (retS (valF (constE (.bool true))))
  (skipS)
def g__law_torn_k16 : Env → Out := seqS (forL (varE 0) (tgN 1)
  (l__law_torn_k16_1))
  (retS (valF (constE (.bool false))))
def f__law_torn_k16 : List PD → R D := fnE 2 1 g__law_torn_k16
theorem f__law_torn_k16_len (ds : List PD) (h : ds.length ≠ 1) : f__law_torn_k16 ds = .bad := fnE_len ds h
-- k16
def g__law_lits_k16 : Env → Out := retS (lcRg 2 (argsE [constE (.int 1), op2 addP (varB 1) (constE (.int 1))]) (yesT) (iteE (op1 asB (op2 ixP (varB 0) (op2 subP (varB 2) (constE (.int 1))))) (varE 2) (op1 negP (varB 2))))
def f__law_lits_k16 : List PD → R D := fnE 3 2 g__law_lits_k16
theorem f__law_lits_k16_len (ds : List PD) (h : ds.length ≠ 2) : f__law_lits_k16 ds = .bad := fnE_len ds h
-- k16
def l__law_none_ahead_1 : Env → Out := seqS (setS 5 (valF (orV (bvE (op2 ltP (op1 lenP (varB 2)) (constE (.int 13)))) (bvE (op2 eqP (op2 modP (varB 4) (constE (.int 7))) (varB 3))))))
  (ifS (andT (op1 asB (varE 5)) (andT (op1 asB (op2 ixP (varB 2) (op2 subP (varB 4) (constE (.int 1))))) (notT (op1 asB (callS f__law_torn_k16 (argsE [fzE (callE f__law_reach_k16 (argsE [varE 0, fzE (op2 catP (fzE (op2 catP (varB 1) (fzE (callE f__law_lits_k16 (argsE [varE 2, op2 subP (varB 4) (constE (.int 1))]))))) (fzE (lstE [op1 negP (varB 4)])))]))]))))))
  (retS (valF (constE (.bool false))))
  (skipS))
def g__law_none_ahead : Env → Out := seqS (forR (argsE [constE (.int 1), op2 addP (op1 lenP (varB 2)) (constE (.int 1))]) (tgN 4)
  (l__law_none_ahead_1))
  (retS (valF (constE (.bool true))))
def f__law_none_ahead : List PD → R D := fnE 6 4 g__law_none_ahead
theorem f__law_none_ahead_len (ds : List PD) (h : ds.length ≠ 4) : f__law_none_ahead ds = .bad := fnE_len ds h
-- k16
def g_law_k16 : Env → Out := seqS (setS 1 (valF (callS f__law_many_by (argsE [callS f__law_cell_at (argsE [varB 0, constE (.int 0)]), constE (.int 7)]))))
  (seqS (setS 2 (valF (fzE (callE f__law_bits_by (argsE [callS f__law_cell_at (argsE [varB 0, constE (.int 1)]), varE 1])))))
  (seqS (setS 3 (valF (callS f__law_cell_at (argsE [varB 0, constE (.int 3)]))))
  (seqS (setS 4 (valF (fzE (callE f__law_far_pile (argsE [callS f__law_cell_at (argsE [varB 0, constE (.int 2)]), varE 1, iteE (op2 ltP (varB 1) (constE (.int 13))) (op2 modP (varB 3) (constE (.int 25))) (op2 modP (varB 3) (constE (.int 13)))])))))
  (seqS (ifS (op2 gtP (op2 modP (op2 divP (varB 3) (constE (.int 25))) (constE (.int 3))) (constE (.int 0)))
  (setS 4 (valF (fzE (callE f__law_turned (argsE [varE 4, varE 2])))))
  (skipS))
  (seqS (setS 5 (valF (fzE (callE f__law_lits_k16 (argsE [varE 2, op2 modP (op2 divP (callS f__law_cell_at (argsE [varB 0, constE (.int 4)])) (constE (.int 4))) (op2 addP (varB 1) (constE (.int 1)))])))))
  (seqS (ifS (op2 gtP (op2 modP (callS f__law_cell_at (argsE [varB 0, constE (.int 4)])) (constE (.int 4))) (constE (.int 0)))
  (seqS (setS 5 (valF (fzE (lstE [callS f__law_lit_by (argsE [op2 modP (callS f__law_cell_at (argsE [varB 0, constE (.int 5)])) (op2 mulP (constE (.int 2)) (varB 1))]), callS f__law_lit_by (argsE [op2 modP (callS f__law_cell_at (argsE [varB 0, constE (.int 6)])) (op2 mulP (constE (.int 2)) (varB 1))])]))))
  (setS 5 (valF (fzE (sliceL (varB 5) (noPart) (partE (op2 subP (op2 modP (callS f__law_cell_at (argsE [varB 0, constE (.int 4)])) (constE (.int 4))) (constE (.int 1)))))))))
  (skipS))
  (seqS (setS 6 (valF (fzE (lstE [fzE (op1 listP (varB 4)), fzE (op1 listP (varB 5))]))))
  (seqS (setS 7 (valF (fzE (callE f_least_with (argsE [varE 1, op2 ixP (varB 6) (constE (.int 0)), op2 ixP (varB 6) (constE (.int 1))])))))
  (seqS (ifS (op2 neP (varB 6) (fzE (lstE [varE 4, varE 5])))
  (retS (valF (constE (.bool false))))
  (skipS))
  (seqS (ifS (op2 isNP (varB 7) (constE .none))
  (retS (valF (orV (callS f__law_torn_k16 (argsE [fzE (callE f__law_reach_k16 (argsE [varE 4, varE 5]))])) (callS f__law_is_ring (argsE [varB 4, fzE (callE f_clash (argsE [varE 1, fzE (op1 listP (varB 4))]))])))))
  (skipS))
  (seqS (ifS (orT (notT (op1 asB (callS f__law_is_setting (argsE [varB 7, varB 1])))) (notT (op1 asB (callS f__law_all_true (argsE [fzE (op2 catP (varB 4) (fzE (lcL 8 (varE 5) (yesT) (tupE [varE 8, varE 8])))), varB 7])))))
  (retS (valF (constE (.bool false))))
  (skipS))
  (retS (valF (callS f__law_none_ahead (argsE [varB 4, varB 5, varB 7, op2 modP (callS f__law_cell_at (argsE [varB 0, constE (.int 4)])) (constE (.int 7))])))))))))))))))
def f_law_k16 : List PD → R D := fnE 9 1 g_law_k16
theorem f_law_k16_len (ds : List PD) (h : ds.length ≠ 1) : f_law_k16 ds = .bad := fnE_len ds h
-- k17
def l__law_shut_1 : Env → Out := ifS (andT (notT (op1 asB (op2 ixP (varB 1) (op2 subP (varB 3) (constE (.int 1)))))) (notT (op1 asB (callS f__law_torn_k16 (argsE [fzE (callE f__law_reach_k16 (argsE [varE 0, fzE (op2 catP (fzE (callE f__law_lits_k16 (argsE [varE 1, op2 subP (varB 3) (constE (.int 1))]))) (fzE (lstE [varE 3])))]))])))))
  (retS (valF (constE (.bool false))))
  (skipS)
def g__law_shut : Env → Out := seqS (forR (argsE [varE 2, op2 addP (op1 lenP (varB 1)) (constE (.int 1))]) (tgN 3)
  (l__law_shut_1))
  (retS (valF (constE (.bool true))))
def f__law_shut : List PD → R D := fnE 4 3 g__law_shut
theorem f__law_shut_len (ds : List PD) (h : ds.length ≠ 3) : f__law_shut ds = .bad := fnE_len ds h
-- k17
def l__law_none_ahead_k17_1 : Env → Out := ifS (andT (op1 asB (op2 ixP (varB 1) (op2 subP (varB 3) (constE (.int 1))))) (notT (op1 asB (callS f__law_torn_k16 (argsE [fzE (callE f__law_reach_k16 (argsE [varE 0, fzE (op2 catP (fzE (callE f__law_lits_k16 (argsE [varE 1, op2 subP (varB 3) (constE (.int 1))]))) (fzE (lstE [op1 negP (varB 3)])))]))])))))
  (retS (valF (constE (.bool false))))
  (skipS)
def g__law_none_ahead_k17 : Env → Out := seqS (forR (argsE [varE 2, op2 addP (op1 lenP (varB 1)) (constE (.int 1))]) (tgN 3)
  (l__law_none_ahead_k17_1))
  (retS (valF (constE (.bool true))))
def f__law_none_ahead_k17 : List PD → R D := fnE 4 3 g__law_none_ahead_k17
theorem f__law_none_ahead_k17_len (ds : List PD) (h : ds.length ≠ 3) : f__law_none_ahead_k17 ds = .bad := fnE_len ds h
-- k17
def l_law_k17_1 : Env → Out := setS 7 (valF (op2 addP (varB 7) (constE (.int 1))))
def g_law_k17 : Env → Out := seqS (setS 1 (valF (op2 addP (constE (.int 1)) (op2 modP (callS f__law_cell_at (argsE [varB 0, constE (.int 0)])) (constE (.int 9))))))
  (seqS (setS 2 (valF (callS f__law_cell_at (argsE [varB 0, constE (.int 2)]))))
  (seqS (setS 3 (valF (fzE (callE f__law_far_pile (argsE [callS f__law_cell_at (argsE [varB 0, constE (.int 1)]), varE 1, op2 modP (varB 2) (constE (.int 13))])))))
  (seqS (ifS (op2 gtP (op2 modP (op2 divP (varB 2) (constE (.int 13))) (constE (.int 3))) (constE (.int 0)))
  (setS 3 (valF (fzE (callE f__law_turned (argsE [varE 3, fzE (callE f__law_bits_by (argsE [callS f__law_cell_at (argsE [varB 0, constE (.int 3)]), varE 1]))])))))
  (skipS))
  (seqS (setS 4 (valF (fzE (callE f__law_bits_by (argsE [callS f__law_cell_at (argsE [varB 0, constE (.int 4)]), varE 1])))))
  (seqS (setS 5 (valF (fzE (lstE [fzE (op1 listP (varB 3)), fzE (op1 listP (varB 4))]))))
  (seqS (setS 6 (valF (fzE (callE f_next_good (argsE [varE 1, op2 ixP (varB 5) (constE (.int 0)), op2 ixP (varB 5) (constE (.int 1))])))))
  (seqS (ifS (op2 neP (varB 5) (fzE (lstE [varE 3, varE 4])))
  (retS (valF (constE (.bool false))))
  (skipS))
  (seqS (ifS (op2 isNP (varB 6) (constE .none))
  (retS (valF (orV (callS f__law_shut (argsE [varB 3, varB 4, constE (.int 1)])) (callS f__law_is_ring (argsE [varB 3, fzE (callE f_clash (argsE [varE 1, fzE (op1 listP (varB 3))]))])))))
  (skipS))
  (seqS (ifS (orT (notT (op1 asB (callS f__law_is_setting (argsE [varB 6, varB 1])))) (orT (notT (op1 asB (callS f__law_all_true (argsE [varB 3, varB 6])))) (op2 eqP (varB 6) (varB 4))))
  (retS (valF (constE (.bool false))))
  (skipS))
  (seqS (setS 7 (valF (constE (.int 1))))
  (seqS (whileS (op2 eqP (op2 ixP (varB 6) (op2 subP (varB 7) (constE (.int 1)))) (op2 ixP (varB 4) (op2 subP (varB 7) (constE (.int 1)))))
  (l_law_k17_1))
  (retS (valF (andV (op2 ixP (varB 6) (op2 subP (varB 7) (constE (.int 1)))) (andV (callS f__law_shut (argsE [varB 3, varB 4, op2 addP (varB 7) (constE (.int 1))])) (callS f__law_none_ahead_k17 (argsE [varB 3, varB 6, op2 addP (varB 7) (constE (.int 1))])))))))))))))))))
def f_law_k17 : List PD → R D := fnE 8 1 g_law_k17
theorem f_law_k17_len (ds : List PD) (h : ds.length ≠ 1) : f_law_k17 ds = .bad := fnE_len ds h
-- k18
def l__law_both_1 : Env → Out := seqS (setS 4 (valF (fzE (callE f_least_with (argsE [varE 1, fzE (op1 listP (varB 0)), fzE (lstE [varE 3])])))))
  (ifS (orT (op2 isNP (varB 4) (constE .none)) (orT (notT (op1 asB (callS f__law_is_setting (argsE [varB 4, varB 1])))) (notT (op1 asB (callS f__law_all_true (argsE [fzE (op2 catP (varB 0) (fzE (lstE [tupE [varE 3, varE 3]]))), varB 4]))))))
  (retS (valF (constE (.bool false))))
  (skipS))
def g__law_both : Env → Out := seqS (forL (fzE (lstE [varE 2, op1 negP (varB 2)])) (tgN 3)
  (l__law_both_1))
  (retS (valF (constE (.bool true))))
def f__law_both : List PD → R D := fnE 5 3 g__law_both
theorem f__law_both_len (ds : List PD) (h : ds.length ≠ 3) : f__law_both ds = .bad := fnE_len ds h
-- k18
def l_law_k18_1 : Env → Out := seqS (ifS (orT (notT (op1 asB (callS f__law_whole (argsE [varB 6])))) (orT (op2 leP (op1 absP (varB 6)) (varB 5)) (orT (op2 gtP (op1 absP (varB 6)) (varB 1)) (op2 (inP true) (varB 6) (fzE (callE f__law_reach_k16 (argsE [varE 2, fzE (lstE [op1 negP (varB 6)])])))))))
  (retS (valF (constE (.bool false))))
  (skipS))
  (setS 5 (valF (op1 absP (varB 6))))
def l_law_k18_2 : Env → Out := seqS (setS 8 (valF (orV (bvE (op2 ltP (varB 1) (constE (.int 13)))) (bvE (op2 eqP (op2 modP (varB 7) (constE (.int 7))) (op2 modP (callS f__law_cell_at (argsE [varB 0, constE (.int 2)])) (constE (.int 7))))))))
  (ifS (andT (op1 asB (varE 8)) (andT (op2 (inP true) (varB 7) (varB 4)) (andT (op2 (inP true) (op1 negP (varB 7)) (varB 4)) (notT (op1 asB (callS f__law_both (argsE [varB 2, varB 1, varB 7])))))))
  (retS (valF (constE (.bool false))))
  (skipS))
def g_law_k18 : Env → Out := seqS (setS 1 (valF (callS f__law_many_by (argsE [callS f__law_cell_at (argsE [varB 0, constE (.int 0)]), constE (.int 7)]))))
  (seqS (setS 2 (valF (fzE (callE f__law_far_pile (argsE [callS f__law_cell_at (argsE [varB 0, constE (.int 1)]), varE 1, op2 modP (callS f__law_cell_at (argsE [varB 0, constE (.int 2)])) (constE (.int 17))])))))
  (seqS (setS 2 (valF (fzE (callE f__law_turned (argsE [varE 2, fzE (callE f__law_bits_by (argsE [callS f__law_cell_at (argsE [varB 0, constE (.int 3)]), varE 1]))])))))
  (seqS (setS 3 (valF (fzE (op1 listP (varB 2)))))
  (seqS (setS 4 (valF (fzE (callE f_settled (argsE [varE 1, varE 3])))))
  (seqS (ifS (orT (op2 neP (varB 3) (varB 2)) (notT (op1 asB (op1 (isiP "list") (varB 4)))))
  (retS (valF (constE (.bool false))))
  (skipS))
  (seqS (setS 5 (valF (constE (.int 0))))
  (seqS (forL (varE 4) (tgN 6)
  (l_law_k18_1))
  (seqS (forR (argsE [constE (.int 1), op2 addP (varB 1) (constE (.int 1))]) (tgN 7)
  (l_law_k18_2))
  (retS (valF (constE (.bool true))))))))))))
def f_law_k18 : List PD → R D := fnE 9 1 g_law_k18
theorem f_law_k18_len (ds : List PD) (h : ds.length ≠ 1) : f_law_k18 ds = .bad := fnE_len ds h
end
end Px
namespace Px
open PySem L2
def topS (i : Nat) : Stmt := PySem.Challenge.pw_eitherbook_k14_lines.main.body.getD i (.Pass ⟨0, 0, 0, 0⟩)
section
variable {P : Program} {w : World} {K : PySem.W.Frag} {mg : Str → Option Value} {base : Heap}
abbrev s_switch_of : Stmt := topS 10
abbrev N_switch_of : List Str := ["words", "at", "word", "sign"]
theorem sc_switch_of : FnScope N_switch_of ["words", "at"] (defScope s_switch_of) := ⟨rfl, rfl, rfl, by decide +kernel, rfl, by decide +kernel, by decide +kernel⟩
theorem b_switch_of : ∀ (kV doc pm : Value) (an : Option Addr) (cdv ct : Value) (us : List Value), us.length = (["words", "at"] : List Str).length → bindArgs (PySem.W.fnOf "switch_of" "switch_of" (defArgs s_switch_of) (defBody s_switch_of) (defScope s_switch_of) .none kV doc pm an cdv ct) ⟨us, []⟩ = pure ((["words", "at"] : List Str).zip us) := fun _ _ _ _ _ _ us hl => match us, hl with | [_, _], _ => rfl
theorem k_switch_of (Hs : Has K mg "switch_of" s_switch_of ["words", "at"]) (Bl : Blt mg)  {t_FIGURES : Tok} (c_FIGURES : mg "FIGURES" = some (.str "0123456789" t_FIGURES)) {t_MOST : Tok} (c_MOST : mg "MOST" = some (.int 60 t_MOST)) (e_BadLine : ExcAt K mg "BadLine") : Fct P w K mg base "switch_of" ["words", "at"] 1 f_switch_of :=
  fct_ok (g := g_switch_of) rfl rfl rfl Hs sc_switch_of (fun fa cdv A outer s H E C tk => xs_cons (xs_if (xt_cmp op_ge r_cmp (xb_var 1) (xb_of (xe_B call_len r_len (by rfl) Bl.len (by decide +kernel) (xb_var 0))) (nomark _))
  (xs_one (xs_raiseE rfl tk e_BadLine))
  (xs_nil))
  (xs_cons (xs_set (i := 2) sc_switch_of.nd (xf_of (xe_ix (xb_var 0) (xb_var 1))))
  (xs_cons (xs_if (xt_w (xw_or (xt_cmp (op_eqD C.room.units) r_eq (xb_var 2) (xb_of (xe_str)) (nomark _)) (xw_or (xt_cmp op_gt r_cmp (xb_of (xe_B call_len r_len (by rfl) Bl.len (by decide +kernel) (xb_var 2))) (xb_of (xe_int)) (nomark _)) (xw_or1 (xt_cmp (op_eqD C.room.units) r_eq (xb_of (xe_ix (xb_var 2) (xb_of (xe_int)))) (xb_of (xe_str)) (nomark _))))))
  (xs_one (xs_raiseE rfl tk e_BadLine))
  (xs_nil))
  (xs_cons (xs_forS C (xe_var 2) (pg_name (i := 3) sc_switch_of.nd rfl (by first | exact .inl rfl | exact .inr rfl)) tg_name nx_name
  (xs_one (xs_if (xt_cmp (op_niX (hu65 C.room)) r_ni (xb_var 3) (xb_of (xe_globS (by rfl) c_FIGURES)) (by rfl))
  (xs_one (xs_raiseE rfl tk e_BadLine))
  (xs_nil))))
  (xs_cons (xs_if (xt_cmp op_gt r_cmp (xb_of (xe_Ty call_intX r_int (by rfl) Bl.int (by decide +kernel) (xb_var 2))) (xb_of (xe_globI (by rfl) c_MOST)) (nomark _))
  (xs_one (xs_raiseE rfl tk e_BadLine))
  (xs_nil))
  (xs_one (xs_ret (xf_of (xe_Ty call_intX r_int (by rfl) Bl.int (by decide +kernel) (xb_var 2))))))))))
abbrev s_lit_of : Stmt := topS 11
abbrev N_lit_of : List Str := ["words", "at"]
theorem sc_lit_of : FnScope N_lit_of ["words", "at"] (defScope s_lit_of) := ⟨rfl, rfl, rfl, by decide +kernel, rfl, by decide +kernel, by decide +kernel⟩
theorem b_lit_of : ∀ (kV doc pm : Value) (an : Option Addr) (cdv ct : Value) (us : List Value), us.length = (["words", "at"] : List Str).length → bindArgs (PySem.W.fnOf "lit_of" "lit_of" (defArgs s_lit_of) (defBody s_lit_of) (defScope s_lit_of) .none kV doc pm an cdv ct) ⟨us, []⟩ = pure ((["words", "at"] : List Str).zip us) := fun _ _ _ _ _ _ us hl => match us, hl with | [_, _], _ => rfl
theorem k_lit_of (Hs : Has K mg "lit_of" s_lit_of ["words", "at"]) (Bl : Blt mg) (h_switch_of : Fct P w K mg base "switch_of" ["words", "at"] 1 f_switch_of) : Fct P w K mg base "lit_of" ["words", "at"] 2 f_lit_of :=
  fct_ok (g := g_lit_of) rfl rfl rfl Hs sc_lit_of (fun fa cdv A outer s H E C tk => xs_cons (xs_if (xt_cmp (op_eqD C.room.units) r_eq (xb_of (xe_fz (xf_slice (xb_var 0) (xo_some (xb_var 1)) (xo_some (xb_of (xe_op op_addX r_add (xb_var 1) (xb_of (xe_int)))))))) (xb_of (xe_fz (xf_lst (xa_cons (xe_str) xa_nil)))) (nomark _))
  (xs_one (xs_ret (xf_of (xe_tup (xa_cons (xe_neg (xb_of (xe_callS C h_switch_of (by decide) f_switch_of_len (xab_cons (xb_var 0) (xab_cons (xb_of (xe_op op_addX r_add (xb_var 1) (xb_of (xe_int)))) xab_nil))))) (xa_cons (xe_op op_addX r_add (xb_var 1) (xb_of (xe_int))) xa_nil))))))
  (xs_nil))
  (xs_one (xs_ret (xf_of (xe_tup (xa_cons (xe_callS C h_switch_of (by decide) f_switch_of_len (xab_cons (xb_var 0) (xab_cons (xb_var 1) xab_nil))) (xa_cons (xe_op op_addX r_add (xb_var 1) (xb_of (xe_int))) xa_nil)))))))
abbrev s_read : Stmt := topS 12
abbrev N_read : List Str := ["line", "words", "pair", "first", "joint", "second"]
theorem sc_read : FnScope N_read ["line"] (defScope s_read) := ⟨rfl, rfl, rfl, by decide +kernel, rfl, by decide +kernel, by decide +kernel⟩
theorem b_read : ∀ (kV doc pm : Value) (an : Option Addr) (cdv ct : Value) (us : List Value), us.length = (["line"] : List Str).length → bindArgs (PySem.W.fnOf "read" "read" (defArgs s_read) (defBody s_read) (defScope s_read) .none kV doc pm an cdv ct) ⟨us, []⟩ = pure ((["line"] : List Str).zip us) := fun _ _ _ _ _ _ us hl => match us, hl with | [_], _ => rfl
theorem k_read (Hs : Has K mg "read" s_read ["line"]) (Bl : Blt mg) (h_lit_of : Fct P w K mg base "lit_of" ["words", "at"] 2 f_lit_of) (e_BadLine : ExcAt K mg "BadLine") : Fct P w K mg base "read" ["line"] 3 f_read :=
  fct_ok (g := g_read) rfl rfl rfl Hs sc_read (fun fa cdv A outer s H E C tk => xs_cons (xs_set (i := 1) sc_read.nd (xf_of (xe_fz (xf_split (xb_var 0) (xb_of (xe_str))))))
  (xs_cons (xs_set (i := 2) sc_read.nd (xf_of (xe_fz (xf_callF C h_lit_of (by decide) f_lit_of_len (xa_cons (xe_var 1) (xa_cons (xe_int) xa_nil))))))
  (xs_cons (xs_set (i := 3) sc_read.nd (xf_of (xe_ix (xb_var 2) (xb_of (xe_int)))))
  (xs_cons (xs_if (xt_cmp (op_eqD C.room.units) r_eq (xb_of (xe_ix (xb_var 2) (xb_of (xe_int)))) (xb_of (xe_B call_len r_len (by rfl) Bl.len (by decide +kernel) (xb_var 1))) (nomark _))
  (xs_one (xs_ret (xf_lst (xa_cons (xe_tup (xa_cons (xe_var 3) (xa_cons (xe_var 3) xa_nil))) xa_nil))))
  (xs_nil))
  (xs_cons (xs_set (i := 4) sc_read.nd (xf_of (xe_ix (xb_var 1) (xb_of (xe_ix (xb_var 2) (xb_of (xe_int)))))))
  (xs_cons (xs_set (i := 2) sc_read.nd (xf_of (xe_fz (xf_callF C h_lit_of (by decide) f_lit_of_len (xa_cons (xe_var 1) (xa_cons (xe_op op_addX r_add (xb_of (xe_ix (xb_var 2) (xb_of (xe_int)))) (xb_of (xe_int))) xa_nil))))))
  (xs_cons (xs_set (i := 5) sc_read.nd (xf_of (xe_ix (xb_var 2) (xb_of (xe_int)))))
  (xs_cons (xs_if (xt_cmp op_lt r_cmp (xb_of (xe_ix (xb_var 2) (xb_of (xe_int)))) (xb_of (xe_B call_len r_len (by rfl) Bl.len (by decide +kernel) (xb_var 1))) (nomark _))
  (xs_one (xs_raiseE rfl tk e_BadLine))
  (xs_nil))
  (xs_cons (xs_if (xt_cmp (op_eqD C.room.units) r_eq (xb_var 4) (xb_of (xe_str)) (nomark _))
  (xs_one (xs_ret (xf_lst (xa_cons (xe_tup (xa_cons (xe_var 3) (xa_cons (xe_var 5) xa_nil))) xa_nil))))
  (xs_nil))
  (xs_cons (xs_if (xt_cmp (op_eqD C.room.units) r_eq (xb_var 4) (xb_of (xe_str)) (nomark _))
  (xs_one (xs_ret (xf_lst (xa_cons (xe_tup (xa_cons (xe_neg (xb_var 3)) (xa_cons (xe_var 5) xa_nil))) xa_nil))))
  (xs_nil))
  (xs_cons (xs_if (xt_cmp (op_eqD C.room.units) r_eq (xb_var 4) (xb_of (xe_str)) (nomark _))
  (xs_one (xs_ret (xf_lst (xa_cons (xe_tup (xa_cons (xe_neg (xb_var 3)) (xa_cons (xe_var 5) xa_nil))) (xa_cons (xe_tup (xa_cons (xe_var 3) (xa_cons (xe_neg (xb_var 5)) xa_nil))) xa_nil)))))
  (xs_nil))
  (xs_cons (xs_if (xt_cmp (op_eqD C.room.units) r_eq (xb_var 4) (xb_of (xe_str)) (nomark _))
  (xs_one (xs_ret (xf_lst (xa_cons (xe_tup (xa_cons (xe_var 3) (xa_cons (xe_var 5) xa_nil))) (xa_cons (xe_tup (xa_cons (xe_neg (xb_var 3)) (xa_cons (xe_neg (xb_var 5)) xa_nil))) xa_nil)))))
  (xs_nil))
  (xs_one (xs_raiseE rfl tk e_BadLine))))))))))))))
abbrev s__law_cell_at : Stmt := topS 14
abbrev N__law_cell_at : List Str := ["script", "k"]
theorem sc__law_cell_at : FnScope N__law_cell_at ["script", "k"] (defScope s__law_cell_at) := ⟨rfl, rfl, rfl, by decide +kernel, rfl, by decide +kernel, by decide +kernel⟩
theorem b__law_cell_at : ∀ (kV doc pm : Value) (an : Option Addr) (cdv ct : Value) (us : List Value), us.length = (["script", "k"] : List Str).length → bindArgs (PySem.W.fnOf "_law_cell_at" "_law_cell_at" (defArgs s__law_cell_at) (defBody s__law_cell_at) (defScope s__law_cell_at) .none kV doc pm an cdv ct) ⟨us, []⟩ = pure ((["script", "k"] : List Str).zip us) := fun _ _ _ _ _ _ us hl => match us, hl with | [_, _], _ => rfl
theorem k__law_cell_at (Hs : Has K mg "_law_cell_at" s__law_cell_at ["script", "k"]) (Bl : Blt mg)  : Fct P w K mg base "_law_cell_at" ["script", "k"] 1 f__law_cell_at_k13 :=
  fct_ok (g := g__law_cell_at_k13) rfl rfl rfl Hs sc__law_cell_at (fun fa cdv A outer s H E C tk => xs_cons (xs_if (xt_cmp op_lt r_cmp (xb_var 1) (xb_of (xe_B call_len r_len (by rfl) Bl.len (by decide +kernel) (xb_var 0))) (nomark _))
  (xs_one (xs_ret (xf_of (xe_ix (xb_var 0) (xb_var 1)))))
  (xs_nil))
  (xs_one (xs_ret (xf_of (xe_int)))))
abbrev s__law_whole : Stmt := topS 15
abbrev N__law_whole : List Str := ["found"]
theorem sc__law_whole : FnScope N__law_whole ["found"] (defScope s__law_whole) := ⟨rfl, rfl, rfl, by decide +kernel, rfl, by decide +kernel, by decide +kernel⟩
theorem b__law_whole : ∀ (kV doc pm : Value) (an : Option Addr) (cdv ct : Value) (us : List Value), us.length = (["found"] : List Str).length → bindArgs (PySem.W.fnOf "_law_whole" "_law_whole" (defArgs s__law_whole) (defBody s__law_whole) (defScope s__law_whole) .none kV doc pm an cdv ct) ⟨us, []⟩ = pure ((["found"] : List Str).zip us) := fun _ _ _ _ _ _ us hl => match us, hl with | [_], _ => rfl
theorem k__law_whole (Hs : Has K mg "_law_whole" s__law_whole ["found"]) (Bl : Blt mg)  : Fct P w K mg base "_law_whole" ["found"] 1 f__law_whole_k13 :=
  fct_ok (g := g__law_whole_k13) rfl rfl rfl Hs sc__law_whole (fun fa cdv A outer s H E C tk => xs_one (xs_ret (xf_of (xe_and (xe_isi (T := "int") (by rfl) Bl.isinstance (by decide +kernel) (by rfl) Bl.int (by decide +kernel) (xb_var 0)) (xe_one (xe_not (xe_isi (T := "bool") (by rfl) Bl.isinstance (by decide +kernel) (by rfl) Bl.bool (by decide +kernel) (xb_var 0))))))))
abbrev s__law_word_by : Stmt := topS 16
abbrev N__law_word_by : List Str := ["cell", "words", "way", "signs"]
theorem sc__law_word_by : FnScope N__law_word_by ["cell"] (defScope s__law_word_by) := ⟨rfl, rfl, rfl, by decide +kernel, rfl, by decide +kernel, by decide +kernel⟩
theorem b__law_word_by : ∀ (kV doc pm : Value) (an : Option Addr) (cdv ct : Value) (us : List Value), us.length = (["cell"] : List Str).length → bindArgs (PySem.W.fnOf "_law_word_by" "_law_word_by" (defArgs s__law_word_by) (defBody s__law_word_by) (defScope s__law_word_by) .none kV doc pm an cdv ct) ⟨us, []⟩ = pure ((["cell"] : List Str).zip us) := fun _ _ _ _ _ _ us hl => match us, hl with | [_], _ => rfl
theorem k__law_word_by (Hs : Has K mg "_law_word_by" s__law_word_by ["cell"]) (Bl : Blt mg)  : Fct P w K mg base "_law_word_by" ["cell"] 1 f__law_word_by :=
  fct_ok (g := g__law_word_by) rfl rfl rfl Hs sc__law_word_by (fun fa cdv A outer s H E C tk => xs_cons (xs_set (i := 1) sc__law_word_by.nd (xf_of (xe_fz (xf_lst (xa_cons (xe_str) (xa_cons (xe_str) (xa_cons (xe_str) (xa_cons (xe_str) (xa_cons (xe_str) (xa_cons (xe_str) xa_nil))))))))))
  (xs_cons (xs_set (i := 2) sc__law_word_by.nd (xf_of (xe_op op_mod r_mod (xb_var 0) (xb_of (xe_int)))))
  (xs_cons (xs_if (xt_cmp op_lt r_cmp (xb_var 2) (xb_of (xe_int)) (nomark _))
  (xs_one (xs_ret (xf_of (xe_ix (xb_var 1) (xb_var 2)))))
  (xs_nil))
  (xs_cons (xs_if (xt_cmp op_lt r_cmp (xb_var 2) (xb_of (xe_int)) (nomark _))
  (xs_one (xs_ret (xf_of (xe_Ty call_str_int r_str (by rfl) Bl.str (by decide +kernel) (xb_of (xe_op op_mod r_mod (xb_of (xe_op op_fdiv r_div (xb_var 0) (xb_of (xe_int)))) (xb_of (xe_int))))))))
  (xs_nil))
  (xs_cons (xs_if (xt_cmp (op_eqD C.room.units) r_eq (xb_var 2) (xb_of (xe_int)) (nomark _))
  (xs_one (xs_ret (xf_of (xe_op op_addX r_add (xb_of (xe_str)) (xb_of (xe_Ty call_str_int r_str (by rfl) Bl.str (by decide +kernel) (xb_of (xe_op op_mod r_mod (xb_of (xe_op op_fdiv r_div (xb_var 0) (xb_of (xe_int)))) (xb_of (xe_int))))))))))
  (xs_nil))
  (xs_cons (xs_if (xt_cmp (op_eqD C.room.units) r_eq (xb_var 2) (xb_of (xe_int)) (nomark _))
  (xs_one (xs_ret (xf_of (xe_op op_addX r_add (xb_of (xe_ix (xb_of (xe_str)) (xb_of (xe_op op_mod r_mod (xb_of (xe_op op_fdiv r_div (xb_var 0) (xb_of (xe_int)))) (xb_of (xe_int)))))) (xb_of (xe_Ty call_str_int r_str (by rfl) Bl.str (by decide +kernel) (xb_of (xe_op op_mod r_mod (xb_of (xe_op op_fdiv r_div (xb_var 0) (xb_of (xe_int)))) (xb_of (xe_int))))))))))
  (xs_nil))
  (xs_cons (xs_set (i := 3) sc__law_word_by.nd (xf_of (xe_str)))
  (xs_cons (xs_set (i := 3) sc__law_word_by.nd (xf_of (xe_op op_addX r_add (xb_var 3) (xb_of (xe_str)))))
  (xs_cons (xs_if (xt_cmp (op_eqD C.room.units) r_eq (xb_of (xe_op op_mod r_mod (xb_of (xe_op op_fdiv r_div (xb_var 0) (xb_of (xe_int)))) (xb_of (xe_int)))) (xb_of (xe_int)) (nomark _))
  (xs_one (xs_ret (xf_of (xe_op op_addX r_add (xb_of (xe_op op_addX r_add (xb_of (xe_Ty call_str_int r_str (by rfl) Bl.str (by decide +kernel) (xb_of (xe_op op_mod r_mod (xb_of (xe_op op_fdiv r_div (xb_var 0) (xb_of (xe_int)))) (xb_of (xe_int)))))) (xb_of (xe_ix (xb_var 3) (xb_of (xe_op op_mod r_mod (xb_of (xe_op op_fdiv r_div (xb_var 0) (xb_of (xe_int)))) (xb_of (xe_int)))))))) (xb_of (xe_Ty call_str_int r_str (by rfl) Bl.str (by decide +kernel) (xb_of (xe_op op_mod r_mod (xb_of (xe_op op_fdiv r_div (xb_var 0) (xb_of (xe_int)))) (xb_of (xe_int))))))))))
  (xs_nil))
  (xs_one (xs_ret (xf_of (xe_ix (xb_var 3) (xb_of (xe_op op_mod r_mod (xb_of (xe_op op_fdiv r_div (xb_var 0) (xb_of (xe_int)))) (xb_of (xe_int)))))))))))))))))
abbrev s__law_number : Stmt := topS 17
abbrev N__law_number : List Str := ["word", "sign"]
theorem sc__law_number : FnScope N__law_number ["word"] (defScope s__law_number) := ⟨rfl, rfl, rfl, by decide +kernel, rfl, by decide +kernel, by decide +kernel⟩
theorem b__law_number : ∀ (kV doc pm : Value) (an : Option Addr) (cdv ct : Value) (us : List Value), us.length = (["word"] : List Str).length → bindArgs (PySem.W.fnOf "_law_number" "_law_number" (defArgs s__law_number) (defBody s__law_number) (defScope s__law_number) .none kV doc pm an cdv ct) ⟨us, []⟩ = pure ((["word"] : List Str).zip us) := fun _ _ _ _ _ _ us hl => match us, hl with | [_], _ => rfl
theorem k__law_number (Hs : Has K mg "_law_number" s__law_number ["word"]) (Bl : Blt mg)  : Fct P w K mg base "_law_number" ["word"] 1 f__law_number :=
  fct_ok (g := g__law_number) rfl rfl rfl Hs sc__law_number (fun fa cdv A outer s H E C tk => xs_cons (xs_if (xt_w (xw_or (xt_cmp (op_eqD C.room.units) r_eq (xb_var 0) (xb_of (xe_str)) (nomark _)) (xw_or (xt_cmp op_gt r_cmp (xb_of (xe_B call_len r_len (by rfl) Bl.len (by decide +kernel) (xb_var 0))) (xb_of (xe_int)) (nomark _)) (xw_or1 (xt_cmp (op_eqD C.room.units) r_eq (xb_of (xe_ix (xb_var 0) (xb_of (xe_int)))) (xb_of (xe_str)) (nomark _))))))
  (xs_one (xs_ret (xf_of (xe_int))))
  (xs_nil))
  (xs_cons (xs_forS C (xe_var 0) (pg_name (i := 1) sc__law_number.nd rfl (by first | exact .inl rfl | exact .inr rfl)) tg_name nx_name
  (xs_one (xs_if (xt_cmp (op_niX (hu65 C.room)) r_ni (xb_var 1) (xb_of (xe_str)) (by rfl))
  (xs_one (xs_ret (xf_of (xe_int))))
  (xs_nil))))
  (xs_cons (xs_if (xt_cmp op_gt r_cmp (xb_of (xe_Ty call_intX r_int (by rfl) Bl.int (by decide +kernel) (xb_var 0))) (xb_of (xe_int)) (nomark _))
  (xs_one (xs_ret (xf_of (xe_int))))
  (xs_nil))
  (xs_one (xs_ret (xf_of (xe_Ty call_intX r_int (by rfl) Bl.int (by decide +kernel) (xb_var 0))))))))
abbrev s__law_taken : Stmt := topS 18
abbrev N__law_taken : List Str := ["words"]
theorem sc__law_taken : FnScope N__law_taken ["words"] (defScope s__law_taken) := ⟨rfl, rfl, rfl, by decide +kernel, rfl, by decide +kernel, by decide +kernel⟩
theorem b__law_taken : ∀ (kV doc pm : Value) (an : Option Addr) (cdv ct : Value) (us : List Value), us.length = (["words"] : List Str).length → bindArgs (PySem.W.fnOf "_law_taken" "_law_taken" (defArgs s__law_taken) (defBody s__law_taken) (defScope s__law_taken) .none kV doc pm an cdv ct) ⟨us, []⟩ = pure ((["words"] : List Str).zip us) := fun _ _ _ _ _ _ us hl => match us, hl with | [_], _ => rfl
theorem k__law_taken (Hs : Has K mg "_law_taken" s__law_taken ["words"]) (Bl : Blt mg) (h__law_number : Fct P w K mg base "_law_number" ["word"] 1 f__law_number) : Fct P w K mg base "_law_taken" ["words"] 2 f__law_taken :=
  fct_ok (g := g__law_taken) rfl rfl rfl Hs sc__law_taken (fun fa cdv A outer s H E C tk => xs_cons (xs_if (xt_w (xw_and (xt_cmp (op_eqD C.room.units) r_eq (xb_of (xe_fz (xf_slice (xb_var 0) (xo_none) (xo_some (xb_of (xe_int)))))) (xb_of (xe_fz (xf_lst (xa_cons (xe_str) xa_nil)))) (nomark _)) (xw_and1 (xt_cmp op_gt r_cmp (xb_of (xe_B call_len r_len (by rfl) Bl.len (by decide +kernel) (xb_var 0))) (xb_of (xe_int)) (nomark _)))))
  (xs_one (xs_ret (xf_of (xe_tup (xa_cons (xe_neg (xb_of (xe_callS C h__law_number (by decide) f__law_number_len (xab_cons (xb_of (xe_ix (xb_var 0) (xb_of (xe_int)))) xab_nil)))) (xa_cons (xe_fz (xf_slice (xb_var 0) (xo_some (xb_of (xe_int))) (xo_none))) xa_nil))))))
  (xs_nil))
  (xs_cons (xs_if (xt_cmp op_gt r_cmp (xb_of (xe_B call_len r_len (by rfl) Bl.len (by decide +kernel) (xb_var 0))) (xb_of (xe_int)) (nomark _))
  (xs_one (xs_ret (xf_of (xe_tup (xa_cons (xe_callS C h__law_number (by decide) f__law_number_len (xab_cons (xb_of (xe_ix (xb_var 0) (xb_of (xe_int)))) xab_nil)) (xa_cons (xe_fz (xf_slice (xb_var 0) (xo_some (xb_of (xe_int))) (xo_none))) xa_nil))))))
  (xs_nil))
  (xs_one (xs_ret (xf_of (xe_tup (xa_cons (xe_int) (xa_cons (xe_fz (xf_lst (xa_nil))) xa_nil))))))))
abbrev s__law_due : Stmt := topS 19
abbrev N__law_due : List Str := ["line", "first", "second", "a", "b", "joint"]
theorem sc__law_due : FnScope N__law_due ["line"] (defScope s__law_due) := ⟨rfl, rfl, rfl, by decide +kernel, rfl, by decide +kernel, by decide +kernel⟩
theorem b__law_due : ∀ (kV doc pm : Value) (an : Option Addr) (cdv ct : Value) (us : List Value), us.length = (["line"] : List Str).length → bindArgs (PySem.W.fnOf "_law_due" "_law_due" (defArgs s__law_due) (defBody s__law_due) (defScope s__law_due) .none kV doc pm an cdv ct) ⟨us, []⟩ = pure ((["line"] : List Str).zip us) := fun _ _ _ _ _ _ us hl => match us, hl with | [_], _ => rfl
theorem k__law_due (Hs : Has K mg "_law_due" s__law_due ["line"]) (Bl : Blt mg) (h__law_taken : Fct P w K mg base "_law_taken" ["words"] 2 f__law_taken) : Fct P w K mg base "_law_due" ["line"] 3 f__law_due :=
  fct_ok (g := g__law_due) rfl rfl rfl Hs sc__law_due (fun fa cdv A outer s H E C tk => xs_cons (xs_set (i := 1) sc__law_due.nd (xf_of (xe_fz (xf_callF C h__law_taken (by decide) f__law_taken_len (xa_cons (xe_fz (xf_split (xb_var 0) (xb_of (xe_str)))) xa_nil)))))
  (xs_cons (xs_if (xt_cmp (op_eqD C.room.units) r_eq (xb_of (xe_ix (xb_var 1) (xb_of (xe_int)))) (xb_of (xe_int)) (nomark _))
  (xs_one (xs_ret (xf_of (xe_non))))
  (xs_nil))
  (xs_cons (xs_if (xt_cmp (op_eqD C.room.units) r_eq (xb_of (xe_B call_len r_len (by rfl) Bl.len (by decide +kernel) (xb_of (xe_ix (xb_var 1) (xb_of (xe_int)))))) (xb_of (xe_int)) (nomark _))
  (xs_one (xs_ret (xf_lst (xa_cons (xe_tup (xa_cons (xe_ix (xb_var 1) (xb_of (xe_int))) (xa_cons (xe_ix (xb_var 1) (xb_of (xe_int))) xa_nil))) xa_nil))))
  (xs_nil))
  (xs_cons (xs_set (i := 2) sc__law_due.nd (xf_of (xe_fz (xf_callF C h__law_taken (by decide) f__law_taken_len (xa_cons (xe_fz (xf_slice (xb_of (xe_ix (xb_var 1) (xb_of (xe_int)))) (xo_some (xb_of (xe_int))) (xo_none))) xa_nil)))))
  (xs_cons (xs_if (xt_w (xw_or (xt_cmp (op_eqD C.room.units) r_eq (xb_of (xe_ix (xb_var 2) (xb_of (xe_int)))) (xb_of (xe_int)) (nomark _)) (xw_or1 (xt_cmp op_gt r_cmp (xb_of (xe_B call_len r_len (by rfl) Bl.len (by decide +kernel) (xb_of (xe_ix (xb_var 2) (xb_of (xe_int)))))) (xb_of (xe_int)) (nomark _)))))
  (xs_one (xs_ret (xf_of (xe_non))))
  (xs_nil))
  (xs_cons (xs_set (i := 3) sc__law_due.nd (xf_of (xe_ix (xb_var 1) (xb_of (xe_int)))))
  (xs_cons (xs_set (i := 4) sc__law_due.nd (xf_of (xe_ix (xb_var 2) (xb_of (xe_int)))))
  (xs_cons (xs_set (i := 5) sc__law_due.nd (xf_of (xe_ix (xb_of (xe_ix (xb_var 1) (xb_of (xe_int)))) (xb_of (xe_int)))))
  (xs_cons (xs_if (xt_cmp (op_eqD C.room.units) r_eq (xb_var 5) (xb_of (xe_str)) (nomark _))
  (xs_one (xs_ret (xf_lst (xa_cons (xe_tup (xa_cons (xe_var 3) (xa_cons (xe_var 4) xa_nil))) xa_nil))))
  (xs_nil))
  (xs_cons (xs_if (xt_cmp (op_eqD C.room.units) r_eq (xb_var 5) (xb_of (xe_str)) (nomark _))
  (xs_one (xs_ret (xf_lst (xa_cons (xe_tup (xa_cons (xe_neg (xb_var 3)) (xa_cons (xe_var 4) xa_nil))) xa_nil))))
  (xs_nil))
  (xs_cons (xs_if (xt_cmp (op_eqD C.room.units) r_eq (xb_var 5) (xb_of (xe_str)) (nomark _))
  (xs_one (xs_ret (xf_lst (xa_cons (xe_tup (xa_cons (xe_neg (xb_var 3)) (xa_cons (xe_var 4) xa_nil))) (xa_cons (xe_tup (xa_cons (xe_var 3) (xa_cons (xe_neg (xb_var 4)) xa_nil))) xa_nil)))))
  (xs_nil))
  (xs_cons (xs_if (xt_cmp (op_eqD C.room.units) r_eq (xb_var 5) (xb_of (xe_str)) (nomark _))
  (xs_one (xs_ret (xf_lst (xa_cons (xe_tup (xa_cons (xe_var 3) (xa_cons (xe_var 4) xa_nil))) (xa_cons (xe_tup (xa_cons (xe_neg (xb_var 3)) (xa_cons (xe_neg (xb_var 4)) xa_nil))) xa_nil)))))
  (xs_nil))
  (xs_one (xs_ret (xf_of (xe_non))))))))))))))))
abbrev s__law_read : Stmt := topS 20
abbrev N__law_read : List Str := ["line", "found", "e", "some"]
theorem sc__law_read : FnScope N__law_read ["line"] (defScope s__law_read) := ⟨rfl, rfl, rfl, by decide +kernel, rfl, by decide +kernel, by decide +kernel⟩
theorem b__law_read : ∀ (kV doc pm : Value) (an : Option Addr) (cdv ct : Value) (us : List Value), us.length = (["line"] : List Str).length → bindArgs (PySem.W.fnOf "_law_read" "_law_read" (defArgs s__law_read) (defBody s__law_read) (defScope s__law_read) .none kV doc pm an cdv ct) ⟨us, []⟩ = pure ((["line"] : List Str).zip us) := fun _ _ _ _ _ _ us hl => match us, hl with | [_], _ => rfl
theorem k__law_read (Hs : Has K mg "_law_read" s__law_read ["line"]) (Bl : Blt mg) (h_read : Fct P w K mg base "read" ["line"] 3 f_read) (x_BadLine : ExcIs K mg "BadLine" "SayError" ["BadSay", "EmptyBook", "NoSetting", "FullBook"]) : Fct P w K mg base "_law_read" ["line"] 4 f__law_read :=
  fct_ok (g := g__law_read) rfl rfl rfl Hs sc__law_read (fun fa cdv A outer s H E C tk => xs_cons (xs_try (i := 2) (c := "BadLine") (s := "SayError") (r := (.tuple [.bool false, .bool true])) C tk x_BadLine rfl rfl sc__law_read.nd rfl rfl rfl (by decide) (fun pn xe E2 C2 tk2 => xs_one (xs_set (i := 1) sc__law_read.nd (xf_of (xe_fz (xf_callF C2 h_read (by decide) f_read_len (xa_cons (xe_var 0) xa_nil)))))) (fun a oe Ca pn gC hz hf => su_pair (i := 2) (j := 3) (by decide) sc__law_read.nd rfl (by first | exact .inl rfl | exact .inr rfl) (pe_no x_BadLine gC hz hf (by decide) Bl.isinstance) (pe_no x_BadLine gC hz hf (by decide) Bl.isinstance) (pe_no x_BadLine gC hz hf (by decide) Bl.isinstance) (pe_no x_BadLine gC hz hf (by decide) Bl.isinstance) rfl (by first | exact .inl rfl | exact .inr rfl) rfl rfl rfl rfl (pe_yes x_BadLine gC hz hf Bl.isinstance) (pe_val x_BadLine gC hz hf Bl.isinstance) (xe_cmp (op_eqD C.room.units) r_eq (xb_var 3) (xb_of (xe_fz (xf_op op_rep r_rep (xb_of (xe_fz (xf_lst (xa_cons (xe_bl) xa_nil)))) (xb_of (xe_int))))) (nomark _))))
  (xs_one (xs_ret (xf_of (xe_tup (xa_cons (xe_bl) (xa_cons (xe_var 1) xa_nil)))))))
abbrev s__law_right : Stmt := topS 21
abbrev N__law_right : List Str := ["got", "due", "say"]
theorem sc__law_right : FnScope N__law_right ["got", "due"] (defScope s__law_right) := ⟨rfl, rfl, rfl, by decide +kernel, rfl, by decide +kernel, by decide +kernel⟩
theorem b__law_right : ∀ (kV doc pm : Value) (an : Option Addr) (cdv ct : Value) (us : List Value), us.length = (["got", "due"] : List Str).length → bindArgs (PySem.W.fnOf "_law_right" "_law_right" (defArgs s__law_right) (defBody s__law_right) (defScope s__law_right) .none kV doc pm an cdv ct) ⟨us, []⟩ = pure ((["got", "due"] : List Str).zip us) := fun _ _ _ _ _ _ us hl => match us, hl with | [_, _], _ => rfl
theorem k__law_right (Hs : Has K mg "_law_right" s__law_right ["got", "due"]) (Bl : Blt mg) (h__law_whole : Fct P w K mg base "_law_whole" ["found"] 1 f__law_whole_k13) : Fct P w K mg base "_law_right" ["got", "due"] 2 f__law_right_k14 :=
  fct_ok (g := g__law_right_k14) rfl rfl rfl Hs sc__law_right (fun fa cdv A outer s H E C tk => xs_cons (xs_if (xt_cmp op_isN r_isN (xb_var 1) (xb_of (xe_non)) (nomark _))
  (xs_one (xs_ret (xf_of (xe_cmp (op_eqD C.room.units) r_eq (xb_var 0) (xb_of (xe_tup (xa_cons (xe_bl) (xa_cons (xe_bl) xa_nil)))) (nomark _)))))
  (xs_nil))
  (xs_cons (xs_if (xt_w (xw_or (xt_not (xt_val (xe_ix (xb_var 0) (xb_of (xe_int))))) (xw_or (xt_not (xt_val (xe_isi (T := "list") (by rfl) Bl.isinstance (by decide +kernel) (by rfl) Bl.list (by decide +kernel) (xb_of (xe_ix (xb_var 0) (xb_of (xe_int))))))) (xw_or1 (xt_cmp (op_neD C.room.units) r_ne (xb_of (xe_B call_len r_len (by rfl) Bl.len (by decide +kernel) (xb_of (xe_ix (xb_var 0) (xb_of (xe_int)))))) (xb_of (xe_B call_len r_len (by rfl) Bl.len (by decide +kernel) (xb_var 1))) (nomark _))))))
  (xs_one (xs_ret (xf_of (xe_bl))))
  (xs_nil))
  (xs_cons (xs_forL C (xe_ix (xb_var 0) (xb_of (xe_int))) (pg_name (i := 2) sc__law_right.nd rfl (by first | exact .inl rfl | exact .inr rfl)) tg_name nx_name
  (xs_cons (xs_if (xt_w (xw_or (xt_not (xt_val (xe_isi (T := "tuple") (by rfl) Bl.isinstance (by decide +kernel) (by rfl) Bl.tuple (by decide +kernel) (xb_var 2)))) (xw_or1 (xt_cmp (op_neD C.room.units) r_ne (xb_of (xe_B call_len r_len (by rfl) Bl.len (by decide +kernel) (xb_var 2))) (xb_of (xe_int)) (nomark _)))))
  (xs_one (xs_ret (xf_of (xe_bl))))
  (xs_nil))
  (xs_one (xs_if (xt_w (xw_or (xt_not (xt_val (xe_callS C h__law_whole (by decide) f__law_whole_k13_len (xab_cons (xb_of (xe_ix (xb_var 2) (xb_of (xe_int)))) xab_nil)))) (xw_or1 (xt_not (xt_val (xe_callS C h__law_whole (by decide) f__law_whole_k13_len (xab_cons (xb_of (xe_ix (xb_var 2) (xb_of (xe_int)))) xab_nil)))))))
  (xs_one (xs_ret (xf_of (xe_bl))))
  (xs_nil)))))
  (xs_one (xs_ret (xf_of (xe_cmp (op_eqD C.room.units) r_eq (xb_of (xe_ix (xb_var 0) (xb_of (xe_int)))) (xb_var 1) (nomark _))))))))
abbrev s_law : Stmt := topS 22
abbrev N_law : List Str := ["script", "words", "k", "line", "at", "cell", "joint", "due"]
theorem sc_law : FnScope N_law ["script"] (defScope s_law) := ⟨rfl, rfl, rfl, by decide +kernel, rfl, by decide +kernel, by decide +kernel⟩
theorem b_law : ∀ (kV doc pm : Value) (an : Option Addr) (cdv ct : Value) (us : List Value), us.length = (["script"] : List Str).length → bindArgs (PySem.W.fnOf "law" "law" (defArgs s_law) (defBody s_law) (defScope s_law) .none kV doc pm an cdv ct) ⟨us, []⟩ = pure ((["script"] : List Str).zip us) := fun _ _ _ _ _ _ us hl => match us, hl with | [_], _ => rfl
theorem k_law {fa : Addr} {fd : FuncData} (Fn : Fun K "law" "law" s_law fa fd) (Bl : Blt mg) (h__law_due : Fct P w K mg base "_law_due" ["line"] 3 f__law_due) (h__law_cell_at : Fct P w K mg base "_law_cell_at" ["script", "k"] 1 f__law_cell_at_k13) (h__law_right : Fct P w K mg base "_law_right" ["got", "due"] 2 f__law_right_k14) (h__law_word_by : Fct P w K mg base "_law_word_by" ["cell"] 1 f__law_word_by) (h__law_read : Fct P w K mg base "_law_read" ["line"] 4 f__law_read) (pure_law : ∀ ns : List Int, ns.length ≤ 63 → f_law_k14 [scr ns] = .ok (.val (.bool true))) : FnOk P w K mg base (L2.CX P w) 5 fa fd ["script"] (spLaw K) :=
  law_fn (g := g_law_k14) rfl rfl Fn sc_law pure_law (fun fa cdv A outer s H E C tk => xs_cons (xs_set (i := 1) sc_law.nd (xf_lst (xa_nil)))
  (xs_cons (xs_forR1 C Bl.range (xa_cons (xe_op op_mod r_mod (xb_of (xe_callS C h__law_cell_at (by decide) f__law_cell_at_k13_len (xab_cons (xb_var 0) (xab_cons (xb_of (xe_int)) xab_nil)))) (xb_of (xe_int))) xa_nil) (pg_name (i := 2) sc_law.nd rfl (by first | exact .inl rfl | exact .inr rfl)) tg_name nx_name
  (xs_one (xs_push 1 (xe_callS C h__law_word_by (by decide) f__law_word_by_len (xab_cons (xb_of (xe_callS C h__law_cell_at (by decide) f__law_cell_at_k13_len (xab_cons (xb_var 0) (xab_cons (xb_of (xe_op op_addX r_add (xb_of (xe_int)) (xb_var 2))) xab_nil)))) xab_nil)))) argsE1)
  (xs_cons (xs_set (i := 3) sc_law.nd (xf_of (xe_join (xb_of (xe_str)) (xb_var 1))))
  (xs_cons (xs_if (xt_cmp (op_eqD C.room.units) r_eq (xb_of (xe_op op_mod r_mod (xb_of (xe_op op_fdiv r_div (xb_of (xe_callS C h__law_cell_at (by decide) f__law_cell_at_k13_len (xab_cons (xb_var 0) (xab_cons (xb_of (xe_int)) xab_nil)))) (xb_of (xe_int)))) (xb_of (xe_int)))) (xb_of (xe_int)) (nomark _))
  (xs_cons (xs_set (i := 4) sc_law.nd (xf_of (xe_op op_mod r_mod (xb_of (xe_callS C h__law_cell_at (by decide) f__law_cell_at_k13_len (xab_cons (xb_var 0) (xab_cons (xb_of (xe_int)) xab_nil)))) (xb_of (xe_op op_addX r_add (xb_of (xe_B call_len r_len (by rfl) Bl.len (by decide +kernel) (xb_var 3))) (xb_of (xe_int)))))))
  (xs_one (xs_set (i := 3) sc_law.nd (xf_of (xe_op op_addX r_add (xb_of (xe_op op_addX r_add (xb_of (xe_sliceS (xb_var 3) (xo_none) (xo_some (xb_var 4)))) (xb_of (xe_str)))) (xb_of (xe_sliceS (xb_var 3) (xo_some (xb_var 4)) (xo_none))))))))
  (xs_nil))
  (xs_cons (xs_if (xt_cmp (op_eqD C.room.units) r_eq (xb_of (xe_op op_mod r_mod (xb_of (xe_op op_fdiv r_div (xb_of (xe_callS C h__law_cell_at (by decide) f__law_cell_at_k13_len (xab_cons (xb_var 0) (xab_cons (xb_of (xe_int)) xab_nil)))) (xb_of (xe_int)))) (xb_of (xe_int)))) (xb_of (xe_int)) (nomark _))
  (xs_cons (xs_set (i := 5) sc_law.nd (xf_of (xe_callS C h__law_cell_at (by decide) f__law_cell_at_k13_len (xab_cons (xb_var 0) (xab_cons (xb_of (xe_int)) xab_nil)))))
  (xs_cons (xs_set (i := 6) sc_law.nd (xf_of (xe_ix (xb_of (xe_fz (xf_lst (xa_cons (xe_str) (xa_cons (xe_str) (xa_cons (xe_str) (xa_cons (xe_str) (xa_cons (xe_str) xa_nil)))))))) (xb_of (xe_op op_mod r_mod (xb_of (xe_callS C h__law_cell_at (by decide) f__law_cell_at_k13_len (xab_cons (xb_var 0) (xab_cons (xb_of (xe_int)) xab_nil)))) (xb_of (xe_int)))))))
  (xs_cons (xs_set (i := 1) sc_law.nd (xf_lst (xa_cons (xe_Ty call_str_int r_str (by rfl) Bl.str (by decide +kernel) (xb_of (xe_op op_mod r_mod (xb_var 5) (xb_of (xe_int))))) (xa_cons (xe_var 6) (xa_cons (xe_str) (xa_cons (xe_Ty call_str_int r_str (by rfl) Bl.str (by decide +kernel) (xb_of (xe_op op_mod r_mod (xb_of (xe_op op_fdiv r_div (xb_var 5) (xb_of (xe_int)))) (xb_of (xe_int))))) (xa_cons (xe_callS C h__law_word_by (by decide) f__law_word_by_len (xab_cons (xb_of (xe_callS C h__law_cell_at (by decide) f__law_cell_at_k13_len (xab_cons (xb_var 0) (xab_cons (xb_of (xe_int)) xab_nil)))) xab_nil)) xa_nil)))))))
  (xs_one (xs_set (i := 3) sc_law.nd (xf_of (xe_join (xb_of (xe_str)) (xb_of (xe_fz (xf_slice (xb_var 1) (xo_none) (xo_some (xb_of (xe_op op_addX r_add (xb_of (xe_int)) (xb_of (xe_op op_mod r_mod (xb_of (xe_op op_fdiv r_div (xb_var 5) (xb_of (xe_int)))) (xb_of (xe_int)))))))))))))))))
  (xs_nil))
  (xs_cons (xs_set (i := 7) sc_law.nd (xf_of (xe_fz (xf_callF C h__law_due (by decide) f__law_due_len (xa_cons (xe_var 3) xa_nil)))))
  (xs_one (xs_ret (xf_of (xe_and (xe_callS C h__law_right (by decide) f__law_right_k14_len (xab_cons (xb_of (xe_fz (xf_callF C h__law_read (by decide) f__law_read_len (xa_cons (xe_var 3) xa_nil)))) (xab_cons (xb_var 7) xab_nil))) (xe_one (xe_callS C h__law_right (by decide) f__law_right_k14_len (xab_cons (xb_of (xe_fz (xf_callF C h__law_read (by decide) f__law_read_len (xa_cons (xe_var 3) xa_nil)))) (xab_cons (xb_var 7) xab_nil))))))))))))))
end
theorem all_k14 {P : Program} {w : World} {K : PySem.W.Frag} {mg : Str → Option Value} (pure_law : ∀ ns : List Int, ns.length ≤ 63 → f_law_k14 [scr ns] = .ok (.val (.bool true))) (Bl : Blt mg)
    (H_switch_of : Has K mg "switch_of" s_switch_of ["words", "at"])
    (H_lit_of : Has K mg "lit_of" s_lit_of ["words", "at"])
    (H_read : Has K mg "read" s_read ["line"])
    (H__law_cell_at : Has K mg "_law_cell_at" s__law_cell_at ["script", "k"])
    (H__law_whole : Has K mg "_law_whole" s__law_whole ["found"])
    (H__law_word_by : Has K mg "_law_word_by" s__law_word_by ["cell"])
    (H__law_number : Has K mg "_law_number" s__law_number ["word"])
    (H__law_taken : Has K mg "_law_taken" s__law_taken ["words"])
    (H__law_due : Has K mg "_law_due" s__law_due ["line"])
    (H__law_read : Has K mg "_law_read" s__law_read ["line"])
    (H__law_right : Has K mg "_law_right" s__law_right ["got", "due"])
    (H_law : Has K mg "law" s_law ["script"])
    {t_FIGURES : Tok} (c_FIGURES : mg "FIGURES" = some (.str "0123456789" t_FIGURES))
    {t_MOST : Tok} (c_MOST : mg "MOST" = some (.int 60 t_MOST))
    (e_BadLine : ExcAt K mg "BadLine")
    (x_BadLine : ExcIs K mg "BadLine" "SayError" ["BadSay", "EmptyBook", "NoSetting", "FullBook"])
    : Has K mg "law" s_law ["script"] ∧ ∀ (a : Addr) (fd : FuncData), Fun K "law" "law" s_law a fd → ∀ base : Heap, FnOk P w K mg base (L2.CX P w) 5 a fd ["script"] (spLaw K) := by
  refine ⟨H_law, fun a fd Fn base => ?_⟩
  have h_switch_of := k_switch_of (P := P) (w := w) (base := base) H_switch_of Bl  c_FIGURES c_MOST e_BadLine
  have h_lit_of := k_lit_of (P := P) (w := w) (base := base) H_lit_of Bl h_switch_of
  have h_read := k_read (P := P) (w := w) (base := base) H_read Bl h_lit_of e_BadLine
  have h__law_cell_at := k__law_cell_at (P := P) (w := w) (base := base) H__law_cell_at Bl 
  have h__law_whole := k__law_whole (P := P) (w := w) (base := base) H__law_whole Bl 
  have h__law_word_by := k__law_word_by (P := P) (w := w) (base := base) H__law_word_by Bl 
  have h__law_number := k__law_number (P := P) (w := w) (base := base) H__law_number Bl 
  have h__law_taken := k__law_taken (P := P) (w := w) (base := base) H__law_taken Bl h__law_number
  have h__law_due := k__law_due (P := P) (w := w) (base := base) H__law_due Bl h__law_taken
  have h__law_read := k__law_read (P := P) (w := w) (base := base) H__law_read Bl h_read x_BadLine
  have h__law_right := k__law_right (P := P) (w := w) (base := base) H__law_right Bl h__law_whole
  exact k_law Fn Bl h__law_due h__law_cell_at h__law_right h__law_word_by h__law_read pure_law
end Px
namespace Px
open PySem L2
noncomputable section
section
variable {α β : Type}
@[simp] theorem bind_ok' (a : α) (f : α → R β) : (R.ok a).bind f = f a := rfl
@[simp] theorem bind_exc' (c : Str) (f : α → R β) : (R.exc c : R α).bind f = .exc c := rfl
@[simp] theorem bind_bad' (f : α → R β) : (R.bad : R α).bind f = .bad := rfl
@[simp] theorem out_ok' (a : α) (f : α → Out) : (R.ok a).out f = f a := rfl
@[simp] theorem out_exc' (c : Str) (f : α → Out) : (R.exc c : R α).out f = .exc c := rfl
@[simp] theorem out_bad' (f : α → Out) : (R.bad : R α).out f = .bad := rfl
@[simp] theorem nx_ok' (a : α) : (R.ok a).nx = .ok a := rfl
end
@[simp] theorem getE_z (x : Option D) (r : Env) : getE (x :: r) 0 = x := rfl
@[simp] theorem getE_s (x : Option D) (r : Env) (n : Nat) : getE (x :: r) (n + 1) = getE r n := rfl
@[simp] theorem setE_z (x d : Option D) (r : Env) : setE (x :: r) 0 d = d :: r := rfl
@[simp] theorem setE_s (x d : Option D) (r : Env) (n : Nat) : setE (x :: r) (n + 1) d = x :: setE r n d := rfl
@[simp] theorem varE_d (i : Nat) (L : Env) : varE i L = slotE (getE L i) := rfl
@[simp] theorem varB_d (i : Nat) (L : Env) : varB i L = slotB (getE L i) := rfl
@[simp] theorem slotE_v (d : PD) : slotE (some (.val d)) = .ok d := rfl
@[simp] theorem slotB_v (d : PD) : slotB (some (.val d)) = .ok d := rfl
@[simp] theorem slotB_o (ds : List PD) : slotB (some (.own ds)) = .ok (.list ds) := rfl
@[simp] theorem op2_d {α : Type} (g : PD → PD → R α) (a b : Env → R PD) (L : Env) : op2 g a b L = (a L).bind fun x => (b L).bind fun y => g x y := rfl
@[simp] theorem op1_d {α : Type} (g : PD → R α) (a : Env → R PD) (L : Env) : op1 g a L = (a L).bind g := rfl
@[simp] theorem constE_d (d : PD) (L : Env) : constE d L = .ok d := rfl
@[simp] theorem argsE_n (L : Env) : argsE [] L = .ok [] := rfl
@[simp] theorem argsE_c (f : Env → R PD) (fs : List (Env → R PD)) (L : Env) : argsE (f :: fs) L = (f L).bind fun d => (argsE fs L).bind fun ds => .ok (d :: ds) := rfl
@[simp] theorem tupE_d (fs : List (Env → R PD)) (L : Env) : tupE fs L = (argsE fs L).bind fun ds => .ok (.tuple ds) := rfl
@[simp] theorem lstE_d (fs : List (Env → R PD)) (L : Env) : lstE fs L = (argsE fs L).bind fun ds => .ok (.own ds) := rfl
@[simp] theorem valF_d (f : Env → R PD) (L : Env) : valF f L = (f L).bind valD := rfl
@[simp] theorem valD_d (d : PD) : valD d = .ok (.val d) := rfl
@[simp] theorem fzE_d (f : Env → R D) (L : Env) : fzE f L = (f L).bind fz := rfl
@[simp] theorem fz_v (d : PD) : fz (.val d) = .ok d := rfl
@[simp] theorem fz_o (ds : List PD) : fz (.own ds) = .ok (.list ds) := rfl
@[simp] theorem bvE_d (f : Env → R Bool) (L : Env) : bvE f L = bV (f L) := rfl
@[simp] theorem bV_ok (b : Bool) : bV (.ok b) = .ok (.bool b) := rfl
@[simp] theorem asB_b (b : Bool) : asB (.bool b) = .ok b := rfl
@[simp] theorem notT_d (f : Env → R Bool) (L : Env) : notT f L = (f L).bind fun b => .ok (!b) := rfl
@[simp] theorem andT_d (f g : Env → R Bool) (L : Env) : andT f g L = (f L).bind fun b => if b = true then g L else .ok false := rfl
@[simp] theorem orT_d (f g : Env → R Bool) (L : Env) : orT f g L = (f L).bind fun b => if b = true then .ok true else g L := rfl
@[simp] theorem andV_d (f g : Env → R PD) (L : Env) : andV f g L = (f L).bind fun d => (asB d).bind fun b => if b = true then g L else .ok (.bool false) := rfl
@[simp] theorem orV_d (f g : Env → R PD) (L : Env) : orV f g L = (f L).bind fun d => (asB d).bind fun b => if b = true then .ok (.bool true) else g L := rfl
@[simp] theorem notV_d (f : Env → R PD) (L : Env) : notV f L = (f L).bind fun d => (asB d).bind fun b => .ok (.bool (!b)) := rfl
@[simp] theorem iteE_d {α : Type} (t : Env → R Bool) (f g : Env → R α) (L : Env) : iteE t f g L = (t L).bind fun b => if b = true then f L else g L := rfl
@[simp] theorem callE_d (fc : List PD → R D) (fs : Env → R (List PD)) (L : Env) : callE fc fs L = (fs L).bind fc := rfl
@[simp] theorem callS_d (fc : List PD → R D) (fs : Env → R (List PD)) (L : Env) : callS fc fs L = (fs L).bind fun ds => (fc ds).bind plainD := rfl
@[simp] theorem plain_i (i : Int) : plainD (.val (.int i)) = .ok (.int i) := cif_pos rfl
@[simp] theorem plain_b (i : Bool) : plainD (.val (.bool i)) = .ok (.bool i) := cif_pos rfl
@[simp] theorem plain_n : plainD (.val .none) = .ok .none := cif_pos rfl
@[simp] theorem plain_s (i : Str) : plainD (.val (.str i)) = .ok (.str i) := cif_pos rfl
@[simp] theorem skip_d (L : Env) : skipS L = .next L := rfl
@[simp] theorem set_d (i : Nat) (f : Env → R D) (L : Env) : setS i f L = (f L).out fun d => .next (setE L i (some d)) := rfl
@[simp] theorem if_d (t : Env → R Bool) (g h : Env → Out) (L : Env) : ifS t g h L = (t L).out fun b => if b = true then g L else h L := rfl
@[simp] theorem ret_d (f : Env → R D) (L : Env) : retS f L = (f L).out fun d => .ret d := rfl
@[simp] theorem retN_d (L : Env) : retN L = .ret (.val .none) := rfl
@[simp] theorem raise_d (c : Str) (L : Env) : raiseS c L = .exc c := rfl
def retO : Option D → Out
  | some d => .ret d
  | none => .bad
@[simp] theorem retO_s (d : D) : retO (some d) = .ret d := rfl
@[simp] theorem retV_d (i : Nat) (L : Env) : retV i L = retO (getE L i) := by
  unfold retV retO
  cases getE L i <;> rfl
def Out.thn : Out → (Env → Out) → Out
  | .next L', h => h L'
  | .ret d, _ => .ret d
  | .brk L', _ => .brk L'
  | .ct L', _ => .ct L'
  | .exc c, _ => .exc c
  | .bad, _ => .bad
@[simp] theorem seq_d (g h : Env → Out) (L : Env) : seqS g h L = (g L).thn h := by
  unfold seqS Out.thn
  cases g L <;> rfl
@[simp] theorem thn_n (L : Env) (h : Env → Out) : (Out.next L).thn h = h L := rfl
@[simp] theorem thn_r (d : D) (h : Env → Out) : (Out.ret d).thn h = .ret d := rfl
@[simp] theorem thn_e (c : Str) (h : Env → Out) : (Out.exc c).thn h = .exc c := rfl
@[simp] theorem thn_ite (c : Prop) [Decidable c] (a b : Out) (h : Env → Out) : (if c then a else b).thn h = if c then a.thn h else b.thn h := by split <;> rfl
@[simp] theorem fin_n (L : Env) : finish (.next L) = .ok (.val .none) := rfl
@[simp] theorem fin_r (d : D) : finish (.ret d) = .ok d := rfl
@[simp] theorem fin_e (c : Str) : finish (.exc c) = .exc c := rfl
@[simp] theorem frz_o (L : Env) (i : Nat) : frzS i L = match getE L i with
  | some (.own ds) => .next (setE L i (some (.val (.list ds))))
  | some (.val d) => .next L
  | _ => .bad := rfl
def pushO (L : Env) (i : Nat) (r : R PD) : Option D → Out
  | some (.own ds) => r.out fun d => cif (ds.length < 1000000) (.next (setE L i (some (.own (ds ++ [d]))))) .bad
  | _ => .bad
@[simp] theorem push_d (i : Nat) (f : Env → R PD) (L : Env) : pushS i f L = pushO L i (f L) (getE L i) := by
  unfold pushS pushO
  rfl
@[simp] theorem pushO_o (L : Env) (i : Nat) (d : PD) (ds : List PD) (h : ds.length < 1000000) : pushO L i (.ok d) (some (.own ds)) = .next (setE L i (some (.own (ds ++ [d])))) := cif_pos h
@[simp] theorem forL_d (f : Env → R PD) (tg : PD → Env → R Env) (g : Env → Out) (L : Env) : forL f tg g L = (f L).out fun d => match d with | .list ds => forE tg g ds L | _ => .bad := rfl
@[simp] theorem forT_d (f : Env → R PD) (tg : PD → Env → R Env) (g : Env → Out) (L : Env) : forT f tg g L = (f L).out fun d => match d with | .tuple ds => forE tg g ds L | _ => .bad := rfl
@[simp] theorem forR_d (f : Env → R (List PD)) (tg : PD → Env → R Env) (g : Env → Out) (L : Env) : forR f tg g L = ((f L).bind rngP).out fun ds => forE tg g ds L := rfl
theorem forE_n (tg : PD → Env → R Env) (g : Env → Out) (L : Env) : forE tg g [] L = .next L := rfl
/-- what follows a turn -/
def Out.turn : Out → (Env → Out) → Out
  | .next L', k => k L'
  | .ct L', k => k L'
  | .brk L', _ => .next L'
  | .ret d, _ => .ret d
  | .exc c, _ => .exc c
  | .bad, _ => .bad
@[simp] theorem turn_n (L : Env) (k : Env → Out) : (Out.next L).turn k = k L := rfl
@[simp] theorem turn_r (d : D) (k : Env → Out) : (Out.ret d).turn k = .ret d := rfl
@[simp] theorem turn_e (c : Str) (k : Env → Out) : (Out.exc c).turn k = .exc c := rfl
@[simp] theorem turn_ite (c : Prop) [Decidable c] (a b : Out) (h : Env → Out) : (if c then a else b).turn h = if c then a.turn h else b.turn h := by split <;> rfl
theorem forE_c (tg : PD → Env → R Env) (g : Env → Out) (d : PD) (ds : List PD) (L : Env) : forE tg g (d :: ds) L = (tg d L).out fun L1 => (g L1).turn fun L' => forE tg g ds L' := by
  show (tg d L).out _ = _
  congr 1
  funext L1
  cases g L1 <;> rfl
@[simp] theorem tgN_d (i : Nat) (d : PD) (L : Env) : tgN i d L = .ok (setE L i (some (.val d))) := rfl
@[simp] theorem tgT_d (i j : Nat) (a b : PD) (L : Env) : tgT i j (.tuple [a, b]) L = .ok (setE (setE L i (some (.val a))) j (some (.val b))) := rfl
theorem while_z (t : Env → R Bool) (g : Env → Out) (L : Env) : whileE t g 0 L = .bad := rfl
theorem while_s (t : Env → R Bool) (g : Env → Out) (n : Nat) (L : Env) : whileE t g (n + 1) L = (t L).out fun b => if b = true then (g L).turn fun L' => whileE t g n L' else .next L := by
  show (t L).out _ = _
  congr 1
  funext b
  cases g L <;> rfl
@[simp] theorem add_ii (i j : Int) : addP (.int i) (.int j) = .ok (.int (i + j)) := rfl
@[simp] theorem sub_ii (i j : Int) : subP (.int i) (.int j) = .ok (.int (i - j)) := rfl
@[simp] theorem neg_i (i : Int) : negP (.int i) = .ok (.int (-i)) := rfl
@[simp] theorem abs_i (i : Int) : absP (.int i) = .ok (.int (i.natAbs : Int)) := by
  show R.ok (PyData.int (if i < 0 then -i else i)) = _
  congr 2
  split <;> omega
theorem mul_ii {i j : Int} (h : mulOk i j) : mulP (.int i) (.int j) = .ok (.int (i * j)) := cif_pos h
theorem div_ii {i j : Int} (h : 0 < j ∧ j < 1073741824) : divP (.int i) (.int j) = .ok (.int (i / j)) := cif_pos h
theorem mod_ii {i j : Int} (h : 0 < j) : modP (.int i) (.int j) = .ok (.int (i % j)) := cif_pos h
@[simp] theorem lt_ii (i j : Int) : ltP (.int i) (.int j) = .ok (decide (i < j)) := rfl
@[simp] theorem le_ii (i j : Int) : leP (.int i) (.int j) = .ok (decide (i ≤ j)) := rfl
@[simp] theorem gt_ii (i j : Int) : gtP (.int i) (.int j) = .ok (decide (j < i)) := rfl
@[simp] theorem ge_ii (i j : Int) : geP (.int i) (.int j) = .ok (decide (j ≤ i)) := rfl
@[simp] theorem sh_i (i : Int) : SeqAt.shaped (.int i) = true := rfl
@[simp] theorem sh_b (i : Bool) : SeqAt.shaped (.bool i) = true := rfl
@[simp] theorem sh_n : SeqAt.shaped .none = true := rfl
@[simp] theorem ev_ii (i j : Int) : PyData.eqv (.int i) (.int j) = decide (i = j) := by simp [PyData.eqv]; rfl
@[simp] theorem ev_bb (i j : Bool) : PyData.eqv (.bool i) (.bool j) = decide (i = j) := by simp [PyData.eqv]; rfl
@[simp] theorem eq_ii (i j : Int) : eqP (.int i) (.int j) = .ok (decide (i = j)) := by rw [← ev_ii]; exact cif_pos ⟨rfl, rfl⟩
@[simp] theorem eq_bb (i j : Bool) : eqP (.bool i) (.bool j) = .ok (decide (i = j)) := by rw [← ev_bb]; exact cif_pos ⟨rfl, rfl⟩
@[simp] theorem ne_ii (i j : Int) : neP (.int i) (.int j) = .ok (!decide (i = j)) := by rw [← ev_ii]; exact cif_pos ⟨rfl, rfl⟩
@[simp] theorem isN_d (d : PD) : isNP d .none = .ok (isNon d) := by cases d <;> rfl
@[simp] theorem notN_d (d : PD) : notNP d .none = .ok (!isNon d) := by cases d <;> rfl
@[simp] theorem isNon_n : isNon .none = true := rfl
@[simp] theorem isNon_l (ds : List PD) : isNon (.list ds) = false := rfl
@[simp] theorem isNon_t (ds : List PD) : isNon (.tuple ds) = false := rfl
@[simp] theorem isB_bb (a b : Bool) : isBP (.bool a) (.bool b) = .ok (decide (a = b)) := rfl
@[simp] theorem len_l (ds : List PD) : lenP (.list ds) = .ok (.int ds.length) := rfl
@[simp] theorem len_t (ds : List PD) : lenP (.tuple ds) = .ok (.int ds.length) := rfl
@[simp] theorem len_scr (ns : List Int) : lenP (scr ns) = .ok (.int ns.length) := by
  show R.ok (PyData.int ((ns.map PyData.int).length : Int)) = _
  rw [List.length_map]
@[simp] theorem list_l (ds : List PD) : listP (.list ds) = .ok (.own ds) := rfl
@[simp] theorem ix_l (ds : List PD) (i : Int) : ixP (.list ds) (.int i) = ofO id (atI ds i) := rfl
@[simp] theorem ix_t (ds : List PD) (i : Int) : ixP (.tuple ds) (.int i) = ofO id (atI ds i) := rfl
@[simp] theorem ix_scr (ns : List Int) (i : Int) : ixP (scr ns) (.int i) = ofO id (atI (ns.map PyData.int) i) := rfl
@[simp] theorem ofO_s {α : Type} (f : α → PD) (a : α) : ofO f (some a) = .ok (f a) := rfl
theorem at_nat {α : Type} {xs : List α} {j : Nat} (h : j < xs.length) : atI xs (j : Int) = some xs[j] := atI_nat (List.getElem?_eq_getElem h)
@[simp] theorem at2_0 {α : Type} (a b : α) : atI [a, b] 0 = some a := rfl
@[simp] theorem at2_1 {α : Type} (a b : α) : atI [a, b] 1 = some b := rfl
theorem at_map' {α β : Type} (f : α → β) (xs : List α) (i : Int) : atI (xs.map f) i = (atI xs i).map f := by
  unfold atI
  rw [List.length_map]
  cases ixN xs.length i with
  | none => rfl
  | some j =>
    show (xs.map f)[j]? = (xs[j]?).map f
    rw [List.getElem?_map]
@[simp] theorem isi_bb (b : Bool) : isiP "bool" (.bool b) = .ok (.bool true) := by
  show isiQ "bool" "bool" = _
  unfold isiQ
  rw [show kitB "bool" "bool" = some true by decide +kernel]
end
end Px
namespace Px
open PySem L2
noncomputable section
def cellAt (ns : List Int) (k : Nat) : Int := ns.getD k 0
theorem f_cell (ns : List Int) (k : Nat) : f__law_cell_at [scr ns, .int (k : Int)] = .ok (.val (.int (cellAt ns k))) := by
  simp [f__law_cell_at, fnE, envOf, g__law_cell_at]
  by_cases h : k < ns.length
  · rw [if_pos h, at_map', at_nat h]
    simp [cellAt, h]
  · rw [if_neg h]
    simp [cellAt, h]
def litBy (x : Int) : Int := if x % 2 = 1 then -(x / 2 + 1) else x / 2 + 1
theorem f_litby (x : Int) : f__law_lit_by [.int x] = .ok (.val (.int (litBy x))) := by
  simp [f__law_lit_by, fnE, envOf, g__law_lit_by, mod_ii, div_ii, litBy]
  split <;> rfl
/-- a list of switches' values out of a number -/
def bitsOf (r : Int) : Nat → List Bool
  | 0 => []
  | n + 1 => decide (r % 2 = 1) :: bitsOf (r / 2) n
theorem bitsOf_len : ∀ (r : Int) (n : Nat), (bitsOf r n).length = n
  | _, 0 => rfl
  | r, n + 1 => congrArg (· + 1) (bitsOf_len (r / 2) n)
abbrev encB (bs : List Bool) : PD := .list (bs.map PyData.bool)
theorem rng_z (lo : Int) : rng lo 0 = [] := rfl
theorem rng_s (lo : Int) (n : Nat) : rng lo (n + 1) = .int lo :: rng (lo + 1) n := by
  unfold rng
  rw [List.range_succ_eq_map, List.map_cons, List.map_map]
  congr 1
  · congr 1
    omega
  · congr 1
    funext i
    show PyData.int _ = PyData.int _
    congr 1
    show lo + ((i + 1 : Nat) : Int) = lo + 1 + (i : Int)
    omega
theorem small_nat {n : Nat} (h : n ≤ 1000000) : small (n : Int) := by
  unfold small
  omega
theorem small_int {n : Int} (h : -1000000 ≤ n) (h2 : n ≤ 1000000) : small n := by
  unfold small
  omega
theorem pow60 : powP (.int 2) (.int 60) = .ok (.int 1152921504606846976) := by
  exact cif_pos (by decide)
def bitsBy (cell : Int) (many : Nat) : List Bool := bitsOf (cell % 1152921504606846976) many
theorem bits_loop (cell : Int) (many : Nat) : ∀ (n : Nat) (lo r : Int) (x : Option D) (bs : List PD), bs.length + n ≤ 1000 → ∃ x' r', forE (tgN 4) l__law_bits_by_1 (rng lo n) [some (.val (.int cell)), some (.val (.int (many : Int))), some (.val (.int r)), some (.own bs), x] =
      .next [some (.val (.int cell)), some (.val (.int (many : Int))), some (.val (.int r')), some (.own (bs ++ (bitsOf r n).map PyData.bool)), x'] := by
    intro n
    induction n with
    | zero => intro lo r x bs _; exact ⟨x, r, by simp [rng_z, bitsOf, forE_n]⟩
    | succ n ih =>
      intro lo r x bs hb
      obtain ⟨x', r', e⟩ := ih (lo + 1) (r / 2) (some (.val (.int lo))) (bs ++ [.bool (decide (r % 2 = 1))]) (by rw [List.length_append, List.length_singleton]; omega)
      refine ⟨x', r', ?_⟩
      rw [rng_s, forE_c]
      have b : l__law_bits_by_1 [some (.val (.int cell)), some (.val (.int (many : Int))), some (.val (.int r)), some (.own bs), some (.val (.int lo))] = .next [some (.val (.int cell)), some (.val (.int (many : Int))), some (.val (.int (r / 2))), some (.own (bs ++ [.bool (decide (r % 2 = 1))])), some (.val (.int lo))] := by
        simp [l__law_bits_by_1, mod_ii, div_ii, show bs.length < 1000000 by omega]
      simp [b]
      simp at e
      rw [e]
      simp [bitsOf]
theorem rng1 {j : Int} (h : small j) : rngP [.int j] = .ok (rng 0 j.toNat) := cif_pos h
theorem rng2 {i j : Int} (h : small i) (h2 : small j) : rngP [.int i, .int j] = .ok (rng i (j - i).toNat) := cif_pos ⟨h, h2⟩
theorem rng3 {i j : Int} (h : small i) (h2 : small j) : rngP [.int i, .int j, .int (-1)] = .ok (rngC i (-1) (i - j).toNat) := cif_pos ⟨h, h2, rfl⟩
theorem rngN {n : Nat} (h : n ≤ 1000000) : rngP [.int (n : Int)] = .ok (rng 0 n) := rng1 (small_nat h)
theorem f_bits (cell : Int) (many : Nat) (h : many ≤ 1000) : f__law_bits_by [.int cell, .int (many : Int)] = .ok (.own ((bitsBy cell many).map PyData.bool)) := by
  obtain ⟨x', r', e⟩ := bits_loop cell many many 0 (cell % 1152921504606846976) none [] (by simpa using h)
  simp at e
  simp [f__law_bits_by, fnE, envOf, g__law_bits_by, mod_ii, pow60, rngN (show many ≤ 1000000 by omega), bitsBy]
  rw [e]
  simp
end
end Px
namespace Px
open PySem L2
noncomputable section
abbrev encI (xs : List Int) : PD := .list (xs.map PyData.int)
abbrev sayE (s : Int × Int) : PD := .tuple [.int s.1, .int s.2]
abbrev encP (p : List (Int × Int)) : PD := .list (p.map sayE)
/-- a literal of one of n switches -/
def LitOk (n : Nat) (l : Int) : Prop := l ≠ 0 ∧ l.natAbs ≤ n
def SayOk (n : Nat) (s : Int × Int) : Prop := LitOk n s.1 ∧ LitOk n s.2
def PileOk (n : Nat) (p : List (Int × Int)) : Prop := ∀ s ∈ p, SayOk n s
/-- a literal's truth -/
def bitAt (bs : List Bool) (l : Int) : Bool := bs.getD (l.natAbs - 1) false
def litT (bs : List Bool) (l : Int) : Bool := bitAt bs l == decide (0 < l)
@[simp] theorem litT_of (bs : List Bool) (l : Int) : decide (bitAt bs l = decide (0 < l)) = litT bs l := by
  unfold litT
  cases bitAt bs l <;> cases decide (0 < l) <;> rfl
@[simp] theorem orB (a b : Bool) : (if a = true then R.ok (PyData.bool true) else .ok (.bool b)) = .ok (.bool (a || b)) := by cases a <;> rfl
@[simp] theorem andB (a b : Bool) : (if a = true then R.ok (PyData.bool b) else .ok (.bool false)) = .ok (.bool (a && b)) := by cases a <;> rfl
@[simp] theorem orT' (a b : Bool) : (if a = true then R.ok true else .ok b) = .ok (a || b) := by cases a <;> rfl
@[simp] theorem andT' (a b : Bool) : (if a = true then R.ok b else .ok false) = .ok (a && b) := by cases a <;> rfl
def sayT (bs : List Bool) (s : Int × Int) : Bool := litT bs s.1 || litT bs s.2
def pileT (bs : List Bool) (p : List (Int × Int)) : Bool := p.all (sayT bs)
theorem bit_at {bs : List Bool} {l : Int} (h : LitOk bs.length l) : atI (bs.map PyData.bool) ((l.natAbs : Int) - 1) = some (.bool (bitAt bs l)) := by
  obtain ⟨h0, h1⟩ := h
  have h2 : 0 < l.natAbs := by omega
  have e : ((l.natAbs : Int) - 1) = ((l.natAbs - 1 : Nat) : Int) := by omega
  rw [e, at_map', at_nat (show l.natAbs - 1 < bs.length by omega)]
  simp [bitAt, show l.natAbs - 1 < bs.length by omega]
theorem beq_dec (a b : Bool) : decide (a = b) = (a == b) := by cases a <;> cases b <;> rfl
theorem f_lit {bs : List Bool} {l : Int} (h : LitOk bs.length l) : f_lit_holds [.int l, encB bs] = .ok (.val (.bool (litT bs l))) := by
  simp [f_lit_holds, fnE, envOf, g_lit_holds, bit_at h]
theorem f_says {bs : List Bool} {s : Int × Int} (h : SayOk bs.length s) : f_holds [sayE s, encB bs] = .ok (.val (.bool (sayT bs s))) := by
  simp [f_holds, fnE, envOf, g_holds, f_lit h.1, f_lit h.2, sayT]
theorem litBy_ok {n : Nat} {x : Int} (h : 0 ≤ x) (h2 : x < 2 * n) : LitOk n (litBy x) := by
  unfold litBy LitOk
  split <;> omega
def Sh (n : Nat) (d : PD) : Prop := d.canLay0 = true ∧ d.depth ≤ n
theorem Sh.ok {n : Nat} {d : PD} (h : Sh n d) (hn : n ≤ 64) : SeqAt.shaped d = true := by
  unfold SeqAt.shaped
  rw [h.1, decide_eq_true (Nat.le_trans h.2 hn)]
  rfl
theorem Sh.all {n : Nat} : ∀ {ds : List PD}, (∀ d ∈ ds, Sh n d) → PyData.canLayAll0 ds = true ∧ PyData.depthAll ds ≤ n
  | [], _ => by
    unfold PyData.canLayAll0 PyData.depthAll
    exact ⟨rfl, Nat.zero_le _⟩
  | d :: ds, h => by
    have h1 := h d List.mem_cons_self
    have h2 := Sh.all (ds := ds) fun x hx => h x (List.mem_cons_of_mem _ hx)
    unfold PyData.canLayAll0 PyData.depthAll
    rw [h1.1, h2.1]
    exact ⟨rfl, Nat.max_le.mpr ⟨h1.2, h2.2⟩⟩
theorem Sh.list {n : Nat} {ds : List PD} (h : ∀ d ∈ ds, Sh n d) : Sh (n + 1) (.list ds) := by
  have h2 := Sh.all h
  unfold Sh PyData.canLay0 PyData.depth
  exact ⟨h2.1, Nat.succ_le_succ h2.2⟩
theorem Sh.tup {n : Nat} {ds : List PD} (h : ∀ d ∈ ds, Sh n d) : Sh (n + 1) (.tuple ds) := by
  have h2 := Sh.all h
  unfold Sh PyData.canLay0 PyData.depth
  exact ⟨h2.1, Nat.succ_le_succ h2.2⟩
theorem sh_int (i : Int) : Sh 0 (.int i) := by
  unfold Sh PyData.canLay0 PyData.depth
  exact ⟨rfl, Nat.le_refl _⟩
theorem sh_bool (i : Bool) : Sh 0 (.bool i) := by
  unfold Sh PyData.canLay0 PyData.depth
  exact ⟨rfl, Nat.le_refl _⟩
theorem Sh.mono {n m : Nat} {d : PD} (h : Sh n d) (hm : n ≤ m) : Sh m d := ⟨h.1, Nat.le_trans h.2 hm⟩
theorem sh_map {α : Type} {n : Nat} {f : α → PD} (h : ∀ a, Sh n (f a)) (xs : List α) : Sh (n + 1) (.list (xs.map f)) := Sh.list fun d hd => by
  obtain ⟨a, _, e⟩ := List.mem_map.mp hd
  rw [← e]
  exact h a
theorem sh_B (bs : List Bool) : Sh 1 (encB bs) := sh_map sh_bool bs
theorem sh_I (bs : List Int) : Sh 1 (encI bs) := sh_map sh_int bs
theorem sh_say (s : Int × Int) : Sh 1 (sayE s) := Sh.tup fun d hd => by
  simp at hd
  rcases hd with rfl | rfl <;> exact sh_int _
theorem sh_P (p : List (Int × Int)) : Sh 2 (encP p) := sh_map sh_say p
theorem ev_list {α : Type} [DecidableEq α] {f : α → PD} (h : ∀ a b, PyData.eqv (f a) (f b) = decide (a = b)) : ∀ xs ys : List α, PyData.eqv (.list (xs.map f)) (.list (ys.map f)) = decide (xs = ys) := by
  have aux : ∀ xs ys : List α, PyData.eqvAll (xs.map f) (ys.map f) = decide (xs = ys) := by
    intro xs
    induction xs with
    | nil =>
      intro ys
      cases ys with
      | nil => simp [PyData.eqvAll]
      | cons y ys => simp [PyData.eqvAll]
    | cons x xs ih =>
      intro ys
      cases ys with
      | nil => simp [PyData.eqvAll]
      | cons y ys =>
        rw [List.map_cons, List.map_cons]
        unfold PyData.eqvAll
        rw [h, ih]
        by_cases e1 : x = y <;> by_cases e2 : xs = ys <;> simp [e1, e2]
  intro xs ys
  unfold PyData.eqv
  exact aux xs ys
theorem ev_B (a b : List Bool) : PyData.eqv (encB a) (encB b) = decide (a = b) := ev_list ev_bb a b
theorem ev_I (a b : List Int) : PyData.eqv (encI a) (encI b) = decide (a = b) := ev_list ev_ii a b
theorem ev_say (a b : Int × Int) : PyData.eqv (sayE a) (sayE b) = decide (a = b) := by
  obtain ⟨a1, a2⟩ := a
  obtain ⟨b1, b2⟩ := b
  unfold PyData.eqv PyData.eqvAll PyData.eqvAll PyData.eqvAll
  rw [ev_ii, ev_ii]
  by_cases e1 : a1 = b1 <;> by_cases e2 : a2 = b2 <;> simp [e1, e2]
theorem ev_P (a b : List (Int × Int)) : PyData.eqv (encP a) (encP b) = decide (a = b) := ev_list ev_say a b
theorem eq_of {n : Nat} {a b : PD} (ha : Sh n a) (hb : Sh n b) (hn : n ≤ 64) : eqP a b = .ok (PyData.eqv a b) := cif_pos ⟨ha.ok hn, hb.ok hn⟩
theorem ne_of' {n : Nat} {a b : PD} (ha : Sh n a) (hb : Sh n b) (hn : n ≤ 64) : neP a b = .ok (!PyData.eqv a b) := cif_pos ⟨ha.ok hn, hb.ok hn⟩
@[simp] theorem eq_B (a b : List Bool) : eqP (encB a) (encB b) = .ok (decide (a = b)) := by rw [eq_of (sh_B a) (sh_B b) (by decide), ev_B]
@[simp] theorem eq_I (a b : List Int) : eqP (encI a) (encI b) = .ok (decide (a = b)) := by rw [eq_of (sh_I a) (sh_I b) (by decide), ev_I]
@[simp] theorem eq_say (a b : Int × Int) : eqP (sayE a) (sayE b) = .ok (decide (a = b)) := by rw [eq_of (sh_say a) (sh_say b) (by decide), ev_say]
@[simp] theorem eq_P (a b : List (Int × Int)) : eqP (encP a) (encP b) = .ok (decide (a = b)) := by rw [eq_of (sh_P a) (sh_P b) (by decide), ev_P]
@[simp] theorem ne_B (a b : List Bool) : neP (encB a) (encB b) = .ok (!decide (a = b)) := by rw [ne_of' (sh_B a) (sh_B b) (by decide), ev_B]
@[simp] theorem ne_I (a b : List Int) : neP (encI a) (encI b) = .ok (!decide (a = b)) := by rw [ne_of' (sh_I a) (sh_I b) (by decide), ev_I]
@[simp] theorem ne_P (a b : List (Int × Int)) : neP (encP a) (encP b) = .ok (!decide (a = b)) := by rw [ne_of' (sh_P a) (sh_P b) (by decide), ev_P]
theorem f_cellI (ns : List Int) {i : Int} (h : 0 ≤ i) : f__law_cell_at [scr ns, .int i] = .ok (.val (.int (cellAt ns i.toNat))) := by
  have e := f_cell ns i.toNat
  rw [Int.toNat_of_nonneg h] at e
  exact e
theorem mul2 (n : Nat) : mulP (.int 2) (.int (n : Int)) = .ok (.int (2 * (n : Int))) := mul_ii (.inl (by decide))
theorem mod_n {i j : Int} (h : 0 < j) : modP (.int i) (.int j) = .ok (.int (i % j)) := mod_ii h
theorem div_n {i j : Int} (h : 0 < j) (h2 : j < 1073741824) : divP (.int i) (.int j) = .ok (.int (i / j)) := div_ii ⟨h, h2⟩
/-- one and a rest: a number of switches -/
theorem many_of (c : Int) {k : Int} (h : 0 < k) (h2 : k ≤ 100) : ∃ m : Nat, 1 + c % k = (m : Int) ∧ 1 ≤ m ∧ (m : Int) ≤ k := by
  have h3 := Int.emod_nonneg c (show k ≠ 0 by omega)
  have h4 := Int.emod_lt_of_pos c h
  exact ⟨(1 + c % k).toNat, by omega, by omega, by omega⟩
theorem lit_mod (c : Int) {m : Nat} (h : 1 ≤ m) : LitOk m (litBy (c % (2 * (m : Int)))) := litBy_ok (Int.emod_nonneg _ (by omega)) (Int.emod_lt_of_pos _ (by omega))
end
end Px
namespace Px
open PySem L2
noncomputable section
section
variable {α σ : Type} {tg : PD → Env → R Env} {g : Env → Out} {enc : α → PD}
/-- a turn: on to a new state, or out with an answer -/
inductive Go (σ : Type) where
  | on (s : σ)
  | out (d : D)
def Go.run (f : σ → α → Go σ) : List α → σ → Go σ
  | [], s => .on s
  | a :: as, s => match f s a with
    | .on s' => Go.run f as s'
    | .out d => .out d
def GoOk (I : σ → Env → Prop) (o : Out) : Go σ → Prop
  | .on s => ∃ L, o = .next L ∧ I s L
  | .out d => o = .ret d
def TurnOk (I : σ → Env → Prop) (o : Out) : Go σ → Prop
  | .on s => ∃ L, (o = .next L ∨ o = .ct L) ∧ I s L
  | .out d => o = .ret d
theorem forE_go (I : σ → Env → Prop) (f : σ → α → Go σ) : ∀ (xs : List α) (s : σ) (L : Env), (∀ s a L, a ∈ xs → I s L → ∃ L1, tg (enc a) L = .ok L1 ∧ TurnOk I (g L1) (f s a)) → I s L → GoOk I (forE tg g (xs.map enc) L) (Go.run f xs s)
  | [], s, L, _, h => ⟨L, rfl, h⟩
  | a :: as, s, L, ht, h => by
    obtain ⟨L1, e1, h1⟩ := ht s a L List.mem_cons_self h
    rw [List.map_cons, forE_c, e1, out_ok']
    unfold Go.run
    cases e : f s a with
    | on s' =>
      rw [e] at h1
      obtain ⟨L2, e2, h2⟩ := h1
      have ih := forE_go I f as s' L2 (fun s a L ha => ht s a L (List.mem_cons_of_mem _ ha)) h2
      rcases e2 with e2 | e2
      · rw [e2]
        exact ih
      · rw [e2]
        exact ih
    | out d =>
      rw [e] at h1
      have e2 : g L1 = .ret d := h1
      rw [e2]
      rfl
/-- a loop that only folds -/
theorem forE_fold (I : σ → Env → Prop) (f : σ → α → σ) (xs : List α) (s : σ) (L : Env) (ht : ∀ s a L, a ∈ xs → I s L → ∃ L1 L2, tg (enc a) L = .ok L1 ∧ (g L1 = .next L2 ∨ g L1 = .ct L2) ∧ I (f s a) L2) (h : I s L) :
    ∃ L', forE tg g (xs.map enc) L = .next L' ∧ I (xs.foldl f s) L' := by
  have k := forE_go (tg := tg) (g := g) (enc := enc) I (fun s a => .on (f s a)) xs s L (fun s a L ha hi => by
    obtain ⟨L1, L2, e1, e2, h2⟩ := ht s a L ha hi
    exact ⟨L1, e1, L2, e2, h2⟩) h
  have e : ∀ (xs : List α) (s : σ), Go.run (fun s a => .on (f s a)) xs s = .on (xs.foldl f s) := fun xs => by
    induction xs with
    | nil => intro s; rfl
    | cons a as ih =>
      intro s
      unfold Go.run
      exact ih (f s a)
  rw [e] at k
  exact k
/-- a loop that looks for one -/
theorem forE_find (I : Env → Prop) (p : α → Bool) (v : α → D) (xs : List α) (L : Env) (ht : ∀ a L, a ∈ xs → I L → ∃ L1, tg (enc a) L = .ok L1 ∧ (p a = true → g L1 = .ret (v a)) ∧ (p a = false → ∃ L2, (g L1 = .next L2 ∨ g L1 = .ct L2) ∧ I L2)) (h : I L) :
    (∃ a ∈ xs, p a = true ∧ forE tg g (xs.map enc) L = .ret (v a) ∧ ∃ i : Nat, xs[i]? = some a ∧ ∀ j : Nat, j < i → ∀ b, xs[j]? = some b → p b = false) ∨ ((∀ a ∈ xs, p a = false) ∧ ∃ L', forE tg g (xs.map enc) L = .next L' ∧ I L') := by
  induction xs generalizing L with
  | nil => exact .inr ⟨(fun _ h => by cases h), L, rfl, h⟩
  | cons a as ih =>
    obtain ⟨L1, e1, h1, h2⟩ := ht a L List.mem_cons_self h
    rw [List.map_cons, forE_c, e1, out_ok']
    cases e : p a with
    | true =>
      refine .inl ⟨a, List.mem_cons_self, e, by rw [h1 e]; rfl, 0, rfl, fun j hj => absurd hj (Nat.not_lt_zero j)⟩
    | false =>
      obtain ⟨L2, e2, hi⟩ := h2 e
      have k : (g L1).turn (fun L' => forE tg g (as.map enc) L') = forE tg g (as.map enc) L2 := by rcases e2 with e2 | e2 <;> (rw [e2]; rfl)
      rw [k]
      rcases ih L2 (fun a L ha => ht a L (List.mem_cons_of_mem _ ha)) hi with ⟨b, hb, pb, eb, i, hi, hn⟩ | ⟨hn, r⟩
      · refine .inl ⟨b, List.mem_cons_of_mem _ hb, pb, eb, i + 1, hi, fun j hj c hc => ?_⟩
        cases j with
        | zero =>
          cases hc
          exact e
        | succ j => exact hn j (by omega) c hc
      · refine .inr ⟨fun c hc => ?_, r⟩
        rcases List.mem_cons.mp hc with rfl | hc
        · exact e
        · exact hn c hc
end
/-- a range's turns -/
theorem rng_map (lo : Int) (n : Nat) : rng lo n = ((List.range n).map fun (i : Nat) => lo + (i : Int)).map PyData.int := by
  unfold rng
  rw [List.map_map]
  rfl
theorem while_inv {t : Env → R Bool} {g : Env → Out} (I : Nat → Env → Prop) (post : Out → Prop)
    (h : ∀ (n : Nat) (L : Env), I n L → (t L = .ok false ∧ post (.next L)) ∨ (t L = .ok true ∧ ((∃ L' m, (g L = .next L' ∨ g L = .ct L') ∧ m < n ∧ I m L') ∨ ∃ d, g L = .ret d ∧ post (.ret d)))) :
    ∀ (k n : Nat) (L : Env), I n L → n < k → post (whileE t g k L)
  | 0, n, L, _, hk => absurd hk (Nat.not_lt_zero n)
  | k + 1, n, L, hi, hk => by
    rw [while_s]
    rcases h n L hi with ⟨e, p⟩ | ⟨e, ⟨L', m, e2, hm, hi'⟩ | ⟨d, e2, p⟩⟩
    · rw [e]
      exact p
    · rw [e, out_ok', if_pos rfl]
      have ih := while_inv I post h k m L' hi' (by omega)
      rcases e2 with e2 | e2 <;> (rw [e2]; exact ih)
    · rw [e, out_ok', if_pos rfl, e2]
      exact p
theorem while_ok {t : Env → R Bool} {g : Env → Out} (I : Nat → Env → Prop) (post : Out → Prop)
    (h : ∀ (n : Nat) (L : Env), I n L → (t L = .ok false ∧ post (.next L)) ∨ (t L = .ok true ∧ ((∃ L' m, (g L = .next L' ∨ g L = .ct L') ∧ m < n ∧ I m L') ∨ ∃ d, g L = .ret d ∧ post (.ret d)))) (n : Nat) (L : Env) (hi : I n L) (hn : n < 10000000) : post (whileS t g L) :=
  while_inv I post h fuel n L hi hn
theorem any_int (xs : List Int) (x : Int) : ((xs.map PyData.int).any fun z => PyData.eqv z (.int x)) = decide (x ∈ xs) := by
  induction xs with
  | nil => rfl
  | cons y ys ih =>
    rw [List.map_cons, List.any_cons, ih, ev_ii]
    by_cases e : x = y
    · subst e
      simp
    · have e' : ¬ y = x := fun h => e h.symm
      simp [e, e']
@[simp] theorem in_I (xs : List Int) (x : Int) : inP false (.int x) (encI xs) = .ok (decide (x ∈ xs)) := by
  show cif _ _ _ = _
  rw [cif_pos ⟨rfl, (sh_I xs).ok (by decide)⟩, any_int]
  rfl
@[simp] theorem ni_I (xs : List Int) (x : Int) : inP true (.int x) (encI xs) = .ok (!decide (x ∈ xs)) := by
  show cif _ _ _ = _
  rw [cif_pos ⟨rfl, (sh_I xs).ok (by decide)⟩, any_int]
  rfl
def addIf (c : Bool) (x : Int) (acc : List Int) : List Int := if c = true ∧ x ∉ acc then acc ++ [x] else acc
def stepTurn (l : Int) (acc : List Int) (s : Int × Int) : List Int := addIf (decide (s.2 = -l)) s.1 (addIf (decide (s.1 = -l)) s.2 acc)
def stepsFrom (p : List (Int × Int)) (l : Int) : List Int := p.foldl (stepTurn l) []
theorem addIf_len (c : Bool) (x : Int) (acc : List Int) : (addIf c x acc).length ≤ acc.length + 1 := by
  unfold addIf
  split
  · rw [List.length_append, List.length_singleton]
    exact Nat.le_refl _
  · exact Nat.le_succ _
theorem stepTurn_len (l : Int) (acc : List Int) (s : Int × Int) : (stepTurn l acc s).length ≤ acc.length + 2 := by
  have h1 := addIf_len (decide (s.2 = -l)) s.1 (addIf (decide (s.1 = -l)) s.2 acc)
  have h2 := addIf_len (decide (s.1 = -l)) s.2 acc
  unfold stepTurn
  omega
theorem steps_in (d0 : D) (l a b : Int) (say x y : Option D) (acc : List Int) (hl : acc.length < 999999) : ∃ x' y', forE (tgT 4 5) l_steps_from_2 [sayE (a, b), sayE (b, a)]
    [some d0, some (.val (.int l)), some (.own (acc.map PyData.int)), say, x, y] = .next [some d0, some (.val (.int l)), some (.own ((stepTurn l acc (a, b)).map PyData.int)), say, x', y'] := by
  have one : ∀ (a b : Int) (x y : Option D) (acc : List Int), acc.length < 1000000 → l_steps_from_2 [some d0, some (.val (.int l)), some (.own (acc.map PyData.int)), say, some (.val (.int a)), some (.val (.int b))] =
      .next [some d0, some (.val (.int l)), some (.own ((addIf (decide (a = -l)) b acc).map PyData.int)), say, some (.val (.int a)), some (.val (.int b))] := by
    intro a b x y acc hl
    unfold addIf
    by_cases e1 : a = -l
    · by_cases e2 : b ∈ acc
      · simp [l_steps_from_2, e1, e2]
      · simp [l_steps_from_2, e1, e2, hl]
    · simp [l_steps_from_2, e1]
  refine ⟨some (.val (.int b)), some (.val (.int a)), ?_⟩
  have h2 := addIf_len (decide (a = -l)) b acc
  simp [forE_n, forE_c, one a b x y acc (by omega), one b a x y (addIf (decide (a = -l)) b acc) (by omega), stepTurn]
theorem steps_out (d0 : D) (l : Int) : ∀ (p : List (Int × Int)) (acc : List Int) (say x y : Option D), acc.length + 2 * p.length < 900000 → ∃ say' x' y', forE (tgN 3) l_steps_from_1 (p.map sayE)
    [some d0, some (.val (.int l)), some (.own (acc.map PyData.int)), say, x, y] = .next [some d0, some (.val (.int l)), some (.own ((p.foldl (stepTurn l) acc).map PyData.int)), say', x', y']
  | [], acc, say, x, y, _ => ⟨say, x, y, rfl⟩
  | (a, b) :: p, acc, say, x, y, h => by
    rw [List.length_cons] at h
    obtain ⟨x1, y1, e1⟩ := steps_in d0 l a b (some (.val (sayE (a, b)))) x y acc (by omega)
    have hl := stepTurn_len l acc (a, b)
    obtain ⟨say2, x2, y2, e2⟩ := steps_out d0 l p (stepTurn l acc (a, b)) (some (.val (sayE (a, b)))) x1 y1 (by omega)
    refine ⟨say2, x2, y2, ?_⟩
    have b : l_steps_from_1 [some d0, some (.val (.int l)), some (.own (acc.map PyData.int)), some (.val (sayE (a, b))), x, y] = .next [some d0, some (.val (.int l)), some (.own ((stepTurn l acc (a, b)).map PyData.int)), some (.val (sayE (a, b))), x1, y1] := by
      simp [l_steps_from_1]
      exact e1
    rw [List.map_cons, forE_c]
    simp [b]
    exact e2
theorem f_steps (p : List (Int × Int)) (l : Int) (hp : p.length ≤ 1000) : f_steps_from [encP p, .int l] = .ok (.own ((stepsFrom p l).map PyData.int)) := by
  obtain ⟨say, x, y, e⟩ := steps_out (.val (encP p)) l p [] none none none (by simp; omega)
  simp at e
  simp [f_steps_from, fnE, envOf, g_steps_from, e, stepsFrom]
end
end Px
namespace Px
open PySem L2
noncomputable section
abbrev Say := Int × Int
def Step (p : List Say) (a b : Int) : Prop := ∃ s ∈ p, (s.1 = -a ∧ s.2 = b) ∨ (s.2 = -a ∧ s.1 = b)
inductive Rc (p : List Say) : Int → Int → Prop
  | refl (a : Int) : Rc p a a
  | tail {a b c : Int} : Rc p a b → Step p b c → Rc p a c
section
variable {p q : List Say} {n : Nat} {a b c : Int}
theorem Rc.one (h : Step p a b) : Rc p a b := .tail (.refl a) h
theorem Rc.trans (h : Rc p a b) (k : Rc p b c) : Rc p a c := by
  induction k with
  | refl => exact h
  | tail _ s ih => exact .tail ih s
theorem Rc.head (h : Step p a b) (k : Rc p b c) : Rc p a c := (Rc.one h).trans k
theorem Step.flip (h : Step p a b) : Step p (-b) (-a) := by
  obtain ⟨s, hs, h | h⟩ := h
  · exact ⟨s, hs, .inr ⟨by omega, by omega⟩⟩
  · exact ⟨s, hs, .inl ⟨by omega, by omega⟩⟩
theorem Rc.flip (h : Rc p a b) : Rc p (-b) (-a) := by
  induction h with
  | refl => exact .refl _
  | tail _ s ih => exact Rc.head s.flip ih
theorem Step.mono (hs : ∀ s ∈ p, s ∈ q) (h : Step p a b) : Step q a b := let ⟨s, m, r⟩ := h; ⟨s, hs s m, r⟩
theorem Rc.mono (hs : ∀ s ∈ p, s ∈ q) (h : Rc p a b) : Rc q a b := by
  induction h with
  | refl => exact .refl _
  | tail _ s ih => exact .tail ih (s.mono hs)
theorem litOk_neg (h : LitOk n a) : LitOk n (-a) := ⟨by have := h.1; omega, by have := h.2; omega⟩
theorem Step.ok (hp : PileOk n p) (h : Step p a b) : LitOk n b := by
  obtain ⟨s, hs, ⟨_, e⟩ | ⟨_, e⟩⟩ := h
  · rw [← e]; exact (hp s hs).2
  · rw [← e]; exact (hp s hs).1
theorem Rc.ok (hp : PileOk n p) (h : Rc p a b) (ha : LitOk n a) : LitOk n b := by
  cases h with
  | refl => exact ha
  | tail _ s => exact s.ok hp
end
def Rd2 (p : List Say) (S : List Int) (x : Int) : Prop := ∃ s ∈ S, Rc p s x
/-- a literal and its flip -/
def Torn (p : List Say) (S : List Int) : Prop := ∃ l, Rd2 p S l ∧ Rd2 p S (-l)
section
variable {p : List Say} {n : Nat} {S T : List Int} {a b x : Int}
theorem Rd2.of (h : x ∈ S) : Rd2 p S x := ⟨x, h, .refl x⟩
theorem Rd2.step (h : Rd2 p S a) (s : Step p a b) : Rd2 p S b := let ⟨z, hz, r⟩ := h; ⟨z, hz, .tail r s⟩
theorem Rd2.rc (h : Rd2 p S a) (s : Rc p a b) : Rd2 p S b := let ⟨z, hz, r⟩ := h; ⟨z, hz, r.trans s⟩
theorem Rd2.sub (h : ∀ y ∈ S, Rd2 p T y) (k : Rd2 p S x) : Rd2 p T x := let ⟨z, hz, r⟩ := k; (h z hz).rc r
theorem Torn.sub (h : ∀ y ∈ S, Rd2 p T y) (k : Torn p S) : Torn p T := let ⟨l, h1, h2⟩ := k; ⟨l, h1.sub h, h2.sub h⟩
end
section
variable {p : List Say} {n : Nat} {S : List Int} {a b x : Int} {w : List Bool}
theorem litT_neg (h : LitOk n a) (w : List Bool) : litT w (-a) = !litT w a := by
  unfold litT bitAt
  have h0 := h.1
  rw [show (-a).natAbs = a.natAbs by omega]
  by_cases e : 0 < a
  · rw [decide_eq_true e, decide_eq_false (show ¬ 0 < -a by omega)]
    cases w.getD (a.natAbs - 1) false <;> rfl
  · rw [decide_eq_false e, decide_eq_true (show 0 < -a by omega)]
    cases w.getD (a.natAbs - 1) false <;> rfl
theorem pileT_all (h : pileT w p = true) {s : Say} (hs : s ∈ p) : sayT w s = true := by
  unfold pileT at h
  rw [List.all_eq_true] at h
  exact h s hs
theorem Step.sound (hp : PileOk n p) (hw : pileT w p = true) (h : Step p a b) (ha : litT w a = true) : litT w b = true := by
  obtain ⟨s, hs, h | h⟩ := h
  · have t := pileT_all hw hs
    have o : LitOk n a := by
      have := litOk_neg (hp s hs).1
      rw [h.1, Int.neg_neg] at this
      exact this
    unfold sayT at t
    rw [h.1, h.2, litT_neg o, ha] at t
    simpa using t
  · have t := pileT_all hw hs
    have o : LitOk n a := by
      have := litOk_neg (hp s hs).2
      rw [h.1, Int.neg_neg] at this
      exact this
    unfold sayT at t
    rw [h.1, h.2, litT_neg o, ha] at t
    simpa using t
theorem Rc.sound (hp : PileOk n p) (hw : pileT w p = true) (h : Rc p a b) (ha : litT w a = true) : litT w b = true := by
  induction h with
  | refl => exact ha
  | tail _ s ih => exact s.sound hp hw ih
theorem Rd2.sound (hp : PileOk n p) (hw : pileT w p = true) (hS : ∀ y ∈ S, litT w y = true) (h : Rd2 p S x) : litT w x = true := let ⟨z, hz, r⟩ := h; r.sound hp hw (hS z hz)
theorem Rd2.ok (hp : PileOk n p) (hS : ∀ y ∈ S, LitOk n y) (h : Rd2 p S x) : LitOk n x := let ⟨z, hz, r⟩ := h; r.ok hp (hS z hz)
theorem torn_no (hp : PileOk n p) (hS : ∀ y ∈ S, LitOk n y) (hw : pileT w p = true) (hT : ∀ y ∈ S, litT w y = true) (h : Torn p S) : False := by
  obtain ⟨l, h1, h2⟩ := h
  have e1 := h1.sound hp hw hT
  have e2 := h2.sound hp hw hT
  rw [litT_neg (h1.ok hp hS), e1] at e2
  cases e2
/-- a ring -/
theorem ring_no (hp : PileOk n p) (hw : pileT w p = true) {k : Int} (hk : LitOk n k) (h1 : Rc p k (-k)) (h2 : Rc p (-k) k) : False := by
  cases e : litT w k with
  | true =>
    have := h1.sound hp hw e
    rw [litT_neg hk, e] at this
    cases this
  | false =>
    have h := h2.sound hp hw (by rw [litT_neg hk, e]; rfl)
    rw [e] at h
    cases h
def settingOf (n : Nat) (C : List Int) : List Bool := (List.range n).map fun (i : Nat) => decide (((i : Int) + 1) ∈ C)
theorem settingOf_len (n : Nat) (C : List Int) : (settingOf n C).length = n := by
  unfold settingOf
  rw [List.length_map, List.length_range]
theorem bitAt_of (C : List Int) (hx : LitOk n x) : bitAt (settingOf n C) x = decide ((x.natAbs : Int) ∈ C) := by
  have h1 : x.natAbs - 1 < n := by
    have h0 := hx.1
    have h2 := hx.2
    omega
  unfold bitAt settingOf
  rw [List.getD_eq_getElem?_getD, List.getElem?_map, List.getElem?_range h1]
  show decide (((x.natAbs - 1 : Nat) : Int) + 1 ∈ C) = _
  have h0 := hx.1
  rw [show ((x.natAbs - 1 : Nat) : Int) + 1 = (x.natAbs : Int) by omega]
theorem litT_set (C : List Int) (hx : LitOk n x) (hd : x ∈ C ∨ -x ∈ C) (hu : ¬ (x ∈ C ∧ -x ∈ C)) : litT (settingOf n C) x = decide (x ∈ C) := by
  unfold litT
  rw [bitAt_of C hx]
  have h0 := hx.1
  by_cases e : 0 < x
  · rw [show ((x.natAbs : Nat) : Int) = x by omega, decide_eq_true e]
    cases decide (x ∈ C) <;> rfl
  · rw [show ((x.natAbs : Nat) : Int) = -x by omega, decide_eq_false e]
    by_cases h1 : x ∈ C
    · have h2 : ¬ -x ∈ C := fun h => hu ⟨h1, h⟩
      rw [decide_eq_true h1, decide_eq_false h2]
      rfl
    · have h2 : -x ∈ C := hd.resolve_left h1
      rw [decide_eq_false h1, decide_eq_true h2]
      rfl
/-- closed under the pile's steps -/
def Closed (p : List Say) (C : List Int) : Prop := ∀ a b, a ∈ C → Step p a b → b ∈ C
def Untorn (C : List Int) : Prop := ∀ a, a ∈ C → -a ∈ C → False
theorem set_good (hp : PileOk n p) {C : List Int} (hc : Closed p C) (hu : Untorn C) (hd : ∀ a, LitOk n a → a ∈ C ∨ -a ∈ C) : pileT (settingOf n C) p = true := by
  unfold pileT
  rw [List.all_eq_true]
  intro s hs
  obtain ⟨o1, o2⟩ := hp s hs
  unfold sayT
  rcases hd s.1 o1 with h | h
  · rw [litT_set C o1 (.inl h) fun z => hu _ z.1 z.2, decide_eq_true h]
    rfl
  · have h2 : s.2 ∈ C := hc _ _ h ⟨s, hs, .inl ⟨by omega, rfl⟩⟩
    rw [litT_set C o2 (.inl h2) fun z => hu _ z.1 z.2, decide_eq_true h2, Bool.or_true]
/-- a good setting turned so that a closed untorn set is true in it -/
def turned (n : Nat) (C : List Int) (w : List Bool) : List Bool := (List.range n).map fun (i : Nat) => if ((i : Int) + 1) ∈ C then true else if -((i : Int) + 1) ∈ C then false else w.getD i false
theorem turned_len (n : Nat) (C : List Int) (w : List Bool) : (turned n C w).length = n := by
  unfold turned
  rw [List.length_map, List.length_range]
theorem litT_turned (C : List Int) (w : List Bool) (hu : Untorn C) (hx : LitOk n x) : litT (turned n C w) x = if x ∈ C then true else if -x ∈ C then false else litT w x := by
  have h0 := hx.1
  have h2 := hx.2
  have h1 : x.natAbs - 1 < n := by omega
  unfold litT bitAt turned
  rw [List.getD_eq_getElem?_getD, List.getElem?_map, List.getElem?_range h1]
  show ((if ((x.natAbs - 1 : Nat) : Int) + 1 ∈ C then true else if -(((x.natAbs - 1 : Nat) : Int) + 1) ∈ C then false else w.getD (x.natAbs - 1) false) == decide (0 < x)) = _
  rw [show ((x.natAbs - 1 : Nat) : Int) + 1 = (x.natAbs : Int) by omega]
  by_cases e : 0 < x
  · rw [show ((x.natAbs : Nat) : Int) = x by omega, decide_eq_true e]
    by_cases c1 : x ∈ C
    · rw [if_pos c1, if_pos c1]; rfl
    · rw [if_neg c1, if_neg c1]
      by_cases c2 : -x ∈ C
      · rw [if_pos c2, if_pos c2]; rfl
      · rw [if_neg c2, if_neg c2]
  · rw [show ((x.natAbs : Nat) : Int) = -x by omega, decide_eq_false e, Int.neg_neg]
    by_cases c1 : x ∈ C
    · have c2 : ¬ -x ∈ C := fun z => hu _ c1 z
      rw [if_neg c2, if_pos c1, if_pos c1]; rfl
    · rw [if_neg c1, if_neg c1]
      by_cases c2 : -x ∈ C
      · rw [if_pos c2, if_pos c2]; rfl
      · rw [if_neg c2, if_neg c2]
theorem turned_good (hp : PileOk n p) {C : List Int} (hc : Closed p C) (hu : Untorn C) (hw : pileT w p = true) : pileT (turned n C w) p = true := by
  unfold pileT
  rw [List.all_eq_true]
  intro s hs
  obtain ⟨o1, o2⟩ := hp s hs
  have t := pileT_all hw hs
  unfold sayT at t ⊢
  rw [litT_turned C w hu o1, litT_turned C w hu o2]
  by_cases a1 : s.1 ∈ C
  · rw [if_pos a1]; rfl
  · rw [if_neg a1]
    by_cases a2 : -s.1 ∈ C
    · have h2 : s.2 ∈ C := hc _ _ a2 ⟨s, hs, .inl ⟨by omega, rfl⟩⟩
      rw [if_pos h2, Bool.or_true]
    · rw [if_neg a2]
      by_cases b1 : s.2 ∈ C
      · rw [if_pos b1, Bool.or_true]
      · rw [if_neg b1]
        by_cases b2 : -s.2 ∈ C
        · exact absurd (hc _ _ b2 ⟨s, hs, .inr ⟨by omega, rfl⟩⟩) a1
        · rw [if_neg b2]
          exact t
/-- a try that tears tells a road -/
theorem try_road {C : List Int} (hc : Closed p C) (hu : Untorn C) {k : Int} (hk : k ∉ C) (h : Torn p (C ++ [-k])) : Rc p (-k) k := by
  have inC : ∀ {a b}, a ∈ C → Rc p a b → b ∈ C := fun {a b} ha r => by
    induction r with
    | refl => exact ha
    | tail _ s ih => exact hc _ _ ih s
  obtain ⟨l, ⟨s1, m1, r1⟩, ⟨s2, m2, r2⟩⟩ := h
  rw [List.mem_append, List.mem_singleton] at m1 m2
  rcases m1 with m1 | m1
  · rcases m2 with m2 | m2
    · exact (hu l (inC m1 r1) (inC m2 r2)).elim
    · subst m2
      have f := r2.flip
      rw [Int.neg_neg, Int.neg_neg] at f
      exact (hk (inC (inC m1 r1) f)).elim
  · subst m1
    rcases m2 with m2 | m2
    · have f := r1.flip
      rw [Int.neg_neg] at f
      exact (hk (inC (inC m2 r2) f)).elim
    · have f := r2.flip
      rw [m2, Int.neg_neg, Int.neg_neg] at f
      exact r1.trans f
/-- from two literals -/
theorem two_road {a b : Int} (h : Torn p [a, b]) : Rc p a (-a) ∨ Rc p a (-b) ∨ Rc p b (-b) := by
  obtain ⟨l, ⟨s1, m1, r1⟩, ⟨s2, m2, r2⟩⟩ := h
  have f := r2.flip
  rw [Int.neg_neg] at f
  have r := r1.trans f
  simp only [List.mem_cons, List.not_mem_nil, or_false] at m1 m2
  rcases m1 with rfl | rfl
  · rcases m2 with rfl | rfl
    · exact .inl r
    · exact .inr (.inl r)
  · rcases m2 with rfl | rfl
    · have g := r.flip
      rw [Int.neg_neg] at g
      exact .inr (.inl g)
    · exact .inr (.inr r)
end
/-- the values of the first m switches, as literals -/
def litsOf (w : List Bool) (m : Nat) : List Int := (List.range m).map fun (i : Nat) => if w.getD i false = true then (i : Int) + 1 else -((i : Int) + 1)
section
variable {p : List Say} {n m : Nat} {S : List Int} {a b x : Int} {w r : List Bool}
theorem mem_lits : x ∈ litsOf w m ↔ x ≠ 0 ∧ x.natAbs ≤ m ∧ litT w x = true := by
  unfold litsOf
  rw [List.mem_map]
  constructor
  · rintro ⟨i, hi, e⟩
    rw [List.mem_range] at hi
    by_cases c : w.getD i false = true
    · rw [if_pos c] at e
      subst e
      refine ⟨by omega, by omega, ?_⟩
      unfold litT bitAt
      rw [show ((i : Int) + 1).natAbs - 1 = i by omega, c, decide_eq_true (show 0 < (i : Int) + 1 by omega)]
      rfl
    · rw [if_neg c] at e
      subst e
      refine ⟨by omega, by omega, ?_⟩
      unfold litT bitAt
      rw [show (-((i : Int) + 1)).natAbs - 1 = i by omega, decide_eq_false (show ¬ 0 < -((i : Int) + 1) by omega)]
      simpa using c
  · rintro ⟨h0, h1, h2⟩
    refine ⟨x.natAbs - 1, List.mem_range.mpr (by omega), ?_⟩
    unfold litT bitAt at h2
    by_cases c : 0 < x
    · rw [decide_eq_true c] at h2
      have h3 : w.getD (x.natAbs - 1) false = true := by simpa using h2
      rw [if_pos h3]
      omega
    · rw [decide_eq_false c] at h2
      have h3 : ¬ w.getD (x.natAbs - 1) false = true := by
        intro z
        rw [z] at h2
        cases h2
      rw [if_neg h3]
      omega
/-- r: a good setting in which the wishes are true; where it is on, its being off is torn -/
structure First (n : Nat) (p : List Say) (S : List Int) (r : List Bool) : Prop where
  len : r.length = n
  good : pileT r p = true
  wish : ∀ y ∈ S, litT r y = true
  torn : ∀ k : Nat, 1 ≤ k → k ≤ n → litT r (k : Int) = true → Torn p (S ++ litsOf r (k - 1) ++ [-(k : Int)])
/-- there is none: the wishes are torn, or there is a ring -/
def Shut (n : Nat) (p : List Say) (S : List Int) : Prop := Torn p S ∨ ∃ k : Nat, 1 ≤ k ∧ k ≤ n ∧ Rc p (k : Int) (-(k : Int)) ∧ Rc p (-(k : Int)) (k : Int)
theorem litOk_nat {k : Nat} (h1 : 1 ≤ k) (h2 : k ≤ n) : LitOk n (k : Int) := ⟨by omega, by omega⟩
theorem Shut.no (hp : PileOk n p) (hS : ∀ y ∈ S, LitOk n y) (h : Shut n p S) (hw : pileT w p = true) (hT : ∀ y ∈ S, litT w y = true) : False := by
  rcases h with h | ⟨k, h1, h2, r1, r2⟩
  · exact torn_no hp hS hw hT h
  · exact ring_no hp hw (litOk_nat h1 h2) r1 r2
theorem getD_ext {u v : List Bool} (hl : u.length = v.length) (h : ∀ i, i < u.length → u.getD i false = v.getD i false) : u = v := by
  refine List.ext_getElem hl fun i h1 h2 => ?_
  have e := h i h1
  rw [List.getD_eq_getElem?_getD, List.getD_eq_getElem?_getD, List.getElem?_eq_getElem h1, List.getElem?_eq_getElem h2] at e
  exact e
theorem litT_nat {k : Nat} (h : 1 ≤ k) : litT w (k : Int) = w.getD (k - 1) false := by
  unfold litT bitAt
  rw [decide_eq_true (show 0 < (k : Int) by omega), show ((k : Int)).natAbs - 1 = k - 1 by omega]
  cases w.getD (k - 1) false <;> rfl
/-- no other good setting in which the wishes are true goes ahead: at the first place of parting the first one is off -/
theorem First.ahead (F : First n p S r) (hp : PileOk n p) (hS : ∀ y ∈ S, LitOk n y) (hw : pileT w p = true) (hT : ∀ y ∈ S, litT w y = true) {i : Nat} (hi : i < n) (same : ∀ j, j < i → w.getD j false = r.getD j false) (off : w.getD i false = false) : r.getD i false = false := by
  cases e : r.getD i false with
  | false => rfl
  | true =>
    have t := F.torn (i + 1) (by omega) (by omega) (by rw [litT_nat (by omega)]; exact e)
    refine (torn_no hp (fun y hy => ?_) hw (fun y hy => ?_) t).elim
    · rw [List.mem_append, List.mem_append, List.mem_singleton] at hy
      rcases hy with (hy | hy) | hy
      · exact hS y hy
      · obtain ⟨h0, h1, _⟩ := mem_lits.mp hy
        exact ⟨h0, by omega⟩
      · rw [hy]
        exact litOk_neg (litOk_nat (by omega) (by omega))
    · rw [List.mem_append, List.mem_append, List.mem_singleton] at hy
      rcases hy with (hy | hy) | hy
      · exact hT y hy
      · obtain ⟨h0, h1, h2⟩ := mem_lits.mp hy
        unfold litT bitAt at h2 ⊢
        rw [same (y.natAbs - 1) (by omega)]
        exact h2
      · rw [hy, litT_neg (litOk_nat (n := n) (by omega) (by omega)), litT_nat (by omega), show i + 1 - 1 = i by omega, off]
        rfl
theorem First.one {r' : List Bool} (F : First n p S r) (F' : First n p S r') (hp : PileOk n p) (hS : ∀ y ∈ S, LitOk n y) : r = r' := by
  refine getD_ext (by rw [F.len, F'.len]) fun i hi => ?_
  rw [F.len] at hi
  induction i using Nat.strongRecOn with
  | ind i ih =>
    cases e1 : r.getD i false with
    | false =>
      cases e2 : r'.getD i false with
      | false => rfl
      | true =>
        have := F'.ahead hp hS F.good F.wish hi (fun j hj => ih j hj (by omega)) e1
        rw [e2] at this
        cases this
    | true =>
      cases e2 : r'.getD i false with
      | true => rfl
      | false =>
        have := F.ahead hp hS F'.good F'.wish hi (fun j hj => (ih j hj (by omega)).symm) e2
        rw [e1] at this
        cases this
end
/-- what holds ahead of switch k: K the literals kept -/
structure Kept (n : Nat) (p : List Say) (S : List Int) (k : Nat) (C : List Int) : Prop where
  closed : Closed p C
  untorn : Untorn C
  wish : ∀ y ∈ S, y ∈ C
  ok : ∀ y ∈ C, LitOk n y
  all : ∀ j : Nat, 1 ≤ j → j < k → (j : Int) ∈ C ∨ -(j : Int) ∈ C
  from' : ∀ x ∈ C, ∃ s, (s ∈ S ∨ (s ∈ C ∧ s ≠ 0 ∧ s.natAbs < k)) ∧ Rc p s x
  torn : ∀ j : Nat, 1 ≤ j → j < k → (j : Int) ∈ C → ∃ T, (∀ y ∈ T, y ∈ S ∨ (y ∈ C ∧ y ≠ 0 ∧ y.natAbs < j)) ∧ Torn p (T ++ [-(j : Int)])
section
variable {p : List Say} {n k : Nat} {S C : List Int} {a b x : Int} {w r : List Bool}
/-- a new set of kept literals, grown by one -/
theorem Kept.grow (h : Kept n p S k C) (hp : PileOk n p) (h1 : 1 ≤ k) (h2 : k ≤ n) {x : Int} (hx : x = (k : Int) ∨ x = -(k : Int)) {C' : List Int} (hm : ∀ y, y ∈ C' ↔ Rd2 p (C ++ [x]) y) (hu : Untorn C')
    (ht : x = (k : Int) → ∃ T, (∀ y ∈ T, y ∈ S ∨ (y ∈ C ∧ y ≠ 0 ∧ y.natAbs < k)) ∧ Torn p (T ++ [-(k : Int)])) (hk : (k : Int) ∉ C) (hk' : -(k : Int) ∉ C) : Kept n p S (k + 1) C' := by
  have sub : ∀ y ∈ C, y ∈ C' := fun y hy => (hm y).mpr (.of (List.mem_append_left _ hy))
  have xin : x ∈ C' := (hm x).mpr (.of (List.mem_append_right _ List.mem_cons_self))
  have okx : LitOk n x := by
    rcases hx with e | e
    · rw [e]; exact litOk_nat h1 h2
    · rw [e]; exact litOk_neg (litOk_nat h1 h2)
  refine ⟨fun a b ha s => (hm b).mpr (((hm a).mp ha).step s), hu, fun y hy => sub y (h.wish y hy), fun y hy => ((hm y).mp hy).ok hp fun z hz => ?_, fun j j1 j2 => ?_, fun y hy => ?_, fun j j1 j2 hj => ?_⟩
  · rw [List.mem_append, List.mem_singleton] at hz
    rcases hz with hz | hz
    · exact h.ok z hz
    · rw [hz]; exact okx
  · by_cases e : j < k
    · rcases h.all j j1 e with z | z
      · exact .inl (sub _ z)
      · exact .inr (sub _ z)
    · have e : j = k := by omega
      subst e
      rcases hx with e | e
      · exact .inl (by rw [← e]; exact xin)
      · exact .inr (by rw [← e]; exact xin)
  · obtain ⟨s, hs, rs⟩ := (hm y).mp hy
    rw [List.mem_append, List.mem_singleton] at hs
    rcases hs with hs | hs
    · obtain ⟨s2, hs2, r2⟩ := h.from' s hs
      refine ⟨s2, ?_, r2.trans rs⟩
      rcases hs2 with z | ⟨z1, z2, z3⟩
      · exact .inl z
      · exact .inr ⟨sub _ z1, z2, by omega⟩
    · subst hs
      exact ⟨s, .inr ⟨xin, okx.1, by omega⟩, rs⟩
  · by_cases e : j < k
    · have hjC : (j : Int) ∈ C := by
        rcases h.all j j1 e with z | z
        · exact z
        · exact (hu _ hj (sub _ z)).elim
      obtain ⟨T, t1, t2⟩ := h.torn j j1 e hjC
      refine ⟨T, fun y hy => ?_, t2⟩
      rcases t1 y hy with z | ⟨z1, z2, z3⟩
      · exact .inl z
      · exact .inr ⟨sub _ z1, z2, z3⟩
    · have e : j = k := by omega
      subst e
      have ex : x = (j : Int) := by
        rcases hx with e | e
        · exact e
        · rw [e] at xin
          exact (hu _ hj xin).elim
      obtain ⟨T, t1, t2⟩ := ht ex
      refine ⟨T, fun y hy => ?_, t2⟩
      rcases t1 y hy with z | ⟨z1, z2, z3⟩
      · exact .inl z
      · exact .inr ⟨sub _ z1, z2, z3⟩
/-- what tears beside the kept ones tears beside what they come from -/
theorem Kept.back (h : Kept n p S k C) {x : Int} (t : Torn p (C ++ [x])) : ∃ T, (∀ y ∈ T, y ∈ S ∨ (y ∈ C ∧ y ≠ 0 ∧ y.natAbs < k)) ∧ Torn p (T ++ [x]) := by
  refine ⟨S ++ C.filter fun y => decide (y ≠ 0 ∧ y.natAbs < k), fun y hy => ?_, t.sub fun y hy => ?_⟩
  · rw [List.mem_append, List.mem_filter, decide_eq_true_eq] at hy
    rcases hy with hy | ⟨h1, h2, h3⟩
    · exact .inl hy
    · exact .inr ⟨h1, h2, h3⟩
  · rw [List.mem_append, List.mem_singleton] at hy
    rcases hy with hy | hy
    · obtain ⟨s, hs, rs⟩ := h.from' y hy
      refine ⟨s, ?_, rs⟩
      rw [List.mem_append, List.mem_append, List.mem_filter, decide_eq_true_eq]
      rcases hs with hs | ⟨s1, s2, s3⟩
      · exact .inl (.inl hs)
      · exact .inl (.inr ⟨s1, s2, s3⟩)
    · rw [hy]
      exact .of (List.mem_append_right _ List.mem_cons_self)
/-- a switch that is decided already -/
theorem Kept.skip (h : Kept n p S k C) (h1 : 1 ≤ k) (h2 : k ≤ n) (hd : (k : Int) ∈ C ∨ -(k : Int) ∈ C) : Kept n p S (k + 1) C := by
  refine ⟨h.closed, h.untorn, h.wish, h.ok, fun j j1 j2 => ?_, fun y hy => ?_, fun j j1 j2 hj => ?_⟩
  · by_cases e : j < k
    · exact h.all j j1 e
    · have e : j = k := by omega
      subst e
      exact hd
  · obtain ⟨s, hs, rs⟩ := h.from' y hy
    refine ⟨s, ?_, rs⟩
    rcases hs with z | ⟨z1, z2, z3⟩
    · exact .inl z
    · exact .inr ⟨z1, z2, by omega⟩
  · by_cases e : j < k
    · exact h.torn j j1 e hj
    · have e : j = k := by omega
      subst e
      refine h.back ⟨(j : Int), .of (List.mem_append_left _ hj), .of (List.mem_append_right _ List.mem_cons_self)⟩
theorem Kept.start (hp : PileOk n p) (hS : ∀ y ∈ S, LitOk n y) (hm : ∀ y, y ∈ C ↔ Rd2 p S y) (hu : Untorn C) : Kept n p S 1 C := by
  refine ⟨fun a b ha s => (hm b).mpr (((hm a).mp ha).step s), hu, fun y hy => (hm y).mpr (.of hy), fun y hy => ((hm y).mp hy).ok hp hS, fun j j1 j2 => by omega, fun y hy => ?_, fun j j1 j2 => by omega⟩
  obtain ⟨s, hs, rs⟩ := (hm y).mp hy
  exact ⟨s, .inl hs, rs⟩
/-- behind the last switch: the first good setting -/
theorem Kept.first (h : Kept n p S (n + 1) C) (hp : PileOk n p) : First n p S (settingOf n C) := by
  have hd : ∀ a, LitOk n a → a ∈ C ∨ -a ∈ C := fun a ha => by
    have h0 := ha.1
    have h1 := ha.2
    have z := h.all a.natAbs (by omega) (by omega)
    by_cases e : 0 < a
    · rw [show ((a.natAbs : Nat) : Int) = a by omega] at z
      exact z
    · rw [show ((a.natAbs : Nat) : Int) = -a by omega, Int.neg_neg] at z
      exact z.symm
  have tr : ∀ {a}, LitOk n a → litT (settingOf n C) a = decide (a ∈ C) := fun {a} ha => litT_set C ha (hd a ha) fun z => h.untorn a z.1 z.2
  refine ⟨settingOf_len n C, set_good hp h.closed h.untorn hd, fun y hy => ?_, fun k k1 k2 hk => ?_⟩
  · have yc := h.wish y hy
    rw [tr (h.ok y yc), decide_eq_true yc]
  · rw [tr (litOk_nat k1 k2)] at hk
    have kc : (k : Int) ∈ C := of_decide_eq_true hk
    obtain ⟨T, t1, t2⟩ := h.torn k k1 (by omega) kc
    refine t2.sub fun y hy => ?_
    rw [List.mem_append, List.mem_singleton] at hy
    refine .of ?_
    rw [List.mem_append, List.mem_append, List.mem_singleton]
    rcases hy with hy | hy
    · rcases t1 y hy with z | ⟨z1, z2, z3⟩
      · exact .inl (.inl z)
      · refine .inl (.inr (mem_lits.mpr ⟨z2, by omega, ?_⟩))
        rw [tr (h.ok y z1), decide_eq_true z1]
    · exact .inr hy
end
end
end Px
namespace Px
open PySem L2
noncomputable section
theorem nodup_lt : ∀ (m : Nat) (l : List Nat), l.Nodup → (∀ x ∈ l, x < m) → l.length ≤ m
  | 0, l, _, h => by
    cases l with
    | nil => exact Nat.le_refl _
    | cons x r => exact absurd (h x List.mem_cons_self) (Nat.not_lt_zero x)
  | m + 1, l, nd, h => by
    have ih := nodup_lt m (l.erase m) (nd.erase m) fun x hx => by
      have h1 := h x (List.mem_of_mem_erase hx)
      have h2 : x ≠ m := fun e => by
        subst e
        exact (List.Nodup.not_mem_erase nd) hx
      omega
    have h2 : l.length ≤ (l.erase m).length + 1 := by
      by_cases c : m ∈ l
      · rw [List.length_erase_of_mem c]
        omega
      · rw [List.erase_of_not_mem c]
        omega
    omega
def litIx (x : Int) : Nat := if 0 < x then 2 * (x.natAbs - 1) else 2 * (x.natAbs - 1) + 1
theorem lits_len {n : Nat} {xs : List Int} (nd : xs.Nodup) (h : ∀ x ∈ xs, LitOk n x) : xs.length ≤ 2 * n := by
  have k := nodup_lt (2 * n) (xs.map litIx) ?_ ?_
  · rw [List.length_map] at k
    exact k
  · refine List.Pairwise.map _ (fun a b hab => ?_) (List.Pairwise.imp_of_mem (S := fun a b => a ≠ b ∧ a ≠ 0 ∧ b ≠ 0) (fun ha hb e => ⟨e, (h _ ha).1, (h _ hb).1⟩) nd)
    obtain ⟨e, a0, b0⟩ := hab
    unfold litIx
    split <;> split <;> omega
  · intro y hy
    obtain ⟨x, hx, e⟩ := List.mem_map.mp hy
    subst e
    have h0 := (h x hx).1
    have h1 := (h x hx).2
    unfold litIx
    split <;> omega
def addAll (acc xs : List Int) : List Int := xs.foldl (fun acc x => addIf true x acc) acc
theorem mem_addIf {c : Bool} {x y : Int} {acc : List Int} : y ∈ addIf c x acc ↔ y ∈ acc ∨ (c = true ∧ y = x) := by
  unfold addIf
  split
  · rename_i h
    rw [List.mem_append, List.mem_singleton]
    constructor
    · rintro (z | z)
      · exact .inl z
      · exact .inr ⟨h.1, z⟩
    · rintro (z | ⟨_, z⟩)
      · exact .inl z
      · exact .inr z
  · rename_i h
    constructor
    · exact .inl
    · rintro (z | ⟨hc, z⟩)
      · exact z
      · rw [z]
        exact Classical.byContradiction fun q => h ⟨hc, q⟩
theorem nodup_addIf {c : Bool} {x : Int} {acc : List Int} (h : acc.Nodup) : (addIf c x acc).Nodup := by
  unfold addIf
  split
  · rename_i k
    rw [List.nodup_append]
    refine ⟨h, List.nodup_cons.mpr ⟨List.not_mem_nil, List.nodup_nil⟩, fun a ha b hb e => ?_⟩
    rw [List.mem_singleton] at hb
    subst e
    rw [hb] at ha
    exact k.2 ha
  · exact h
theorem pre_addIf (c : Bool) (x : Int) (acc : List Int) : ∃ t, addIf c x acc = acc ++ t := by
  unfold addIf
  split
  · exact ⟨[x], rfl⟩
  · exact ⟨[], by rw [List.append_nil]⟩
theorem mem_addAll {y : Int} : ∀ {xs acc : List Int}, y ∈ addAll acc xs ↔ y ∈ acc ∨ y ∈ xs
  | [], acc => by simp [addAll]
  | x :: xs, acc => by
    show y ∈ addAll (addIf true x acc) xs ↔ _
    rw [mem_addAll, mem_addIf, List.mem_cons]
    simp only [true_and]
    exact or_assoc
theorem nodup_addAll : ∀ {xs acc : List Int}, acc.Nodup → (addAll acc xs).Nodup
  | [], acc, h => h
  | x :: xs, acc, h => nodup_addAll (xs := xs) (nodup_addIf h)
theorem pre_addAll : ∀ (xs acc : List Int), ∃ t, addAll acc xs = acc ++ t
  | [], acc => ⟨[], by rw [List.append_nil]; rfl⟩
  | x :: xs, acc => by
    obtain ⟨t1, e1⟩ := pre_addIf true x acc
    obtain ⟨t2, e2⟩ := pre_addAll xs (addIf true x acc)
    refine ⟨t1 ++ t2, ?_⟩
    show addAll (addIf true x acc) xs = _
    rw [e2, e1, List.append_assoc]
theorem mem_stepTurn {l x : Int} {acc : List Int} {s : Say} : x ∈ stepTurn l acc s ↔ x ∈ acc ∨ ((s.1 = -l ∧ s.2 = x) ∨ (s.2 = -l ∧ s.1 = x)) := by
  unfold stepTurn
  rw [mem_addIf, mem_addIf, decide_eq_true_eq, decide_eq_true_eq]
  constructor
  · rintro ((z | ⟨a, b⟩) | ⟨a, b⟩)
    · exact .inl z
    · exact .inr (.inl ⟨a, b.symm⟩)
    · exact .inr (.inr ⟨a, b.symm⟩)
  · rintro (z | ⟨a, b⟩ | ⟨a, b⟩)
    · exact .inl (.inl z)
    · exact .inl (.inr ⟨a, b.symm⟩)
    · exact .inr ⟨a, b.symm⟩
theorem mem_steps {p : List Say} {l x : Int} : x ∈ stepsFrom p l ↔ Step p l x := by
  have aux : ∀ (p : List Say) (acc : List Int), x ∈ p.foldl (stepTurn l) acc ↔ x ∈ acc ∨ Step p l x := fun p => by
    induction p with
    | nil =>
      intro acc
      constructor
      · exact .inl
      · rintro (z | ⟨s, hs, _⟩)
        · exact z
        · cases hs
    | cons s p ih =>
      intro acc
      rw [List.foldl_cons, ih, mem_stepTurn]
      constructor
      · rintro ((z | z) | ⟨s2, hs, z⟩)
        · exact .inl z
        · exact .inr ⟨s, List.mem_cons_self, z⟩
        · exact .inr ⟨s2, List.mem_cons_of_mem _ hs, z⟩
      · rintro (z | ⟨s2, hs, z⟩)
        · exact .inl (.inl z)
        · rcases List.mem_cons.mp hs with e | hs
          · subst e
            exact .inl (.inr z)
          · exact .inr ⟨s2, hs, z⟩
  unfold stepsFrom
  rw [aux]
  constructor
  · rintro (z | z)
    · cases z
    · exact z
  · exact .inr
theorem nodup_steps (p : List Say) (l : Int) : (stepsFrom p l).Nodup := by
  have aux : ∀ (p : List Say) (acc : List Int), acc.Nodup → (p.foldl (stepTurn l) acc).Nodup := fun p => by
    induction p with
    | nil => intro acc h; exact h
    | cons s p ih => intro acc h; exact ih _ (nodup_addIf (nodup_addIf h))
  exact aux p [] List.nodup_nil
theorem spread1 (d0 d1 : D) : ∀ (xs acc : List Int) (x y z : Option D), acc.length + xs.length < 900000 → ∃ x', forE (tgN 3) l_spread_1 (xs.map PyData.int) [some d0, some d1, some (.own (acc.map PyData.int)), x, y, z] =
    .next [some d0, some d1, some (.own ((addAll acc xs).map PyData.int)), x', y, z]
  | [], acc, x, y, z, _ => ⟨x, rfl⟩
  | v :: xs, acc, x, y, z, h => by
    rw [List.length_cons] at h
    have hl := addIf_len true v acc
    obtain ⟨x', e⟩ := spread1 d0 d1 xs (addIf true v acc) (some (.val (.int v))) y z (by omega)
    refine ⟨x', ?_⟩
    have b : l_spread_1 [some d0, some d1, some (.own (acc.map PyData.int)), some (.val (.int v)), y, z] = .next [some d0, some d1, some (.own ((addIf true v acc).map PyData.int)), some (.val (.int v)), y, z] := by
      unfold addIf
      by_cases c : v ∈ acc
      · simp [l_spread_1, c]
      · simp [l_spread_1, c, show acc.length < 1000000 by omega]
    rw [List.map_cons, forE_c]
    simp [b]
    exact e
theorem spread3 (d0 d1 : D) : ∀ (xs acc : List Int) (x y z : Option D), acc.length + xs.length < 900000 → ∃ z', forE (tgN 5) l_spread_3 (xs.map PyData.int) [some d0, some d1, some (.own (acc.map PyData.int)), x, y, z] =
    .next [some d0, some d1, some (.own ((addAll acc xs).map PyData.int)), x, y, z']
  | [], acc, x, y, z, _ => ⟨z, rfl⟩
  | v :: xs, acc, x, y, z, h => by
    rw [List.length_cons] at h
    have hl := addIf_len true v acc
    obtain ⟨x', e⟩ := spread3 d0 d1 xs (addIf true v acc) x y (some (.val (.int v))) (by omega)
    refine ⟨x', ?_⟩
    have b : l_spread_3 [some d0, some d1, some (.own (acc.map PyData.int)), x, y, some (.val (.int v))] = .next [some d0, some d1, some (.own ((addIf true v acc).map PyData.int)), x, y, some (.val (.int v))] := by
      unfold addIf
      by_cases c : v ∈ acc
      · simp [l_spread_3, c]
      · simp [l_spread_3, c, show acc.length < 1000000 by omega]
    rw [List.map_cons, forE_c]
    simp [b]
    exact e
theorem steps_len {n : Nat} {p : List Say} (hp : PileOk n p) (l : Int) : (stepsFrom p l).length ≤ 2 * n := lits_len (nodup_steps p l) fun x hx => (mem_steps.mp hx).ok hp
/-- what stands while it walks -/
structure SprI (n : Nat) (p : List Say) (S : List Int) (found : List Int) (at' : Nat) : Prop where
  nd : found.Nodup
  wish : ∀ y ∈ S, y ∈ found
  from' : ∀ y ∈ found, Rd2 p S y
  done : ∀ i y, i < at' → found[i]? = some y → ∀ z, Step p y z → z ∈ found
  le : at' ≤ found.length
theorem f_spread_ok {n : Nat} {p : List Say} {S : List Int} (hn : n ≤ 100) (hl : p.length ≤ 1000) (hp : PileOk n p) (hS : ∀ y ∈ S, LitOk n y) (hSl : S.length ≤ 1000) :
    ∃ C : List Int, f_spread [encP p, encI S] = .ok (.own (C.map PyData.int)) ∧ (∀ y, y ∈ C ↔ Rd2 p S y) ∧ C.length ≤ 2 * n := by
  obtain ⟨x1, e1⟩ := spread1 (.val (encP p)) (.val (encI S)) S [] none none none (by simp; omega)
  have post := while_ok (t := op2 ltP (varB 4) (op1 lenP (varB 2))) (g := l_spread_2)
    (fun m L => ∃ found at' z, SprI n p S found at' ∧ m = 2 * n - at' ∧ L = [some (.val (encP p)), some (.val (encI S)), some (.own (found.map PyData.int)), x1, some (.val (.int (at' : Nat))), z])
    (fun o => ∃ found at' z, SprI n p S found at' ∧ at' = found.length ∧ o = .next [some (.val (encP p)), some (.val (encI S)), some (.own (found.map PyData.int)), x1, some (.val (.int (at' : Nat))), z])
    (fun m L ⟨found, at', z, I, em, eL⟩ => by
      have fl : found.length ≤ 2 * n := lits_len I.nd fun y hy => (I.from' y hy).ok hp hS
      subst eL
      by_cases c : at' < found.length
      · refine .inr ⟨by simp [c], .inl ?_⟩
        have hx : found[at']? = some found[at'] := List.getElem?_eq_getElem c
        obtain ⟨z', e3⟩ := spread3 (.val (encP p)) (.val (encI S)) (stepsFrom p found[at']) found x1 (some (.val (.int (at' : Nat)))) z (by have := steps_len hp found[at']; omega)
        obtain ⟨t, et⟩ := pre_addAll (stepsFrom p found[at']) found
        refine ⟨_, 2 * n - (at' + 1), .inl ?_, by omega, addAll found (stepsFrom p found[at']), at' + 1, z', ⟨nodup_addAll I.nd, fun y hy => mem_addAll.mpr (.inl (I.wish y hy)), fun y hy => ?_, fun i y hi hy w s => ?_, ?_⟩, rfl, rfl⟩
        · have em2 : atI (found.map PyData.int) (at' : Int) = some (.int found[at']) := by
            rw [at_map', at_nat c]
            rfl
          simp [l_spread_2, em2, f_steps p _ hl, e3]
        · rcases mem_addAll.mp hy with hy | hy
          · exact I.from' y hy
          · exact (I.from' _ (List.getElem_mem c)).step (mem_steps.mp hy)
        · have hi2 : i < found.length := by omega
          rw [et, List.getElem?_append_left hi2] at hy
          by_cases ci : i = at'
          · subst ci
            rw [hx] at hy
            cases hy
            exact mem_addAll.mpr (.inr (mem_steps.mpr s))
          · exact mem_addAll.mpr (.inl (I.done i y (by omega) hy w s))
        · rw [et, List.length_append]
          omega
      · exact .inl ⟨by simp [c], found, at', z, I, by have := I.le; omega, rfl⟩)
    (2 * n) [some (.val (encP p)), some (.val (encI S)), some (.own ((addAll [] S).map PyData.int)), x1, some (.val (.int ((0 : Nat) : Int))), none] ⟨addAll [] S, 0, none, ⟨nodup_addAll List.nodup_nil, fun y hy => mem_addAll.mpr (.inr hy), fun y hy => ?_, fun i y hi => absurd hi (Nat.not_lt_zero i), Nat.zero_le _⟩, rfl, rfl⟩ (by omega)
  · obtain ⟨found, at', z, I, ea, eo⟩ := post
    have go : ∀ {s y : Int}, Rc p s y → s ∈ found → y ∈ found := fun {s y} r hs => by
      induction r with
      | refl => exact hs
      | tail _ st ih =>
        obtain ⟨i, hi, e⟩ := List.getElem_of_mem ih
        exact I.done i _ (by omega) (by rw [List.getElem?_eq_getElem hi, e]) _ st
    refine ⟨found, ?_, fun y => ⟨I.from' y, fun h => go h.choose_spec.2 (I.wish _ h.choose_spec.1)⟩, lits_len I.nd fun y hy => (I.from' y hy).ok hp hS⟩
    simp at e1
    simp at eo
    simp [f_spread, fnE, envOf, g_spread, e1, eo]
  · rcases mem_addAll.mp hy with h | h
    · cases h
    · exact .of h
def untornB (C : List Int) : Bool := C.all fun l => !decide (-l ∈ C)
theorem untorn_iff {C : List Int} : untornB C = true ↔ Untorn C := by
  unfold untornB Untorn
  rw [List.all_eq_true]
  constructor
  · intro h a ha hb
    have := h a ha
    rw [decide_eq_true hb] at this
    cases this
  · intro h a ha
    rw [decide_eq_false fun hb => h a ha hb]
    rfl
theorem untorn_no {C : List Int} (h : untornB C = false) : ∃ l, l ∈ C ∧ -l ∈ C := by
  unfold untornB at h
  rw [List.all_eq_false] at h
  obtain ⟨l, hl, hn⟩ := h
  refine ⟨l, hl, ?_⟩
  by_cases c : -l ∈ C
  · exact c
  · rw [decide_eq_false c] at hn
    exact absurd rfl hn
theorem f_peace (C : List Int) : f_peaceful [encI C] = .ok (.val (.bool (untornB C))) := by
  have k := forE_find (tg := tgN 1) (g := l_peaceful_1) (enc := PyData.int) (fun L => ∃ x, L = [some (.val (encI C)), x]) (fun l => decide (-l ∈ C)) (fun _ => .val (.bool false)) C [some (.val (encI C)), none] (fun a L _ ⟨x, e⟩ => by
    subst e
    refine ⟨[some (.val (encI C)), some (.val (.int a))], rfl, fun h => ?_, fun h => ⟨[some (.val (encI C)), some (.val (.int a))], .inl ?_, _, rfl⟩⟩
    · have h := of_decide_eq_true h
      simp [l_peaceful_1, h]
    · have h := of_decide_eq_false h
      simp [l_peaceful_1, h]) ⟨none, rfl⟩
  rcases k with ⟨a, ha, pa, e, _⟩ | ⟨hn, L', e, x, eL⟩
  · have hu : untornB C = false := by
      unfold untornB
      rw [List.all_eq_false]
      exact ⟨a, ha, by rw [pa]; decide⟩
    rw [hu]
    simp [f_peaceful, fnE, envOf, g_peaceful, e]
  · have hu : untornB C = true := by
      unfold untornB
      rw [List.all_eq_true]
      intro l hl
      rw [hn l hl]
      rfl
    rw [hu]
    subst eL
    simp [f_peaceful, fnE, envOf, g_peaceful, e]
end
end Px
namespace Px
open PySem L2
noncomputable section
/-- a comprehension without a test -/
theorem lcE_yes {j : Nat} {f : Env → R PD} {v : PD → PD} {L : Env} : ∀ (ds : List PD), (∀ d ∈ ds, f (setE L j (some (.val d))) = .ok (v d)) → lcE j yesT f ds L = .ok (ds.map v)
  | [], _ => rfl
  | d :: ds, h => by
    have ih := lcE_yes ds fun x hx => h x (List.mem_cons_of_mem _ hx)
    have h1 := h d List.mem_cons_self
    unfold lcE
    rw [h1, ih]
    rfl
/-- one with a test -/
theorem lcE_if {j : Nat} {t : Env → R Bool} {f : Env → R PD} {v : PD → PD} {p : PD → Bool} {L : Env} : ∀ (ds : List PD), (∀ d ∈ ds, t (setE L j (some (.val d))) = .ok (p d) ∧ f (setE L j (some (.val d))) = .ok (v d)) → lcE j t f ds L = .ok ((ds.filter p).map v)
  | [], _ => rfl
  | d :: ds, h => by
    have ih := lcE_if ds fun x hx => h x (List.mem_cons_of_mem _ hx)
    obtain ⟨h1, h2⟩ := h d List.mem_cons_self
    unfold lcE
    rw [h1, h2, ih]
    cases e : p d with
    | true =>
      rw [List.filter_cons_of_pos e]
      rfl
    | false =>
      rw [List.filter_cons_of_neg (by rw [e]; decide)]
      rfl
theorem lcR_ok' {j : Nat} {t : Env → R Bool} {f : Env → R PD} {ds ys : List PD} {L : Env} (hl : ds.length ≤ 1000000) (h : lcE j t f ds (setE L j none) = .ok ys) : lcR j t f ds L = .ok (.own ys) := by
  unfold lcR
  rw [cif_pos hl, h]
  rfl
@[simp] theorem lcRg_d (j : Nat) (fi : Env → R (List PD)) (t : Env → R Bool) (f : Env → R PD) (L : Env) : lcRg j fi t f L = ((fi L).bind rngP).bind fun ds => lcR j t f ds L := rfl
@[simp] theorem lcL_d (j : Nat) (fi : Env → R PD) (t : Env → R Bool) (f : Env → R PD) (L : Env) : lcL j fi t f L = (fi L).bind fun d => match d with | .list ds => lcR j t f ds L | _ => .bad := rfl
@[simp] theorem cat_II (a b : List Int) (h : a.length + b.length ≤ 1000000) : catP (encI a) (encI b) = .ok (.own ((a ++ b).map PyData.int)) := by
  show cif _ _ _ = _
  rw [cif_pos (by rw [List.length_map, List.length_map]; exact h), List.map_append]
theorem cat_I1 (a : List Int) (b : Int) (h : a.length ≤ 1000) : catP (encI a) (.list [.int b]) = .ok (.own ((a ++ [b]).map PyData.int)) := cat_II a [b] (by simp; omega)
theorem rng1n {n : Nat} (h : n ≤ 1000) : rngP [.int 1, .int ((n : Int) + 1)] = .ok (rng 1 n) := by
  rw [rng2 (by unfold small; omega) (by unfold small; omega), show ((n : Int) + 1 - 1).toNat = n by omega]
theorem torn_of {p : List Say} {T C : List Int} (hm : ∀ y, y ∈ C ↔ Rd2 p T y) (h : untornB C = false) : Torn p T := by
  obtain ⟨l, h1, h2⟩ := untorn_no h
  exact ⟨l, (hm l).mp h1, (hm _).mp h2⟩
abbrev lwEnv (n : Nat) (p : List Say) (S C : List Int) (x y : Option D) : Env := [some (.val (.int (n : Int))), some (.val (encP p)), some (.val (encI S)), some (.val (encI C)), x, y]
theorem lw_loop {n : Nat} {p : List Say} {S : List Int} (hn : n ≤ 100) (hl : p.length ≤ 1000) (hp : PileOk n p) : ∀ (m k : Nat) (C : List Int) (x y : Option D), 1 ≤ k → k + m = n + 1 → Kept n p S k C → C.length ≤ 200 →
    (∃ C' x' y', forE (tgN 4) l_least_with_1 (rng (k : Int) m) (lwEnv n p S C x y) = .next (lwEnv n p S C' x' y') ∧ Kept n p S (n + 1) C') ∨ (forE (tgN 4) l_least_with_1 (rng (k : Int) m) (lwEnv n p S C x y) = .ret (.val .none) ∧ Shut n p S)
  | 0, k, C, x, y, _, e, K, _ => .inl ⟨C, x, y, rfl, by rw [show n + 1 = k by omega]; exact K⟩
  | m + 1, k, C, x, y, k1, e, K, hC => by
    have k2 : k ≤ n := by omega
    rw [rng_s, forE_c]
    have go : ∀ {C' : List Int} {y' : Option D}, l_least_with_1 (lwEnv n p S C (some (.val (.int (k : Int)))) y) = .next (lwEnv n p S C' (some (.val (.int (k : Int)))) y') → Kept n p S (k + 1) C' → C'.length ≤ 200 →
        (∃ C' x' y', ((tgN 4 (.int (k : Int)) (lwEnv n p S C x y)).out fun L1 => (l_least_with_1 L1).turn fun L' => forE (tgN 4) l_least_with_1 (rng ((k : Int) + 1) m) L') = .next (lwEnv n p S C' x' y') ∧ Kept n p S (n + 1) C') ∨
        (((tgN 4 (.int (k : Int)) (lwEnv n p S C x y)).out fun L1 => (l_least_with_1 L1).turn fun L' => forE (tgN 4) l_least_with_1 (rng ((k : Int) + 1) m) L') = .ret (.val .none) ∧ Shut n p S) := by
      intro C' y' eb K' hC'
      have ih := lw_loop (S := S) hn hl hp m (k + 1) C' (some (.val (.int (k : Int)))) y' (by omega) (by omega) K' hC'
      have ek : (((k + 1 : Nat) : Int)) = (k : Int) + 1 := by omega
      rw [ek] at ih
      have e1 : ((tgN 4 (.int (k : Int)) (lwEnv n p S C x y)).out fun L1 => (l_least_with_1 L1).turn fun L' => forE (tgN 4) l_least_with_1 (rng ((k : Int) + 1) m) L') = (l_least_with_1 (lwEnv n p S C (some (.val (.int (k : Int)))) y)).turn fun L' => forE (tgN 4) l_least_with_1 (rng ((k : Int) + 1) m) L' := rfl
      rw [e1, eb]
      exact ih
    by_cases c1 : (k : Int) ∈ C
    · exact go (C' := C) (y' := y) (by simp [l_least_with_1, c1]) (K.skip k1 k2 (.inl c1)) hC
    · by_cases c2 : -(k : Int) ∈ C
      · exact go (C' := C) (y' := y) (by simp [l_least_with_1, c1, c2]) (K.skip k1 k2 (.inr c2)) hC
      · have okk := litOk_nat (n := n) k1 k2
        obtain ⟨C1, s1, m1, l1⟩ := f_spread_ok (S := C ++ [-(k : Int)]) hn hl hp (fun y hy => by
          rw [List.mem_append, List.mem_singleton] at hy
          rcases hy with hy | hy
          · exact K.ok y hy
          · rw [hy]; exact litOk_neg okk) (by rw [List.length_append, List.length_singleton]; omega)
        simp only [encI, List.map_append, List.map_cons, List.map_nil] at s1
        cases u1 : untornB C1 with
        | true => exact go (C' := C1) (y' := some (.val (encI C1))) (by simp [l_least_with_1, c1, c2, cat_I1 C _ (show C.length ≤ 1000 by omega), s1, f_peace, u1]) (K.grow hp k1 k2 (.inr rfl) m1 (untorn_iff.mp u1) (fun h => by omega) c1 c2) (by omega)
        | false =>
          have t1 := torn_of m1 u1
          obtain ⟨C2, s2, m2, l2⟩ := f_spread_ok (S := C ++ [(k : Int)]) hn hl hp (fun y hy => by
            rw [List.mem_append, List.mem_singleton] at hy
            rcases hy with hy | hy
            · exact K.ok y hy
            · rw [hy]; exact okk) (by rw [List.length_append, List.length_singleton]; omega)
          simp only [encI, List.map_append, List.map_cons, List.map_nil] at s2
          cases u2 : untornB C2 with
          | true => exact go (C' := C2) (y' := some (.val (encI C2))) (by simp [l_least_with_1, c1, c2, cat_I1 C _ (show C.length ≤ 1000 by omega), s1, s2, f_peace, u1, u2]) (K.grow hp k1 k2 (.inl rfl) m2 (untorn_iff.mp u2) (fun _ => K.back t1) c1 c2) (by omega)
          | false =>
            have t2 := torn_of m2 u2
            refine .inr ⟨?_, .inr ⟨k, k1, k2, ?_, try_road K.closed K.untorn c1 t1⟩⟩
            · have eb : l_least_with_1 (lwEnv n p S C (some (.val (.int (k : Int)))) y) = .ret (.val .none) := by simp [l_least_with_1, c1, c2, cat_I1 C _ (show C.length ≤ 1000 by omega), s1, s2, f_peace, u1, u2]
              have e1 : ((tgN 4 (.int (k : Int)) (lwEnv n p S C x y)).out fun L1 => (l_least_with_1 L1).turn fun L' => forE (tgN 4) l_least_with_1 (rng ((k : Int) + 1) m) L') = (l_least_with_1 (lwEnv n p S C (some (.val (.int (k : Int)))) y)).turn fun L' => forE (tgN 4) l_least_with_1 (rng ((k : Int) + 1) m) L' := rfl
              rw [e1, eb]
              rfl
            · have r := try_road (k := -(k : Int)) K.closed K.untorn c2 (by rw [Int.neg_neg]; exact t2)
              rw [Int.neg_neg] at r
              exact r
theorem f_lw {n : Nat} {p : List Say} {S : List Int} (hn : n ≤ 100) (hl : p.length ≤ 1000) (hp : PileOk n p) (hS : ∀ y ∈ S, LitOk n y) (hSl : S.length ≤ 1000) :
    (∃ r, First n p S r ∧ f_least_with [.int (n : Int), encP p, encI S] = .ok (.own (r.map PyData.bool))) ∨ (Shut n p S ∧ f_least_with [.int (n : Int), encP p, encI S] = .ok (.val .none)) := by
  obtain ⟨C, s, m, l⟩ := f_spread_ok hn hl hp hS hSl
  cases u : untornB C with
  | false =>
    refine .inr ⟨.inl (torn_of m u), ?_⟩
    simp [f_least_with, fnE, envOf, g_least_with, s, f_peace, u]
  | true =>
    have K := Kept.start hp hS m (untorn_iff.mp u)
    rcases lw_loop hn hl hp n 1 C none none (Nat.le_refl 1) (by omega) K (by omega) with ⟨C', x', y', e, K'⟩ | ⟨e, sh⟩
    · refine .inl ⟨settingOf n C', K'.first hp, ?_⟩
      have e : forE (tgN 4) l_least_with_1 (rng 1 n) (lwEnv n p S C none none) = .next (lwEnv n p S C' x' y') := e
      have lc : lcR 4 yesT (bvE (op2 (inP false) (varB 4) (varB 3))) (rng 1 n) (lwEnv n p S C' x' y') = .ok (.own ((settingOf n C').map PyData.bool)) := by
        have h := lcE_yes (j := 4) (f := bvE (op2 (inP false) (varB 4) (varB 3))) (L := setE (lwEnv n p S C' x' y') 4 none) (v := fun d => match d with | .int i => .bool (decide (i ∈ C')) | _ => .none) (rng 1 n) (fun d hd => by
          unfold rng at hd
          obtain ⟨i, _, ei⟩ := List.mem_map.mp hd
          subst ei
          simp)
        refine lcR_ok' (by rw [rng_len]; omega) ?_
        rw [h]
        unfold rng settingOf
        rw [List.map_map, List.map_map]
        congr 1
        refine List.map_congr_left fun i _ => ?_
        show PyData.bool _ = PyData.bool _
        rw [Int.add_comm]
      simp [f_least_with, fnE, envOf, g_least_with, s, f_peace, u, rng1n (show n ≤ 1000 by omega), e, lc]
    · refine .inr ⟨sh, ?_⟩
      have e : forE (tgN 4) l_least_with_1 (rng 1 n) (lwEnv n p S C none none) = .ret (.val .none) := e
      simp [f_least_with, fnE, envOf, g_least_with, s, f_peace, u, rng1n (show n ≤ 1000 by omega), e]
theorem f_least_ok {n : Nat} {p : List Say} (hn : n ≤ 100) (hl : p.length ≤ 1000) (hp : PileOk n p) :
    (∃ r, First n p [] r ∧ f_least [.int (n : Int), encP p] = .ok (.own (r.map PyData.bool))) ∨ (Shut n p [] ∧ f_least [.int (n : Int), encP p] = .ok (.val .none)) := by
  rcases f_lw (S := []) hn hl hp (fun y hy => by cases hy) (by simp) with ⟨r, F, e⟩ | ⟨s, e⟩
  · refine .inl ⟨r, F, ?_⟩
    simp only [encI, List.map_nil] at e
    simp [f_least, fnE, envOf, g_least, e]
  · refine .inr ⟨s, ?_⟩
    simp only [encI, List.map_nil] at e
    simp [f_least, fnE, envOf, g_least, e]
theorem rngC_s (lo : Int) (m : Nat) : rngC lo (-1) (m + 1) = .int lo :: rngC (lo - 1) (-1) m := by
  unfold rngC
  rw [List.range_succ_eq_map, List.map_cons, List.map_map]
  congr 1
  · congr 1
    omega
  · refine List.map_congr_left fun i _ => ?_
    show PyData.int _ = PyData.int _
    congr 1
    show lo + ((i + 1 : Nat) : Int) * -1 = lo - 1 + (i : Int) * -1
    omega
theorem litsOf_ok {n m : Nat} (h : m ≤ n) (w : List Bool) : ∀ y ∈ litsOf w m, LitOk n y := fun y hy => by
  obtain ⟨h0, h1, _⟩ := mem_lits.mp hy
  exact ⟨h0, by omega⟩
theorem litsOf_len (w : List Bool) (m : Nat) : (litsOf w m).length = m := by
  unfold litsOf
  rw [List.length_map, List.length_range]
theorem bits_at {w : List Bool} {i : Nat} (h : i < w.length) : atI (w.map PyData.bool) (1 + (i : Int) - 1) = some (.bool (w.getD i false)) := by
  rw [show (1 + (i : Int) - 1) = (i : Int) by omega, at_map', at_nat h]
  simp [h]
theorem lits_lc {w : List Bool} {L : Env} {j m : Nat} {f : Env → R PD} (hm : m ≤ w.length) (hw : w.length ≤ 1000) (h : ∀ i : Nat, i < m → f (setE (setE L j none) j (some (.val (.int (1 + (i : Int)))))) = .ok (.int (if w.getD i false = true then (i : Int) + 1 else -((i : Int) + 1)))) :
    lcR j yesT f (rng 1 m) L = .ok (.own ((litsOf w m).map PyData.int)) := by
  have k := lcE_yes (j := j) (f := f) (L := setE L j none) (v := fun d => match d with | .int i => .int (if w.getD (i - 1).toNat false = true then i else -i) | _ => .none) (rng 1 m) (fun d hd => by
    unfold rng at hd
    obtain ⟨i, hi, ei⟩ := List.mem_map.mp hd
    subst ei
    rw [h i (List.mem_range.mp hi)]
    show R.ok (PyData.int _) = R.ok (PyData.int _)
    rw [show (1 + (i : Int) - 1).toNat = i by omega, Int.add_comm 1 (i : Int)])
  refine lcR_ok' (by rw [rng_len]; omega) ?_
  rw [k]
  unfold rng litsOf
  rw [List.map_map, List.map_map]
  congr 1
  refine List.map_congr_left fun i _ => ?_
  show PyData.int _ = PyData.int _
  rw [show (1 + (i : Int) - 1).toNat = i by omega, Int.add_comm 1 (i : Int)]
theorem rng1k {k : Nat} (h1 : 1 ≤ k) (h : k ≤ 1000) : rngP [.int 1, .int (k : Int)] = .ok (rng 1 (k - 1)) := by
  rw [rng2 (by unfold small; omega) (by unfold small; omega), show ((k : Int) - 1).toNat = k - 1 by omega]
/-- what is told of the good settings behind w: at the switches up to m -/
def NextAt (n : Nat) (p : List Say) (w : List Bool) (m : Nat) : Option (List Bool) → Prop
  | none => ∀ j : Nat, 1 ≤ j → j ≤ m → w.getD (j - 1) false = false → Shut n p (litsOf w (j - 1) ++ [(j : Int)])
  | some r => ∃ k : Nat, 1 ≤ k ∧ k ≤ m ∧ w.getD (k - 1) false = false ∧ First n p (litsOf w (k - 1) ++ [(k : Int)]) r ∧ ∀ j : Nat, k < j → j ≤ m → w.getD (j - 1) false = false → Shut n p (litsOf w (j - 1) ++ [(j : Int)])
abbrev ngEnv (n : Nat) (p : List Say) (w : List Bool) (a b c d : Option D) : Env := [some (.val (.int (n : Int))), some (.val (encP p)), some (.val (encB w)), a, b, c, d]
theorem ng_loop {n : Nat} {p : List Say} {w : List Bool} (hn : n ≤ 100) (hl : p.length ≤ 1000) (hp : PileOk n p) (hw : w.length = n) : ∀ (m : Nat) (a b c d : Option D), m ≤ n →
    (NextAt n p w m none ∧ ∃ a' b' c' d', forE (tgN 3) l_next_good_1 (rngC (m : Int) (-1) m) (ngEnv n p w a b c d) = .next (ngEnv n p w a' b' c' d')) ∨
    ∃ r, NextAt n p w m (some r) ∧ forE (tgN 3) l_next_good_1 (rngC (m : Int) (-1) m) (ngEnv n p w a b c d) = .ret (.val (encB r))
  | 0, a, b, c, d, _ => .inl ⟨fun j j1 j2 => by omega, a, b, c, d, rfl⟩
  | m + 1, a, b, c, d, hm => by
    rw [rngC_s, forE_c]
    have em : ((m + 1 : Nat) : Int) - 1 = (m : Int) := by omega
    rw [em]
    obtain ⟨k, hk⟩ : ∃ k : Nat, k = m + 1 := ⟨_, rfl⟩
    rw [← hk]
    have k1 : 1 ≤ k := by omega
    have kn : k ≤ n := by omega
    have e1 : ∀ L2 : Out, l_next_good_1 (ngEnv n p w (some (.val (.int (k : Int)))) b c d) = L2 → ((tgN 3 (.int (k : Int)) (ngEnv n p w a b c d)).out fun L1 => (l_next_good_1 L1).turn fun L' => forE (tgN 3) l_next_good_1 (rngC (m : Int) (-1) m) L') =
        L2.turn fun L' => forE (tgN 3) l_next_good_1 (rngC (m : Int) (-1) m) L' := fun L2 e => by rw [← e]; rfl
    have ix : atI (w.map PyData.bool) ((k : Int) - 1) = some (.bool (w.getD m false)) := by
      have := bits_at (w := w) (i := m) (by omega)
      rw [show (1 + (m : Int) - 1) = (k : Int) - 1 by omega] at this
      exact this
    have go : ∀ {b' c' d' : Option D}, l_next_good_1 (ngEnv n p w (some (.val (.int (k : Int)))) b c d) = .next (ngEnv n p w (some (.val (.int (k : Int)))) b' c' d') → (w.getD m false = false → Shut n p (litsOf w m ++ [(k : Int)])) →
        (NextAt n p w k none ∧ ∃ a' b' c' d', ((tgN 3 (.int (k : Int)) (ngEnv n p w a b c d)).out fun L1 => (l_next_good_1 L1).turn fun L' => forE (tgN 3) l_next_good_1 (rngC (m : Int) (-1) m) L') = .next (ngEnv n p w a' b' c' d')) ∨
        ∃ r, NextAt n p w k (some r) ∧ ((tgN 3 (.int (k : Int)) (ngEnv n p w a b c d)).out fun L1 => (l_next_good_1 L1).turn fun L' => forE (tgN 3) l_next_good_1 (rngC (m : Int) (-1) m) L') = .ret (.val (encB r)) := by
      intro b' c' d' eb hs
      rw [e1 _ eb]
      rcases ng_loop hn hl hp hw m (some (.val (.int (k : Int)))) b' c' d' (by omega) with ⟨h, r⟩ | ⟨r, ⟨i, i1, i2, i3, i4, i5⟩, er⟩
      · refine .inl ⟨fun j j1 j2 off => ?_, r⟩
        by_cases ej : j = k
        · subst ej
          rw [show j - 1 = m by omega] at off ⊢
          exact hs off
        · exact h j j1 (by omega) off
      · refine .inr ⟨r, ⟨i, i1, by omega, i3, i4, fun j j1 j2 off => ?_⟩, er⟩
        by_cases ej : j = k
        · subst ej
          rw [show j - 1 = m by omega] at off ⊢
          exact hs off
        · exact i5 j j1 (by omega) off
    cases cw : w.getD m false with
    | true =>
      rw [cw] at ix
      exact go (b' := b) (c' := c) (d' := d) (by simp [l_next_good_1, ix]) (fun h => by rw [cw] at h; cases h)
    | false =>
      rw [cw] at ix
      have lc : ∀ x : Option D, lcR 5 yesT (iteE (op1 asB (op2 ixP (varB 2) (op2 subP (varB 5) (constE (.int 1))))) (varE 5) (op1 negP (varB 5))) (rng 1 m) (ngEnv n p w (some (.val (.int (k : Int)))) b c x) = .ok (.own ((litsOf w m).map PyData.int)) := fun x =>
        lits_lc (by omega) (by omega) fun i hi => by
          have := bits_at (w := w) (i := i) (by omega)
          simp [this]
          cases w[i]?.getD false <;> simp <;> omega
      have hS : ∀ y ∈ litsOf w m ++ [(k : Int)], LitOk n y := fun y hy => by
        rw [List.mem_append, List.mem_singleton] at hy
        rcases hy with hy | hy
        · exact litsOf_ok (by omega) w y hy
        · rw [hy]; exact litOk_nat k1 kn
      have ct := cat_I1 (litsOf w m) (k : Int) (by rw [litsOf_len]; omega)
      have rg : rngP [.int 1, .int (k : Int)] = .ok (rng 1 m) := by
        rw [show m = k - 1 by omega]
        exact rng1k (by omega) (by omega)
      rcases f_lw (S := litsOf w m ++ [(k : Int)]) hn hl hp hS (by rw [List.length_append, litsOf_len, List.length_singleton]; omega) with ⟨r, F, er⟩ | ⟨s, er⟩
      · refine .inr ⟨r, ⟨k, by omega, Nat.le_refl _, by rw [show k - 1 = m by omega]; exact cw, by rw [show k - 1 = m by omega]; exact F, fun j j1 j2 => by omega⟩, ?_⟩
        have eb : l_next_good_1 (ngEnv n p w (some (.val (.int (k : Int)))) b c d) = .ret (.val (encB r)) := by
          simp only [encI, List.map_append, List.map_cons, List.map_nil] at er ct
          simp [l_next_good_1, ix, rg, lc, ct, er]
        rw [e1 _ eb]
        rfl
      · refine go (b' := some (.val (encI (litsOf w m)))) (c' := c) (d' := some (.val .none)) ?_ (fun _ => s)
        simp only [encI, List.map_append, List.map_cons, List.map_nil] at er ct
        simp [l_next_good_1, ix, rg, lc, ct, er]
theorem f_ng {n : Nat} {p : List Say} {w : List Bool} (hn : n ≤ 100) (hl : p.length ≤ 1000) (hp : PileOk n p) (hw : w.length = n) :
    (NextAt n p w n none ∧ f_next_good [.int (n : Int), encP p, encB w] = .ok (.val .none)) ∨ ∃ r, NextAt n p w n (some r) ∧ f_next_good [.int (n : Int), encP p, encB w] = .ok (.val (encB r)) := by
  have rg : rngP [.int (n : Int), .int 0, .int (-1)] = .ok (rngC (n : Int) (-1) n) := by
    rw [rng3 (by unfold small; omega) (by unfold small; omega), show ((n : Int) - 0).toNat = n by omega]
  rcases ng_loop hn hl hp hw n none none none none (Nat.le_refl n) with ⟨h, a, b, c, d, e⟩ | ⟨r, h, e⟩
  · refine .inl ⟨h, ?_⟩
    simp [f_next_good, fnE, envOf, g_next_good, rg, e]
  · refine .inr ⟨r, h, ?_⟩
    simp [f_next_good, fnE, envOf, g_next_good, rg, e]
end
end Px
namespace Px
open PySem L2
noncomputable section
def lst (w : List Int) : Int := w.getLastD 0
/-- a list each next literal of which a step leads to -/
structure IsRoad (p : List Say) (w : List Int) : Prop where
  ne : w ≠ []
  step : ∀ (i : Nat) (a b : Int), w[i]? = some a → w[i + 1]? = some b → Step p a b
inductive Rn (p : List Say) : Nat → Int → Int → Prop
  | refl (a : Int) : Rn p 0 a a
  | tail {d : Nat} {a b c : Int} : Rn p d a b → Step p b c → Rn p (d + 1) a c
theorem Rn.rc {p : List Say} {d : Nat} {a b : Int} (h : Rn p d a b) : Rc p a b := by
  induction h with
  | refl => exact .refl _
  | tail _ s ih => exact .tail ih s
theorem Rc.rn {p : List Say} {a b : Int} (h : Rc p a b) : ∃ d, Rn p d a b := by
  induction h with
  | refl => exact ⟨0, .refl _⟩
  | tail _ s ih =>
    obtain ⟨d, r⟩ := ih
    exact ⟨d + 1, .tail r s⟩
theorem lst_app (w : List Int) (x : Int) : lst (w ++ [x]) = x := by
  unfold lst
  rw [List.getLastD_eq_getLast?, List.getLast?_concat]
  rfl
theorem lst_of {w : List Int} (h : w ≠ []) : w.getLast? = some (lst w) := by
  unfold lst
  rw [List.getLastD_eq_getLast?, List.getLast?_eq_some_getLast h]
  rfl
theorem lst_at {w : List Int} (h : w ≠ []) : w[w.length - 1]? = some (lst w) := by
  rw [← List.getLast?_eq_getElem?]
  exact lst_of h
theorem IsRoad.app {p : List Say} {w : List Int} {x : Int} (h : IsRoad p w) (s : Step p (lst w) x) : IsRoad p (w ++ [x]) := by
  refine ⟨by simp, fun i a b ha hb => ?_⟩
  by_cases c : i + 1 < w.length
  · rw [List.getElem?_append_left (by omega)] at ha hb
    exact h.step i a b ha hb
  · by_cases c2 : i + 1 = w.length
    · rw [List.getElem?_append_left (by omega)] at ha
      rw [List.getElem?_append_right (by omega), show i + 1 - w.length = 0 by omega] at hb
      have h1 := lst_at h.ne
      rw [show w.length - 1 = i by omega, ha] at h1
      cases h1
      cases hb
      exact s
    · rw [List.getElem?_eq_none (by rw [List.length_append, List.length_singleton]; omega)] at hb
      cases hb
theorem IsRoad.rc {p : List Say} {w : List Int} (h : IsRoad p w) {a : Int} (ha : w.head? = some a) : ∀ (i : Nat) (b : Int), w[i]? = some b → Rc p a b
  | 0, b, hb => by
    rw [List.head?_eq_getElem?, hb] at ha
    cases ha
    exact .refl _
  | i + 1, b, hb => by
    have hlt : i + 1 < w.length := (List.getElem?_eq_some_iff.mp hb).1
    have hi : w[i]? = some w[i] := List.getElem?_eq_getElem (by omega)
    exact .tail (IsRoad.rc h ha i _ hi) (h.step i _ b hi hb)
theorem Rn.closed {p : List Say} {L : Int → Prop} (hc : ∀ y z, L y → Step p y z → L z) {d : Nat} {a b : Int} (r : Rn p d a b) (h0 : L a) : L b := by
  induction r with
  | refl => exact h0
  | tail _ s ih => exact hc _ _ (ih h0) s
def bfsTurn (way : List Int) (ws : List (List Int)) (x : Int) : List (List Int) := if x ∈ ws.map lst then ws else ws ++ [way ++ [x]]
def bfsAll (way : List Int) (ws : List (List Int)) (xs : List Int) : List (List Int) := xs.foldl (bfsTurn way) ws
theorem bfs_pre (way : List Int) : ∀ (xs : List Int) (ws : List (List Int)), ∃ t, bfsAll way ws xs = ws ++ t ∧ ∀ w ∈ t, ∃ x ∈ xs, w = way ++ [x]
  | [], ws => ⟨[], by rw [List.append_nil]; rfl, fun w h => by cases h⟩
  | x :: xs, ws => by
    obtain ⟨t, e, h⟩ := bfs_pre way xs (bfsTurn way ws x)
    have e : bfsAll way ws (x :: xs) = bfsTurn way ws x ++ t := e
    unfold bfsTurn at e
    split at e
    · exact ⟨t, e, fun w hw => let ⟨y, hy, r⟩ := h w hw; ⟨y, List.mem_cons_of_mem _ hy, r⟩⟩
    · refine ⟨(way ++ [x]) :: t, by rw [e, List.append_assoc]; rfl, fun w hw => ?_⟩
      rcases List.mem_cons.mp hw with hw | hw
      · exact ⟨x, List.mem_cons_self, hw⟩
      · obtain ⟨y, hy, r⟩ := h w hw
        exact ⟨y, List.mem_cons_of_mem _ hy, r⟩
theorem bfs_mem (way : List Int) {y : Int} : ∀ (xs : List Int) (ws : List (List Int)), y ∈ (bfsAll way ws xs).map lst ↔ y ∈ ws.map lst ∨ y ∈ xs
  | [], ws => by simp [bfsAll]
  | x :: xs, ws => by
    show y ∈ (bfsAll way (bfsTurn way ws x) xs).map lst ↔ _
    rw [bfs_mem way xs, List.mem_cons]
    unfold bfsTurn
    split
    · rename_i h
      constructor
      · rintro (z | z)
        · exact .inl z
        · exact .inr (.inr z)
      · rintro (z | z | z)
        · exact .inl z
        · rw [z]; exact .inl h
        · exact .inr z
    · rw [List.map_append, List.mem_append, List.map_singleton, List.mem_singleton, lst_app]
      exact or_assoc
theorem bfs_nd (way : List Int) : ∀ (xs : List Int) (ws : List (List Int)), (ws.map lst).Nodup → ((bfsAll way ws xs).map lst).Nodup
  | [], ws, h => h
  | x :: xs, ws, h => by
    refine bfs_nd way xs (bfsTurn way ws x) ?_
    unfold bfsTurn
    split
    · exact h
    · rename_i k
      rw [List.map_append, List.map_singleton, lst_app, List.nodup_append]
      refine ⟨h, List.nodup_cons.mpr ⟨List.not_mem_nil, List.nodup_nil⟩, fun a ha b hb e => ?_⟩
      rw [List.mem_singleton] at hb
      subst e
      rw [hb] at ha
      exact k ha
structure Bfs (p : List Say) (start goal : Int) (ws : List (List Int)) (at' : Nat) : Prop where
  road : ∀ w ∈ ws, IsRoad p w ∧ w.head? = some start
  nd : (ws.map lst).Nodup
  le : at' ≤ ws.length
  done : ∀ (i : Nat) w, i < at' → ws[i]? = some w → ∀ z, Step p (lst w) z → z ∈ ws.map lst
  ng : ∀ (i : Nat) w, i < at' → ws[i]? = some w → lst w ≠ goal
  mono : ∀ (i j : Nat) w v, i ≤ j → ws[i]? = some w → ws[j]? = some v → w.length ≤ v.length
  up : ∀ (j : Nat) w v, ws[at']? = some w → ws[j]? = some v → v.length ≤ w.length + 1
  len : ∀ (i : Nat) w, ws[i]? = some w → w.length ≤ i + 1
  dist : ∀ d x, Rn p d start x → (∃ w ∈ ws, lst w = x ∧ w.length ≤ d + 1) ∨ ∃ w, ws[at']? = some w ∧ w.length ≤ d
section
variable {p : List Say} {start goal : Int} {ws : List (List Int)} {at' : Nat}
theorem Bfs.start' : Bfs p start goal [[start]] 0 := by
  refine ⟨fun w hw => ?_, ?_, Nat.zero_le _, fun i w h => absurd h (Nat.not_lt_zero i), fun i w h => absurd h (Nat.not_lt_zero i), fun i j w v _ h1 h2 => ?_, fun j w v h1 h2 => ?_, fun i w h => ?_, fun d x r => ?_⟩
  · rw [List.mem_singleton] at hw
    subst hw
    exact ⟨⟨by simp, fun i a b _ hb => by simp at hb⟩, rfl⟩
  · exact List.nodup_cons.mpr ⟨List.not_mem_nil, List.nodup_nil⟩
  · cases i with
    | succ i => simp at h1
    | zero =>
      cases j with
      | succ j => simp at h2
      | zero =>
        cases h1
        cases h2
        exact Nat.le_refl _
  · cases j with
    | succ j => simp at h2
    | zero =>
      cases h1
      cases h2
      exact Nat.le_succ _
  · cases i with
    | succ i => simp at h
    | zero =>
      cases h
      exact Nat.le_refl _
  · cases r with
    | refl => exact .inl ⟨[start], List.mem_cons_self, rfl, Nat.le_refl _⟩
    | tail r s => exact .inr ⟨[start], rfl, by simp⟩
theorem Bfs.next (B : Bfs p start goal ws at') {w0 : List Int} (h0 : ws[at']? = some w0) (hg : lst w0 ≠ goal) : Bfs p start goal (bfsAll w0 ws (stepsFrom p (lst w0))) (at' + 1) := by
  obtain ⟨t, et, ht⟩ := bfs_pre w0 (stepsFrom p (lst w0)) ws
  have lt0 : at' < ws.length := (List.getElem?_eq_some_iff.mp h0).1
  have m0 : w0 ∈ ws := List.mem_of_getElem? h0
  obtain ⟨R0, H0⟩ := B.road w0 m0
  have inl : ∀ {i : Nat} {w : List Int}, i < ws.length → (bfsAll w0 ws (stepsFrom p (lst w0)))[i]? = some w → ws[i]? = some w := fun {i w} hi h => by
    rw [et, List.getElem?_append_left hi] at h
    exact h
  have inr : ∀ {i : Nat} {w : List Int}, ¬ i < ws.length → (bfsAll w0 ws (stepsFrom p (lst w0)))[i]? = some w → w ∈ t := fun {i w} hi h => by
    rw [et, List.getElem?_append_right (by omega)] at h
    exact List.mem_of_getElem? h
  have tl : ∀ {w}, w ∈ t → w.length = w0.length + 1 := fun {w} hw => by
    obtain ⟨x, _, e⟩ := ht w hw
    rw [e, List.length_append, List.length_singleton]
  have keep : ∀ {i : Nat} {w : List Int}, ws[i]? = some w → (bfsAll w0 ws (stepsFrom p (lst w0)))[i]? = some w := fun {i w} h => by
    rw [et, List.getElem?_append_left (List.getElem?_eq_some_iff.mp h).1]
    exact h
  have sub : ∀ {y}, y ∈ ws.map lst → y ∈ (bfsAll w0 ws (stepsFrom p (lst w0))).map lst := fun {y} h => (bfs_mem w0 _ _).mpr (.inl h)
  have len1 : ∀ {w}, w ∈ bfsAll w0 ws (stepsFrom p (lst w0)) → w.length ≤ w0.length + 1 := fun {w} hw => by
    rw [et, List.mem_append] at hw
    rcases hw with hw | hw
    · obtain ⟨j, hj⟩ := List.mem_iff_getElem?.mp hw
      exact B.up j w0 w h0 hj
    · rw [tl hw]
      exact Nat.le_refl _
  have done' : ∀ (i : Nat) w, i < at' + 1 → (bfsAll w0 ws (stepsFrom p (lst w0)))[i]? = some w → ∀ z, Step p (lst w) z → z ∈ (bfsAll w0 ws (stepsFrom p (lst w0))).map lst := fun i w hi h z s => by
    have h := inl (by omega) h
    by_cases c : i = at'
    · subst c
      rw [h0] at h
      cases h
      exact (bfs_mem w0 _ _).mpr (.inr (mem_steps.mpr s))
    · exact sub (B.done i w (by omega) h z s)
  have mono' : ∀ (i j : Nat) w v, i ≤ j → (bfsAll w0 ws (stepsFrom p (lst w0)))[i]? = some w → (bfsAll w0 ws (stepsFrom p (lst w0)))[j]? = some v → w.length ≤ v.length := fun i j w v hij h1 h2 => by
    by_cases c2 : j < ws.length
    · exact B.mono i j w v hij (inl (by omega) h1) (inl c2 h2)
    · rw [tl (inr c2 h2)]
      exact len1 (List.mem_of_getElem? h1)
  refine ⟨fun w hw => ?_, bfs_nd w0 _ _ B.nd, by rw [et, List.length_append]; omega, done', fun i w hi h => ?_, mono', fun j w v h1 h2 => ?_, fun i w h => ?_, fun d x r => ?_⟩
  · rw [et, List.mem_append] at hw
    rcases hw with hw | hw
    · exact B.road w hw
    · obtain ⟨x, hx, e⟩ := ht w hw
      subst e
      refine ⟨R0.app (mem_steps.mp hx), ?_⟩
      cases w0 with
      | nil => exact absurd rfl R0.ne
      | cons a r => exact H0
  · have h := inl (by omega) h
    by_cases c : i = at'
    · subst c
      rw [h0] at h
      cases h
      exact hg
    · exact B.ng i w (by omega) h
  · have a := mono' at' (at' + 1) w0 w (Nat.le_succ _) (keep h0) h1
    have b := len1 (List.mem_of_getElem? h2)
    omega
  · by_cases c : i < ws.length
    · exact B.len i w (inl c h)
    · rw [tl (inr c h)]
      have := B.len at' w0 h0
      omega
  · rcases B.dist d x r with ⟨w, hw, e, hl⟩ | ⟨w, hw, hl⟩
    · refine .inl ⟨w, ?_, e, hl⟩
      rw [et]
      exact List.mem_append_left _ hw
    · rw [h0] at hw
      cases hw
      cases e1 : (bfsAll w0 ws (stepsFrom p (lst w0)))[at' + 1]? with
      | some v =>
        by_cases c : v.length ≤ d
        · exact .inr ⟨v, rfl, c⟩
        · have hv := len1 (List.mem_of_getElem? e1)
          have hw0 : 0 < w0.length := List.length_pos_iff.mpr R0.ne
          cases r with
          | refl => exact absurd hl (by omega)
          | @tail d a b c' r s =>
            rcases B.dist d b r with ⟨u, hu, eu, hul⟩ | ⟨u, hu, hul⟩
            · obtain ⟨i, hi⟩ := List.mem_iff_getElem?.mp hu
              have hlt : i < at' + 1 := by
                refine Classical.byContradiction fun q => ?_
                have := mono' (at' + 1) i v u (by omega) e1 (keep hi)
                omega
              have hx := done' i u hlt (keep hi) x (by rw [eu]; exact s)
              obtain ⟨y, hy, ey⟩ := List.mem_map.mp hx
              exact .inl ⟨y, hy, ey, by have := len1 hy; omega⟩
            · rw [h0] at hu
              cases hu
              omega
      | none =>
        have hend : (bfsAll w0 ws (stepsFrom p (lst w0))).length ≤ at' + 1 := List.getElem?_eq_none_iff.mp e1
        have s0 : start ∈ (bfsAll w0 ws (stepsFrom p (lst w0))).map lst := by
          obtain ⟨w, hw, e, _⟩ | ⟨w, hw, hl⟩ := B.dist 0 start (.refl _)
          · exact sub (List.mem_map.mpr ⟨w, hw, e⟩)
          · have := List.length_pos_iff.mpr (B.road w (List.mem_of_getElem? hw)).1.ne
            omega
        have all := Rn.closed (L := fun y => y ∈ (bfsAll w0 ws (stepsFrom p (lst w0))).map lst) (fun y z ih s => by
          obtain ⟨w, hw, e⟩ := List.mem_map.mp ih
          obtain ⟨i, hi⟩ := List.mem_iff_getElem?.mp hw
          have := (List.getElem?_eq_some_iff.mp hi).1
          exact done' i w (by omega) hi _ (by rw [e]; exact s)) r s0
        obtain ⟨y, hy, ey⟩ := List.mem_map.mp all
        exact .inl ⟨y, hy, ey, by have := len1 hy; omega⟩
/-- a road from the one to the other, none has fewer steps -/
structure RoadOk (p : List Say) (a b : Int) (w : List Int) : Prop where
  road : IsRoad p w
  head : w.head? = some a
  last : lst w = b
  least : ∀ d, Rn p d a b → w.length ≤ d + 1
theorem Bfs.found (B : Bfs p start goal ws at') {w0 : List Int} (h0 : ws[at']? = some w0) (hg : lst w0 = goal) : RoadOk p start goal w0 := by
  have m0 : w0 ∈ ws := List.mem_of_getElem? h0
  obtain ⟨R0, H0⟩ := B.road w0 m0
  refine ⟨R0, H0, hg, fun d r => ?_⟩
  rcases B.dist d goal r with ⟨w, hw, e, hl⟩ | ⟨w, hw, hl⟩
  · obtain ⟨i, hi⟩ := List.mem_iff_getElem?.mp hw
    have e1 : (ws.map lst)[i]? = some goal := by rw [List.getElem?_map, hi]; exact congrArg some e
    have e2 : (ws.map lst)[at']? = some goal := by rw [List.getElem?_map, h0]; exact congrArg some hg
    have := L2.nd_ix B.nd e1 e2
    subst this
    rw [h0] at hi
    cases hi
    exact hl
  · rw [h0] at hw
    cases hw
    omega
theorem Bfs.none (B : Bfs p start goal ws ws.length) : ¬ Rc p start goal := fun h => by
  obtain ⟨d, r⟩ := h.rn
  have s0 : start ∈ ws.map lst := by
    obtain ⟨w, hw, e, _⟩ | ⟨w, hw, hl⟩ := B.dist 0 start (.refl _)
    · exact List.mem_map.mpr ⟨w, hw, e⟩
    · rw [List.getElem?_eq_none (Nat.le_refl _)] at hw
      cases hw
  have all := Rn.closed (L := fun y => y ∈ ws.map lst) (fun y z ih s => by
    obtain ⟨w, hw, e⟩ := List.mem_map.mp ih
    obtain ⟨i, hi⟩ := List.mem_iff_getElem?.mp hw
    exact B.done i w (List.getElem?_eq_some_iff.mp hi).1 hi _ (by rw [e]; exact s)) r s0
  obtain ⟨w, hw, e⟩ := List.mem_map.mp all
  obtain ⟨i, hi⟩ := List.mem_iff_getElem?.mp hw
  exact B.ng i w (List.getElem?_eq_some_iff.mp hi).1 hi e
/-- the lasts are literals: so there are not many -/
theorem Bfs.few {n : Nat} (B : Bfs p start goal ws at') (hp : PileOk n p) (hs : LitOk n start) : ws.length ≤ 2 * n := by
  have h := lits_len (n := n) B.nd fun x hx => by
    obtain ⟨w, hw, e⟩ := List.mem_map.mp hx
    obtain ⟨R, H⟩ := B.road w hw
    have r := R.rc H _ _ (lst_at R.ne)
    rw [← e]
    exact r.ok hp hs
  rw [List.length_map] at h
  exact h
end
end
end Px
namespace Px
open PySem L2
noncomputable section
section
variable {α : Type} {tg : PD → Env → R Env} {g : Env → Out} {enc : α → PD}
/-- a loop over a list by a state that counts -/
theorem forE_ix (R : D → Prop) : ∀ (xs : List α) (I : Nat → Env → Prop) (L : Env), (∀ (i : Nat) L a, xs[i]? = some a → I i L → ∃ L1, tg (enc a) L = .ok L1 ∧ ((∃ L2, (g L1 = .next L2 ∨ g L1 = .ct L2) ∧ I (i + 1) L2) ∨ ∃ d, g L1 = .ret d ∧ R d)) → I 0 L →
    (∃ L', forE tg g (xs.map enc) L = .next L' ∧ I xs.length L') ∨ ∃ d, forE tg g (xs.map enc) L = .ret d ∧ R d
  | [], I, L, _, h => .inl ⟨L, rfl, h⟩
  | a :: as, I, L, ht, h => by
    obtain ⟨L1, e1, h1⟩ := ht 0 L a rfl h
    rw [List.map_cons, forE_c, e1, out_ok']
    rcases h1 with ⟨L2, e2, h2⟩ | ⟨d, e2, h2⟩
    · have ih := forE_ix R as (fun i => I (i + 1)) L2 (fun i L b hb hi => ht (i + 1) L b hb hi) h2
      rcases e2 with e2 | e2 <;> (rw [e2]; exact ih)
    · exact .inr ⟨d, by rw [e2]; rfl, h2⟩
/-- the same over a range -/
theorem forE_rng (R : D → Prop) : ∀ (n : Nat) (lo : Int) (I : Nat → Env → Prop) (L : Env), (∀ (i : Nat) L, i < n → I i L → ∃ L1, tg (.int (lo + (i : Int))) L = .ok L1 ∧ ((∃ L2, (g L1 = .next L2 ∨ g L1 = .ct L2) ∧ I (i + 1) L2) ∨ ∃ d, g L1 = .ret d ∧ R d)) → I 0 L →
    (∃ L', forE tg g (rng lo n) L = .next L' ∧ I n L') ∨ ∃ d, forE tg g (rng lo n) L = .ret d ∧ R d
  | 0, lo, I, L, _, h => .inl ⟨L, rfl, h⟩
  | n + 1, lo, I, L, ht, h => by
    obtain ⟨L1, e1, h1⟩ := ht 0 L (Nat.succ_pos n) h
    rw [show lo + ((0 : Nat) : Int) = lo by omega] at e1
    rw [rng_s, forE_c, e1, out_ok']
    rcases h1 with ⟨L2, e2, h2⟩ | ⟨d, e2, h2⟩
    · have ih := forE_rng R n (lo + 1) (fun i => I (i + 1)) L2 (fun i L hb hi => by
        have := ht (i + 1) L (by omega) hi
        rw [show lo + ((i + 1 : Nat) : Int) = lo + 1 + (i : Int) by omega] at this
        exact this) h2
      rcases e2 with e2 | e2 <;> (rw [e2]; exact ih)
    · exact .inr ⟨d, by rw [e2]; rfl, h2⟩
end
@[simp] theorem slice_d (fa : Env → R PD) (fl fh : Env → R (Option Int)) (L : Env) : sliceL fa fl fh L = (fa L).bind fun d => (fl L).bind fun lo => (fh L).bind fun hi => match d with
  | .list ds => .ok (.own (cutP ds lo hi))
  | _ => .bad := rfl
@[simp] theorem noPart_d (L : Env) : noPart L = .ok none := rfl
@[simp] theorem partE_d (f : Env → R PD) (L : Env) : partE f L = (f L).bind fun d => match d with
  | .int i => .ok (some i)
  | _ => .bad := rfl
def cutL {α : Type} (xs : List α) (lo hi : Option Int) : List α := (xs.drop (HT.sIx xs.length 0 lo)).take (HT.sIx xs.length xs.length hi - HT.sIx xs.length 0 lo)
theorem cut_map {α : Type} (f : α → PD) (xs : List α) (lo hi : Option Int) : cutP (xs.map f) lo hi = (cutL xs lo hi).map f := by
  unfold cutP cutL
  rw [List.length_map, List.map_take, List.map_drop]
theorem cut_mem {α : Type} {xs : List α} {lo hi : Option Int} {x : α} (h : x ∈ cutL xs lo hi) : x ∈ xs := List.mem_of_mem_drop (List.mem_of_mem_take h)
theorem cut_len {α : Type} (xs : List α) (lo hi : Option Int) : (cutL xs lo hi).length ≤ xs.length := by
  unfold cutL
  rw [List.length_take, List.length_drop]
  omega
theorem PileOk.cut {n : Nat} {p : List Say} (h : PileOk n p) (lo hi : Option Int) : PileOk n (cutL p lo hi) := fun s hs => h s (cut_mem hs)
theorem cut_1 {α : Type} (xs : List α) : cutL xs (some 1) none = xs.drop 1 := by
  unfold cutL
  rw [show HT.sIx xs.length 0 (some 1) = min 1 xs.length from HT.sIx_nat xs.length 0 1, HT.sIx_none]
  cases xs with
  | nil => rfl
  | cons x xs =>
    rw [show min 1 (x :: xs).length = 1 by rw [List.length_cons]; omega]
    exact List.take_of_length_le (by rw [List.length_drop]; exact Nat.le_refl _)
theorem isi_of {T U : String} {b : Bool} (h : kitB U T = some b) : isiQ T U = .ok (.bool b) := by
  unfold isiQ
  rw [h]
@[simp] theorem isi_ib (b : Bool) : isiP "int" (.bool b) = .ok (.bool true) := isi_of (T := "int") (U := "bool") (by decide +kernel)
@[simp] theorem isi_ii (b : Int) : isiP "int" (.int b) = .ok (.bool true) := isi_of (T := "int") (U := "int") (by decide +kernel)
@[simp] theorem isi_bi (b : Int) : isiP "bool" (.int b) = .ok (.bool false) := isi_of (T := "bool") (U := "int") (by decide +kernel)
@[simp] theorem isi_bn : isiP "bool" .none = .ok (.bool false) := isi_of (T := "bool") (U := "NoneType") (by decide +kernel)
@[simp] theorem isi_ll (b : List PD) : isiP "list" (.list b) = .ok (.bool true) := isi_of (T := "list") (U := "list") (by decide +kernel)
@[simp] theorem isi_ln : isiP "list" .none = .ok (.bool false) := isi_of (T := "list") (U := "NoneType") (by decide +kernel)
@[simp] theorem isi_lt (b : List PD) : isiP "list" (.tuple b) = .ok (.bool false) := isi_of (T := "list") (U := "tuple") (by decide +kernel)
@[simp] theorem isi_tt (b : List PD) : isiP "tuple" (.tuple b) = .ok (.bool true) := isi_of (T := "tuple") (U := "tuple") (by decide +kernel)
@[simp] theorem isi_tn : isiP "tuple" .none = .ok (.bool false) := isi_of (T := "tuple") (U := "NoneType") (by decide +kernel)
@[simp] theorem isi_ss (b : Str) : isiP "str" (.str b) = .ok (.bool true) := isi_of (T := "str") (U := "str") (by decide +kernel)
@[simp] theorem notV_b (b : Bool) (f : Env → R PD) (L : Env) : (asB (.bool b)).bind (fun b => R.ok (PyData.bool (!b))) = .ok (.bool (!b)) := rfl
theorem f_manyby (c : Int) {k : Int} (h : 0 < k) (h2 : k ≤ 60) : ∃ m : Nat, f__law_many_by [.int c, .int k] = .ok (.val (.int (m : Int))) ∧ 1 ≤ m ∧ m ≤ 60 := by
  have e1 : mulP (.int 8) (.int k) = .ok (.int (8 * k)) := mul_ii (.inl (by decide))
  have a1 : 0 ≤ c % k := Int.emod_nonneg _ (by omega)
  have a2 : c % k < k := Int.emod_lt_of_pos _ h
  have b1 : 0 ≤ c / (8 * k) % 24 := Int.emod_nonneg _ (by omega)
  have b2 : c / (8 * k) % 24 < 24 := Int.emod_lt_of_pos _ (by omega)
  simp [f__law_many_by, fnE, envOf, g__law_many_by, div_n h (show k < 1073741824 by omega), mod_n (show (0 : Int) < 64 by decide), mod_n (show (0 : Int) < 8 by decide), mod_n (show (0 : Int) < 24 by decide), mod_n h, e1, div_n (show 0 < 8 * k by omega) (show 8 * k < 1073741824 by omega)]
  by_cases c1 : c / k % 64 = 2
  · exact ⟨60, by simp [c1], by decide, by decide⟩
  · by_cases c2 : c / k % 8 = 1
    · exact ⟨(1 + c / (8 * k) % 24).toNat, by rw [if_neg c1, if_pos c2]; simp; omega, by omega, by omega⟩
    · exact ⟨(1 + c % k).toNat, by rw [if_neg c1, if_neg c2]; simp; omega, by omega, by omega⟩
theorem f_pile (ns : List Int) {s : Int} {m c : Nat} (hs : 0 ≤ s) (m1 : 1 ≤ m) (m2 : m ≤ 100) (hc : c ≤ 1000) :
    ∃ P, f__law_pile_by [scr ns, .int s, .int (m : Int), .int (c : Int)] = .ok (.own (P.map sayE)) ∧ PileOk m P ∧ P.length = c := by
  have k := forE_rng (tg := tgN 5) (g := l__law_pile_by_1) (fun _ => False) c 0 (fun i L => ∃ P x y, PileOk m P ∧ P.length = i ∧ L = [some (.val (scr ns)), some (.val (.int s)), some (.val (.int (m : Int))), some (.val (.int (c : Int))), some (.own (P.map sayE)), x, y])
    [some (.val (scr ns)), some (.val (.int s)), some (.val (.int (m : Int))), some (.val (.int (c : Int))), some (.own []), none, none] (fun i L hi ⟨P, x, y, hP, hl, eL⟩ => by
      subst eL
      refine ⟨_, rfl, .inl ⟨_, .inl ?_, P ++ [(litBy (cellAt ns (s + (0 + (i : Int))).toNat % (2 * (m : Int))), litBy (cellAt ns (s + (0 + (i : Int))).toNat / (2 * (m : Int)) % (2 * (m : Int))))], some (.val (.int (0 + (i : Int)))), some (.val (.int (cellAt ns (s + (0 + (i : Int))).toNat))), fun z hz => ?_, ?_, rfl⟩⟩
      · simp [l__law_pile_by_1, f_cellI ns (show 0 ≤ s + (i : Int) by omega), mul2, mod_n (show 0 < 2 * (m : Int) by omega), div_n (show 0 < 2 * (m : Int) by omega) (show 2 * (m : Int) < 1073741824 by omega), f_litby, show P.length < 1000000 by omega]
      · rcases List.mem_append.mp hz with hz | hz
        · exact hP z hz
        · rw [List.mem_singleton] at hz
          subst hz
          exact ⟨lit_mod _ m1, lit_mod _ m1⟩
      · rw [List.length_append, List.length_singleton, hl]) ⟨[], none, none, (fun z hz => by cases hz), rfl, rfl⟩
  rcases k with ⟨L', e, P, x, y, hP, hl, eL⟩ | ⟨d, _, h⟩
  · subst eL
    refine ⟨P, ?_, hP, hl⟩
    simp [f__law_pile_by, fnE, envOf, g__law_pile_by, rngN (show c ≤ 1000000 by omega), e]
  · exact h.elim
theorem f_far (z : Int) {m c : Nat} (m1 : 1 ≤ m) (m2 : m ≤ 100) (hc : c ≤ 1000) :
    ∃ P, f__law_far_pile [.int z, .int (m : Int), .int (c : Int)] = .ok (.own (P.map sayE)) ∧ PileOk m P ∧ P.length = c := by
  have k := forE_rng (tg := tgN 4) (g := l__law_far_pile_1) (fun _ => False) c 0 (fun i L => ∃ P z x, PileOk m P ∧ P.length = i ∧ L = [some (.val (.int z)), some (.val (.int (m : Int))), some (.val (.int (c : Int))), some (.own (P.map sayE)), x])
    [some (.val (.int z)), some (.val (.int (m : Int))), some (.val (.int (c : Int))), some (.own []), none] (fun i L hi ⟨P, z, x, hP, hl, eL⟩ => by
      subst eL
      obtain ⟨w, hw⟩ : ∃ w, w = (z * 48271 + 11) % 2147483647 := ⟨_, rfl⟩
      refine ⟨_, rfl, .inl ⟨_, .inl ?_, P ++ [(litBy (w % (2 * (m : Int))), litBy (w / 1009 % (2 * (m : Int))))], w, some (.val (.int (0 + (i : Int)))), fun z hz => ?_, ?_, rfl⟩⟩
      · simp [l__law_far_pile_1, mul_ii (show mulOk z 48271 from .inr (by decide)), mod_n (show (0 : Int) < 2147483647 by decide), ← hw, mul2, mod_n (show 0 < 2 * (m : Int) by omega), div_n (show (0 : Int) < 1009 by decide) (by decide), f_litby, show P.length < 1000000 by omega]
      · rcases List.mem_append.mp hz with hz | hz
        · exact hP _ hz
        · rw [List.mem_singleton] at hz
          subst hz
          exact ⟨lit_mod _ m1, lit_mod _ m1⟩
      · rw [List.length_append, List.length_singleton, hl]) ⟨[], z, none, (fun z hz => by cases hz), rfl, rfl⟩
  rcases k with ⟨L', e, P, z', x, hP, hl, eL⟩ | ⟨d, _, h⟩
  · subst eL
    refine ⟨P, ?_, hP, hl⟩
    simp [f__law_far_pile, fnE, envOf, g__law_far_pile, rngN (show c ≤ 1000000 by omega), e]
  · exact h.elim
theorem f_turned {p : List Say} {bs : List Bool} (hp : PileOk bs.length p) (hl : p.length ≤ 1000) :
    ∃ P, f__law_turned [encP p, encB bs] = .ok (.own (P.map sayE)) ∧ PileOk bs.length P ∧ P.length = p.length := by
  have k := forE_ix (tg := tgN 3) (g := l__law_turned_1) (enc := sayE) (fun _ => False) p (fun i L => ∃ P x y, PileOk bs.length P ∧ P.length = i ∧ L = [some (.val (encP p)), some (.val (encB bs)), some (.own (P.map sayE)), x, y])
    [some (.val (encP p)), some (.val (encB bs)), some (.own []), none, none] (fun i L s hs ⟨P, x, y, hP, hl2, eL⟩ => by
      subst eL
      have ok := hp s (List.mem_of_getElem? hs)
      have hi := (List.getElem?_eq_some_iff.mp hs).1
      have l1 := bit_at ok.1
      have okf : LitOk bs.length (if bitAt bs s.1 = true then ((s.1.natAbs : Nat) : Int) else -((s.1.natAbs : Nat) : Int)) := by
        have h1 := ok.1.1
        have h2 := ok.1.2
        split <;> (constructor <;> omega)
      refine ⟨_, rfl, .inl ⟨_, .inl ?_, P ++ [((if bitAt bs s.1 = true then ((s.1.natAbs : Nat) : Int) else -((s.1.natAbs : Nat) : Int)), s.2)], some (.val (sayE s)), some (.val (.int (if bitAt bs s.1 = true then ((s.1.natAbs : Nat) : Int) else -((s.1.natAbs : Nat) : Int)))), fun z hz => ?_, ?_, rfl⟩⟩
      · cases eb : bitAt bs s.1 <;> simp [l__law_turned_1, l1, eb, show P.length < 1000000 by omega]
      · rcases List.mem_append.mp hz with hz | hz
        · exact hP z hz
        · rw [List.mem_singleton] at hz
          subst hz
          exact ⟨okf, ok.2⟩
      · rw [List.length_append, List.length_singleton, hl2]) ⟨[], none, none, (fun z hz => by cases hz), rfl, rfl⟩
  rcases k with ⟨L', e, P, x, y, hP, hl2, eL⟩ | ⟨d, _, h⟩
  · subst eL
    refine ⟨P, ?_, hP, hl2⟩
    simp [f__law_turned, fnE, envOf, g__law_turned, e]
  · exact h.elim
theorem f_true {bs : List Bool} {s : Int × Int} (h : SayOk bs.length s) : f__law_true [sayE s, encB bs] = .ok (.val (.bool (sayT bs s))) := by
  cases e1 : litT bs s.1
  · cases e2 : litT bs s.2
    · simp [f__law_true, fnE, envOf, g__law_true, l__law_true_1, forE_c, forE_n, bit_at h.1, bit_at h.2, sayT, e1, e2]
    · simp [f__law_true, fnE, envOf, g__law_true, l__law_true_1, forE_c, forE_n, bit_at h.1, bit_at h.2, sayT, e1, e2]
  · simp [f__law_true, fnE, envOf, g__law_true, l__law_true_1, forE_c, forE_n, bit_at h.1, sayT, e1]
theorem f_alltrue {bs : List Bool} {p : List Say} (hp : PileOk bs.length p) : f__law_all_true [encP p, encB bs] = .ok (.val (.bool (pileT bs p))) := by
  have k := forE_find (tg := tgN 2) (g := l__law_all_true_1) (enc := sayE) (fun L => ∃ x, L = [some (.val (encP p)), some (.val (encB bs)), x]) (fun s => !sayT bs s) (fun _ => .val (.bool false)) p [some (.val (encP p)), some (.val (encB bs)), none] (fun a L ha ⟨x, e⟩ => by
    subst e
    refine ⟨[some (.val (encP p)), some (.val (encB bs)), some (.val (sayE a))], rfl, fun h => ?_, fun h => ⟨[some (.val (encP p)), some (.val (encB bs)), some (.val (sayE a))], .inl ?_, _, rfl⟩⟩ <;>
      (simp at h; simp [l__law_all_true_1, f_true (hp a ha), h])) ⟨none, rfl⟩
  rcases k with ⟨a, ha, pa, e, _⟩ | ⟨hn, L', e, x, eL⟩
  · have hu : pileT bs p = false := by
      unfold pileT
      rw [List.all_eq_false]
      exact ⟨a, ha, by simpa using pa⟩
    rw [hu]
    simp [f__law_all_true, fnE, envOf, g__law_all_true, e]
  · have hu : pileT bs p = true := by
      unfold pileT
      rw [List.all_eq_true]
      intro l hl
      simpa using hn l hl
    rw [hu]
    simp [f__law_all_true, fnE, envOf, g__law_all_true, e]
theorem f_good_ok {bs : List Bool} {p : List Say} (hp : PileOk bs.length p) : f_good [encP p, encB bs] = .ok (.val (.bool (pileT bs p))) := by
  have k := forE_find (tg := tgN 2) (g := l_good_1) (enc := sayE) (fun L => ∃ x, L = [some (.val (encP p)), some (.val (encB bs)), x]) (fun s => !sayT bs s) (fun _ => .val (.bool false)) p [some (.val (encP p)), some (.val (encB bs)), none] (fun a L ha ⟨x, e⟩ => by
    subst e
    refine ⟨[some (.val (encP p)), some (.val (encB bs)), some (.val (sayE a))], rfl, fun h => ?_, fun h => ⟨[some (.val (encP p)), some (.val (encB bs)), some (.val (sayE a))], .inl ?_, _, rfl⟩⟩ <;>
      (simp at h; simp [l_good_1, f_says (hp a ha), h])) ⟨none, rfl⟩
  rcases k with ⟨a, ha, pa, e, _⟩ | ⟨hn, L', e, x, eL⟩
  · have hu : pileT bs p = false := by
      unfold pileT
      rw [List.all_eq_false]
      exact ⟨a, ha, by simpa using pa⟩
    rw [hu]
    simp [f_good, fnE, envOf, g_good, e]
  · have hu : pileT bs p = true := by
      unfold pileT
      rw [List.all_eq_true]
      intro l hl
      simpa using hn l hl
    rw [hu]
    simp [f_good, fnE, envOf, g_good, e]
end
end Px
namespace Px
open PySem L2
noncomputable section
theorem seq_to {g h : Env → Out} {L L' : Env} {X : R D} (e : g L = .next L') (r : finish (h L') = X) : finish (seqS g h L) = X := by
  rw [seq_d, e]
  exact r
theorem seq_ex {g h : Env → Out} {L : Env} {X : R D} (I : Env → Prop) (e : ∃ L', g L = .next L' ∧ I L') (r : ∀ L', I L' → finish (h L') = X) : finish (seqS g h L) = X := by
  obtain ⟨L', e, i⟩ := e
  exact seq_to e (r L' i)
theorem seq_or {g h : Env → Out} {L : Env} {X : R D} (I : Env → Prop) (e : (∃ L', g L = .next L' ∧ I L') ∨ ∃ d, g L = .ret d ∧ R.ok d = X) (r : ∀ L', I L' → finish (h L') = X) : finish (seqS g h L) = X := by
  rcases e with e | ⟨d, e, ed⟩
  · exact seq_ex I e r
  · rw [seq_d, e]
    exact ed
theorem seq_as {g1 g2 h : Env → Out} {L : Env} {X : R D} (r : finish (seqS g1 (seqS g2 h) L) = X) : finish (seqS (seqS g1 g2) h L) = X := by
  rw [← r]
  congr 1
  rw [seq_d, seq_d, seq_d]
  cases e : g1 L <;> first | rfl | (show Out.thn _ _ = _; rw [thn_n, thn_n, seq_d])
theorem put_own {i n : Nat} {fk fv : Env → R PD} {L : Env} {ds : List PD} {d : PD} (h : getE L i = some (.own ds)) (hv : fv L = .ok d) (hk : fk L = .ok (.int (n : Int))) (hn : n < ds.length) : putS i fk fv L = .next (setE L i (some (.own (ds.set n d)))) := by
  unfold putS
  rw [h]
  dsimp only
  rw [hv, hk]
  have e : ixN ds.length (n : Int) = some n := by
    unfold ixN
    rw [if_pos (by omega), if_pos (by omega)]
    rfl
  show (match ixN ds.length (n : Int) with
    | some m => Out.next _
    | none => .bad) = _
  rw [e]
theorem PileOk.set {n i : Nat} {p : List Say} {s : Say} (h : PileOk n p) (hs : SayOk n s) : PileOk n (p.set i s) := fun x hx => by
  rcases List.mem_or_eq_of_mem_set hx with hx | hx
  · exact h x hx
  · rw [hx]
    exact hs
theorem PileOk.at {n i : Nat} {p : List Say} {s : Say} (h : PileOk n p) (e : p[i]? = some s) : SayOk n s := h s (List.mem_of_getElem? e)
theorem atP {p : List Say} {i : Nat} (h : i < p.length) : atI (p.map sayE) (i : Int) = some (sayE p[i]) := by
  rw [at_map', at_nat h]
  rfl
/-- a rest by a length is a place -/
theorem mod_at (c : Int) {n : Nat} (h : 0 < n) : ∃ i : Nat, c % (n : Int) = (i : Int) ∧ i < n := by
  have a := Int.emod_nonneg c (show (n : Int) ≠ 0 by omega)
  have b := Int.emod_lt_of_pos c (show 0 < (n : Int) by omega)
  exact ⟨(c % (n : Int)).toNat, by omega, by omega⟩
theorem mod_nat (c : Int) {n : Int} (h : 0 < n) : ∃ i : Nat, c % n = (i : Int) ∧ (i : Int) < n := by
  have a := Int.emod_nonneg c (show n ≠ 0 by omega)
  have b := Int.emod_lt_of_pos c h
  exact ⟨(c % n).toNat, by omega, by omega⟩
theorem neg_ok {n : Nat} {l : Int} (h : LitOk n l) : LitOk n (-l) := litOk_neg h
theorem len_P (p : List Say) : lenP (.list (p.map sayE)) = .ok (.int (p.length : Int)) := by
  rw [len_l, List.length_map]
theorem f_whole (i : Int) : f__law_whole [.int i] = .ok (.val (.bool true)) := by
  simp [f__law_whole, fnE, envOf, g__law_whole]
theorem f_alike (a b : List Int) (hb : b.length ≤ 1000) : f__law_alike [encI a, encI b] = .ok (.val (.bool (decide (a = b)))) := by
  by_cases hl : a.length = b.length
  · have k := forE_rng (tg := tgN 2) (g := l__law_alike_1) (fun d => d = .val (.bool false) ∧ a ≠ b) b.length 0 (fun i L => (∃ x, L = [some (.val (encI a)), some (.val (encI b)), x]) ∧ ∀ j : Nat, j < i → a[j]? = b[j]?) [some (.val (encI a)), some (.val (encI b)), none] (fun i L hi ⟨⟨x, eL⟩, same⟩ => by
      subst eL
      have a1 : atI (a.map PyData.int) ((i : Nat) : Int) = some (.int a[i]) := by
        rw [at_map', at_nat (show i < a.length by omega)]
        rfl
      have b1 : atI (b.map PyData.int) ((i : Nat) : Int) = some (.int b[i]) := by
        rw [at_map', at_nat hi]
        rfl
      refine ⟨_, rfl, ?_⟩
      by_cases c : a[i] = b[i]
      · refine .inl ⟨[some (.val (encI a)), some (.val (encI b)), some (.val (.int (0 + (i : Int))))], .inl ?_, ⟨_, rfl⟩, fun j hj => ?_⟩
        · simp [l__law_alike_1, a1, b1, f_whole, c]
        · by_cases cj : j = i
          · subst cj
            rw [List.getElem?_eq_getElem (show j < a.length by omega), List.getElem?_eq_getElem hi, c]
          · exact same j (by omega)
      · refine .inr ⟨.val (.bool false), ?_, rfl, fun e => ?_⟩
        · simp [l__law_alike_1, a1, b1, f_whole, c]
        · subst e
          exact c rfl) ⟨⟨none, rfl⟩, fun j hj => absurd hj (Nat.not_lt_zero j)⟩
    rcases k with ⟨L', e, ⟨x, eL⟩, same⟩ | ⟨d, e, ed, ne⟩
    · have eq : a = b := List.ext_getElem? fun j => by
        by_cases cj : j < b.length
        · exact same j cj
        · rw [List.getElem?_eq_none (by omega), List.getElem?_eq_none (by omega)]
      subst eL
      subst eq
      have rg := rngN (show a.length ≤ 1000000 by omega)
      simp [f__law_alike, fnE, envOf, g__law_alike, rg, e]
    · have rg := rngN (show b.length ≤ 1000000 by omega)
      subst ed
      simp only [encI] at e
      simp [f__law_alike, fnE, envOf, g__law_alike, hl, rg, e, ne]
  · have ne : a ≠ b := fun e => hl (by rw [e])
    have ne2 : ¬ ((a.length : Int) = (b.length : Int)) := by omega
    simp [f__law_alike, fnE, envOf, g__law_alike, ne, ne2]
end
end Px
namespace Px
open PySem L2
noncomputable section
abbrev T (l : List Nat) : Str := SX.S l
abbrev encS (ys : List Str) : PD := .list (ys.map PyData.str)
/-- a text that may be compared -/
def okS (s : Str) : Prop := PyData.strOk s = true
theorem sh_s {s : Str} (h : okS s) : Sh 0 (.str s) := by
  unfold Sh PyData.canLay0 PyData.depth
  exact ⟨h, Nat.le_refl _⟩
theorem ev_ss (a b : Str) : PyData.eqv (.str a) (.str b) = decide (a = b) := by
  unfold PyData.eqv
  by_cases e : a = b
  · subst e; simp
  · rw [decide_eq_false e]; exact beq_eq_false_iff_ne.mpr e
theorem eq_ss {a b : Str} (ha : okS a) (hb : okS b) : eqP (.str a) (.str b) = .ok (decide (a = b)) := by rw [eq_of (sh_s ha) (sh_s hb) (by decide), ev_ss]
theorem ne_ss {a b : Str} (ha : okS a) (hb : okS b) : neP (.str a) (.str b) = .ok (!decide (a = b)) := by rw [ne_of' (sh_s ha) (sh_s hb) (by decide), ev_ss]
theorem ev_S (a b : List Str) : PyData.eqv (encS a) (encS b) = decide (a = b) := ev_list ev_ss a b
theorem sh_S {bs : List Str} (h : ∀ s ∈ bs, okS s) : Sh 1 (encS bs) := Sh.list fun d hd => by
  obtain ⟨a, ha, e⟩ := List.mem_map.mp hd
  rw [← e]
  exact sh_s (h a ha)
theorem eq_S {a b : List Str} (ha : ∀ s ∈ a, okS s) (hb : ∀ s ∈ b, okS s) : eqP (encS a) (encS b) = .ok (decide (a = b)) := by rw [eq_of (sh_S ha) (sh_S hb) (by decide), ev_S]
theorem eq_S1 {a : List Str} {b : Str} (ha : ∀ s ∈ a, okS s) (hb : okS b) : eqP (.list (a.map PyData.str)) (.list [.str b]) = .ok (decide (a = [b])) := eq_S ha (b := [b]) (fun s hs => by rw [List.mem_singleton] at hs; rw [hs]; exact hb)
theorem len_s {z : Str} (h : z.length ≤ 1000000) : lenP (.str z) = .ok (.int z.length) := cif_pos h
theorem ix_s {z : Str} (h : z.length ≤ 1000000) (i : Int) : ixP (.str z) (.int i) = ofO (fun c => .str ⟨#[c]⟩) (atI z.cps.toList i) := cif_pos h
def figs : List Nat := [48, 49, 50, 51, 52, 53, 54, 55, 56, 57]
theorem figs_eq : (("0123456789" : Str)).cps.toList = figs := by decide +kernel
theorem in_figs (c : Nat) : inP true (.str ⟨#[c]⟩) (.str ("0123456789" : Str)) = .ok (!decide (c ∈ figs)) := by
  show R.ok _ = _
  rw [figs_eq]
  rfl
/-- the number that a word writes: 0 for none -/
def badW (w : Str) : Bool := decide (w = ("" : Str)) || decide (2 < w.length) || decide ((w.cps.toList.getD 0 0) = 48) || !(w.cps.toList.all fun c => decide (c ∈ figs))
def valW (w : Str) : Int := (PySem.intText? w).getD 0
def numOf (w : Str) : Int := if badW w = true then 0 else if 60 < valW w then 0 else valW w
theorem str_ne {w : Str} (h : w ≠ ("" : Str)) : w.cps.toList ≠ [] := fun e => h (by
  have : w = SX.S w.cps.toList := (SX.S_tl w).symm
  rw [e] at this
  rw [this]
  decide +kernel)
theorem zero_s (c : Nat) : ((⟨#[c]⟩ : Str) = ("0" : Str)) ↔ c = 48 := by
  have e : (("0" : Str)) = (⟨#[48]⟩ : Str) := by decide +kernel
  rw [e]
  constructor
  · intro h
    have := SX.S_inj (a := [c]) (b := [48]) h
    cases this
    rfl
  · intro h
    rw [h]
/-- a good word is a number -/
theorem int_W {w : Str} (h : badW w = false) : ∃ n : Nat, PySem.intText? w = some (n : Int) ∧ 1 ≤ n := by
  unfold badW at h
  simp only [Bool.or_eq_false_iff, decide_eq_false_iff_not, Bool.not_eq_false', List.all_eq_true, decide_eq_true_eq] at h
  obtain ⟨⟨⟨h1, h2⟩, h3⟩, h4⟩ := h
  have ne := str_ne h1
  have e := SX.S_tl w
  have dig : ∀ c ∈ w.cps.toList, 48 ≤ c ∧ c ≤ 57 := fun c hc => by
    have := h4 c hc
    unfold figs at this
    simp only [List.mem_cons, List.not_mem_nil, or_false] at this
    omega
  have i := SX.int_S (a := w.cps.toList) (by rw [List.all_eq_true]; intro c hc; have := dig c hc; simp; omega) ne (by
    have : w.length = w.cps.toList.length := by unfold Str.length; exact Array.length_toList.symm
    omega)
  rw [e] at i
  refine ⟨_, i, ?_⟩
  cases hw : w.cps.toList with
  | nil => exact absurd hw ne
  | cons a t =>
    rw [hw] at h3 dig
    have ha := dig a List.mem_cons_self
    have h3 : ¬ a = 48 := h3
    have lt : t.length ≤ 1 := by
      have : w.length = w.cps.toList.length := by unfold Str.length; exact Array.length_toList.symm
      rw [hw, List.length_cons] at this
      omega
    cases t with
    | nil =>
      show 1 ≤ NumText.digitsVal [a]
      unfold NumText.digitsVal
      simp
      omega
    | cons b t =>
      have hb := dig b (by simp)
      cases t with
      | nil =>
        show 1 ≤ NumText.digitsVal [a, b]
        unfold NumText.digitsVal
        simp
        omega
      | cons c t => simp at lt
theorem okS_c {w : Str} (h : okS w) {c : Nat} (hc : c ∈ w.cps.toList) : c < 0x110000 := by
  unfold okS PyData.strOk at h
  rw [← Array.all_toList, List.all_eq_true] at h
  exact of_decide_eq_true (h c hc)
theorem okS_of {w : Str} (h : ∀ c ∈ w.cps.toList, c < 0x110000) : okS w := by
  unfold okS PyData.strOk
  rw [← Array.all_toList, List.all_eq_true]
  exact fun c hc => decide_eq_true (h c hc)
theorem okS_1 {c : Nat} (h : c < 0x110000) : okS ⟨#[c]⟩ := okS_of fun d hd => by
  have : d = c := by simpa using hd
  rw [this]
  exact h
theorem ok_e : okS ("" : Str) := show PyData.strOk _ = true by decide +kernel
theorem ok_0 : okS ("0" : Str) := show PyData.strOk _ = true by decide +kernel
theorem sw_loop (d0 d1 d2 : Option D) : ∀ (cs : List Nat) (x : Option D), (cs.all (fun c => decide (c ∈ figs)) = true → ∃ x', forE (tgN 3) l_switch_of_1 (cs.map fun c => PyData.str ⟨#[c]⟩) [d0, d1, d2, x] = .next [d0, d1, d2, x']) ∧
    (cs.all (fun c => decide (c ∈ figs)) = false → forE (tgN 3) l_switch_of_1 (cs.map fun c => PyData.str ⟨#[c]⟩) [d0, d1, d2, x] = .exc ("BadLine" : Str))
  | [], x => ⟨fun _ => ⟨x, rfl⟩, (fun h => by cases h)⟩
  | c :: cs, x => by
    have ih := sw_loop d0 d1 d2 cs (some (.val (.str ⟨#[c]⟩)))
    have i := in_figs c
    rw [List.all_cons, List.map_cons, forE_c, tgN_d, out_ok']
    have b : l_switch_of_1 (setE [d0, d1, d2, x] 3 (some (.val (.str ⟨#[c]⟩)))) = if c ∈ figs then .next [d0, d1, d2, some (.val (.str ⟨#[c]⟩))] else .exc ("BadLine" : Str) := by
      unfold l_switch_of_1
      simp only [if_d, op2_d, varB_d, setE_s, setE_z, getE_s, getE_z, slotB_v, bind_ok', constE_d, i, out_ok', raise_d, skip_d]
      by_cases e : c ∈ figs <;> simp [e]
    rw [b]
    by_cases e : c ∈ figs
    · rw [if_pos e, decide_eq_true e, Bool.true_and]
      exact ih
    · rw [if_neg e, decide_eq_false e, Bool.false_and]
      exact ⟨(fun h => by cases h), fun _ => rfl⟩
theorem f_switch {ws : List Str} (hw : ∀ w ∈ ws, okS w ∧ w.length ≤ 1000000) (at' : Nat) : f_switch_of [encS ws, .int (at' : Int)] = match ws[at']? with
    | none => .exc ("BadLine" : Str)
    | some w => if numOf w = 0 then .exc ("BadLine" : Str) else .ok (.val (.int (numOf w))) := by
  cases e : ws[at']? with
  | none =>
    have := List.getElem?_eq_none_iff.mp e
    simp [f_switch_of, fnE, envOf, g_switch_of, show (ws.length : Int) ≤ (at' : Int) by omega]
  | some w =>
    have hlt := (List.getElem?_eq_some_iff.mp e).1
    obtain ⟨ok, hl⟩ := hw w (List.mem_of_getElem? e)
    have ix : atI (ws.map PyData.str) (at' : Int) = some (.str w) := by
      rw [at_map', atI_nat e]
      rfl
    have q1 := eq_ss ok ok_e
    have ln := len_s hl
    have i0 := ix_s hl 0
    have fs : forStr (varE 2) (tgN 3) l_switch_of_1 [some (.val (encS ws)), some (.val (.int (at' : Int))), some (.val (.str w)), none] = forE (tgN 3) l_switch_of_1 (w.cps.toList.map fun c => PyData.str ⟨#[c]⟩) [some (.val (encS ws)), some (.val (.int (at' : Int))), some (.val (.str w)), none] := rfl
    have lp := sw_loop (some (.val (encS ws))) (some (.val (.int (at' : Int)))) (some (.val (.str w))) w.cps.toList none
    have nl : ¬ (ws.length : Int) ≤ (at' : Int) := by omega
    show _ = if numOf w = 0 then _ else _
    by_cases c1 : w = ("" : Str)
    · have z : numOf w = 0 := by
        unfold numOf badW
        rw [decide_eq_true c1]
        rfl
      rw [if_pos z]
      rw [decide_eq_true c1] at q1
      simp [f_switch_of, fnE, envOf, g_switch_of, nl, ix, q1]
    · rw [decide_eq_false c1] at q1
      by_cases c2 : 2 < w.length
      · have z : numOf w = 0 := by
          unfold numOf badW
          rw [decide_eq_true c2, Bool.or_true]
          rfl
        rw [if_pos z]
        simp [f_switch_of, fnE, envOf, g_switch_of, nl, ix, q1, ln, show (2 : Int) < (w.length : Int) by omega]
      · have ne := str_ne c1
        obtain ⟨c, t, hct⟩ : ∃ c t, w.cps.toList = c :: t := by
          cases h : w.cps.toList with
          | nil => exact absurd h ne
          | cons c t => exact ⟨c, t, rfl⟩
        have a0 : atI w.cps.toList 0 = some c := by
          rw [show (0 : Int) = ((0 : Nat) : Int) from rfl, atI_nat (show w.cps.toList[0]? = some c by rw [hct]; rfl)]
        have okc := okS_1 (okS_c ok (show c ∈ w.cps.toList by rw [hct]; exact List.mem_cons_self))
        have q0 := eq_ss okc ok_0
        rw [a0] at i0
        have n2 : ¬ (2 : Int) < (w.length : Int) := by omega
        have gd : w.cps.toList.getD 0 0 = c := by rw [hct]; rfl
        by_cases c3 : c = 48
        · have z : numOf w = 0 := by
            unfold numOf badW
            rw [gd, decide_eq_true c3, Bool.or_true, Bool.true_or]
            rfl
          rw [if_pos z]
          have c3' := (zero_s c).mpr c3
          rw [decide_eq_true c3'] at q0
          simp [f_switch_of, fnE, envOf, g_switch_of, nl, ix, q1, ln, n2, i0, q0]
        · have c3' : ¬ (⟨#[c]⟩ : Str) = ("0" : Str) := fun h => c3 ((zero_s c).mp h)
          rw [decide_eq_false c3'] at q0
          cases c4 : w.cps.toList.all (fun c => decide (c ∈ figs)) with
          | false =>
            have z : numOf w = 0 := by
              unfold numOf badW
              rw [c4, Bool.not_false, Bool.or_true]
              rfl
            rw [if_pos z]
            have l := lp.2 c4
            simp [f_switch_of, fnE, envOf, g_switch_of, nl, ix, q1, ln, n2, i0, q0, fs, l]
          | true =>
            have g : badW w = false := by
              unfold badW
              rw [decide_eq_false c1, decide_eq_false c2, gd, decide_eq_false c3, c4]
              rfl
            obtain ⟨x', l⟩ := lp.1 c4
            obtain ⟨n, hn, n1⟩ := int_W g
            have iv : intP (.str w) = .ok (.int (n : Int)) := by
              show (match PySem.intText? w with
                | some n => cif (w.length ≤ 640) (R.ok (PyData.int n)) .bad
                | none => .bad) = _
              rw [hn]
              exact cif_pos (by omega)
            have nv : numOf w = if 60 < (n : Int) then 0 else (n : Int) := by
              unfold numOf valW
              rw [g, hn]
              rfl
            by_cases c5 : 60 < (n : Int)
            · rw [nv, if_pos c5, if_pos rfl]
              simp [f_switch_of, fnE, envOf, g_switch_of, nl, ix, q1, ln, n2, i0, q0, fs, l, iv, c5]
            · rw [nv, if_neg c5, if_neg (by omega)]
              simp [f_switch_of, fnE, envOf, g_switch_of, nl, ix, q1, ln, n2, i0, q0, fs, l, iv, c5]
/-- what is read of words: a literal, and the words behind it -/
def litAt : List Str → Option (Int × List Str)
  | [] => none
  | w :: r => if w = ("not" : Str) then (match r with
    | [] => none
    | w2 :: r2 => if numOf w2 = 0 then none else some (-numOf w2, r2)) else if numOf w = 0 then none else some (numOf w, r)
theorem litAt_n : litAt [] = none := rfl
theorem litAt_c (w : Str) (r : List Str) : litAt (w :: r) = if w = ("not" : Str) then (match r with
    | [] => none
    | w2 :: r2 => if numOf w2 = 0 then none else some (-numOf w2, r2)) else if numOf w = 0 then none else some (numOf w, r) := rfl
def readOf (ws : List Str) : Option (List (Int × Int)) := match litAt ws with
  | none => none
  | some (a, []) => some [(a, a)]
  | some (a, j :: r) => match litAt r with
    | none => none
    | some (b, r2) => if r2 ≠ [] then none else if j = ("or" : Str) then some [(a, b)] else if j = ("then" : Str) then some [(-a, b)] else if j = ("as" : Str) then some [(-a, b), (a, -b)] else if j = ("unlike" : Str) then some [(a, b), (-a, -b)] else none
theorem ok_not : okS ("not" : Str) := show PyData.strOk _ = true by decide +kernel
theorem ok_or : okS ("or" : Str) := show PyData.strOk _ = true by decide +kernel
theorem ok_then : okS ("then" : Str) := show PyData.strOk _ = true by decide +kernel
theorem ok_as : okS ("as" : Str) := show PyData.strOk _ = true by decide +kernel
theorem ok_unlike : okS ("unlike" : Str) := show PyData.strOk _ = true by decide +kernel
theorem cut_one {α : Type} (xs : List α) (k : Nat) : cutL xs (some (k : Int)) (some ((k : Int) + 1)) = (xs.drop k).take 1 := by
  unfold cutL
  rw [show (k : Int) + 1 = ((k + 1 : Nat) : Int) by omega, show HT.sIx xs.length 0 (some (k : Int)) = min k xs.length from HT.sIx_nat _ _ _, show HT.sIx xs.length xs.length (some ((k + 1 : Nat) : Int)) = min (k + 1) xs.length from HT.sIx_nat _ _ _]
  by_cases c : k < xs.length
  · rw [Nat.min_eq_left (by omega), Nat.min_eq_left (by omega), show k + 1 - k = 1 by omega]
  · rw [Nat.min_eq_right (by omega), Nat.min_eq_right (by omega), List.drop_length, List.drop_eq_nil_of_le (by omega), List.take_nil, List.take_nil]
def LitR (ws : List Str) (at' : Nat) (r : R D) : Prop := match litAt (ws.drop at') with
  | none => r = .exc ("BadLine" : Str)
  | some (l, rest) => ∃ k : Nat, r = .ok (.val (.tuple [.int l, .int (k : Int)])) ∧ ws.drop k = rest ∧ k ≤ ws.length
theorem f_litof {ws : List Str} (hw : ∀ w ∈ ws, okS w ∧ w.length ≤ 1000000) (at' : Nat) : LitR ws at' (f_lit_of [encS ws, .int (at' : Int)]) := by
  have ct := cut_map PyData.str ws (some (at' : Int)) (some ((at' : Int) + 1))
  rw [cut_one] at ct
  have q := eq_S1 (a := (ws.drop at').take 1) (b := ("not" : Str)) (fun s hs => (hw s (List.mem_of_mem_drop (List.mem_of_mem_take hs))).1) ok_not
  have s0 := f_switch hw at'
  have s1 := f_switch hw (at' + 1)
  rw [show ((at' + 1 : Nat) : Int) = (at' : Int) + 1 by omega] at s1
  unfold LitR
  cases e : ws.drop at' with
  | nil =>
    have hl : ws.length ≤ at' := List.drop_eq_nil_iff.mp e
    rw [e] at ct q
    rw [show decide (([] : List Str).take 1 = [("not" : Str)]) = false from decide_eq_false (by simp)] at q
    rw [List.getElem?_eq_none hl] at s0
    rw [litAt_n]
    simp only [List.take_nil, List.map_nil] at ct q
    simp [f_lit_of, fnE, envOf, g_lit_of, ct, q, s0]
  | cons w r =>
    have hlt : at' < ws.length := by
      have := congrArg List.length e
      rw [List.length_drop, List.length_cons] at this
      omega
    have e0 : ws[at']? = some w := by
      have := List.getElem?_drop (xs := ws) (i := at') (j := 0)
      rw [e] at this
      simpa using this.symm
    have ed : ws.drop (at' + 1) = r := by
      rw [← List.drop_drop, e]
      rfl
    rw [e] at ct
    rw [e0] at s0
    have q := eq_S1 (a := [w]) (b := ("not" : Str)) (fun s hs => by rw [List.mem_singleton] at hs; rw [hs]; exact (hw w (List.mem_of_getElem? e0)).1) ok_not
    simp only [List.take_succ_cons, List.take_zero, List.map_cons, List.map_nil] at ct q
    have s0 : f_switch_of [encS ws, .int (at' : Int)] = if numOf w = 0 then .exc ("BadLine" : Str) else .ok (.val (.int (numOf w))) := s0
    rw [litAt_c]
    by_cases c : w = ("not" : Str)
    · rw [decide_eq_true (by rw [c])] at q
      rw [if_pos c]
      cases r with
      | nil =>
        have hl : ws.length ≤ at' + 1 := List.drop_eq_nil_iff.mp ed
        rw [List.getElem?_eq_none hl] at s1
        have s1 : f_switch_of [encS ws, .int ((at' : Int) + 1)] = .exc ("BadLine" : Str) := s1
        show f_lit_of [encS ws, .int (at' : Int)] = .exc ("BadLine" : Str)
        simp [f_lit_of, fnE, envOf, g_lit_of, ct, q, s1]
      | cons w2 r2 =>
        have hlt2 : at' + 1 < ws.length := by
          have := congrArg List.length ed
          rw [List.length_drop, List.length_cons] at this
          omega
        have e1 : ws[at' + 1]? = some w2 := by
          have := List.getElem?_drop (xs := ws) (i := at' + 1) (j := 0)
          rw [ed] at this
          simpa using this.symm
        have ed2 : ws.drop (at' + 2) = r2 := by
          rw [show at' + 2 = (at' + 1) + 1 by omega, ← List.drop_drop, ed]
          rfl
        rw [e1] at s1
        have s1 : f_switch_of [encS ws, .int ((at' : Int) + 1)] = if numOf w2 = 0 then .exc ("BadLine" : Str) else .ok (.val (.int (numOf w2))) := s1
        by_cases z : numOf w2 = 0
        · rw [if_pos z] at s1
          show (match (if numOf w2 = 0 then none else some (-numOf w2, r2) : Option (Int × List Str)) with
            | none => f_lit_of [encS ws, .int (at' : Int)] = .exc ("BadLine" : Str)
            | some (l, rest) => _)
          rw [if_pos z]
          simp [f_lit_of, fnE, envOf, g_lit_of, ct, q, s1]
        · rw [if_neg z] at s1
          show (match (if numOf w2 = 0 then none else some (-numOf w2, r2) : Option (Int × List Str)) with
            | none => f_lit_of [encS ws, .int (at' : Int)] = .exc ("BadLine" : Str)
            | some (l, rest) => ∃ k : Nat, f_lit_of [encS ws, .int (at' : Int)] = .ok (.val (.tuple [.int l, .int (k : Int)])) ∧ ws.drop k = rest ∧ k ≤ ws.length)
          rw [if_neg z]
          exact ⟨at' + 2, by simp [f_lit_of, fnE, envOf, g_lit_of, ct, q, s1], ed2, by omega⟩
    · rw [decide_eq_false (fun h => c (by simpa using h))] at q
      rw [if_neg c]
      by_cases z : numOf w = 0
      · rw [if_pos z] at s0 ⊢
        simp [f_lit_of, fnE, envOf, g_lit_of, ct, q, s0]
      · rw [if_neg z] at s0 ⊢
        exact ⟨at' + 1, by simp [f_lit_of, fnE, envOf, g_lit_of, ct, q, s0], ed, by omega⟩
theorem mem_joinL {sep : List Nat} {c : Nat} {p : List Nat} (hc : c ∈ p) : ∀ {parts : List (List Nat)}, p ∈ parts → c ∈ TL.joinL sep parts
  | [], h => by cases h
  | [q], h => by
    rw [List.mem_singleton] at h
    show c ∈ q
    rw [← h]
    exact hc
  | q :: q2 :: r, h => by
    show c ∈ q ++ (sep ++ TL.joinL sep (q2 :: r))
    rcases List.mem_cons.mp h with h | h
    · rw [← h]
      exact List.mem_append_left _ hc
    · exact List.mem_append_right _ (List.mem_append_right _ (mem_joinL hc h))
theorem split_mem {x y p : Str} (hp : p ∈ Txt.split x y) {c : Nat} (hc : c ∈ p.cps.toList) : c ∈ x.cps.toList := by
  have e := StrLaws.join_split x y
  have k := TL.tl_join y (Txt.split x y)
  rw [e] at k
  show c ∈ TL.tl x
  rw [k]
  exact mem_joinL (p := TL.tl p) hc (List.mem_map.mpr ⟨p, hp, rfl⟩)
theorem split_ok {x y : Str} (hx : okS x) (hl : x.length ≤ 1000) : ∀ w ∈ Txt.split x y, okS w ∧ w.length ≤ 1000000 := fun w hw =>
  ⟨okS_of fun c hc => okS_c hx (split_mem hw hc), Nat.le_trans (PyProof.Rows.part_short hw) (by omega)⟩
def retP : Option (List (Int × Int)) → R D
  | none => .exc ("BadLine" : Str)
  | some ps => .ok (.own (ps.map sayE))
theorem f_read_ok {line : Str} (hx : okS line) (hl : line.length ≤ 1000) : f_read [.str line] = retP (readOf (Txt.split line (" " : Str))) := by
  have sp : splitP line (.str (" " : Str)) = .ok (.own ((Txt.split line (" " : Str)).map PyData.str)) := cif_pos ⟨by decide +kernel, by omega⟩
  obtain ⟨ws, ews⟩ : ∃ ws, ws = Txt.split line (" " : Str) := ⟨_, rfl⟩
  have hw : ∀ w ∈ ws, okS w ∧ w.length ≤ 1000000 := by rw [ews]; exact split_ok hx hl
  rw [← ews] at sp ⊢
  have sp2 : onStr splitP (varB 0) (constE (.str (" " : Str))) [some (.val (.str line)), none, none, none, none, none] = .ok (.own (ws.map PyData.str)) := sp
  have L0 := f_litof hw 0
  unfold LitR at L0
  rw [List.drop_zero] at L0
  unfold readOf
  cases e1 : litAt ws with
  | none =>
    rw [e1] at L0
    have L0 : f_lit_of [encS ws, .int 0] = .exc ("BadLine" : Str) := L0
    simp [f_read, fnE, envOf, g_read, sp2, L0, retP]
  | some v =>
    obtain ⟨a, rest⟩ := v
    rw [e1] at L0
    obtain ⟨k, L0, dk, kl⟩ := L0
    have L0 : f_lit_of [encS ws, .int 0] = .ok (.val (.tuple [.int a, .int (k : Int)])) := L0
    cases rest with
    | nil =>
      have ek : k = ws.length := by
        have := List.drop_eq_nil_iff.mp dk
        omega
      simp [f_read, fnE, envOf, g_read, sp2, L0, ek, retP]
    | cons j r =>
      have hlt : k < ws.length := by
        have := congrArg List.length dk
        rw [List.length_drop, List.length_cons] at this
        omega
      have ej : ws[k]? = some j := by
        have := List.getElem?_drop (xs := ws) (i := k) (j := 0)
        rw [dk] at this
        simpa using this.symm
      have dr : ws.drop (k + 1) = r := by
        rw [← List.drop_drop, dk]
        rfl
      have ij : atI (ws.map PyData.str) (k : Int) = some (.str j) := by
        rw [at_map', atI_nat ej]
        rfl
      have nk : ¬ ((k : Int) = (ws.length : Int)) := by omega
      have L1 := f_litof hw (k + 1)
      unfold LitR at L1
      rw [dr, show ((k + 1 : Nat) : Int) = (k : Int) + 1 by omega] at L1
      have okj := (hw j (List.mem_of_getElem? ej)).1
      have q1 := eq_ss okj ok_or
      have q2 := eq_ss okj ok_then
      have q3 := eq_ss okj ok_as
      have q4 := eq_ss okj ok_unlike
      cases e2 : litAt r with
      | none =>
        rw [e2] at L1
        have L1 : f_lit_of [encS ws, .int ((k : Int) + 1)] = .exc ("BadLine" : Str) := L1
        simp [f_read, fnE, envOf, g_read, sp2, L0, nk, ij, L1, e2, retP]
      | some v =>
        obtain ⟨b, r2⟩ := v
        rw [e2] at L1
        obtain ⟨k2, L1, dk2, kl2⟩ := L1
        have L1 : f_lit_of [encS ws, .int ((k : Int) + 1)] = .ok (.val (.tuple [.int b, .int (k2 : Int)])) := L1
        by_cases c : r2 = []
        · have n2 : ¬ ((k2 : Int) < (ws.length : Int)) := by
            rw [c] at dk2
            have := List.drop_eq_nil_iff.mp dk2
            omega
          by_cases c1 : j = ("or" : Str)
          · rw [decide_eq_true c1] at q1
            simp only [e2, c, if_pos c1]
            simp [f_read, fnE, envOf, g_read, sp2, L0, nk, ij, L1, n2, q1, retP]
          · rw [decide_eq_false c1] at q1
            by_cases c2 : j = ("then" : Str)
            · rw [decide_eq_true c2] at q2
              simp only [e2, c, if_neg c1, if_pos c2]
              simp [f_read, fnE, envOf, g_read, sp2, L0, nk, ij, L1, n2, q1, q2, retP]
            · rw [decide_eq_false c2] at q2
              by_cases c3 : j = ("as" : Str)
              · rw [decide_eq_true c3] at q3
                simp only [e2, c, if_neg c1, if_neg c2, if_pos c3]
                simp [f_read, fnE, envOf, g_read, sp2, L0, nk, ij, L1, n2, q1, q2, q3, retP]
              · rw [decide_eq_false c3] at q3
                by_cases c4 : j = ("unlike" : Str)
                · rw [decide_eq_true c4] at q4
                  simp only [e2, c, if_neg c1, if_neg c2, if_neg c3, if_pos c4]
                  simp [f_read, fnE, envOf, g_read, sp2, L0, nk, ij, L1, n2, q1, q2, q3, q4, retP]
                · rw [decide_eq_false c4] at q4
                  simp only [e2, c, if_neg c1, if_neg c2, if_neg c3, if_neg c4]
                  simp [f_read, fnE, envOf, g_read, sp2, L0, nk, ij, L1, n2, q1, q2, q3, q4, retP]
        · have n2 : (k2 : Int) < (ws.length : Int) := by
            have : k2 < ws.length := Classical.byContradiction fun h => c (by rw [← dk2]; exact List.drop_eq_nil_of_le (by omega))
            omega
          simp only [e2, if_pos c, ne_eq, c, not_false_eq_true]
          simp [f_read, fnE, envOf, g_read, sp2, L0, nk, ij, L1, n2, retP]
end
end Px
namespace Px
open PySem L2
noncomputable section
def cNot : List Nat := [110, 111, 116]
theorem T_not : T cNot = ("not" : Str) := by decide +kernel
theorem T_sp : T [32] = (" " : Str) := by decide +kernel
structure NumOk (n : Nat) : Prop where
  sp : 32 ∉ TL.numL n
  num : numOf (T (TL.numL n)) = (n : Int)
  not' : T (TL.numL n) ≠ ("not" : Str)
  len : (TL.numL n).length ≤ 2
  asc : (TL.numL n).all (fun c => decide (c < 128)) = true
theorem num_ok : ∀ n : Nat, 1 ≤ n → n ≤ 60 → NumOk n := by
  have h : ∀ n : Nat, n < 61 → 1 ≤ n → (32 ∉ TL.numL n ∧ numOf (T (TL.numL n)) = (n : Int) ∧ T (TL.numL n) ≠ ("not" : Str) ∧ (TL.numL n).length ≤ 2 ∧ (TL.numL n).all (fun c => decide (c < 128)) = true) := by decide +kernel
  intro n h1 h2
  obtain ⟨a, b, c, d, e⟩ := h n (by omega) h1
  exact ⟨a, b, c, d, e⟩
/-- a literal's words -/
def wl (l : Int) : List (List Nat) := if l < 0 then [cNot, TL.numL l.natAbs] else [TL.numL l.natAbs]
def litTx (l : Int) : List Nat := TL.joinL [32] (wl l)
theorem lit_num {l : Int} (h : LitOk 60 l) : NumOk l.natAbs := num_ok _ (by have := h.1; omega) h.2
theorem wl_ne (l : Int) : wl l ≠ [] := by
  unfold wl
  split <;> simp
theorem wl_sp {l : Int} (h : LitOk 60 l) : ∀ p ∈ wl l, 32 ∉ p := fun p hp => by
  have n := lit_num h
  unfold wl at hp
  split at hp
  · simp only [List.mem_cons, List.not_mem_nil, or_false] at hp
    rcases hp with rfl | rfl
    · decide
    · exact n.sp
  · rw [List.mem_singleton] at hp
    rw [hp]
    exact n.sp
theorem litAt_wl {l : Int} (h : LitOk 60 l) (r : List Str) : litAt ((wl l).map T ++ r) = some (l, r) := by
  have n := lit_num h
  have z : ¬ ((l.natAbs : Int) = 0) := by have := h.1; omega
  unfold wl
  by_cases c : l < 0
  · rw [if_pos c]
    show litAt (T cNot :: T (TL.numL l.natAbs) :: r) = _
    rw [litAt_c, if_pos T_not]
    show (if numOf (T (TL.numL l.natAbs)) = 0 then none else some (-numOf (T (TL.numL l.natAbs)), r)) = _
    rw [n.num, if_neg z, show -(l.natAbs : Int) = l by omega]
  · rw [if_neg c]
    show litAt (T (TL.numL l.natAbs) :: r) = _
    rw [litAt_c, if_neg n.not', n.num, if_neg z, show (l.natAbs : Int) = l by omega]
theorem joinL_app (x y : List (List Nat)) (hx : x ≠ []) (hy : y ≠ []) : TL.joinL [32] (x ++ y) = TL.joinL [32] x ++ ([32] ++ TL.joinL [32] y) := by
  induction x with
  | nil => exact absurd rfl hx
  | cons a x ih =>
    cases x with
    | nil =>
      cases y with
      | nil => exact absurd rfl hy
      | cons b y => rfl
    | cons a2 x =>
      show a ++ ([32] ++ TL.joinL [32] (a2 :: x ++ y)) = (a ++ ([32] ++ TL.joinL [32] (a2 :: x))) ++ _
      rw [ih (by simp)]
      simp
theorem split_T {ps : List (List Nat)} (hne : ps ≠ []) (h : ∀ p ∈ ps, 32 ∉ p) : Txt.split (T (TL.joinL [32] ps)) (" " : Str) = ps.map T := by
  rw [← T_sp, SX.split_S (by simp) (by decide), SX.spl_join hne h]
theorem litTx_len {l : Int} (h : LitOk 60 l) : (litTx l).length ≤ 6 := by
  have n := (lit_num h).len
  unfold litTx wl
  split
  · show (cNot ++ ([32] ++ TL.numL l.natAbs)).length ≤ 6
    simp [cNot]
    omega
  · show (TL.numL l.natAbs).length ≤ 6
    omega
theorem litTx_asc {l : Int} (h : LitOk 60 l) : ∀ c ∈ litTx l, c < 128 := by
  have n := (lit_num h).asc
  rw [List.all_eq_true] at n
  unfold litTx wl
  intro c hc
  split at hc
  · have hc : c ∈ cNot ++ ([32] ++ TL.numL l.natAbs) := hc
    simp only [cNot, List.mem_append, List.mem_cons, List.not_mem_nil, or_false] at hc
    rcases hc with hc | hc | hc
    · omega
    · omega
    · exact of_decide_eq_true (n c hc)
  · exact of_decide_eq_true (n c hc)
theorem okT {l : List Nat} (h : ∀ c ∈ l, c < 128) : okS (T l) := okS_of fun c hc => by
  have := h c (by simpa using hc)
  omega
theorem str_num {n : Nat} (h : n ≤ 60) : strP (.int (n : Int)) = .ok (.str (T (TL.numL n))) := by
  have e : strP (.int (n : Int)) = .ok (.str (Str.ofString (toString (n : Int)))) := cif_pos (by
    have : ((n : Int)).natAbs = n := Int.natAbs_natCast n
    rw [this]
    by_cases z : n = 0
    · subst z; decide
    · exact Nat.lt_trans ((Nat.log2_lt z).mpr (show n < 2 ^ 6 by omega)) (by decide))
  rw [e, SX.num_S]
theorem add_T {a b : List Nat} (h : a.length + b.length ≤ 1000000) : addP (.str (T a)) (.str (T b)) = .ok (.str (T (a ++ b))) := by
  have e : addP (.str (T a)) (.str (T b)) = .ok (.str (T a ++ T b)) := cif_pos (by rw [SX.S_len, SX.S_len]; exact h)
  rw [e, SX.S_cat]
theorem T_not_sp : ("not " : Str) = T [110, 111, 116, 32] := by decide +kernel
theorem f_litshown {l : Int} (h : LitOk 60 l) : f_lit_shown [.int l] = .ok (.val (.str (T (litTx l)))) := by
  have n := (lit_num h).len
  by_cases c : l < 0
  · have e := str_num (n := l.natAbs) h.2
    rw [show ((l.natAbs : Nat) : Int) = -l by omega] at e
    have a := add_T (a := [110, 111, 116, 32]) (b := TL.numL l.natAbs) (by simp; omega)
    have t : litTx l = [110, 111, 116, 32] ++ TL.numL l.natAbs := by
      unfold litTx wl
      rw [if_pos c]
      rfl
    rw [t]
    simp [f_lit_shown, fnE, envOf, g_lit_shown, c, e, T_not_sp, a]
  · have e := str_num (n := l.natAbs) h.2
    rw [show ((l.natAbs : Nat) : Int) = l by omega] at e
    have t : litTx l = TL.numL l.natAbs := by
      unfold litTx wl
      rw [if_neg c]
      rfl
    rw [t]
    simp [f_lit_shown, fnE, envOf, g_lit_shown, c, e]
theorem read_one {l : Int} (h : LitOk 60 l) : f_read [.str (T (litTx l))] = .ok (.own ([(l, l)].map sayE)) := by
  have hl := litTx_len h
  rw [f_read_ok (okT (litTx_asc h)) (by rw [SX.S_len]; omega)]
  unfold litTx
  rw [split_T (wl_ne l) (wl_sp h)]
  have a := litAt_wl h []
  rw [List.append_nil] at a
  unfold readOf
  rw [a]
  rfl
def lineTx (a : Int) (j : List Nat) (b : Int) : List Nat := TL.joinL [32] (wl a ++ ([j] ++ wl b))
theorem lineTx_eq (a : Int) (j : List Nat) (b : Int) : lineTx a j b = litTx a ++ ([32] ++ (j ++ ([32] ++ litTx b))) := by
  unfold lineTx litTx
  rw [joinL_app _ _ (wl_ne a) (by simp), joinL_app _ _ (by simp) (wl_ne b)]
  rfl
theorem read_two {a b : Int} (ha : LitOk 60 a) (hb : LitOk 60 b) {j : List Nat} (hj : 32 ∉ j) (hl : j.length ≤ 10) (hc : ∀ c ∈ j, c < 128) : f_read [.str (T (lineTx a j b))] = retP (if T j = ("or" : Str) then some [(a, b)] else if T j = ("then" : Str) then some [(-a, b)] else if T j = ("as" : Str) then some [(-a, b), (a, -b)] else if T j = ("unlike" : Str) then some [(a, b), (-a, -b)] else none) := by
  have la := litTx_len ha
  have lb := litTx_len hb
  have ok : okS (T (lineTx a j b)) := okT fun c hm => by
    rw [lineTx_eq] at hm
    simp only [List.mem_append, List.mem_singleton] at hm
    rcases hm with hm | hm | hm | hm | hm
    · exact litTx_asc ha c hm
    · omega
    · exact hc c hm
    · omega
    · exact litTx_asc hb c hm
  have len : (T (lineTx a j b)).length ≤ 1000 := by
    rw [SX.S_len, lineTx_eq]
    simp
    omega
  rw [f_read_ok ok len]
  unfold lineTx
  rw [split_T (by simp [wl_ne]) (fun p hp => by
    rw [List.mem_append, List.mem_append, List.mem_singleton] at hp
    rcases hp with hp | hp | hp
    · exact wl_sp ha p hp
    · rw [hp]; exact hj
    · exact wl_sp hb p hp), List.map_append]
  have a1 := litAt_wl ha (([j] ++ wl b).map T)
  unfold readOf
  rw [a1]
  have a2 := litAt_wl hb []
  rw [List.append_nil] at a2
  show retP (match litAt ((wl b).map T) with
    | none => none
    | some (b, r2) => if r2 ≠ [] then none else if T j = ("or" : Str) then some [(a, b)] else if T j = ("then" : Str) then some [(-a, b)] else if T j = ("as" : Str) then some [(-a, b), (a, -b)] else if T j = ("unlike" : Str) then some [(a, b), (-a, -b)] else none) = _
  rw [a2]
  rfl
end
end Px
namespace Px
open PySem L2
noncomputable section
theorem num_loop (d0 : Option D) : ∀ (cs : List Nat) (x : Option D), (cs.all (fun c => decide (c ∈ figs)) = true → ∃ x', forE (tgN 1) l__law_number_1 (cs.map fun c => PyData.str ⟨#[c]⟩) [d0, x] = .next [d0, x']) ∧
    (cs.all (fun c => decide (c ∈ figs)) = false → forE (tgN 1) l__law_number_1 (cs.map fun c => PyData.str ⟨#[c]⟩) [d0, x] = .ret (.val (.int 0)))
  | [], x => ⟨fun _ => ⟨x, rfl⟩, (fun h => by cases h)⟩
  | c :: cs, x => by
    have ih := num_loop d0 cs (some (.val (.str ⟨#[c]⟩)))
    have i := in_figs c
    rw [List.all_cons, List.map_cons, forE_c, tgN_d, out_ok']
    have b : l__law_number_1 (setE [d0, x] 1 (some (.val (.str ⟨#[c]⟩)))) = if c ∈ figs then .next [d0, some (.val (.str ⟨#[c]⟩))] else .ret (.val (.int 0)) := by
      unfold l__law_number_1
      simp only [if_d, op2_d, varB_d, setE_s, setE_z, getE_s, getE_z, slotB_v, bind_ok', constE_d, i, out_ok', ret_d, valF_d, valD_d, skip_d]
      by_cases e : c ∈ figs <;> simp [e]
    rw [b]
    by_cases e : c ∈ figs
    · rw [if_pos e, decide_eq_true e, Bool.true_and]
      exact ih
    · rw [if_neg e, decide_eq_false e, Bool.false_and]
      exact ⟨(fun h => by cases h), fun _ => rfl⟩
theorem f_number {w : Str} (ok : okS w) (hl : w.length ≤ 1000000) : f__law_number [.str w] = .ok (.val (.int (numOf w))) := by
  have q1 := eq_ss ok ok_e
  have ln := len_s hl
  have i0 := ix_s hl 0
  have fs : forStr (varE 0) (tgN 1) l__law_number_1 [some (.val (.str w)), none] = forE (tgN 1) l__law_number_1 (w.cps.toList.map fun c => PyData.str ⟨#[c]⟩) [some (.val (.str w)), none] := rfl
  have lp := num_loop (some (.val (.str w))) w.cps.toList none
  by_cases c1 : w = ("" : Str)
  · have z : numOf w = 0 := by
      unfold numOf badW
      rw [decide_eq_true c1]
      rfl
    rw [z]
    rw [decide_eq_true c1] at q1
    simp [f__law_number, fnE, envOf, g__law_number, q1]
  · rw [decide_eq_false c1] at q1
    by_cases c2 : 2 < w.length
    · have z : numOf w = 0 := by
        unfold numOf badW
        rw [decide_eq_true c2, Bool.or_true]
        rfl
      rw [z]
      simp [f__law_number, fnE, envOf, g__law_number, q1, ln, show (2 : Int) < (w.length : Int) by omega]
    · have ne := str_ne c1
      obtain ⟨c, t, hct⟩ : ∃ c t, w.cps.toList = c :: t := by
        cases h : w.cps.toList with
        | nil => exact absurd h ne
        | cons c t => exact ⟨c, t, rfl⟩
      have a0 : atI w.cps.toList 0 = some c := by
        rw [show (0 : Int) = ((0 : Nat) : Int) from rfl, atI_nat (show w.cps.toList[0]? = some c by rw [hct]; rfl)]
      have okc := okS_1 (okS_c ok (show c ∈ w.cps.toList by rw [hct]; exact List.mem_cons_self))
      have q0 := eq_ss okc ok_0
      rw [a0] at i0
      have n2 : ¬ (2 : Int) < (w.length : Int) := by omega
      have gd : w.cps.toList.getD 0 0 = c := by rw [hct]; rfl
      by_cases c3 : c = 48
      · have z : numOf w = 0 := by
          unfold numOf badW
          rw [gd, decide_eq_true c3, Bool.or_true, Bool.true_or]
          rfl
        rw [z]
        have c3' := (zero_s c).mpr c3
        rw [decide_eq_true c3'] at q0
        simp [f__law_number, fnE, envOf, g__law_number, q1, ln, n2, i0, q0]
      · have c3' : ¬ (⟨#[c]⟩ : Str) = ("0" : Str) := fun h => c3 ((zero_s c).mp h)
        rw [decide_eq_false c3'] at q0
        cases c4 : w.cps.toList.all (fun c => decide (c ∈ figs)) with
        | false =>
          have z : numOf w = 0 := by
            unfold numOf badW
            rw [c4, Bool.not_false, Bool.or_true]
            rfl
          rw [z]
          have l := lp.2 c4
          simp [f__law_number, fnE, envOf, g__law_number, q1, ln, n2, i0, q0, fs, l]
        | true =>
          have g : badW w = false := by
            unfold badW
            rw [decide_eq_false c1, decide_eq_false c2, gd, decide_eq_false c3, c4]
            rfl
          obtain ⟨x', l⟩ := lp.1 c4
          obtain ⟨n, hn, n1⟩ := int_W g
          have iv : intP (.str w) = .ok (.int (n : Int)) := by
            show (match PySem.intText? w with
              | some n => cif (w.length ≤ 640) (R.ok (PyData.int n)) .bad
              | none => .bad) = _
            rw [hn]
            exact cif_pos (by omega)
          have nv : numOf w = if 60 < (n : Int) then 0 else (n : Int) := by
            unfold numOf valW
            rw [g, hn]
            rfl
          by_cases c5 : 60 < (n : Int)
          · rw [nv, if_pos c5]
            simp [f__law_number, fnE, envOf, g__law_number, q1, ln, n2, i0, q0, fs, l, iv, c5]
          · rw [nv, if_neg c5]
            simp [f__law_number, fnE, envOf, g__law_number, q1, ln, n2, i0, q0, fs, l, iv, c5]
/-- what the law takes from the words -/
def takenOf : List Str → Int × List Str
  | [] => (0, [])
  | w :: r => if w = ("not" : Str) then (match r with
    | [] => (0, [])
    | w2 :: r2 => (-numOf w2, r2)) else (numOf w, r)
theorem takenOf_c (w : Str) (r : List Str) : takenOf (w :: r) = if w = ("not" : Str) then (match r with
    | [] => (0, [])
    | w2 :: r2 => (-numOf w2, r2)) else (numOf w, r) := rfl
theorem num_not : numOf ("not" : Str) = 0 := by
  unfold numOf
  rw [show badW ("not" : Str) = true by decide +kernel]
  rfl
theorem taken_lit (ws : List Str) : litAt ws = if (takenOf ws).1 = 0 then none else some (takenOf ws) := by
  cases ws with
  | nil => rfl
  | cons w r =>
    rw [litAt_c]
    by_cases c : w = ("not" : Str)
    · rw [if_pos c]
      cases r with
      | nil =>
        have e : takenOf [w] = (0, []) := by rw [takenOf_c, if_pos c]
        rw [e]
        rfl
      | cons w2 r2 =>
        have e : takenOf (w :: w2 :: r2) = (-numOf w2, r2) := by rw [takenOf_c, if_pos c]
        rw [e]
        show (if numOf w2 = 0 then none else some (-numOf w2, r2)) = if -numOf w2 = 0 then none else some (-numOf w2, r2)
        by_cases z : numOf w2 = 0
        · rw [if_pos z, if_pos (by omega)]
        · rw [if_neg z, if_neg (by omega)]
    · have e : takenOf (w :: r) = (numOf w, r) := by rw [takenOf_c, if_neg c]
      rw [if_neg c, e]
theorem cut_0 {α : Type} (xs : List α) : cutL xs none (some 1) = xs.take 1 := by
  unfold cutL
  rw [HT.sIx_none, show HT.sIx xs.length xs.length (some 1) = min 1 xs.length from HT.sIx_nat _ _ 1, List.drop_zero, Nat.sub_zero]
  cases xs with
  | nil => rfl
  | cons x xs => rw [show min 1 (x :: xs).length = 1 by rw [List.length_cons]; omega]
theorem cut_n {α : Type} (xs : List α) (k : Nat) : cutL xs (some (k : Int)) none = xs.drop k := by
  unfold cutL
  rw [show HT.sIx xs.length 0 (some (k : Int)) = min k xs.length from HT.sIx_nat _ _ _, HT.sIx_none]
  by_cases c : k ≤ xs.length
  · rw [Nat.min_eq_left c]
    exact List.take_of_length_le (by rw [List.length_drop]; exact Nat.le_refl _)
  · rw [Nat.min_eq_right (by omega), List.drop_length, List.drop_eq_nil_of_le (by omega), List.take_nil]
theorem f_taken {ws : List Str} (hw : ∀ w ∈ ws, okS w ∧ w.length ≤ 1000000) : f__law_taken [encS ws] = .ok (.val (.tuple [.int (takenOf ws).1, encS (takenOf ws).2])) := by
  have c0 := cut_map PyData.str ws none (some 1)
  have c1 := cut_map PyData.str ws (some 1) none
  have c2 := cut_map PyData.str ws (some 2) none
  rw [cut_0] at c0
  rw [show (some (1 : Int)) = some ((1 : Nat) : Int) from rfl, cut_n] at c1
  rw [show (some (2 : Int)) = some ((2 : Nat) : Int) from rfl, cut_n] at c2
  have c1 : cutP (ws.map PyData.str) (some 1) none = (ws.drop 1).map PyData.str := c1
  have c2 : cutP (ws.map PyData.str) (some 2) none = (ws.drop 2).map PyData.str := c2
  cases ws with
  | nil =>
    have q := eq_S1 (a := []) (b := ("not" : Str)) (fun s hs => by cases hs) ok_not
    rw [decide_eq_false (by simp)] at q
    simp only [List.take_nil, List.map_nil] at c0 q
    simp [f__law_taken, fnE, envOf, g__law_taken, c0, q, takenOf]
  | cons w r =>
    have okw := hw w List.mem_cons_self
    have nw := f_number okw.1 okw.2
    have q := eq_S1 (a := [w]) (b := ("not" : Str)) (fun s hs => by rw [List.mem_singleton] at hs; rw [hs]; exact okw.1) ok_not
    simp only [List.take_succ_cons, List.take_zero, List.map_cons, List.map_nil] at c0 q
    have i0 : atI (PyData.str w :: r.map PyData.str) 0 = some (.str w) := by
      rw [show (0 : Int) = ((0 : Nat) : Int) from rfl, atI_nat rfl]
    by_cases c : w = ("not" : Str)
    · rw [decide_eq_true (by rw [c])] at q
      cases r with
      | nil =>
        have e : takenOf [w] = (0, []) := by rw [takenOf_c, if_pos c]
        rw [c, num_not] at nw
        rw [e]
        rw [c] at c0 q i0 c1 ⊢
        simp at c0 c1 q i0
        simp [f__law_taken, fnE, envOf, g__law_taken, c0, q, nw, i0, c1]
      | cons w2 r2 =>
        have ok2 := hw w2 (by simp)
        have nw2 := f_number ok2.1 ok2.2
        have e : takenOf (w :: w2 :: r2) = (-numOf w2, r2) := by rw [takenOf_c, if_pos c]
        have i1 : atI (PyData.str w :: PyData.str w2 :: r2.map PyData.str) 1 = some (.str w2) := by
          rw [show (1 : Int) = ((1 : Nat) : Int) from rfl, atI_nat rfl]
        rw [e]
        simp at c0 c2 q
        simp [f__law_taken, fnE, envOf, g__law_taken, c0, q, nw2, i1, c2, show (1 : Int) < (r2.length : Int) + 1 + 1 by omega]
    · rw [decide_eq_false (fun h => c (by simpa using h))] at q
      have e : takenOf (w :: r) = (numOf w, r) := by rw [takenOf_c, if_neg c]
      rw [e]
      simp at c0 c1 q i0
      simp [f__law_taken, fnE, envOf, g__law_taken, c0, q, nw, i0, c1, show (0 : Int) < (r.length : Int) + 1 by omega]
/-- what the law holds right for a line -/
def dueP : Option (List (Int × Int)) → R D
  | none => .ok (.val .none)
  | some ps => .ok (.own (ps.map sayE))
theorem f_due14 {line : Str} (hx : okS line) (hl : line.length ≤ 1000) : f__law_due [.str line] = dueP (readOf (Txt.split line (" " : Str))) := by
  have sp : splitP line (.str (" " : Str)) = .ok (.own ((Txt.split line (" " : Str)).map PyData.str)) := cif_pos ⟨by decide +kernel, by omega⟩
  obtain ⟨ws, ews⟩ : ∃ ws, ws = Txt.split line (" " : Str) := ⟨_, rfl⟩
  have hw : ∀ w ∈ ws, okS w ∧ w.length ≤ 1000000 := by rw [ews]; exact split_ok hx hl
  rw [← ews] at sp ⊢
  have sp2 : onStr splitP (varB 0) (constE (.str (" " : Str))) [some (.val (.str line)), none, none, none, none, none] = .ok (.own (ws.map PyData.str)) := sp
  have t1 := f_taken hw
  have l1 := taken_lit ws
  obtain ⟨a, rest, ea⟩ : ∃ a rest, takenOf ws = (a, rest) := ⟨_, _, rfl⟩
  rw [ea] at t1 l1
  have l1 : litAt ws = if a = 0 then none else some (a, rest) := l1
  have t1 : f__law_taken [encS ws] = .ok (.val (.tuple [.int a, encS rest])) := t1
  unfold readOf
  by_cases z : a = 0
  · rw [l1, if_pos z]
    subst z
    show _ = dueP none
    simp [f__law_due, fnE, envOf, g__law_due, sp2, t1, dueP]
  · rw [l1, if_neg z]
    cases rest with
    | nil =>
      show _ = dueP (some [(a, a)])
      simp [f__law_due, fnE, envOf, g__law_due, sp2, t1, dueP, z]
    | cons j r =>
      have hr : ∀ w ∈ j :: r, okS w ∧ w.length ≤ 1000000 := fun w hm => by
        have sub : ∀ {ws : List Str} {w : Str}, w ∈ (takenOf ws).2 → w ∈ ws := fun {ws w} h => by
          cases ws with
          | nil => exact h
          | cons x y =>
            rw [takenOf_c] at h
            by_cases c : x = ("not" : Str)
            · rw [if_pos c] at h
              cases y with
              | nil => cases h
              | cons x2 y2 => exact List.mem_cons_of_mem _ (List.mem_cons_of_mem _ h)
            · rw [if_neg c] at h
              exact List.mem_cons_of_mem _ h
        exact hw w (sub (by rw [ea]; exact hm))
      have cr := cut_map PyData.str (j :: r) (some 1) none
      rw [cut_1] at cr
      simp only [List.map_cons, List.drop_succ_cons, List.drop_zero] at cr
      have t2 := f_taken fun w hm => hr w (List.mem_cons_of_mem _ hm)
      have l2 := taken_lit r
      obtain ⟨b, r2, eb⟩ : ∃ b r2, takenOf r = (b, r2) := ⟨_, _, rfl⟩
      rw [eb] at t2 l2
      have l2 : litAt r = if b = 0 then none else some (b, r2) := l2
      have t2 : f__law_taken [encS r] = .ok (.val (.tuple [.int b, encS r2])) := t2
      have okj := (hr j List.mem_cons_self).1
      have q1 := eq_ss okj ok_or
      have q2 := eq_ss okj ok_then
      have q3 := eq_ss okj ok_as
      have q4 := eq_ss okj ok_unlike
      have ij : atI (PyData.str j :: r.map PyData.str) 0 = some (.str j) := by
        rw [show (0 : Int) = ((0 : Nat) : Int) from rfl, atI_nat rfl]
      have nz : ¬ ((r.length : Int) + 1 = 0) := by omega
      by_cases z2 : b = 0
      · simp only [l2, if_pos z2]
        subst z2
        simp [f__law_due, fnE, envOf, g__law_due, sp2, t1, dueP, z, cr, t2, nz]
      · simp only [l2, if_neg z2]
        by_cases c : r2 = []
        · subst c
          by_cases c1 : j = ("or" : Str)
          · rw [decide_eq_true c1] at q1
            simp only [if_pos c1]
            simp [f__law_due, fnE, envOf, g__law_due, sp2, t1, dueP, z, z2, cr, t2, nz, ij, q1]
          · rw [decide_eq_false c1] at q1
            by_cases c2 : j = ("then" : Str)
            · rw [decide_eq_true c2] at q2
              simp only [if_neg c1, if_pos c2]
              simp [f__law_due, fnE, envOf, g__law_due, sp2, t1, dueP, z, z2, cr, t2, nz, ij, q1, q2]
            · rw [decide_eq_false c2] at q2
              by_cases c3 : j = ("as" : Str)
              · rw [decide_eq_true c3] at q3
                simp only [if_neg c1, if_neg c2, if_pos c3]
                simp [f__law_due, fnE, envOf, g__law_due, sp2, t1, dueP, z, z2, cr, t2, nz, ij, q1, q2, q3]
              · rw [decide_eq_false c3] at q3
                by_cases c4 : j = ("unlike" : Str)
                · rw [decide_eq_true c4] at q4
                  simp only [if_neg c1, if_neg c2, if_neg c3, if_pos c4]
                  simp [f__law_due, fnE, envOf, g__law_due, sp2, t1, dueP, z, z2, cr, t2, nz, ij, q1, q2, q3, q4]
                · rw [decide_eq_false c4] at q4
                  simp only [if_neg c1, if_neg c2, if_neg c3, if_neg c4]
                  simp [f__law_due, fnE, envOf, g__law_due, sp2, t1, dueP, z, z2, cr, t2, nz, ij, q1, q2, q3, q4]
        · have pos : 0 < r2.length := List.length_pos_iff.mpr c
          simp only [if_pos c, ne_eq, c, not_false_eq_true]
          simp [f__law_due, fnE, envOf, g__law_due, sp2, t1, dueP, z, z2, cr, t2, nz, pos]
def gotP : Option (List (Int × Int)) → PD
  | none => .tuple [.bool false, .bool true]
  | some ps => .tuple [.bool true, encP ps]
def dueV : Option (List (Int × Int)) → PD
  | none => .none
  | some ps => encP ps
theorem f_lawread {line : Str} (hx : okS line) (hl : line.length ≤ 1000) : f__law_read [.str line] = .ok (.val (gotP (readOf (Txt.split line (" " : Str))))) := by
  have r := f_read_ok hx hl
  cases e : readOf (Txt.split line (" " : Str)) with
  | none =>
    rw [e] at r
    have r : f_read [.str line] = .exc ("BadLine" : Str) := r
    have t : tryS (setS 1 (valF (fzE (callE f_read (argsE [varE 0]))))) ("BadLine" : Str) (.tuple [.bool false, .bool true]) [some (.val (.str line)), none, none, none] = .ret (.val (.tuple [.bool false, .bool true])) := by
      unfold tryS
      rw [show setS 1 (valF (fzE (callE f_read (argsE [varE 0])))) [some (.val (.str line)), none, none, none] = .exc ("BadLine" : Str) by simp [r]]
      exact cif_pos rfl
    simp [f__law_read, fnE, envOf, g__law_read, t, gotP]
  | some ps =>
    rw [e] at r
    have r : f_read [.str line] = .ok (.own (ps.map sayE)) := r
    have t : tryS (setS 1 (valF (fzE (callE f_read (argsE [varE 0]))))) ("BadLine" : Str) (.tuple [.bool false, .bool true]) [some (.val (.str line)), none, none, none] = .next [some (.val (.str line)), some (.val (encP ps)), none, none] := by
      unfold tryS
      rw [show setS 1 (valF (fzE (callE f_read (argsE [varE 0])))) [some (.val (.str line)), none, none, none] = .next [some (.val (.str line)), some (.val (encP ps)), none, none] by simp [r]]
    simp [f__law_read, fnE, envOf, g__law_read, t, gotP]
theorem whole14 (i : Int) : f__law_whole_k13 [.int i] = .ok (.val (.bool true)) := f_whole i
theorem eq_FT : eqP (.tuple [.bool false, .bool true]) (.tuple [.bool false, .bool true]) = .ok true := by
  have h : eqP (.tuple [.bool false, .bool true]) (.tuple [.bool false, .bool true]) = .ok (PyData.eqv (.tuple [.bool false, .bool true]) (.tuple [.bool false, .bool true])) := cif_pos ⟨by decide +kernel, by decide +kernel⟩
  rw [h, show PyData.eqv (.tuple [.bool false, .bool true]) (.tuple [.bool false, .bool true]) = true by decide +kernel]
theorem f_right14 (v : Option (List (Int × Int))) : f__law_right_k14 [gotP v, dueV v] = .ok (.val (.bool true)) := by
  cases v with
  | none =>
    unfold gotP dueV
    simp [f__law_right_k14, fnE, envOf, g__law_right_k14, eq_FT]
  | some p =>
    unfold gotP dueV
    have k := forE_ix (tg := tgN 2) (g := l__law_right_k14_1) (enc := sayE) (fun _ => False) p (fun i L => ∃ x, L = [some (.val (.tuple [.bool true, encP p])), some (.val (encP p)), x]) [some (.val (.tuple [.bool true, encP p])), some (.val (encP p)), none] (fun i L a ha ⟨x, eL⟩ => by
      subst eL
      exact ⟨_, rfl, .inl ⟨[some (.val (.tuple [.bool true, encP p])), some (.val (encP p)), some (.val (sayE a))], .inl (by simp [l__law_right_k14_1, whole14]), _, rfl⟩⟩) ⟨none, rfl⟩
    rcases k with ⟨L', e, x, eL⟩ | ⟨d, _, q⟩
    · subst eL
      simp only [encP] at e
      simp [f__law_right_k14, fnE, envOf, g__law_right_k14, e]
    · exact q.elim
end
end Px
namespace Px
open PySem L2
noncomputable section
theorem cell14 : f__law_cell_at_k13 = f__law_cell_at := rfl
/-- a short text of plain signs -/
def Sml (n : Nat) (l : List Nat) : Prop := l.length ≤ n ∧ ∀ c ∈ l, c < 128
theorem Sml.app {a b : Nat} {x y : List Nat} (hx : Sml a x) (hy : Sml b y) : Sml (a + b) (x ++ y) := ⟨by rw [List.length_append]; exact Nat.add_le_add hx.1 hy.1, fun c hc => by
  rcases List.mem_append.mp hc with h | h
  · exact hx.2 c h
  · exact hy.2 c h⟩
theorem Sml.mono {a b : Nat} {x : List Nat} (h : Sml a x) (hab : a ≤ b) : Sml b x := ⟨Nat.le_trans h.1 hab, h.2⟩
theorem num_sml : ∀ n : Nat, n < 70 → Sml 2 (TL.numL n) := by
  have h : ∀ n : Nat, n < 70 → ((TL.numL n).length ≤ 2 ∧ (TL.numL n).all (fun c => decide (c < 128)) = true) := by decide +kernel
  intro n hn
  obtain ⟨a, b⟩ := h n hn
  rw [List.all_eq_true] at b
  exact ⟨a, fun c hc => of_decide_eq_true (b c hc)⟩
theorem str_num70 {n : Nat} (h : n < 70) : strP (.int (n : Int)) = .ok (.str (T (TL.numL n))) := by
  have e : strP (.int (n : Int)) = .ok (.str (Str.ofString (toString (n : Int)))) := cif_pos (by
    have : ((n : Int)).natAbs = n := Int.natAbs_natCast n
    rw [this]
    by_cases z : n = 0
    · subst z; decide
    · exact Nat.lt_trans ((Nat.log2_lt z).mpr (show n < 2 ^ 7 by omega)) (by decide))
  rw [e, SX.num_S]
def sg1 : List Nat := (" !\"#$&'()*+,-./0123456789:;<=>?@ABCDEFGHIJKLMNOPQRSTUVWXYZ[\\]^_`" : Str).cps.toList
def sg2 : List Nat := ("abcdefghijklmnopqrstuvwxyz{|}~" : Str).cps.toList
theorem sg1_T : (" !\"#$&'()*+,-./0123456789:;<=>?@ABCDEFGHIJKLMNOPQRSTUVWXYZ[\\]^_`" : Str) = T sg1 := (SX.S_tl _).symm
theorem sg2_T : ("abcdefghijklmnopqrstuvwxyz{|}~" : Str) = T sg2 := (SX.S_tl _).symm
theorem sg_len : (sg1 ++ sg2).length = 94 := by decide +kernel
theorem sg_asc : (sg1 ++ sg2).all (fun c => decide (c < 128)) = true := by decide +kernel
theorem ix_T {l : List Nat} (hl : l.length ≤ 1000000) {i : Nat} (hi : i < l.length) : ixP (.str (T l)) (.int (i : Int)) = .ok (.str (T [l[i]])) := by
  rw [ix_s (by rw [SX.S_len]; exact hl)]
  show ofO _ (atI l (i : Int)) = _
  rw [at_nat hi]
  rfl
theorem f_word (c : Int) : ∃ l, f__law_word_by [.int c] = .ok (.val (.str (T l))) ∧ Sml 6 l := by
  obtain ⟨w, ew, hw⟩ := mod_nat c (n := 16) (by decide)
  obtain ⟨n1, e1, h1⟩ := mod_nat (c / 16) (n := 70) (by decide)
  obtain ⟨n2, e2, h2⟩ := mod_nat (c / 32) (n := 70) (by decide)
  obtain ⟨n3, e3, h3⟩ := mod_nat (c / 3) (n := 10) (by decide)
  obtain ⟨b, eb, hb⟩ := mod_nat (c / 16) (n := 2) (by decide)
  obtain ⟨s1, es1, hs1⟩ := mod_nat (c / 2240) (n := 94) (by decide)
  obtain ⟨s2, es2, hs2⟩ := mod_nat (c / 32) (n := 94) (by decide)
  have t1 := str_num70 (n := n1) (by omega)
  have t2 := str_num70 (n := n2) (by omega)
  have t3 := str_num70 (n := n3) (by omega)
  have m1 := num_sml n1 (by omega)
  have m2 := num_sml n2 (by omega)
  have m3 := num_sml n3 (by omega)
  have sl := sg_len
  have sa := sg_asc
  rw [List.all_eq_true] at sa
  have asc : ∀ (i : Nat) (h : i < (sg1 ++ sg2).length), Sml 1 [(sg1 ++ sg2)[i]] := fun i h => ⟨Nat.le_refl _, fun c hc => by
    rw [List.mem_singleton] at hc
    rw [hc]
    exact of_decide_eq_true (sa _ (List.getElem_mem h))⟩
  have l1 : sg1.length + sg2.length ≤ 1000000 := by rw [← List.length_append, sl]; decide
  have a12 := add_T (a := sg1) (b := sg2) l1
  have i1 := ix_T (l := sg1 ++ sg2) (by rw [sl]; decide) (i := s1) (by rw [sl]; omega)
  have i2 := ix_T (l := sg1 ++ sg2) (by rw [sl]; decide) (i := s2) (by rw [sl]; omega)
  have z0 : ("0" : Str) = T [48] := by decide +kernel
  have z1 : ("+-" : Str) = T [43, 45] := by decide +kernel
  have ib := ix_T (l := [43, 45]) (by decide) (i := b) (by simp; omega)
  have ml : n1 < 70 := by omega
  by_cases c1 : w < 6
  · have tw : ∃ l, ixP (.list [.str ("not" : Str), .str ("or" : Str), .str ("then" : Str), .str ("as" : Str), .str ("unlike" : Str), .str ("and" : Str)]) (.int (w : Int)) = .ok (.str (T l)) ∧ Sml 6 l := by
      have sm : ∀ {l : List Nat}, l.length ≤ 6 → l.all (fun c => decide (c < 128)) = true → Sml 6 l := fun {l} h k => ⟨h, fun c hc => of_decide_eq_true (List.all_eq_true.mp k c hc)⟩
      have w6 : w = 0 ∨ w = 1 ∨ w = 2 ∨ w = 3 ∨ w = 4 ∨ w = 5 := by omega
      rcases w6 with rfl | rfl | rfl | rfl | rfl | rfl
      · exact ⟨_, by rw [← SX.S_tl ("not" : Str)]; rfl, sm (by decide +kernel) (by decide +kernel)⟩
      · exact ⟨_, by rw [← SX.S_tl ("or" : Str)]; rfl, sm (by decide +kernel) (by decide +kernel)⟩
      · exact ⟨_, by rw [← SX.S_tl ("then" : Str)]; rfl, sm (by decide +kernel) (by decide +kernel)⟩
      · exact ⟨_, by rw [← SX.S_tl ("as" : Str)]; rfl, sm (by decide +kernel) (by decide +kernel)⟩
      · exact ⟨_, by rw [← SX.S_tl ("unlike" : Str)]; rfl, sm (by decide +kernel) (by decide +kernel)⟩
      · exact ⟨_, by rw [← SX.S_tl ("and" : Str)]; rfl, sm (by decide +kernel) (by decide +kernel)⟩
    obtain ⟨l, el, ml⟩ := tw
    rw [ix_l] at el
    exact ⟨l, by simp [f__law_word_by, fnE, envOf, g__law_word_by, mod_n, ew, show (w : Int) < 6 by omega, el], ml⟩
  · have c1' : ¬ (w : Int) < 6 := by omega
    by_cases c2 : w < 13
    · exact ⟨_, by simp [f__law_word_by, fnE, envOf, g__law_word_by, mod_n, div_n, ew, c1', show (w : Int) < 13 by omega, e1, t1] <;> rfl, m1.mono (by decide)⟩
    · have c2' : ¬ (w : Int) < 13 := by omega
      by_cases c3 : w = 13
      · have a := add_T (a := [48]) (b := TL.numL n1) (by have := m1.1; simp; omega)
        exact ⟨[48] ++ TL.numL n1, by simp [f__law_word_by, fnE, envOf, g__law_word_by, mod_n, div_n, ew, c1', c2', c3, e1, t1, z0, a], ((show Sml 1 [48] from ⟨by decide, by decide⟩).app m1).mono (by decide)⟩
      · have c3' : ¬ (w : Int) = 13 := by omega
        by_cases c4 : w = 14
        · have a := add_T (a := [[43, 45][b]'(by simp; omega)]) (b := TL.numL n2) (by have := m2.1; simp; omega)
          have sb : Sml 1 [[43, 45][b]'(by simp; omega)] := ⟨Nat.le_refl _, fun c hc => by
            rw [List.mem_singleton] at hc
            have b2 : b = 0 ∨ b = 1 := by omega
            rcases b2 with rfl | rfl <;> (simp at hc; omega)⟩
          exact ⟨_, by simp only [f__law_word_by, fnE, envOf, g__law_word_by]; simp [mod_n, div_n, ew, c1', c2', c4, eb, z1, ib, e2, t2, a] <;> rfl, (sb.app m2).mono (by decide)⟩
        · have c4' : ¬ (w : Int) = 14 := by omega
          by_cases c5 : b = 1
          · have a1 := add_T (a := TL.numL n2) (b := [(sg1 ++ sg2)[s1]'(by rw [sl]; omega)]) (by have := m2.1; simp; omega)
            have a2 := add_T (a := TL.numL n2 ++ [(sg1 ++ sg2)[s1]'(by rw [sl]; omega)]) (b := TL.numL n3) (by have := m2.1; have := m3.1; simp; omega)
            have eb1 : c / 16 % 2 = 1 := by rw [eb, c5]; rfl
            exact ⟨_, by simp [f__law_word_by, fnE, envOf, g__law_word_by, mod_n, div_n, ew, c1', c2', c3', c4', sg1_T, sg2_T, a12, eb1, e2, t2, es1, i1, e3, t3, a1, a2] <;> rfl, ((m2.app (asc s1 (by rw [sl]; omega))).app m3).mono (by decide)⟩
          · have eb0 : ¬ c / 16 % 2 = 1 := by rw [eb]; omega
            exact ⟨_, by simp [f__law_word_by, fnE, envOf, g__law_word_by, mod_n, div_n, ew, c1', c2', c3', c4', sg1_T, sg2_T, a12, eb0, es2, i2] <;> rfl, (asc s2 (by rw [sl]; omega)).mono (by decide)⟩
theorem strsOf_map : ∀ ws : List Str, strsOf (ws.map PyData.str) = some ws
  | [] => rfl
  | w :: ws => by
    show (strsOf (ws.map PyData.str)).map (fun r => w :: r) = _
    rw [strsOf_map ws]
    rfl
theorem joinL_len : ∀ (ps : List (List Nat)) (n : Nat), (∀ p ∈ ps, p.length ≤ n) → (TL.joinL [32] ps).length ≤ ps.length * (n + 1)
  | [], n, h => Nat.zero_le _
  | [p], n, h => by
    have := h p List.mem_cons_self
    show p.length ≤ _
    simp
    omega
  | p :: q :: r, n, h => by
    have h1 := h p List.mem_cons_self
    have ih := joinL_len (q :: r) n fun x hx => h x (List.mem_cons_of_mem _ hx)
    show (p ++ ([32] ++ TL.joinL [32] (q :: r))).length ≤ _
    rw [List.length_append, List.length_append, List.length_cons (a := p), Nat.succ_mul]
    simp only [List.length_singleton]
    omega
theorem joinL_asc : ∀ (ps : List (List Nat)), (∀ p ∈ ps, ∀ c ∈ p, c < 128) → ∀ c ∈ TL.joinL [32] ps, c < 128
  | [], h, c, hc => by cases hc
  | [p], h, c, hc => h p List.mem_cons_self c hc
  | p :: q :: r, h, c, hc => by
    have hc : c ∈ p ++ ([32] ++ TL.joinL [32] (q :: r)) := hc
    rw [List.mem_append, List.mem_append, List.mem_singleton] at hc
    rcases hc with hc | hc | hc
    · exact h p List.mem_cons_self c hc
    · omega
    · exact joinL_asc (q :: r) (fun x hx => h x (List.mem_cons_of_mem _ hx)) c hc
theorem sum_len : ∀ (ps : List (List Nat)), (∀ p ∈ ps, p.length ≤ 6) → ((ps.map T).map (·.length)).sum ≤ 6 * ps.length
  | [], _ => Nat.le_refl _
  | p :: ps, h => by
    have ih := sum_len ps fun x hx => h x (List.mem_cons_of_mem _ hx)
    have h1 := h p List.mem_cons_self
    rw [List.map_cons, List.map_cons, List.sum_cons, List.length_cons, SX.S_len]
    omega
/-- joined words -/
theorem f_join {ps : List (List Nat)} (h : ∀ p ∈ ps, Sml 6 p) (hl : ps.length ≤ 7) : joinP (" " : Str) (.list ((ps.map T).map PyData.str)) = .ok (.str (T (TL.joinL [32] ps))) ∧ Sml 49 (TL.joinL [32] ps) := by
  constructor
  · show (match strsOf ((ps.map T).map PyData.str) with
      | some ys => cif ((ys.map (fun (w : Str) => w.length)).sum + ys.length * (" " : Str).length ≤ 1000000) (R.ok (PyData.str (Txt.join (" " : Str) ys))) .bad
      | none => .bad) = _
    rw [strsOf_map]
    have s := sum_len ps fun p hp => (h p hp).1
    have e1 : (" " : Str).length = 1 := by decide +kernel
    have c : ((ps.map T).map (·.length)).sum + (ps.map T).length * (" " : Str).length ≤ 1000000 := by
      rw [e1, List.length_map]
      omega
    show cif _ _ _ = _
    rw [cif_pos c, ← T_sp, SX.join_S]
  · refine ⟨Nat.le_trans (joinL_len ps 6 fun p hp => (h p hp).1) ?_, joinL_asc ps fun p hp => (h p hp).2⟩
    have := Nat.mul_le_mul_right 7 hl
    omega
theorem cutS_T (l : List Nat) (lo hi : Option Int) : L2.cutS (T l) lo hi = T (cutL l lo hi) := by
  unfold L2.cutS cutL
  rw [SX.S_len]
theorem Sml.cut {n : Nat} {l : List Nat} (h : Sml n l) (lo hi : Option Int) : Sml n (cutL l lo hi) := ⟨Nat.le_trans (cut_len l lo hi) h.1, fun c hc => h.2 c (cut_mem hc)⟩
theorem slS_T {fa : Env → R PD} {fl fh : Env → R (Option Int)} {L : Env} {l : List Nat} {lo hi : Option Int} (ha : fa L = .ok (.str (T l))) (hl : fl L = .ok lo) (hh : fh L = .ok hi) (h : l.length ≤ 1000000) : sliceS fa fl fh L = .ok (.str (T (cutL l lo hi))) := by
  unfold sliceS
  rw [ha, hl, hh]
  show cif _ _ _ = _
  rw [cif_pos (by rw [SX.S_len]; exact h), cutS_T]
theorem joint_ok (c : Int) : ∃ l, ixP (.list [.str ("or" : Str), .str ("then" : Str), .str ("as" : Str), .str ("unlike" : Str), .str ("and" : Str)]) (.int (c % 5)) = .ok (.str (T l)) ∧ Sml 6 l := by
  obtain ⟨w, ew, hw⟩ := mod_nat c (n := 5) (by decide)
  rw [ew]
  have sm : ∀ {l : List Nat}, l.length ≤ 6 → l.all (fun c => decide (c < 128)) = true → Sml 6 l := fun {l} h k => ⟨h, fun c hc => of_decide_eq_true (List.all_eq_true.mp k c hc)⟩
  have w6 : w = 0 ∨ w = 1 ∨ w = 2 ∨ w = 3 ∨ w = 4 := by omega
  rcases w6 with rfl | rfl | rfl | rfl | rfl
  · exact ⟨_, by rw [← SX.S_tl ("or" : Str)]; rfl, sm (by decide +kernel) (by decide +kernel)⟩
  · exact ⟨_, by rw [← SX.S_tl ("then" : Str)]; rfl, sm (by decide +kernel) (by decide +kernel)⟩
  · exact ⟨_, by rw [← SX.S_tl ("as" : Str)]; rfl, sm (by decide +kernel) (by decide +kernel)⟩
  · exact ⟨_, by rw [← SX.S_tl ("unlike" : Str)]; rfl, sm (by decide +kernel) (by decide +kernel)⟩
  · exact ⟨_, by rw [← SX.S_tl ("and" : Str)]; rfl, sm (by decide +kernel) (by decide +kernel)⟩
theorem pure_k14 (ns : List Int) (_ : ns.length ≤ 63) : f_law_k14 [scr ns] = .ok (.val (.bool true)) := by
  obtain ⟨q, eq, hq⟩ := mod_nat (cellAt ns 0) (n := 7) (by decide)
  simp only [f_law_k14, fnE, envOf, List.length_cons, List.length_nil, if_pos, List.map_cons, List.map_nil]
  unfold g_law_k14
  rw [cell14]
  refine seq_to (L' := [some (.val (scr ns)), some (.own []), none, none, none, none, none, none]) (by simp) ?_
  refine seq_ex (fun L => ∃ (ps : List (List Nat)) (x : Option D), (∀ p ∈ ps, Sml 6 p) ∧ ps.length ≤ 7 ∧ L = [some (.val (scr ns)), some (.own ((ps.map T).map PyData.str)), x, none, none, none, none, none]) ?_ ?_
  · have k := forE_rng (tg := tgN 2) (g := l_law_k14_1) (fun _ => False) q 0 (fun i L => ∃ (ps : List (List Nat)) (x : Option D), (∀ p ∈ ps, Sml 6 p) ∧ ps.length = i ∧ L = [some (.val (scr ns)), some (.own ((ps.map T).map PyData.str)), x, none, none, none, none, none])
      [some (.val (scr ns)), some (.own []), none, none, none, none, none, none] (fun i L hi ⟨ps, x, hp, hl, eL⟩ => by
        subst eL
        obtain ⟨l, el, sl⟩ := f_word (cellAt ns (2 + (0 + (i : Int))).toNat)
        have cl := f_cellI ns (show 0 ≤ 2 + (0 + (i : Int)) by omega)
        refine ⟨_, rfl, .inl ⟨[some (.val (scr ns)), some (.own (((ps ++ [l]).map T).map PyData.str)), some (.val (.int (0 + (i : Int)))), none, none, none, none, none], .inl ?_, _, _, fun p hm => ?_, ?_, rfl⟩⟩
        · simp only [Int.zero_add] at cl el ⊢
          unfold l_law_k14_1
          rw [cell14]
          simp [cl, el, show ps.length < 1000000 by omega]
        · rcases List.mem_append.mp hm with hm | hm
          · exact hp p hm
          · rw [List.mem_singleton] at hm
            rw [hm]
            exact sl
        · rw [List.length_append, List.length_singleton, hl]) ⟨[], none, (fun p hp => by cases hp), rfl, rfl⟩
    rcases k with ⟨L', e, ps, x, h1, h2, eL⟩ | ⟨d, _, z⟩
    · exact ⟨L', by simp [f_cellI, mod_n, eq, rngN (show q ≤ 1000000 by omega)]; exact e, ps, x, h1, by omega, eL⟩
    · exact z.elim
  rintro L ⟨ps, x, hp, lp, rfl⟩
  obtain ⟨j1, sl⟩ := f_join hp lp
  obtain ⟨l, el⟩ : ∃ l, l = TL.joinL [32] ps := ⟨_, rfl⟩
  rw [← el] at j1 sl
  have on1 : onStr joinP (constE (.str (" " : Str))) (varB 1) [some (.val (scr ns)), some (.own ((ps.map T).map PyData.str)), x, none, none, none, none, none] = .ok (.str (T l)) := j1
  refine seq_to (L' := [some (.val (scr ns)), some (.own ((ps.map T).map PyData.str)), x, some (.val (.str (T l))), none, none, none, none]) (by rw [set_d, valF_d, on1]; rfl) ?_
  obtain ⟨W, eW⟩ : ∃ W, W = (some (.own ((ps.map T).map PyData.str)) : Option D) := ⟨_, rfl⟩
  rw [← eW]
  refine seq_ex (fun L => ∃ (l : List Nat) (y : Option D), Sml 99 l ∧ L = [some (.val (scr ns)), W, x, some (.val (.str (T l))), y, none, none, none]) ?_ ?_
  · by_cases c1 : cellAt ns 0 / 7 % 8 = 1
    · obtain ⟨i, ei, hi⟩ := mod_at (cellAt ns 1) (n := l.length + 1) (by omega)
      rw [show ((l.length + 1 : Nat) : Int) = (l.length : Int) + 1 by omega] at ei
      have s1 := sl.cut none (some (i : Int))
      have s2 := sl.cut (some (i : Int)) none
      have a1 := add_T (a := cutL l none (some (i : Int))) (b := [32]) (by have := s1.1; simp; omega)
      have a2 := add_T (a := cutL l none (some (i : Int)) ++ [32]) (b := cutL l (some (i : Int)) none) (by have := s1.1; have := s2.1; simp; omega)
      have ln := len_s (z := T l) (by rw [SX.S_len]; have := sl.1; omega)
      rw [SX.S_len] at ln
      have k1 := slS_T (fa := varB 3) (fl := noPart) (fh := partE (varB 4)) (L := [some (.val (scr ns)), W, x, some (.val (.str (T l))), some (.val (.int (i : Int))), none, none, none]) rfl rfl rfl (show l.length ≤ 1000000 by have := sl.1; omega)
      have k2 := slS_T (fa := varB 3) (fl := partE (varB 4)) (fh := noPart) (L := [some (.val (scr ns)), W, x, some (.val (.str (T l))), some (.val (.int (i : Int))), none, none, none]) rfl rfl rfl (show l.length ≤ 1000000 by have := sl.1; omega)
      refine ⟨[some (.val (scr ns)), W, x, some (.val (.str (T (cutL l none (some (i : Int)) ++ [32] ++ cutL l (some (i : Int)) none)))), some (.val (.int (i : Int))), none, none, none], ?_, _, _, ((s1.app (show Sml 1 [32] from ⟨by decide, by decide⟩)).app s2).mono (by decide), rfl⟩
      simp [f_cellI, mod_n, div_n, c1, ln, mod_n (show 0 < (l.length : Int) + 1 by omega), ei, k1, k2, ← T_sp, a1, a2]
    · exact ⟨[some (.val (scr ns)), W, x, some (.val (.str (T l))), none, none, none, none], by simp [f_cellI, mod_n, div_n, c1], l, none, sl.mono (by decide), rfl⟩
  rintro L ⟨l, y, sl, rfl⟩
  refine seq_ex (fun L => ∃ (l : List Nat) (w u v : Option D), Sml 99 l ∧ L = [some (.val (scr ns)), w, x, some (.val (.str (T l))), y, u, v, none]) ?_ ?_
  · by_cases c1 : cellAt ns 0 / 56 % 3 = 1
    · obtain ⟨c, ec⟩ : ∃ c, c = cellAt ns 1 := ⟨_, rfl⟩
      obtain ⟨n1, e1, h1⟩ := mod_nat c (n := 70) (by decide)
      obtain ⟨n2, e2, h2⟩ := mod_nat (c / 70) (n := 70) (by decide)
      obtain ⟨j, ej, sj⟩ := joint_ok (cellAt ns 2)
      obtain ⟨w, ew, sw⟩ := f_word (cellAt ns 3)
      have t1 := str_num70 (n := n1) (by omega)
      have t2 := str_num70 (n := n2) (by omega)
      have m1 := num_sml n1 (by omega)
      have m2 := num_sml n2 (by omega)
      obtain ⟨k, ek⟩ : ∃ k, k = 1 + c / 4900 % 5 := ⟨_, rfl⟩
      have all : ∀ p ∈ [TL.numL n1, j, cNot, TL.numL n2, w], Sml 6 p := fun p hm => by
        simp only [List.mem_cons, List.not_mem_nil, or_false] at hm
        rcases hm with rfl | rfl | rfl | rfl | rfl
        · exact m1.mono (by decide)
        · exact sj
        · exact ⟨by decide, by decide⟩
        · exact m2.mono (by decide)
        · exact sw
      have lc := cut_len [TL.numL n1, j, cNot, TL.numL n2, w] none (some k)
      obtain ⟨j2, s2⟩ := f_join (ps := cutL [TL.numL n1, j, cNot, TL.numL n2, w] none (some k)) (fun p hm => all p (cut_mem hm)) (Nat.le_trans lc (by simp))
      have ct := cut_map (fun p => PyData.str (T p)) [TL.numL n1, j, cNot, TL.numL n2, w] none (some k)
      rw [List.map_map] at j2
      have ct2 : cutP [.str (T (TL.numL n1)), .str (T j), .str (T cNot), .str (T (TL.numL n2)), .str (T w)] none (some k) = (cutL [TL.numL n1, j, cNot, TL.numL n2, w] none (some k)).map (PyData.str ∘ T) := ct
      have on2 : onStr joinP (constE (.str (" " : Str))) (fzE (sliceL (varB 1) (noPart) (partE (op2 addP (constE (.int 1)) (op2 modP (op2 divP (varB 5) (constE (.int 4900))) (constE (.int 5))))))) [some (.val (scr ns)), some (.own [.str (T (TL.numL n1)), .str (T j), .str (T cNot), .str (T (TL.numL n2)), .str (T w)]), x, some (.val (.str (T l))), y, some (.val (.int c)), some (.val (.str (T j))), none] = .ok (.str (T (TL.joinL [32] (cutL [TL.numL n1, j, cNot, TL.numL n2, w] none (some k))))) := by
        unfold onStr
        simp [mod_n, div_n, ← ek, ct2]
        exact j2
      rw [ix_l] at ej
      refine ⟨[some (.val (scr ns)), some (.own [.str (T (TL.numL n1)), .str (T j), .str (T cNot), .str (T (TL.numL n2)), .str (T w)]), x, some (.val (.str (T (TL.joinL [32] (cutL [TL.numL n1, j, cNot, TL.numL n2, w] none (some k)))))), y, some (.val (.int c)), some (.val (.str (T j))), none], ?_, _, _, _, _, s2.mono (by decide), rfl⟩
      simp [f_cellI, mod_n, div_n, c1, ← ec, ej, e1, e2, t1, t2, ew, ← T_not, on2]
    · exact ⟨[some (.val (scr ns)), W, x, some (.val (.str (T l))), y, none, none, none], by simp [f_cellI, mod_n, div_n, c1], l, _, none, none, sl, rfl⟩
  rintro L ⟨l, w, u, v, sl, rfl⟩
  have okl := okT sl.2
  have ll : (T l).length ≤ 1000 := by rw [SX.S_len]; have := sl.1; omega
  have rd := f_lawread okl ll
  have du := f_due14 okl ll
  obtain ⟨o, eo⟩ : ∃ o, o = readOf (Txt.split (T l) (" " : Str)) := ⟨_, rfl⟩
  rw [← eo] at rd du
  have rt := f_right14 o
  have du2 : (f__law_due [.str (T l)]).bind fz = .ok (dueV o) := by
    rw [du]
    cases o <;> rfl
  refine seq_to (L' := [some (.val (scr ns)), w, x, some (.val (.str (T l))), y, u, v, some (.val (dueV o))]) ?_ ?_
  · simp [du2]
  · simp [rd, rt]
end
end Px
open PySem PySem.W PyProof.Rows in
set_option maxRecDepth 100000 in
set_option maxHeartbeats 0 in
theorem PySem.Challenge.cw_eitherbook_k14_lines_holds : PySem.Challenge.rw_eitherbook_k14_lines.Holds := by
  w_on; o_law; k_head; (case hw => w_witness2)
  k_fill
  refine Px.law_walk (l := PySem.Challenge.rw_eitherbook_k14_lines) (k := 5) (st := Px.s_law) rfl rfl ⟨rfl, by decide, by decide⟩ rfl (fun w h Y => PySem.W.kIn_of Y) ?F
  case F =>
    intro w mg h KX G
    refine' Px.all_k14 Px.pure_k14 ?bl ?h0 ?h1 ?h2 ?h3 ?h4 ?h5 ?h6 ?h7 ?h8 ?h9 ?h10 ?h11 (PySem.W.mg_of KX G ?c0) (PySem.W.mg_of KX G ?c1) ?e0 ?x0
    case bl =>
      refine' ⟨PySem.W.mg_none_of KX G ?b1, PySem.W.mg_none_of KX G ?b2, PySem.W.mg_none_of KX G ?b3, PySem.W.mg_none_of KX G ?b4, PySem.W.mg_none_of KX G ?b5, PySem.W.mg_none_of KX G ?b6, PySem.W.mg_none_of KX G ?b7, PySem.W.mg_none_of KX G ?b8, PySem.W.mg_none_of KX G ?b9⟩
      (case b1 => k_is)
      (case b2 => k_is)
      (case b3 => k_is)
      (case b4 => k_is)
      (case b5 => k_is)
      (case b6 => k_is)
      (case b7 => k_is)
      (case b8 => k_is)
      (case b9 => k_is)
    case h0 =>
      refine' Px.has_of Px.b_switch_of KX G ?a ?l ?c ?k
      (case a => k_is)
      (case l => k_is)
      (case c => k_is)
      (case k => k_is)
    case h1 =>
      refine' Px.has_of Px.b_lit_of KX G ?a ?l ?c ?k
      (case a => k_is)
      (case l => k_is)
      (case c => k_is)
      (case k => k_is)
    case h2 =>
      refine' Px.has_of Px.b_read KX G ?a ?l ?c ?k
      (case a => k_is)
      (case l => k_is)
      (case c => k_is)
      (case k => k_is)
    case h3 =>
      refine' Px.has_of Px.b__law_cell_at KX G ?a ?l ?c ?k
      (case a => k_is)
      (case l => k_is)
      (case c => k_is)
      (case k => k_is)
    case h4 =>
      refine' Px.has_of Px.b__law_whole KX G ?a ?l ?c ?k
      (case a => k_is)
      (case l => k_is)
      (case c => k_is)
      (case k => k_is)
    case h5 =>
      refine' Px.has_of Px.b__law_word_by KX G ?a ?l ?c ?k
      (case a => k_is)
      (case l => k_is)
      (case c => k_is)
      (case k => k_is)
    case h6 =>
      refine' Px.has_of Px.b__law_number KX G ?a ?l ?c ?k
      (case a => k_is)
      (case l => k_is)
      (case c => k_is)
      (case k => k_is)
    case h7 =>
      refine' Px.has_of Px.b__law_taken KX G ?a ?l ?c ?k
      (case a => k_is)
      (case l => k_is)
      (case c => k_is)
      (case k => k_is)
    case h8 =>
      refine' Px.has_of Px.b__law_due KX G ?a ?l ?c ?k
      (case a => k_is)
      (case l => k_is)
      (case c => k_is)
      (case k => k_is)
    case h9 =>
      refine' Px.has_of Px.b__law_read KX G ?a ?l ?c ?k
      (case a => k_is)
      (case l => k_is)
      (case c => k_is)
      (case k => k_is)
    case h10 =>
      refine' Px.has_of Px.b__law_right KX G ?a ?l ?c ?k
      (case a => k_is)
      (case l => k_is)
      (case c => k_is)
      (case k => k_is)
    case h11 =>
      refine' Px.has_of Px.b_law KX G ?a ?l ?c ?k
      (case a => k_is)
      (case l => k_is)
      (case c => k_is)
      (case k => k_is)
    (case c0 => k_is)
    (case c1 => k_is)
    case e0 =>
      refine' Px.exc_of KX G ?a ?b ?c ?d ?e
      (case a => k_is)
      (case b => k_exc)
      (case c => k_is)
      (case d => k_is)
      (case e => k_is)
    case x0 =>
      refine' Px.exis_of KX G ?v ?a ?b ?s1 ?s2 ?s3 ?s4 ?h1 ?h2 ?h3 ?h4 ?h5 ?h6 ?h7 ?h8 ?h9 ?n1 ?n2 ?n3 ?n4
      (case v => k_is)
      (case a => k_is)
      (case b => k_is)
      (case s1 => k_is)
      (case s2 => k_is)
      (case s3 => k_is)
      (case s4 => k_is)
      (case h1 => k_is)
      (case h2 => k_is)
      (case h3 => k_is)
      (case h4 => k_is)
      (case h5 => k_is)
      (case h6 => k_is)
      (case h7 => k_is)
      (case h8 => k_is)
      (case h9 => k_is)
      (case n1 => (refine' Px.cls_no KX G ?a ?ne ?h2 ?h3 ?h4; (case a => k_is); (case ne => decide); (case h2 => k_is); (case h3 => k_is); (case h4 => k_is)))
      (case n2 => (refine' Px.cls_no KX G ?a ?ne ?h2 ?h3 ?h4; (case a => k_is); (case ne => decide); (case h2 => k_is); (case h3 => k_is); (case h4 => k_is)))
      (case n3 => (refine' Px.cls_no KX G ?a ?ne ?h2 ?h3 ?h4; (case a => k_is); (case ne => decide); (case h2 => k_is); (case h3 => k_is); (case h4 => k_is)))
      (case n4 => (refine' Px.cls_no KX G ?a ?ne ?h2 ?h3 ?h4; (case a => k_is); (case ne => decide); (case h2 => k_is); (case h3 => k_is); (case h4 => k_is)))
