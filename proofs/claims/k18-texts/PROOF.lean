import PyProof.Rows.All
import Wide.All
import OpenK.AllK
import Wide.FinOn
import PySem.Challenge.RW_phonehall_k18_texts_refused
import HandS.ForMost
import HandS.ForExc
import HandS.IsInst
import HandS.Deep
import HandS.Lambda
import HandS.TupAny
import KE.KAssignIn
import HandS.RaiseMore
import HandS.TupMul
import HandS.SortInts
import PyProof.DictUpdate
import HandS.Conv
import HandS.Zip
import HandS.Text
import HandS.HeadHook3
import KE.SortData
import HandS.Remove
import HandS.Iter
import HandS.More
import KE.DataFind
import HandS.OwnEq
import KE.KRevSl
import HandS.ExcIs
import HandS.EndTab
import HandS.SetFor
import HandS.ExcBuiltin
import PyProof.Rows.CountFlat
import HandS.TryOnly
import HandS.ExcInit
import HandS.FStr
import HandS.ExcField
import KE.KExcIs
import KE.KDflt
import KE.GoesRaise
import HandS.TupSets
import PySem.Challenge.RW_phonehall_k18_texts_refused
set_option Elab.async false
set_option linter.all false
set_option maxRecDepth 100000
set_option maxHeartbeats 2000000
set_option pp.maxSteps 700
namespace AM
open PySem PySem.Spec PyProof.Rows L2
-- E0_k18
set_option maxHeartbeats 0 in
open PySem PySem.W PyProof.Rows in
open_top head_of for PySem.Challenge.rw_phonehall_k18_texts_refused

-- AM1
/-! AM: an abstract state over the hand layer: values W, a store of mutable objects by number, environments by slot. -/

/-- abstract values: scalars, tuples, lists that nobody changes, the k-th mutable object, any other thing -/
inductive W where
  | non | bl (b : Bool) | int (i : Int) | str (x : Str)
  | tup (xs : List W) | lst (xs : List W)
  | ref (k : Nat) | raw (v : V) | scr (K : PySem.W.Frag) (ns : List Int)
  /-- a caught error whose dict stands at d, with one field, a number -/
  | xi (a d : Addr) (f : Str) (i : Int)
  /-- a thing at a that is known by objects that nobody changes -/
  | thg (a : Addr) (fs : List (Addr × HO))
/-- mutable objects -/
inductive O where
  | lst (xs : List W) | dk (kvs : List (Key × W)) | dt (kvs : List (List Key × W)) | ins (C : Addr) (fs : List (Str × W))
  /-- the law's row of draws: the script, a place, a number -/
  | row (K : PySem.W.Frag)
  /-- not told -/
  | any
  /-- the table of code objects of a def: where it stands, the name that its lambdas bear -/
  | tab (P : Addr) (q : Str)
abbrev Sto := List O
abbrev AEnv := List (Option W)

/-- where the mutable objects stand, by number; and the hidden ones -/
structure Lay where
  m : List Addr
  h : List Addr
def Lay.out (L : Lay) (a : Addr) : Prop := a ∉ L.m ∧ a ∉ L.h
abbrev Lay.add (L : Lay) (p : Addr) : Lay := ⟨L.m ++ [p], L.h⟩
abbrev Lay.hid (L : Lay) (p : Addr) : Lay := ⟨L.m, p :: L.h⟩
/-- a tuple, a list that nobody changes: tracked, and none of the mutable ones -/
def TQ (M : Lay) (H : Hp) (a : Addr) (xs : List V) : Prop := H a = some (.tup xs) ∧ M.out a
def LQ (M : Lay) (H : Hp) (a : Addr) (xs : List V) : Prop := H a = some (.lst xs) ∧ M.out a
/-- the script -/
def SQ (K : PySem.W.Frag) (M : Lay) (H : Hp) (a : Addr) (ns : List Int) : Prop :=
  (Rd H a (.lst (ns.map V.int)) ∧ M.out a) ∨ ∃ (o : Obj) (its : Array Value) (n : Nat), K.lookup a = some o ∧ o.cls = .type "list" ∧ o.dict = none ∧ o.data = .seq its n ∧ its.size ≤ sizeLine ∧ Vals (ns.map V.int) its.toList
theorem TQ.sq {K : PySem.W.Frag} {M : Lay} {H : Hp} {a : Addr} {xs : List V} (h : TQ M H a xs) : SqT K H a xs := SqT.of h.1
theorem LQ.sq {K : PySem.W.Frag} {M : Lay} {H : Hp} {a : Addr} {xs : List V} (h : LQ M H a xs) : SqL K H a xs := SqL.of h.1
theorem SQ.sq {K : PySem.W.Frag} {M : Lay} {H : Hp} {a : Addr} {ns : List Int} (h : SQ K M H a ns) : SqL K H a (ns.map V.int) := by
  rcases h with ⟨h, _⟩ | h
  · exact .inl h
  · exact .inr h
theorem SQ.of {K : PySem.W.Frag} {M : Lay} {H : Hp} {a : Addr} {ns : List Int} (h : SqL K H a (ns.map V.int)) (o : M.out a) : SQ K M H a ns := by
  rcases h with h | h
  · exact .inl ⟨h, o⟩
  · exact .inr h

mutual
inductive VW (M : Lay) (H : Hp) : V → W → Prop
  | non : VW M H .non .non
  | bl (b : Bool) : VW M H (.bl b) (.bl b)
  | int (i : Int) : VW M H (.int i) (.int i)
  | str (x : Str) : VW M H (.str x) (.str x)
  | tup {a : Addr} {xs : List V} {ws : List W} : TQ M H a xs → VWs M H xs ws → VW M H (.ref a) (.tup ws)
  | lst {a : Addr} {xs : List V} {ws : List W} : LQ M H a xs → VWs M H xs ws → VW M H (.ref a) (.lst ws)
  | ref {a : Addr} {k : Nat} : M.m[k]? = some a → VW M H (.ref a) (.ref k)
  | raw (v : V) : VW M H v (.raw v)
  | scr {K : PySem.W.Frag} {a : Addr} {ns : List Int} : SQ K M H a ns → VW M H (.ref a) (.scr K ns)
  | xi {a d : Addr} {f : Str} {i : Int} : M.out d → H d = some (.xd [(f, .int i)]) → VW M H (.ref a) (.xi a d f i)
  | thg {a : Addr} {fs : List (Addr × HO)} : (∀ q ∈ fs, M.out q.1 ∧ H q.1 = some q.2 ∧ ∀ ps, q.2 ≠ .tbl ps) → VW M H (.ref a) (.thg a fs)
inductive VWs (M : Lay) (H : Hp) : List V → List W → Prop
  | nil : VWs M H [] []
  | cons {v : V} {vs : List V} {w : W} {ws : List W} : VW M H v w → VWs M H vs ws → VWs M H (v :: vs) (w :: ws)
end

/-- what a step of the code leaves: the mutable objects known before are known still, new ones are new; all else stands -/
structure Step (M : Lay) (H : Hp) (M2 : Lay) (H2 : Hp) : Prop where
  pre : M.m <+: M2.m
  new : ∀ p, ¬ M2.out p → M.out p → H p = none
  keep : ∀ a o, H a = some o → (∀ ps, o ≠ .tbl ps) → a ∉ M.m → H2 a = some o
  tbl : ∀ a ps, a ∉ M.m → H a = some (.tbl ps) → ∃ ps', H2 a = some (.tbl ps')
  there : ∀ a, a ∈ M.m → H a ≠ none → H2 a ≠ none
  /-- the hidden ones stay hidden, and are not among the mutable ones -/
  old : ∀ a, a ∈ M2.m → a ∈ M.h → a ∈ M.m
  hold : M2.h = M.h
theorem Step.refl (M : Lay) (H : Hp) : Step M H M H :=
  ⟨List.prefix_refl _, fun _ h n => absurd n h, fun _ _ h _ _ => h, fun _ ps _ h => ⟨ps, h⟩, fun _ _ h => h, fun _ h _ => h, rfl⟩
theorem Step.alive {M M2 : Lay} {H H2 : Hp} (s : Step M H M2 H2) {a : Addr} (h : H a ≠ none) : H2 a ≠ none := by
  by_cases m : a ∈ M.m
  · exact s.there a m h
  · cases e : H a with
    | none => exact absurd e h
    | some o =>
      by_cases t : ∃ ps, o = .tbl ps
      · obtain ⟨ps, rfl⟩ := t
        obtain ⟨ps', e'⟩ := s.tbl a ps m e
        rw [e']; exact fun z => nomatch z
      · rw [s.keep a o e (fun ps z => t ⟨ps, z⟩) m]; exact fun z => nomatch z
theorem Step.out {M M2 : Lay} {H H2 : Hp} (s : Step M H M2 H2) {a : Addr} (h : H a ≠ none) (m : M.out a) : M2.out a := Classical.byContradiction fun z => h (s.new a z m)
theorem Step.trans {M M1 M2 : Lay} {H H1 H2 : Hp} (s : Step M H M1 H1) (t : Step M1 H1 M2 H2) : Step M H M2 H2 where
  pre := List.IsPrefix.trans s.pre t.pre
  new := fun p h n => by
    by_cases m : M1.out p
    · have e := t.new p h m
      cases q : H p with
      | none => rfl
      | some o => exact absurd e (s.alive (by rw [q]; exact fun z => nomatch z))
    · exact s.new p m n
  keep := fun a o h nt m => by
    have e := s.keep a o h nt m
    refine t.keep a o e nt fun m1 => ?_
    by_cases hh : a ∈ M.h
    · exact m (s.old a m1 hh)
    · rw [s.new a (fun z => z.1 m1) ⟨m, hh⟩] at h
      cases h
  tbl := fun a ps m h => by
    obtain ⟨ps', e⟩ := s.tbl a ps m h
    refine t.tbl a ps' (fun m1 => ?_) e
    by_cases hh : a ∈ M.h
    · exact m (s.old a m1 hh)
    · rw [s.new a (fun z => z.1 m1) ⟨m, hh⟩] at h
      cases h
  there := fun a m h => t.alive (s.there a m h)
  old := fun a m hh => by
    by_cases q : a ∈ M1.h
    · exact s.old a (t.old a m q) hh
    · exact absurd (by rw [s.hold]; exact hh) q
  hold := t.hold.trans s.hold

theorem get_pre {α : Type} {l l2 : List α} (h : l <+: l2) {k : Nat} {a : α} (e : l[k]? = some a) : l2[k]? = some a := by
  obtain ⟨t, rfl⟩ := h
  rw [List.getElem?_append_left (List.getElem?_eq_some_iff.mp e).1]
  exact e
section
variable {K : PySem.W.Frag} {M M2 : Lay} {H H2 : Hp}
theorem rd_some {a : Addr} {u : HO} (h : Rd H a u) : H a ≠ none := by
  rcases h with h | ⟨o, h⟩ <;> (rw [h]; exact fun z => nomatch z)
theorem rd_step (s : Step M H M2 H2) {a : Addr} {u : HO} (h : Rd H a u) (nt : ∀ ps, u ≠ .tbl ps) (m : M.out a) : Rd H2 a u := by
  rcases h with h | ⟨o, h⟩
  · exact .inl (s.keep a _ h nt m.1)
  · exact .inr ⟨o, s.keep a _ h (fun ps z => nomatch z) m.1⟩
theorem TQ.step (s : Step M H M2 H2) {a : Addr} {xs : List V} (h : TQ M H a xs) : TQ M2 H2 a xs :=
  ⟨s.keep a _ h.1 (fun ps z => nomatch z) h.2.1, s.out (by rw [h.1]; exact fun z => nomatch z) h.2⟩
theorem LQ.step (s : Step M H M2 H2) {a : Addr} {xs : List V} (h : LQ M H a xs) : LQ M2 H2 a xs :=
  ⟨s.keep a _ h.1 (fun ps z => nomatch z) h.2.1, s.out (by rw [h.1]; exact fun z => nomatch z) h.2⟩
theorem SQ.step (s : Step M H M2 H2) {a : Addr} {ns : List Int} (h : SQ K M H a ns) : SQ K M2 H2 a ns := by
  rcases h with ⟨h, o⟩ | h
  · exact .inl ⟨rd_step s h (fun ps z => nomatch z) o, s.out (rd_some h) o⟩
  · exact .inr h
mutual
theorem VW.step (s : Step M H M2 H2) : ∀ (w : W) (v : V), VW M H v w → VW M2 H2 v w
  | .non, _, h => by cases h; exact .non
  | .bl b, _, h => by cases h; exact .bl b
  | .int i, _, h => by cases h; exact .int i
  | .str x, _, h => by cases h; exact .str x
  | .tup ws, _, h => by
    cases h with
    | tup q r => exact .tup (q.step s) (VWs.step s ws _ r)
  | .lst ws, _, h => by
    cases h with
    | lst q r => exact .lst (q.step s) (VWs.step s ws _ r)
  | .ref k, _, h => by
    cases h with
    | ref q => exact .ref (get_pre s.pre q)
  | .raw v, _, h => by cases h; exact .raw v
  | .scr _ ns, _, h => by
    cases h with
    | scr q => exact .scr (q.step s)
  | .xi _ d f i, _, h => by
    cases h with
    | xi q1 q2 => exact .xi (s.out (by rw [q2]; exact fun z => nomatch z) q1) (s.keep _ _ q2 (fun ps z => nomatch z) q1.1)
  | .thg _ _, _, h => by
    cases h with
    | thg q => exact .thg fun p hp => ⟨s.out (by rw [(q p hp).2.1]; exact fun z => nomatch z) (q p hp).1, s.keep _ _ (q p hp).2.1 (q p hp).2.2 (q p hp).1.1, (q p hp).2.2⟩
theorem VWs.step (s : Step M H M2 H2) : ∀ (ws : List W) (vs : List V), VWs M H vs ws → VWs M2 H2 vs ws
  | [], _, h => by cases h; exact .nil
  | w :: ws, _, h => by
    cases h with
    | cons a b => exact .cons (VW.step s w _ a) (VWs.step s ws _ b)
end
theorem VWs.length : ∀ {ws : List W} {vs : List V}, VWs M H vs ws → vs.length = ws.length
  | [], _, h => by cases h; rfl
  | w :: ws, _, h => by
    cases h with
    | cons a b => simp [VWs.length b]
theorem VWs.get : ∀ {ws : List W} {vs : List V} {i : Nat} {w : W}, VWs M H vs ws → ws[i]? = some w → ∃ v, vs[i]? = some v ∧ VW M H v w
  | [], _, _, _, h, e => by simp at e
  | w :: ws, _, 0, x, h, e => by
    cases h with
    | cons a b => simp at e; subst e; exact ⟨_, rfl, a⟩
  | w :: ws, _, i + 1, x, h, e => by
    cases h with
    | cons a b => exact VWs.get (i := i) b (by simpa using e)
theorem VWs.append : ∀ {ws : List W} {vs : List V} {ws' : List W} {vs' : List V}, VWs M H vs ws → VWs M H vs' ws' → VWs M H (vs ++ vs') (ws ++ ws')
  | [], _, _, _, h, h' => by cases h; exact h'
  | w :: ws, _, _, _, h, h' => by
    cases h with
    | cons a b => exact .cons a (VWs.append b h')
theorem VWs.set : ∀ {ws : List W} {vs : List V} {w : W} {v : V} (i : Nat), VWs M H vs ws → VW M H v w → VWs M H (vs.set i v) (ws.set i w)
  | [], _, _, _, _, h, h' => by cases h; exact .nil
  | w :: ws, _, _, _, 0, h, h' => by
    cases h with
    | cons a b => exact .cons h' b
  | w :: ws, _, _, _, i + 1, h, h' => by
    cases h with
    | cons a b => exact .cons a (VWs.set i b h')
theorem VWs.take : ∀ {ws : List W} {vs : List V} (n : Nat), VWs M H vs ws → VWs M H (vs.take n) (ws.take n)
  | _, _, 0, _ => by simp; exact .nil
  | [], _, _ + 1, h => by cases h; exact .nil
  | w :: ws, _, n + 1, h => by
    cases h with
    | cons a b => exact .cons a (VWs.take n b)
theorem VWs.drop : ∀ {ws : List W} {vs : List V} (n : Nat), VWs M H vs ws → VWs M H (vs.drop n) (ws.drop n)
  | _, _, 0, h => h
  | [], _, _ + 1, h => by cases h; exact .nil
  | w :: ws, _, n + 1, h => by
    cases h with
    | cons a b => exact VWs.drop n b
/-- pairs: a key and a value -/
abbrev PVW (M : Lay) (H : Hp) {κ : Type} : List (κ × V) → List (κ × W) → Prop := Paired fun (p : κ × V) (q : κ × W) => p.1 = q.1 ∧ VW M H p.2 q.2
theorem PVW.step (s : Step M H M2 H2) {κ : Type} {xs : List (κ × V)} {ws : List (κ × W)} (h : PVW M H xs ws) : PVW M2 H2 xs ws := Paired.mapP h fun _ _ r => ⟨r.1, VW.step s _ _ r.2⟩

/-! ### the store -/
def rowO (K : PySem.W.Frag) (M : Lay) (H : Hp) (xs : List V) : Prop :=
  ∃ (v : V) (ns : List Int) (i z : Int), xs = [v, .int i, .int z] ∧ VW M H v (.scr K ns) ∧ ns.length ≤ 63 ∧ 0 ≤ i ∧ 0 ≤ z ∧ z < 2147483647
inductive Ob (M : Lay) (H : Hp) : HO → O → Prop
  | lst {xs ws} : VWs M H xs ws → Ob M H (.lst xs) (.lst ws)
  | dk {kvs kws} : PVW M H kvs kws → Ob M H (.dK kvs) (.dk kws)
  | dt {kvs kws} : PVW M H kvs kws → Ob M H (.dT kvs) (.dt kws)
  | ins {C dx fs ws} : PVW M H fs ws → Ob M H (.ins C dx fs) (.ins C ws)
  | row {K xs} : rowO K M H xs → Ob M H (.lst xs) (.row K)
  | any {ho} : Mut (some ho) → (∀ f, ho ≠ .ext f) → Ob M H ho .any
  | tab {ps P q} : TriplesOk ps.toList → (∀ (pos : Pos) (cv : Value), codeAmong pos ps.toList = some cv → ∃ c, cv = .ref c ∧ M.out c ∧ H c = some (LamX.CodeO c q)) → Ob M H (.tbl ps) (.tab P q)
theorem Ob.step (s : Step M H M2 H2) {ho : HO} {o : O} (h : Ob M H ho o) : Ob M2 H2 ho o := by
  cases h with
  | lst r => exact .lst (VWs.step s _ _ r)
  | dk r => exact .dk (PVW.step s r)
  | dt r => exact .dt (PVW.step s r)
  | ins r => exact .ins (PVW.step s r)
  | row r =>
    obtain ⟨v, ns, i, z, e, r, q⟩ := r
    exact .row ⟨v, ns, i, z, e, VW.step s _ _ r, q⟩
  | any m n => exact .any m n
  | tab t q =>
    refine .tab t fun pos cv e => ?_
    obtain ⟨c, h1, h2, h3⟩ := q pos cv e
    exact ⟨c, h1, s.out (by rw [h3]; exact fun z => nomatch z) h2, s.keep c _ h3 LamX.codeO_ne h2.1⟩
structure Rep (M : Lay) (H : Hp) (S : Sto) : Prop where
  nd : M.m.Nodup
  len : M.m.length = S.length
  at_ : ∀ (k : Nat) p o, M.m[k]? = some p → S[k]? = some o → ∃ ho, H p = some ho ∧ Ob M H ho o
  hid : ∀ p, p ∈ M.h → H p ≠ none ∧ p ∉ M.m
  tb : ∀ (k : Nat) P q, S[k]? = some (.tab P q) → M.m[k]? = some P
theorem Rep.alive {S : Sto} (r : Rep M H S) {p : Addr} (h : ¬ M.out p) : H p ≠ none := by
  by_cases q : p ∈ M.h
  · exact (r.hid p q).1
  · have h : p ∈ M.m := Classical.byContradiction fun z => h ⟨z, q⟩
    obtain ⟨k, hk, e⟩ := List.mem_iff_getElem.mp h
    have hs : k < S.length := by rw [← r.len]; exact hk
    obtain ⟨ho, h1, _⟩ := r.at_ k p S[k] (by rw [List.getElem?_eq_getElem hk, e]) (List.getElem?_eq_getElem hs)
    rw [h1]; exact fun z => nomatch z
theorem Rep.free {S : Sto} (r : Rep M H S) {p : Addr} (h : H p = none) : M.out p := Classical.byContradiction fun z => r.alive z h
theorem Rep.at' {S : Sto} (r : Rep M H S) {k : Nat} {o : O} (h : S[k]? = some o) : ∃ p ho, M.m[k]? = some p ∧ H p = some ho ∧ Ob M H ho o := by
  have hk : k < M.m.length := by rw [r.len]; exact (List.getElem?_eq_some_iff.mp h).1
  obtain ⟨ho, h1, h2⟩ := r.at_ k M.m[k] o (List.getElem?_eq_getElem hk) h
  exact ⟨M.m[k], ho, List.getElem?_eq_getElem hk, h1, h2⟩
/-- a new object that is not told of -/
theorem step_tmp {S : Sto} (r : Rep M H S) {p : Addr} {ho : HO} (hp : H p = none) : Step M H M (upd H p ho) where
  pre := List.prefix_refl _
  new := fun _ h n => absurd n h
  keep := fun a o h _ _ => by rw [upd_ne (ne_of_none h hp)]; exact h
  tbl := fun a ps _ h => ⟨ps, by rw [upd_ne (ne_of_none h hp)]; exact h⟩
  there := fun a _ h => by
    by_cases e : a = p
    · subst e; exact absurd hp h
    · rw [upd_ne e]; exact h
  old := fun _ h _ => h
  hold := rfl
theorem Rep.tmp {S : Sto} (r : Rep M H S) {p : Addr} {ho : HO} (hp : H p = none) : Rep M (upd H p ho) S :=
  ⟨r.nd, r.len, fun k q o h1 h2 => by
    obtain ⟨hq, e, b⟩ := r.at_ k q o h1 h2
    exact ⟨hq, by rw [upd_ne (ne_of_none e hp)]; exact e, b.step (step_tmp r hp)⟩, fun q hq => ⟨(step_tmp r (ho := ho) hp).alive (r.hid q hq).1, (r.hid q hq).2⟩, r.tb⟩
/-- a new object, told of as the last one -/
theorem step_new {S : Sto} (r : Rep M H S) {p : Addr} {ho : HO} (hp : H p = none) : Step M H (M.add p) (upd H p ho) where
  pre := List.prefix_append M.m [p]
  new := fun q h n => by
    have e : q = p := Classical.byContradiction fun z => h ⟨fun m => by
      rcases List.mem_append.mp m with m | m
      · exact n.1 m
      · exact z (List.mem_singleton.mp m), n.2⟩
    rw [e]; exact hp
  keep := fun a o h _ _ => by rw [upd_ne (ne_of_none h hp)]; exact h
  tbl := fun a ps _ h => ⟨ps, by rw [upd_ne (ne_of_none h hp)]; exact h⟩
  there := fun a _ h => by
    by_cases e : a = p
    · subst e; exact absurd hp h
    · rw [upd_ne e]; exact h
  old := fun a h hh => by
    rcases List.mem_append.mp h with h | h
    · exact h
    · rw [List.mem_singleton.mp h] at hh
      exact absurd hp (r.hid p hh).1
  hold := rfl
theorem Rep.new {S : Sto} (r : Rep M H S) {p : Addr} {ho : HO} {o : O} (hp : H p = none) (b : Ob (M.add p) (upd H p ho) ho o) (nt : ∀ P q, o ≠ O.tab P q := by intro _ _ z; cases z) : Rep (M.add p) (upd H p ho) (S ++ [o]) := by
  refine ⟨?_, by simp [r.len], fun k q u h1 h2 => ?_, fun q hq => ⟨(step_new r (ho := ho) hp).alive (r.hid q hq).1, fun m => ?_⟩, fun k P q e => ?_⟩
  · refine List.nodup_append.mpr ⟨r.nd, by simp, fun a ha b hb e => ?_⟩
    rw [List.mem_singleton.mp hb] at e
    subst e
    exact r.alive (fun z => z.1 ha) hp
  · have h1 : (M.m ++ [p])[k]? = some q := h1
    by_cases hk : k < M.m.length
    · rw [List.getElem?_append_left hk] at h1
      rw [List.getElem?_append_left (by rw [← r.len]; exact hk)] at h2
      obtain ⟨hq, e, b'⟩ := r.at_ k q u h1 h2
      exact ⟨hq, by rw [upd_ne (ne_of_none e hp)]; exact e, b'.step (step_new r hp)⟩
    · rw [List.getElem?_append_right (by omega)] at h1
      rw [List.getElem?_append_right (by rw [← r.len]; omega)] at h2
      have e0 : k - M.m.length = 0 := by
        have q := (List.getElem?_eq_some_iff.mp h1).1
        simp at q; omega
      have e1 : k - S.length = 0 := by rw [← r.len]; exact e0
      rw [e0] at h1; rw [e1] at h2
      simp at h1 h2
      subst h1; subst h2
      exact ⟨ho, upd_same, b⟩
  · rcases List.mem_append.mp m with m | m
    · exact (r.hid q hq).2 m
    · rw [List.mem_singleton.mp m] at hq
      exact (r.hid p hq).1 hp
  · by_cases hk : k < S.length
    · rw [List.getElem?_append_left hk] at e
      exact (List.getElem?_append_left (by rw [r.len]; exact hk)).trans (r.tb k P q e)
    · rw [List.getElem?_append_right (by omega)] at e
      have z := List.mem_of_getElem? e
      exact absurd (List.mem_singleton.mp z).symm (nt P q)
/-- the k-th object is written -/
theorem step_set {S : Sto} (r : Rep M H S) {k : Nat} {p : Addr} {ho : HO} (hp : M.m[k]? = some p) : Step M H M (upd H p ho) where
  pre := List.prefix_refl _
  new := fun _ h n => absurd n h
  keep := fun a o h _ m => by
    rw [upd_ne (fun e => m (by rw [e]; exact List.mem_of_getElem? hp))]; exact h
  tbl := fun a ps m h => ⟨ps, by rw [upd_ne (fun e => m (by rw [e]; exact List.mem_of_getElem? hp))]; exact h⟩
  there := fun a _ h => by
    by_cases e : a = p
    · subst e; rw [upd_same]; exact fun z => nomatch z
    · rw [upd_ne e]; exact h
  old := fun _ h _ => h
  hold := rfl
theorem nd_at {l : List Addr} (hN : l.Nodup) {i j : Nat} {x : Addr} (a : l[i]? = some x) (b : l[j]? = some x) : i = j := by
  obtain ⟨h1, e1⟩ := List.getElem?_eq_some_iff.mp a
  obtain ⟨h2, e2⟩ := List.getElem?_eq_some_iff.mp b
  exact (List.getElem_inj hN).mp (e1.trans e2.symm)
theorem Rep.set {S : Sto} (r : Rep M H S) {k : Nat} {p : Addr} {ho : HO} {o : O} (hp : M.m[k]? = some p) (b : Ob M (upd H p ho) ho o) (nt : ∀ P q, o ≠ O.tab P q := by intro _ _ z; cases z) : Rep M (upd H p ho) (S.set k o) := by
  have tb' : ∀ (j : Nat) P q, (S.set k o)[j]? = some (.tab P q) → M.m[j]? = some P := fun j P q e => by
    by_cases z : k = j
    · subst z
      have hk : k < S.length := by
        have z := (List.getElem?_eq_some_iff.mp e).1
        simpa using z
      rw [List.getElem?_set_self hk] at e
      exact absurd (Option.some.inj e) (nt P q)
    · rw [List.getElem?_set_ne z] at e
      exact r.tb j P q e
  refine ⟨r.nd, by simp [r.len], fun j q u h1 h2 => ?_, fun q hq => ⟨(step_set r (ho := ho) hp).alive (r.hid q hq).1, (r.hid q hq).2⟩, tb'⟩
  by_cases e : j = k
  · subst e
    rw [hp] at h1; cases h1
    have hk : j < S.length := by
      have z := (List.getElem?_eq_some_iff.mp h2).1
      simpa using z
    rw [List.getElem?_set_self hk] at h2; cases h2
    exact ⟨ho, upd_same, b⟩
  · rw [List.getElem?_set_ne (fun z => e z.symm)] at h2
    obtain ⟨hq, e1, b'⟩ := r.at_ j q u h1 h2
    refine ⟨hq, ?_, b'.step (step_set r hp)⟩
    rw [upd_ne (fun z => e (nd_at r.nd h1 (by rw [z]; exact hp)))]
    exact e1
/-! a hidden object: laid, written, shown -/
/-- what stands behind a hiding -/
theorem hid_vw {S : Sto} (r : Rep M H S) {p : Addr} {ho : HO} (hp : H p = none) : ∀ {w v}, VW M H v w → VW (M.hid p) (upd H p ho) v w := by
  intro w v h
  have o : ∀ {a : Addr}, H a ≠ none → M.out a → (M.hid p).out a := fun hn z => ⟨z.1, fun m => by
    rcases List.mem_cons.mp m with m | m
    · subst m; exact hn hp
    · exact z.2 m⟩
  refine VW.rec (motive_1 := fun v w _ => VW (M.hid p) (upd H p ho) v w) (motive_2 := fun v w _ => VWs (M.hid p) (upd H p ho) v w) .non .bl .int .str ?_ ?_ ?_ .raw ?_ ?_ ?_ .nil ?_ h
  · intro a xs ws q _ ih
    exact .tup ⟨by rw [upd_ne (ne_of_none q.1 hp)]; exact q.1, o (by rw [q.1]; exact fun z => nomatch z) q.2⟩ ih
  · intro a xs ws q _ ih
    exact .lst ⟨by rw [upd_ne (ne_of_none q.1 hp)]; exact q.1, o (by rw [q.1]; exact fun z => nomatch z) q.2⟩ ih
  · intro a k q
    exact .ref q
  · intro K a ns q
    refine .scr ?_
    rcases q with ⟨q, qo⟩ | q
    · refine .inl ⟨?_, o (rd_some q) qo⟩
      rcases q with z | ⟨u, z⟩
      · exact .inl (by rw [upd_ne (ne_of_none z hp)]; exact z)
      · exact .inr ⟨u, by rw [upd_ne (ne_of_none z hp)]; exact z⟩
    · exact .inr q
  · intro a d f i q1 q2
    exact .xi (o (by rw [q2]; exact fun z => nomatch z) q1) (by rw [upd_ne (ne_of_none q2 hp)]; exact q2)
  · intro a fs q
    exact .thg fun z hz => ⟨o (by rw [(q z hz).2.1]; exact fun z => nomatch z) (q z hz).1, by rw [upd_ne (ne_of_none (q z hz).2.1 hp)]; exact (q z hz).2.1, (q z hz).2.2⟩
  · intro v vs w ws _ _ i1 i2
    exact .cons i1 i2
theorem hid_vws {S : Sto} (r : Rep M H S) {p : Addr} {ho : HO} (hp : H p = none) : ∀ {ws vs}, VWs M H vs ws → VWs (M.hid p) (upd H p ho) vs ws := by
  intro ws
  induction ws with
  | nil => intro vs h; cases h; exact .nil
  | cons w ws ih =>
    intro vs h
    cases h with
    | cons a b => exact .cons (hid_vw r hp a) (ih b)
/-- a step behind a hiding, told without it -/
theorem step_behind {M3 : Lay} {H3 : Hp} {h : List Addr} {m2 : List Addr} {D : Addr} (s : Step M H ⟨m2, h⟩ H2) (hD : H D = none) (t : Step ⟨m2, D :: h⟩ H2 M3 H3) : Step M H ⟨M3.m, h⟩ H3 where
  pre := List.IsPrefix.trans s.pre t.pre
  new := fun p hn n => by
    by_cases e : p = D
    · rw [e]; exact hD
    · by_cases m : p ∈ m2
      · exact s.new p (fun z => z.1 m) n
      · have hh : p ∉ h := by have := s.hold; simp only at this; rw [this]; exact n.2
        have q := t.new p (fun z => hn ⟨z.1, hh⟩) ⟨m, fun z => by
          rcases List.mem_cons.mp z with z | z
          · exact e z
          · exact hh z⟩
        cases r : H p with
        | none => rfl
        | some o => exact absurd q (s.alive (by rw [r]; exact fun z => nomatch z))
  keep := fun a o ha nt m => by
    have e := s.keep a o ha nt m
    refine t.keep a o e nt fun m1 => ?_
    by_cases hh : a ∈ M.h
    · exact m (s.old a m1 hh)
    · rw [s.new a (fun z => z.1 m1) ⟨m, hh⟩] at ha
      cases ha
  tbl := fun a ps m h => by
    obtain ⟨ps', e⟩ := s.tbl a ps m h
    refine t.tbl a ps' (fun m1 => ?_) e
    by_cases hh : a ∈ M.h
    · exact m (s.old a m1 hh)
    · rw [s.new a (fun z => z.1 m1) ⟨m, hh⟩] at h
      cases h
  there := fun a m h => t.alive (s.there a m h)
  old := fun a m hh => by
    have e := s.hold
    simp only at e
    by_cases q : a ∈ m2
    · exact s.old a q hh
    · have z := t.old a m (List.mem_cons_of_mem _ (by rw [e]; exact hh))
      exact s.old a z hh
  hold := s.hold
/-- an address that was free ahead is written -/
theorem step_free {D : Addr} {ho : HO} (s : Step M H M2 H2) (hD : H D = none) : Step M H M2 (upd H2 D ho) where
  pre := s.pre
  new := s.new
  keep := fun a o h nt m => by rw [upd_ne (ne_of_none h hD)]; exact s.keep a o h nt m
  tbl := fun a ps m h => by rw [upd_ne (ne_of_none h hD)]; exact s.tbl a ps m h
  there := fun a m h => by
    by_cases e : a = D
    · subst e; exact absurd hD h
    · rw [upd_ne e]; exact s.there a m h
  old := s.old
  hold := s.hold
theorem Rep.hide {S : Sto} (r : Rep M H S) {p : Addr} {ho : HO} (hp : H p = none) : Rep (M.hid p) (upd H p ho) S :=
  ⟨r.nd, r.len, fun k q o h1 h2 => by
    obtain ⟨hq, e, b⟩ := r.at_ k q o h1 h2
    refine ⟨hq, by rw [upd_ne (ne_of_none e hp)]; exact e, ?_⟩
    have fp : ∀ {κ : Type} {xs : List (κ × V)} {ws : List (κ × W)}, PVW M H xs ws → PVW (M.hid p) (upd H p ho) xs ws := fun h => Paired.mapP h fun _ _ z => ⟨z.1, hid_vw r hp z.2⟩
    cases b with
    | lst a => exact .lst (hid_vws r hp a)
    | dk a => exact .dk (fp a)
    | dt a => exact .dt (fp a)
    | ins a => exact .ins (fp a)
    | row a =>
      obtain ⟨v, ns, i, z, e, a, q⟩ := a
      exact .row ⟨v, ns, i, z, e, hid_vw r hp a, q⟩
    | any m n => exact .any m n
    | tab t q =>
      refine .tab t fun pos cv e => ?_
      obtain ⟨c, h1, h2, h3⟩ := q pos cv e
      exact ⟨c, h1, ⟨h2.1, fun m => (List.mem_cons.mp m).elim (fun e => ne_of_none h3 hp e) h2.2⟩, by rw [upd_ne (ne_of_none h3 hp)]; exact h3⟩, fun q hq => by
    rcases List.mem_cons.mp hq with e | hq
    · subst e
      exact ⟨(by rw [upd_same]; exact fun z => nomatch z), fun m => r.alive (fun z => z.1 m) hp⟩
    · exact ⟨(step_tmp r (ho := ho) hp).alive (r.hid q hq).1, (r.hid q hq).2⟩, r.tb⟩
/-- what stands but for one address that no value reads -/
theorem step_over {S : Sto} (r : Rep M H S) {p : Addr} {u ho : HO} (hp : p ∈ M.h) (hu : H p = some u) (nt : (∀ ps, u ≠ .tbl ps) ∧ ∀ f, u ≠ .ext f) :
    (∀ w v, VW M H v w → VW M (upd H p ho) v w) ∧ Rep M (upd H p ho) S := by
  have e1 : ∀ {a : Addr}, M.out a → a ≠ p := fun o z => o.2 (z ▸ hp)
  have f : ∀ w v, VW M H v w → VW M (upd H p ho) v w := by
    intro w v h
    refine VW.rec (motive_1 := fun v w _ => VW M (upd H p ho) v w) (motive_2 := fun v w _ => VWs M (upd H p ho) v w) .non .bl .int .str ?_ ?_ ?_ .raw ?_ ?_ ?_ .nil ?_ h
    · intro a xs ws q _ ih
      exact .tup ⟨by rw [upd_ne (e1 q.2)]; exact q.1, q.2⟩ ih
    · intro a xs ws q _ ih
      exact .lst ⟨by rw [upd_ne (e1 q.2)]; exact q.1, q.2⟩ ih
    · intro a k q
      exact .ref q
    · intro K a ns q
      refine .scr ?_
      rcases q with ⟨q, qo⟩ | q
      · refine .inl ⟨?_, qo⟩
        rcases q with z | ⟨o, z⟩
        · exact .inl (by rw [upd_ne (e1 qo)]; exact z)
        · exact .inr ⟨o, by rw [upd_ne (e1 qo)]; exact z⟩
      · exact .inr q
    · intro a d f i q1 q2
      exact .xi q1 (by rw [upd_ne (e1 q1)]; exact q2)
    · intro a fs q
      exact .thg fun z hz => ⟨(q z hz).1, by rw [upd_ne (e1 (q z hz).1)]; exact (q z hz).2.1, (q z hz).2.2⟩
    · intro v vs w ws _ _ i1 i2
      exact .cons i1 i2
  have fs : ∀ {ws vs}, VWs M H vs ws → VWs M (upd H p ho) vs ws := by
    intro ws
    induction ws with
    | nil => intro vs h; cases h; exact .nil
    | cons w ws ih =>
      intro vs h
      cases h with
      | cons a b => exact .cons (f _ _ a) (ih b)
  have fp : ∀ {κ : Type} {xs : List (κ × V)} {ws : List (κ × W)}, PVW M H xs ws → PVW M (upd H p ho) xs ws := fun h => Paired.mapP h fun _ _ r => ⟨r.1, f _ _ r.2⟩
  refine ⟨f, ⟨r.nd, r.len, fun k q o h1 h2 => ?_, fun q hq => ⟨?_, (r.hid q hq).2⟩, r.tb⟩⟩
  · obtain ⟨hq, e, b⟩ := r.at_ k q o h1 h2
    have nq : q ≠ p := fun z => (r.hid p hp).2 (by rw [← z]; exact List.mem_of_getElem? h1)
    refine ⟨hq, by rw [upd_ne nq]; exact e, ?_⟩
    cases b with
    | lst a => exact .lst (fs a)
    | dk a => exact .dk (fp a)
    | dt a => exact .dt (fp a)
    | ins a => exact .ins (fp a)
    | row a =>
      obtain ⟨v, ns, i, z, e, a, q⟩ := a
      exact .row ⟨v, ns, i, z, e, f _ _ a, q⟩
    | any m n => exact .any m n
    | tab t q =>
      refine .tab t fun pos cv e => ?_
      obtain ⟨c, h1, h2, h3⟩ := q pos cv e
      have nc : c ≠ p := fun z => by
        rw [z, hu] at h3
        exact nt.2 _ (Option.some.inj h3)
      exact ⟨c, h1, h2, by rw [upd_ne nc]; exact h3⟩
  · by_cases z : q = p
    · subst z; rw [upd_same]; exact fun z => nomatch z
    · rw [upd_ne z]; exact (r.hid q hq).1
/-- the hidden one is shown: it is a list that nobody changes from now on -/
theorem vw_show {p : Addr} : ∀ {w v}, VW (M.hid p) H v w → VW M H v w := by
  intro w v h
  have o : ∀ {a : Addr}, (M.hid p).out a → M.out a := fun z => ⟨z.1, fun m => z.2 (List.mem_cons_of_mem _ m)⟩
  refine VW.rec (motive_1 := fun v w _ => VW M H v w) (motive_2 := fun v w _ => VWs M H v w) .non .bl .int .str ?_ ?_ ?_ .raw ?_ ?_ ?_ .nil ?_ h
  · intro a xs ws q _ ih
    exact .tup ⟨q.1, o q.2⟩ ih
  · intro a xs ws q _ ih
    exact .lst ⟨q.1, o q.2⟩ ih
  · intro a k q
    exact .ref q
  · intro K a ns q
    refine .scr ?_
    rcases q with ⟨q, qo⟩ | q
    · exact .inl ⟨q, o qo⟩
    · exact .inr q
  · intro a d f i q1 q2
    exact .xi (o q1) q2
  · intro a fs q
    exact .thg fun z hz => ⟨o (q z hz).1, (q z hz).2⟩
  · intro v vs w ws _ _ i1 i2
    exact .cons i1 i2
theorem vws_show {p : Addr} : ∀ {ws vs}, VWs (M.hid p) H vs ws → VWs M H vs ws := by
  intro ws
  induction ws with
  | nil => intro vs h; cases h; exact .nil
  | cons w ws ih =>
    intro vs h
    cases h with
    | cons a b => exact .cons (vw_show a) (ih b)
theorem Rep.show {S : Sto} {p : Addr} (r : Rep (M.hid p) H S) : Rep M H S :=
  ⟨r.nd, r.len, fun k q o h1 h2 => by
    obtain ⟨hq, e, b⟩ := r.at_ k q o h1 h2
    refine ⟨hq, e, ?_⟩
    have fp : ∀ {κ : Type} {xs : List (κ × V)} {ws : List (κ × W)}, PVW (M.hid p) H xs ws → PVW M H xs ws := fun h => Paired.mapP h fun _ _ r => ⟨r.1, vw_show r.2⟩
    cases b with
    | lst a => exact .lst (vws_show a)
    | dk a => exact .dk (fp a)
    | dt a => exact .dt (fp a)
    | ins a => exact .ins (fp a)
    | row a =>
      obtain ⟨v, ns, i, z, e, a, q⟩ := a
      exact .row ⟨v, ns, i, z, e, vw_show a, q⟩
    | any m n => exact .any m n
    | tab t q =>
      refine .tab t fun pos cv e => ?_
      obtain ⟨c, h1, h2, h3⟩ := q pos cv e
      exact ⟨c, h1, ⟨h2.1, fun m => h2.2 (List.mem_cons_of_mem _ m)⟩, h3⟩, fun q hq => r.hid q (List.mem_cons_of_mem _ hq), r.tb⟩
/-! ### slots -/
def EvOk (M : Lay) (H : Hp) (σ : L2.St) (E : AEnv) : Prop :=
  σ.length = E.length ∧ ∀ (i : Nat) w, E[i]? = some (some w) → ∃ v, σ[i]? = some (some v) ∧ VW M H v w
theorem EvOk.step (s : Step M H M2 H2) {σ : L2.St} {E : AEnv} (e : EvOk M H σ E) : EvOk M2 H2 σ E :=
  ⟨e.1, fun i w h => by
    obtain ⟨v, h1, h2⟩ := e.2 i w h
    exact ⟨v, h1, VW.step s _ _ h2⟩⟩
theorem EvOk.set {σ : L2.St} {E : AEnv} (e : EvOk M H σ E) {v : V} {w : W} (h : VW M H v w) (i : Nat) : EvOk M H (σ.set i (some v)) (E.set i (some w)) :=
  ⟨by simp [e.1], fun j u hj => by
    by_cases q : j = i
    · subst q
      have hl : j < E.length := by
        have z := (List.getElem?_eq_some_iff.mp hj).1
        simpa using z
      rw [List.getElem?_set_self hl] at hj
      cases hj
      exact ⟨v, List.getElem?_set_self (by rw [e.1]; exact hl), h⟩
    · rw [List.getElem?_set_ne (fun z => q z.symm)] at hj
      obtain ⟨x, h1, h2⟩ := e.2 j u hj
      exact ⟨x, by rw [List.getElem?_set_ne (fun z => q z.symm)]; exact h1, h2⟩⟩
end

-- AM2

/-! ### judgements -/
/-- what is wanted of an exception: its class, its own fields, the slots, the store -/
abbrev AX := Value → List (Str × W) → AEnv → Sto → Prop
abbrev nox : AX := fun _ _ _ _ => False
def Xd (M : Lay) (H : Hp) : Option Addr → List (Str × W) → Prop
  | none, fs => fs = []
  | some d, fs => fs ≠ [] ∧ M.out d ∧ ∃ kvs, H d = some (.xd kvs) ∧ PVW M H kvs fs
def ExcOk (X : Cx) (M : Lay) (H : Hp) (Ψ : AX) : Prop :=
  ∃ Wx : WX, Takes X Wx ∧ ∀ cls fs E2 S2 M2 H2 d σ2, Ψ cls fs E2 S2 → Rep M2 H2 S2 → EvOk M2 H2 σ2 E2 → Xd M2 H2 d fs → Step M H M2 H2 → Wx cls d σ2 H2
theorem ExcOk.step {X : Cx} {M M2 : Lay} {H H2 : Hp} {Ψ : AX} (x : ExcOk X M H Ψ) (s : Step M H M2 H2) : ExcOk X M2 H2 Ψ := by
  obtain ⟨Wx, t, h⟩ := x
  exact ⟨Wx, t, fun cls fs E2 S2 M3 H3 d σ2 p r e xd s2 => h cls fs E2 S2 M3 H3 d σ2 p r e xd (s.trans s2)⟩
theorem ExcOk.none {X : Cx} {M : Lay} {H : Hp} : ExcOk X M H nox := ⟨_, takes0, fun _ _ _ _ _ _ _ _ p => p.elim⟩
def Got (M : Lay) (H : Hp) (Φ : W → Sto → Prop) (Q : VK) : Prop :=
  ∀ v w M2 S2 H2, Φ w S2 → Rep M2 H2 S2 → VW M2 H2 v w → Step M H M2 H2 → Q v H2
def GotS (M : Lay) (H : Hp) (Φ : List W → Sto → Prop) (Q : List V → Hp → Prop) : Prop :=
  ∀ vs ws M2 S2 H2, Φ ws S2 → Rep M2 H2 S2 → VWs M2 H2 vs ws → Step M H M2 H2 → Q vs H2
def GotT (M : Lay) (H : Hp) (Φ : Bool → Sto → Prop) (Q : Bool → Hp → Prop) : Prop :=
  ∀ k M2 S2 H2, Φ k S2 → Rep M2 H2 S2 → Step M H M2 H2 → Q k H2

def sem (X : Cx) (e : Expr) : TE := fun σ H Q => ∀ pins s, Inv X pins σ H s → wpAny (model X.prog X.w) X.A (eval e X.env) (EP X pins σ Q) X.xe s
def semT (X : Cx) (e : Expr) : TT := fun σ H Q => ∀ pins s, Inv X pins σ H s → wpAny (model X.prog X.w) X.A (isTrue e X.env (eval e X.env)) (TP X pins σ Q) X.xe s
def semW (X : Cx) (e : Expr) : TT := fun σ H Q => ∀ (whole : Sem Value) pins s, Inv X pins σ H s → wpAny (model X.prog X.w) X.A (isTrue e X.env whole) (TP X pins σ Q) X.xe s
def semA (X : Cx) (es : List Expr) : TA := fun σ H Q => ∀ (pos : Pos) pins s, Inv X pins σ H s → wpAny (model X.prog X.w) X.A (spliced (backTo pos (starEach es X.env))) (AP X pins σ Q) X.xe s
def semS (X : Cx) (st : Stmt) : TS := fun D σ H => ∀ pins s, Inv X pins σ H s → wpAny (model X.prog X.w) X.A (exec st X.env) (SP X pins D) X.xe s
def semB (X : Cx) (st : List Stmt) : TS := fun D σ H => ∀ pins s, Inv X pins σ H s → wpAny (model X.prog X.w) X.A (execs st X.env) (SP X pins D) X.xe s
section
variable {X : Cx} {e : Expr} {es : List Expr} {st : Stmt} {sts : List Stmt}
theorem pe_sem : PE X e (sem X e) := ⟨fun pins s _ _ _ I h => h pins s I⟩
theorem pt_sem : PT X e (semT X e) := ⟨fun pins s _ _ _ I h => h pins s I⟩
theorem pw_sem : L2.PW X e (semW X e) := ⟨fun w pins s _ _ _ I h => h w pins s I⟩
theorem pa_sem : PA X es (semA X es) := ⟨fun p pins s _ _ _ I h => h p pins s I⟩
theorem ps_sem : PS X st (semS X st) := ⟨fun pins s _ _ _ I h => h pins s I⟩
theorem pss_sem : PSs X sts (semB X sts) := ⟨fun pins s _ _ _ I h => h pins s I⟩
end

structure wE (X : Cx) (Ψ : AX) (e : Expr) (E : AEnv) (S : Sto) (Φ : W → Sto → Prop) : Prop where
  run : ∀ M σ H, Rep M H S → EvOk M H σ E → ExcOk X M H Ψ → ∀ Q : VK, Got M H Φ Q → sem X e σ H Q
structure wT (X : Cx) (Ψ : AX) (e : Expr) (E : AEnv) (S : Sto) (Φ : Bool → Sto → Prop) : Prop where
  run : ∀ M σ H, Rep M H S → EvOk M H σ E → ExcOk X M H Ψ → ∀ Q, GotT M H Φ Q → semT X e σ H Q
structure wW (X : Cx) (Ψ : AX) (e : Expr) (E : AEnv) (S : Sto) (Φ : Bool → Sto → Prop) : Prop where
  run : ∀ M σ H, Rep M H S → EvOk M H σ E → ExcOk X M H Ψ → ∀ Q, GotT M H Φ Q → semW X e σ H Q
structure wA (X : Cx) (Ψ : AX) (es : List Expr) (E : AEnv) (S : Sto) (Φ : List W → Sto → Prop) : Prop where
  run : ∀ M σ H, Rep M H S → EvOk M H σ E → ExcOk X M H Ψ → ∀ Q, GotS M H Φ Q → semA X es σ H Q
/-- ends of statements -/
structure AE where
  nx : AEnv → Sto → Prop
  rt : W → Sto → Prop
  bk : AEnv → Sto → Prop := fun _ _ => False
  ct : AEnv → Sto → Prop := fun _ _ => False
structure GotB (M : Lay) (H : Hp) (A : AE) (D : Ends) : Prop where
  nx : ∀ σ E M2 S2 H2, A.nx E S2 → Rep M2 H2 S2 → EvOk M2 H2 σ E → Step M H M2 H2 → D.nx σ H2
  rt : Got M H A.rt D.rt
  bk : ∀ σ E M2 S2 H2, A.bk E S2 → Rep M2 H2 S2 → EvOk M2 H2 σ E → Step M H M2 H2 → D.bk σ H2
  ct : ∀ σ E M2 S2 H2, A.ct E S2 → Rep M2 H2 S2 → EvOk M2 H2 σ E → Step M H M2 H2 → D.ct σ H2
structure wS (X : Cx) (Ψ : AX) (st : Stmt) (E : AEnv) (S : Sto) (A : AE) : Prop where
  run : ∀ M σ H, Rep M H S → EvOk M H σ E → ExcOk X M H Ψ → ∀ D, GotB M H A D → semS X st D σ H
structure wB (X : Cx) (Ψ : AX) (st : List Stmt) (E : AEnv) (S : Sto) (A : AE) : Prop where
  run : ∀ M σ H, Rep M H S → EvOk M H σ E → ExcOk X M H Ψ → ∀ D, GotB M H A D → semB X st D σ H
theorem Got.step {M M2 : Lay} {H H2 : Hp} {Φ : W → Sto → Prop} {Q : VK} (g : Got M H Φ Q) (s : Step M H M2 H2) : Got M2 H2 Φ Q :=
  fun v w M3 S3 H3 p r a t => g v w M3 S3 H3 p r a (s.trans t)
theorem GotT.step {M M2 : Lay} {H H2 : Hp} {Φ : Bool → Sto → Prop} {Q : Bool → Hp → Prop} (g : GotT M H Φ Q) (s : Step M H M2 H2) : GotT M2 H2 Φ Q :=
  fun k M3 S3 H3 p r t => g k M3 S3 H3 p r (s.trans t)
theorem GotS.step {M M2 : Lay} {H H2 : Hp} {Φ : List W → Sto → Prop} {Q : List V → Hp → Prop} (g : GotS M H Φ Q) (s : Step M H M2 H2) : GotS M2 H2 Φ Q :=
  fun v w M3 S3 H3 p r a t => g v w M3 S3 H3 p r a (s.trans t)
theorem GotB.step {M M2 : Lay} {H H2 : Hp} {A : AE} {D : Ends} (g : GotB M H A D) (s : Step M H M2 H2) : GotB M2 H2 A D :=
  ⟨fun σ E M3 S3 H3 p r e t => g.nx σ E M3 S3 H3 p r e (s.trans t), g.rt.step s, fun σ E M3 S3 H3 p r e t => g.bk σ E M3 S3 H3 p r e (s.trans t), fun σ E M3 S3 H3 p r e t => g.ct σ E M3 S3 H3 p r e (s.trans t)⟩

section
variable {X : Cx} {Ψ : AX} {a b e : Expr} {es : List Expr} {E : AEnv} {S : Sto} {Φ : W → Sto → Prop} {ΦT : Bool → Sto → Prop} {ΦS : List W → Sto → Prop} {pos : Pos}
theorem wE.of {t : TE} (h : PE X e t) (g : ∀ M σ H, Rep M H S → EvOk M H σ E → ExcOk X M H Ψ → ∀ Q : VK, Got M H Φ Q → t σ H Q) : wE X Ψ e E S Φ :=
  ⟨fun M σ H r ev x Q q pins s I => h.run pins s σ H Q I (g M σ H r ev x Q q)⟩
theorem wT.of {t : TT} (h : PT X e t) (g : ∀ M σ H, Rep M H S → EvOk M H σ E → ExcOk X M H Ψ → ∀ Q, GotT M H ΦT Q → t σ H Q) : wT X Ψ e E S ΦT :=
  ⟨fun M σ H r ev x Q q pins s I => h.run pins s σ H Q I (g M σ H r ev x Q q)⟩
theorem wW.of {t : TT} (h : L2.PW X e t) (g : ∀ M σ H, Rep M H S → EvOk M H σ E → ExcOk X M H Ψ → ∀ Q, GotT M H ΦT Q → t σ H Q) : wW X Ψ e E S ΦT :=
  ⟨fun M σ H r ev x Q q w pins s I => h.run w pins s σ H Q I (g M σ H r ev x Q q)⟩
theorem wA.of {t : TA} (h : PA X es t) (g : ∀ M σ H, Rep M H S → EvOk M H σ E → ExcOk X M H Ψ → ∀ Q, GotS M H ΦS Q → t σ H Q) : wA X Ψ es E S ΦS :=
  ⟨fun M σ H r ev x Q q p pins s I => h.run p pins s σ H Q I (g M σ H r ev x Q q)⟩
theorem wS.of {st : Stmt} {t : TS} {A : AE} (h : PS X st t) (g : ∀ M σ H, Rep M H S → EvOk M H σ E → ExcOk X M H Ψ → ∀ D, GotB M H A D → t D σ H) : wS X Ψ st E S A :=
  ⟨fun M σ H r ev x D q pins s I => h.run pins s σ H D I (g M σ H r ev x D q)⟩
theorem wB.of {st : List Stmt} {t : TS} {A : AE} (h : PSs X st t) (g : ∀ M σ H, Rep M H S → EvOk M H σ E → ExcOk X M H Ψ → ∀ D, GotB M H A D → t D σ H) : wB X Ψ st E S A :=
  ⟨fun M σ H r ev x D q pins s I => h.run pins s σ H D I (g M σ H r ev x D q)⟩
theorem wE.imp {Φ' : W → Sto → Prop} (h : wE X Ψ e E S Φ) (g : ∀ w S', Φ w S' → Φ' w S') : wE X Ψ e E S Φ' :=
  ⟨fun M σ H r ev x Q q => h.run M σ H r ev x Q fun v w M2 S2 H2 p => q v w M2 S2 H2 (g _ _ p)⟩
theorem wT.imp {Φ' : Bool → Sto → Prop} (h : wT X Ψ e E S ΦT) (g : ∀ w S', ΦT w S' → Φ' w S') : wT X Ψ e E S Φ' :=
  ⟨fun M σ H r ev x Q q => h.run M σ H r ev x Q fun w M2 S2 H2 p => q w M2 S2 H2 (g _ _ p)⟩
theorem wB.imp {st : List Stmt} {A A' : AE} (h : wB X Ψ st E S A) (g1 : ∀ w S', A.nx w S' → A'.nx w S') (g2 : ∀ w S', A.rt w S' → A'.rt w S') (g3 : ∀ w S', A.bk w S' → A'.bk w S') (g4 : ∀ w S', A.ct w S' → A'.ct w S') : wB X Ψ st E S A' :=
  ⟨fun M σ H r ev x D q => h.run M σ H r ev x D ⟨fun σ E M2 S2 H2 p => q.nx σ E M2 S2 H2 (g1 _ _ p), fun v w M2 S2 H2 p => q.rt v w M2 S2 H2 (g2 _ _ p), fun σ E M2 S2 H2 p => q.bk σ E M2 S2 H2 (g3 _ _ p), fun σ E M2 S2 H2 p => q.ct σ E M2 S2 H2 (g4 _ _ p)⟩⟩

/-! ### names, constants -/
theorem wE_name {x : Str} {w : W} (i : Nat) (he : E[i]? = some (some w)) (h : Φ w S) (hN : X.N[i]? = some x := by rfl) (hv : Vis X.env.scope x := by first | exact Or.inl rfl | exact Or.inr (Or.inl rfl) | exact Or.inr (Or.inr rfl))
    (hd : (x == ("__debug__" : Str)) = false := by decide) (hcd : (x == ("__classdict__" : Str)) = false := by decide) : wE X Ψ (.Name x pos) E S Φ :=
  wE.of (pe_var (i := i) hN hv hd hcd) fun M σ H r ev _ Q q => by
    obtain ⟨v, h1, h2⟩ := ev.2 i w he
    exact ⟨v, h1, q v w M S H h r h2 (Step.refl M H)⟩
theorem wE_int {i j} (h : Φ (.int i) S) : wE X Ψ (.Constant (.int i) j pos) E S Φ := wE.of pe_int fun M σ H r _ _ Q q => q _ _ M S H h r (.int i) (Step.refl M H)
theorem wE_bl {i j} (h : Φ (.bl i) S) : wE X Ψ (.Constant (.bool i) j pos) E S Φ := wE.of pe_bl fun M σ H r _ _ Q q => q _ _ M S H h r (.bl i) (Step.refl M H)
theorem wE_non {j} (h : Φ .non S) : wE X Ψ (.Constant .none j pos) E S Φ := wE.of pe_non fun M σ H r _ _ Q q => q _ _ M S H h r .non (Step.refl M H)
theorem wE_str {x j} (h : Φ (.str x) S) : wE X Ψ (.Constant (.str x) j pos) E S Φ := wE.of pe_str fun M σ H r _ _ Q q => q _ _ M S H h r (.str x) (Step.refl M H)
/-- a module's constant, an int, a text; a def, a class -/
def cW : W → Option V
  | .non => some .non | .bl b => some (.bl b) | .int i => some (.int i) | .str x => some (.str x) | .raw v => some v | _ => none
theorem vw_c {M : Lay} {H : Hp} {w : W} {v : V} (h : cW w = some v) : VW M H v w := by
  cases w <;> simp [cW] at h <;> subst h
  · exact .non
  · exact .bl _
  · exact .int _
  · exact .str _
  · exact .raw _
theorem wE_glob {x : Str} {v : V} {u : Value} {w : W} (hm : X.mg x = some u) (r : RelV v u) (hw : cW w = some v) (h : Φ w S) (hg : Gl X x := by rfl) (hd : (x == ("__debug__" : Str)) = false := by decide) : wE X Ψ (.Name x pos) E S Φ :=
  wE.of (pe_glob hg hm r hd) fun M σ H r _ _ Q q => q _ _ M S H h r (vw_c hw) (Step.refl M H)
theorem wE_bltn {x : Str} {v : V} {u : Value} (hm : X.mg x = none) (hv : bootBuiltins x = some u) (r : RelV v u) (h : Φ (.raw v) S) (hg : Gl X x := by rfl) (hn : x ≠ "__name__" := by decide) (hd : (x == ("__debug__" : Str)) = false := by decide) : wE X Ψ (.Name x pos) E S Φ :=
  wE.of (pe_bltn hg hm hv r hn hd) fun M σ H r _ _ Q q => q _ _ M S H h r (.raw _) (Step.refl M H)

/-! ### lists of arguments, displays -/
theorem wA_nil (h : ΦS [] S) : wA X Ψ [] E S ΦS := wA.of pa_nil fun M σ H r _ _ Q q => q _ _ M S H h r .nil (Step.refl M H)
theorem wA_cons (h : wE X Ψ e E S fun w S1 => wA X Ψ es E S1 fun ws S2 => ΦS (w :: ws) S2) (hs : starEach (e :: es) X.env = (false, eval e X.env) :: starEach es X.env := by rfl) : wA X Ψ (e :: es) E S ΦS :=
  wA.of (pa_cons pe_sem pa_sem hs) fun M σ H r ev x Q q =>
    h.run M σ H r ev x _ fun v w M1 S1 H1 p r1 a1 s1 => p.run M1 σ H1 r1 (ev.step s1) (x.step s1) _ fun vs ws M2 S2 H2 p2 r2 a2 s2 =>
      q _ _ M2 S2 H2 p2 r2 (.cons (VW.step s2 _ _ a1) a2) (s1.trans s2)
theorem tq_new {M : Lay} {H : Hp} {S : Sto} (r : Rep M H S) {p : Addr} {xs : List V} {ws : List W} (hp : H p = none) (a : VWs M H xs ws) : VW M (upd H p (.tup xs)) (.ref p) (.tup ws) :=
  .tup ⟨upd_same, r.free hp⟩ (VWs.step (step_tmp r hp) _ _ a)
theorem lq_new {M : Lay} {H : Hp} {S : Sto} (r : Rep M H S) {p : Addr} {xs : List V} {ws : List W} (hp : H p = none) (a : VWs M H xs ws) : VW M (upd H p (.lst xs)) (.ref p) (.lst ws) :=
  .lst ⟨upd_same, r.free hp⟩ (VWs.step (step_tmp r hp) _ _ a)
theorem lst_new {M : Lay} {H : Hp} {S : Sto} (r : Rep M H S) {p : Addr} {xs : List V} {ws : List W} (hp : H p = none) (a : VWs M H xs ws) : Rep (M.add p) (upd H p (.lst xs)) (S ++ [.lst ws]) ∧ VW (M.add p) (upd H p (.lst xs)) (.ref p) (.ref S.length) :=
  ⟨r.new hp (.lst (VWs.step (step_new r hp) _ _ a)), .ref (by show (M.m ++ [p])[S.length]? = some p; rw [← r.len, List.getElem?_append_right (Nat.le_refl _)]; simp)⟩
theorem wE_tup {x1} (h : wA X Ψ es E S fun ws S1 => ws.length ≤ 100000 ∧ Φ (.tup ws) S1) : wE X Ψ (.Tuple es x1 pos) E S Φ :=
  wE.of (pe_tup pa_sem) fun M σ H r ev x Q q => h.run M σ H r ev x _ fun vs ws M1 S1 H1 p r1 a1 s1 =>
    ⟨Nat.le_trans (by rw [a1.length]; exact p.1) (by decide), fun ad hp => q _ _ M1 S1 _ p.2 (r1.tmp hp) (tq_new r1 hp a1) (s1.trans (step_tmp r1 hp))⟩
/-- a list that nobody will change -/
theorem wE_lst (h : wA X Ψ es E S fun ws S1 => ws.length ≤ 100000 ∧ Φ (.lst ws) S1) : wE X Ψ (.List es pos) E S Φ :=
  wE.of (pe_lst pa_sem) fun M σ H r ev x Q q => h.run M σ H r ev x _ fun vs ws M1 S1 H1 p r1 a1 s1 =>
    ⟨Nat.le_trans (by rw [a1.length]; exact p.1) (by decide), fun ad hp => q _ _ M1 S1 _ p.2 (r1.tmp hp) (lq_new r1 hp a1) (s1.trans (step_tmp r1 hp))⟩
/-- a list of one's own -/
theorem wE_lstN (h : wA X Ψ es E S fun ws S1 => ws.length ≤ 100000 ∧ Φ (.ref S1.length) (S1 ++ [.lst ws])) : wE X Ψ (.List es pos) E S Φ :=
  wE.of (pe_lst pa_sem) fun M σ H r ev x Q q => h.run M σ H r ev x _ fun vs ws M1 S1 H1 p r1 a1 s1 =>
    ⟨Nat.le_trans (by rw [a1.length]; exact p.1) (by decide), fun ad hp => q _ _ _ _ _ p.2 (lst_new r1 hp a1).1 (lst_new r1 hp a1).2 (s1.trans (step_new r1 hp))⟩

/-! ### two-place operations -/
/-- what an operation on values does with abstract ones -/
def OpW (X : Cx) (r : R2) (g : W → W → Sto → (W → Sto → Prop) → Prop) : Prop :=
  ∀ M H S v u x y Φ, Rep M H S → VW M H v x → VW M H u y → g x y S Φ → ∀ Q, Got M H Φ Q → r v u H Q
theorem two {r : R2} {g : W → W → Sto → (W → Sto → Prop) → Prop} (hw : OpW X r g) (h : wE X Ψ a E S fun x S1 => wE X Ψ b E S1 fun y S2 => g x y S2 Φ)
    {M σ H} (r1 : Rep M H S) (ev : EvOk M H σ E) (x : ExcOk X M H Ψ) {Q} (q : Got M H Φ Q) : tOp r (sem X a) (sem X b) σ H Q :=
  h.run M σ H r1 ev x _ fun v w M1 S1 H1 p1 r1 a1 s1 => p1.run M1 σ H1 r1 (ev.step s1) (x.step s1) _ fun u w2 M2 S2 H2 p2 r2 a2 s2 =>
    hw M2 H2 S2 v u w w2 Φ r2 (VW.step s2 _ _ a1) a2 p2 Q (q.step (s1.trans s2))
theorem wE_op {op : Operator} {r : R2} {g : W → W → Sto → (W → Sto → Prop) → Prop} (ho : OpR X (binaryOp op) r) (hw : OpW X r g) (h : wE X Ψ a E S fun x S1 => wE X Ψ b E S1 fun y S2 => g x y S2 Φ) : wE X Ψ (.BinOp a op b pos) E S Φ :=
  wE.of (pe_op ho pe_sem pe_sem) fun M σ H r1 ev x Q q => two hw h r1 ev x q
/-- .. that changes nothing -/
theorem opw_pure {r : R2} {g : W → W → Sto → (W → Sto → Prop) → Prop} (h : ∀ M H S v u x y Φ, Rep M H S → VW M H v x → VW M H u y → g x y S Φ → ∀ Q : VK, (∀ z w, Φ w S → VW M H z w → Q z H) → r v u H Q) : OpW X r g :=
  fun M H S v u x y Φ r a1 a2 gg Q q => h M H S v u x y Φ r a1 a2 gg Q fun z w p az => q z w M S H p r az (Step.refl M H)
def gI (C : Int → Int → Prop) (f : Int → Int → W) : W → W → Sto → (W → Sto → Prop) → Prop := fun x y S Φ => ∃ i j, x = .int i ∧ y = .int j ∧ C i j ∧ Φ (f i j) S
theorem opw_I {C : Int → Int → Prop} {f : Int → Int → Int} : OpW X (rI C fun i j => .int (f i j)) (gI C fun i j => .int (f i j)) := opw_pure fun M H S v u x y Φ r a1 a2 gg Q q => by
  obtain ⟨i, j, rfl, rfl, c, p⟩ := gg
  cases a1; cases a2
  exact ⟨i, j, rfl, rfl, c, q _ _ p (.int _)⟩
theorem opw_I0 {f : Int → Int → Int} : OpW X (rI0 fun i j => .int (f i j)) (gI (fun _ _ => True) fun i j => .int (f i j)) := opw_pure fun M H S v u x y Φ r a1 a2 gg Q q => by
  obtain ⟨i, j, rfl, rfl, _, p⟩ := gg
  cases a1; cases a2
  exact ⟨i, j, rfl, rfl, q _ _ p (.int _)⟩
theorem opw_B0 {f : Int → Int → Bool} : OpW X (rI0 fun i j => .bl (f i j)) (gI (fun _ _ => True) fun i j => .bl (f i j)) := opw_pure fun M H S v u x y Φ r a1 a2 gg Q q => by
  obtain ⟨i, j, rfl, rfl, _, p⟩ := gg
  cases a1; cases a2
  exact ⟨i, j, rfl, rfl, q _ _ p (.bl _)⟩
theorem wE_sub (h : wE X Ψ a E S fun x S1 => wE X Ψ b E S1 fun y S2 => ∃ i j, x = .int i ∧ y = .int j ∧ True ∧ Φ (.int (i - j)) S2) : wE X Ψ (.BinOp a .Sub b pos) E S Φ := wE_op op_sub opw_I0 h
theorem wE_mul (h : wE X Ψ a E S fun x S1 => wE X Ψ b E S1 fun y S2 => ∃ i j, x = .int i ∧ y = .int j ∧ CMul i j ∧ Φ (.int (i * j)) S2) : wE X Ψ (.BinOp a .Mult b pos) E S Φ := wE_op op_mul opw_I h
theorem wE_mod (h : wE X Ψ a E S fun x S1 => wE X Ψ b E S1 fun y S2 => ∃ i j, x = .int i ∧ y = .int j ∧ 0 < j ∧ Φ (.int (i % j)) S2) : wE X Ψ (.BinOp a .Mod b pos) E S Φ := wE_op op_mod opw_I h
theorem wE_fdiv (h : wE X Ψ a E S fun x S1 => wE X Ψ b E S1 fun y S2 => ∃ i j, x = .int i ∧ y = .int j ∧ CDiv i j ∧ Φ (.int (i / j)) S2) : wE X Ψ (.BinOp a .FloorDiv b pos) E S Φ := wE_op op_fdiv opw_I h
end

-- AM3

/-! ### data -/
mutual
def W.d : W → PyData
  | .non => .none | .bl b => .bool b | .int i => .int i | .str x => .str x
  | .tup ws => .tuple (W.ds ws) | .lst ws => .list (W.ds ws) | .ref _ => .none | .raw _ => .none | .scr _ _ => .none | .xi _ _ _ _ => .none | .thg _ _ => .none
def W.ds : List W → List PyData
  | [] => []
  | w :: ws => w.d :: W.ds ws
end
mutual
def W.ok : W → Nat → Bool
  | .non, _ => true | .bl _, _ => true | .int _, _ => true | .str x, _ => PyData.strOk x
  | .tup ws, n => match n with
    | 0 => false
    | n + 1 => W.oks ws n
  | .lst ws, n => match n with
    | 0 => false
    | n + 1 => W.oks ws n
  | .ref _, _ => false | .raw _, _ => false | .scr _ _, _ => false | .xi _ _ _ _, _ => false | .thg _ _, _ => false
def W.oks : List W → Nat → Bool
  | [], _ => true
  | w :: ws, n => w.ok n && W.oks ws n
end
theorem W.oks_all {ws : List W} {n : Nat} : W.oks ws n = ws.all (fun w => w.ok n) := by
  induction ws with
  | nil => rfl
  | cons w ws ih => simp [W.oks, ih]
theorem W.ds_map {ws : List W} : W.ds ws = ws.map W.d := by
  induction ws with
  | nil => rfl
  | cons w ws ih => simp [W.ds, ih]
mutual
theorem W.ok_mono : ∀ (w : W) {n m : Nat}, n ≤ m → w.ok n = true → w.ok m = true
  | .non, _, _, _, _ => by simp [W.ok]
  | .bl _, _, _, _, _ => by simp [W.ok]
  | .int _, _, _, _, _ => by simp [W.ok]
  | .str _, _, _, _, q => by simpa [W.ok] using q
  | .tup ws, n, m, h, q => by
    cases n with
    | zero => simp [W.ok] at q
    | succ n => cases m with
      | zero => omega
      | succ m => simp only [W.ok] at q ⊢; exact W.oks_mono ws (by omega) q
  | .lst ws, n, m, h, q => by
    cases n with
    | zero => simp [W.ok] at q
    | succ n => cases m with
      | zero => omega
      | succ m => simp only [W.ok] at q ⊢; exact W.oks_mono ws (by omega) q
  | .ref _, _, _, _, q => by simp [W.ok] at q
  | .raw _, _, _, _, q => by simp [W.ok] at q
  | .scr _ _, _, _, _, q => by simp [W.ok] at q
  | .xi _ _ _ _, _, _, _, q => by simp [W.ok] at q
  | .thg _ _, _, _, _, q => by simp [W.ok] at q
theorem W.oks_mono : ∀ (ws : List W) {n m : Nat}, n ≤ m → W.oks ws n = true → W.oks ws m = true
  | [], _, _, _, _ => rfl
  | w :: ws, n, m, h, q => by
    simp only [W.oks, Bool.and_eq_true] at q ⊢
    exact ⟨W.ok_mono w h q.1, W.oks_mono ws h q.2⟩
end
mutual
theorem W.lay : ∀ (w : W) (n : Nat), w.ok n = true → w.d.canLay0 = true ∧ w.d.depth ≤ n + 1
  | .non, n, _ => by simp [W.d, PyData.canLay0, PyData.depth]
  | .bl _, n, _ => by simp [W.d, PyData.canLay0, PyData.depth]
  | .int _, n, _ => by simp [W.d, PyData.canLay0, PyData.depth]
  | .str _, n, q => by simpa [W.d, PyData.canLay0, PyData.depth, W.ok] using q
  | .tup ws, n, q => by
    cases n with
    | zero => simp [W.ok] at q
    | succ n =>
      simp only [W.ok] at q
      have h := W.lays ws n q
      simp only [W.d, PyData.canLay0, PyData.depth]
      exact ⟨h.1, by omega⟩
  | .lst ws, n, q => by
    cases n with
    | zero => simp [W.ok] at q
    | succ n =>
      simp only [W.ok] at q
      have h := W.lays ws n q
      simp only [W.d, PyData.canLay0, PyData.depth]
      exact ⟨h.1, by omega⟩
  | .ref _, _, q => by simp [W.ok] at q
  | .raw _, _, q => by simp [W.ok] at q
  | .scr _ _, _, q => by simp [W.ok] at q
  | .xi _ _ _ _, _, q => by simp [W.ok] at q
  | .thg _ _, _, q => by simp [W.ok] at q
theorem W.lays : ∀ (ws : List W) (n : Nat), W.oks ws n = true → PyData.canLayAll0 (W.ds ws) = true ∧ PyData.depthAll (W.ds ws) ≤ n + 1
  | [], n, _ => by simp [W.ds, PyData.canLayAll0, PyData.depthAll]
  | w :: ws, n, q => by
    simp only [W.oks, Bool.and_eq_true] at q
    have h1 := W.lay w n q.1
    have h2 := W.lays ws n q.2
    simp only [W.ds, PyData.canLayAll0, PyData.depthAll, Bool.and_eq_true]
    exact ⟨⟨h1.1, h2.1⟩, by omega⟩
end
theorem W.shaped {w : W} {n : Nat} (h : w.ok n = true) (hn : n ≤ 60) : SeqAt.shaped w.d = true := by
  have q := W.lay w n h
  show (w.d.canLay0 && decide (w.d.depth ≤ 64)) = true
  rw [q.1, Bool.true_and]
  exact decide_eq_true (by omega)
/- what a value is, the mutable lists looked up -/
mutual
inductive Den (S : Sto) : W → PyData → Prop
  | non : Den S .non .none
  | bl (b : Bool) : Den S (.bl b) (.bool b)
  | int (i : Int) : Den S (.int i) (.int i)
  | str (x : Str) : Den S (.str x) (.str x)
  | tup {ws ds} : DenAll S ws ds → Den S (.tup ws) (.tuple ds)
  | lst {ws ds} : DenAll S ws ds → Den S (.lst ws) (.list ds)
  | ref {k ws ds} : S[k]? = some (.lst ws) → DenAll S ws ds → Den S (.ref k) (.list ds)
inductive DenAll (S : Sto) : List W → List PyData → Prop
  | nil : DenAll S [] []
  | cons {w ws d ds} : Den S w d → DenAll S ws ds → DenAll S (w :: ws) (d :: ds)
end
mutual
theorem Den.of {S : Sto} : ∀ (w : W) (n : Nat), w.ok n = true → Den S w w.d
  | .non, _, _ => .non
  | .bl b, _, _ => .bl b
  | .int i, _, _ => .int i
  | .str x, _, _ => .str x
  | .tup ws, n, q => by
    cases n with
    | zero => simp [W.ok] at q
    | succ n => exact .tup (DenAll.of ws n (by simpa [W.ok] using q))
  | .lst ws, n, q => by
    cases n with
    | zero => simp [W.ok] at q
    | succ n => exact .lst (DenAll.of ws n (by simpa [W.ok] using q))
  | .ref _, _, q => by simp [W.ok] at q
  | .raw _, _, q => by simp [W.ok] at q
  | .scr _ _, _, q => by simp [W.ok] at q
  | .xi _ _ _ _, _, q => by simp [W.ok] at q
  | .thg _ _, _, q => by simp [W.ok] at q
theorem DenAll.of {S : Sto} : ∀ (ws : List W) (n : Nat), W.oks ws n = true → DenAll S ws (W.ds ws)
  | [], _, _ => .nil
  | w :: ws, n, q => by
    simp only [W.oks, Bool.and_eq_true] at q
    exact .cons (Den.of w n q.1) (DenAll.of ws n q.2)
end
section
variable {K : PySem.W.Frag} {M : Lay} {H : Hp} {S : Sto}
theorem Rep.lst (r : Rep M H S) {k : Nat} {ws : List W} (h : S[k]? = some (.lst ws)) : ∃ p xs, M.m[k]? = some p ∧ H p = some (.lst xs) ∧ VWs M H xs ws := by
  obtain ⟨p, ho, h1, h2, b⟩ := r.at' h
  cases b with
  | lst a => exact ⟨p, _, h1, h2, a⟩
mutual
theorem VW.dp (r : Rep M H S) : ∀ (d : PyData) (w : W) (v : V), VW M H v w → Den S w d → Dp K H v d
  | .none, _, _, a, b => by cases b; cases a; exact .non
  | .bool _, _, _, a, b => by cases b; cases a; exact .bl _
  | .int _, _, _, a, b => by cases b; cases a; exact .int _
  | .str _, _, _, a, b => by cases b; cases a; exact .str _
  | .tuple ds, _, _, a, b => by
    cases b with
    | tup b => cases a with
      | tup q a => exact .tup q.sq (VWs.dp r ds _ _ a b)
  | .list ds, _, _, a, b => by
    cases b with
    | lst b => cases a with
      | lst q a => exact .lst q.sq (VWs.dp r ds _ _ a b)
    | ref hk b => cases a with
      | ref hm =>
        obtain ⟨p, xs, h1, h2, h3⟩ := r.lst hk
        rw [hm] at h1; cases h1
        exact .lst (SqL.of h2) (VWs.dp r ds _ _ h3 b)
  | .dict _, _, _, a, b => by cases b
theorem VWs.dp (r : Rep M H S) : ∀ (ds : List PyData) (ws : List W) (vs : List V), VWs M H vs ws → DenAll S ws ds → DpAll K H vs ds
  | [], _, _, a, b => by cases b; cases a; exact .nil
  | d :: ds, _, _, a, b => by
    cases b with
    | cons b1 b2 => cases a with
      | cons a1 a2 => exact .cons (VW.dp r d _ _ a1 b1) (VWs.dp r ds _ _ a2 b2)
end
end
def eqW (x y : W) : Bool := PyData.eqv x.d y.d
def inW (x : W) (ws : List W) : Bool := ws.any fun z => eqW z x

/-! ### comparisons -/
section
variable {X : Cx} {Ψ : AX} {a b c e : Expr} {es : List Expr} {E : AEnv} {S : Sto} {Φ : W → Sto → Prop} {ΦT : Bool → Sto → Prop} {ΦS : List W → Sto → Prop} {pos : Pos}
theorem wE_cmp {op : CmpOp} {r : R2} {g : W → W → Sto → (W → Sto → Prop) → Prop} (ho : OpR X (compareOp op) r) (hw : OpW X r g) (h : wE X Ψ a E S fun x S1 => wE X Ψ b E S1 fun y S2 => g x y S2 Φ) (hm : behindInMarks op b = false := by first | exact nomark _ | rfl) : wE X Ψ (.Compare a [op] [b] pos) E S Φ :=
  wE.of (pe_cmpR ho pe_sem pe_sem hm) fun M σ H r1 ev x Q q => two hw h r1 ev x q
theorem wT_cmp {op : CmpOp} {r : R2} {g : W → W → Sto → (W → Sto → Prop) → Prop} (ho : OpR X (compareOp op) r) (hw : OpW X r g) (h : wE X Ψ a E S fun x S1 => wE X Ψ b E S1 fun y S2 => g x y S2 fun w S3 => ∃ k, w = .bl k ∧ ΦT k S3) (hm : behindInMarks op b = false := by first | exact nomark _ | rfl) : wT X Ψ (.Compare a [op] [b] pos) E S ΦT :=
  wT.of (pt_cmpR ho pe_sem pe_sem hm) fun M σ H r1 ev x Q q => two hw h r1 ev x fun z w M2 S2 H2 p r2 a2 s2 => by
    obtain ⟨k, rfl, p⟩ := p
    cases a2
    exact ⟨k, rfl, q k M2 S2 H2 p r2 s2⟩
abbrev G2 := W → W → Sto → (W → Sto → Prop) → Prop
abbrev gEq : G2 := fun x y S Φ => x.ok 60 = true ∧ y.ok 60 = true ∧ Φ (.bl (eqW x y)) S
abbrev gNe : G2 := fun x y S Φ => x.ok 60 = true ∧ y.ok 60 = true ∧ Φ (.bl (!eqW x y)) S
abbrev gEqD : G2 := fun x y S Φ => ∃ d e, Den S x d ∧ Den S y e ∧ SeqAt.shaped d = true ∧ SeqAt.shaped e = true ∧ Φ (.bl (PyData.eqv d e)) S
abbrev gNeD : G2 := fun x y S Φ => ∃ d e, Den S x d ∧ Den S y e ∧ SeqAt.shaped d = true ∧ SeqAt.shaped e = true ∧ Φ (.bl (!PyData.eqv d e)) S
theorem opw_eqD : OpW X (rEqD X.K) gEqD := opw_pure fun M H S v u x y Φ r a1 a2 ⟨d, e, h1, h2, h3, h4, p⟩ Q q => ⟨d, e, VW.dp r _ _ _ a1 h1, VW.dp r _ _ _ a2 h2, h3, h4, q _ _ p (.bl _)⟩
theorem opw_neD : OpW X (rNeD X.K) gNeD := opw_pure fun M H S v u x y Φ r a1 a2 ⟨d, e, h1, h2, h3, h4, p⟩ Q q => ⟨d, e, VW.dp r _ _ _ a1 h1, VW.dp r _ _ _ a2 h2, h3, h4, q _ _ p (.bl _)⟩
theorem opw_eq : OpW X (rEqD X.K) gEq := fun M H S v u x y Φ r a1 a2 ⟨h1, h2, p⟩ Q q => opw_eqD (X := X) M H S v u x y Φ r a1 a2 ⟨_, _, Den.of x _ h1, Den.of y _ h2, W.shaped h1 (Nat.le_refl _), W.shaped h2 (Nat.le_refl _), p⟩ Q q
theorem opw_ne : OpW X (rNeD X.K) gNe := fun M H S v u x y Φ r a1 a2 ⟨h1, h2, p⟩ Q q => opw_neD (X := X) M H S v u x y Φ r a1 a2 ⟨_, _, Den.of x _ h1, Den.of y _ h2, W.shaped h1 (Nat.le_refl _), W.shaped h2 (Nat.le_refl _), p⟩ Q q
abbrev gLt : G2 := gI (fun _ _ => True) fun i j => .bl (decide (i < j))
/-- is None, of any thing -/
def isNonW : W → Option Bool
  | .non => some true | .raw .non => some true | .raw _ => some false | _ => some false
abbrev gIsN : G2 := fun x y S Φ => y = .non ∧ ∃ k, isNonW x = some k ∧ Φ (.bl k) S
abbrev gNotN : G2 := fun x y S Φ => y = .non ∧ ∃ k, isNonW x = some k ∧ Φ (.bl (!k)) S
theorem isNon_ok {M : Lay} {H : Hp} {v : V} {x : W} {k : Bool} (a : VW M H v x) (h : isNonW x = some k) : decide (v = .non) = k := by
  cases a with
  | raw v => cases v <;> simp [isNonW] at h <;> simp [h]
  | _ => simp [isNonW] at h <;> simp [h]
theorem opw_isN : OpW X (fun x y H Q => y = .non ∧ Q (.bl (decide (x = .non))) H) gIsN := opw_pure fun M H S v u x y Φ r a1 a2 ⟨e, k, hk, p⟩ Q q => by
  subst e
  cases a2
  refine ⟨rfl, ?_⟩
  rw [isNon_ok a1 hk]
  exact q _ _ p (.bl _)
theorem opw_notN : OpW X (fun x y H Q => y = .non ∧ Q (.bl (!decide (x = .non))) H) gNotN := opw_pure fun M H S v u x y Φ r a1 a2 ⟨e, k, hk, p⟩ Q q => by
  subst e
  cases a2
  refine ⟨rfl, ?_⟩
  rw [isNon_ok a1 hk]
  exact q _ _ p (.bl _)
/-- low <= x <= high -/
theorem wE_chainI {f g : Int → Int → Bool} {op op' : CmpOp} (ho : OpR X (compareOp op) (rI0 fun i j => .bl (f i j))) (ho' : OpR X (compareOp op') (rI0 fun i j => .bl (g i j)))
    (h : wE X Ψ a E S fun x S1 => wE X Ψ b E S1 fun y S2 => ∃ i j, x = .int i ∧ y = .int j ∧ if f i j = true then wE X Ψ c E S2 (fun z S3 => ∃ k, z = .int k ∧ Φ (.bl (g j k)) S3) else Φ (.bl false) S2)
    (hm : lastMarks [op, op'] [b, c] = false := by with_unfolding_all rfl) : wE X Ψ (.Compare a [op, op'] [b, c] pos) E S Φ :=
  wE.of (pe_chain ho ho' pe_sem pe_sem pe_sem hm) fun M σ H r1 ev x Q q => h.run M σ H r1 ev x _ fun v w M1 S1 H1 p1 r1 a1 s1 => p1.run M1 σ H1 r1 (ev.step s1) (x.step s1) _ fun u w2 M2 S2 H2 p2 r2 a2 s2 => by
    obtain ⟨i, j, rfl, rfl, p2⟩ := p2
    have a1' := VW.step s2 _ _ a1
    cases a1'; cases a2
    refine ⟨i, j, rfl, rfl, f i j, rfl, ?_⟩
    cases hf : f i j with
    | true =>
      rw [hf] at p2
      refine L2.iteT ((show wE X Ψ c E S2 _ from p2).run M2 σ H2 r2 ((ev.step s1).step s2) ((x.step s1).step s2) _ fun t w3 M3 S3 H3 p3 r3 a3 s3 => ?_)
      obtain ⟨k, rfl, p3⟩ := p3
      cases a3
      exact ⟨j, k, rfl, rfl, q _ _ M3 S3 H3 p3 r3 (.bl _) ((s1.trans s2).trans s3)⟩
    | false =>
      rw [hf] at p2
      exact L2.iteF (q _ _ M2 S2 H2 p2 r2 (.bl _) (s1.trans s2))
end

-- AM4

section
variable {X : Cx} {Ψ : AX} {a b c e o : Expr} {es rest : List Expr} {E : AEnv} {S : Sto} {Φ : W → Sto → Prop} {ΦT : Bool → Sto → Prop} {ΦS : List W → Sto → Prop} {pos : Pos}
theorem wE_cmpEq (hu : X.A.units + 65 < cLine) (h : wE X Ψ a E S fun x S1 => wE X Ψ b E S1 fun y S2 => gEq x y S2 Φ) : wE X Ψ (.Compare a [.Eq] [b] pos) E S Φ := wE_cmp (op_eqD (by omega)) opw_eq h
theorem wE_cmpNe (hu : X.A.units + 65 < cLine) (h : wE X Ψ a E S fun x S1 => wE X Ψ b E S1 fun y S2 => gNe x y S2 Φ) : wE X Ψ (.Compare a [.NotEq] [b] pos) E S Φ := wE_cmp (op_neD (by omega)) opw_ne h
theorem wT_cmpEq (hu : X.A.units + 65 < cLine) (h : wE X Ψ a E S fun x S1 => wE X Ψ b E S1 fun y S2 => x.ok 60 = true ∧ y.ok 60 = true ∧ ΦT (eqW x y) S2) : wT X Ψ (.Compare a [.Eq] [b] pos) E S ΦT :=
  wT_cmp (op_eqD (by omega)) opw_eq (h.imp fun w S1 q => q.imp fun y S2 p => ⟨p.1, p.2.1, _, rfl, p.2.2⟩)
theorem wT_cmpNe (hu : X.A.units + 65 < cLine) (h : wE X Ψ a E S fun x S1 => wE X Ψ b E S1 fun y S2 => x.ok 60 = true ∧ y.ok 60 = true ∧ ΦT (!eqW x y) S2) : wT X Ψ (.Compare a [.NotEq] [b] pos) E S ΦT :=
  wT_cmp (op_neD (by omega)) opw_ne (h.imp fun w S1 q => q.imp fun y S2 p => ⟨p.1, p.2.1, _, rfl, p.2.2⟩)
theorem wT_cmpEqD (hu : X.A.units + 65 < cLine) (h : wE X Ψ a E S fun x S1 => wE X Ψ b E S1 fun y S2 => ∃ d e, Den S2 x d ∧ Den S2 y e ∧ SeqAt.shaped d = true ∧ SeqAt.shaped e = true ∧ ΦT (PyData.eqv d e) S2) : wT X Ψ (.Compare a [.Eq] [b] pos) E S ΦT :=
  wT_cmp (op_eqD (by omega)) opw_eqD (h.imp fun w S1 q => q.imp fun y S2 ⟨d, e, p1, p2, p3, p4, p⟩ => ⟨d, e, p1, p2, p3, p4, _, rfl, p⟩)
theorem wT_cmpNeD (hu : X.A.units + 65 < cLine) (h : wE X Ψ a E S fun x S1 => wE X Ψ b E S1 fun y S2 => ∃ d e, Den S2 x d ∧ Den S2 y e ∧ SeqAt.shaped d = true ∧ SeqAt.shaped e = true ∧ ΦT (!PyData.eqv d e) S2) : wT X Ψ (.Compare a [.NotEq] [b] pos) E S ΦT :=
  wT_cmp (op_neD (by omega)) opw_neD (h.imp fun w S1 q => q.imp fun y S2 ⟨d, e, p1, p2, p3, p4, p⟩ => ⟨d, e, p1, p2, p3, p4, _, rfl, p⟩)
theorem wT_cmpI {op : CmpOp} {f : Int → Int → Bool} (ho : OpR X (compareOp op) (rI0 fun i j => .bl (f i j))) (h : wE X Ψ a E S fun x S1 => wE X Ψ b E S1 fun y S2 => ∃ i j, x = .int i ∧ y = .int j ∧ ΦT (f i j) S2) (hm : behindInMarks op b = false := by first | exact nomark _ | rfl) : wT X Ψ (.Compare a [op] [b] pos) E S ΦT :=
  wT_cmp ho opw_B0 (h.imp fun w S1 q => q.imp fun y S2 ⟨i, j, e1, e2, p⟩ => ⟨i, j, e1, e2, True.intro, _, rfl, p⟩) hm
theorem wE_cmpI {op : CmpOp} {f : Int → Int → Bool} (ho : OpR X (compareOp op) (rI0 fun i j => .bl (f i j))) (h : wE X Ψ a E S fun x S1 => wE X Ψ b E S1 fun y S2 => ∃ i j, x = .int i ∧ y = .int j ∧ Φ (.bl (f i j)) S2) (hm : behindInMarks op b = false := by first | exact nomark _ | rfl) : wE X Ψ (.Compare a [op] [b] pos) E S Φ :=
  wE_cmp ho opw_B0 (h.imp fun w S1 q => q.imp fun y S2 ⟨i, j, e1, e2, p⟩ => ⟨i, j, e1, e2, True.intro, p⟩) hm
theorem wT_isN (h : wE X Ψ a E S fun x S1 => ∃ k, isNonW x = some k ∧ ΦT k S1) {j pos'} : wT X Ψ (.Compare a [.Is] [.Constant .none j pos'] pos) E S ΦT :=
  wT_cmp op_isN opw_isN (h.imp fun w S1 ⟨k, e, p⟩ => wE_non ⟨rfl, k, e, _, rfl, p⟩)
theorem wT_notN (h : wE X Ψ a E S fun x S1 => ∃ k, isNonW x = some k ∧ ΦT (!k) S1) {j pos'} : wT X Ψ (.Compare a [.IsNot] [.Constant .none j pos'] pos) E S ΦT :=
  wT_cmp op_notN opw_notN (h.imp fun w S1 ⟨k, e, p⟩ => wE_non ⟨rfl, k, e, _, rfl, p⟩)
theorem wE_isN (h : wE X Ψ a E S fun x S1 => ∃ k, isNonW x = some k ∧ Φ (.bl k) S1) {j pos'} : wE X Ψ (.Compare a [.Is] [.Constant .none j pos'] pos) E S Φ :=
  wE_cmp op_isN opw_isN (h.imp fun w S1 ⟨k, e, p⟩ => wE_non ⟨rfl, k, e, p⟩)
theorem wE_notN (h : wE X Ψ a E S fun x S1 => ∃ k, isNonW x = some k ∧ Φ (.bl (!k)) S1) {j pos'} : wE X Ψ (.Compare a [.IsNot] [.Constant .none j pos'] pos) E S Φ :=
  wE_cmp op_notN opw_notN (h.imp fun w S1 ⟨k, e, p⟩ => wE_non ⟨rfl, k, e, p⟩)

/-! ### in -/
def rInTD (K : PySem.W.Frag) (neg : Bool) : R2 := fun x y H Q => ∃ d ds, Dp K H x d ∧ Dp K H y (.tuple ds) ∧ SeqAt.shaped d = true ∧ SeqAt.shaped (.tuple ds) = true ∧ Q (.bl (if neg then !ds.any fun z => PyData.eqv z d else ds.any fun z => PyData.eqv z d)) H
theorem op_inTD (hu : X.A.units + 65 < cLine) : OpR X (compareOp .In) (rInTD X.K false) := by
  intro pins s σ H x y v u Q I rx ry h
  obtain ⟨d, ds, hd, he, sd, se, q⟩ := h
  obtain ⟨as, r1⟩ := Dp.reads I d x v hd rx
  obtain ⟨bs, r2⟩ := Dp.reads I (.tuple ds) y u he ry
  exact SeqAt.in_tuple_reads r2 r1 (SeqAt.canLay_of_shaped se) (SeqAt.canLay_of_shaped sd) (room_in_shaped sd hu) ⟨.bl _, H, I, rfl, q⟩
theorem op_notInTD (hu : X.A.units + 65 < cLine) : OpR X (compareOp .NotIn) (rInTD X.K true) := by
  intro pins s σ H x y v u Q I rx ry h
  obtain ⟨d, ds, hd, he, sd, se, q⟩ := h
  obtain ⟨as, r1⟩ := Dp.reads I d x v hd rx
  obtain ⟨bs, r2⟩ := Dp.reads I (.tuple ds) y u he ry
  exact SeqAt.notIn_tuple_reads r2 r1 (SeqAt.canLay_of_shaped se) (SeqAt.canLay_of_shaped sd) (room_in_shaped sd hu) ⟨.bl _, H, I, rfl, q⟩
/-- the items of a list or a tuple -/
def itemsW (S : Sto) : W → Option (List W)
  | .tup ws => some ws | .lst ws => some ws
  | .ref k => match S[k]? with
    | some (.lst ws) => some ws
    | _ => none
  | _ => none
theorem items_ref {S : Sto} {k : Nat} {ws : List W} (h : itemsW S (.ref k) = some ws) : S[k]? = some (.lst ws) := by
  have e : itemsW S (.ref k) = (match S[k]? with
    | some (.lst ws) => some ws
    | _ => none) := rfl
  rw [e] at h
  split at h
  · rename_i ws' hk
    cases h
    exact hk
  · cases h
theorem any_ds {x : W} {ws : List W} : ((W.ds ws).any fun z => PyData.eqv z x.d) = inW x ws := by
  rw [W.ds_map, List.any_map]
  rfl
def rInAny (K : PySem.W.Frag) (neg : Bool) : R2 := fun x y H Q => (if neg then rNotInD K x y H Q else rInD K x y H Q) ∨ rInTD K neg x y H Q
abbrev gIn (neg : Bool) : G2 := fun x y S Φ => ∃ ws, itemsW S y = some ws ∧ x.ok 59 = true ∧ W.oks ws 59 = true ∧ Φ (.bl (if neg then !inW x ws else inW x ws)) S
theorem op_inAny (hu : X.A.units + 65 < cLine) : OpR X (compareOp .In) (rInAny X.K false) := OpR.or (op_inD hu) (op_inTD hu)
theorem op_notInAny (hu : X.A.units + 65 < cLine) : OpR X (compareOp .NotIn) (rInAny X.K true) := OpR.or (op_notInD hu) (op_notInTD hu)
theorem opw_in {neg : Bool} : OpW X (rInAny X.K neg) (gIn neg) := opw_pure fun M H S v u x y Φ r a1 a2 ⟨ws, hi, h1, h2, p⟩ Q q => by
  have dx := VW.dp (K := X.K) r _ _ _ a1 (Den.of x _ h1)
  have sx := W.shaped h1 (by decide)
  have sl : SeqAt.shaped (.list (W.ds ws)) = true := W.shaped (w := .lst ws) (n := 60) h2 (Nat.le_refl _)
  have st : SeqAt.shaped (.tuple (W.ds ws)) = true := W.shaped (w := .tup ws) (n := 60) h2 (Nat.le_refl _)
  have dy : Dp X.K H u (.list (W.ds ws)) ∨ Dp X.K H u (.tuple (W.ds ws)) := by
    cases y with
    | tup ws' => cases hi; exact .inr (VW.dp r _ _ _ a2 (.tup (DenAll.of ws _ h2)))
    | lst ws' => cases hi; exact .inl (VW.dp r _ _ _ a2 (.lst (DenAll.of ws _ h2)))
    | ref k => exact .inl (VW.dp r _ _ _ a2 (.ref (items_ref hi) (DenAll.of ws _ h2)))
    | _ => cases hi
  have e := any_ds (x := x) (ws := ws)
  rcases dy with dy | dy
  · left
    cases neg with
    | true => exact ⟨_, _, dx, dy, sx, sl, by rw [e]; exact q _ _ p (.bl _)⟩
    | false => exact ⟨_, _, dx, dy, sx, sl, by rw [e]; exact q _ _ p (.bl _)⟩
  · right
    cases neg with
    | true => exact ⟨_, _, dx, dy, sx, st, by rw [e]; exact q _ _ p (.bl _)⟩
    | false => exact ⟨_, _, dx, dy, sx, st, by rw [e]; exact q _ _ p (.bl _)⟩
theorem wT_in (hu : X.A.units + 65 < cLine) (h : wE X Ψ a E S fun x S1 => wE X Ψ b E S1 fun y S2 => ∃ ws, itemsW S2 y = some ws ∧ x.ok 59 = true ∧ W.oks ws 59 = true ∧ ΦT (inW x ws) S2) (hm : behindInMarks .In b = false := by rfl) : wT X Ψ (.Compare a [.In] [b] pos) E S ΦT :=
  wT_cmp (op_inAny hu) opw_in (h.imp fun w S1 q => q.imp fun y S2 ⟨ws, p1, p2, p3, p⟩ => ⟨ws, p1, p2, p3, _, rfl, p⟩) hm
theorem wT_notIn (hu : X.A.units + 65 < cLine) (h : wE X Ψ a E S fun x S1 => wE X Ψ b E S1 fun y S2 => ∃ ws, itemsW S2 y = some ws ∧ x.ok 59 = true ∧ W.oks ws 59 = true ∧ ΦT (!inW x ws) S2) (hm : behindInMarks .NotIn b = false := by rfl) : wT X Ψ (.Compare a [.NotIn] [b] pos) E S ΦT :=
  wT_cmp (op_notInAny hu) opw_in (h.imp fun w S1 q => q.imp fun y S2 ⟨ws, p1, p2, p3, p⟩ => ⟨ws, p1, p2, p3, _, rfl, p⟩) hm
theorem wE_in (hu : X.A.units + 65 < cLine) (h : wE X Ψ a E S fun x S1 => wE X Ψ b E S1 fun y S2 => ∃ ws, itemsW S2 y = some ws ∧ x.ok 59 = true ∧ W.oks ws 59 = true ∧ Φ (.bl (inW x ws)) S2) (hm : behindInMarks .In b = false := by rfl) : wE X Ψ (.Compare a [.In] [b] pos) E S Φ :=
  wE_cmp (op_inAny hu) opw_in h hm
theorem wE_notIn (hu : X.A.units + 65 < cLine) (h : wE X Ψ a E S fun x S1 => wE X Ψ b E S1 fun y S2 => ∃ ws, itemsW S2 y = some ws ∧ x.ok 59 = true ∧ W.oks ws 59 = true ∧ Φ (.bl (!inW x ws)) S2) (hm : behindInMarks .NotIn b = false := by rfl) : wE X Ψ (.Compare a [.NotIn] [b] pos) E S Φ :=
  wE_cmp (op_notInAny hu) opw_in h hm
theorem wT_inSign (h : wE X Ψ a E S fun x S1 => wE X Ψ b E S1 fun y S2 => ∃ (c : Nat) (z : Str), x = .str ⟨#[c]⟩ ∧ y = .str z ∧ ΦT (decide (c ∈ z.cps.toList)) S2) (hm : behindInMarks .In b = false := by rfl) : wT X Ψ (.Compare a [.In] [b] pos) E S ΦT :=
  wT_cmp (g := fun x y S Φ => ∃ (c : Nat) (z : Str), x = .str ⟨#[c]⟩ ∧ y = .str z ∧ Φ (.bl (decide (c ∈ z.cps.toList))) S) op_in_sign (opw_pure fun M H S v u x y Φ r a1 a2 ⟨c, z, e1, e2, p⟩ Q q => by
    subst e1; subst e2
    cases a1; cases a2
    exact ⟨c, z, rfl, rfl, q _ _ p (.bl _)⟩) (h.imp fun w S1 q => q.imp fun y S2 ⟨c, z, p1, p2, p⟩ => ⟨c, z, p1, p2, _, rfl, p⟩) hm

/-! ### tests, and, or, not, if -/
theorem wT_val (h : wE X Ψ e E S fun w S1 => ∃ k, w = .bl k ∧ ΦT k S1) (he : ∀ whole, isTrue e X.env whole = (do let v ← whole; standAt e.pos; holding [v] (truthy v)) := by intro _; rfl) : wT X Ψ e E S ΦT :=
  wT.of (pt_val pe_sem he) fun M σ H r ev x Q q => h.run M σ H r ev x _ fun v w M1 S1 H1 ⟨k, e1, p⟩ r1 a1 s1 => by
    subst e1; cases a1
    exact ⟨k, rfl, q k M1 S1 H1 p r1 s1⟩
theorem wT_not (h : wT X Ψ e E S fun k S1 => ΦT (!k) S1) : wT X Ψ (.UnaryOp .Not e pos) E S ΦT :=
  wT.of (pt_not pt_sem) fun M σ H r ev x Q q => h.run M σ H r ev x _ fun k M1 S1 H1 p r1 s1 => q _ M1 S1 H1 p r1 s1
theorem wW_and1 (h : wT X Ψ a E S ΦT) : wW X Ψ (.BoolOp .And [a] pos) E S ΦT := wW.of (pw_and1 pt_sem) fun M σ H r ev x Q q => h.run M σ H r ev x Q q
theorem wW_or1 (h : wT X Ψ a E S ΦT) : wW X Ψ (.BoolOp .Or [a] pos) E S ΦT := wW.of (pw_or1 pt_sem) fun M σ H r ev x Q q => h.run M σ H r ev x Q q
theorem wW_and (h : wT X Ψ a E S fun k S1 => if k = true then wW X Ψ (.BoolOp .And (b :: rest) pos) E S1 ΦT else ΦT false S1) : wW X Ψ (.BoolOp .And (a :: b :: rest) pos) E S ΦT :=
  wW.of (pw_and pt_sem pw_sem) fun M σ H r ev x Q q => h.run M σ H r ev x _ fun k M1 S1 H1 p r1 s1 => by
    cases k with
    | true => exact iteT ((show wW X Ψ _ E S1 ΦT from p).run M1 σ H1 r1 (ev.step s1) (x.step s1) Q (q.step s1))
    | false => exact iteF (q false M1 S1 H1 p r1 s1)
theorem wW_or (h : wT X Ψ a E S fun k S1 => if k = true then ΦT true S1 else wW X Ψ (.BoolOp .Or (b :: rest) pos) E S1 ΦT) : wW X Ψ (.BoolOp .Or (a :: b :: rest) pos) E S ΦT :=
  wW.of (pw_or pt_sem pw_sem) fun M σ H r ev x Q q => h.run M σ H r ev x _ fun k M1 S1 H1 p r1 s1 => by
    cases k with
    | true => exact iteT (q true M1 S1 H1 p r1 s1)
    | false => exact iteF ((show wW X Ψ _ E S1 ΦT from p).run M1 σ H1 r1 (ev.step s1) (x.step s1) Q (q.step s1))
theorem wT_bool (h : wW X Ψ e E S ΦT) : wT X Ψ e E S ΦT := wT.of pw_sem.pt fun M σ H r ev x Q q => h.run M σ H r ev x Q q
theorem wE_one {op} (h : wE X Ψ a E S Φ) : wE X Ψ (.BoolOp op [a] pos) E S Φ := wE.of (pe_one pe_sem) fun M σ H r ev x Q q => h.run M σ H r ev x Q q
theorem wE_and (h : wE X Ψ a E S fun w S1 => ∃ k, w = .bl k ∧ if k = true then wE X Ψ (.BoolOp .And (b :: rest) pos) E S1 Φ else Φ (.bl false) S1) : wE X Ψ (.BoolOp .And (a :: b :: rest) pos) E S Φ :=
  wE.of (pe_and pe_sem pe_sem) fun M σ H r ev x Q q => h.run M σ H r ev x _ fun v w M1 S1 H1 ⟨k, e1, p⟩ r1 a1 s1 => by
    subst e1; cases a1
    refine ⟨k, rfl, ?_⟩
    cases k with
    | true => exact iteT ((show wE X Ψ _ E S1 Φ from p).run M1 σ H1 r1 (ev.step s1) (x.step s1) Q (q.step s1))
    | false => exact iteF (q _ _ M1 S1 H1 p r1 (.bl _) s1)
theorem wE_or (h : wE X Ψ a E S fun w S1 => ∃ k, w = .bl k ∧ if k = true then Φ (.bl true) S1 else wE X Ψ (.BoolOp .Or (b :: rest) pos) E S1 Φ) : wE X Ψ (.BoolOp .Or (a :: b :: rest) pos) E S Φ :=
  wE.of (pe_or pe_sem pe_sem) fun M σ H r ev x Q q => h.run M σ H r ev x _ fun v w M1 S1 H1 ⟨k, e1, p⟩ r1 a1 s1 => by
    subst e1; cases a1
    refine ⟨k, rfl, ?_⟩
    cases k with
    | true => exact iteT (q _ _ M1 S1 H1 p r1 (.bl _) s1)
    | false => exact iteF ((show wE X Ψ _ E S1 Φ from p).run M1 σ H1 r1 (ev.step s1) (x.step s1) Q (q.step s1))
theorem wE_not (h : wE X Ψ a E S fun w S1 => ∃ k, w = .bl k ∧ Φ (.bl (!k)) S1) : wE X Ψ (.UnaryOp .Not a pos) E S Φ :=
  wE.of (pe_not pe_sem) fun M σ H r ev x Q q => h.run M σ H r ev x _ fun v w M1 S1 H1 ⟨k, e1, p⟩ r1 a1 s1 => by
    subst e1; cases a1
    exact ⟨k, rfl, q _ _ M1 S1 H1 p r1 (.bl _) s1⟩
theorem wE_if (h : wT X Ψ c E S fun k S1 => if k = true then wE X Ψ a E S1 Φ else wE X Ψ b E S1 Φ) : wE X Ψ (.IfExp c a b pos) E S Φ :=
  wE.of (pe_ifExp pt_sem pe_sem pe_sem) fun M σ H r ev x Q q => h.run M σ H r ev x _ fun k M1 S1 H1 p r1 s1 => by
    cases k with
    | true => exact iteT ((show wE X Ψ a E S1 Φ from p).run M1 σ H1 r1 (ev.step s1) (x.step s1) Q (q.step s1))
    | false => exact iteF ((show wE X Ψ b E S1 Φ from p).run M1 σ H1 r1 (ev.step s1) (x.step s1) Q (q.step s1))

/-! ### places, slices, fields -/
theorem atI_vw {M : Lay} {H : Hp} {xs : List V} {ws : List W} {i : Int} {w : W} (r : VWs M H xs ws) (h : atI ws i = some w) : ∃ v, atI xs i = some v ∧ VW M H v w := by
  unfold atI at h ⊢
  rw [r.length]
  cases e : ixN ws.length i with
  | none => rw [e] at h; cases h
  | some j =>
    rw [e] at h
    obtain ⟨v, h1, h2⟩ := r.get (show ws[j]? = some w from h)
    exact ⟨v, h1, h2⟩
/-- a tracked list or tuple of some items -/
theorem seq_of {K : PySem.W.Frag} {M : Lay} {H : Hp} {S : Sto} (r : Rep M H S) {u : V} {y : W} {ws : List W} (a : VW M H u y) (h : itemsW S y = some ws) : ∃ p xs, u = .ref p ∧ VWs M H xs ws ∧ ((SqL K H p xs ∧ H p = some (.lst xs)) ∨ (SqT K H p xs ∧ ∃ ws', y = .tup ws')) := by
  cases y with
  | tup ws' =>
    cases h
    cases a with
    | tup q a => exact ⟨_, _, rfl, a, .inr ⟨q.sq, _, rfl⟩⟩
  | lst ws' =>
    cases h
    cases a with
    | lst q a => exact ⟨_, _, rfl, a, .inl ⟨q.sq, q.1⟩⟩
  | ref k =>
    cases a with
    | ref hm =>
      obtain ⟨p, xs, h1, h2, h3⟩ := r.lst (items_ref h)
      rw [hm] at h1; cases h1
      exact ⟨_, _, rfl, h3, .inl ⟨SqL.of h2, h2⟩⟩
  | _ => cases h
theorem wE_ix (h : wE X Ψ a E S fun x S1 => wE X Ψ b E S1 fun y S2 => ∃ ws i w, itemsW S2 x = some ws ∧ y = .int i ∧ atI ws i = some w ∧ Φ w S2) (hs : PlainIx b := by exact fun _ _ => rfl) : wE X Ψ (.Subscript a b pos) E S Φ :=
  wE.of (pe_ix ix_seq pe_sem pe_sem hs) fun M σ H r ev x Q q => two (r := rIx X.K) (g := fun x y S Φ => ∃ ws i w, itemsW S x = some ws ∧ y = .int i ∧ atI ws i = some w ∧ Φ w S)
    (opw_pure (X := X) fun M H S v u x y Φ r a1 a2 ⟨ws, i, w, h1, h2, h3, p⟩ Q q => by
      subst h2
      cases a2
      obtain ⟨ad, xs, rfl, rv, k⟩ := seq_of (K := X.K) r a1 h1
      obtain ⟨v', e1, e2⟩ := atI_vw rv h3
      rcases k with ⟨k, _⟩ | ⟨k, _⟩
      · exact .inl ⟨ad, xs, i, v', rfl, rfl, k, e1, q _ _ p e2⟩
      · exact .inr (.inl ⟨ad, xs, i, v', rfl, rfl, k, e1, q _ _ p e2⟩)) h r ev x q
theorem wE_ixS (h : wE X Ψ a E S fun x S1 => wE X Ψ b E S1 fun y S2 => ∃ z i c, x = .str z ∧ y = .int i ∧ z.length ≤ sizeLine ∧ atI z.cps.toList i = some c ∧ Φ (.str ⟨#[c]⟩) S2) (hs : PlainIx b := by exact fun _ _ => rfl) : wE X Ψ (.Subscript a b pos) E S Φ :=
  wE.of (pe_ix ix_str pe_sem pe_sem hs) fun M σ H r ev x Q q => two (r := rIxS) (g := fun x y S Φ => ∃ z i c, x = .str z ∧ y = .int i ∧ z.length ≤ sizeLine ∧ atI z.cps.toList i = some c ∧ Φ (.str ⟨#[c]⟩) S)
    (opw_pure (X := X) fun M H S v u x y Φ r a1 a2 ⟨z, i, c, h1, h2, h3, h4, p⟩ Q q => by
      subst h1; subst h2
      cases a1; cases a2
      exact ⟨z, i, c, rfl, rfl, h3, h4, q _ _ p (.str _)⟩) h r ev x q
/-- a part of a slice -/
def wO (X : Cx) (Ψ : AX) (e : Option Expr) (E : AEnv) (S : Sto) (Φ : Option Int → Sto → Prop) : Prop :=
  match e with
  | none => Φ none S
  | some e => wE X Ψ e E S fun w S1 => ∃ i, w = .int i ∧ Φ (some i) S1
def cutW (ws : List W) (lo hi : Option Int) : List W := (ws.drop (HT.sIx ws.length 0 lo)).take (HT.sIx ws.length ws.length hi - HT.sIx ws.length 0 lo)
theorem cut_vw {M : Lay} {H : Hp} {xs : List V} {ws : List W} {lo hi : Option Int} (r : VWs M H xs ws) : VWs M H (cutV xs lo hi) (cutW ws lo hi) := by
  unfold cutV cutW
  rw [r.length]
  exact (r.drop _).take _
def semO (X : Cx) (e : Option Expr) : TO := match e with
  | none => tNoPart
  | some e => tPart (sem X e)
theorem po_sem {e : Option Expr} : PO X e (semO X e) := by
  cases e with
  | none => exact po_none
  | some e => exact po_some pe_sem
theorem wO_run {e : Option Expr} {Φ : Option Int → Sto → Prop} (h : wO X Ψ e E S Φ) {M σ H} (r : Rep M H S) (ev : EvOk M H σ E) (x : ExcOk X M H Ψ) {Q : Option Int → Hp → Prop} (q : ∀ k M2 S2 H2, Φ k S2 → Rep M2 H2 S2 → Step M H M2 H2 → Q k H2) : semO X e σ H Q := by
  cases e with
  | none => exact q none M S H h r (Step.refl M H)
  | some e =>
    refine (show wE X Ψ e E S _ from h).run M σ H r ev x _ fun v w M1 S1 H1 ⟨i, e1, p⟩ r1 a1 s1 => ?_
    subst e1; cases a1
    exact ⟨i, rfl, q _ M1 S1 H1 p r1 s1⟩
theorem wE_slice {rr : V → Option Int → Option Int → Hp → VK → Prop} {g : W → Option Int → Option Int → Sto → (W → Sto → Prop) → Prop} {lo hi : Option Expr} {p2 : Pos} (hr : SlR X rr)
    (hw : ∀ M H S v x l u Φ, Rep M H S → VW M H v x → g x l u S Φ → ∀ Q, Got M H Φ Q → rr v l u H Q)
    (h : wE X Ψ a E S fun x S1 => wO X Ψ lo E S1 fun l S2 => wO X Ψ hi E S2 fun u S3 => g x l u S3 Φ) : wE X Ψ (.Subscript a (.Slice lo hi none p2) pos) E S Φ :=
  wE.of (pe_slice hr pe_sem po_sem po_sem) fun M σ H r ev x Q q => h.run M σ H r ev x _ fun v w M1 S1 H1 p1 r1 a1 s1 => wO_run p1 r1 (ev.step s1) (x.step s1) fun l M2 S2 H2 p2 r2 s2 => wO_run p2 r2 ((ev.step s1).step s2) ((x.step s1).step s2) fun u M3 S3 H3 p3 r3 s3 =>
    hw M3 H3 S3 v w l u Φ r3 (VW.step s3 _ _ (VW.step s2 _ _ a1)) p3 Q (q.step ((s1.trans s2).trans s3))
theorem wE_slT {lo hi : Option Expr} {p2 : Pos} (h : wE X Ψ a E S fun x S1 => wO X Ψ lo E S1 fun l S2 => wO X Ψ hi E S2 fun u S3 => ∃ ws, x = .tup ws ∧ Φ (.tup (cutW ws l u)) S3) : wE X Ψ (.Subscript a (.Slice lo hi none p2) pos) E S Φ :=
  wE_slice (g := fun x l u S Φ => ∃ ws, x = .tup ws ∧ Φ (.tup (cutW ws l u)) S) sl_tupA (fun M H S v x l u Φ r a1 ⟨ws, e1, p⟩ Q q => by
    subst e1
    cases a1 with
    | @tup ad xs _ k a =>
      refine ⟨ad, xs, rfl, k.sq, fun hc => ?_, fun _ p' hp => q _ _ M S _ p (r.tmp hp) (tq_new r hp (cut_vw a)) (step_tmp r hp)⟩
      have e : cutV xs l u = xs := by unfold cutV; rw [hc.1, hc.2]; simp
      have e2 : VWs M H xs (cutW ws l u) := by rw [← e]; exact cut_vw a
      exact q _ _ M S H p r (.tup k e2) (Step.refl M H)) h
theorem wE_slL {lo hi : Option Expr} {p2 : Pos} (h : wE X Ψ a E S fun x S1 => wO X Ψ lo E S1 fun l S2 => wO X Ψ hi E S2 fun u S3 => ∃ ws, itemsW S3 x = some ws ∧ (∀ y, x ≠ .tup y) ∧ Φ (.lst (cutW ws l u)) S3) : wE X Ψ (.Subscript a (.Slice lo hi none p2) pos) E S Φ :=
  wE_slice (g := fun x l u S Φ => ∃ ws, itemsW S x = some ws ∧ (∀ y, x ≠ .tup y) ∧ Φ (.lst (cutW ws l u)) S) (sl_list (X := X)) (fun M H S v x l u Φ r a1 ⟨ws, e1, nt, p⟩ Q q => by
    obtain ⟨ad, xs, rfl, rv, k⟩ := seq_of (K := X.K) r a1 e1
    rcases k with ⟨k, _⟩ | ⟨_, y, k⟩
    · exact ⟨ad, xs, rfl, k, fun p' hp => q _ _ M S _ p (r.tmp hp) (lq_new r hp (cut_vw rv)) (step_tmp r hp)⟩
    · exact absurd k (nt y)) h
theorem look_vw {M : Lay} {H : Hp} : ∀ {fs : List (Str × V)} {ws : List (Str × W)} {f : Str}, PVW M H fs ws → (∀ w, ws.lookup f = some w → ∃ v, fs.lookup f = some v ∧ VW M H v w) ∧ (ws.lookup f = none → fs.lookup f = none)
  | _, _, f, .nil => ⟨fun w h => by simp at h, fun _ => rfl⟩
  | _, _, f, .cons (a := p) (b := q) r t => by
    have ih := look_vw (f := f) t
    obtain ⟨k, v⟩ := p
    obtain ⟨k', w'⟩ := q
    have e : k = k' := r.1
    subst e
    by_cases h : f = k
    · subst h
      refine ⟨fun w hw => ?_, fun hn => ?_⟩
      · simp [List.lookup] at hw
        subst hw
        exact ⟨v, by simp [List.lookup], r.2⟩
      · simp [List.lookup] at hn
    · have hb : (f == k) = false := by simpa using h
      refine ⟨fun w hw => ?_, fun hn => ?_⟩
      · simp only [List.lookup, hb] at hw ⊢
        exact ih.1 w hw
      · simp only [List.lookup, hb] at hn ⊢
        exact ih.2 hn
theorem Rep.inst {M : Lay} {H : Hp} {S : Sto} (r : Rep M H S) {k : Nat} {C : Addr} {ws : List (Str × W)} (h : S[k]? = some (.ins C ws)) : ∃ p dx fs, M.m[k]? = some p ∧ H p = some (.ins C dx fs) ∧ PVW M H fs ws := by
  obtain ⟨p, ho, h1, h2, b⟩ := r.at' h
  cases b with
  | ins a => exact ⟨p, _, _, h1, h2, a⟩
theorem wE_fld {f : Str} (h : wE X Ψ a E S fun x S1 => ∃ k C ws w, x = .ref k ∧ S1[k]? = some (.ins C ws) ∧ Cls X.K C ∧ NoAttr X.K C f ∧ ws.lookup f = some w ∧ Φ w S1) (hb : attributeBase a f X.env (eval a X.env) = eval a X.env := by rfl) : wE X Ψ (.Attribute a f pos) E S Φ :=
  wE.of (pe_fld pe_sem hb) fun M σ H r ev x Q q => h.run M σ H r ev x _ fun v w M1 S1 H1 ⟨k, C, ws, w', e1, hk, hc, hn, hl, p⟩ r1 a1 s1 => by
    subst e1
    cases a1 with
    | ref hm =>
      obtain ⟨ad, dx, fs, h1, h2, h3⟩ := r1.inst hk
      rw [hm] at h1; cases h1
      obtain ⟨v', e1, e2⟩ := (look_vw h3).1 _ hl
      exact ⟨_, C, dx, fs, v', rfl, h2, hc, hn, e1, q _ _ M1 S1 H1 p r1 e2 s1⟩

/-! ### dicts -/
def keyW : W → Option Key
  | .int i => some (.inl i) | .str x => some (.inr x) | _ => none
def keysW : List W → Option (List Key)
  | [] => some []
  | w :: ws => match keyW w, keysW ws with
    | some k, some ks => some (k :: ks)
    | _, _ => none
theorem key_vw {M : Lay} {H : Hp} {v : V} {w : W} {k : Key} (a : VW M H v w) (h : keyW w = some k) : v = kV k := by
  cases w <;> simp [keyW] at h <;> subst h <;> cases a <;> rfl
theorem keys_vw {M : Lay} {H : Hp} : ∀ {ws : List W} {vs : List V} {ks : List Key}, VWs M H vs ws → keysW ws = some ks → vs = ks.map kV
  | [], _, ks, a, h => by cases a; simp [keysW] at h; subst h; rfl
  | w :: ws, _, ks, a, h => by
    cases a with
    | cons a b =>
      unfold keysW at h
      split at h
      · rename_i k ks' h1 h2
        cases h
        rw [key_vw a h1, keys_vw b h2, List.map_cons]
      · cases h
def valW {κ : Type} [DecidableEq κ] (kvs : List (κ × W)) (k : κ) : Option W := (kvs.find? fun kv => decide (kv.1 = k)).map (·.2)
def putW {κ : Type} [DecidableEq κ] (kvs : List (κ × W)) (k : κ) (w : W) : List (κ × W) :=
  if kvs.any (fun kv => decide (kv.1 = k)) then kvs.map (fun kv => if kv.1 = k then (kv.1, w) else kv) else kvs ++ [(k, w)]
theorem valW_neg {κ : Type} [DecidableEq κ] {k : κ} {q : κ × W} {r : List (κ × W)} (h : ¬ q.1 = k) : valW (q :: r) k = valW r k := by simp [valW, List.find?_cons, h]
theorem val_vw {κ : Type} [DecidableEq κ] {M : Lay} {H : Hp} {k : κ} : ∀ {kvs : List (κ × V)} {kws : List (κ × W)}, PVW M H kvs kws → (∀ w, valW kws k = some w → ∃ v, valV kvs k = some v ∧ VW M H v w) ∧ (valW kws k = none → valV kvs k = none)
  | _, _, .nil => ⟨fun w h => by simp [valW] at h, fun _ => rfl⟩
  | _, _, .cons (a := p) (b := q) r t => by
    have ih := val_vw (k := k) t
    by_cases h : q.1 = k
    · refine ⟨fun w hw => ?_, fun hn => ?_⟩
      · simp [valW, List.find?_cons, h] at hw
        subst hw
        exact ⟨p.2, by simp [valV, List.find?_cons, r.1, h], r.2⟩
      · simp [valW, List.find?_cons, h] at hn
    · refine ⟨fun w hw => ?_, fun hn => ?_⟩
      · rw [valW_neg h] at hw
        obtain ⟨v, h1, h2⟩ := ih.1 w hw
        exact ⟨v, by rw [valV_neg (by rw [r.1]; exact h)]; exact h1, h2⟩
      · rw [valW_neg h] at hn
        rw [valV_neg (by rw [r.1]; exact h)]
        exact ih.2 hn
theorem pvw_any {κ : Type} [DecidableEq κ] {M : Lay} {H : Hp} {k : κ} {kvs : List (κ × V)} {kws : List (κ × W)} (r : PVW M H kvs kws) : (kvs.any fun kv => decide (kv.1 = k)) = kws.any fun kv => decide (kv.1 = k) := by
  induction r with
  | nil => rfl
  | cons h t ih => rw [List.any_cons, List.any_cons, ih, h.1]
theorem pvw_repl {κ : Type} [DecidableEq κ] {M : Lay} {H : Hp} {k : κ} {v : V} {w : W} {kvs : List (κ × V)} {kws : List (κ × W)} (r : PVW M H kvs kws) (a : VW M H v w) : PVW M H (kvs.map fun kv => if kv.1 = k then (kv.1, v) else kv) (kws.map fun kv => if kv.1 = k then (kv.1, w) else kv) := by
  induction r with
  | nil => exact .nil
  | @cons p q ps qs h t ih =>
    rw [List.map_cons, List.map_cons]
    refine .cons ?_ ih
    by_cases e : q.1 = k
    · rw [if_pos e, if_pos (by rw [h.1]; exact e)]
      exact ⟨h.1, a⟩
    · rw [if_neg e, if_neg (by rw [h.1]; exact e)]
      exact h
theorem pvw_app {κ : Type} {M : Lay} {H : Hp} {kvs : List (κ × V)} {kws : List (κ × W)} {kv kw} (r : PVW M H kvs kws) (h : PVW M H kv kw) : PVW M H (kvs ++ kv) (kws ++ kw) := by
  induction r with
  | nil => exact h
  | cons a t ih => exact .cons a ih
theorem put_vw {κ : Type} [DecidableEq κ] {M : Lay} {H : Hp} {k : κ} {v : V} {w : W} {kvs : List (κ × V)} {kws : List (κ × W)} (r : PVW M H kvs kws) (a : VW M H v w) : PVW M H (putK kvs k v) (putW kws k w) := by
  unfold putK putW
  rw [pvw_any r]
  split
  · exact pvw_repl r a
  · exact pvw_app r (.cons ⟨rfl, a⟩ .nil)
theorem PVW.length {κ : Type} {M : Lay} {H : Hp} {kvs : List (κ × V)} {kws : List (κ × W)} (r : PVW M H kvs kws) : kvs.length = kws.length := Paired.length r
/-- what a dict of the store holds at a key -/
def dgetW (S : Sto) (k : Nat) (y : W) : Option (Option W) :=
  match S[k]? with
  | some (.dk kws) => (keyW y).map fun key => valW kws key
  | some (.dt kws) => match y with
    | .tup ws => (keysW ws).map fun key => valW kws key
    | _ => none
  | _ => none
theorem dget_vw {M : Lay} {H : Hp} {S : Sto} (r : Rep M H S) {x y : W} {v u : V} {k : Nat} {o : Option W} (a1 : VW M H v (.ref k)) (a2 : VW M H u y) (h : dgetW S k y = some o) :
    ∃ p o', v = .ref p ∧ DGet H p u o' ∧ (∀ w, o = some w → ∃ z, o' = some z ∧ VW M H z w) ∧ (o = none → o' = none) := by
  cases a1 with
  | @ref p _ hm =>
    unfold dgetW at h
    split at h
    · rename_i kws hk
      obtain ⟨q, ho, h1, h2, b⟩ := r.at' hk
      rw [hm] at h1; cases h1
      cases b with
      | dk b =>
        cases e : keyW y with
        | none => rw [e] at h; cases h
        | some key =>
          rw [e] at h
          cases h
          rw [key_vw a2 e]
          exact ⟨p, _, rfl, DGet.k h2, (val_vw b).1, (val_vw b).2⟩
    · rename_i kws hk
      obtain ⟨q, ho, h1, h2, b⟩ := r.at' hk
      rw [hm] at h1; cases h1
      cases b with
      | dt b =>
        split at h
        · rename_i ws
          cases e : keysW ws with
          | none => rw [e] at h; cases h
          | some key =>
            rw [e] at h
            cases h
            cases a2 with
            | tup q a =>
              exact ⟨p, _, rfl, DGet.t h2 (by rw [q.1, keys_vw a e]), (val_vw b).1, (val_vw b).2⟩
        · cases h
    · cases h
theorem wE_dget (hu : X.A.units + 65 < cLine) (h : wE X Ψ a E S fun x S1 => wE X Ψ b E S1 fun y S2 => ∃ k w, x = .ref k ∧ dgetW S2 k y = some (some w) ∧ Φ w S2) (hs : NoSl b := by exact fun _ _ => rfl) : wE X Ψ (.Subscript a b pos) E S Φ :=
  wE.of (pe_dget (by omega) pe_sem pe_sem hs) fun M σ H r ev x Q q => h.run M σ H r ev x _ fun v w M1 S1 H1 p1 r1 a1 s1 => p1.run M1 σ H1 r1 (ev.step s1) (x.step s1) _ fun u y M2 S2 H2 ⟨k, w2, e1, hg, p⟩ r2 a2 s2 => by
    subst e1
    obtain ⟨ad, o', rfl, g, h1, _⟩ := dget_vw (x := .non) r2 (VW.step s2 _ _ a1) a2 hg
    obtain ⟨z, rfl, az⟩ := h1 _ rfl
    exact ⟨ad, z, rfl, g, q _ _ M2 S2 H2 p r2 az (s1.trans s2)⟩
theorem wT_din (hu : X.A.units + 65 < cLine) (h : wE X Ψ a E S fun y S1 => wE X Ψ b E S1 fun x S2 => ∃ k o, x = .ref k ∧ dgetW S2 k y = some o ∧ ΦT o.isSome S2) (hm : behindInMarks .In b = false := by rfl) : wT X Ψ (.Compare a [.In] [b] pos) E S ΦT :=
  wT.of (pt_cmp (pc_din (by omega) pe_sem pe_sem) hm) fun M σ H r ev x Q q => h.run M σ H r ev x _ fun v w M1 S1 H1 p1 r1 a1 s1 => p1.run M1 σ H1 r1 (ev.step s1) (x.step s1) _ fun u y M2 S2 H2 ⟨k, o, e1, hg, p⟩ r2 a2 s2 => by
    subst e1
    obtain ⟨ad, o', rfl, g, h1, h2⟩ := dget_vw (x := .non) r2 a2 (VW.step s2 _ _ a1) hg
    refine ⟨ad, o', rfl, g, _, rfl, ?_⟩
    have e : o'.isSome = o.isSome := by
      cases o with
      | none => rw [h2 rfl]; rfl
      | some w => obtain ⟨z, rfl, _⟩ := h1 w rfl; rfl
    rw [e]
    exact q _ M2 S2 H2 p r2 (s1.trans s2)
theorem wE_din (hu : X.A.units + 65 < cLine) (h : wE X Ψ a E S fun y S1 => wE X Ψ b E S1 fun x S2 => ∃ k o, x = .ref k ∧ dgetW S2 k y = some o ∧ Φ (.bl o.isSome) S2) (hm : behindInMarks .In b = false := by rfl) : wE X Ψ (.Compare a [.In] [b] pos) E S Φ :=
  wE.of (pe_cmp (pc_din (by omega) pe_sem pe_sem) hm) fun M σ H r ev x Q q => h.run M σ H r ev x _ fun v w M1 S1 H1 p1 r1 a1 s1 => p1.run M1 σ H1 r1 (ev.step s1) (x.step s1) _ fun u y M2 S2 H2 ⟨k, o, e1, hg, p⟩ r2 a2 s2 => by
    subst e1
    obtain ⟨ad, o', rfl, g, h1, h2⟩ := dget_vw (x := .non) r2 a2 (VW.step s2 _ _ a1) hg
    refine ⟨ad, o', rfl, g, ?_⟩
    have e : o'.isSome = o.isSome := by
      cases o with
      | none => rw [h2 rfl]; rfl
      | some w => obtain ⟨z, rfl, _⟩ := h1 w rfl; rfl
    rw [e]
    exact q _ _ M2 S2 H2 p r2 (.bl _) (s1.trans s2)
end

-- AM5

/-! ### targets -/
def semG (X : Cx) (tg : Expr) : TG := fun v σ H Q => ∀ pins s u, Inv X pins σ H s → RelV v u → wpAny (model X.prog X.w) X.A (assign tg X.env u) (fun _ s' => ∃ σ' H', Inv X pins σ' H' s' ∧ Q σ' H') X.xe s
theorem pg_sem {X : Cx} {tg : Expr} : PG X tg (semG X tg) := ⟨fun pins s _ _ _ u _ I r h => h pins s u I r⟩
def GotE (M : Lay) (H : Hp) (Φ : AEnv → Sto → Prop) (Q : L2.St → Hp → Prop) : Prop :=
  ∀ σ E M2 S2 H2, Φ E S2 → Rep M2 H2 S2 → EvOk M2 H2 σ E → Step M H M2 H2 → Q σ H2
theorem GotE.step {M M2 : Lay} {H H2 : Hp} {Φ : AEnv → Sto → Prop} {Q : L2.St → Hp → Prop} (g : GotE M H Φ Q) (s : Step M H M2 H2) : GotE M2 H2 Φ Q :=
  fun σ E M3 S3 H3 p r e t => g σ E M3 S3 H3 p r e (s.trans t)
structure wG (X : Cx) (Ψ : AX) (tg : Expr) (w : W) (E : AEnv) (S : Sto) (Φ : AEnv → Sto → Prop) : Prop where
  run : ∀ M σ H v, Rep M H S → EvOk M H σ E → ExcOk X M H Ψ → VW M H v w → ∀ Q, GotE M H Φ Q → semG X tg v σ H Q
section
variable {X : Cx} {Ψ : AX} {a b c e o tg iter : Expr} {es rest : List Expr} {E : AEnv} {S : Sto} {Φ : W → Sto → Prop} {ΦE : AEnv → Sto → Prop} {ΦT : Bool → Sto → Prop} {ΦS : List W → Sto → Prop} {pos : Pos} {w : W}
theorem wG.of {t : TG} (h : PG X tg t) (g : ∀ M σ H v, Rep M H S → EvOk M H σ E → ExcOk X M H Ψ → VW M H v w → ∀ Q, GotE M H ΦE Q → t v σ H Q) : wG X Ψ tg w E S ΦE :=
  ⟨fun M σ H v r ev x a Q q pins s u I ru => h.run pins s σ H v u Q I ru (g M σ H v r ev x a Q q)⟩
theorem wG_name {x : Str} (i : Nat) (hN : X.N.Nodup) (h : ΦE (E.set i (some w)) S) (hi : X.N[i]? = some x := by rfl) (hx : Loc X.env.scope x := by first | exact Or.inl rfl | exact Or.inr rfl) (hf : X.fn x = true ∨ X.env.scope.names.lookup x = some .local := by first | exact .inl rfl | exact .inr rfl) : wG X Ψ (.Name x pos) w E S ΦE :=
  wG.of (pg_name hN hi hx hf) fun M σ H v r ev _ a Q q => q _ _ M S H h r (ev.set a i) (Step.refl M H)
/-- several targets, one after another -/
def wGs (X : Cx) (Ψ : AX) : List Expr → List W → AEnv → Sto → (AEnv → Sto → Prop) → Prop
  | [], [], E, S, Φ => Φ E S
  | t :: ts, w :: ws, E, S, Φ => wG X Ψ t w E S fun E2 S2 => wGs X Ψ ts ws E2 S2 Φ
  | _, _, _, _, _ => False
def semGs (X : Cx) (tgs : List Expr) : TGs := fun vs σ H Q => ∀ pins s us, Inv X pins σ H s → Vals vs us → wpAny (model X.prog X.w) X.A (assignInOrder ((assignEach tgs X.env).map (·.2)) us) (fun _ s' => ∃ σ' H', Inv X pins σ' H' s' ∧ Q σ' H') X.xe s
theorem pgs_sem {X : Cx} {tgs : List Expr} : PGs X tgs (semGs X tgs) := ⟨fun pins s _ _ _ us _ I r h => h pins s us I r⟩
/-- each target is told by itself -/
inductive Each (X : Cx) : List Expr → Prop
  | nil : Each X []
  | cons {t ts} (h : (assignEach (t :: ts) X.env).map (·.2) = assign t X.env :: (assignEach ts X.env).map (·.2)) (r : Each X ts) : Each X (t :: ts)
theorem wGs_run : ∀ {ts : List Expr} {ws : List W} {vs : List V} {E : AEnv} {S : Sto}, Each X ts → wGs X Ψ ts ws E S ΦE → ∀ {M σ H}, Rep M H S → EvOk M H σ E → ExcOk X M H Ψ → VWs M H vs ws → ∀ {Q}, GotE M H ΦE Q → semGs X ts vs σ H Q
  | [], [], _, E, S, _, h, M, σ, H, r, ev, x, a, Q, q => by
    cases a
    intro pins s us I ru
    exact pgs_nil.run pins s σ H [] us Q I ru ⟨rfl, q _ _ M S H h r ev (Step.refl M H)⟩
  | [], _ :: _, _, _, _, _, h, _, _, _, _, _, _, _, _, _ => h.elim
  | _ :: _, [], _, _, _, _, h, _, _, _, _, _, _, _, _, _ => h.elim
  | t :: ts, w :: ws, _, E, S, he, h, M, σ, H, r, ev, x, a, Q, q => by
    cases he with
    | cons hs he =>
      cases a with
      | cons a1 a2 =>
        intro pins s us I ru
        refine (pgs_cons pg_sem pgs_sem hs).run pins s σ H _ us Q I ru ⟨_, _, rfl, ?_⟩
        refine (show wG X Ψ t w E S _ from h).run M σ H _ r ev x a1 _ fun σ2 E2 M2 S2 H2 p r2 ev2 s2 => ?_
        exact wGs_run he p r2 ev2 (x.step s2) (VWs.step s2 _ _ a2) (q.step s2)
theorem wG_tup {k : Nat} (hc : X.calm = true) (he : Each X es) (h : ∃ ws, w = .tup ws ∧ ws.length = es.length ∧ wGs X Ψ es ws E S ΦE) (hn : (assignEach es X.env).length = es.length := by rfl) (hst : (assignEach es X.env).findIdx? (·.1) = none := by rfl) : wG X Ψ (.Tuple es k pos) w E S ΦE :=
  wG.of (pg_tup hc pgs_sem hn hst) fun M σ H v r ev x a Q q => by
    obtain ⟨ws, rfl, hl, h⟩ := h
    cases a with
    | @tup ad xs _ kk a => exact ⟨ad, xs, rfl, kk.sq, by rw [a.length]; exact hl, wGs_run he h r ev x a q⟩
/-- a list in a tuple's place: a, b = [..] -/
theorem set_lst {M : Lay} {H : Hp} {S : Sto} (r : Rep M H S) {k : Nat} {p : Addr} {xs : List V} {ws : List W} (hp : M.m[k]? = some p) (a : VWs M H xs ws) : Rep M (upd H p (.lst xs)) (S.set k (.lst ws)) ∧ Step M H M (upd H p (.lst xs)) :=
  ⟨r.set hp (.lst (VWs.step (step_set r hp) _ _ a)), step_set r hp⟩
/-- o[i] = v, by values -/
def SetW (X : Cx) (t : TSet) (g : W → W → W → Sto → (Sto → Prop) → Prop) : Prop :=
  ∀ M H S vo vi vv x y z (Φ : Sto → Prop), Rep M H S → VW M H vo x → VW M H vi y → VW M H vv z → g x y z S Φ → ∀ Q : Hp → Prop, (∀ M2 S2 H2, Φ S2 → Rep M2 H2 S2 → Step M H M2 H2 → Q H2) → t vo vi vv H Q
abbrev gSetL : W → W → W → Sto → (Sto → Prop) → Prop := fun x y z S Φ => ∃ k ws i j, x = .ref k ∧ S[k]? = some (.lst ws) ∧ y = .int i ∧ ixN ws.length i = some j ∧ Φ (S.set k (.lst (ws.set j z)))
theorem setw_list : SetW X rSetL gSetL := fun M H S vo vi vv x y z Φ r a1 a2 a3 ⟨k, ws, i, j, e1, hk, e2, hj, p⟩ Q q => by
  subst e1; subst e2
  cases a1 with
  | ref hm =>
    cases a2
    obtain ⟨ad, xs, h1, h2, h3⟩ := r.lst hk
    rw [hm] at h1; cases h1
    have rr := set_lst r hm (h3.set j a3)
    exact ⟨_, xs, i, j, rfl, rfl, h2, by rw [h3.length]; exact hj, q M _ _ p rr.1 rr.2⟩
/-- the store behind d[y] = z -/
def dputW (S : Sto) (k : Nat) (y z : W) : Option Sto :=
  match S[k]? with
  | some (.dk kws) => (keyW y).map fun key => S.set k (.dk (putW kws key z))
  | some (.dt kws) => match y with
    | .tup ws => (keysW ws).map fun key => S.set k (.dt (putW kws key z))
    | _ => none
  | _ => none
def dlenW (S : Sto) (k : Nat) : Nat := match S[k]? with
  | some (.dk kws) => kws.length
  | some (.dt kws) => kws.length
  | _ => 0
theorem dput_vw {M : Lay} {H : Hp} {S S' : Sto} (r : Rep M H S) {y z : W} {v u t : V} {k : Nat} (a1 : VW M H v (.ref k)) (a2 : VW M H u y) (a3 : VW M H t z) (hl : dlenW S k ≤ 100000) (h : dputW S k y z = some S') :
    ∃ p H', v = .ref p ∧ DPut H p u t H' ∧ Rep M H' S' ∧ Step M H M H' := by
  have hsz : ∀ n : Nat, n ≤ 100000 → n < sizeLine := fun n q => Nat.lt_of_le_of_lt q (by decide)
  cases a1 with
  | @ref p _ hm =>
    unfold dputW at h
    unfold dlenW at hl
    split at h
    · rename_i kws hk
      rw [hk] at hl
      obtain ⟨q, ho, h1, h2, b⟩ := r.at' hk
      rw [hm] at h1; cases h1
      cases b with
      | dk b =>
        cases e : keyW y with
        | none => rw [e] at h; cases h
        | some key =>
          rw [e] at h
          cases h
          rw [key_vw a2 e]
          exact ⟨p, _, rfl, DPut.k h2 (by rw [b.length]; exact hsz _ hl), r.set hm (.dk (PVW.step (step_set r hm) (put_vw b a3))), step_set r hm⟩
    · rename_i kws hk
      rw [hk] at hl
      obtain ⟨q, ho, h1, h2, b⟩ := r.at' hk
      rw [hm] at h1; cases h1
      cases b with
      | dt b =>
        split at h
        · rename_i ws
          cases e : keysW ws with
          | none => rw [e] at h; cases h
          | some key =>
            rw [e] at h
            cases h
            cases a2 with
            | tup q a =>
              exact ⟨p, _, rfl, DPut.t h2 (by rw [q.1, keys_vw a e]) (by rw [b.length]; exact hsz _ hl), r.set hm (.dt (PVW.step (step_set r hm) (put_vw b a3))), step_set r hm⟩
        · cases h
    · cases h
abbrev gSetD : W → W → W → Sto → (Sto → Prop) → Prop := fun x y z S Φ => ∃ k S', x = .ref k ∧ dlenW S k ≤ 100000 ∧ dputW S k y z = some S' ∧ Φ S'
theorem wG_sub {t : TSet} {g : W → W → W → Sto → (Sto → Prop) → Prop} (hs : PSet X t) (hw : SetW X t g) (h : wE X Ψ o E S fun x S1 => wE X Ψ a E S1 fun y S2 => g x y w S2 fun S3 => ΦE E S3)
    (ha : ∀ v, assign (.Subscript o a pos) X.env v = (do
      let ov ← holding [v] (eval o X.env)
      let iv ← holding [v, ov] (eval a X.env)
      standAt pos
      holding [v, ov, iv] (setItem ov iv v)
      release [v, ov, iv] []) := by intro _; rfl) : wG X Ψ (.Subscript o a pos) w E S ΦE :=
  wG.of (pg_sub pe_sem pe_sem hs ha) fun M σ H v r ev x av Q q => h.run M σ H r ev x _ fun vo x1 M1 S1 H1 p1 r1 a1 s1 => p1.run M1 σ H1 r1 (ev.step s1) (x.step s1) _ fun vi y M2 S2 H2 p2 r2 a2 s2 =>
    hw M2 H2 S2 vo vi v x1 y w _ r2 (VW.step s2 _ _ a1) a2 (VW.step s2 _ _ (VW.step s1 _ _ av)) p2 _ fun M3 S3 H3 p3 r3 s3 => q σ E M3 S3 H3 p3 r3 (((ev.step s1).step s2).step s3) ((s1.trans s2).trans s3)
/-- a field's value: in its place, or at the end -/
def putFW (f : Str) (w : W) : List (Str × W) → List (Str × W)
  | [] => [(f, w)]
  | (g, u) :: r => if g = f then (g, w) :: r else (g, u) :: putFW f w r
theorem putF_vw {M : Lay} {H : Hp} {f : Str} {v : V} {w : W} (a : VW M H v w) : ∀ {fs : List (Str × V)} {ws : List (Str × W)}, PVW M H fs ws → PVW M H (putF f v fs) (putFW f w ws)
  | _, _, .nil => .cons ⟨rfl, a⟩ .nil
  | _, _, .cons (a := p) (b := q) r t => by
    obtain ⟨k, x⟩ := p
    obtain ⟨k', y⟩ := q
    have e : k = k' := r.1
    subst e
    unfold putF putFW
    by_cases h : k = f
    · rw [if_pos h, if_pos h]
      exact .cons ⟨rfl, a⟩ t
    · rw [if_neg h, if_neg h]
      exact .cons r (putF_vw a t)
/-- the store behind o.f = w -/
def fputW (S : Sto) (k : Nat) (f : Str) (w : W) : Option (Addr × Sto) := match S[k]? with
  | some (.ins C ws) => if ws.length < 1000 then some (C, S.set k (.ins C (putFW f w ws))) else none
  | _ => none
theorem fput_vw {M : Lay} {H : Hp} {S S' : Sto} (r : Rep M H S) {w : W} {v t : V} {k : Nat} {C : Addr} {f : Str} (a1 : VW M H v (.ref k)) (a3 : VW M H t w) (h : fputW S k f w = some (C, S')) :
    ∃ p dx fs, v = .ref p ∧ H p = some (.ins C dx fs) ∧ fs.length < 1000 ∧ Rep M (upd H p (.ins C dx (putF f t fs))) S' ∧ Step M H M (upd H p (.ins C dx (putF f t fs))) := by
  cases a1 with
  | @ref p _ hm =>
    unfold fputW at h
    split at h
    · rename_i C' ws hk
      split at h
      · rename_i hl
        cases h
        obtain ⟨q, dx, fs, h1, h2, b⟩ := r.inst hk
        rw [hm] at h1; cases h1
        exact ⟨p, dx, fs, rfl, h2, by rw [PVW.length b]; exact hl, r.set hm (.ins (PVW.step (step_set r hm) (putF_vw a3 b))), step_set r hm⟩
      · cases h
    · cases h
def gFld (K : PySem.W.Frag) (to : TE) (f : Str) : TG := fun v σ H Q => to σ H fun x H2 => ∃ a C dx fs, x = .ref a ∧ H2 a = some (.ins C dx fs) ∧ Cls K C ∧ NoAttr K C f ∧ fs.length < 1000 ∧ Q σ (upd H2 a (.ins C dx (putF f v fs)))
theorem pg_fld {f : Str} {to : TE} (ho : PE X o to) : PG X (.Attribute o f pos) (gFld X.K to f) := by
  refine ⟨fun pins s σ H v u Q I r h => ?_⟩
  refine PySem.W.kas_attr (thn (ho.run pins s σ H _ I h) fun ov s1 ⟨x, H1, I1, rx, a, C, dx, fs, ex, ea, c, n, l, q⟩ => ?_)
  subst ex
  obtain rfl : ov = Value.ref a := rx
  exact setattr_ok I1 ea c n l r fun s3 I3 => ⟨σ, _, I3, q⟩
theorem wG_fld {f : Str} (h : wE X Ψ o E S fun x S1 => ∃ k C S2, x = .ref k ∧ fputW S1 k f w = some (C, S2) ∧ Cls X.K C ∧ NoAttr X.K C f ∧ ΦE E S2) : wG X Ψ (.Attribute o f pos) w E S ΦE :=
  wG.of (pg_fld pe_sem) fun M σ H v r ev x av Q q => h.run M σ H r ev x _ fun vo x1 M1 S1 H1 ⟨k, C, S2, e1, hf, hc, hn, p⟩ r1 a1 s1 => by
    subst e1
    obtain ⟨ad, dx, fs, rfl, h1, hl, r2, s2⟩ := fput_vw r1 a1 (VW.step s1 _ _ av) hf
    exact ⟨ad, C, dx, fs, rfl, h1, hc, hn, hl, q σ E M1 S2 _ p r2 ((ev.step s1).step s2) (s1.trans s2)⟩

/-! ### what is walked -/
structure ItW (J : It) (vs : List V) (ys ws : List W) (still : Sto → Prop) : Prop where
  go : ∀ M H S i, VWs M H vs ys → Rep M H S → still S → i < ws.length → J.go i H
  yld : ∀ M H S i x H', VWs M H vs ys → Rep M H S → still S → J.yld i H x H' → i < ws.length → ∃ w, ws[i]? = some w ∧ VW M H' x w ∧ Rep M H' S ∧ Step M H M H'
  stop : ∀ M H S i, VWs M H vs ys → Rep M H S → still S → ws.length ≤ i → J.stop i H
def semI (X : Cx) (tg iter : Expr) : TI := fun σ H R => ∀ pins s, Inv X pins σ H s → wpAny (model X.prog X.w) X.A (eval iter X.env) (fun v s1 => wpAny (model X.prog X.w) X.A (pyIter v) (PIE X pins σ tg R) X.xe s1) X.xe s
theorem pi_sem : PI X tg iter (semI X tg iter) := ⟨fun pins s _ _ _ I h => h pins s I⟩
def GotI (M : Lay) (H : Hp) (Φ : List W → (Sto → Prop) → Sto → Prop) (R : It → Hp → Prop) : Prop :=
  ∀ J vs ys ws still M2 S2 H2, Φ ws still S2 → still S2 → Rep M2 H2 S2 → Step M H M2 H2 → VWs M2 H2 vs ys → ItW J vs ys ws still → R J H2
structure wI (X : Cx) (Ψ : AX) (tg iter : Expr) (E : AEnv) (S : Sto) (Φ : List W → (Sto → Prop) → Sto → Prop) : Prop where
  run : ∀ M σ H, Rep M H S → EvOk M H σ E → ExcOk X M H Ψ → ∀ R, GotI M H Φ R → semI X tg iter σ H R
variable {ΦI : List W → (Sto → Prop) → Sto → Prop}
theorem wI.of {t : TI} (h : PI X tg iter t) (g : ∀ M σ H, Rep M H S → EvOk M H σ E → ExcOk X M H Ψ → ∀ R, GotI M H ΦI R → t σ H R) : wI X Ψ tg iter E S ΦI :=
  ⟨fun M σ H r ev x R q pins s I => h.run pins s σ H R I (g M σ H r ev x R q)⟩
/-- how a list that is walked stands still -/
def stillW : W → List W → Sto → Prop
  | .ref k, ws, S => S[k]? = some (.lst ws)
  | _, _, _ => True
theorem vws_one {M : Lay} {H : Hp} {v : V} {y : W} (h : VWs M H [v] [y]) : VW M H v y := by
  cases h with
  | cons a b => exact a
theorem itw_list {K : PySem.W.Frag} {u : Addr} {y : W} {ws : List W} (nt : ∀ z, y ≠ .tup z) (hi : ∃ S, itemsW S y = some ws) : ItW (Itl K u) [.ref u] [y] ws (stillW y ws) := by
  have key : ∀ M' H' S', VWs M' H' [.ref u] [y] → Rep M' H' S' → stillW y ws S' → ∃ xs, SqL K H' u xs ∧ VWs M' H' xs ws := by
    intro M' H' S' a r' hs
    obtain ⟨S, hi⟩ := hi
    have hi' : itemsW S' y = some ws := by
      cases y with
      | ref k =>
        show (match S'[k]? with
          | some (.lst ws) => some ws
          | _ => none) = some ws
        rw [show S'[k]? = some (.lst ws) from hs]
      | lst z => exact hi
      | tup z => exact absurd rfl (nt z)
      | _ => cases hi
    obtain ⟨p, xs, e, rv, k⟩ := seq_of (K := K) r' (vws_one a) hi'
    cases e
    rcases k with ⟨k, _⟩ | ⟨_, z, k⟩
    · exact ⟨xs, k, rv⟩
    · exact absurd k (nt z)
  refine ⟨fun M' H' S' i a r' hs hl => ?_, fun M' H' S' i x H2 a r' hs hy hl => ?_, fun M' H' S' i a r' hs hl => ?_⟩
  · obtain ⟨xs, k, rv⟩ := key M' H' S' a r' hs
    obtain ⟨v, h1, _⟩ := rv.get (List.getElem?_eq_getElem hl)
    exact ⟨xs, v, k, h1⟩
  · obtain ⟨xs, k, rv⟩ := key M' H' S' a r' hs
    obtain ⟨e, h⟩ := hy
    subst e
    obtain ⟨v, h1, h2⟩ := rv.get (List.getElem?_eq_getElem hl)
    have e := h xs k
    rw [h1] at e; cases e
    exact ⟨_, List.getElem?_eq_getElem hl, h2, r', Step.refl _ _⟩
  · obtain ⟨xs, k, rv⟩ := key M' H' S' a r' hs
    exact ⟨xs, k, by rw [rv.length]; exact hl⟩
theorem itw_tup {K : PySem.W.Frag} {u : Addr} {ws : List W} : ItW (Itt K u) [.ref u] [.tup ws] ws (fun _ => True) := by
  have key : ∀ M' H' , VWs M' H' [.ref u] [.tup ws] → ∃ xs, SqT K H' u xs ∧ VWs M' H' xs ws := by
    intro M' H' a
    cases vws_one a with
    | tup q a => exact ⟨_, q.sq, a⟩
  refine ⟨fun M' H' S' i a r' hs hl => ?_, fun M' H' S' i x H2 a r' hs hy hl => ?_, fun M' H' S' i a r' hs hl => ?_⟩
  · obtain ⟨xs, k, rv⟩ := key M' H' a
    obtain ⟨v, h1, _⟩ := rv.get (List.getElem?_eq_getElem hl)
    exact ⟨xs, v, k, h1⟩
  · obtain ⟨xs, k, rv⟩ := key M' H' a
    obtain ⟨e, h⟩ := hy
    subst e
    obtain ⟨v, h1, h2⟩ := rv.get (List.getElem?_eq_getElem hl)
    have e := h xs k
    rw [h1] at e; cases e
    exact ⟨_, List.getElem?_eq_getElem hl, h2, r', Step.refl _ _⟩
  · obtain ⟨xs, k, rv⟩ := key M' H' a
    exact ⟨xs, k, by rw [rv.length]; exact hl⟩
/-- the ints lo, lo + 1, .. -/
def rangeW (lo : Int) (n : Nat) : List W := (List.range n).map fun i => W.int (lo + (i : Nat))
theorem range_get {lo : Int} {n i : Nat} (h : i < n) : (rangeW lo n)[i]? = some (.int (lo + i)) := by
  unfold rangeW
  rw [List.getElem?_map, List.getElem?_range h]
  rfl
theorem range_len {lo : Int} {n : Nat} : (rangeW lo n).length = n := by simp [rangeW]
theorem itw_range {lo : Int} {n : Nat} : ItW (Itr lo n) [] [] (rangeW lo n) (fun _ => True) := by
  refine ⟨fun M' H' S' i st r' hs hl => ?_, fun M' H' S' i x H2 st r' hs hy hl => ?_, fun M' H' S' i st r' hs hl => ?_⟩
  · rw [range_len] at hl
    exact hl
  · rw [range_len] at hl
    obtain ⟨e, h⟩ := hy
    subst e
    subst h
    exact ⟨_, range_get hl, .int _, r', Step.refl _ _⟩
  · rw [range_len] at hl
    exact hl
theorem wI_list (h : wE X Ψ iter E S fun y S1 => ∃ ws, itemsW S1 y = some ws ∧ (∀ z, y ≠ .tup z) ∧ ΦI ws (stillW y ws) S1) : wI X Ψ tg iter E S ΦI :=
  wI.of (pi_list pe_sem) fun M σ H r ev x R q => h.run M σ H r ev x _ fun v y M1 S1 H1 ⟨ws, hi, nt, p⟩ r1 a1 s1 => by
    obtain ⟨ad, xs, rfl, rv, k⟩ := seq_of (K := X.K) r1 a1 hi
    rcases k with ⟨k, _⟩ | ⟨_, z, k⟩
    · refine ⟨ad, rfl, ⟨xs, k⟩, q _ _ _ ws _ M1 S1 H1 p ?_ r1 s1 (.cons a1 .nil) (itw_list nt ⟨S1, hi⟩)⟩
      cases y with
      | ref k => exact items_ref hi
      | _ => trivial
    · exact absurd k (nt z)
theorem wI_tup (h : wE X Ψ iter E S fun y S1 => ∃ ws, y = .tup ws ∧ ΦI ws (fun _ => True) S1) : wI X Ψ tg iter E S ΦI :=
  wI.of (pi_tup pe_sem) fun M σ H r ev x R q => h.run M σ H r ev x _ fun v y M1 S1 H1 ⟨ws, e, p⟩ r1 a1 s1 => by
    subst e
    cases id a1 with
    | @tup ad xs _ k a => exact ⟨ad, rfl, ⟨xs, k.sq⟩, q _ _ _ ws _ M1 S1 H1 p True.intro r1 s1 (.cons a1 .nil) itw_tup⟩
theorem wI_range1 {p : Pos} (hm : X.mg "range" = none) (h : wE X Ψ a E S fun y S1 => ∃ j, y = .int j ∧ -(2 ^ 62) ≤ j ∧ j < 2 ^ 62 ∧ ΦI (rangeW 0 j.toNat) (fun _ => True) S1) (hg : Gl X "range" := by rfl) (hs : starEach [a] X.env = [(false, eval a X.env)] := by rfl) : wI X Ψ tg (.Call (.Name "range" p) [a] [] pos) E S ΦI :=
  wI.of (pi_range1 hg hm (pa_cons pe_sem pa_nil hs) hs) fun M σ H r ev x R q => h.run M σ H r ev x _ fun v y M1 S1 H1 ⟨j, e, h1, h2, p⟩ r1 a1 s1 => by
    subst e
    cases a1
    exact ⟨j, rfl, h1, h2, q _ _ _ _ _ M1 S1 H1 p True.intro r1 s1 .nil itw_range⟩
theorem wI_range2 {p : Pos} (hm : X.mg "range" = none) (h : wE X Ψ a E S fun x S1 => wE X Ψ b E S1 fun y S2 => ∃ i j, x = .int i ∧ y = .int j ∧ (-(2 ^ 62) ≤ i ∧ i < 2 ^ 62 ∧ -(2 ^ 62) ≤ j ∧ j < 2 ^ 62) ∧ ΦI (rangeW i (j - i).toNat) (fun _ => True) S2) (hg : Gl X "range" := by rfl) (hs : starEach [a, b] X.env = [(false, eval a X.env), (false, eval b X.env)] := by rfl) (hs2 : starEach [b] X.env = [(false, eval b X.env)] := by rfl)
    (hs3 : starEach [a, b] X.env = (false, eval a X.env) :: starEach [b] X.env := by rfl) : wI X Ψ tg (.Call (.Name "range" p) [a, b] [] pos) E S ΦI :=
  wI.of (pi_range2 hg hm (pa_cons pe_sem (pa_cons pe_sem pa_nil hs2) hs3) hs hs2) fun M σ H r ev x R q => h.run M σ H r ev x _ fun v w1 M1 S1 H1 p1 r1 a1 s1 => p1.run M1 σ H1 r1 (ev.step s1) (x.step s1) _ fun u w2 M2 S2 H2 ⟨i, j, e1, e2, hb, p⟩ r2 a2 s2 => by
    subst e1; subst e2
    cases a1; cases a2
    exact ⟨i, j, rfl, hb, q _ _ _ _ _ M2 S2 H2 p True.intro r2 (s1.trans s2) .nil itw_range⟩
/-- enumerate(list) -/
def enumW (n : Nat) : List W → List W
  | [] => []
  | w :: ws => .tup [.int n, w] :: enumW (n + 1) ws
theorem enum_get : ∀ {ws : List W} {n i : Nat} {w : W}, ws[i]? = some w → (enumW n ws)[i]? = some (.tup [.int (n + i : Nat), w])
  | [], _, _, _, h => by simp at h
  | w :: ws, n, 0, x, h => by simp at h; subst h; rfl
  | w :: ws, n, i + 1, x, h => by
    have ih := enum_get (n := n + 1) (i := i) (show ws[i]? = some x by simpa using h)
    show (enumW (n + 1) ws)[i]? = _
    rw [ih]
    congr 4
    omega
theorem enum_len : ∀ {ws : List W} {n : Nat}, (enumW n ws).length = ws.length
  | [], _ => rfl
  | w :: ws, n => by simp [enumW, enum_len]
theorem itw_enum {K : PySem.W.Frag} {u : Addr} {y : W} {ws : List W} (nt : ∀ z, y ≠ .tup z) (hi : ∃ S, itemsW S y = some ws) : ItW (Ite K u) [.ref u] [y] (enumW 0 ws) (stillW y ws) := by
  have base := itw_list (K := K) (u := u) nt hi
  refine ⟨fun M' H' S' i a r' hs hl => ?_, fun M' H' S' i x H2 a r' hs hy hl => ?_, fun M' H' S' i a r' hs hl => ?_⟩
  · rw [enum_len] at hl
    exact base.go M' H' S' i a r' hs hl
  · rw [enum_len] at hl
    obtain ⟨T, z, e1, hT, e2, h⟩ := hy
    subst e1; subst e2
    obtain ⟨w, h1, h2, _⟩ := base.yld M' H' S' i z H' a r' hs ⟨rfl, h⟩ hl
    refine ⟨_, enum_get h1, ?_, r'.tmp hT, step_tmp r' hT⟩
    exact tq_new r' hT (.cons (by rw [Nat.zero_add]; exact .int _) (.cons h2 .nil))
  · rw [enum_len] at hl
    exact base.stop M' H' S' i a r' hs hl
theorem wI_enum {p tpos : Pos} {elts : List Expr} {kk : Nat} (hm : X.mg "enumerate" = none) (h : wE X Ψ a E S fun y S1 => ∃ ws, itemsW S1 y = some ws ∧ (∀ z, y ≠ .tup z) ∧ ΦI (enumW 0 ws) (stillW y ws) S1) (hg : Gl X "enumerate" := by rfl) (hs : starEach [a] X.env = [(false, eval a X.env)] := by rfl) : wI X Ψ (.Tuple elts kk tpos) (.Call (.Name "enumerate" p) [a] [] pos) E S ΦI :=
  wI.of (pi_enum hg hm (pa_cons pe_sem pa_nil hs) hs) fun M σ H r ev x R q => h.run M σ H r ev x _ fun v y M1 S1 H1 ⟨ws, hi, nt, p⟩ r1 a1 s1 => by
    obtain ⟨ad, xs, rfl, rv, k⟩ := seq_of (K := X.K) r1 a1 hi
    rcases k with ⟨k, _⟩ | ⟨_, z, k⟩
    · refine ⟨ad, xs, rfl, k, q _ _ _ _ _ M1 S1 H1 p ?_ r1 s1 (.cons a1 .nil) (itw_enum nt ⟨S1, hi⟩)⟩
      cases y with
      | ref k => exact items_ref hi
      | _ => trivial
    · exact absurd k (nt z)
end

-- AM6

/-! ### references below a number; what is dropped -/
mutual
def W.rlt (n : Nat) : W → Bool
  | .ref k => decide (k < n) | .tup ws => W.rlts n ws | .lst ws => W.rlts n ws | _ => true
def W.rlts (n : Nat) : List W → Bool
  | [] => true
  | w :: ws => w.rlt n && W.rlts n ws
end
def O.rlt (n : Nat) : O → Bool
  | .lst ws => W.rlts n ws | .dk kvs => kvs.all fun p => p.2.rlt n | .dt kvs => kvs.all fun p => p.2.rlt n | .ins _ fs => fs.all fun p => p.2.rlt n | _ => true
def Lay.cut (M : Lay) (n : Nat) : Lay := ⟨M.m.take n, M.h⟩
section
variable {M : Lay} {H : Hp}
theorem cut_out {n : Nat} {a : Addr} (h : M.out a) : (M.cut n).out a := ⟨fun z => h.1 (List.mem_of_mem_take z), h.2⟩
theorem sq_cut {K : PySem.W.Frag} {n : Nat} {a : Addr} {ns : List Int} (h : SQ K M H a ns) : SQ K (M.cut n) H a ns := by
  rcases h with ⟨h, o⟩ | h
  · exact .inl ⟨h, cut_out o⟩
  · exact .inr h
mutual
theorem vw_cut {n : Nat} : ∀ (w : W) {v : V}, VW M H v w → w.rlt n = true → VW (M.cut n) H v w
  | .non, _, h, _ => by cases h; exact .non
  | .bl _, _, h, _ => by cases h; exact .bl _
  | .int _, _, h, _ => by cases h; exact .int _
  | .str _, _, h, _ => by cases h; exact .str _
  | .tup ws, _, h, r => by
    cases h with
    | tup q a => exact .tup ⟨q.1, cut_out q.2⟩ (vws_cut ws a (by simpa [W.rlt] using r))
  | .lst ws, _, h, r => by
    cases h with
    | lst q a => exact .lst ⟨q.1, cut_out q.2⟩ (vws_cut ws a (by simpa [W.rlt] using r))
  | .ref k, _, h, r => by
    cases h with
    | ref q => exact .ref (by
        have hk : k < n := by simpa [W.rlt] using r
        show (M.m.take n)[k]? = _
        rw [List.getElem?_take_of_lt hk]; exact q)
  | .raw _, _, h, _ => by cases h; exact .raw _
  | .scr _ _, _, h, _ => by
    cases h with
    | scr q => exact .scr (sq_cut q)
  | .xi _ _ _ _, _, h, _ => by
    cases h with
    | xi q1 q2 => exact .xi (cut_out q1) q2
  | .thg _ _, _, h, _ => by
    cases h with
    | thg q => exact .thg fun z hz => ⟨cut_out (q z hz).1, (q z hz).2⟩
theorem vws_cut {n : Nat} : ∀ (ws : List W) {vs : List V}, VWs M H vs ws → W.rlts n ws = true → VWs (M.cut n) H vs ws
  | [], _, h, _ => by cases h; exact .nil
  | w :: ws, _, h, r => by
    cases h with
    | cons a b =>
      simp only [W.rlts, Bool.and_eq_true] at r
      exact .cons (vw_cut w a r.1) (vws_cut ws b r.2)
end
theorem pvw_cut {κ : Type} {n : Nat} : ∀ {fs : List (κ × V)} {ws : List (κ × W)}, PVW M H fs ws → (ws.all fun p => p.2.rlt n) = true → PVW (M.cut n) H fs ws
  | _, _, .nil, _ => .nil
  | _, _, .cons (b := q) a t, r => by
    simp only [List.all_cons, Bool.and_eq_true] at r
    exact .cons ⟨a.1, vw_cut _ a.2 r.1⟩ (pvw_cut t r.2)
theorem ob_cut {n : Nat} {ho : HO} {o : O} (b : Ob M H ho o) (r : o.rlt n = true) : Ob (M.cut n) H ho o := by
  cases b with
  | lst a => exact .lst (vws_cut _ a r)
  | dk a => exact .dk (pvw_cut a r)
  | dt a => exact .dt (pvw_cut a r)
  | ins a => exact .ins (pvw_cut a r)
  | row a =>
    obtain ⟨v, ns, i, z, e, a, q⟩ := a
    exact .row ⟨v, ns, i, z, e, vw_cut _ a rfl, q⟩
  | any m n => exact .any m n
  | tab t q =>
    refine .tab t fun pos cv e => ?_
    obtain ⟨c, h1, h2, h3⟩ := q pos cv e
    exact ⟨c, h1, cut_out h2, h3⟩
theorem Rep.cut {S T : Sto} (r : Rep M H (S ++ T)) (hr : ∀ o, o ∈ S → o.rlt S.length = true) : Rep (M.cut S.length) H S where
  nd := r.nd.sublist (List.take_sublist _ _)
  len := by
    show (M.m.take S.length).length = S.length
    rw [List.length_take, r.len, List.length_append]
    omega
  at_ := fun k p o h1 h2 => by
    have hk : k < S.length := (List.getElem?_eq_some_iff.mp h2).1
    have h1 : (M.m.take S.length)[k]? = some p := h1
    rw [List.getElem?_take_of_lt hk] at h1
    obtain ⟨ho, e, b⟩ := r.at_ k p o h1 (by rw [List.getElem?_append_left hk]; exact h2)
    exact ⟨ho, e, ob_cut b (hr o (List.mem_of_getElem? h2))⟩
  hid := fun p hp => ⟨(r.hid p hp).1, fun z => (r.hid p hp).2 (List.mem_of_mem_take z)⟩
  tb := fun k P q e => by
    have hk : k < S.length := (List.getElem?_eq_some_iff.mp e).1
    show (M.m.take S.length)[k]? = some P
    rw [List.getElem?_take_of_lt hk]
    exact r.tb k P q (by rw [List.getElem?_append_left hk]; exact e)
theorem step_cut {M0 : Lay} {H0 : Hp} {n : Nat} (s : Step M0 H0 M H) (hn : M0.m.length ≤ n) : Step M0 H0 (M.cut n) H where
  pre := by
    obtain ⟨t, e⟩ := s.pre
    refine ⟨t.take (n - M0.m.length), ?_⟩
    show _ = M.m.take n
    rw [← e, List.take_append, List.take_of_length_le hn]
  new := fun p h q => s.new p (fun z => h (cut_out z)) q
  keep := s.keep
  tbl := s.tbl
  there := s.there
  old := fun a m => s.old a (List.mem_of_mem_take m)
  hold := s.hold
/- all references of what stands in a state are below its length -/
mutual
theorem vw_rlt {v : V} : ∀ {w : W}, VW M H v w → w.rlt M.m.length = true
  | .non, _ => rfl
  | .bl _, _ => rfl
  | .int _, _ => rfl
  | .str _, _ => rfl
  | .tup ws, h => by
    cases h with
    | tup q a => exact vws_rlt a
  | .lst ws, h => by
    cases h with
    | lst q a => exact vws_rlt a
  | .ref k, h => by
    cases h with
    | ref q => exact decide_eq_true (List.getElem?_eq_some_iff.mp q).1
  | .raw _, _ => rfl
  | .scr _ _, _ => rfl
  | .xi _ _ _ _, _ => rfl
  | .thg _ _, _ => rfl
theorem vws_rlt : ∀ {ws : List W} {vs : List V}, VWs M H vs ws → W.rlts M.m.length ws = true
  | [], _, _ => rfl
  | w :: ws, _, h => by
    cases h with
    | cons a b => simp only [W.rlts, Bool.and_eq_true]; exact ⟨vw_rlt a, vws_rlt b⟩
end
theorem pvw_rlt {κ : Type} : ∀ {fs : List (κ × V)} {ws : List (κ × W)}, PVW M H fs ws → (ws.all fun p => p.2.rlt M.m.length) = true
  | _, _, .nil => rfl
  | _, _, .cons a t => by
    simp only [List.all_cons, Bool.and_eq_true]
    exact ⟨vw_rlt a.2, pvw_rlt t⟩
def Srl (S : Sto) : Prop := ∀ o, o ∈ S → o.rlt S.length = true
theorem Rep.srl {S : Sto} (r : Rep M H S) : Srl S := fun o ho => by
  obtain ⟨k, hk, e⟩ := List.mem_iff_getElem.mp ho
  obtain ⟨p, q, h1, h2, b⟩ := r.at' (o := o) (by rw [List.getElem?_eq_getElem hk, e])
  rw [← r.len]
  cases b with
  | lst a => exact vws_rlt a
  | dk a => exact pvw_rlt a
  | dt a => exact pvw_rlt a
  | ins a => exact pvw_rlt a
  | row a => rfl
  | any m n => rfl
  | tab t q => rfl
/- what a result becomes when the objects from n on are forgotten: lists of theirs are lists that nobody changes -/
mutual
inductive Fz (S : Sto) (n : Nat) : W → W → Prop
  | non : Fz S n .non .non
  | bl (b : Bool) : Fz S n (.bl b) (.bl b)
  | int (i : Int) : Fz S n (.int i) (.int i)
  | str (x : Str) : Fz S n (.str x) (.str x)
  | raw (v : V) : Fz S n (.raw v) (.raw v)
  | scr (K : PySem.W.Frag) (v : List Int) : Fz S n (.scr K v) (.scr K v)
  | xi (a d : Addr) (f : Str) (i : Int) : Fz S n (.xi a d f i) (.xi a d f i)
  | thg (a : Addr) (fs : List (Addr × HO)) : Fz S n (.thg a fs) (.thg a fs)
  | tup {ws us} : Fzs S n ws us → Fz S n (.tup ws) (.tup us)
  | lst {ws us} : Fzs S n ws us → Fz S n (.lst ws) (.lst us)
  | old {k} : k < n → Fz S n (.ref k) (.ref k)
  | new {k ws us} : n ≤ k → S[k]? = some (.lst ws) → Fzs S n ws us → Fz S n (.ref k) (.lst us)
inductive Fzs (S : Sto) (n : Nat) : List W → List W → Prop
  | nil : Fzs S n [] []
  | cons {w ws u us} : Fz S n w u → Fzs S n ws us → Fzs S n (w :: ws) (u :: us)
end
theorem cut_new {S : Sto} {n k : Nat} {p : Addr} (r : Rep M H S) (h : M.m[k]? = some p) (hn : n ≤ k) : (M.cut n).out p := by
  refine ⟨fun z => ?_, fun z => (r.hid p z).2 (List.mem_of_getElem? h)⟩
  obtain ⟨j, hj, e⟩ := List.mem_iff_getElem.mp z
  have hj' : j < n := by
    have : j < (M.m.take n).length := hj
    rw [List.length_take] at this
    omega
  have q : (M.m.take n)[j]? = some p := by rw [← e]; exact List.getElem?_eq_getElem hj
  rw [List.getElem?_take_of_lt hj'] at q
  exact absurd (nd_at r.nd q h) (by omega)
mutual
theorem vw_fz {S : Sto} {n : Nat} (r : Rep M H S) : ∀ (u : W) {w : W} {v : V}, VW M H v w → Fz S n w u → VW (M.cut n) H v u
  | .non, _, _, h, f => by cases f; cases h; exact .non
  | .bl _, _, _, h, f => by cases f; cases h; exact .bl _
  | .int _, _, _, h, f => by cases f; cases h; exact .int _
  | .str _, _, _, h, f => by cases f; cases h; exact .str _
  | .raw _, _, _, h, f => by cases f; cases h; exact .raw _
  | .scr _ _, _, _, h, f => by
    cases f
    cases h with
    | scr q => exact .scr (sq_cut q)
  | .xi _ _ _ _, _, _, h, f => by
    cases f
    cases h with
    | xi q1 q2 => exact .xi (cut_out q1) q2
  | .thg _ _, _, _, h, f => by
    cases f
    cases h with
    | thg q => exact .thg fun z hz => ⟨cut_out (q z hz).1, (q z hz).2⟩
  | .tup us, _, _, h, f => by
    cases f with
    | tup f => cases h with
      | tup q a => exact .tup ⟨q.1, cut_out q.2⟩ (vws_fz r us a f)
  | .lst us, _, _, h, f => by
    cases f with
    | lst f => cases h with
      | lst q a => exact .lst ⟨q.1, cut_out q.2⟩ (vws_fz r us a f)
    | new hn hk f => cases h with
      | ref hm =>
        obtain ⟨p, xs, h1, h2, h3⟩ := r.lst hk
        rw [hm] at h1; cases h1
        exact .lst ⟨h2, cut_new r hm hn⟩ (vws_fz r us h3 f)
  | .ref k, _, _, h, f => by
    cases f with
    | old hk => cases h with
      | ref hm => exact .ref (by
          show (M.m.take n)[k]? = _
          rw [List.getElem?_take_of_lt hk]; exact hm)
theorem vws_fz {S : Sto} {n : Nat} (r : Rep M H S) : ∀ (us : List W) {ws : List W} {vs : List V}, VWs M H vs ws → Fzs S n ws us → VWs (M.cut n) H vs us
  | [], _, _, h, f => by cases f; cases h; exact .nil
  | u :: us, _, _, h, f => by
    cases f with
    | cons f1 f2 => cases h with
      | cons a b => exact .cons (vw_fz r u a f1) (vws_fz r us b f2)
end
end
/-- a store told less -/
def Imp (S S1 : Sto) : Prop := ∀ M H, Rep M H S → Rep M H S1
theorem Imp.refl (S : Sto) : Imp S S := fun _ _ r => r
theorem Imp.trans {S S1 S2 : Sto} (a : Imp S S1) (b : Imp S1 S2) : Imp S S2 := fun M H r => b M H (a M H r)
/-- a def's end: as it is, told less, its own objects forgotten -/
def fin (n : Nat) (Φ : W → Sto → Prop) : W → Sto → Prop := fun w S' => ∃ S1, Imp S' S1 ∧ (Φ w S1 ∨ ∃ S2 T u, S1 = S2 ++ T ∧ n ≤ S2.length ∧ Srl S2 ∧ Fz S1 S2.length w u ∧ Φ u S2)
theorem fin.as {n : Nat} {Φ : W → Sto → Prop} {w : W} {S : Sto} (h : Φ w S) : fin n Φ w S := ⟨S, Imp.refl S, .inl h⟩
theorem fin.less {n : Nat} {Φ : W → Sto → Prop} {w : W} {S S1 : Sto} (i : Imp S S1) (h : fin n Φ w S1) : fin n Φ w S := by
  obtain ⟨S2, j, h⟩ := h
  exact ⟨S2, i.trans j, h⟩
theorem fin.drop {n : Nat} {Φ : W → Sto → Prop} {w u : W} {S2 T : Sto} (hn : n ≤ S2.length) (hr : Srl S2) (f : Fz (S2 ++ T) S2.length w u) (h : Φ u S2) : fin n Φ w (S2 ++ T) := ⟨_, Imp.refl _, .inr ⟨S2, T, u, rfl, hn, hr, f, h⟩⟩
theorem Got.fin {M : Lay} {H : Hp} {S : Sto} (r : Rep M H S) {Φ : W → Sto → Prop} {Q : VK} (g : Got M H Φ Q) : Got M H (fin S.length Φ) Q := fun v w M2 S2 H2 p r2 a2 s2 => by
  obtain ⟨S1, i, p⟩ := p
  have r2 := i _ _ r2
  rcases p with p | ⟨S3, T, u, e, hn, hr, f, p⟩
  · exact g v w M2 S1 H2 p r2 a2 s2
  · subst e
    exact g v u (M2.cut S3.length) S3 H2 p (r2.cut hr) (vw_fz r2 u a2 f) (step_cut s2 (by rw [r.len]; exact hn))

/-! ### defs -/
/-- a def's promise: its arguments, the store, what is wanted of its result, of an exception -/
abbrev ASp := List W → Sto → (W → Sto → Prop) → (Value → List (Str × W) → Sto → Prop) → Prop
def conc (n : Nat) (asp : ASp) : Sp := fun vs H Q XE => vs.length = n ∧ ∃ M S ws Φ Ψ, Rep M H S ∧ VWs M H vs ws ∧ asp ws S Φ Ψ ∧ Got M H Φ Q ∧
  ∀ cls fs d M2 S2 H2, Ψ cls fs S2 → Rep M2 H2 S2 → Xd M2 H2 d fs → Step M H M2 H2 → XE cls d H2
/-- a def of the module that keeps a promise -/
structure CFn (P : Program) (w : World) (K : PySem.W.Frag) (mg : Str → Option Value) (base : Heap) (name : Str) (k n : Nat) (asp : ASp) : Prop where
  ex : ∃ f fd ps, mg name = some (.ref f) ∧ PySem.W.keepIn K (.ref f) = true ∧ Binds K fd ps [] ∧ ps.length = n ∧ FnOk P w K mg base (L2.CX P w) k f fd ps (conc n asp)
/-- .. of a class -/
structure CMeth (P : Program) (w : World) (K : PySem.W.Frag) (mg : Str → Option Value) (base : Heap) (C : Addr) (m : Str) (k n : Nat) (asp : ASp) : Prop where
  ex : ∃ f fd ps, Meth K C m f ∧ Binds K fd ps [] ∧ ps.length = n ∧ FnOk P w K mg base (L2.CX P w) k f fd ps (conc n asp)
structure CMake (P : Program) (w : World) (K : PySem.W.Frag) (mg : Str → Option Value) (base : Heap) (name : Str) (C : Addr) (k n : Nat) (asp : ASp) : Prop where
  ex : ∃ f fd ps, mg name = some (.ref C) ∧ Mk K C f ∧ Binds K fd ps [] ∧ ps.length = n ∧ FnOk P w K mg base (L2.CX P w) k f fd ps (conc n asp)
def startW (n : Nat) (ws : List W) : AEnv := ws.map some ++ List.replicate (n - ws.length) none
theorem evok_start {M : Lay} {H : Hp} {N : List Str} {vs : List V} {ws : List W} (r : VWs M H vs ws) (hl : vs.length ≤ N.length) : EvOk M H (L2.start N vs) (startW N.length ws) := by
  refine ⟨by simp [L2.start, startW, r.length], fun i w h => ?_⟩
  unfold startW at h
  unfold L2.start
  by_cases hi : i < ws.length
  · rw [List.getElem?_append_left (by simpa using hi), List.getElem?_map] at h
    cases e : ws[i]? with
    | none => rw [e] at h; cases h
    | some u =>
      rw [e] at h; cases h
      obtain ⟨v, h1, h2⟩ := r.get e
      refine ⟨v, ?_, h2⟩
      rw [List.getElem?_append_left (by rw [List.length_map, r.length]; exact hi), List.getElem?_map, h1]
      rfl
  · rw [List.getElem?_append_right (by simpa using hi), List.getElem?_replicate] at h
    split at h <;> cases h
/-- THE RULE: a def by its body -/
theorem fn_ok {P : Program} {w : World} {K : PySem.W.Frag} {mg : Str → Option Value} {base : Heap} {x qual : Str} {st : Stmt} {f : Addr} {fd : FuncData} {N ps : List Str} {k : Nat} {asp : ASp} (F : Fun K x qual st f fd) (sc : FnScope N ps (defScope st))
    (hbody : ∀ (cdv : Value) (A : Around) (outer : List Env) (s : Shared) (H : Hp) (E : XK), Room k (A.deeper (envOfC qual (defScope st) s.heap.objs.size f cdv)) → ∀ ws S Φ Ψ, ws.length = ps.length → Srl S → asp ws S Φ Ψ →
      wB (cxOf (L2.CX P w) P w K mg base N qual (defScope st) f cdv A outer s H E) (fun cls fs _ S2 => Ψ cls fs S2) (defBody st) (startW N.length ws) S ⟨fun _ S2 => fin S.length Φ .non S2, fin S.length Φ, fun _ _ => False, fun _ _ => False⟩) :
    FnOk P w K mg base (L2.CX P w) (k + 1) f fd ps (conc ps.length asp) := by
  refine F.okX sc (fun vs H Q E h => h.1) fun cdv A outer s H vs Q E hr h => ?_
  obtain ⟨hl, M, S, ws, Φ, Ψ, r, a, hsp, g, hx⟩ := h
  have hpl : ps.length ≤ N.length := by
    have e := congrArg List.length sc.pre
    rw [List.length_take] at e
    omega
  refine ⟨semB _ _, pss_sem, ?_⟩
  refine (hbody cdv A outer s H E hr ws S Φ Ψ (by rw [← a.length]; exact hl) r.srl hsp).run M (L2.start N vs) H r (evok_start a (by omega)) ?_ _ ?_
  · exact ⟨fun cls d _ H2 => E cls d H2, takes_of rfl rfl rfl rfl, fun cls fs E2 S2 M2 H2 d σ2 p r2 _ xd s2 => hx cls fs d M2 S2 H2 p r2 xd s2⟩
  · exact ⟨fun σ E2 M2 S2 H2 p r2 _ s2 => (g.fin r) _ _ M2 S2 H2 p r2 .non s2, g.fin r, fun _ _ _ _ _ p => p.elim, fun _ _ _ _ _ p => p.elim⟩
section
variable {X : Cx} {Ψ : AX} {a b c e o tg iter : Expr} {es rest : List Expr} {E : AEnv} {S : Sto} {Φ : W → Sto → Prop} {ΦE : AEnv → Sto → Prop} {ΦT : Bool → Sto → Prop} {ΦS : List W → Sto → Prop} {pos : Pos} {k n : Nat} {asp : ASp}
/-- what is wanted of a call's exception, where the call stands -/
theorem run_conc {M : Lay} {H : Hp} {vs : List V} {ws : List W} {σ : L2.St} {Q : VK} {Wx : WX} (r : Rep M H S) (ev : EvOk M H σ E) (hx : ∀ cls fs E2 S2 M2 H2 d σ2, Ψ cls fs E2 S2 → Rep M2 H2 S2 → EvOk M2 H2 σ2 E2 → Xd M2 H2 d fs → Step M H M2 H2 → Wx cls d σ2 H2)
    (a : VWs M H vs ws) (hl : ws.length = n) (h : asp ws S Φ fun cls fs S2 => Ψ cls fs E S2) (q : Got M H Φ Q) : conc n asp vs H Q fun cls d H2 => Wx cls d σ H2 :=
  ⟨by rw [a.length]; exact hl, M, S, ws, Φ, _, r, a, h, q, fun cls fs d M2 S2 H2 p r2 xd s2 => hx cls fs E S2 M2 H2 d σ p r2 (ev.step s2) xd s2⟩
theorem run_fn' {CX : CXT} {f : Addr} {fd : FuncData} {ps : List Str} {sp : Sp} {ds : List Value} {dvs : List V} {XEx : XK} {pins : List (Addr × Obj)} {σ : L2.St} {H : Hp} {s : Shared} {Q : VK} {us : List Value} {vs : List V} (F : FnOk X.prog X.w X.K X.mg X.base CX k f fd ps sp) (hr : Room k X.A) (hb : Binds X.K fd ps ds) (hd : Vals dvs ds)
    (hx : ∀ e s', CX X.stack H s XEx e s' → X.xe e s') (I : Inv X pins σ H s) (r : Vals vs us) (h : sp (vs ++ dvs) H Q XEx) : wpAny (model X.prog X.w) X.A (call (.ref f) us) (EP X pins σ Q) X.xe s := by
  have r2 : Vals (vs ++ dvs) (us ++ ds) := r.append hd
  have hl : (us ++ ds).length = ps.length := by rw [← r2.length]; exact F.len _ _ _ _ h
  refine wpAny_call (codeAny_mono (F.run X.A X.stack s H ⟨us, []⟩ (us ++ ds) (vs ++ dvs) Q XEx hr I.env0 (hb s us I.kIn hl) r2 h) fun r s' hq => ?_)
  cases r with
  | error e => exact hx e s' hq
  | ok fl =>
    cases fl with
    | ret u => exact I.after hq
    | next => exact False.elim hq
    | brk => exact False.elim hq
    | cont => exact False.elim hq
/-- a call of a def that keeps its promise, from abstract arguments -/
theorem run_abs {f : Addr} {fd : FuncData} {ps : List Str} {M : Lay} {H : Hp} {vs : List V} {us : List Value} {ws : List W} {σ : L2.St} {s : Shared} {pins : List (Addr × Obj)} {Q : VK} (F : FnOk X.prog X.w X.K X.mg X.base (L2.CX X.prog X.w) k f fd ps (conc n asp)) (hr : Room k X.A) (hb : Binds X.K fd ps [])
    (r : Rep M H S) (ev : EvOk M H σ E) (x : ExcOk X M H Ψ) (I : Inv X pins σ H s) (rv : Vals vs us) (a : VWs M H vs ws) (hl : ws.length = n) (h : asp ws S Φ fun cls fs S2 => Ψ cls fs E S2) (q : Got M H Φ Q) :
    wpAny (model X.prog X.w) X.A (call (.ref f) us) (EP X pins σ Q) X.xe s := by
  obtain ⟨Wx, tk, hx⟩ := x
  refine run_fn' (XEx := fun cls d H2 => Wx cls d σ H2) (dvs := []) (ds := []) F hr hb .nil (fun e s' c => tk e s' (XE.of_call I (fun _ _ _ z => z) c)) I rv ?_
  rw [List.append_nil]
  exact run_conc r ev hx a hl h q
theorem wE_call {x : Str} {p : Pos} (F : CFn X.prog X.w X.K X.mg X.base x k n asp) (hr : Room k X.A) (h : wA X Ψ (e :: es) E S fun ws S1 => ws.length = n ∧ asp ws S1 Φ fun cls fs S2 => Ψ cls fs E S2) (hg : Gl X x := by rfl)
    (hdb : (x == ("__debug__" : Str)) = false := by decide) (he : starEach (e :: es) X.env = (false, eval e X.env) :: starEach es X.env := by rfl) (hpl : (backTo pos (starEach es X.env)).any (·.1) = false := by rfl) : wE X Ψ (.Call (.Name x p) (e :: es) [] pos) E S Φ := by
  obtain ⟨f, fd, ps, hm, hk, hb, hl, F⟩ := F.ex
  refine ⟨fun M σ H r ev xo Q q pins s I => ?_⟩
  refine wpAny_Call_Name_kw (ld_glob I hg hm ?_ hdb)
  refine PySem.W.callWith_K (h₀ := X.base) I.ok.mod.kin hk (thn ((h.run M σ H r ev xo (fun vs H1 => ∀ us s1, Inv X pins σ H1 s1 → Vals vs us → wpAny (model X.prog X.w) X.A (call (.ref f) us) (EP X pins σ Q) X.xe s1) fun vs ws M1 S1 H1 p r1 a1 s1 us s1' I1 rv => ?_) pos pins s I) fun us s1 ⟨vs, H1, I1, rv, q1⟩ => ⟨I1.kIn, q1 us s1 I1 rv⟩) he hpl
  exact run_abs F hr hb r1 (ev.step s1) (xo.step s1) I1 rv a1 p.1 p.2 (q.step s1)
end

-- AM7

section
variable {X : Cx} {Ψ : AX} {a b c e o tg iter : Expr} {es rest : List Expr} {E : AEnv} {S : Sto} {Φ : W → Sto → Prop} {ΦE : AEnv → Sto → Prop} {ΦT : Bool → Sto → Prop} {ΦS : List W → Sto → Prop} {pos : Pos} {k n : Nat} {asp : ASp} {st : Stmt} {sts body orelse : List Stmt} {A : AE}

/-! ### new instances -/
/-! ### blocks, small statements -/
theorem wB_nil (h : A.nx E S) : wB X Ψ [] E S A := wB.of pss_nil fun M σ H r ev _ D q => q.nx σ E M S H h r ev (Step.refl M H)
theorem wB_cons (h : wS X Ψ st E S { A with nx := fun E2 S2 => wB X Ψ sts E2 S2 A }) : wB X Ψ (st :: sts) E S A :=
  wB.of (pss_cons ps_sem pss_sem) fun M σ H r ev x D q => h.run M σ H r ev x _ ⟨fun σ2 E2 M2 S2 H2 p r2 ev2 s2 => p.run M2 σ2 H2 r2 ev2 (x.step s2) D (q.step s2), q.rt, q.bk, q.ct⟩
theorem wB_one (h : wS X Ψ st E S A) : wB X Ψ [st] E S A := wB.of (pss_one ps_sem) fun M σ H r ev x D q => h.run M σ H r ev x D q
theorem wS_pass (h : A.nx E S) : wS X Ψ (.Pass pos) E S A := wS.of ps_pass fun M σ H r ev _ D q => q.nx σ E M S H h r ev (Step.refl M H)
theorem wS_break (h : A.bk E S) : wS X Ψ (.Break pos) E S A := wS.of ps_break fun M σ H r ev _ D q => q.bk σ E M S H h r ev (Step.refl M H)
theorem wS_cont (h : A.ct E S) : wS X Ψ (.Continue pos) E S A := wS.of ps_continue fun M σ H r ev _ D q => q.ct σ E M S H h r ev (Step.refl M H)
theorem wS_expr (h : wE X Ψ e E S fun _ S1 => A.nx E S1) (hs : swapsWith e none pos.line X.env = pure false := by rfl) : wS X Ψ (.Expr e pos) E S A :=
  wS.of (ps_expr pe_sem hs) fun M σ H r ev x D q => h.run M σ H r ev x _ fun v w M1 S1 H1 p r1 a1 s1 => q.nx σ E M1 S1 H1 p r1 (ev.step s1) s1
theorem wS_ret (h : wE X Ψ e E S A.rt) : wS X Ψ (.Return (some e) pos) E S A := wS.of (ps_ret pe_sem) fun M σ H r ev x D q => h.run M σ H r ev x _ q.rt
theorem wS_retN (h : A.rt .non S) : wS X Ψ (.Return none pos) E S A := wS.of ps_retN fun M σ H r ev x D q => q.rt _ _ M S H h r .non (Step.refl M H)
theorem wS_if (h : wT X Ψ c E S fun k S1 => if k = true then wB X Ψ sts E S1 A else wB X Ψ orelse E S1 A) : wS X Ψ (.If c sts orelse pos) E S A :=
  wS.of (ps_if pt_sem pss_sem pss_sem) fun M σ H r ev x D q => h.run M σ H r ev x _ fun k M1 S1 H1 p r1 s1 => by
    cases k with
    | true => exact iteT ((show wB X Ψ sts E S1 A from p).run M1 σ H1 r1 (ev.step s1) (x.step s1) D (q.step s1))
    | false => exact iteF ((show wB X Ψ orelse E S1 A from p).run M1 σ H1 r1 (ev.step s1) (x.step s1) D (q.step s1))
/-- target = value -/
theorem wS_asg (h : wE X Ψ e E S fun w S1 => wG X Ψ tg w E S1 A.nx) (hs : swapsWithSole [tg] e pos.line X.env = pure false := by rfl) (hw : swappedStores [tg] e X.env = pure none := by rfl)
    (h1 : (assignEach [tg] X.env).map (·.2) = [assign tg X.env] := by rfl) : wS X Ψ (.Assign [tg] e pos) E S A :=
  wS.of (ps_asg pe_sem pg_sem hs hw h1) fun M σ H r ev x D q => h.run M σ H r ev x _ fun v w M1 S1 H1 p r1 a1 s1 => p.run M1 σ H1 v r1 (ev.step s1) (x.step s1) a1 _ fun σ2 E2 M2 S2 H2 p2 r2 ev2 s2 => q.nx σ2 E2 M2 S2 H2 p2 r2 ev2 (s1.trans s2)
/-- name = value -/
theorem wS_set {y : Str} {pos' : Pos} (i : Nat) (hN : X.N.Nodup) (h : wE X Ψ e E S fun w S1 => A.nx (E.set i (some w)) S1) (hi : X.N[i]? = some y := by rfl) (hx : Loc X.env.scope y := by first | exact Or.inl rfl | exact Or.inr rfl) (hs : swapsWith e (some (.Name y pos')) pos.line X.env = pure false := by rfl) (hf : X.fn y = true ∨ X.env.scope.names.lookup y = some .local := by first | exact .inl rfl | exact .inr rfl) :
    wS X Ψ (.Assign [.Name y pos'] e pos) E S A :=
  wS.of (ps_set hN hi hx pe_sem hs hf) fun M σ H r ev x D q => h.run M σ H r ev x _ fun v w M1 S1 H1 p r1 a1 s1 => q.nx _ _ M1 S1 H1 p r1 ((ev.step s1).set a1 i) s1
/-- a, b = x, y, plain local names -/
theorem wS_par {y z : Str} {px py pt : Pos} {kt k2 pt2} (i j : Nat) (hc : X.calm = true) (hN : X.N.Nodup) (h : wE X Ψ a E S fun w S1 => wE X Ψ b E S1 fun u S2 => A.nx ((E.set i (some w)).set j (some u)) S2) (hi : X.N[i]? = some y := by rfl) (hj : X.N[j]? = some z := by rfl) (hij : i ≠ j := by decide)
    (hx : X.env.scope.names.lookup y = some .local := by rfl) (hy : X.env.scope.names.lookup z = some .local := by rfl) (hw : swappedStores [.Tuple [.Name y px, .Name z py] kt pt] (.Tuple [a, b] k2 pt2) X.env = pure (some [y, z]) := by rfl)
    (hs : swapsWithSole [.Tuple [.Name y px, .Name z py] kt pt] (.Tuple [a, b] k2 pt2) pos.line X.env = pure false := by rfl) (h1 : starEach [a, b] X.env = (false, eval a X.env) :: starEach [b] X.env := by rfl) (h2 : starEach [b] X.env = (false, eval b X.env) :: starEach [] X.env := by rfl) :
    wS X Ψ (.Assign [.Tuple [.Name y px, .Name z py] kt pt] (.Tuple [a, b] k2 pt2) pos) E S A :=
  wS.of (ps_par hc hN hi hj hij hx hy (pa_cons pe_sem (pa_cons pe_sem pa_nil h2) h1) hw hs) fun M σ H r ev x D q => h.run M σ H r ev x _ fun v w M1 S1 H1 p1 r1 a1 s1 => p1.run M1 σ H1 r1 (ev.step s1) (x.step s1) _ fun u w2 M2 S2 H2 p2 r2 a2 s2 =>
    ⟨v, u, rfl, q.nx _ _ M2 S2 H2 p2 r2 ((((ev.step s1).step s2).set (VW.step s2 _ _ a1) i).set a2 j) (s1.trans s2)⟩
/-- o.f = value -/
theorem wS_fld {f : Str} {pos' : Pos} (h : wE X Ψ e E S fun w S1 => wE X Ψ o E S1 fun x S2 => ∃ k C S3, x = .ref k ∧ fputW S2 k f w = some (C, S3) ∧ Cls X.K C ∧ NoAttr X.K C f ∧ A.nx E S3) (hs : swapsWith e (some (.Attribute o f pos')) pos.line X.env = pure false := by rfl) : wS X Ψ (.Assign [.Attribute o f pos'] e pos) E S A :=
  wS.of (ps_fld pe_sem pe_sem hs) fun M σ H r ev x D q => h.run M σ H r ev x _ fun v w M1 S1 H1 p1 r1 a1 s1 => p1.run M1 σ H1 r1 (ev.step s1) (x.step s1) _ fun vo x1 M2 S2 H2 ⟨k, C, S3, e1, hf, hc, hn, p⟩ r2 a2 s2 => by
    subst e1
    obtain ⟨ad, dx, fs, rfl, h1, hl, r3, s3⟩ := fput_vw r2 a2 (VW.step s2 _ _ a1) hf
    exact ⟨ad, C, dx, fs, rfl, h1, hc, hn, hl, q.nx σ E M2 S3 _ p r3 (((ev.step s1).step s2).step s3) ((s1.trans s2).trans s3)⟩
/-- d[y] = value -/
theorem wS_dput {pos' : Pos} (hu : X.A.units + 65 < cLine) (h : wE X Ψ e E S fun w S1 => wE X Ψ o E S1 fun x S2 => wE X Ψ a E S2 fun y S3 => ∃ k S4, x = .ref k ∧ dlenW S3 k ≤ 100000 ∧ dputW S3 k y w = some S4 ∧ A.nx E S4) (hs : swapsWith e (some (.Subscript o a pos')) pos.line X.env = pure false := by rfl) : wS X Ψ (.Assign [.Subscript o a pos'] e pos) E S A :=
  wS.of (ps_dput (by omega) pe_sem pe_sem pe_sem hs) fun M σ H r ev x D q => h.run M σ H r ev x _ fun v w M1 S1 H1 p1 r1 a1 s1 => p1.run M1 σ H1 r1 (ev.step s1) (x.step s1) _ fun vo x1 M2 S2 H2 p2 r2 a2 s2 => p2.run M2 σ H2 r2 ((ev.step s1).step s2) ((x.step s1).step s2) _ fun vy y M3 S3 H3 ⟨k, S4, e1, hl, hd, p⟩ r3 a3 s3 => by
    subst e1
    obtain ⟨ad, H', rfl, g, r', s'⟩ := dput_vw r3 (VW.step s3 _ _ a2) a3 (VW.step s3 _ _ (VW.step s2 _ _ a1)) hl hd
    exact ⟨ad, H', rfl, g, q.nx σ E M3 S4 _ p r' ((((ev.step s1).step s2).step s3).step s') (((s1.trans s2).trans s3).trans s')⟩

/-! ### loops -/
/-- a turn's end: told less; as it is, or objects from some number on forgotten -/
def dropTo (n : Nat) (I : AEnv → Sto → Prop) : AEnv → Sto → Prop := fun E' S' => ∃ S1, Imp S' S1 ∧ (I E' S1 ∨
  ∃ E2 S2 T, S1 = S2 ++ T ∧ n ≤ S2.length ∧ Srl S2 ∧ E2.length = E'.length ∧ (∀ (i : Nat) w, E2[i]? = some (some w) → E'[i]? = some (some w) ∧ w.rlt S2.length = true) ∧ I E2 S2)
theorem dropTo.as {n : Nat} {I : AEnv → Sto → Prop} {E : AEnv} {S : Sto} (h : I E S) : dropTo n I E S := ⟨S, Imp.refl S, .inl h⟩
theorem dropTo.less {n : Nat} {I : AEnv → Sto → Prop} {E : AEnv} {S S1 : Sto} (i : Imp S S1) (h : dropTo n I E S1) : dropTo n I E S := by
  obtain ⟨S2, j, h⟩ := h
  exact ⟨S2, i.trans j, h⟩
/-- the slots whose values speak of dropped ones are forgotten -/
def dropE (n : Nat) (E : AEnv) : AEnv := E.map fun o => match o with
  | some w => if w.rlt n = true then some w else none
  | none => none
theorem dropE_at {n : Nat} {E : AEnv} {i : Nat} {w : W} (e : (dropE n E)[i]? = some (some w)) : E[i]? = some (some w) ∧ w.rlt n = true := by
  unfold dropE at e
  rw [List.getElem?_map] at e
  cases q : E[i]? with
  | none => rw [q] at e; cases e
  | some o =>
    rw [q] at e
    cases o with
    | none => cases e
    | some u =>
      have e : (if u.rlt n = true then some u else none) = some w := Option.some.inj e
      by_cases hu : u.rlt n = true
      · rw [if_pos hu] at e
        cases e
        exact ⟨rfl, hu⟩
      · rw [if_neg hu] at e
        cases e
theorem dropTo.drop {n : Nat} {I : AEnv → Sto → Prop} {E : AEnv} {S2 T : Sto} (hn : n ≤ S2.length) (hr : Srl S2) (h : I (dropE S2.length E) S2) : dropTo n I E (S2 ++ T) :=
  ⟨_, Imp.refl _, .inr ⟨dropE S2.length E, S2, T, rfl, hn, hr, by simp [dropE], fun i w e => dropE_at e, h⟩⟩
theorem drop_ok {M0 M : Lay} {H0 H : Hp} {S0 : Sto} {I : AEnv → Sto → Prop} {σ : L2.St} {E' : AEnv} {S' : Sto} (r0 : Rep M0 H0 S0) (h : dropTo S0.length I E' S') (r : Rep M H S') (ev : EvOk M H σ E') (s : Step M0 H0 M H) : ∃ M2 E2 S2, I E2 S2 ∧ Rep M2 H S2 ∧ EvOk M2 H σ E2 ∧ Step M0 H0 M2 H := by
  obtain ⟨S1, i, h⟩ := h
  have r := i _ _ r
  rcases h with h | ⟨E2, S2, T, e, hn, hr, hl, hE, p⟩
  · exact ⟨M, E', S1, h, r, ev, s⟩
  · subst e
    refine ⟨M.cut S2.length, E2, S2, p, r.cut hr, ⟨by rw [ev.1, hl], fun i w h => ?_⟩, step_cut s (by rw [r0.len]; exact hn)⟩
    obtain ⟨h1, h2⟩ := hE i w h
    obtain ⟨v, h3, h4⟩ := ev.2 i w h1
    exact ⟨v, h3, vw_cut _ h4 h2⟩
theorem wS_for (hp : PassesOwn (model X.prog X.w) X.A X.env X.xe) (hc : X.calm = true)
    (h : wI X Ψ tg iter E S fun ws still S1 => ∃ I : Nat → AEnv → Sto → Prop, I 0 E S1 ∧ (∀ i E' S', I i E' S' → still S') ∧
      (∀ i w E' S', ws[i]? = some w → I i E' S' → wG X Ψ tg w E' S' fun E2 S2 => wB X Ψ body E2 S2 ⟨dropTo S1.length (I (i + 1)), A.rt, A.nx, dropTo S1.length (I (i + 1))⟩) ∧ ∀ E' S', I ws.length E' S' → A.nx E' S')
    (hs : ∀ x, foldedSetIterable iter X.env x = pure x := by intro _; rfl) : wS X Ψ (.For tg iter body [] pos) E S A :=
  wS.of (ps_for hp hc pi_sem pg_sem pss_sem hs) fun M σ H r ev x D q => h.run M σ H r ev x _ fun J vs ys ws still M1 S1 H1 ⟨I, h0, hst, hturn, hd⟩ hs1 r1 s1 ay it => by
    refine ⟨fun i m σ' H' => m = ws.length - i ∧ i ≤ ws.length ∧ ∃ M' E' S', I i E' S' ∧ Rep M' H' S' ∧ EvOk M' H' σ' E' ∧ Step M1 H1 M' H', ⟨_, rfl, Nat.zero_le _, M1, E, S1, h0, r1, ev.step s1, Step.refl _ _⟩, ?_⟩
    rintro i m σ' H' ⟨rfl, hi, M', E', S', hI, r', ev', s'⟩
    by_cases hlt : i < ws.length
    · refine .inr ⟨it.go M' H' S' i (VWs.step s' _ _ ay) r' (hst _ _ _ hI) hlt, fun σ2 H2 => ∃ M2 E2 S2, I (i + 1) E2 S2 ∧ Rep M2 H2 S2 ∧ EvOk M2 H2 σ2 E2 ∧ Step M1 H1 M2 H2, fun σ2 H2 hh => ⟨ws.length - (i + 1), by omega, rfl, hlt, hh⟩, fun v H2 hy => ?_⟩
      obtain ⟨w, hw, aw, r2, s2⟩ := it.yld M' H' S' i v H2 (VWs.step s' _ _ ay) r' (hst _ _ _ hI) hy hlt
      have s12 := s'.trans s2
      have sx := s1.trans s12
      refine (hturn i w E' S' hw hI).run M' σ' H2 v r2 (ev'.step s2) (x.step sx) aw _ fun σ3 E3 M3 S3 H3 p r3 ev3 s3 => ?_
      refine p.run M3 σ3 H3 r3 ev3 ((x.step sx).step s3) _ ⟨fun σ4 E4 M4 S4 H4 p4 r4 ev4 s4 => ?_, q.rt.step (sx.trans s3), fun σ4 E4 M4 S4 H4 p4 r4 ev4 s4 => q.nx σ4 E4 M4 S4 H4 p4 r4 ev4 ((sx.trans s3).trans s4), fun σ4 E4 M4 S4 H4 p4 r4 ev4 s4 => ?_⟩
      · exact drop_ok r1 p4 r4 ev4 ((s12.trans s3).trans s4)
      · exact drop_ok r1 p4 r4 ev4 ((s12.trans s3).trans s4)
    · have e : i = ws.length := by omega
      subst e
      exact .inl ⟨it.stop M' H' S' _ (VWs.step s' _ _ ay) r' (hst _ _ _ hI) (Nat.le_refl _), q.nx σ' E' M' S' H' (hd _ _ hI) r' ev' (s1.trans s')⟩
end

-- AM8

section
variable {X : Cx} {Ψ : AX} {a b c e elt iter : Expr} {es rest : List Expr} {E : AEnv} {S : Sto} {Φ : W → Sto → Prop} {ΦE : AEnv → Sto → Prop} {ΦT : Bool → Sto → Prop} {ΦS : List W → Sto → Prop} {pos : Pos} {k n : Nat} {asp : ASp} {A : AE}
/-! ### list comprehensions, one name walked -/
abbrev Cx.bk (X : Cx) (scope : Scope) (s : Shared) (H : Hp) (C : Addr) (cl : List (Str × Addr)) (fp : List Addr) : Cx := X.blk s H scope (compEnvC scope cl C X.env) fp
def semBk (X : Cx) (scope : Scope) (e : Expr) : TE := fun σ H Q => ∀ s H0 C cl fp, sem (Cx.bk X scope s H0 C cl fp) e σ H Q
def semTBk (X : Cx) (scope : Scope) (e : Expr) : TT := fun σ H Q => ∀ s H0 C cl fp, semT (Cx.bk X scope s H0 C cl fp) e σ H Q
theorem pe_bk {scope : Scope} (s : Shared) (H : Hp) (C : Addr) (cl : List (Str × Addr)) (fp : List Addr) : PE (X.blk s H scope (compEnvC scope cl C X.env) fp) e (semBk X scope e) := ⟨fun pins s1 _ _ _ I h => h s H C cl fp pins s1 I⟩
theorem pt_bk {scope : Scope} (s : Shared) (H : Hp) (C : Addr) (cl : List (Str × Addr)) (fp : List Addr) : PT (X.blk s H scope (compEnvC scope cl C X.env) fp) e (semTBk X scope e) := ⟨fun pins s1 _ _ _ I h => h s H C cl fp pins s1 I⟩
theorem evok_wipe {M : Lay} {H : Hp} {σ : L2.St} (ev : EvOk M H σ E) (j : Nat) : EvOk M H (σ.set j none) (E.set j none) :=
  ⟨by simp [ev.1], fun i w h => by
    by_cases q : i = j
    · subst q
      by_cases hl : i < E.length
      · rw [List.getElem?_set_self hl] at h; cases h
      · rw [List.getElem?_eq_none (by simpa using hl)] at h; cases h
    · rw [List.getElem?_set_ne (fun z => q z.symm)] at h
      obtain ⟨v, h1, h2⟩ := ev.2 i w h
      exact ⟨v, by rw [List.getElem?_set_ne (fun z => q z.symm)]; exact h1, h2⟩⟩
/-- one turn's test -/
inductive IfK
  | no | one (c : Expr)
def IfK.exs : IfK → List Expr
  | .no => []
  | .one c => [c]
def IfK.tt (X : Cx) (scope : Scope) : IfK → TT
  | .no => tYes
  | .one c => semTBk X scope c
theorem pts_bk {scope : Scope} (f : IfK) (s : Shared) (H : Hp) (C : Addr) (cl : List (Str × Addr)) (fp : List Addr) : PTs (X.blk s H scope (compEnvC scope cl C X.env) fp) f.exs (f.tt X scope) := by
  cases f with
  | no => exact pts_nil
  | one c => exact pts_one (pt_bk s H C cl fp)
/-- what a turn asks -/
def Turn1 (X : Cx) (scope : Scope) (f : IfK) (elt : Expr) (E2 : AEnv) (S' : Sto) (yes : W → Sto → Prop) (no : Sto → Prop) : Prop := match f with
  | .no => ∀ s H0 C cl fp, wE (Cx.bk X scope s H0 C cl fp) nox elt E2 S' yes
  | .one c => ∀ s H0 C cl fp, wT (Cx.bk X scope s H0 C cl fp) nox c E2 S' fun k S3 => if k = true then ∀ s H0 C cl fp, wE (Cx.bk X scope s H0 C cl fp) nox elt E2 S3 yes else no S3
structure LcInv (M1 : Lay) (H1 : Hp) (D : Addr) (σ : L2.St) (E : AEnv) (vs : List V) (ys : List W) (I : Nat → List W → Sto → Prop) (i : Nat) (H' : Hp) : Prop where
  ex : ∃ m2 S' accV acc, Step M1 H1 ⟨m2, M1.h⟩ H' ∧ Rep ⟨m2, D :: M1.h⟩ H' S' ∧ H' D = some (.lst accV) ∧ VWs ⟨m2, D :: M1.h⟩ H' accV acc ∧ I i acc S' ∧ VWs ⟨m2, D :: M1.h⟩ H' vs ys ∧ EvOk ⟨m2, D :: M1.h⟩ H' σ E
theorem vws_over {M : Lay} {H : Hp} {S : Sto} (r : Rep M H S) {p : Addr} {u ho : HO} (hp : p ∈ M.h) (hu : H p = some u) (nt : (∀ ps, u ≠ .tbl ps) ∧ ∀ f, u ≠ .ext f) : ∀ {ws : List W} {vs : List V}, VWs M H vs ws → VWs M (upd H p ho) vs ws := by
  intro ws
  induction ws with
  | nil => intro vs h; cases h; exact .nil
  | cons w ws ih =>
    intro vs h
    cases h with
    | cons a b => exact .cons ((step_over r hp hu nt).1 _ _ a) (ih b)
theorem evok_over {M : Lay} {H : Hp} {S : Sto} (r : Rep M H S) {p : Addr} {u ho : HO} (hp : p ∈ M.h) (hu : H p = some u) (nt : (∀ ps, u ≠ .tbl ps) ∧ ∀ f, u ≠ .ext f) {σ : L2.St} {E : AEnv} (ev : EvOk M H σ E) : EvOk M (upd H p ho) σ E :=
  ⟨ev.1, fun i w h => by
    obtain ⟨v, h1, h2⟩ := ev.2 i w h
    exact ⟨v, h1, (step_over r hp hu nt).1 _ _ h2⟩⟩
theorem exc_nox {X : Cx} {M : Lay} {H : Hp} : ExcOk X M H nox := ExcOk.none
theorem lc_abs {x : Str} {px : Pos} {scope : Scope} {j : Nat} {f : IfK} {M : Lay} {σ : L2.St} {H : Hp} (r : Rep M H S) (ev : EvOk M H σ E) (xo : ExcOk X M H Ψ) {Q : VK}
    (h : wI X Ψ (.Name x px) iter E S fun ws still S1 => ∃ I : Nat → List W → Sto → Prop, I 0 [] S1 ∧ (∀ i acc S', I i acc S' → still S' ∧ acc.length ≤ 100000) ∧
      (∀ i w acc S', ws[i]? = some w → I i acc S' → Turn1 X scope f elt ((E.set j none).set j (some w)) S' (fun y S4 => I (i + 1) (acc ++ [y]) S4) fun S3 => I (i + 1) acc S3) ∧ ∀ acc S', I ws.length acc S' → ΦS acc S')
    (q : ∀ D M1 H1 m2 S' accV acc H', H1 D = none → D ∉ M1.h → Step M H M1 H1 → Step M1 H1 ⟨m2, M1.h⟩ H' → Rep ⟨m2, D :: M1.h⟩ H' S' → H' D = some (.lst accV) → VWs ⟨m2, D :: M1.h⟩ H' accV acc → ΦS acc S' → Q (.ref D) H') :
    tLc (semI X (.Name x px) iter) (gName j) (f.tt X scope) (semBk X scope elt) [j] σ H Q := by
  refine h.run M σ H r ev xo _ fun J vs ys ws still M1 S1 H1 ⟨I, h0, hst, hturn, hd⟩ hs1 r1 s1 ay it => ?_
  intro D hD
  have wp : ∀ (s : L2.St) (v : V), wipe ((wipe s [j]).set j (some v)) [j] = wipe s [j] := fun s v => by simp [wipe, List.set_set]
  have r1h : Rep (M1.hid D) (upd H1 D (.lst [])) S1 := r1.hide hD
  have ev1 := evok_wipe (ev.step s1) j
  have evh : EvOk (M1.hid D) (upd H1 D (.lst [])) (σ.set j none) (E.set j none) := ⟨ev1.1, fun i w h => by
    obtain ⟨v, h1, h2⟩ := ev1.2 i w h
    exact ⟨v, h1, hid_vw r1 hD h2⟩⟩
  refine ⟨fun i m H' => m = ws.length - i ∧ i ≤ ws.length ∧ LcInv M1 H1 D (σ.set j none) (E.set j none) vs ys I i H', ⟨_, rfl, Nat.zero_le _, ⟨M1.m, S1, [], [], step_free (Step.refl _ _) hD, r1h, upd_same, .nil, h0, hid_vws r1 hD ay, evh⟩⟩, ?_⟩
  rintro i m H' ⟨rfl, hi, ⟨m2, S', accV, acc, s', r', hDl, aacc, hI, ay', ev'⟩⟩
  obtain ⟨hst1, hacc⟩ := hst i acc S' hI
  by_cases hlt : i < ws.length
  · refine .inr ⟨it.go _ H' S' i ay' r' hst1 hlt, fun H2 => LcInv M1 H1 D (σ.set j none) (E.set j none) vs ys I (i + 1) H2, fun H2 hh => ⟨ws.length - (i + 1), by omega, rfl, hlt, hh⟩, fun v H2 hy => ?_⟩
    obtain ⟨w, hw, aw, r2, s2⟩ := it.yld _ H' S' i v H2 ay' r' hst1 hy hlt
    have ev2 : EvOk ⟨m2, D :: M1.h⟩ H2 ((wipe σ [j]).set j (some v)) ((E.set j none).set j (some w)) := (ev'.step s2).set aw j
    have t := hturn i w acc S' hw hI
    have hD2 : H2 D = some (.lst accV) := s2.keep D _ hDl (fun ps z => nomatch z) (r'.hid D List.mem_cons_self).2
    have fin : ∀ (M3 : Lay) (S3 : Sto) (H3 : Hp), I (i + 1) acc S3 → Rep M3 H3 S3 → Step ⟨m2, D :: M1.h⟩ H2 M3 H3 → LcInv M1 H1 D (σ.set j none) (E.set j none) vs ys I (i + 1) H3 := by
      intro M3 S3 H3 p r3 s3
      have e : M3 = ⟨M3.m, D :: M1.h⟩ := by
        have z := s3.hold
        cases M3
        simp only at z
        rw [z]
      have s23 := s2.trans s3
      rw [e] at r3 s23
      exact ⟨M3.m, S3, accV, acc, step_behind s' hD (by rw [e]; exact s23), r3, s3.keep D _ hD2 (fun ps z => nomatch z) (r2.hid D List.mem_cons_self).2, VWs.step s23 _ _ aacc, p, VWs.step s23 _ _ ay', ev'.step s23⟩
    have finY : ∀ (M3 : Lay) (S3 : Sto) (H3 : Hp) y yw, I (i + 1) (acc ++ [yw]) S3 → Rep M3 H3 S3 → VW M3 H3 y yw → Step ⟨m2, D :: M1.h⟩ H2 M3 H3 → ∃ acc, H3 D = some (.lst acc) ∧ acc.length < sizeLine ∧ LcInv M1 H1 D (σ.set j none) (E.set j none) vs ys I (i + 1) (upd H3 D (.lst (acc ++ [y]))) := by
      intro M3 S3 H3 y yw p r3 ayw s3
      have e : M3 = ⟨M3.m, D :: M1.h⟩ := by
        have z := s3.hold
        cases M3
        simp only at z
        rw [z]
      have s23 := s2.trans s3
      have sb := step_behind s' hD s23
      rw [e] at r3 s23 ayw
      have hD3 : H3 D = some (.lst accV) := s3.keep D _ hD2 (fun ps z => nomatch z) (r2.hid D List.mem_cons_self).2
      have mD : D ∈ (⟨M3.m, D :: M1.h⟩ : Lay).h := List.mem_cons_self
      have nt : (∀ ps, HO.lst accV ≠ .tbl ps) ∧ ∀ f, HO.lst accV ≠ .ext f := ⟨fun ps z => (nomatch z), fun f z => (nomatch z)⟩
      refine ⟨accV, hD3, Nat.lt_of_le_of_lt (by rw [aacc.length]; exact hacc) (by decide), ⟨M3.m, S3, _, acc ++ [yw], step_free sb hD, (step_over r3 mD hD3 nt).2, upd_same, ?_, p, vws_over r3 mD hD3 nt (VWs.step s23 _ _ ay'), evok_over r3 mD hD3 nt (ev'.step s23)⟩⟩
      exact (vws_over r3 mD hD3 nt (VWs.step s23 _ _ aacc)).append (.cons ((step_over r3 mD hD3 nt).1 _ _ ayw) .nil)
    show wipe ((wipe σ [j]).set j (some v)) [j] = wipe σ [j] ∧ _
    refine ⟨wp σ v, ?_⟩
    cases f with
    | no =>
      refine fun s H0 C cl fp => ?_
      exact ((show ∀ s H0 C cl fp, wE (Cx.bk X scope s H0 C cl fp) nox elt _ S' _ from t) s H0 C cl fp).run _ _ H2 r2 ev2 exc_nox _ fun y yw M3 S3 H3 p r3 ayw s3 => finY M3 S3 H3 y yw p r3 ayw s3
    | one c =>
      intro s H0 C cl fp
      refine ((show ∀ s H0 C cl fp, wT (Cx.bk X scope s H0 C cl fp) nox c _ S' _ from t) s H0 C cl fp).run _ _ H2 r2 ev2 exc_nox _ fun b M3 S3 H3 p r3 s3 => ?_
      cases b with
      | true =>
        refine iteT fun s H0 C cl fp => ?_
        exact ((show ∀ s H0 C cl fp, wE (Cx.bk X scope s H0 C cl fp) nox elt _ S3 _ from p) s H0 C cl fp).run _ _ H3 r3 (ev2.step s3) exc_nox _ fun y yw M4 S4 H4 p r4 ayw s4 => finY M4 S4 H4 y yw p r4 ayw (s3.trans s4)
      | false => exact iteF (fin M3 S3 H3 p r3 s3)
  · have e : i = ws.length := by omega
    subst e
    exact .inl ⟨it.stop _ H' S' _ ay' r' hst1 (Nat.le_refl _), q D M1 H1 m2 S' accV acc H' hD (r1.free hD).2 s1 s' r' hDl aacc (hd acc S' hI)⟩
/-- .. to a list that nobody changes -/
theorem got_lc {M : Lay} {H : Hp} {Q : VK} (q : Got M H Φ Q) : ∀ D M1 H1 m2 S' accV acc H', H1 D = none → D ∉ M1.h → Step M H M1 H1 → Step M1 H1 ⟨m2, M1.h⟩ H' → Rep ⟨m2, D :: M1.h⟩ H' S' → H' D = some (.lst accV) → VWs ⟨m2, D :: M1.h⟩ H' accV acc → Φ (.lst acc) S' → Q (.ref D) H' := by
  intro D M1 H1 m2 S' accV acc H' hD hDh s1 s' r' hDl a p
  have rs : Rep ⟨m2, M1.h⟩ H' S' := Rep.show (M := ⟨m2, M1.h⟩) (p := D) r'
  exact q _ _ ⟨m2, M1.h⟩ S' H' p rs (.lst ⟨hDl, (r'.hid D List.mem_cons_self).2, hDh⟩ (vws_show (M := ⟨m2, M1.h⟩) (p := D) a)) (s1.trans s')
theorem wE_lcF {x : Str} {px : Pos} {scope : Scope} (j : Nat) (f : IfK) (hc : X.calm = true) (hN : X.N.Nodup) (ok : BlkOk X.N X.env.scope scope [(x, j)])
    (h : wI X Ψ (.Name x px) iter E S fun ws still S1 => ∃ I : Nat → List W → Sto → Prop, I 0 [] S1 ∧ (∀ i acc S', I i acc S' → still S' ∧ acc.length ≤ 100000) ∧
      (∀ i w acc S', ws[i]? = some w → I i acc S' → Turn1 X scope f elt ((E.set j none).set j (some w)) S' (fun y S4 => I (i + 1) (acc ++ [y]) S4) fun S3 => I (i + 1) acc S3) ∧ ∀ acc S', I ws.length acc S' → Φ (.lst acc) S')
    (hx : ∀ (s : Shared) (H : Hp) (C : Addr) (cl : List (Str × Addr)) (fp : List Addr), Loc (Cx.bk X scope s H C cl fp).env.scope x ∧ ((Cx.bk X scope s H C cl fp).fn x = true ∨ (Cx.bk X scope s H C cl fp).env.scope.names.lookup x = some .local) := by intros; exact ⟨by first | exact Or.inl rfl | exact Or.inr rfl, by first | exact Or.inl rfl | exact Or.inr rfl⟩)
    (hs : ∀ x, foldedSetIterable iter X.env x = pure x := by intro _; rfl) : wE X Ψ (.ListComp elt [⟨.Name x px, iter, f.exs, 0⟩] scope pos) E S Φ :=
  wE.of (pe_lc (own := [(x, j)]) (g := gName j) hc hN pi_sem ok (fun s H C cl fp => pg_name hN (ok.ix (x, j) (by simp)) (hx s H C cl fp).1 (hx s H C cl fp).2) (pts_bk f) (fun s H C cl fp => pe_bk s H C cl fp) hs) fun M σ H r ev xo Q q => lc_abs (ΦS := fun acc S' => Φ (.lst acc) S') r ev xo h (got_lc q)
/-- name = [..] -/
theorem wS_setLcF {x y : Str} {px py : Pos} {scope : Scope} (i j : Nat) (f : IfK) (hc : X.calm = true) (hN : X.N.Nodup) (ok : BlkOk X.N X.env.scope scope [(x, j)])
    (h : wI X Ψ (.Name x px) iter E S fun ws still S1 => ∃ I : Nat → List W → Sto → Prop, I 0 [] S1 ∧ (∀ i acc S', I i acc S' → still S' ∧ acc.length ≤ 100000) ∧
      (∀ i w acc S', ws[i]? = some w → I i acc S' → Turn1 X scope f elt ((E.set j none).set j (some w)) S' (fun y S4 => I (i + 1) (acc ++ [y]) S4) fun S3 => I (i + 1) acc S3) ∧ ∀ acc S', I ws.length acc S' → A.nx (E.set i (some (.lst acc))) S')
    {epos spos : Pos} (hsw : swapsWith (.ListComp elt [⟨.Name x px, iter, f.exs, 0⟩] scope epos) (some (.Name y py)) spos.line X.env = pure true) (hy : X.N[i]? = some y := by rfl) (hyl : X.env.scope.names.lookup y = some .local := by rfl)
    (hx : ∀ (s : Shared) (H : Hp) (C : Addr) (cl : List (Str × Addr)) (fp : List Addr), Loc (Cx.bk X scope s H C cl fp).env.scope x ∧ ((Cx.bk X scope s H C cl fp).fn x = true ∨ (Cx.bk X scope s H C cl fp).env.scope.names.lookup x = some .local) := by intros; exact ⟨by first | exact Or.inl rfl | exact Or.inr rfl, by first | exact Or.inl rfl | exact Or.inr rfl⟩)
    (hs : ∀ x, foldedSetIterable iter X.env x = pure x := by intro _; rfl) : wS X Ψ (.Assign [.Name y py] (.ListComp elt [⟨.Name x px, iter, f.exs, 0⟩] scope epos) spos) E S A :=
  wS.of (ps_setLc (own := [(x, j)]) (g := gName j) hc hN hy hyl hsw pi_sem ok (fun s H C cl fp => pg_name hN (ok.ix (x, j) (by simp)) (hx s H C cl fp).1 (hx s H C cl fp).2) (pts_bk f) (fun s H C cl fp => pe_bk s H C cl fp) hs) fun M σ H r ev xo D q =>
    lc_abs (ΦS := fun acc S' => A.nx (E.set i (some (.lst acc))) S') r ev xo h (got_lc (Φ := fun w S' => A.nx (E.set i (some w)) S') (Q := fun v H1 => gName i v σ H1 D.nx) fun v w M2 S2 H2 p r2 a2 s2 => q.nx _ _ M2 S2 H2 p r2 ((ev.step s2).set a2 i) s2)
end

-- AM9

section
variable {X : Cx} {Ψ : AX} {a b c e o : Expr} {es rest : List Expr} {E : AEnv} {S : Sto} {Φ : W → Sto → Prop} {ΦE : AEnv → Sto → Prop} {ΦT : Bool → Sto → Prop} {ΦS : List W → Sto → Prop} {pos : Pos} {k n : Nat} {asp : ASp} {A : AE}
/-- a call of a built-in on abstract values -/
abbrev G1 := List W → Sto → (W → Sto → Prop) → Prop
def CallW (r : List V → Hp → VK → Prop) (g : G1) : Prop := ∀ M H S vs ws Φ, Rep M H S → VWs M H vs ws → g ws S Φ → ∀ Q, Got M H Φ Q → r vs H Q
theorem wE_callB {x : Str} {id : String} {p : Pos} {r : List V → Hp → VK → Prop} {g : G1} (hcr : CallR X (.builtin id) r) (cw : CallW r g) (hm : X.mg x = none) (hv : bootBuiltins x = some (.builtin id)) (h : wA X Ψ (e :: es) E S fun ws S1 => g ws S1 Φ) (hg : Gl X x := by rfl)
    (hn : x ≠ "__name__" := by decide) (hdb : (x == ("__debug__" : Str)) = false := by decide) (he : starEach (e :: es) X.env = (false, eval e X.env) :: starEach es X.env := by rfl) (hpl : (backTo pos (starEach es X.env)).any (·.1) = false := by rfl) : wE X Ψ (.Call (.Name x p) (e :: es) [] pos) E S Φ :=
  wE.of (pe_callB hcr hg hm hv pa_sem hn hdb he hpl) fun M σ H r ev xo Q q => h.run M σ H r ev xo _ fun vs ws M1 S1 H1 p1 r1 a1 s1 => cw M1 H1 S1 vs ws Φ r1 a1 p1 Q (q.step s1)
theorem wE_callTy {x : Str} {T : String} {p : Pos} {r : List V → Hp → VK → Prop} {g : G1} (hcr : CallR X (.type T) r) (cw : CallW r g) (hm : X.mg x = none) (hv : bootBuiltins x = some (.type T)) (h : wA X Ψ (e :: es) E S fun ws S1 => g ws S1 Φ) (hg : Gl X x := by rfl)
    (hn : x ≠ "__name__" := by decide) (hdb : (x == ("__debug__" : Str)) = false := by decide) (he : starEach (e :: es) X.env = (false, eval e X.env) :: starEach es X.env := by rfl) (hpl : (backTo pos (starEach es X.env)).any (·.1) = false := by rfl) : wE X Ψ (.Call (.Name x p) (e :: es) [] pos) E S Φ :=
  wE.of (pe_callTy hcr hg hm hv pa_sem hn hdb he hpl) fun M σ H r ev xo Q q => h.run M σ H r ev xo _ fun vs ws M1 S1 H1 p1 r1 a1 s1 => cw M1 H1 S1 vs ws Φ r1 a1 p1 Q (q.step s1)
theorem callw_one {r : List V → Hp → VK → Prop} {g : G1} (h : ∀ M H S v w Φ, Rep M H S → VW M H v w → g [w] S Φ → ∀ Q, Got M H Φ Q → r [v] H Q) (hl : ∀ ws S Φ, g ws S Φ → ∃ w, ws = [w]) : CallW r g := fun M H S vs ws Φ rr a p Q q => by
  obtain ⟨w, rfl⟩ := hl _ _ _ p
  cases a with
  | cons a1 a2 => cases a2; exact h M H S _ w Φ rr a1 p Q q
/-! len -/
def lenW (S : Sto) : W → Option Nat
  | .scr _ ns => some ns.length
  | w => (itemsW S w).map List.length
abbrev gLen : G1 := fun ws S Φ => ∃ w n, ws = [w] ∧ lenW S w = some n ∧ Φ (.int n) S
abbrev gLenK (K : PySem.W.Frag) : G1 := fun ws S Φ => ∃ w n, ws = [w] ∧ (∀ K' ns, w = .scr K' ns → K' = K) ∧ lenW S w = some n ∧ Φ (.int n) S
theorem callw_len : CallW (fun xs H Q => ∃ p ys, xs = [.ref p] ∧ (SqL X.K H p ys ∨ SqT X.K H p ys) ∧ Q (.int ys.length) H) (gLenK X.K) := callw_one (fun M H S v w Φ r a ⟨w', n, e, hK, hl, p⟩ Q q => by
  cases e
  cases w with
  | scr K' ns =>
    obtain rfl := hK K' ns rfl
    cases hl
    cases a with
    | scr s => exact ⟨_, _, rfl, .inl s.sq, by rw [List.length_map]; exact q _ _ M S H p r (.int _) (Step.refl _ _)⟩
  | _ =>
    unfold lenW at hl
    first
      | (cases hl; done)
      | (obtain ⟨ws', h1, h2⟩ := Option.map_eq_some_iff.mp hl
         obtain ⟨ad, xs, rfl, rv, kk⟩ := seq_of (K := X.K) r a h1
         refine ⟨ad, xs, rfl, ?_, by rw [rv.length, h2]; exact q _ _ M S H p r (.int _) (Step.refl _ _)⟩
         rcases kk with ⟨kk, _⟩ | ⟨kk, _⟩
         · exact .inl kk
         · exact .inr kk)) fun ws S Φ ⟨w, n, e, _⟩ => ⟨w, e⟩
theorem wE_len {p : Pos} (hm : X.mg "len" = none) (h : wE X Ψ e E S fun w S1 => ∃ n, (∀ K' ns, w = .scr K' ns → K' = X.K) ∧ lenW S1 w = some n ∧ Φ (.int n) S1) (hg : Gl X "len" := by rfl) (he : starEach [e] X.env = (false, eval e X.env) :: starEach [] X.env := by rfl) (hpl : (backTo pos (starEach [] X.env)).any (·.1) = false := by rfl) : wE X Ψ (.Call (.Name "len" p) [e] [] pos) E S Φ :=
  wE_callB call_len_seq callw_len hm PySem.boot_len (wA_cons (h.imp fun w S1 ⟨n, hK, h1, p⟩ => wA_nil ⟨w, n, rfl, hK, h1, p⟩) he) hg (by decide) (by decide) he hpl
theorem wE_lenS {p : Pos} (hm : X.mg "len" = none) (h : wE X Ψ e E S fun w S1 => ∃ z, w = .str z ∧ z.length ≤ sizeLine ∧ Φ (.int z.length) S1) (hg : Gl X "len" := by rfl) (he : starEach [e] X.env = (false, eval e X.env) :: starEach [] X.env := by rfl) (hpl : (backTo pos (starEach [] X.env)).any (·.1) = false := by rfl) : wE X Ψ (.Call (.Name "len" p) [e] [] pos) E S Φ :=
  wE_callB (g := fun ws S Φ => ∃ z, ws = [.str z] ∧ z.length ≤ sizeLine ∧ Φ (.int z.length) S) call_len_str (callw_one (fun M H S v w Φ r a ⟨z, e, hl, p⟩ Q q => by
    cases e; cases a
    exact ⟨z, rfl, hl, q _ _ M S H p r (.int _) (Step.refl _ _)⟩) fun ws S Φ ⟨z, e, _⟩ => ⟨_, e⟩) hm PySem.boot_len (wA_cons (h.imp fun w S1 ⟨z, h1, h2, p⟩ => wA_nil ⟨z, by rw [h1], h2, p⟩) he) hg (by decide) (by decide) he hpl
/-! isinstance -/
inductive Ty | non | bl | int | str | tup | lst | dict
  deriving DecidableEq
def Ty.nm : Ty → String
  | .non => "NoneType" | .bl => "bool" | .int => "int" | .str => "str" | .tup => "tuple" | .lst => "list" | .dict => "dict"
def Ty.isa (t c : Ty) : Bool := decide (t = c) || (match t, c with | .bl, .int => true | _, _ => false)
def Ty.all : List Ty := [.non, .bl, .int, .str, .tup, .lst, .dict]
theorem kit_tab : ([Ty.bl, .int, .str, .tup, .lst].all fun c => Ty.all.all fun t => decide (kitB t.nm c.nm = some (t.isa c))) = true := by decide +kernel
theorem kit_isa (t c : Ty) (hc : c ≠ .non ∧ c ≠ .dict) : kitB t.nm c.nm = some (t.isa c) := by
  have h := kit_tab
  rw [List.all_eq_true] at h
  have h1 := h c (by cases c <;> simp at hc ⊢)
  rw [List.all_eq_true] at h1
  have h2 := h1 t (by cases t <;> simp [Ty.all])
  exact of_decide_eq_true h2
def tyW (S : Sto) : W → Option Ty
  | .non => some .non | .bl _ => some .bl | .int _ => some .int | .str _ => some .str | .tup _ => some .tup | .lst _ => some .lst
  | .ref k => match S[k]? with
    | some (.lst _) => some .lst
    | some (.dk _) => some .dict
    | some (.dt _) => some .dict
    | _ => none
  | _ => none
theorem ty_vw {M : Lay} {H : Hp} {w : W} {v : V} {t : Ty} (r : Rep M H S) (a : VW M H v w) (h : tyW S w = some t) : TyX X.K H v (.type t.nm) := by
  cases w with
  | non => cases h; cases a; exact .base .non
  | bl _ => cases h; cases a; exact .base (.bl _)
  | int _ => cases h; cases a; exact .base (.int _)
  | str _ => cases h; cases a; exact .base (.str _)
  | tup ws =>
    cases h
    cases a with
    | tup q _ => exact .base (.tup q.1)
  | lst ws =>
    cases h
    cases a with
    | lst q _ => exact .base (.lst q.1)
  | ref k =>
    cases a with
    | ref hm =>
      have e : tyW S (.ref k) = (match S[k]? with
        | some (.lst _) => some .lst
        | some (.dk _) => some .dict
        | some (.dt _) => some .dict
        | _ => none) := rfl
      rw [e] at h
      split at h
      · rename_i hk
        cases h
        obtain ⟨p, ho, h1, h2, b⟩ := r.at' hk
        rw [hm] at h1; cases h1
        cases b; exact .base (.lst h2)
      · rename_i hk
        cases h
        obtain ⟨p, ho, h1, h2, b⟩ := r.at' hk
        rw [hm] at h1; cases h1
        cases b; exact .base (.dK h2)
      · rename_i hk
        cases h
        obtain ⟨p, ho, h1, h2, b⟩ := r.at' hk
        rw [hm] at h1; cases h1
        cases b; exact .base (.dT h2)
      · cases h
  | raw v => cases h
  | scr _ ns => cases h
  | xi _ _ _ _ => cases h
  | thg _ _ => cases h
theorem wE_isi {x : Str} {p p1 : Pos} (c : Ty) (hm : X.mg "isinstance" = none) (hx : X.mg x = none) (hv : bootBuiltins x = some (.type c.nm)) (h : wE X Ψ e E S fun w S1 => ∃ t, tyW S1 w = some t ∧ Φ (.bl (t.isa c)) S1) (hc : c ≠ .non ∧ c ≠ .dict := by decide) (hg : Gl X "isinstance" := by rfl) (hgx : Gl X x := by rfl) (hn : x ≠ "__name__" := by decide) (hd : (x == ("__debug__" : Str)) = false := by decide)
    (he : starEach [e, .Name x p1] X.env = (false, eval e X.env) :: starEach [.Name x p1] X.env := by rfl) (he2 : starEach [.Name x p1] X.env = (false, eval (.Name x p1) X.env) :: starEach [] X.env := by rfl) (hpl : (backTo pos (starEach [.Name x p1] X.env)).any (·.1) = false := by rfl) : wE X Ψ (.Call (.Name "isinstance" p) [e, .Name x p1] [] pos) E S Φ :=
  wE_callB (g := fun ws S Φ => ∃ w t, ws = [w, .raw (.ty c.nm)] ∧ tyW S w = some t ∧ Φ (.bl (t.isa c)) S) call_isi (fun M H S vs ws Φ r a ⟨w, t, e, ht, p⟩ Q q => by
    subst e
    cases a with
    | cons a1 a2 => cases a2 with
      | cons a2 a3 =>
        cases a3; cases a2
        exact ⟨_, .ty c.nm, _, _, t.isa c, rfl, .ty _, ty_vw (X := X) r a1 ht, kit_ty (kit_isa t c hc), q _ _ M S H p r (.bl _) (Step.refl _ _)⟩) hm PyProof.Rows.boot_isinstance
    (wA_cons (h.imp fun w S1 ⟨t, h1, p⟩ => wA_cons (wE_bltn (v := .ty c.nm) hx hv rfl (wA_nil ⟨w, t, rfl, h1, p⟩) hgx hn hd) he2) he) hg (by decide) (by decide) he hpl
/-- isinstance(x, (A, B)) -/
theorem wE_isi2 {x y : Str} {p p1 p2 p3 : Pos} {kt : Nat} (c d : Ty) (hm : X.mg "isinstance" = none) (hx : X.mg x = none) (hv : bootBuiltins x = some (.type c.nm)) (hy : X.mg y = none) (hvy : bootBuiltins y = some (.type d.nm)) (h : wE X Ψ e E S fun w S1 => ∃ t, tyW S1 w = some t ∧ Φ (.bl (t.isa c || t.isa d)) S1) (hc : c ≠ .non ∧ c ≠ .dict := by decide) (hd : d ≠ .non ∧ d ≠ .dict := by decide) (hg : Gl X "isinstance" := by rfl) (hgx : Gl X x := by rfl) (hgy : Gl X y := by rfl) (hn : x ≠ "__name__" := by decide) (hdx : (x == ("__debug__" : Str)) = false := by decide) (hny : y ≠ "__name__" := by decide) (hdy : (y == ("__debug__" : Str)) = false := by decide)
    (he : starEach [e, .Tuple [.Name x p1, .Name y p2] kt p3] X.env = (false, eval e X.env) :: starEach [.Tuple [.Name x p1, .Name y p2] kt p3] X.env := by rfl) (he2 : starEach [.Tuple [.Name x p1, .Name y p2] kt p3] X.env = (false, eval (.Tuple [.Name x p1, .Name y p2] kt p3) X.env) :: starEach [] X.env := by rfl)
    (he3 : starEach [.Name x p1, .Name y p2] X.env = (false, eval (.Name x p1) X.env) :: starEach [.Name y p2] X.env := by rfl) (he4 : starEach [.Name y p2] X.env = (false, eval (.Name y p2) X.env) :: starEach [] X.env := by rfl) (hpl : (backTo pos (starEach [.Tuple [.Name x p1, .Name y p2] kt p3] X.env)).any (·.1) = false := by rfl) : wE X Ψ (.Call (.Name "isinstance" p) [e, .Tuple [.Name x p1, .Name y p2] kt p3] [] pos) E S Φ :=
  wE_callB (g := fun ws S Φ => ∃ w t, ws = [w, .tup [.raw (.ty c.nm), .raw (.ty d.nm)]] ∧ tyW S w = some t ∧ Φ (.bl (t.isa c || t.isa d)) S) call_isiT (fun M H S vs ws Φ r a ⟨w, t, e, ht, p⟩ Q q => by
    subst e
    cases a with
    | cons a1 a2 => cases a2 with
      | cons a2 a3 =>
        cases a3
        cases a2 with
        | tup tq ta =>
          cases ta with
          | cons b1 b2 => cases b2 with
            | cons b2 b3 =>
              cases b3; cases b1; cases b2
              refine ⟨_, _, _, _, [.type c.nm, .type d.nm], t.isa c || t.isa d, rfl, tq.1, .cons (.ty _) (.cons (.ty _) .nil), ty_vw (X := X) r a1 ht, ?_, q _ _ M S H p r (.bl _) (Step.refl _ _)⟩
              refine kitAny_cons (kit_ty (kit_isa t c hc)) (fun z => ?_) (fun z => by rw [z]; rfl)
              rw [z, Bool.false_or]
              exact kitAny_cons (kit_ty (kit_isa t d hd)) (fun z => by rw [z]; exact kitAny_nil) (fun z => z)) hm PyProof.Rows.boot_isinstance
    (wA_cons (h.imp fun w S1 ⟨t, h1, p⟩ => wA_cons (wE_tup (wA_cons (wE_bltn (v := .ty c.nm) hx hv rfl (wA_cons (wE_bltn (v := .ty d.nm) hy hvy rfl (wA_nil ⟨(show 2 ≤ 100000 by decide), wA_nil ⟨w, t, rfl, h1, p⟩⟩) hgy hny hdy) he4) hgx hn hdx) he3)) he2) he) hg (by decide) (by decide) he hpl
/-! int, str, tuple, list, sorted -/
theorem wE_intB {p : Pos} (hm : X.mg "int" = none) (h : wE X Ψ e E S fun w S1 => ∃ k, w = .bl k ∧ Φ (.int (if k then 1 else 0)) S1) (hg : Gl X "int" := by rfl) (he : starEach [e] X.env = (false, eval e X.env) :: starEach [] X.env := by rfl) (hpl : (backTo pos (starEach [] X.env)).any (·.1) = false := by rfl) : wE X Ψ (.Call (.Name "int" p) [e] [] pos) E S Φ :=
  wE_callTy (g := fun ws S Φ => ∃ k, ws = [.bl k] ∧ Φ (.int (if k then 1 else 0)) S) call_int1 (callw_one (fun M H S v w Φ r a ⟨k, e, p⟩ Q q => by
    cases e; cases a
    exact .inr ⟨k, rfl, q _ _ M S H p r (.int _) (Step.refl _ _)⟩) fun ws S Φ ⟨z, e, _⟩ => ⟨_, e⟩) hm PyProof.Rows.boot_int (wA_cons (h.imp fun w S1 ⟨k, h1, p⟩ => wA_nil ⟨k, by rw [h1], p⟩) he) hg (by decide) (by decide) he hpl
/-- tuple(list or tuple) -/
theorem wE_tuple {p : Pos} (hm : X.mg "tuple" = none) (h : wE X Ψ e E S fun w S1 => ∃ ws, itemsW S1 w = some ws ∧ Φ (.tup ws) S1) (hg : Gl X "tuple" := by rfl) (he : starEach [e] X.env = (false, eval e X.env) :: starEach [] X.env := by rfl) (hpl : (backTo pos (starEach [] X.env)).any (·.1) = false := by rfl) : wE X Ψ (.Call (.Name "tuple" p) [e] [] pos) E S Φ :=
  wE_callTy (g := fun us S Φ => ∃ w ws, us = [w] ∧ itemsW S w = some ws ∧ Φ (.tup ws) S) call_tuple_of (callw_one (fun M H S v w Φ r a ⟨w', ws, e, hi, p⟩ Q q => by
    cases e
    obtain ⟨ad, xs, rfl, rv, kk⟩ := seq_of (K := X.K) r a hi
    rcases kk with ⟨kk, _⟩ | ⟨kk, z, ez⟩
    · exact ⟨ad, xs, rfl, .inl ⟨kk, fun l hl => q _ _ M S _ p (r.tmp hl) (tq_new r hl rv) (step_tmp r hl)⟩⟩
    · subst ez
      cases hi
      exact ⟨ad, xs, rfl, .inr ⟨kk, q _ _ M S H p r a (Step.refl _ _)⟩⟩) fun ws S Φ ⟨w, z, e, _⟩ => ⟨_, e⟩) hm PyProof.Rows.boot_tuple (wA_cons (h.imp fun w S1 ⟨ws, h1, p⟩ => wA_nil ⟨w, ws, rfl, h1, p⟩) he) hg (by decide) (by decide) he hpl
/-- list(..): one that nobody changes; one's own -/
theorem wE_list {p : Pos} (hm : X.mg "list" = none) (h : wE X Ψ e E S fun w S1 => ∃ ws, itemsW S1 w = some ws ∧ Φ (.lst ws) S1) (hg : Gl X "list" := by rfl) (he : starEach [e] X.env = (false, eval e X.env) :: starEach [] X.env := by rfl) (hpl : (backTo pos (starEach [] X.env)).any (·.1) = false := by rfl) : wE X Ψ (.Call (.Name "list" p) [e] [] pos) E S Φ :=
  wE_callTy (g := fun us S Φ => ∃ w ws, us = [w] ∧ itemsW S w = some ws ∧ Φ (.lst ws) S) call_list_of (callw_one (fun M H S v w Φ r a ⟨w', ws, e, hi, p⟩ Q q => by
    cases e
    obtain ⟨ad, xs, rfl, rv, kk⟩ := seq_of (K := X.K) r a hi
    refine ⟨ad, xs, rfl, ?_, fun l hl => q _ _ M S _ p (r.tmp hl) (lq_new r hl rv) (step_tmp r hl)⟩
    rcases kk with ⟨kk, _⟩ | ⟨kk, _⟩
    · exact .inl kk
    · exact .inr kk) fun ws S Φ ⟨w, z, e, _⟩ => ⟨_, e⟩) hm PyProof.Rows.boot_list (wA_cons (h.imp fun w S1 ⟨ws, h1, p⟩ => wA_nil ⟨w, ws, rfl, h1, p⟩) he) hg (by decide) (by decide) he hpl
/-! methods of built-in types -/
def MtW (r : V → List V → Hp → VK → Prop) (g : W → G1) : Prop := ∀ M H S v w vs ws Φ, Rep M H S → VW M H v w → VWs M H vs ws → g w ws S Φ → ∀ Q, Got M H Φ Q → r v vs H Q
def tyMW (S : Sto) (T : String) : W → Prop
  | .str _ => T = "str" | .int _ => T = "int"
  | .lst _ => T = "list"
  | .ref k => (T = "list" ∧ ∃ ws, S[k]? = some (.lst ws)) ∨ (T = "dict" ∧ ((∃ kvs, S[k]? = some (.dk kvs)) ∨ ∃ kvs, S[k]? = some (.dt kvs)))
  | _ => False
theorem tyM_vw {M : Lay} {H : Hp} {w : W} {v : V} {T : String} (r : Rep M H S) (a : VW M H v w) (h : tyMW S T w) : tyV X.K T v H := by
  cases w with
  | str _ => cases a; exact h
  | int _ => cases a; exact h
  | lst _ =>
    cases a with
    | lst q _ => exact .inl ⟨h, _, q.sq⟩
  | ref k =>
    cases a with
    | ref hm =>
      rcases h with ⟨rfl, ws, hk⟩ | ⟨rfl, ⟨kvs, hk⟩ | ⟨kvs, hk⟩⟩
      · obtain ⟨p, xs, h1, h2, h3⟩ := r.lst hk
        rw [hm] at h1; cases h1
        exact .inl ⟨rfl, _, SqL.of h2⟩
      · obtain ⟨p, ho, h1, h2, b⟩ := r.at' hk
        rw [hm] at h1; cases h1
        cases b
        exact .inr (.inr (.inl ⟨rfl, .inl ⟨_, h2⟩⟩))
      · obtain ⟨p, ho, h1, h2, b⟩ := r.at' hk
        rw [hm] at h1; cases h1
        cases b
        exact .inr (.inr (.inl ⟨rfl, .inr ⟨_, h2⟩⟩))
  | _ => exact h.elim
theorem wE_bm {T id : String} {name : Str} {apos cpos : Pos} {r : V → List V → Hp → VK → Prop} {g : W → G1} (pa : PlainAttrs T) (slot : Slot T name id) (hty : typeOf (.builtin id) = pure (.type "method_descriptor")) (hmt : MtR X id r) (mw : MtW r g)
    (h : wE X Ψ o E S fun w S1 => tyMW S1 T w ∧ wA X Ψ (e :: es) E S1 fun ws S2 => g w ws S2 Φ)
    (hbase : attributeBase o name X.env (eval o X.env) = eval o X.env := by rfl)
    (hfew : ((backTo cpos (starEach (e :: es) X.env)).all (fun x => !x.1) && (backToKw cpos (keywordEach [] X.env)).all (fun x => x.1.isSome)
      && decide ((e :: es).length + ([] : List Keyword).length + (if ([] : List Keyword).isEmpty then 0 else 1) < 30)) = true := by rfl)
    (hline : (apos.endLine == cpos.line) = true := by rfl) (hs : starEach (e :: es) X.env = (false, eval e X.env) :: starEach es X.env := by rfl) (hplain : (backTo cpos (starEach es X.env)).any (·.1) = false := by rfl) : wE X Ψ (.Call (.Attribute o name apos) (e :: es) [] cpos) E S Φ :=
  wE.of (pe_bm pa slot hty hmt pe_sem pa_sem hbase hfew hline hs hplain) fun M σ H r ev xo Q q => h.run M σ H r ev xo _ fun v w M1 S1 H1 p1 r1 a1 s1 => ⟨tyM_vw r1 a1 p1.1, p1.2.run M1 σ H1 r1 (ev.step s1) (xo.step s1) _ fun vs ws M2 S2 H2 p2 r2 a2 s2 => mw M2 H2 S2 v w vs ws Φ r2 (VW.step s2 _ _ a1) a2 p2 Q (q.step (s1.trans s2))⟩
theorem wE_append {apos cpos : Pos} (h : wE X Ψ o E S fun x S1 => (∃ k ws, x = .ref k ∧ S1[k]? = some (.lst ws)) ∧ wE X Ψ e E S1 fun w S2 => ∃ k ws, x = .ref k ∧ S2[k]? = some (.lst ws) ∧ ws.length ≤ 100000 ∧ Φ .non (S2.set k (.lst (ws ++ [w]))))
    (hbase : attributeBase o "append" X.env (eval o X.env) = eval o X.env := by rfl)
    (hfew : ((backTo cpos (starEach [e] X.env)).all (fun x => !x.1) && (backToKw cpos (keywordEach [] X.env)).all (fun x => x.1.isSome)
      && decide (([e] : List Expr).length + ([] : List Keyword).length + (if ([] : List Keyword).isEmpty then 0 else 1) < 30)) = true := by rfl)
    (hline : (apos.endLine == cpos.line) = true := by rfl) (hs : starEach [e] X.env = (false, eval e X.env) :: starEach [] X.env := by rfl) (hplain : (backTo cpos (starEach [] X.env)).any (·.1) = false := by rfl) : wE X Ψ (.Call (.Attribute o "append" apos) [e] [] cpos) E S Φ :=
  wE_bm (g := fun x us S Φ => ∃ w k ws, us = [w] ∧ x = .ref k ∧ S[k]? = some (.lst ws) ∧ ws.length ≤ 100000 ∧ Φ .non (S.set k (.lst (ws ++ [w])))) PySem.F.plainAttrs_list PySem.F.slot_list_append PySem.F.type_list_append mt_append
    (fun M H S v w vs ws Φ r a av ⟨u, k, us, e1, e2, hk, hl, p⟩ Q q => by
      subst e1; subst e2
      cases a with
      | ref hm =>
        obtain ⟨ad, xs, h1, h2, h3⟩ := r.lst hk
        rw [hm] at h1; cases h1
        cases av with
        | cons b1 b2 =>
          cases b2
          have rr := set_lst r hm (h3.append (.cons b1 .nil))
          exact ⟨_, xs, _, rfl, rfl, h2, Nat.lt_of_le_of_lt (by rw [h3.length]; exact hl) (by decide), q _ _ M _ _ p rr.1 .non rr.2⟩)
    (h.imp fun x S1 ⟨⟨k, ws, e1, hk⟩, h⟩ => ⟨by subst e1; exact .inl ⟨rfl, ws, hk⟩, wA_cons (h.imp fun w S2 ⟨k, ws, e1, hk, hl, p⟩ => wA_nil ⟨w, k, ws, rfl, e1, hk, hl, p⟩) hs⟩) hbase hfew hline hs hplain
end

-- AM10

section
variable {X : Cx} {Ψ : AX} {a b c e o : Expr} {es rest : List Expr} {E : AEnv} {S : Sto} {Φ : W → Sto → Prop} {ΦE : AEnv → Sto → Prop} {ΦT : Bool → Sto → Prop} {ΦS : List W → Sto → Prop} {pos : Pos} {k n : Nat} {asp : ASp} {A : AE} {st : List Stmt}
theorem wB.less {S1 : Sto} (i : Imp S S1) (h : wB X Ψ st E S1 A) : wB X Ψ st E S A := ⟨fun M σ H r ev x D q => h.run M σ H (i _ _ r) ev x D q⟩
theorem wE.less {S1 : Sto} (i : Imp S S1) (h : wE X Ψ e E S1 Φ) : wE X Ψ e E S Φ := ⟨fun M σ H r ev x D q => h.run M σ H (i _ _ r) ev x D q⟩

/-! ### the row of draws -/
def rowL (K : PySem.W.Frag) (ns : List Int) (i z : Int) : O := .lst [.scr K ns, .int i, .int z]
def rowG (ns : List Int) (i z : Int) : Prop := ns.length ≤ 63 ∧ 0 ≤ i ∧ 0 ≤ z ∧ z < 2147483647
theorem Rep.same {M : Lay} {H : Hp} (r : Rep M H S) {k : Nat} {o : O} (h : ∀ p ho, M.m[k]? = some p → H p = some ho → ∀ o', S[k]? = some o' → Ob M H ho o' → Ob M H ho o) (nt9 : ∀ P q, o ≠ O.tab P q := by intro _ _ z; cases z) : Rep M H (S.set k o) :=
  ⟨r.nd, by simp [r.len], fun j q u h1 h2 => by
    by_cases e : j = k
    · subst e
      have hk : j < S.length := by
        have z := (List.getElem?_eq_some_iff.mp h2).1
        simpa using z
      rw [List.getElem?_set_self hk] at h2; cases h2
      obtain ⟨ho, e1, b⟩ := r.at_ j q S[j] h1 (List.getElem?_eq_getElem hk)
      exact ⟨ho, e1, h q ho h1 e1 _ (List.getElem?_eq_getElem hk) b⟩
    · rw [List.getElem?_set_ne (fun z => e z.symm)] at h2
      exact r.at_ j q u h1 h2, r.hid, fun j P q e => by
    by_cases z : k = j
    · subst z
      have hk : k < S.length := by
        have z := (List.getElem?_eq_some_iff.mp e).1
        simpa using z
      rw [List.getElem?_set_self hk] at e
      exact absurd (Option.some.inj e) (nt9 P q)
    · rw [List.getElem?_set_ne z] at e
      exact r.tb j P q e⟩
theorem imp_fold {K : PySem.W.Frag} {r : Nat} {ns : List Int} {i z : Int} (h : S[r]? = some (rowL K ns i z)) (g : rowG ns i z) : Imp S (S.set r (.row K)) := fun M H rr => rr.same fun p ho h1 h2 o' h3 b => by
  rw [h] at h3; cases h3
  cases b with
  | lst a =>
    cases a with
    | cons a1 a2 => cases a2 with
      | cons a2 a3 => cases a3 with
        | cons a3 a4 =>
          cases a4; cases a2; cases a3
          exact .row ⟨_, ns, i, z, rfl, a1, g.1, g.2.1, g.2.2⟩
theorem wB_row {K : PySem.W.Frag} {r : Nat} (h : S[r]? = some (.row K)) (q : ∀ ns i z, rowG ns i z → wB X Ψ st E (S.set r (rowL K ns i z)) A) : wB X Ψ st E S A :=
  ⟨fun M σ H rr ev x D d => by
    obtain ⟨p, ho, h1, h2, b⟩ := rr.at' h
    cases b with
    | row a =>
      obtain ⟨v, ns, i, z, e, a, g1, g2, g3⟩ := a
      refine (q ns i z ⟨g1, g2, g3⟩).run M σ H (rr.same fun p' ho' h1' h2' o' h3 b => ?_) ev x D d
      rw [h1] at h1'; cases h1'
      rw [h2] at h2'; cases h2'
      subst e
      exact .lst (.cons a (.cons (.int _) (.cons (.int _) .nil)))⟩
/-- the script's item -/
theorem wE_ixScr (h : wE X Ψ a E S fun x S1 => wE X Ψ b E S1 fun y S2 => ∃ ns i m, x = .scr X.K ns ∧ y = .int i ∧ atI ns i = some m ∧ Φ (.int m) S2) (hs : PlainIx b := by exact fun _ _ => rfl) : wE X Ψ (.Subscript a b pos) E S Φ :=
  wE.of (pe_ix ix_list pe_sem pe_sem hs) fun M σ H r ev x Q q => two (r := rIxL X.K) (g := fun x y S Φ => ∃ ns i m, x = .scr X.K ns ∧ y = .int i ∧ atI ns i = some m ∧ Φ (.int m) S)
    (opw_pure (X := X) fun M H S v u x y Φ r a1 a2 ⟨ns, i, m, h1, h2, h3, p⟩ Q q => by
      subst h1; subst h2
      cases a2
      cases a1 with
      | scr s =>
        refine ⟨_, _, i, .int m, rfl, rfl, s.sq, ?_, q _ _ p (.int _)⟩
        unfold atI at h3 ⊢
        rw [List.length_map]
        cases e : ixN ns.length i with
        | none => rw [e] at h3; cases h3
        | some j =>
          rw [e] at h3
          show (ns.map V.int)[j]? = _
          rw [List.getElem?_map, show ns[j]? = some m from h3]
          rfl) h r ev x q
/-! ### and, or, if whose parts change nothing: one way behind them -/
end

-- AM11
section
variable {X : Cx} {Ψ : AX} {a b c e o : Expr} {es rest : List Expr} {E : AEnv} {S : Sto} {Φ : W → Sto → Prop} {ΦE : AEnv → Sto → Prop} {ΦT : Bool → Sto → Prop} {ΦS : List W → Sto → Prop} {pos : Pos} {k n : Nat} {asp : ASp} {A : AE} {st : List Stmt}
/-! ### names by search -/
inductive Idx (x : Str) : List Str → Nat → Prop
  | here {N : List Str} : Idx x (x :: N) 0
  | there {y : Str} {N : List Str} {i : Nat} (h : Idx x N i) : Idx x (y :: N) (i + 1)
theorem Idx.get {x : Str} {N : List Str} {i : Nat} (h : Idx x N i) : N[i]? = some x := by
  induction h with
  | here => rfl
  | there h ih => simpa using ih
theorem xE_name {x : Str} {w : W} {i : Nat} (hN : Idx x X.N i) (he : E[i]? = some (some w)) (h : Φ w S) (hv : Vis X.env.scope x := by first | exact Or.inl rfl | exact Or.inr (Or.inl rfl) | exact Or.inr (Or.inr rfl))
    (hd : (x == ("__debug__" : Str)) = false := by decide +kernel) (hcd : (x == ("__classdict__" : Str)) = false := by decide +kernel) : wE X Ψ (.Name x pos) E S Φ :=
  wE_name i he h hN.get hv hd hcd
theorem xS_set {y : Str} {pos' : Pos} {spos : Pos} {i : Nat} (hi : Idx y X.N i) (hN : X.N.Nodup) (h : wE X Ψ e E S fun w S1 => A.nx (E.set i (some w)) S1) (hx : Loc X.env.scope y := by first | exact Or.inl rfl | exact Or.inr rfl) (hs : swapsWith e (some (.Name y pos')) spos.line X.env = pure false := by rfl) (hf : X.fn y = true ∨ X.env.scope.names.lookup y = some .local := by first | exact .inl rfl | exact .inr rfl) :
    wS X Ψ (.Assign [.Name y pos'] e spos) E S A := wS_set i hN h hi.get hx hs hf
theorem xG_name {x : Str} {w : W} {i : Nat} (hi : Idx x X.N i) (hN : X.N.Nodup) (h : ΦE (E.set i (some w)) S) (hx : Loc X.env.scope x := by first | exact Or.inl rfl | exact Or.inr rfl) (hf : X.fn x = true ∨ X.env.scope.names.lookup x = some .local := by first | exact .inl rfl | exact .inr rfl) : wG X Ψ (.Name x pos) w E S ΦE :=
  wG_name i hN h hi.get hx hf
theorem xS_par {y z : Str} {px py pt spos : Pos} {kt k2 pt2} {i j : Nat} (hi : Idx y X.N i) (hj : Idx z X.N j) (hc : X.calm = true) (hN : X.N.Nodup) (h : wE X Ψ a E S fun w S1 => wE X Ψ b E S1 fun u S2 => A.nx ((E.set i (some w)).set j (some u)) S2) (hij : i ≠ j := by decide)
    (hx : X.env.scope.names.lookup y = some .local := by rfl) (hy : X.env.scope.names.lookup z = some .local := by rfl) (hw : swappedStores [.Tuple [.Name y px, .Name z py] kt pt] (.Tuple [a, b] k2 pt2) X.env = pure (some [y, z]) := by rfl)
    (hs : swapsWithSole [.Tuple [.Name y px, .Name z py] kt pt] (.Tuple [a, b] k2 pt2) spos.line X.env = pure false := by rfl) (h1 : starEach [a, b] X.env = (false, eval a X.env) :: starEach [b] X.env := by rfl) (h2 : starEach [b] X.env = (false, eval b X.env) :: starEach [] X.env := by rfl) :
    wS X Ψ (.Assign [.Tuple [.Name y px, .Name z py] kt pt] (.Tuple [a, b] k2 pt2) spos) E S A := wS_par i j hc hN h hi.get hj.get hij hx hy hw hs h1 h2
/-! ### sides: what is asked of values, by name -/
def sB (w : W) (S : Sto) (Φ : Bool → Sto → Prop) : Prop := ∃ k, w = .bl k ∧ Φ k S
theorem sB_i {k : Bool} (h : ΦT k S) : sB (.bl k) S ΦT := ⟨k, rfl, h⟩
def sII (C : Int → Int → Prop) (f : Int → Int → W) (x y : W) (S : Sto) (Φ : W → Sto → Prop) : Prop := ∃ i j, x = .int i ∧ y = .int j ∧ C i j ∧ Φ (f i j) S
theorem sII_i {C : Int → Int → Prop} {f : Int → Int → W} {i j : Int} (hc : C i j) (h : Φ (f i j) S) : sII C f (.int i) (.int j) S Φ := ⟨i, j, rfl, rfl, hc, h⟩
def sEq (neg : Bool) (x y : W) (S : Sto) (Φ : W → Sto → Prop) : Prop := x.ok 60 = true ∧ y.ok 60 = true ∧ Φ (.bl (if neg then !eqW x y else eqW x y)) S
theorem sEq_i {x y : W} {k : Bool} (h1 : x.ok 60 = true) (h2 : y.ok 60 = true) (e : eqW x y = k) (h : Φ (.bl k) S) : sEq false x y S Φ := ⟨h1, h2, by rw [e]; exact h⟩
theorem sNe_i {x y : W} {k : Bool} (h1 : x.ok 60 = true) (h2 : y.ok 60 = true) (e : eqW x y = k) (h : Φ (.bl (!k)) S) : sEq true x y S Φ := ⟨h1, h2, by rw [e]; exact h⟩
def sIn (neg : Bool) (x y : W) (S : Sto) (Φ : W → Sto → Prop) : Prop := ∃ ws, itemsW S y = some ws ∧ x.ok 59 = true ∧ W.oks ws 59 = true ∧ Φ (.bl (if neg then !inW x ws else inW x ws)) S
theorem sIn_i {neg : Bool} {x y : W} {ws : List W} {k : Bool} (hi : itemsW S y = some ws) (h1 : x.ok 59 = true) (h2 : W.oks ws 59 = true) (e : inW x ws = k) (h : Φ (.bl (if neg then !k else k)) S) : sIn neg x y S Φ := ⟨ws, hi, h1, h2, by rw [e]; exact h⟩
def sDin (neg : Bool) (y x : W) (S : Sto) (Φ : W → Sto → Prop) : Prop := ∃ k o, x = .ref k ∧ dgetW S k y = some o ∧ Φ (.bl (if neg then !o.isSome else o.isSome)) S
theorem sDin_i {neg : Bool} {y : W} {k : Nat} {o : Option W} (hd : dgetW S k y = some o) (h : Φ (.bl (if neg then !o.isSome else o.isSome)) S) : sDin neg y (.ref k) S Φ := ⟨k, o, rfl, hd, h⟩
def sNon (neg : Bool) (x : W) (S : Sto) (Φ : W → Sto → Prop) : Prop := ∃ k, isNonW x = some k ∧ Φ (.bl (if neg then !k else k)) S
theorem sNon_i {neg : Bool} {x : W} {k : Bool} (e : isNonW x = some k) (h : Φ (.bl (if neg then !k else k)) S) : sNon neg x S Φ := ⟨k, e, h⟩
def sIx (x y : W) (S : Sto) (Φ : W → Sto → Prop) : Prop := ∃ ws i w, itemsW S x = some ws ∧ y = .int i ∧ atI ws i = some w ∧ Φ w S
theorem sIx_i {x w : W} {ws : List W} {i : Int} (hi : itemsW S x = some ws) (e : atI ws i = some w) (h : Φ w S) : sIx x (.int i) S Φ := ⟨ws, i, w, hi, rfl, e, h⟩
def sDget (x y : W) (S : Sto) (Φ : W → Sto → Prop) : Prop := ∃ k w, x = .ref k ∧ dgetW S k y = some (some w) ∧ Φ w S
theorem sDget_i {y w : W} {k : Nat} (hd : dgetW S k y = some (some w)) (h : Φ w S) : sDget (.ref k) y S Φ := ⟨k, w, rfl, hd, h⟩
def sFld (X : Cx) (f : Str) (x : W) (S : Sto) (Φ : W → Sto → Prop) : Prop := ∃ k C ws w, x = .ref k ∧ S[k]? = some (.ins C ws) ∧ Cls X.K C ∧ NoAttr X.K C f ∧ ws.lookup f = some w ∧ Φ w S
theorem sFld_i {f : Str} {k : Nat} {C : Addr} {ws : List (Str × W)} {w : W} (hs : S[k]? = some (.ins C ws)) (hl : ws.lookup f = some w) (hc : Cls X.K C) (hn : NoAttr X.K C f) (h : Φ w S) : sFld X f (.ref k) S Φ := ⟨k, C, ws, w, rfl, hs, hc, hn, hl, h⟩
def sTup (ws : List W) (S : Sto) (Φ : W → Sto → Prop) : Prop := ws.length ≤ 100000 ∧ Φ (.tup ws) S
theorem sTup_i {ws : List W} (hl : ws.length ≤ 100000) (h : Φ (.tup ws) S) : sTup ws S Φ := ⟨hl, h⟩
def sLst (ws : List W) (S : Sto) (Φ : W → Sto → Prop) : Prop := ws.length ≤ 100000 ∧ Φ (.lst ws) S
theorem sLst_i {ws : List W} (hl : ws.length ≤ 100000) (h : Φ (.lst ws) S) : sLst ws S Φ := ⟨hl, h⟩
def sLstN (ws : List W) (S : Sto) (Φ : W → Sto → Prop) : Prop := ws.length ≤ 100000 ∧ Φ (.ref S.length) (S ++ [.lst ws])
theorem sLstN_i {ws : List W} (hl : ws.length ≤ 100000) (h : Φ (.ref S.length) (S ++ [.lst ws])) : sLstN ws S Φ := ⟨hl, h⟩
def sLen (X : Cx) (w : W) (S : Sto) (Φ : W → Sto → Prop) : Prop := ∃ n : Nat, (∀ K' ns, w = .scr K' ns → K' = X.K) ∧ lenW S w = some n ∧ Φ (.int n) S
theorem sLen_i {w : W} {ws : List W} (hi : itemsW S w = some ws) (h : Φ (.int ws.length) S) : sLen X w S Φ := by
  refine ⟨ws.length, fun K' ns e => ?_, ?_, h⟩
  · subst e
    cases hi
  · cases w with
    | scr K' ns => cases hi
    | _ => exact congrArg (Option.map List.length) hi
theorem sLen_scr {ns : List Int} (h : Φ (.int ns.length) S) : sLen X (.scr X.K ns) S Φ := ⟨ns.length, fun K' ms e => by cases e; rfl, rfl, h⟩
def sTy (t : Ty → Bool) (w : W) (S : Sto) (Φ : W → Sto → Prop) : Prop := ∃ ty, tyW S w = some ty ∧ Φ (.bl (t ty)) S
theorem sTy_i {t : Ty → Bool} {w : W} {ty : Ty} (e : tyW S w = some ty) (h : Φ (.bl (t ty)) S) : sTy t w S Φ := ⟨ty, e, h⟩
def sItems (f : List W → W) (w : W) (S : Sto) (Φ : W → Sto → Prop) : Prop := ∃ ws, itemsW S w = some ws ∧ Φ (f ws) S
theorem sItems_i {f : List W → W} {w : W} {ws : List W} (e : itemsW S w = some ws) (h : Φ (f ws) S) : sItems f w S Φ := ⟨ws, e, h⟩
def sItemsN (w : W) (S : Sto) (Φ : W → Sto → Prop) : Prop := ∃ ws, itemsW S w = some ws ∧ Φ (.ref S.length) (S ++ [.lst ws])
theorem sItemsN_i {w : W} {ws : List W} (e : itemsW S w = some ws) (h : Φ (.ref S.length) (S ++ [.lst ws])) : sItemsN w S Φ := ⟨ws, e, h⟩
def sBI (w : W) (S : Sto) (Φ : W → Sto → Prop) : Prop := ∃ k, w = .bl k ∧ Φ (.int (if k then 1 else 0)) S
theorem sBI_i {k : Bool} (h : Φ (.int (if k then 1 else 0)) S) : sBI (.bl k) S Φ := ⟨k, rfl, h⟩
def sI (f : Option Int → Sto → Prop) (w : W) (S : Sto) : Prop := ∃ i, w = .int i ∧ f (some i) S
theorem sI_i {f : Option Int → Sto → Prop} {i : Int} (h : f (some i) S) : sI f (.int i) S := ⟨i, rfl, h⟩
def sCut (x : W) (l u : Option Int) (S : Sto) (Φ : W → Sto → Prop) : Prop := ∃ ws, itemsW S x = some ws ∧ (∀ y, x ≠ .tup y) ∧ Φ (.lst (cutW ws l u)) S
def sCutT (x : W) (l u : Option Int) (S : Sto) (Φ : W → Sto → Prop) : Prop := ∃ ws, x = .tup ws ∧ Φ (.tup (cutW ws l u)) S
theorem sCutT_i {ws : List W} {l u : Option Int} (h : Φ (.tup (cutW ws l u)) S) : sCutT (.tup ws) l u S Φ := ⟨ws, rfl, h⟩
theorem sCut_l {ws : List W} {l u : Option Int} (h : Φ (.lst (cutW ws l u)) S) : sCut (.lst ws) l u S Φ := ⟨ws, rfl, fun _ e => (nomatch e), h⟩
/-- a call of a def: n arguments, its promise -/
def sCall (n : Nat) (asp : ASp) (ws : List W) (S : Sto) (Φ : W → Sto → Prop) (Ψ : Value → List (Str × W) → Sto → Prop) : Prop := ws.length = n ∧ asp ws S Φ Ψ
theorem sCall_i {n : Nat} {asp : ASp} {ws : List W} {Ψ : Value → List (Str × W) → Sto → Prop} (hl : ws.length = n) (h : asp ws S Φ Ψ) : sCall n asp ws S Φ Ψ := ⟨hl, h⟩
/-! ### if -/
def sIte (k : Bool) (p q : Prop) : Prop := if k = true then p else q
theorem sIte_t {k : Bool} {p q : Prop} (e : k = true) (h : p) : sIte k p q := by unfold sIte; rw [if_pos e]; exact h
theorem sIte_f {k : Bool} {p q : Prop} (e : k = false) (h : q) : sIte k p q := by unfold sIte; rw [e]; exact h
theorem sIte_s {k : Bool} {p q : Prop} (h1 : k = true → p) (h2 : k = false → q) : sIte k p q := by
  cases k with
  | true => exact sIte_t rfl (h1 rfl)
  | false => exact sIte_f rfl (h2 rfl)
def sAnd (w : W) (S : Sto) (go : (W → Sto → Prop) → Prop) (Φ : W → Sto → Prop) : Prop := ∃ ka, w = .bl ka ∧ (if ka = true then go Φ else Φ (.bl false) S)
theorem sAnd_f {k : Bool} {go} (e : k = false) (h : Φ (.bl false) S) : sAnd (.bl k) S go Φ := ⟨k, rfl, by rw [e]; exact h⟩
theorem sAnd_t {k : Bool} {go} (e : k = true) (h : go Φ) : sAnd (.bl k) S go Φ := ⟨k, rfl, by rw [e]; exact h⟩
def sOr (w : W) (S : Sto) (go : (W → Sto → Prop) → Prop) (Φ : W → Sto → Prop) : Prop := ∃ ka, w = .bl ka ∧ (if ka = true then Φ (.bl true) S else go Φ)
theorem sOr_t {k : Bool} {go} (e : k = true) (h : Φ (.bl true) S) : sOr (.bl k) S go Φ := ⟨k, rfl, by rw [e]; exact h⟩
theorem sOr_f {k : Bool} {go} (e : k = false) (h : go Φ) : sOr (.bl k) S go Φ := ⟨k, rfl, by rw [e]; exact h⟩
theorem sAnd_p {ka : Bool} (kb : Bool) (h1 : ka = true → wE X Ψ e E S fun w S2 => w = .bl kb ∧ S2 = S) (h : Φ (.bl (ka && kb)) S) : sAnd (.bl ka) S (wE X Ψ e E S) Φ := by
  cases ka with
  | true => exact sAnd_t rfl ((h1 rfl).imp fun w S' ⟨e1, e2⟩ => by rw [e1, e2]; exact h)
  | false => exact sAnd_f rfl h
theorem sOr_p {ka : Bool} (kb : Bool) (h1 : ka = false → wE X Ψ e E S fun w S2 => w = .bl kb ∧ S2 = S) (h : Φ (.bl (ka || kb)) S) : sOr (.bl ka) S (wE X Ψ e E S) Φ := by
  cases ka with
  | true => exact sOr_t rfl h
  | false => exact sOr_f rfl ((h1 rfl).imp fun w S' ⟨e1, e2⟩ => by rw [e1, e2]; exact h)
/-! ### rules with sides -/
theorem xE_sub (h : wE X Ψ a E S fun x S1 => wE X Ψ b E S1 fun y S2 => sII (fun _ _ => True) (fun i j => .int (i - j)) x y S2 Φ) : wE X Ψ (.BinOp a .Sub b pos) E S Φ := wE_sub h
theorem xE_mod (h : wE X Ψ a E S fun x S1 => wE X Ψ b E S1 fun y S2 => sII (fun _ j => 0 < j) (fun i j => .int (i % j)) x y S2 Φ) : wE X Ψ (.BinOp a .Mod b pos) E S Φ := wE_mod h
theorem xE_fdiv (h : wE X Ψ a E S fun x S1 => wE X Ψ b E S1 fun y S2 => sII CDiv (fun i j => .int (i / j)) x y S2 Φ) : wE X Ψ (.BinOp a .FloorDiv b pos) E S Φ := wE_fdiv h
theorem xE_eq (hu : X.A.units + 65 < cLine) (h : wE X Ψ a E S fun x S1 => wE X Ψ b E S1 fun y S2 => sEq false x y S2 Φ) : wE X Ψ (.Compare a [.Eq] [b] pos) E S Φ := wE_cmpEq hu (h.imp fun x S1 h => h.imp fun y S2 h => h)
theorem xE_ne (hu : X.A.units + 65 < cLine) (h : wE X Ψ a E S fun x S1 => wE X Ψ b E S1 fun y S2 => sEq true x y S2 Φ) : wE X Ψ (.Compare a [.NotEq] [b] pos) E S Φ := wE_cmpNe hu (h.imp fun x S1 h => h.imp fun y S2 h => h)
theorem xT_eq (hu : X.A.units + 65 < cLine) (h : wE X Ψ a E S fun x S1 => wE X Ψ b E S1 fun y S2 => sEq false x y S2 fun w S => sB w S ΦT) : wT X Ψ (.Compare a [.Eq] [b] pos) E S ΦT := wT_cmpEq hu (h.imp fun x S1 h => h.imp fun y S2 ⟨h1, h2, k, e, p⟩ => ⟨h1, h2, by cases e; exact p⟩)
theorem xT_ne (hu : X.A.units + 65 < cLine) (h : wE X Ψ a E S fun x S1 => wE X Ψ b E S1 fun y S2 => sEq true x y S2 fun w S => sB w S ΦT) : wT X Ψ (.Compare a [.NotEq] [b] pos) E S ΦT := wT_cmpNe hu (h.imp fun x S1 h => h.imp fun y S2 ⟨h1, h2, k, e, p⟩ => ⟨h1, h2, by cases e; exact p⟩)
theorem xE_cmpI {op : CmpOp} {f : Int → Int → Bool} (ho : OpR X (compareOp op) (rI0 fun i j => .bl (f i j))) (h : wE X Ψ a E S fun x S1 => wE X Ψ b E S1 fun y S2 => sII (fun _ _ => True) (fun i j => .bl (f i j)) x y S2 Φ) (hm : behindInMarks op b = false := by first | exact nomark _ | rfl) : wE X Ψ (.Compare a [op] [b] pos) E S Φ :=
  wE_cmpI ho (h.imp fun x S1 h => h.imp fun y S2 ⟨i, j, e1, e2, _, p⟩ => ⟨i, j, e1, e2, p⟩) hm
theorem xT_cmpI {op : CmpOp} {f : Int → Int → Bool} (ho : OpR X (compareOp op) (rI0 fun i j => .bl (f i j))) (h : wE X Ψ a E S fun x S1 => wE X Ψ b E S1 fun y S2 => sII (fun _ _ => True) (fun i j => .bl (f i j)) x y S2 fun w S => sB w S ΦT) (hm : behindInMarks op b = false := by first | exact nomark _ | rfl) : wT X Ψ (.Compare a [op] [b] pos) E S ΦT :=
  wT_cmpI ho (h.imp fun x S1 h => h.imp fun y S2 ⟨i, j, e1, e2, _, k, e, p⟩ => ⟨i, j, e1, e2, by cases e; exact p⟩) hm
theorem xE_in (hu : X.A.units + 65 < cLine) (h : wE X Ψ a E S fun x S1 => wE X Ψ b E S1 fun y S2 => sIn false x y S2 Φ) (hm : behindInMarks .In b = false := by rfl) : wE X Ψ (.Compare a [.In] [b] pos) E S Φ := wE_in hu (h.imp fun x S1 h => h.imp fun y S2 h => h) hm
theorem xE_notIn (hu : X.A.units + 65 < cLine) (h : wE X Ψ a E S fun x S1 => wE X Ψ b E S1 fun y S2 => sIn true x y S2 Φ) (hm : behindInMarks .NotIn b = false := by rfl) : wE X Ψ (.Compare a [.NotIn] [b] pos) E S Φ := wE_notIn hu (h.imp fun x S1 h => h.imp fun y S2 h => h) hm
theorem xT_in (hu : X.A.units + 65 < cLine) (h : wE X Ψ a E S fun x S1 => wE X Ψ b E S1 fun y S2 => sIn false x y S2 fun w S => sB w S ΦT) (hm : behindInMarks .In b = false := by rfl) : wT X Ψ (.Compare a [.In] [b] pos) E S ΦT := wT_in hu (h.imp fun x S1 h => h.imp fun y S2 ⟨ws, h1, h2, h3, k, e, p⟩ => ⟨ws, h1, h2, h3, by cases e; exact p⟩) hm
theorem xT_notIn (hu : X.A.units + 65 < cLine) (h : wE X Ψ a E S fun x S1 => wE X Ψ b E S1 fun y S2 => sIn true x y S2 fun w S => sB w S ΦT) (hm : behindInMarks .NotIn b = false := by rfl) : wT X Ψ (.Compare a [.NotIn] [b] pos) E S ΦT := wT_notIn hu (h.imp fun x S1 h => h.imp fun y S2 ⟨ws, h1, h2, h3, k, e, p⟩ => ⟨ws, h1, h2, h3, by cases e; exact p⟩) hm
theorem xE_din (hu : X.A.units + 65 < cLine) (h : wE X Ψ a E S fun y S1 => wE X Ψ b E S1 fun x S2 => sDin false y x S2 Φ) (hm : behindInMarks .In b = false := by rfl) : wE X Ψ (.Compare a [.In] [b] pos) E S Φ := wE_din hu (h.imp fun x S1 h => h.imp fun y S2 h => h) hm
theorem xT_din (hu : X.A.units + 65 < cLine) (h : wE X Ψ a E S fun y S1 => wE X Ψ b E S1 fun x S2 => sDin false y x S2 fun w S => sB w S ΦT) (hm : behindInMarks .In b = false := by rfl) : wT X Ψ (.Compare a [.In] [b] pos) E S ΦT := wT_din hu (h.imp fun x S1 h => h.imp fun y S2 ⟨k, o, h1, h2, kk, e, p⟩ => ⟨k, o, h1, h2, by cases e; exact p⟩) hm
theorem xE_isN (h : wE X Ψ a E S fun x S1 => sNon false x S1 Φ) {j pos'} : wE X Ψ (.Compare a [.Is] [.Constant .none j pos'] pos) E S Φ := wE_isN (h.imp fun x S1 h => h)
theorem xE_notN (h : wE X Ψ a E S fun x S1 => sNon true x S1 Φ) {j pos'} : wE X Ψ (.Compare a [.IsNot] [.Constant .none j pos'] pos) E S Φ := wE_notN (h.imp fun x S1 h => h)
theorem xT_isN (h : wE X Ψ a E S fun x S1 => sNon false x S1 fun w S => sB w S ΦT) {j pos'} : wT X Ψ (.Compare a [.Is] [.Constant .none j pos'] pos) E S ΦT := wT_isN (h.imp fun x S1 ⟨k, h1, kk, e, p⟩ => ⟨k, h1, by cases e; exact p⟩)
theorem xT_notN (h : wE X Ψ a E S fun x S1 => sNon true x S1 fun w S => sB w S ΦT) {j pos'} : wT X Ψ (.Compare a [.IsNot] [.Constant .none j pos'] pos) E S ΦT := wT_notN (h.imp fun x S1 ⟨k, h1, kk, e, p⟩ => ⟨k, h1, by cases e; exact p⟩)
theorem xT_val (h : wE X Ψ e E S fun w S1 => sB w S1 ΦT) (he : ∀ whole, isTrue e X.env whole = (do let v ← whole; standAt e.pos; holding [v] (truthy v)) := by intro _; rfl) : wT X Ψ e E S ΦT := wT_val h he
theorem xE_not (h : wE X Ψ a E S fun w S1 => sB w S1 fun k S2 => Φ (.bl (!k)) S2) : wE X Ψ (.UnaryOp .Not a pos) E S Φ := wE_not h
theorem xE_and (h : wE X Ψ a E S fun w S1 => sAnd w S1 (wE X Ψ (.BoolOp .And (b :: rest) pos) E S1) Φ) : wE X Ψ (.BoolOp .And (a :: b :: rest) pos) E S Φ := wE_and h
theorem xE_or (h : wE X Ψ a E S fun w S1 => sOr w S1 (wE X Ψ (.BoolOp .Or (b :: rest) pos) E S1) Φ) : wE X Ψ (.BoolOp .Or (a :: b :: rest) pos) E S Φ := wE_or h
theorem xE_if (h : wT X Ψ c E S fun k S1 => sIte k (wE X Ψ a E S1 Φ) (wE X Ψ b E S1 Φ)) : wE X Ψ (.IfExp c a b pos) E S Φ := wE_if h
theorem xS_if {spos : Pos} {sts orelse : List Stmt} (h : wT X Ψ c E S fun k S1 => sIte k (wB X Ψ sts E S1 A) (wB X Ψ orelse E S1 A)) : wS X Ψ (.If c sts orelse spos) E S A := wS_if h
theorem xE_ix (h : wE X Ψ a E S fun x S1 => wE X Ψ b E S1 fun y S2 => sIx x y S2 Φ) (hs : PlainIx b := by exact fun _ _ => rfl) : wE X Ψ (.Subscript a b pos) E S Φ := wE_ix h hs
theorem xE_dget (hu : X.A.units + 65 < cLine) (h : wE X Ψ a E S fun x S1 => wE X Ψ b E S1 fun y S2 => sDget x y S2 Φ) (hs : NoSl b := by exact fun _ _ => rfl) : wE X Ψ (.Subscript a b pos) E S Φ := wE_dget hu h hs
theorem xE_fld {f : Str} (h : wE X Ψ a E S fun x S1 => sFld X f x S1 Φ) (hb : attributeBase a f X.env (eval a X.env) = eval a X.env := by rfl) : wE X Ψ (.Attribute a f pos) E S Φ := wE_fld h hb
theorem xE_tup {x1} (h : wA X Ψ es E S fun ws S1 => sTup ws S1 Φ) : wE X Ψ (.Tuple es x1 pos) E S Φ := wE_tup h
theorem xE_lst (h : wA X Ψ es E S fun ws S1 => sLst ws S1 Φ) : wE X Ψ (.List es pos) E S Φ := wE_lst h
theorem xE_lstN (h : wA X Ψ es E S fun ws S1 => sLstN ws S1 Φ) : wE X Ψ (.List es pos) E S Φ := wE_lstN h
theorem xE_len {p : Pos} (hm : X.mg "len" = none) (h : wE X Ψ e E S fun w S1 => sLen X w S1 Φ) (hg : Gl X "len" := by rfl) (he : starEach [e] X.env = (false, eval e X.env) :: starEach [] X.env := by rfl) (hpl : (backTo pos (starEach [] X.env)).any (·.1) = false := by rfl) : wE X Ψ (.Call (.Name "len" p) [e] [] pos) E S Φ := wE_len hm h hg he hpl
theorem xE_tuple {p : Pos} (hm : X.mg "tuple" = none) (h : wE X Ψ e E S fun w S1 => sItems .tup w S1 Φ) (hg : Gl X "tuple" := by rfl) (he : starEach [e] X.env = (false, eval e X.env) :: starEach [] X.env := by rfl) (hpl : (backTo pos (starEach [] X.env)).any (·.1) = false := by rfl) : wE X Ψ (.Call (.Name "tuple" p) [e] [] pos) E S Φ := wE_tuple hm h hg he hpl
theorem xE_list {p : Pos} (hm : X.mg "list" = none) (h : wE X Ψ e E S fun w S1 => sItems .lst w S1 Φ) (hg : Gl X "list" := by rfl) (he : starEach [e] X.env = (false, eval e X.env) :: starEach [] X.env := by rfl) (hpl : (backTo pos (starEach [] X.env)).any (·.1) = false := by rfl) : wE X Ψ (.Call (.Name "list" p) [e] [] pos) E S Φ := wE_list hm h hg he hpl
theorem xE_intB {p : Pos} (hm : X.mg "int" = none) (h : wE X Ψ e E S fun w S1 => sBI w S1 Φ) (hg : Gl X "int" := by rfl) (he : starEach [e] X.env = (false, eval e X.env) :: starEach [] X.env := by rfl) (hpl : (backTo pos (starEach [] X.env)).any (·.1) = false := by rfl) : wE X Ψ (.Call (.Name "int" p) [e] [] pos) E S Φ := wE_intB hm h hg he hpl
theorem xE_isi {x : Str} {p p1 : Pos} (c : Ty) (hm : X.mg "isinstance" = none) (hx : X.mg x = none) (hv : bootBuiltins x = some (.type c.nm)) (h : wE X Ψ e E S fun w S1 => sTy (fun t => t.isa c) w S1 Φ) (hc : c ≠ .non ∧ c ≠ .dict := by decide) (hg : Gl X "isinstance" := by rfl) (hgx : Gl X x := by rfl) (hn : x ≠ "__name__" := by decide +kernel) (hd : (x == ("__debug__" : Str)) = false := by decide +kernel)
    (he : starEach [e, .Name x p1] X.env = (false, eval e X.env) :: starEach [.Name x p1] X.env := by rfl) (he2 : starEach [.Name x p1] X.env = (false, eval (.Name x p1) X.env) :: starEach [] X.env := by rfl) (hpl : (backTo pos (starEach [.Name x p1] X.env)).any (·.1) = false := by rfl) : wE X Ψ (.Call (.Name "isinstance" p) [e, .Name x p1] [] pos) E S Φ := wE_isi c hm hx hv h hc hg hgx hn hd he he2 hpl
theorem wO_none {Φ : Option Int → Sto → Prop} (h : Φ none S) : wO X Ψ none E S Φ := h
theorem wO_some {Φ : Option Int → Sto → Prop} (h : wE X Ψ e E S fun w S1 => sI Φ w S1) : wO X Ψ (some e) E S Φ := h
theorem xE_slT {lo hi : Option Expr} {p2 : Pos} (h : wE X Ψ a E S fun x S1 => wO X Ψ lo E S1 fun l S2 => wO X Ψ hi E S2 fun u S3 => sCutT x l u S3 Φ) : wE X Ψ (.Subscript a (.Slice lo hi none p2) pos) E S Φ := wE_slT h
theorem xE_slL {lo hi : Option Expr} {p2 : Pos} (h : wE X Ψ a E S fun x S1 => wO X Ψ lo E S1 fun l S2 => wO X Ψ hi E S2 fun u S3 => sCut x l u S3 Φ) : wE X Ψ (.Subscript a (.Slice lo hi none p2) pos) E S Φ := wE_slL h
theorem xE_call {x : Str} {p : Pos} (F : CFn X.prog X.w X.K X.mg X.base x k n asp) (hr : Room k X.A) (h : wA X Ψ (e :: es) E S fun ws S1 => sCall n asp ws S1 Φ fun cls fs S2 => Ψ cls fs E S2) (hg : Gl X x := by rfl)
    (hdb : (x == ("__debug__" : Str)) = false := by decide +kernel) (he : starEach (e :: es) X.env = (false, eval e X.env) :: starEach es X.env := by rfl) (hpl : (backTo pos (starEach es X.env)).any (·.1) = false := by rfl) : wE X Ψ (.Call (.Name x p) (e :: es) [] pos) E S Φ := wE_call F hr h hg hdb he hpl
def sMeth (C : Addr) (m : Str) (x : W) (S : Sto) (go : Nat → Prop) : Prop := ∃ j fs, x = .ref j ∧ S[j]? = some (.ins C fs) ∧ fs.lookup m = none ∧ go j
theorem sMeth_i {C : Addr} {m : Str} {go : Nat → Prop} {j : Nat} {fs : List (Str × W)} (h1 : S[j]? = some (.ins C fs)) (h2 : fs.lookup m = none) (h : go j) : sMeth C m (.ref j) S go := ⟨j, fs, rfl, h1, h2, h⟩
def sCallM (n : Nat) (asp : ASp) (j : Nat) (ws : List W) (S : Sto) (Φ : W → Sto → Prop) (Ψ : Value → List (Str × W) → Sto → Prop) : Prop := ws.length + 1 = n ∧ asp (.ref j :: ws) S Φ Ψ
theorem sCallM_i {n : Nat} {asp : ASp} {j : Nat} {ws : List W} {Ψ : Value → List (Str × W) → Sto → Prop} (hl : ws.length + 1 = n) (h : asp (.ref j :: ws) S Φ Ψ) : sCallM n asp j ws S Φ Ψ := ⟨hl, h⟩
def sApp (x w : W) (S : Sto) (Φ : W → Sto → Prop) : Prop := ∃ k ws, x = .ref k ∧ S[k]? = some (.lst ws) ∧ ws.length ≤ 100000 ∧ Φ .non (S.set k (.lst (ws ++ [w])))
theorem sApp_i {w : W} {k : Nat} {ws : List W} (h1 : S[k]? = some (.lst ws)) (h2 : ws.length ≤ 100000) (h : Φ .non (S.set k (.lst (ws ++ [w])))) : sApp (.ref k) w S Φ := ⟨k, ws, rfl, h1, h2, h⟩
def sAppO (x : W) (S : Sto) (go : Prop) : Prop := (∃ k ws, x = .ref k ∧ S[k]? = some (.lst ws)) ∧ go
theorem sAppO_i {go : Prop} {k : Nat} {ws : List W} (h1 : S[k]? = some (.lst ws)) (h : go) : sAppO (.ref k) S go := ⟨⟨k, ws, rfl, h1⟩, h⟩
theorem xE_append {apos cpos : Pos} (h : wE X Ψ o E S fun x S1 => sAppO x S1 (wE X Ψ e E S1 fun w S2 => sApp x w S2 Φ))
    (hbase : attributeBase o "append" X.env (eval o X.env) = eval o X.env := by rfl)
    (hfew : ((backTo cpos (starEach [e] X.env)).all (fun x => !x.1) && (backToKw cpos (keywordEach [] X.env)).all (fun x => x.1.isSome)
      && decide (([e] : List Expr).length + ([] : List Keyword).length + (if ([] : List Keyword).isEmpty then 0 else 1) < 30)) = true := by rfl)
    (hline : (apos.endLine == cpos.line) = true := by rfl) (hs : starEach [e] X.env = (false, eval e X.env) :: starEach [] X.env := by rfl) (hplain : (backTo cpos (starEach [] X.env)).any (·.1) = false := by rfl) : wE X Ψ (.Call (.Attribute o "append" apos) [e] [] cpos) E S Φ := wE_append h hbase hfew hline hs hplain
/-! ### + -/
def sAdd (x y : W) (S : Sto) (Φ : W → Sto → Prop) : Prop := sII (fun _ _ => True) (fun i j => .int (i + j)) x y S Φ ∨ (∃ i j : Str, x = .str i ∧ y = .str j ∧ i.length + j.length ≤ sizeLine ∧ Φ (.str (i ++ j)) S)
theorem sAdd_I {i j : Int} (h : Φ (.int (i + j)) S) : sAdd (.int i) (.int j) S Φ := .inl (sII_i trivial h)
theorem sAdd_S {i j : Str} (hl : i.length + j.length ≤ sizeLine) (h : Φ (.str (i ++ j)) S) : sAdd (.str i) (.str j) S Φ := .inr ⟨i, j, rfl, rfl, hl, h⟩
theorem xE_add (h : wE X Ψ a E S fun x S1 => wE X Ψ b E S1 fun y S2 => sAdd x y S2 Φ) : wE X Ψ (.BinOp a .Add b pos) E S Φ :=
  wE_op (g := sAdd) (OpR.or op_add op_add_str) (fun M H S v u x y Φ r a1 a2 g Q q => by
    rcases g with ⟨i, j, e1, e2, _, p⟩ | ⟨i, j, e1, e2, hl, p⟩
    · subst e1; subst e2; cases a1; cases a2
      exact .inl ⟨i, j, rfl, rfl, q _ _ M S H p r (.int _) (Step.refl _ _)⟩
    · subst e1; subst e2; cases a1; cases a2
      exact .inr ⟨i, j, rfl, rfl, hl, q _ _ M S H p r (.str _) (Step.refl _ _)⟩) h
def sCat (x y : W) (S : Sto) (Φ : W → Sto → Prop) : Prop := ∃ xs ys, itemsW S x = some xs ∧ itemsW S y = some ys ∧ (∀ z, x ≠ .tup z) ∧ (∀ z, y ≠ .tup z) ∧ xs.length + ys.length ≤ 100000 ∧ Φ (.lst (xs ++ ys)) S
theorem sCat_i {xs ys : List W} (hl : xs.length + ys.length ≤ 100000) (h : Φ (.lst (xs ++ ys)) S) : sCat (.lst xs) (.lst ys) S Φ := ⟨xs, ys, rfl, rfl, fun _ e => (nomatch e), fun _ e => (nomatch e), hl, h⟩
theorem xE_cat (h : wE X Ψ a E S fun x S1 => wE X Ψ b E S1 fun y S2 => sCat x y S2 Φ) : wE X Ψ (.BinOp a .Add b pos) E S Φ :=
  wE_op (g := sCat) op_cat (fun M H S v u x y Φ r a1 a2 ⟨xs, ys, i1, i2, n1, n2, hl, p⟩ Q q => by
    obtain ⟨p1, v1, rfl, rv1, k1⟩ := seq_of (K := X.K) r a1 i1
    obtain ⟨p2, v2, rfl, rv2, k2⟩ := seq_of (K := X.K) r a2 i2
    rcases k1 with ⟨_, h1⟩ | ⟨_, z, ez⟩
    · rcases k2 with ⟨_, h2⟩ | ⟨_, z, ez⟩
      · refine ⟨p1, p2, v1, v2, rfl, rfl, h1, h2, Nat.le_trans (by rw [rv1.length, rv2.length]; exact hl) (by decide), fun l hl => ?_⟩
        exact q _ _ M S _ p (r.tmp hl) (lq_new r hl (rv1.append rv2)) (step_tmp r hl)
      · exact absurd ez (n2 z)
    · exact absurd ez (n1 z)) h
def sRep (x y : W) (S : Sto) (Φ : W → Sto → Prop) : Prop := ∃ xs k, itemsW S x = some xs ∧ (∀ z, x ≠ .tup z) ∧ y = .int k ∧ 0 ≤ k ∧ k ≤ 1000 ∧ xs.length ≤ 1000 ∧ Φ (.lst (List.replicate k.toNat xs).flatten) S
theorem sRep_i {xs : List W} {k : Int} (h0 : 0 ≤ k) (h1 : k ≤ 1000) (hl : xs.length ≤ 1000) (h : Φ (.lst (List.replicate k.toNat xs).flatten) S) : sRep (.lst xs) (.int k) S Φ := ⟨xs, k, rfl, fun _ e => (nomatch e), rfl, h0, h1, hl, h⟩
theorem vws_rep {M : Lay} {H : Hp} {vs : List V} {ws : List W} (h : VWs M H vs ws) : ∀ n : Nat, VWs M H (List.replicate n vs).flatten (List.replicate n ws).flatten
  | 0 => .nil
  | n + 1 => by
    rw [List.replicate_succ, List.replicate_succ, List.flatten_cons, List.flatten_cons]
    exact h.append (vws_rep h n)
theorem xE_rep (h : wE X Ψ a E S fun x S1 => wE X Ψ b E S1 fun y S2 => sRep x y S2 Φ) : wE X Ψ (.BinOp a .Mult b pos) E S Φ :=
  wE_op (g := sRep) op_rep (fun M H S v u x y Φ r a1 a2 ⟨xs, k, i1, n1, e, k0, k1, hl, p⟩ Q q => by
    subst e; cases a2
    obtain ⟨p1, v1, rfl, rv1, kk⟩ := seq_of (K := X.K) r a1 i1
    rcases kk with ⟨_, h1⟩ | ⟨_, z, ez⟩
    · refine ⟨p1, k, v1, rfl, rfl, h1, by omega, by omega, ?_, fun l hl => ?_⟩
      · rw [rv1.length]
        have : k.toNat ≤ 1000 := by omega
        calc xs.length * k.toNat ≤ 1000 * 1000 := Nat.mul_le_mul hl this
          _ ≤ sizeLine := by decide
      · exact q _ _ M S _ p (r.tmp hl) (lq_new r hl (vws_rep rv1 _)) (step_tmp r hl)
    · exact absurd ez (n1 z)) h
/-! ### fields put, lists of objects -/
def sPut (X : Cx) (f : Str) (x w : W) (S : Sto) (Φ : Sto → Prop) : Prop := ∃ k C S3, x = .ref k ∧ fputW S k f w = some (C, S3) ∧ Cls X.K C ∧ NoAttr X.K C f ∧ Φ S3
theorem sPut_i {f : Str} {k : Nat} {C : Addr} {ws : List (Str × W)} {w : W} {Φ : Sto → Prop} (hs : S[k]? = some (.ins C ws)) (hl : ws.length < 1000) (hc : Cls X.K C) (hn : NoAttr X.K C f) (h : Φ (S.set k (.ins C (putFW f w ws)))) : sPut X f (.ref k) w S Φ :=
  ⟨k, C, _, rfl, by unfold fputW; rw [hs]; exact if_pos hl, hc, hn, h⟩
theorem xS_fld {f : Str} {pos' spos : Pos} (h : wE X Ψ e E S fun w S1 => wE X Ψ o E S1 fun x S2 => sPut X f x w S2 fun S3 => A.nx E S3) (hs : swapsWith e (some (.Attribute o f pos')) spos.line X.env = pure false := by rfl) : wS X Ψ (.Assign [.Attribute o f pos'] e spos) E S A := wS_fld h hs
theorem xG_fld {f : Str} {w : W} (h : wE X Ψ o E S fun x S1 => sPut X f x w S1 fun S2 => ΦE E S2) : wG X Ψ (.Attribute o f pos) w E S ΦE := wG_fld h
def sDput (x y w : W) (S : Sto) (Φ : Sto → Prop) : Prop := ∃ k S4, x = .ref k ∧ dlenW S k ≤ 100000 ∧ dputW S k y w = some S4 ∧ Φ S4
theorem sDput_i {y w : W} {k : Nat} {S4 : Sto} {Φ : Sto → Prop} (h1 : dlenW S k ≤ 100000) (h2 : dputW S k y w = some S4) (h : Φ S4) : sDput (.ref k) y w S Φ := ⟨k, S4, rfl, h1, h2, h⟩
theorem xS_dput {pos' spos : Pos} (hu : X.A.units + 65 < cLine) (h : wE X Ψ e E S fun w S1 => wE X Ψ o E S1 fun x S2 => wE X Ψ a E S2 fun y S3 => sDput x y w S3 fun S4 => A.nx E S4) (hs : swapsWith e (some (.Subscript o a pos')) spos.line X.env = pure false := by rfl) : wS X Ψ (.Assign [.Subscript o a pos'] e spos) E S A := wS_dput hu h hs
theorem nth_new {S T : Sto} {i : Nat} : (S ++ T)[S.length + i]? = T[i]? := by
  rw [List.getElem?_append_right (Nat.le_add_right _ _), Nat.add_sub_cancel_left]
theorem nth_new0 {S T : Sto} : (S ++ T)[S.length]? = T[0]? := nth_new (i := 0)
theorem set_new {S T : Sto} {i : Nat} {o : O} : (S ++ T).set (S.length + i) o = S ++ T.set i o := by
  rw [List.set_append_right _ _ (Nat.le_add_right _ _), Nat.add_sub_cancel_left]
theorem set_new0 {S T : Sto} {o : O} : (S ++ T).set S.length o = S ++ T.set 0 o := set_new (i := 0)
/-! ### list comprehensions that change nothing -/
/-- one turn, its test, its value -/
def TurnP (X : Cx) (scope : Scope) (f : IfK) (elt : Expr) (E2 : AEnv) (S : Sto) (p : Bool) (y : W) : Prop := match f with
  | .no => p = true ∧ ∀ s H0 C cl fp, wE (Cx.bk X scope s H0 C cl fp) nox elt E2 S fun w S3 => w = y ∧ S3 = S
  | .one c => (∀ s H0 C cl fp, wT (Cx.bk X scope s H0 C cl fp) nox c E2 S fun k S3 => k = p ∧ S3 = S) ∧ (p = true → ∀ s H0 C cl fp, wE (Cx.bk X scope s H0 C cl fp) nox elt E2 S fun w S3 => w = y ∧ S3 = S)
def sLc (X : Cx) (scope : Scope) (f : IfK) (elt : Expr) (j : Nat) (E : AEnv) (ws : List W) (still : Sto → Prop) (S : Sto) (Φ : List W → Sto → Prop) : Prop :=
  still S ∧ ws.length ≤ 100000 ∧ ∃ ts : List (Bool × W), ts.length = ws.length ∧ (∀ (i : Nat) (w : W) (t : Bool × W), ws[i]? = some w → ts[i]? = some t → TurnP X scope f elt ((E.set j none).set j (some w)) S t.1 t.2) ∧ Φ ((ts.filter (·.1)).map (·.2)) S
theorem sLc_run {scope : Scope} {f : IfK} {elt : Expr} {j : Nat} {ws : List W} {still : Sto → Prop} {Φ : List W → Sto → Prop} (h : sLc X scope f elt j E ws still S Φ) :
    ∃ I : Nat → List W → Sto → Prop, I 0 [] S ∧ (∀ i acc S', I i acc S' → still S' ∧ acc.length ≤ 100000) ∧
      (∀ i w acc S', ws[i]? = some w → I i acc S' → Turn1 X scope f elt ((E.set j none).set j (some w)) S' (fun y S4 => I (i + 1) (acc ++ [y]) S4) fun S3 => I (i + 1) acc S3) ∧ ∀ acc S', I ws.length acc S' → Φ acc S' := by
  obtain ⟨h1, h2, ts, hl, ht, hd⟩ := h
  refine ⟨fun i acc S' => S' = S ∧ acc = ((ts.take i).filter (·.1)).map (·.2), ⟨rfl, rfl⟩, ?_, ?_, ?_⟩
  · rintro i acc S' ⟨rfl, rfl⟩
    refine ⟨h1, ?_⟩
    rw [List.length_map]
    exact Nat.le_trans (List.length_filter_le _ _) (by rw [List.length_take]; omega)
  · rintro i w acc S' hw ⟨rfl, rfl⟩
    have hi : i < ts.length := by
      rw [hl]
      exact (List.getElem?_eq_some_iff.mp hw).1
    obtain ⟨t, hts⟩ : ∃ t, ts[i]? = some t := ⟨_, List.getElem?_eq_getElem hi⟩
    have tk : ts.take (i + 1) = ts.take i ++ [t] := by
      rw [List.take_add_one, hts]
      rfl
    have t' := ht i w t hw hts
    have yes : t.1 = true → S' = S' ∧ ((ts.take i).filter (·.1)).map (·.2) ++ [t.2] = ((ts.take (i + 1)).filter (·.1)).map (·.2) := fun hp => by
      refine ⟨rfl, ?_⟩
      rw [tk, List.filter_append, List.map_append]
      congr 1
      rw [List.filter_cons_of_pos (by exact hp)]
      rfl
    have no : t.1 = false → S' = S' ∧ ((ts.take i).filter (·.1)).map (·.2) = ((ts.take (i + 1)).filter (·.1)).map (·.2) := fun hp => by
      refine ⟨rfl, ?_⟩
      rw [tk, List.filter_append, List.filter_cons_of_neg (by rw [hp]; exact Bool.false_ne_true)]
      simp
    cases f with
    | no =>
      obtain ⟨hp, t'⟩ := t'
      exact fun s H0 C cl fp => (t' s H0 C cl fp).imp fun y S4 ⟨e1, e2⟩ => by subst e1; subst e2; exact yes hp
    | one c =>
      obtain ⟨t1, t2⟩ := t'
      refine fun s H0 C cl fp => (t1 s H0 C cl fp).imp fun k S4 ⟨e1, e2⟩ => ?_
      subst e2
      cases hk : k with
      | true =>
        rw [if_pos rfl]
        exact fun s H0 C cl fp => (t2 (by rw [← e1]; exact hk) s H0 C cl fp).imp fun y S4 ⟨e3, e4⟩ => by subst e3; subst e4; exact yes (by rw [← e1]; exact hk)
      | false =>
        rw [if_neg Bool.false_ne_true]
        exact no (by rw [← e1]; exact hk)
  · rintro acc S' ⟨rfl, rfl⟩
    rw [← hl, List.take_length]
    exact hd
theorem sLc_i {α : Type} {scope : Scope} {f : IfK} {elt : Expr} {j : Nat} {still : Sto → Prop} {ΦL : List W → Sto → Prop} {xs : List α} {enc : α → W} {p : α → Bool} {g : α → W} (hs : still S) (hl : xs.length ≤ 100000)
    (turn : ∀ x, x ∈ xs → TurnP X scope f elt ((E.set j none).set j (some (enc x))) S (p x) (g x)) (h : ΦL ((xs.filter p).map g) S) : sLc X scope f elt j E (xs.map enc) still S ΦL := by
  refine ⟨hs, by rw [List.length_map]; exact hl, xs.map fun x => (p x, g x), by simp, fun i w t h1 h2 => ?_, ?_⟩
  · rw [List.getElem?_map] at h1 h2
    cases e : xs[i]? with
    | none => rw [e] at h1; cases h1
    | some x =>
      rw [e] at h1 h2
      cases h1; cases h2
      exact turn x (List.mem_of_getElem? e)
  · have e : ((xs.map fun x => (p x, g x)).filter (·.1)).map (·.2) = (xs.filter p).map g := by
      rw [List.filter_map, List.map_map]
      rfl
    rw [e]
    exact h
theorem TurnP.one_i {scope : Scope} {elt : Expr} {E2 : AEnv} {p : Bool} {y : W} (h1 : ∀ s H0 C cl fp, wT (Cx.bk X scope s H0 C cl fp) nox c E2 S fun k S3 => k = p ∧ S3 = S) (h2 : p = true → ∀ s H0 C cl fp, wE (Cx.bk X scope s H0 C cl fp) nox elt E2 S fun w S3 => w = y ∧ S3 = S) : TurnP X scope (.one c) elt E2 S p y := ⟨h1, h2⟩
theorem TurnP.no_i {scope : Scope} {elt : Expr} {E2 : AEnv} {y : W} (h2 : ∀ s H0 C cl fp, wE (Cx.bk X scope s H0 C cl fp) nox elt E2 S fun w S3 => w = y ∧ S3 = S) : TurnP X scope .no elt E2 S true y := ⟨rfl, h2⟩
/-! ### what is walked -/
variable {tg iter : Expr} {ΦI : List W → (Sto → Prop) → Sto → Prop}
def sR1 (y : W) (S : Sto) (Φ : List W → (Sto → Prop) → Sto → Prop) : Prop := ∃ j : Int, y = .int j ∧ -(2 ^ 62) ≤ j ∧ j < 2 ^ 62 ∧ Φ (rangeW 0 j.toNat) (fun _ => True) S
theorem sR1_i {j : Int} (h1 : -100000 ≤ j) (h2 : j ≤ 100000) (h : ΦI (rangeW 0 j.toNat) (fun _ => True) S) : sR1 (.int j) S ΦI := ⟨j, rfl, by omega, by omega, h⟩
def sR2 (x y : W) (S : Sto) (Φ : List W → (Sto → Prop) → Sto → Prop) : Prop := ∃ i j : Int, x = .int i ∧ y = .int j ∧ (-(2 ^ 62) ≤ i ∧ i < 2 ^ 62 ∧ -(2 ^ 62) ≤ j ∧ j < 2 ^ 62) ∧ Φ (rangeW i (j - i).toNat) (fun _ => True) S
theorem sR2_i {i j : Int} (h1 : -100000 ≤ i) (h2 : i ≤ 100000) (h3 : -100000 ≤ j) (h4 : j ≤ 100000) (h : ΦI (rangeW i (j - i).toNat) (fun _ => True) S) : sR2 (.int i) (.int j) S ΦI := ⟨i, j, rfl, rfl, ⟨by omega, by omega, by omega, by omega⟩, h⟩
def sWT (y : W) (S : Sto) (Φ : List W → (Sto → Prop) → Sto → Prop) : Prop := ∃ ws, y = .tup ws ∧ Φ ws (fun _ => True) S
theorem sWT_i {ws : List W} (h : ΦI ws (fun _ => True) S) : sWT (.tup ws) S ΦI := ⟨ws, rfl, h⟩
def sWL (y : W) (S : Sto) (Φ : List W → (Sto → Prop) → Sto → Prop) : Prop := ∃ ws, itemsW S y = some ws ∧ (∀ z, y ≠ .tup z) ∧ Φ ws (stillW y ws) S
theorem sWL_l {ws : List W} (h : ΦI ws (fun _ => True) S) : sWL (.lst ws) S ΦI := ⟨ws, rfl, fun _ e => (nomatch e), h⟩
theorem sWL_r {k : Nat} {ws : List W} (e : S[k]? = some (.lst ws)) (h : ΦI ws (stillW (.ref k) ws) S) : sWL (.ref k) S ΦI := ⟨ws, by show (match S[k]? with | some (.lst ws) => some ws | _ => none) = some ws; rw [e], fun _ e => (nomatch e), h⟩
theorem xI_list (h : wE X Ψ iter E S fun y S1 => sWL y S1 ΦI) : wI X Ψ tg iter E S ΦI := wI_list h
theorem xI_tup (h : wE X Ψ iter E S fun y S1 => sWT y S1 ΦI) : wI X Ψ tg iter E S ΦI := wI_tup h
theorem xI_range1 {p : Pos} (hm : X.mg "range" = none) (h : wE X Ψ a E S fun y S1 => sR1 y S1 ΦI) (hg : Gl X "range" := by rfl) (hs : starEach [a] X.env = [(false, eval a X.env)] := by rfl) : wI X Ψ tg (.Call (.Name "range" p) [a] [] pos) E S ΦI := wI_range1 hm h hg hs
theorem xI_range2 {p : Pos} (hm : X.mg "range" = none) (h : wE X Ψ a E S fun x S1 => wE X Ψ b E S1 fun y S2 => sR2 x y S2 ΦI) (hg : Gl X "range" := by rfl) (hs : starEach [a, b] X.env = [(false, eval a X.env), (false, eval b X.env)] := by rfl) (hs2 : starEach [b] X.env = [(false, eval b X.env)] := by rfl)
    (hs3 : starEach [a, b] X.env = (false, eval a X.env) :: starEach [b] X.env := by rfl) : wI X Ψ tg (.Call (.Name "range" p) [a, b] [] pos) E S ΦI := wI_range2 hm h hg hs hs2 hs3
def sWE (y : W) (S : Sto) (Φ : List W → (Sto → Prop) → Sto → Prop) : Prop := ∃ ws, itemsW S y = some ws ∧ (∀ z, y ≠ .tup z) ∧ Φ (enumW 0 ws) (stillW y ws) S
theorem sWE_l {ws : List W} (h : ΦI (enumW 0 ws) (fun _ => True) S) : sWE (.lst ws) S ΦI := ⟨ws, rfl, fun _ e => (nomatch e), h⟩
theorem xI_enum {p tpos : Pos} {elts : List Expr} {kk : Nat} (hm : X.mg "enumerate" = none) (h : wE X Ψ a E S fun y S1 => sWE y S1 ΦI) (hg : Gl X "enumerate" := by rfl) (hs : starEach [a] X.env = [(false, eval a X.env)] := by rfl) : wI X Ψ (.Tuple elts kk tpos) (.Call (.Name "enumerate" p) [a] [] pos) E S ΦI := wI_enum hm h hg hs
theorem xE_lc {x : Str} {px : Pos} {scope : Scope} {elt iter : Expr} {j : Nat} (f : IfK) (hj : Idx x X.N j) (hc : X.calm = true) (hN : X.N.Nodup) (ok : BlkOk X.N X.env.scope scope [(x, j)])
    (h : wI X Ψ (.Name x px) iter E S fun ws still S1 => sLc X scope f elt j E ws still S1 fun acc S' => Φ (.lst acc) S')
    (hx : ∀ (s : Shared) (H : Hp) (C : Addr) (cl : List (Str × Addr)) (fp : List Addr), Loc (Cx.bk X scope s H C cl fp).env.scope x ∧ ((Cx.bk X scope s H C cl fp).fn x = true ∨ (Cx.bk X scope s H C cl fp).env.scope.names.lookup x = some .local) := by intros; exact ⟨by first | exact Or.inl rfl | exact Or.inr rfl, by first | exact Or.inl rfl | exact Or.inr rfl⟩)
    (hs : ∀ x, foldedSetIterable iter X.env x = pure x := by intro _; rfl) : wE X Ψ (.ListComp elt [⟨.Name x px, iter, f.exs, 0⟩] scope pos) E S Φ :=
  wE_lcF j f hc hN ok ⟨fun M σ H r ev xo R g => h.run M σ H r ev xo R fun J vs ys ws still M2 S2 H2 q => g J vs ys ws still M2 S2 H2 (sLc_run q)⟩ hx hs
theorem xS_lc {x y : Str} {px py : Pos} {scope : Scope} {elt iter : Expr} {i j : Nat} (f : IfK) (hy : Idx y X.N i) (hj : Idx x X.N j) (hc : X.calm = true) (hN : X.N.Nodup) (ok : BlkOk X.N X.env.scope scope [(x, j)])
    (h : wI X Ψ (.Name x px) iter E S fun ws still S1 => sLc X scope f elt j E ws still S1 fun acc S' => A.nx (E.set i (some (.lst acc))) S')
    {epos spos : Pos} (hsw : swapsWith (.ListComp elt [⟨.Name x px, iter, f.exs, 0⟩] scope epos) (some (.Name y py)) spos.line X.env = pure true) (hyl : X.env.scope.names.lookup y = some .local := by rfl)
    (hx : ∀ (s : Shared) (H : Hp) (C : Addr) (cl : List (Str × Addr)) (fp : List Addr), Loc (Cx.bk X scope s H C cl fp).env.scope x ∧ ((Cx.bk X scope s H C cl fp).fn x = true ∨ (Cx.bk X scope s H C cl fp).env.scope.names.lookup x = some .local) := by intros; exact ⟨by first | exact Or.inl rfl | exact Or.inr rfl, by first | exact Or.inl rfl | exact Or.inr rfl⟩)
    (hs : ∀ x, foldedSetIterable iter X.env x = pure x := by intro _; rfl) : wS X Ψ (.Assign [.Name y py] (.ListComp elt [⟨.Name x px, iter, f.exs, 0⟩] scope epos) spos) E S A :=
  wS_setLcF i j f hc hN ok ⟨fun M σ H r ev xo R g => h.run M σ H r ev xo R fun J vs ys ws still M2 S2 H2 q => g J vs ys ws still M2 S2 H2 (sLc_run q)⟩ hsw hy.get hyl hx hs
theorem Room.u65 {k : Nat} {A : Around} (r : Room k A) : A.units + 65 < cLine := by
  have := r.un
  omega
def sAndW (k : Bool) (go : (Bool → Sto → Prop) → Prop) (S : Sto) (Φ : Bool → Sto → Prop) : Prop := if k = true then go Φ else Φ false S
theorem sAndW_f {k : Bool} {go} (e : k = false) (h : ΦT false S) : sAndW k go S ΦT := by
  unfold sAndW
  rw [e]
  exact h
theorem sAndW_t {k : Bool} {go} (e : k = true) (h : go ΦT) : sAndW k go S ΦT := by
  unfold sAndW
  rw [e]
  exact h
theorem wW.imp {Φ' : Bool → Sto → Prop} (h : wW X Ψ e E S ΦT) (g : ∀ w S', ΦT w S' → Φ' w S') : wW X Ψ e E S Φ' :=
  ⟨fun M σ H r ev x Q q => h.run M σ H r ev x Q fun k M2 S2 H2 p r2 s2 => q k M2 S2 H2 (g _ _ p) r2 s2⟩
theorem sAndW_p {ka : Bool} (kb : Bool) (h1 : ka = true → wW X Ψ e E S fun w S2 => w = kb ∧ S2 = S) (h : ΦT (ka && kb) S) : sAndW ka (wW X Ψ e E S) S ΦT := by
  cases ka with
  | true => exact sAndW_t rfl ((h1 rfl).imp fun w S' ⟨e1, e2⟩ => by rw [e1, e2]; exact h)
  | false => exact sAndW_f rfl h
def sOrW (k : Bool) (go : (Bool → Sto → Prop) → Prop) (S : Sto) (Φ : Bool → Sto → Prop) : Prop := if k = true then Φ true S else go Φ
theorem sOrW_t {k : Bool} {go} (e : k = true) (h : ΦT true S) : sOrW k go S ΦT := by
  unfold sOrW
  rw [e]
  exact h
theorem sOrW_f {k : Bool} {go} (e : k = false) (h : go ΦT) : sOrW k go S ΦT := by
  unfold sOrW
  rw [e]
  exact h
theorem sOrW_p {ka : Bool} (kb : Bool) (h1 : ka = false → wW X Ψ e E S fun w S2 => w = kb ∧ S2 = S) (h : ΦT (ka || kb) S) : sOrW ka (wW X Ψ e E S) S ΦT := by
  cases ka with
  | true => exact sOrW_t rfl h
  | false => exact sOrW_f rfl ((h1 rfl).imp fun w S' ⟨e1, e2⟩ => by rw [e1, e2]; exact h)
theorem xW_and (h : wT X Ψ a E S fun k S1 => sAndW k (wW X Ψ (.BoolOp .And (b :: rest) pos) E S1) S1 ΦT) : wW X Ψ (.BoolOp .And (a :: b :: rest) pos) E S ΦT := wW_and h
theorem xW_or (h : wT X Ψ a E S fun k S1 => sOrW k (wW X Ψ (.BoolOp .Or (b :: rest) pos) E S1) S1 ΦT) : wW X Ψ (.BoolOp .Or (a :: b :: rest) pos) E S ΦT := wW_or h
/-- a <= b <= c -/
def sChain (g : Int → Int → Bool) (go : (W → Sto → Prop) → Prop) (f : Int → Int → Bool) (x y : W) (S : Sto) (Φ : W → Sto → Prop) : Prop := ∃ i j, x = .int i ∧ y = .int j ∧ if f i j = true then go (fun z S3 => ∃ k, z = .int k ∧ Φ (.bl (g j k)) S3) else Φ (.bl false) S
theorem sChain_p {f g : Int → Int → Bool} {i j : Int} (k : Int) (h1 : wE X Ψ c E S fun z S3 => z = .int k ∧ S3 = S) (h : Φ (.bl (f i j && g j k)) S) : sChain g (wE X Ψ c E S) f (.int i) (.int j) S Φ := by
  refine ⟨i, j, rfl, rfl, ?_⟩
  cases e : f i j with
  | true =>
    rw [e] at h
    rw [if_pos rfl]
    exact h1.imp fun z S3 ⟨e1, e2⟩ => ⟨k, e1, by rw [e2]; exact h⟩
  | false =>
    rw [e] at h
    rw [if_neg Bool.false_ne_true]
    exact h
theorem xE_chain {op op' : CmpOp} {f g : Int → Int → Bool} (ho : OpR X (compareOp op) (rI0 fun i j => .bl (f i j))) (ho' : OpR X (compareOp op') (rI0 fun i j => .bl (g i j)))
    (h : wE X Ψ a E S fun x S1 => wE X Ψ b E S1 fun y S2 => sChain g (wE X Ψ c E S2) f x y S2 Φ) (hm : lastMarks [op, op'] [b, c] = false := by with_unfolding_all rfl) : wE X Ψ (.Compare a [op, op'] [b, c] pos) E S Φ := wE_chainI ho ho' h hm
/-! ### the module's numbers and texts -/
def MgI (mg : Str → Option Value) (x : Str) (i : Int) : Prop := ∃ t, mg x = some (.int i t)
def MgS (mg : Str → Option Value) (x : Str) (i : Str) : Prop := ∃ t, mg x = some (.str i t)
theorem xE_globI {x : Str} {i : Int} (m : MgI X.mg x i) (h : Φ (.int i) S) (hg : Gl X x := by rfl) (hd : (x == ("__debug__" : Str)) = false := by decide +kernel) : wE X Ψ (.Name x pos) E S Φ := by
  obtain ⟨t, m⟩ := m
  exact wE_glob (v := .int i) m ⟨t, rfl⟩ rfl h hg hd
theorem xE_globS {x : Str} {i : Str} (m : MgS X.mg x i) (h : Φ (.str i) S) (hg : Gl X x := by rfl) (hd : (x == ("__debug__" : Str)) = false := by decide +kernel) : wE X Ψ (.Name x pos) E S Φ := by
  obtain ⟨t, m⟩ := m
  exact wE_glob (v := .str i) m ⟨t, rfl⟩ rfl h hg hd
end

-- AM12
/-- a def of the module as the top has made it -/
structure DefAt (K : PySem.W.Frag) (mg : Str → Option Value) (x qual : Str) (st : Stmt) (ps : List Str) : Prop where
  ex : ∃ f fd, mg x = some (.ref f) ∧ PySem.W.keepIn K (.ref f) = true ∧ Fun K x qual st f fd ∧ Binds K fd ps []
structure MethAt (K : PySem.W.Frag) (C : Addr) (m qual : Str) (st : Stmt) (ps : List Str) : Prop where
  ex : ∃ f fd, Meth K C m f ∧ Fun K m qual st f fd ∧ Binds K fd ps []
structure MakeAt (K : PySem.W.Frag) (mg : Str → Option Value) (C : Addr) (x qual : Str) (st : Stmt) (ps : List Str) : Prop where
  ex : ∃ f fd, mg x = some (.ref C) ∧ Mk K C f ∧ Fun K "__init__" qual st f fd ∧ Binds K fd ps []
section
variable {P : Program} {w : World} {K : PySem.W.Frag} {mg : Str → Option Value} {base : Heap} {x qual m : Str} {st : Stmt} {ps N : List Str} {C : Addr} {k : Nat} {asp : ASp}
theorem DefAt.fn (D : DefAt K mg x qual st ps) (sc : FnScope N ps (defScope st))
    (hbody : ∀ (f : Addr) (cdv : Value) (A : Around) (outer : List Env) (s : Shared) (H : Hp) (E : XK), Room k (A.deeper (envOfC qual (defScope st) s.heap.objs.size f cdv)) → ∀ ws S Φ Ψ, ws.length = ps.length → Srl S → asp ws S Φ Ψ →
      wB (cxOf (L2.CX P w) P w K mg base N qual (defScope st) f cdv A outer s H E) (fun cls fs _ S2 => Ψ cls fs S2) (defBody st) (startW N.length ws) S ⟨fun _ S2 => fin S.length Φ .non S2, fin S.length Φ, fun _ _ => False, fun _ _ => False⟩) : CFn P w K mg base x (k + 1) ps.length asp := by
  obtain ⟨f, fd, h1, h2, F, B⟩ := D.ex
  exact ⟨f, fd, ps, h1, h2, B, rfl, fn_ok F sc (hbody f)⟩
theorem MethAt.fn (D : MethAt K C m qual st ps) (sc : FnScope N ps (defScope st))
    (hbody : ∀ (f : Addr) (cdv : Value) (A : Around) (outer : List Env) (s : Shared) (H : Hp) (E : XK), Room k (A.deeper (envOfC qual (defScope st) s.heap.objs.size f cdv)) → ∀ ws S Φ Ψ, ws.length = ps.length → Srl S → asp ws S Φ Ψ →
      wB (cxOf (L2.CX P w) P w K mg base N qual (defScope st) f cdv A outer s H E) (fun cls fs _ S2 => Ψ cls fs S2) (defBody st) (startW N.length ws) S ⟨fun _ S2 => fin S.length Φ .non S2, fin S.length Φ, fun _ _ => False, fun _ _ => False⟩) : CMeth P w K mg base C m (k + 1) ps.length asp := by
  obtain ⟨f, fd, h1, F, B⟩ := D.ex
  exact ⟨f, fd, ps, h1, B, rfl, fn_ok F sc (hbody f)⟩
theorem MakeAt.fn (D : MakeAt K mg C x qual st ps) (sc : FnScope N ps (defScope st))
    (hbody : ∀ (f : Addr) (cdv : Value) (A : Around) (outer : List Env) (s : Shared) (H : Hp) (E : XK), Room k (A.deeper (envOfC qual (defScope st) s.heap.objs.size f cdv)) → ∀ ws S Φ Ψ, ws.length = ps.length → Srl S → asp ws S Φ Ψ →
      wB (cxOf (L2.CX P w) P w K mg base N qual (defScope st) f cdv A outer s H E) (fun cls fs _ S2 => Ψ cls fs S2) (defBody st) (startW N.length ws) S ⟨fun _ S2 => fin S.length Φ .non S2, fin S.length Φ, fun _ _ => False, fun _ _ => False⟩) : CMake P w K mg base x C (k + 1) ps.length asp := by
  obtain ⟨f, fd, h1, h2, F, B⟩ := D.ex
  exact ⟨f, fd, ps, h1, h2, B, rfl, fn_ok F sc (hbody f)⟩
theorem CFn.more {j n : Nat} (F : CFn P w K mg base x k n asp) (h : k = j) : CFn P w K mg base x j n asp := by rw [← h]; exact F
/-- what k_is shows of a def -/
def RawDef (K : PySem.W.Frag) (x qual : Str) (st : Stmt) : Prop :=
  ∃ (f : Addr) (od an : Option Addr) (sl : Array (Option Value)) (oc kV dc pm cd ct : Value), PySem.W.nsIn K mainGlobals x = some (some (.ref f)) ∧
    K.lookup f = some ⟨oc, od, .func (PySem.W.fnOf x qual (defArgs st) (defBody st) (defScope st) .none kV dc pm an cd ct), sl⟩ ∧ PySem.W.codeIn K cd qual = true ∧ PySem.W.keepIn K (.ref f) = true
def RawMeth (K : PySem.W.Frag) (C : Addr) (m qual : Str) (st : Stmt) : Prop :=
  ∃ (f : Addr) (od an : Option Addr) (sl : Array (Option Value)) (oc kV dc pm cd ct : Value), PySem.W.findIn K (.ref C) m = some (some (.ref f)) ∧
    K.lookup f = some ⟨oc, od, .func (PySem.W.fnOf m qual (defArgs st) (defBody st) (defScope st) .none kV dc pm an cd ct), sl⟩ ∧ PySem.W.codeIn K cd qual = true ∧ PySem.W.keepIn K (.ref f) = true ∧ PySem.W.isFn K (.ref f) = true
theorem RawDef.at {h : Heap} (R : RawDef K x qual st) (X : K.In h) (G : h.Ns mainGlobals mg)
    (hb : ∀ (kV doc pm : Value) (an : Option Addr) (cdv ct : Value) (us : List Value), us.length = ps.length → bindArgs (PySem.W.fnOf x qual (defArgs st) (defBody st) (defScope st) .none kV doc pm an cdv ct) ⟨us, []⟩ = pure (ps.zip us)) : DefAt K mg x qual st ps := by
  obtain ⟨f, od, an, sl, oc, kV, dc, pm, cd, ct, h1, h2, h3, h4⟩ := R
  exact ⟨f, _, PySem.W.mg_of X G h1, h4, fun_mk h2 h3 h4, .all (hb kV dc pm an cd ct)⟩
theorem RawMeth.at (R : RawMeth K C m qual st)
    (hb : ∀ (kV doc pm : Value) (an : Option Addr) (cdv ct : Value) (us : List Value), us.length = ps.length → bindArgs (PySem.W.fnOf m qual (defArgs st) (defBody st) (defScope st) .none kV doc pm an cdv ct) ⟨us, []⟩ = pure (ps.zip us)) : MethAt K C m qual st ps := by
  obtain ⟨f, od, an, sl, oc, kV, dc, pm, cd, ct, h1, h2, h3, h4, h5⟩ := R
  exact ⟨f, _, ⟨h1, h5, h4⟩, fun_mk h2 h3 h4, .all (hb kV dc pm an cd ct)⟩
theorem RawMeth.make {h : Heap} (R : RawMeth K C "__init__" qual st) (X : K.In h) (G : h.Ns mainGlobals mg) (hn : PySem.W.nsIn K mainGlobals x = some (some (.ref C))) (hm : PySem.W.makesIn K C = true) (hk : PySem.W.keepIn K (.ref C) = true)
    (hb : ∀ (kV doc pm : Value) (an : Option Addr) (cdv ct : Value) (us : List Value), us.length = ps.length → bindArgs (PySem.W.fnOf "__init__" qual (defArgs st) (defBody st) (defScope st) .none kV doc pm an cdv ct) ⟨us, []⟩ = pure (ps.zip us)) : MakeAt K mg C x qual st ps := by
  obtain ⟨f, od, an, sl, oc, kV, dc, pm, cd, ct, h1, h2, h3, h4, h5⟩ := R
  exact ⟨f, _, PySem.W.mg_of X G hn, ⟨hm, h1, h5, hk⟩, fun_mk h2 h3 h4, .all (hb kV dc pm an cd ct)⟩
theorem mgI_of {h : Heap} {i : Int} (X : K.In h) (G : h.Ns mainGlobals mg) (e : ∃ t, PySem.W.nsIn K mainGlobals x = some (some (.int i t))) : MgI mg x i := by
  obtain ⟨t, e⟩ := e
  exact ⟨t, PySem.W.mg_of X G e⟩
theorem mgS_of {h : Heap} {i : Str} (X : K.In h) (G : h.Ns mainGlobals mg) (e : ∃ t, PySem.W.nsIn K mainGlobals x = some (some (.str i t))) : MgS mg x i := by
  obtain ⟨t, e⟩ := e
  exact ⟨t, PySem.W.mg_of X G e⟩
end

-- AM13
section
variable {X : Cx} {Ψ : AX} {a b c e o elt iter tg : Expr} {es rest : List Expr} {E : AEnv} {S : Sto} {Φ : W → Sto → Prop} {ΦT : Bool → Sto → Prop} {ΦE : AEnv → Sto → Prop} {pos : Pos} {scope : Scope} {A : AE}
/-! ### a tuple of texts of the module -/
def sInK (neg : Bool) (ss : List Str) (x : W) (S : Sto) (Φ : W → Sto → Prop) : Prop := x.ok 59 = true ∧ Φ (.bl (if neg then !inW x (ss.map W.str) else inW x (ss.map W.str))) S
theorem sInK_i {neg : Bool} {ss : List Str} {x : W} {k : Bool} (h1 : x.ok 59 = true) (e : inW x (ss.map W.str) = k) (h : Φ (.bl (if neg then !k else k)) S) : sInK neg ss x S Φ := ⟨h1, by rw [e]; exact h⟩
/-! ### dicts made -/
theorem dt_new {M : Lay} {H : Hp} {S : Sto} (r : Rep M H S) {p : Addr} (hp : H p = none) : Rep (M.add p) (upd H p (.dT [])) (S ++ [.dt []]) ∧ VW (M.add p) (upd H p (.dT [])) (.ref p) (.ref S.length) :=
  ⟨r.new hp (.dt .nil), .ref (by show (M.m ++ [p])[S.length]? = some p; rw [← r.len, List.getElem?_append_right (Nat.le_refl _)]; simp)⟩
/-- {}, its keys will be tuples -/
theorem wE_newT (h : Φ (.ref S.length) (S ++ [.dt []])) : wE X Ψ (.Dict [] [] pos) E S Φ :=
  wE.of pe_dnewT fun M σ H r ev x Q q => fun p hp => q _ _ _ _ _ h (dt_new r hp).1 (dt_new r hp).2 (step_new r hp)
/-! ### dicts read, written -/
theorem dget_t {k : Nat} {kws : List (List Key × W)} {ws : List W} {ks : List Key} (h : S[k]? = some (.dt kws)) (e : keysW ws = some ks) : dgetW S k (.tup ws) = some (valW kws ks) := by
  unfold dgetW
  rw [h]
  show (keysW ws).map _ = _
  rw [e]
  rfl
theorem dget_k {k : Nat} {kws : List (Key × W)} {y : W} {key : Key} (h : S[k]? = some (.dk kws)) (e : keyW y = some key) : dgetW S k y = some (valW kws key) := by
  unfold dgetW
  rw [h]
  show (keyW y).map _ = _
  rw [e]
  rfl
theorem dput_t {k : Nat} {kws : List (List Key × W)} {ws : List W} {ks : List Key} {z : W} (h : S[k]? = some (.dt kws)) (e : keysW ws = some ks) : dputW S k (.tup ws) z = some (S.set k (.dt (putW kws ks z))) := by
  unfold dputW
  rw [h]
  show (keysW ws).map _ = _
  rw [e]
  rfl
theorem dput_k {k : Nat} {kws : List (Key × W)} {y z : W} {key : Key} (h : S[k]? = some (.dk kws)) (e : keyW y = some key) : dputW S k y z = some (S.set k (.dk (putW kws key z))) := by
  unfold dputW
  rw [h]
  show (keyW y).map _ = _
  rw [e]
  rfl
theorem dlen_t {k : Nat} {kws : List (List Key × W)} (h : S[k]? = some (.dt kws)) (hl : kws.length ≤ 100000) : dlenW S k ≤ 100000 := by
  unfold dlenW
  rw [h]
  exact hl
theorem dlen_k {k : Nat} {kws : List (Key × W)} (h : S[k]? = some (.dk kws)) (hl : kws.length ≤ 100000) : dlenW S k ≤ 100000 := by
  unfold dlenW
  rw [h]
  exact hl
/-! ### targets of several names -/
def sGs (X : Cx) (Ψ : AX) (ts : List Expr) (w : W) (E : AEnv) (S : Sto) (Φ : AEnv → Sto → Prop) : Prop := ∃ ws, w = .tup ws ∧ ws.length = ts.length ∧ wGs X Ψ ts ws E S Φ
theorem xG_tup {k : Nat} (hc : X.calm = true) (he : Each X es) {w : W} (h2 : sGs X Ψ es w E S ΦE) (hn : (assignEach es X.env).length = es.length := by rfl) (hst : (assignEach es X.env).findIdx? (·.1) = none := by rfl) : wG X Ψ (.Tuple es k pos) w E S ΦE := wG_tup hc he h2 hn hst
theorem sGs_2 {t u : Expr} {x y : W} (h : wG X Ψ t x E S fun E2 S2 => wG X Ψ u y E2 S2 ΦE) : sGs X Ψ [t, u] (.tup [x, y]) E S ΦE := ⟨_, rfl, rfl, h⟩
theorem sGs_3 {t u v : Expr} {x y z : W} (h : wG X Ψ t x E S fun E2 S2 => wG X Ψ u y E2 S2 fun E3 S3 => wG X Ψ v z E3 S3 ΦE) : sGs X Ψ [t, u, v] (.tup [x, y, z]) E S ΦE := ⟨_, rfl, rfl, h⟩
theorem xS_asg {spos : Pos} (h : wE X Ψ e E S fun w S1 => wG X Ψ tg w E S1 A.nx) (hs : swapsWithSole [tg] e spos.line X.env = pure false := by rfl) (hw : swappedStores [tg] e X.env = pure none := by rfl)
    (h1 : (assignEach [tg] X.env).map (·.2) = [assign tg X.env] := by rfl) : wS X Ψ (.Assign [tg] e spos) E S A := wS_asg h hs hw h1
theorem enum_inv {ws : List W} {n i : Nat} {w : W} (h : (enumW n ws)[i]? = some w) : ∃ u, ws[i]? = some u ∧ w = .tup [.int ((n + i : Nat) : Int), u] := by
  cases e : ws[i]? with
  | none =>
    have hl : ws.length ≤ i := List.getElem?_eq_none_iff.mp e
    rw [List.getElem?_eq_none (by rw [enum_len]; exact hl)] at h
    cases h
  | some u =>
    rw [enum_get e] at h
    exact ⟨u, rfl, (Option.some.inj h).symm⟩
theorem map_inv {α : Type} {f : α → W} {xs : List α} {i : Nat} {w : W} (h : (xs.map f)[i]? = some w) : ∃ x, xs[i]? = some x ∧ w = f x := by
  rw [List.getElem?_map] at h
  cases e : xs[i]? with
  | none => rw [e] at h; cases h
  | some x => rw [e] at h; exact ⟨x, rfl, (Option.some.inj h).symm⟩
end

-- AM14
section
variable {X : Cx} {Ψ : AX} {a b c e o elt iter tg : Expr} {es rest : List Expr} {E : AEnv} {S : Sto} {Φ : W → Sto → Prop} {ΦT : Bool → Sto → Prop} {ΦE : AEnv → Sto → Prop} {pos : Pos} {scope : Scope} {A : AE}
def sLset (x y w : W) (S : Sto) (Φ : Sto → Prop) : Prop := ∃ k ws i j, x = .ref k ∧ S[k]? = some (.lst ws) ∧ y = .int i ∧ ixN ws.length i = some j ∧ Φ (S.set k (.lst (ws.set j w)))
theorem sLset_i {w : W} {k : Nat} {ws : List W} {i : Int} {j : Nat} {Φ : Sto → Prop} (h1 : S[k]? = some (.lst ws)) (h2 : ixN ws.length i = some j) (h : Φ (S.set k (.lst (ws.set j w)))) : sLset (.ref k) (.int i) w S Φ := ⟨k, ws, i, j, rfl, h1, rfl, h2, h⟩
theorem xG_lset {w : W} (h : wE X Ψ o E S fun x S1 => wE X Ψ a E S1 fun y S2 => sLset x y w S2 fun S3 => ΦE E S3) (ha : ∀ v, assign (.Subscript o a pos) X.env v = (do
      let ov ← holding [v] (eval o X.env)
      let iv ← holding [v, ov] (eval a X.env)
      standAt pos
      holding [v, ov, iv] (setItem ov iv v)
      release [v, ov, iv] []) := by intro _; rfl) : wG X Ψ (.Subscript o a pos) w E S ΦE := wG_sub set_list setw_list (h.imp fun x S1 h => h.imp fun y S2 h => h) ha
def sIxScr (K : PySem.W.Frag) (x y : W) (S : Sto) (Φ : W → Sto → Prop) : Prop := ∃ ns i m, x = .scr K ns ∧ y = .int i ∧ atI ns i = some m ∧ Φ (.int m) S
theorem sIxScr_i {K : PySem.W.Frag} {ns : List Int} {i m : Int} (e : atI ns i = some m) (h : Φ (.int m) S) : sIxScr K (.scr K ns) (.int i) S Φ := ⟨ns, i, m, rfl, rfl, e, h⟩
theorem xE_ixScr (h : wE X Ψ a E S fun x S1 => wE X Ψ b E S1 fun y S2 => sIxScr X.K x y S2 Φ) (hs : PlainIx b := by exact fun _ _ => rfl) : wE X Ψ (.Subscript a b pos) E S Φ := wE_ixScr h hs
theorem xE_mulI (h : wE X Ψ a E S fun x S1 => wE X Ψ b E S1 fun y S2 => sII CMul (fun i j => .int (i * j)) x y S2 Φ) : wE X Ψ (.BinOp a .Mult b pos) E S Φ := wE_mul h
theorem atI_scr {ns : List Int} {i : Int} (h0 : 0 ≤ i) (h1 : i < ns.length) : ∃ m, atI ns i = some m := by
  unfold atI ixN
  rw [if_pos h0, if_pos h1]
  exact ⟨_, List.getElem?_eq_getElem (by omega)⟩
/-- a draw, told as any number below the bound -/
def asp_taken (K : PySem.W.Frag) : ASp := fun ws S Φ _ => ∃ r m, ws = [.ref r, .int m] ∧ S[r]? = some (.row K) ∧ 0 < m ∧ m ≤ 2147483647 ∧ ∀ v : Int, 0 ≤ v → v < m → Φ (.int v) S
end

-- AM15
section
variable {X : Cx} {pins : List (Addr × Obj)} {σ : L2.St} {H : Hp} {s : Shared}
end
def mergeW (kws more : List (Key × W)) : List (Key × W) := more.foldl (fun acc kv => putW acc kv.1 kv.2) kws
theorem merge_vw {M : Lay} {H : Hp} {more : List (Key × V)} {mw : List (Key × W)} (h : PVW M H more mw) : ∀ {kvs : List (Key × V)} {kws : List (Key × W)}, PVW M H kvs kws → PVW M H (mergeK kvs more) (mergeW kws mw) := by
  induction h with
  | nil => intro kvs kws r; exact r
  | @cons p q more mw e t ih =>
    intro kvs kws r
    obtain ⟨k, v⟩ := p
    obtain ⟨k', w⟩ := q
    obtain ⟨e1, a⟩ := e
    have e1 : k = k' := e1
    subst e1
    exact ih (kvs := putK kvs k v) (kws := putW kws k w) (put_vw r a)
section
variable {X : Cx} {Ψ : AX} {a b c e o : Expr} {es : List Expr} {E : AEnv} {S : Sto} {Φ : W → Sto → Prop} {pos : Pos}
end

-- AM16
section
variable {M : Lay} {H : Hp} {p : Addr}
/-- the hidden one becomes the next mutable object -/
theorem vw_mv : ∀ {w v}, VW (M.hid p) H v w → VW (M.add p) H v w := by
  intro w v h
  have o : ∀ {a : Addr}, (M.hid p).out a → (M.add p).out a := fun z => ⟨fun m => by
    rcases List.mem_append.mp m with m | m
    · exact z.1 m
    · exact z.2 (by rw [List.mem_singleton.mp m]; exact List.mem_cons_self), fun m => z.2 (List.mem_cons_of_mem _ m)⟩
  refine VW.rec (motive_1 := fun v w _ => VW (M.add p) H v w) (motive_2 := fun v w _ => VWs (M.add p) H v w) .non .bl .int .str ?_ ?_ ?_ .raw ?_ ?_ ?_ .nil ?_ h
  · intro a xs ws q _ ih
    exact .tup ⟨q.1, o q.2⟩ ih
  · intro a xs ws q _ ih
    exact .lst ⟨q.1, o q.2⟩ ih
  · intro a k q
    exact .ref (by
      show (M.m ++ [p])[k]? = _
      have q : M.m[k]? = some _ := q
      rw [List.getElem?_append_left (List.getElem?_eq_some_iff.mp q).1]
      exact q)
  · intro K a ns q
    refine .scr ?_
    rcases q with ⟨q, qo⟩ | q
    · exact .inl ⟨q, o qo⟩
    · exact .inr q
  · intro a d f i q1 q2
    exact .xi (o q1) q2
  · intro a fs q
    exact .thg fun z hz => ⟨o (q z hz).1, (q z hz).2⟩
  · intro v vs w ws _ _ i1 i2
    exact .cons i1 i2
theorem vws_mv : ∀ {ws vs}, VWs (M.hid p) H vs ws → VWs (M.add p) H vs ws := by
  intro ws
  induction ws with
  | nil => intro vs h; cases h; exact .nil
  | cons w ws ih =>
    intro vs h
    cases h with
    | cons a b => exact .cons (vw_mv a) (ih b)
theorem pvw_mv {κ : Type} {xs : List (κ × V)} {ws : List (κ × W)} (h : PVW (M.hid p) H xs ws) : PVW (M.add p) H xs ws := Paired.mapP h fun _ _ r => ⟨r.1, vw_mv r.2⟩
theorem Rep.adopt {S : Sto} (pn : p ∉ M.h) (r : Rep (M.hid p) H S) {u ho : HO} {o : O} (hu : H p = some u) (nt : (∀ ps, u ≠ .tbl ps) ∧ ∀ f, u ≠ .ext f) (b : Ob (M.add p) (upd H p ho) ho o) (nh : ∀ f, ho ≠ .ext f := by intro _ z; cases z) (nt9 : ∀ P q, o ≠ O.tab P q := by intro _ _ z; cases z) : Rep (M.add p) (upd H p ho) (S ++ [o]) := by
  obtain ⟨f, r2⟩ := step_over r (ho := ho) List.mem_cons_self hu nt
  have pm : p ∉ M.m := (r.hid p List.mem_cons_self).2
  refine ⟨?_, by simp [r.len], fun k q x h1 h2 => ?_, fun q hq => ?_, fun k P q e => ?_⟩
  · refine List.nodup_append.mpr ⟨r.nd, by simp, fun a ha b hb e => ?_⟩
    rw [List.mem_singleton.mp hb] at e
    subst e
    exact pm ha
  · have h1 : (M.m ++ [p])[k]? = some q := h1
    have hl : M.m.length = S.length := r.len
    by_cases hk : k < M.m.length
    · rw [List.getElem?_append_left hk] at h1
      rw [List.getElem?_append_left (by rw [← hl]; exact hk)] at h2
      obtain ⟨hq, e, b'⟩ := r2.at_ k q x h1 h2
      refine ⟨hq, e, ?_⟩
      cases b' with
      | lst a => exact .lst (vws_mv a)
      | dk a => exact .dk (pvw_mv a)
      | dt a => exact .dt (pvw_mv a)
      | ins a => exact .ins (pvw_mv a)
      | row a =>
        obtain ⟨v, ns, i, z, e, a, q⟩ := a
        exact .row ⟨v, ns, i, z, e, vw_mv a, q⟩
      | any m n => exact .any m n
      | tab t q =>
        refine .tab t fun pos cv e => ?_
        obtain ⟨c, h1, h2, h3⟩ := q pos cv e
        refine ⟨c, h1, ⟨fun z => ?_, fun m => h2.2 (List.mem_cons_of_mem _ m)⟩, h3⟩
        rcases List.mem_append.mp z with z | z
        · exact h2.1 z
        · exact h2.2 (by rw [List.mem_singleton.mp z]; exact List.mem_cons_self)
    · rw [List.getElem?_append_right (by omega)] at h1
      rw [List.getElem?_append_right (by rw [← hl]; omega)] at h2
      have e0 : k - M.m.length = 0 := by
        have q := (List.getElem?_eq_some_iff.mp h1).1
        simp at q; omega
      have e1 : k - S.length = 0 := by rw [← hl]; exact e0
      rw [e0] at h1; rw [e1] at h2
      simp at h1 h2
      subst h1; subst h2
      exact ⟨ho, upd_same, b⟩
  · obtain ⟨h1, h2⟩ := r2.hid q (List.mem_cons_of_mem _ hq)
    refine ⟨h1, fun m => ?_⟩
    rcases List.mem_append.mp m with m | m
    · exact h2 m
    · rw [List.mem_singleton.mp m] at hq
      exact pn hq
  · by_cases hk : k < S.length
    · rw [List.getElem?_append_left hk] at e
      exact (List.getElem?_append_left (by have h9 : M.m.length = S.length := r.len; omega)).trans (r.tb k P q e)
    · rw [List.getElem?_append_right (by omega)] at e
      exact absurd (List.mem_singleton.mp (List.mem_of_getElem? e)).symm (nt9 P q)
theorem step_adopt {M1 : Lay} {H1 : Hp} {S1 : Sto} {m2 : List Addr} {H2 : Hp} {ho : HO} (r1 : Rep M1 H1 S1) (hD : H1 p = none) (s : Step M1 H1 ⟨m2, M1.h⟩ H2) : Step M1 H1 ⟨m2 ++ [p], M1.h⟩ (upd H2 p ho) where
  pre := List.IsPrefix.trans s.pre (List.prefix_append _ _)
  new := fun q h n => by
    by_cases e : q = p
    · rw [e]; exact hD
    · exact s.new q (fun z => h ⟨fun m => by
        rcases List.mem_append.mp m with m | m
        · exact z.1 m
        · exact e (List.mem_singleton.mp m), z.2⟩) n
  keep := fun a o h nt m => by rw [upd_ne (ne_of_none h hD)]; exact s.keep a o h nt m
  tbl := fun a ps m h => by rw [upd_ne (ne_of_none h hD)]; exact s.tbl a ps m h
  there := fun a m h => by
    have n : a ≠ p := fun e => h (by rw [e]; exact hD)
    rw [upd_ne n]
    exact s.there a m h
  old := fun a m h => by
    rcases List.mem_append.mp m with m | m
    · exact s.old a m h
    · rw [List.mem_singleton.mp m] at h
      exact absurd hD (r1.hid p h).1
  hold := rfl
end
section
variable {X : Cx} {Ψ : AX} {a b c e o : Expr} {es : List Expr} {E : AEnv} {S : Sto} {Φ : W → Sto → Prop} {pos : Pos}
/-- {"x": .., ..}: the keys are texts written out -/
inductive KeysAre : List (Option Expr) → List Str → Prop
  | nil : KeysAre [] []
  | cons {x : Str} {j : Nat} {p : Pos} {ks xs} (h : KeysAre ks xs) : KeysAre (some (.Constant (.str x) j p) :: ks) (x :: xs)
def wVs (X : Cx) (Ψ : AX) : List Expr → AEnv → Sto → (List W → Sto → Prop) → Prop
  | [], _, S, Φ => Φ [] S
  | v :: vs, E, S, Φ => wE X Ψ v E S fun w S1 => wVs X Ψ vs E S1 fun ws S2 => Φ (w :: ws) S2
def trsOf (X : Cx) : List (Option Expr) → List Expr → List (TE × TE)
  | some k :: ks, v :: vs => (sem X k, sem X v) :: trsOf X ks vs
  | _, _ => []
theorem pps_of : ∀ {keys : List (Option Expr)} {xs : List Str}, KeysAre keys xs → ∀ {vs : List Expr}, keys.length = vs.length → PPs X pos keys vs (trsOf X keys vs)
  | _, _, .nil, [], _ => pps_nil
  | _, _, .cons h, v :: vs, hl => pps_cons pe_sem pe_sem (pps_of h (by simpa using hl))
theorem pairs_run : ∀ {keys : List (Option Expr)} {xs : List Str}, KeysAre keys xs → ∀ {vs : List Expr} {S : Sto} {Φ : List W → Sto → Prop}, keys.length = vs.length → wVs X Ψ vs E S Φ → ∀ {M : Lay} {σ : L2.St} {H : Hp}, Rep M H S → EvOk M H σ E → ExcOk X M H Ψ → ∀ {Q : List (V × V) → Hp → Prop},
    (∀ us ws M2 S2 H2, Φ ws S2 → Rep M2 H2 S2 → VWs M2 H2 us ws → us.length = xs.length → Step M H M2 H2 → Q ((xs.zip us).map fun p => (V.str p.1, p.2)) H2) → tPairs (trsOf X keys vs) σ H Q
  | _, _, .nil, [], S, Φ, _, h, M, σ, H, r, ev, xo, Q, q => q [] [] M S H h r .nil rfl (Step.refl _ _)
  | _, _, .cons (x := x) (j := j) (p := pp) hk, v :: vs, S, Φ, hl, h, M, σ, H, r, ev, xo, Q, q => by
    show sem X (.Constant (.str x) j pp) σ H _
    refine (wE_str (X := X) (Ψ := Ψ) (E := E) (S := S) (Φ := fun w S' => w = .str x ∧ S' = S) ⟨rfl, rfl⟩).run M σ H r ev xo _ fun u w M1 S1 H1 p r1 a1 s1 => ?_
    obtain ⟨e1, e2⟩ := p
    subst e1; subst e2
    cases a1
    refine (show wE X Ψ v E S1 _ from h).run M1 σ H1 r1 (ev.step s1) (xo.step s1) _ fun u w M2 S2 H2 p r2 a2 s2 => ?_
    refine pairs_run hk (by simpa using hl) p r2 ((ev.step s1).step s2) ((xo.step s1).step s2) fun us ws M3 S3 H3 p3 r3 a3 l3 s3 => ?_
    exact q (u :: us) (w :: ws) M3 S3 H3 p3 r3 (.cons (VW.step s3 _ _ a2) a3) (by simp [l3]) ((s1.trans s2).trans s3)
theorem zip_kv {xs : List Str} {us : List V} : (xs.zip us).map (fun p => (V.str p.1, p.2)) = ((xs.map (Sum.inr : Str → Key)).zip us).map fun kv => (kV kv.1, kv.2) := by
  induction xs generalizing us with
  | nil => rfl
  | cons x xs ih =>
    cases us with
    | nil => rfl
    | cons u us =>
      simp only [List.zip_cons_cons, List.map_cons]
      rw [ih]
      rfl
theorem pvw_zip {M : Lay} {H : Hp} {ks : List Key} : ∀ {us : List V} {ws : List W}, VWs M H us ws → PVW M H (ks.zip us) (ks.zip ws) := by
  induction ks with
  | nil => intro us ws _; exact .nil
  | cons k ks ih =>
    intro us ws h
    cases h with
    | nil => exact .nil
    | cons a b => exact .cons ⟨rfl, a⟩ (ih b)
theorem keys_all : ∀ {keys : List (Option Expr)} {xs : List Str}, KeysAre keys xs → keys.all (·.isSome) = true ∧ keys.length = xs.length
  | _, _, .nil => ⟨rfl, rfl⟩
  | _, _, .cons h => by
    obtain ⟨h1, h2⟩ := keys_all h
    exact ⟨by simp [h1], by simp [h2]⟩
theorem wE_disp {keys : List (Option Expr)} {values : List Expr} {xs : List Str} (hk : KeysAre keys xs) (hl : keys.length = values.length) (h0 : keys ≠ []) (h15 : keys.length ≤ 15)
    (h : wVs X nox values E S fun ws S1 => Φ (.ref S1.length) (S1 ++ [.dk (mergeW [] ((xs.map Sum.inr).zip ws))])) : wE X Ψ (.Dict keys values pos) E S Φ := by
  obtain ⟨ka, kl⟩ := keys_all hk
  refine wE.of (pe_disp (pps_of hk hl) ka hl h0 h15) fun M σ H r ev x Q q => fun p hp => ?_
  have pn : p ∉ M.h := fun z => (r.hid p z).1 hp
  have evh : EvOk (M.hid p) (upd H p (.dK [])) σ E := ⟨ev.1, fun i w h => by
    obtain ⟨v, h1, h2⟩ := ev.2 i w h
    exact ⟨v, h1, hid_vw r hp h2⟩⟩
  refine pairs_run hk hl h (r.hide hp) evh ExcOk.none fun us ws M2 S2 H2 pf r2 a2 l2 s2 => ?_
  have e : M2 = ⟨M2.m, p :: M.h⟩ := by
    have z := s2.hold
    cases M2
    simp only at z
    rw [z]
  have pm : p ∉ M.m := (r.hide (ho := .dK []) hp).hid p List.mem_cons_self |>.2
  have h2 : H2 p = some (.dK []) := s2.keep p _ upd_same (fun ps z => (nomatch z)) pm
  refine ⟨h2, (xs.map Sum.inr).zip us, zip_kv, ?_, ?_⟩
  · rw [List.length_zip, List.length_map]
    omega
  · rw [e] at r2 a2 s2
    have r2' : Rep ((⟨M2.m, M.h⟩ : Lay).hid p) H2 S2 := r2
    have sb := step_behind (step_free (ho := .dK []) (Step.refl M H) hp) hp s2
    have st := step_adopt (ho := .dK (mergeK [] ((xs.map Sum.inr).zip us))) r hp sb
    obtain ⟨fo, _⟩ := step_over r2' (ho := .dK (mergeK [] ((xs.map Sum.inr).zip us))) List.mem_cons_self h2 ⟨fun ps z => (nomatch z), fun f z => (nomatch z)⟩
    have pv : PVW ((⟨M2.m, M.h⟩ : Lay).add p) (upd H2 p (.dK (mergeK [] ((xs.map Sum.inr).zip us)))) (mergeK [] ((xs.map Sum.inr).zip us)) (mergeW [] ((xs.map Sum.inr).zip ws)) :=
      pvw_mv (Paired.mapP (merge_vw (pvw_zip a2) .nil) fun _ _ z => ⟨z.1, fo _ _ z.2⟩)
    have ra := Rep.adopt (M := ⟨M2.m, M.h⟩) pn r2' (ho := .dK (mergeK [] ((xs.map Sum.inr).zip us))) (o := .dk (mergeW [] ((xs.map Sum.inr).zip ws))) h2 ⟨fun ps z => (nomatch z), fun f z => (nomatch z)⟩ (.dk pv)
    refine q _ _ _ _ _ pf ra (.ref ?_) st
    show (M2.m ++ [p])[S2.length]? = some p
    rw [← show M2.m.length = S2.length from r2.len, List.getElem?_append_right (Nat.le_refl _)]
    simp
end

-- AM17
section
variable {X : Cx} {Ψ : AX} {a : Expr} {E : AEnv} {S : Sto} {Φ : W → Sto → Prop} {pos : Pos}
end

-- AM18
section
variable {X : Cx} {Ψ : AX} {a o e : Expr} {E : AEnv} {S : Sto} {Φ : W → Sto → Prop} {pos : Pos}
theorem vws_ints {M : Lay} {H : Hp} : ∀ {xs : List V} (l : List Int), VWs M H xs (l.map W.int) → xs = l.map V.int
  | _, [], .nil => rfl
  | _, i :: l, .cons (.int _) b => by rw [vws_ints l b]; rfl
theorem vws_get {M : Lay} {H : Hp} : ∀ {xs : List V} {ws : List W} {k : Nat} {y : W}, VWs M H xs ws → ws[k]? = some y → ∃ v, xs[k]? = some v ∧ VW M H v y
  | _, _, 0, _, .cons a b, e => by cases e; exact ⟨_, rfl, a⟩
  | _, _, k + 1, _, .cons a b, e => vws_get b (k := k) (by simpa using e)
theorem VW.step' {M M2 : Lay} {H H2 : Hp} {v : V} {w : W} (s : Step M H M2 H2) (a : VW M H v w) : VW M2 H2 v w := VW.step s _ _ a
end

-- AM19
/-! ### a tuple told once, or not at all -/
theorem tuple_mul1 (l : Addr) (items : Array Value) (n : Nat) (dd : Option Addr) (sl : Array (Option Value)) (u : Tok) :
    Meets (Builtin.«tuple.__mul__» ⟨[.ref l, .int 1 u], []⟩) (fun _ R s => s.heap.get? l = some { cls := .type "tuple", dict := dd, data := .seq items n, slots := sl } ∧ R (.ok (.ret (Value.ref l))) s) :=
  .of_wp fun prog w A R s h => by
    obtain ⟨hp, g, d, tk, os⟩ := s
    obtain ⟨hl, h⟩ := h
    have f1 := AutoSeq1.idx_int
    wp_walk using wpAny_loadPart' hl
    exact ⟨_, rfl, h⟩
theorem tuple_mul0 (l : Addr) (items : Array Value) (n : Nat) (dd : Option Addr) (sl : Array (Option Value)) (u : Tok) :
    Meets (Builtin.«tuple.__mul__» ⟨[.ref l, .int 0 u], []⟩) (fun _ R s => s.heap.get? l = some { cls := .type "tuple", dict := dd, data := .seq items n, slots := sl } ∧ items.isEmpty = false ∧
      R (.ok (.ret (Value.ref s.heap.objs.size))) { s with heap := s.heap.push { cls := Value.type "tuple", data := Data.seq #[] }, toks := s.toks }) :=
  .of_wp fun prog w A R s h => by
    obtain ⟨hp, g, d, tk, os⟩ := s
    obtain ⟨hl, hi, h⟩ := h
    have f1 := AutoSeq1.idx_int
    wp_walk using wpAny_loadPart' hl
    exact ⟨_, rfl, h⟩
def rRep01 (K : PySem.W.Frag) : R2 := fun x y H Q => ∃ l k xs, x = .ref l ∧ y = .int k ∧ SqT K H l xs ∧ xs ≠ [] ∧ (k = 0 ∨ k = 1) ∧ (k = 1 → Q (.ref l) H) ∧ (k = 0 → ∀ p, H p = none → Q (.ref p) (upd H p (.tup [])))
theorem op_rep01 {X : Cx} : OpR X (binaryOp .Mult) (rRep01 X.K) := by
  intro pins s σ H x y v u Q I rx ry h
  obtain ⟨l, k, xs, rfl, rfl, hT, hne, hk, q1, q0⟩ := h
  cases rx
  obtain ⟨t, rfl⟩ := ry
  obtain ⟨its, r, ⟨⟨cls, dd, data, sl⟩, ho, hc, n, hd⟩, hs⟩ := I.tuple hT
  simp only at hc hd
  subst hc hd
  have hle : its.length = xs.length := r.length.symm
  have hn : its ≠ [] := fun e => hne (by
    rw [e] at hle
    exact List.eq_nil_of_length_eq_zero hle.symm)
  have hi : its.toArray.isEmpty = false := by
    cases its with
    | nil => exact absurd rfl hn
    | cons a b => rfl
  rcases hk with rfl | rfl
  · refine wpAny_binaryOp_repeat_ref (T := "tuple") (U := "int") (by decide) ⟨_, ho, rfl⟩ (fun s' => typeIs_int s' 0 t) noFill_tuple_mul F.fills_int_mul F.slot_int_rmul repeat_tuple F.slot_int_index.lookup
      (call_meets F.slot_int_rmul (typeIs_int s 0 t) F.entry_int_rmul (F.args_int_rmul_2 _ _) (int_rmul_tuple 0 t l its.toArray n dd sl)
        ⟨ho, rfl, ⟨_, ho, rfl⟩, call_meets F.slot_tuple_mul ⟨_, ho, rfl⟩ F.entry_tuple_mul (F.args_tuple_mul_2 _ _) (tuple_mul0 l its.toArray n dd sl t) ⟨ho, hi, ?_⟩⟩)
    refine ⟨.ref s.heap.objs.size, _, I.laid (t' := s.toks) (o := .tup []) (fun b ob q => Heap.get?_push_of_some _ q) (Nat.le_refl _) ?_, rfl, q0 rfl _ (I.hok.fresh (Nat.le_refl _))⟩
    exact ⟨Nat.zero_le _, [], .nil, IsTup.new _ _⟩
  · refine wpAny_binaryOp_repeat_ref (T := "tuple") (U := "int") (by decide) ⟨_, ho, rfl⟩ (fun s' => typeIs_int s' 1 t) noFill_tuple_mul F.fills_int_mul F.slot_int_rmul repeat_tuple F.slot_int_index.lookup
      (call_meets F.slot_int_rmul (typeIs_int s 1 t) F.entry_int_rmul (F.args_int_rmul_2 _ _) (int_rmul_tuple 1 t l its.toArray n dd sl)
        ⟨ho, rfl, ⟨_, ho, rfl⟩, call_meets F.slot_tuple_mul ⟨_, ho, rfl⟩ F.entry_tuple_mul (F.args_tuple_mul_2 _ _) (tuple_mul1 l its.toArray n dd sl t) ⟨ho, ?_⟩⟩)
    exact ⟨.ref l, H, I, rfl, q1 rfl⟩
section
variable {X : Cx} {Ψ : AX} {a b o e : Expr} {E : AEnv} {S : Sto} {Φ : W → Sto → Prop} {ΦT : Bool → Sto → Prop} {pos : Pos}
/-- (x, ..) * 0, * 1 -/
def sRep01 (x y : W) (S : Sto) (Φ : W → Sto → Prop) : Prop := ∃ ws k, x = .tup ws ∧ ws ≠ [] ∧ y = .int k ∧ (k = 0 ∨ k = 1) ∧ (k = 1 → Φ (.tup ws) S) ∧ (k = 0 → Φ (.tup []) S)
theorem sRep01_i {ws : List W} {k : Bool} (hn : ws ≠ []) (h : Φ (.tup (if k = true then ws else [])) S) : sRep01 (.tup ws) (.int (if k = true then 1 else 0)) S Φ := by
  cases k with
  | true => exact ⟨ws, 1, rfl, hn, rfl, .inr rfl, fun _ => h, fun z => absurd z (by decide)⟩
  | false => exact ⟨ws, 0, rfl, hn, rfl, .inl rfl, fun z => absurd z (by decide), fun _ => h⟩
theorem xE_rep01 (h : wE X Ψ a E S fun x S1 => wE X Ψ b E S1 fun y S2 => sRep01 x y S2 Φ) : wE X Ψ (.BinOp a .Mult b pos) E S Φ :=
  wE_op (g := sRep01) op_rep01 (fun M H S v u x y Φ r a1 a2 ⟨ws, k, e1, hn, e2, hk, p1, p0⟩ Q q => by
    subst e1; subst e2
    cases a2
    cases a1 with
    | tup k1 k2 =>
      refine ⟨_, k, _, rfl, rfl, k1.sq, ?_, hk, fun e => q _ _ M S H (p1 e) r (.tup k1 k2) (Step.refl _ _), fun e p hp => q _ _ M S _ (p0 e) (r.tmp hp) (tq_new r hp .nil) (step_tmp r hp)⟩
      intro e
      subst e
      cases k2
      exact hn rfl) h
/-- a tuple and a tuple -/
def sCatT (x y : W) (S : Sto) (Φ : W → Sto → Prop) : Prop := ∃ xs ys, x = .tup xs ∧ y = .tup ys ∧ xs.length + ys.length ≤ 100000 ∧ Φ (.tup (xs ++ ys)) S
theorem sCatT_i {xs ys : List W} (hl : xs.length + ys.length ≤ 100000) (h : Φ (.tup (xs ++ ys)) S) : sCatT (.tup xs) (.tup ys) S Φ := ⟨xs, ys, rfl, rfl, hl, h⟩
theorem xE_catT (h : wE X Ψ a E S fun x S1 => wE X Ψ b E S1 fun y S2 => sCatT x y S2 Φ) : wE X Ψ (.BinOp a .Add b pos) E S Φ :=
  wE_op (g := sCatT) op_catA (fun M H S v u x y Φ r a1 a2 ⟨xs, ys, e1, e2, hl, p⟩ Q q => by
    subst e1; subst e2
    cases a1 with
    | tup k1 k2 =>
      cases a2 with
      | tup k3 k4 =>
        refine ⟨_, _, _, _, rfl, rfl, k1.sq, k3.sq, Nat.le_trans (by rw [k2.length, k4.length]; exact hl) (by decide), fun e => ?_, fun e1 e => ?_, fun e1 e2 p' hp => q _ _ M S _ p (r.tmp hp) (tq_new r hp (k2.append k4)) (step_tmp r hp)⟩
        · subst e
          cases k2
          exact q _ _ M S H p r (.tup k3 k4) (Step.refl _ _)
        · subst e
          cases k4
          rw [List.append_nil] at p
          exact q _ _ M S H p r (.tup k1 k2) (Step.refl _ _)) h
/-! ### texts -/
theorem vws_strs {M : Lay} {H : Hp} : ∀ {xs : List V} (l : List Str), VWs M H xs (l.map W.str) → xs = l.map V.str
  | _, [], .nil => rfl
  | _, i :: l, .cons (.str _) b => by rw [vws_strs l b]; rfl
theorem strs_vw {M : Lay} {H : Hp} : ∀ l : List Str, VWs M H (l.map V.str) (l.map W.str)
  | [] => .nil
  | i :: l => .cons (.str i) (strs_vw l)
def sJoin (x y : W) (S : Sto) (Φ : W → Sto → Prop) : Prop := ∃ (a : Str) (ys : List Str), x = .str a ∧ y = .lst (ys.map W.str) ∧ (ys.map (·.length)).sum + ys.length * a.length ≤ 16777216 ∧ Φ (.str (Txt.join a ys)) S
theorem sJoin_i {x : Str} {ys : List Str} (hl : (ys.map (·.length)).sum + ys.length * x.length ≤ 16777216) (h : Φ (.str (Txt.join x ys)) S) : sJoin (.str x) (.lst (ys.map W.str)) S Φ := ⟨x, ys, rfl, rfl, hl, h⟩
def sStr (x : W) (go : Prop) : Prop := (∃ a, x = .str a) ∧ go
theorem sStr_i {x : Str} {go : Prop} (h : go) : sStr (.str x) go := ⟨⟨x, rfl⟩, h⟩
theorem xE_join {apos cpos : Pos} (h : wE X Ψ o E S fun x S1 => sStr x (wE X Ψ e E S1 fun w S2 => sJoin x w S2 Φ))
    (hbase : attributeBase o "join" X.env (eval o X.env) = eval o X.env := by rfl)
    (hfew : ((backTo cpos (starEach [e] X.env)).all (fun x => !x.1) && (backToKw cpos (keywordEach [] X.env)).all (fun x => x.1.isSome)
      && decide (([e] : List Expr).length + ([] : List Keyword).length + (if ([] : List Keyword).isEmpty then 0 else 1) < 30)) = true := by rfl)
    (hline : (apos.endLine == cpos.line) = true := by rfl) (hs : starEach [e] X.env = (false, eval e X.env) :: starEach [] X.env := by rfl) (hplain : (backTo cpos (starEach [] X.env)).any (·.1) = false := by rfl) : wE X Ψ (.Call (.Attribute o "join" apos) [e] [] cpos) E S Φ :=
  wE_bm (g := fun x us S Φ => ∃ w, us = [w] ∧ sJoin x w S Φ) PySem.F.plainAttrs_str PySem.F.slot_str_join PySem.F.type_str_join mt_join
    (fun M H S v w vs ws Φ r a av ⟨u, e1, x, ys, e2, e3, hl, p⟩ Q q => by
      subst e1; subst e2; subst e3
      cases a
      cases av with
      | cons b1 b2 =>
        cases b2
        cases b1 with
        | lst k1 k2 =>
          have ex := vws_strs ys k2
          subst ex
          exact ⟨x, _, ys, rfl, rfl, .inl k1.sq, hl, q _ _ M S H p r (.str _) (Step.refl _ _)⟩)
    (h.imp fun x S1 ⟨⟨z, e1⟩, h⟩ => ⟨by subst e1; rfl, wA_cons (h.imp fun w S2 p => wA_nil ⟨w, rfl, p⟩) hs⟩) hbase hfew hline hs hplain
def sSplit (x y : W) (S : Sto) (Φ : W → Sto → Prop) : Prop := ∃ a b : Str, x = .str a ∧ y = .str b ∧ (b.length == 0) = false ∧ a.length + 2 ≤ sizeLine ∧ Φ (.lst ((Txt.split a b).map W.str)) S
theorem sSplit_i {x y : Str} (h1 : (y.length == 0) = false) (h2 : x.length + 2 ≤ sizeLine) (h : Φ (.lst ((Txt.split x y).map W.str)) S) : sSplit (.str x) (.str y) S Φ := ⟨x, y, rfl, rfl, h1, h2, h⟩
theorem xE_split {apos cpos : Pos} (h : wE X Ψ o E S fun x S1 => sStr x (wE X Ψ e E S1 fun w S2 => sSplit x w S2 Φ))
    (hbase : attributeBase o "split" X.env (eval o X.env) = eval o X.env := by rfl)
    (hfew : ((backTo cpos (starEach [e] X.env)).all (fun x => !x.1) && (backToKw cpos (keywordEach [] X.env)).all (fun x => x.1.isSome)
      && decide (([e] : List Expr).length + ([] : List Keyword).length + (if ([] : List Keyword).isEmpty then 0 else 1) < 30)) = true := by rfl)
    (hline : (apos.endLine == cpos.line) = true := by rfl) (hs : starEach [e] X.env = (false, eval e X.env) :: starEach [] X.env := by rfl) (hplain : (backTo cpos (starEach [] X.env)).any (·.1) = false := by rfl) : wE X Ψ (.Call (.Attribute o "split" apos) [e] [] cpos) E S Φ :=
  wE_bm (g := fun x us S Φ => ∃ w, us = [w] ∧ sSplit x w S Φ) PySem.F.plainAttrs_str PySem.F.slot_str_split PySem.F.type_str_split mt_split
    (fun M H S v w vs ws Φ r a av ⟨u, e1, x, y, e2, e3, h1, h2, p⟩ Q q => by
      subst e1; subst e2; subst e3
      cases a
      cases av with
      | cons b1 b2 =>
        cases b2
        cases b1
        exact ⟨x, y, rfl, rfl, h1, h2, fun l hl => q _ _ M S _ p (r.tmp hl) (lq_new r hl (strs_vw _)) (step_tmp r hl)⟩)
    (h.imp fun x S1 ⟨⟨z, e1⟩, h⟩ => ⟨by subst e1; rfl, wA_cons (h.imp fun w S2 p => wA_nil ⟨w, rfl, p⟩) hs⟩) hbase hfew hline hs hplain
/-! ### str, int -/
theorem callr_or {f : Value} {r1 r2 : List V → Hp → VK → Prop} (h1 : CallR X f r1) (h2 : CallR X f r2) : CallR X f (fun xs H Q => r1 xs H Q ∨ r2 xs H Q) := fun pins s σ H xs us Q I r h => h.elim (h1 pins s σ H xs us Q I r) (h2 pins s σ H xs us Q I r)
def sStrOf (x : W) (S : Sto) (Φ : W → Sto → Prop) : Prop := (∃ i : Int, x = .int i ∧ i.natAbs.log2 < 1920 ∧ Φ (.str (toString i)) S) ∨ ∃ a : Str, x = .str a ∧ Φ (.str a) S
theorem sStrOf_I {i : Int} (h1 : i.natAbs.log2 < 1920) (h : Φ (.str (toString i)) S) : sStrOf (.int i) S Φ := .inl ⟨i, rfl, h1, h⟩
theorem sStrOf_S {x : Str} (h : Φ (.str x) S) : sStrOf (.str x) S Φ := .inr ⟨x, rfl, h⟩
theorem xE_str {p : Pos} (hm : X.mg "str" = none) (h : wE X Ψ e E S fun w S1 => sStrOf w S1 Φ) (hg : Gl X "str" := by rfl) (he : starEach [e] X.env = (false, eval e X.env) :: starEach [] X.env := by rfl) (hpl : (backTo pos (starEach [] X.env)).any (·.1) = false := by rfl) : wE X Ψ (.Call (.Name "str" p) [e] [] pos) E S Φ :=
  wE_callTy (g := fun us S Φ => ∃ w, us = [w] ∧ sStrOf w S Φ) (callr_or call_str_int SkE.call_str_str) (callw_one (fun M H S v w Φ r a ⟨w', e, p⟩ Q q => by
    cases e
    rcases p with ⟨i, e1, h1, p⟩ | ⟨x, e1, p⟩
    · subst e1
      cases a
      exact .inl ⟨i, rfl, h1, q _ _ M S H p r (.str _) (Step.refl _ _)⟩
    · subst e1
      cases a
      exact .inr ⟨x, rfl, q _ _ M S H p r (.str _) (Step.refl _ _)⟩) fun ws S Φ ⟨w, e, _⟩ => ⟨_, e⟩) hm PyProof.Rows.boot_str (wA_cons (h.imp fun w S1 p => wA_nil ⟨w, rfl, p⟩) he) hg (by decide) (by decide) he hpl
def sIntOf (x : W) (S : Sto) (Φ : W → Sto → Prop) : Prop := ∃ (a : Str) (n : Int), x = .str a ∧ PySem.intText? a = some n ∧ a.length ≤ 640 ∧ Φ (.int n) S
theorem sIntOf_i {x : Str} {n : Int} (h1 : PySem.intText? x = some n) (h2 : x.length ≤ 640) (h : Φ (.int n) S) : sIntOf (.str x) S Φ := ⟨x, n, rfl, h1, h2, h⟩
theorem xE_intS {p : Pos} (hm : X.mg "int" = none) (h : wE X Ψ e E S fun w S1 => sIntOf w S1 Φ) (hg : Gl X "int" := by rfl) (he : starEach [e] X.env = (false, eval e X.env) :: starEach [] X.env := by rfl) (hpl : (backTo pos (starEach [] X.env)).any (·.1) = false := by rfl) : wE X Ψ (.Call (.Name "int" p) [e] [] pos) E S Φ :=
  wE_callTy (g := fun us S Φ => ∃ w, us = [w] ∧ sIntOf w S Φ) call_int_str (callw_one (fun M H S v w Φ r a ⟨w', e, x, n, e1, h1, h2, p⟩ Q q => by
    cases e
    subst e1
    cases a
    exact ⟨x, n, rfl, h1, h2, q _ _ M S H p r (.int _) (Step.refl _ _)⟩) fun ws S Φ ⟨w, e, _⟩ => ⟨_, e⟩) hm PyProof.Rows.boot_int (wA_cons (h.imp fun w S1 p => wA_nil ⟨w, rfl, p⟩) he) hg (by decide) (by decide) he hpl
/-! ### a dict of the module with text keys, its values ints -/
structure KTab (K : PySem.W.Frag) (w : World) (mg : Str → Option Value) (x : Str) (kvs : List (Str × Int)) : Prop where
  ex : ∃ d es n, mg x = some (.ref d) ∧ KDict K w d es n ∧ ∀ kv ∈ kvs, ∃ t, PySem.W.nsIn K d kv.1 = some (some (.int kv.2 t))
def sTabIx (kvs : List (Str × Int)) (x : W) (S : Sto) (Φ : W → Sto → Prop) : Prop := ∃ z i, x = .str z ∧ (z, i) ∈ kvs ∧ Φ (.int i) S
theorem sTabIx_i {kvs : List (Str × Int)} {z : Str} {i : Int} (h1 : (z, i) ∈ kvs) (h : Φ (.int i) S) : sTabIx kvs (.str z) S Φ := ⟨z, i, rfl, h1, h⟩
theorem xE_tabIx {x : Str} {kvs : List (Str × Int)} {p2 : Pos} (m : KTab X.K X.w X.mg x kvs) (h : wE X Ψ b E S fun w S1 => sTabIx kvs w S1 Φ) (hg : Gl X x := by rfl) (hd : (x == ("__debug__" : Str)) = false := by decide +kernel)
    (hs : PlainIx b := by exact fun _ _ => rfl) : wE X Ψ (.Subscript (.Name x p2) b pos) E S Φ := by
  obtain ⟨d, es, n, m, D, hk⟩ := m.ex
  refine wE.of (pe_ix ix_kdict pe_sem pe_sem hs) fun M σ H r ev xo Q q => two (r := rIxD X.K X.w) (g := fun x y S Φ => ∃ z i, x = .raw (.ref d) ∧ y = .str z ∧ (z, i) ∈ kvs ∧ Φ (.int i) S) (fun M H S v u x y Φ r a1 a2 ⟨z, i, e1, e2, hz, p⟩ Q q => ?_) (wE_glob (v := .ref d) m rfl rfl (h.imp fun w S1 ⟨z, i, e1, hz, p⟩ => ⟨z, i, rfl, e1, hz, p⟩) hg hd) r ev xo q
  subst e1; subst e2
  cases a1
  cases a2
  obtain ⟨t, ht⟩ := hk _ hz
  exact ⟨d, z, .int i, rfl, rfl, ⟨es, n, _, D.at_, D.lit, ht, ⟨t, rfl⟩⟩, q _ _ M S H p r (.int _) (Step.refl _ _)⟩
end

-- AM20
section
variable {X : Cx} {Ψ : AX} {a b o e : Expr} {E : AEnv} {S : Sto} {Φ : W → Sto → Prop} {ΦT : Bool → Sto → Prop} {pos : Pos}
/-! ### sorted of told data -/
/-! ### zip(xs, ys) of two lists that nobody changes -/
def zipW (ws us : List W) : List W := (ws.zip us).map fun p => .tup [p.1, p.2]
theorem zip_len {ws us : List W} : (zipW ws us).length = min ws.length us.length := by
  unfold zipW
  rw [List.length_map, List.length_zip]
theorem itw_zip {K : PySem.W.Frag} {a b : Addr} {ws us : List W} : ItW (Itz K a b) [.ref a, .ref b] [.lst ws, .lst us] (zipW ws us) (fun _ => True) := by
  refine ⟨fun M' H' S' i av r' hs hl => ?_, fun M' H' S' i x H2 av r' hs hy hl => ?_, fun M' H' S' i av r' hs hl => ?_⟩
  · cases av with
    | cons a1 a2 => cases a2 with
      | cons a2 a3 =>
        cases a3
        cases a1 with
        | lst k1 v1 => cases a2 with
          | lst k2 v2 =>
            rw [zip_len] at hl
            have l1 := v1.length
            have l2 := v2.length
            exact ⟨_, _, _, _, k1.sq, k2.sq, List.getElem?_eq_getElem (by omega), List.getElem?_eq_getElem (by omega)⟩
  · cases av with
    | cons a1 a2 => cases a2 with
      | cons a2 a3 =>
        cases a3
        cases a1 with
        | lst k1 v1 => cases a2 with
          | lst k2 v2 =>
            rw [zip_len] at hl
            obtain ⟨T, x0, y0, e1, hT, e2, f1, f2⟩ := hy
            subst e1; subst e2
            have g1 := f1 _ k1.sq
            have g2 := f2 _ k2.sq
            have hw1 : ws[i]? = some ws[i] := List.getElem?_eq_getElem (by omega)
            have hw2 : us[i]? = some us[i] := List.getElem?_eq_getElem (by omega)
            obtain ⟨z1, h1, q1⟩ := vws_get v1 hw1
            obtain ⟨z2, h2, q2⟩ := vws_get v2 hw2
            rw [g1] at h1
            rw [g2] at h2
            cases h1
            cases h2
            refine ⟨.tup [ws[i], us[i]], ?_, tq_new r' hT (.cons q1 (.cons q2 .nil)), r'.tmp hT, step_tmp r' hT⟩
            unfold zipW
            rw [List.getElem?_map, List.getElem?_zip_eq_some (z := (ws[i], us[i])).mpr ⟨hw1, hw2⟩]
            rfl
  · cases av with
    | cons a1 a2 => cases a2 with
      | cons a2 a3 =>
        cases a3
        cases a1 with
        | lst k1 v1 => cases a2 with
          | lst k2 v2 =>
            rw [zip_len] at hl
            have l1 := v1.length
            have l2 := v2.length
            exact ⟨_, _, k1.sq, k2.sq, by omega⟩
def sZip (x y : W) (S : Sto) (ΦI : List W → (Sto → Prop) → Sto → Prop) : Prop := ∃ ws us, x = .lst ws ∧ y = .lst us ∧ ΦI (zipW ws us) (fun _ => True) S
theorem sZip_i {ws us : List W} {ΦI : List W → (Sto → Prop) → Sto → Prop} (h : ΦI (zipW ws us) (fun _ => True) S) : sZip (.lst ws) (.lst us) S ΦI := ⟨ws, us, rfl, rfl, h⟩
theorem xI_zip {p tpos : Pos} {elts : List Expr} {kk : Nat} {e2 : Expr} {ΦI : List W → (Sto → Prop) → Sto → Prop} (hm : X.mg "zip" = none) (h : wE X Ψ e E S fun x S1 => wE X Ψ e2 E S1 fun y S2 => sZip x y S2 ΦI) (hg : Gl X "zip" := by rfl)
    (hs : starEach [e, e2] X.env = (false, eval e X.env) :: starEach [e2] X.env := by rfl) (hs2 : starEach [e2] X.env = (false, eval e2 X.env) :: starEach [] X.env := by rfl) (hpl : (backTo pos (starEach [e2] X.env)).any (·.1) = false := by rfl) :
    wI X Ψ (.Tuple elts kk tpos) (.Call (.Name "zip" p) [e, e2] [] pos) E S ΦI :=
  wI.of (pi_zip hg hm (pa_cons pe_sem (pa_cons pe_sem pa_nil hs2) hs) hs hpl) fun M σ H r ev x R q => h.run M σ H r ev x _ fun v w1 M1 S1 H1 p1 r1 a1 s1 => p1.run M1 σ H1 r1 (ev.step s1) (x.step s1) _ fun u w2 M2 S2 H2 ⟨ws, us, e1, e2, p⟩ r2 a2 s2 => by
    subst e1; subst e2
    have b1 := VW.step' s2 a1
    cases b1 with
    | lst k1 v1 => cases a2 with
      | lst k2 v2 => exact ⟨_, _, _, _, rfl, k1.sq, k2.sq, q _ _ _ _ _ M2 S2 H2 p True.intro r2 (s1.trans s2) (.cons (.lst k1 v1) (.cons (.lst k2 v2) .nil)) itw_zip⟩
/-! ### xs.extend(ys), xs.remove(k) -/
end

-- AM21
section
variable {X : Cx} {Ψ : AX} {a b : Expr} {E : AEnv} {S : Sto} {Φ : W → Sto → Prop} {pos : Pos}
end

-- AM22
section
variable {X : Cx} {Ψ : AX} {a b o e : Expr} {E : AEnv} {S : Sto} {Φ : W → Sto → Prop} {ΦT : Bool → Sto → Prop} {pos : Pos}
/-! ### x is False, x is True -/
def isBoW (k : Bool) : W → Option Bool
  | .non => some false
  | .bl c => some (decide (c = k))
  | _ => none
abbrev gIsB : G2 := fun x y S Φ => ∃ k, y = .bl k ∧ ∃ c, isBoW k x = some c ∧ Φ (.bl c) S
/-! ### a list of three, walked on or back -/
/-! ### the truth of a thing that may be None -/
end

-- WI
theorem fin.eq {n : Nat} {Φ : W → Sto → Prop} {w w' : W} {S : Sto} (h : Φ w' S) (e : w = w') : fin n Φ w S := by rw [e]; exact fin.as h
/-! ### == between values -/
theorem eqW_int {i j : Int} : eqW (.int i) (.int j) = decide (i = j) := by
  show (i == j) = decide (i = j)
  by_cases h : i = j <;> simp [h]
theorem eqW_str {i j : Str} : eqW (.str i) (.str j) = decide (i = j) := by
  show (i == j) = decide (i = j)
  by_cases h : i = j <;> simp [h]
theorem eqW_bl {i j : Bool} : eqW (.bl i) (.bl j) = decide (i = j) := by
  show (i == j) = decide (i = j)
  by_cases h : i = j <;> simp [h]
theorem eqW_non : eqW .non .non = true := by simp [eqW, W.d, PyData.eqv]
theorem eqW_tt {x y : W} {xs ys : List W} : eqW (.tup (x :: xs)) (.tup (y :: ys)) = (eqW x y && eqW (.tup xs) (.tup ys)) := by
  simp only [eqW, W.d, W.ds, PyData.eqv, PyData.eqvAll]
theorem eqW_t0 : eqW (.tup []) (.tup []) = true := by simp [eqW, W.d, W.ds, PyData.eqv, PyData.eqvAll]
theorem eqW_t1 {x : W} {xs : List W} : eqW (.tup (x :: xs)) (.tup []) = false := by simp [eqW, W.d, W.ds, PyData.eqv, PyData.eqvAll]
theorem eqW_t2 {x : W} {xs : List W} : eqW (.tup []) (.tup (x :: xs)) = false := by simp [eqW, W.d, W.ds, PyData.eqv, PyData.eqvAll]
theorem eqW_ll {x y : W} {xs ys : List W} : eqW (.lst (x :: xs)) (.lst (y :: ys)) = (eqW x y && eqW (.lst xs) (.lst ys)) := by
  simp only [eqW, W.d, W.ds, PyData.eqv, PyData.eqvAll]
theorem eqW_l0 : eqW (.lst []) (.lst []) = true := by simp [eqW, W.d, W.ds, PyData.eqv, PyData.eqvAll]
theorem eqW_l1 {x : W} {xs : List W} : eqW (.lst (x :: xs)) (.lst []) = false := by simp [eqW, W.d, W.ds, PyData.eqv, PyData.eqvAll]
theorem eqW_l2 {x : W} {xs : List W} : eqW (.lst []) (.lst (x :: xs)) = false := by simp [eqW, W.d, W.ds, PyData.eqv, PyData.eqvAll]
theorem eqW_ni {i : Int} : eqW .non (.int i) = false := by simp [eqW, W.d, PyData.eqv]
theorem eqW_in {i : Int} : eqW (.int i) .non = false := by simp [eqW, W.d, PyData.eqv]
theorem eqW_it {i : Int} {xs : List W} : eqW (.int i) (.tup xs) = false := by simp [eqW, W.d, PyData.eqv]
theorem eqW_ti {i : Int} {xs : List W} : eqW (.tup xs) (.int i) = false := by simp [eqW, W.d, PyData.eqv]
theorem eqW_is {i : Int} {z : Str} : eqW (.int i) (.str z) = false := by simp [eqW, W.d, PyData.eqv]
theorem eqW_si {i : Int} {z : Str} : eqW (.str z) (.int i) = false := by simp [eqW, W.d, PyData.eqv]
theorem eqW_tn {xs : List W} : eqW (.tup xs) .non = false := by simp [eqW, W.d, PyData.eqv]
theorem eqW_nt {xs : List W} : eqW .non (.tup xs) = false := by simp [eqW, W.d, PyData.eqv]
theorem eqW_nil {xs : List W} : eqW (.lst xs) (.lst []) = xs.isEmpty := by
  cases xs with
  | nil => rw [eqW_l0]; rfl
  | cons x xs => rw [eqW_l1]; rfl
theorem eqW_nilT {xs : List W} : eqW (.tup xs) (.tup []) = xs.isEmpty := by
  cases xs with
  | nil => rw [eqW_t0]; rfl
  | cons x xs => rw [eqW_t1]; rfl
/-- a list of values that == tells apart: told by one function, kept apart by it -/
theorem eqW_map {α : Type} [DecidableEq α] {f : α → W} (h : ∀ a b, eqW (f a) (f b) = decide (a = b)) : ∀ xs ys : List α, eqW (.lst (xs.map f)) (.lst (ys.map f)) = decide (xs = ys)
  | [], [] => by rw [List.map_nil, eqW_l0]; rfl
  | [], y :: ys => by rw [List.map_nil, List.map_cons, eqW_l2]; simp
  | x :: xs, [] => by rw [List.map_nil, List.map_cons, eqW_l1]; simp
  | x :: xs, y :: ys => by
    rw [List.map_cons, List.map_cons, eqW_ll, h, eqW_map h xs ys]
    by_cases e : x = y <;> by_cases e2 : xs = ys <;> simp [e, e2]
theorem eqW_mapT {α : Type} [DecidableEq α] {f : α → W} (h : ∀ a b, eqW (f a) (f b) = decide (a = b)) : ∀ xs ys : List α, eqW (.tup (xs.map f)) (.tup (ys.map f)) = decide (xs = ys)
  | [], [] => by rw [List.map_nil, eqW_t0]; rfl
  | [], y :: ys => by rw [List.map_nil, List.map_cons, eqW_t2]; simp
  | x :: xs, [] => by rw [List.map_nil, List.map_cons, eqW_t1]; simp
  | x :: xs, y :: ys => by
    rw [List.map_cons, List.map_cons, eqW_tt, h, eqW_mapT h xs ys]
    by_cases e : x = y <;> by_cases e2 : xs = ys <;> simp [e, e2]
theorem inW_map {α : Type} [DecidableEq α] {f : α → W} (h : ∀ a b, eqW (f a) (f b) = decide (a = b)) (x : α) (xs : List α) : inW (f x) (xs.map f) = decide (x ∈ xs) := by
  induction xs with
  | nil => rfl
  | cons y ys ih =>
    show (eqW (f y) (f x) || inW (f x) (ys.map f)) = _
    rw [ih, h]
    by_cases e : y = x
    · subst e; simp
    · have e' : ¬ x = y := fun z => e z.symm
      by_cases e2 : x ∈ ys <;> simp [e, e', e2]
theorem oks_map {α : Type} {f : α → W} {n : Nat} (h : ∀ a, (f a).ok n = true) (xs : List α) : W.oks (xs.map f) n = true := by
  rw [W.oks_all]
  simp [h]
theorem atI_map {α : Type} [Inhabited α] {f : α → W} {xs : List α} {i : Int} (h0 : 0 ≤ i) (h1 : i < xs.length) : atI (xs.map f) i = some (f (xs.getD i.toNat default)) := by
  unfold atI ixN
  rw [List.length_map, if_pos h0, if_pos h1]
  show (xs.map f)[i.toNat]? = _
  have hl : i.toNat < xs.length := by omega
  rw [List.getElem?_map, List.getElem?_eq_getElem hl, List.getD_eq_getElem?_getD, List.getElem?_eq_getElem hl]
  rfl
/-! ### wishes -/
inductive Wish
  | all (p g : Int) | busy (p g : Int) | late (p g t : Int) | wait (p : Int) | still (p : Int) | bar (p o : Int) | group (g : Int) (ms : List Int)
  deriving DecidableEq
def intsW (l : List Int) : List W := l.map W.int
def Wish.w : Wish → W
  | .all p g => .tup [.str "all", .int p, .int g]
  | .busy p g => .tup [.str "busy", .int p, .int g]
  | .late p g t => .tup [.str "late", .int p, .int g, .int t]
  | .wait p => .tup [.str "wait", .int p]
  | .still p => .tup [.str "still", .int p]
  | .bar p o => .tup [.str "bar", .int p, .int o]
  | .group g ms => .tup [.str "group", .int g, .tup (intsW ms)]
def Wish.key : Wish → List Key
  | .all p g => [.inr "all", .inl p]
  | .busy p g => [.inr "busy", .inl p]
  | .late p g t => [.inr "late", .inl p]
  | .wait p => [.inr "wait", .inl p]
  | .still p => [.inr "still", .inl p]
  | .bar p o => [.inr "bar", .inl p, .inl o]
  | .group g ms => [.inr "group", .inl g]
def keyW1 : Key → W
  | .inl i => .int i
  | .inr x => .str x
theorem keysW_map : ∀ ks : List Key, keysW (ks.map keyW1) = some ks
  | [] => rfl
  | .inl i :: ks => by rw [List.map_cons]; show (match keyW (.int i), keysW (ks.map keyW1) with | some k, some ks => some (k :: ks) | _, _ => none) = _; rw [keysW_map ks]; rfl
  | .inr x :: ks => by rw [List.map_cons]; show (match keyW (.str x), keysW (ks.map keyW1) with | some k, some ks => some (k :: ks) | _, _ => none) = _; rw [keysW_map ks]; rfl
/-- phones, rising, none twice -/
def msOk (ms : List Int) : Prop := ms ≠ [] ∧ ms.length ≤ 6 ∧ (∀ m ∈ ms, 0 ≤ m ∧ m ≤ 5) ∧ ∀ (k : Nat) (a b : Int), ms[k]? = some a → ms[k + 1]? = some b → a < b
def Wish.ok : Wish → Prop
  | .all p g => 0 ≤ p ∧ p ≤ 5 ∧ 0 ≤ g ∧ g ≤ 7 ∧ g ≠ p
  | .busy p g => 0 ≤ p ∧ p ≤ 5 ∧ 0 ≤ g ∧ g ≤ 7 ∧ g ≠ p
  | .late p g t => 0 ≤ p ∧ p ≤ 5 ∧ 0 ≤ g ∧ g ≤ 7 ∧ g ≠ p ∧ 1 ≤ t ∧ t ≤ 9
  | .wait p => 0 ≤ p ∧ p ≤ 5
  | .still p => 0 ≤ p ∧ p ≤ 5
  | .bar p o => 0 ≤ p ∧ p ≤ 5 ∧ 0 ≤ o ∧ o ≤ 5 ∧ o ≠ p
  | .group g ms => 6 ≤ g ∧ g ≤ 7 ∧ msOk ms
@[simp] theorem len_ints {l : List Int} : (intsW l).length = l.length := List.length_map _
theorem atI_ints {l : List Int} {i : Int} (h0 : 0 ≤ i) (h1 : i < l.length) : atI (intsW l) i = some (.int (l.getD i.toNat 0)) := atI_map h0 h1
theorem oks_ints {l : List Int} {n : Nat} : W.oks (intsW l) n = true := oks_map (fun _ => rfl) l
theorem Wish.wok2 (x : Wish) : x.w.ok 2 = true := by
  cases x with
  | group g ms =>
    show (W.oks [.str "group", .int g, .tup (intsW ms)] 1) = true
    simp only [W.oks, W.ok, oks_ints, Bool.and_true, Bool.true_and]
    decide +kernel
  | _ =>
    simp only [Wish.w, W.ok, W.oks, Bool.and_true]
    decide +kernel
theorem Wish.wok (x : Wish) {n : Nat} (h : 2 ≤ n := by decide) : x.w.ok n = true := W.ok_mono _ h x.wok2
theorem wishes_ok (xs : List Wish) {n : Nat} (h : 2 ≤ n := by decide) : W.oks (xs.map Wish.w) n = true := oks_map (fun x => x.wok h) xs
theorem eqW_ints (a b : List Int) : eqW (.tup (intsW a)) (.tup (intsW b)) = decide (a = b) := eqW_mapT (fun _ _ => eqW_int) a b
theorem wish_eq (a b : Wish) : eqW a.w b.w = decide (a = b) := by
  cases a <;> cases b <;> simp only [Wish.w, eqW_tt, eqW_t0, eqW_t1, eqW_t2, eqW_str, eqW_int, eqW_ints, eqW_it, eqW_ti, Bool.and_true, Bool.and_false] <;>
    first
      | (simp; done)
      | (simp only [show decide (("all" : Str) = "busy") = false from by decide +kernel, show decide (("all" : Str) = "late") = false from by decide +kernel, show decide (("all" : Str) = "bar") = false from by decide +kernel, show decide (("all" : Str) = "group") = false from by decide +kernel,
          show decide (("busy" : Str) = "all") = false from by decide +kernel, show decide (("busy" : Str) = "late") = false from by decide +kernel, show decide (("busy" : Str) = "bar") = false from by decide +kernel, show decide (("busy" : Str) = "group") = false from by decide +kernel,
          show decide (("late" : Str) = "all") = false from by decide +kernel, show decide (("late" : Str) = "busy") = false from by decide +kernel, show decide (("late" : Str) = "bar") = false from by decide +kernel, show decide (("late" : Str) = "group") = false from by decide +kernel,
          show decide (("bar" : Str) = "all") = false from by decide +kernel, show decide (("bar" : Str) = "busy") = false from by decide +kernel, show decide (("bar" : Str) = "late") = false from by decide +kernel, show decide (("bar" : Str) = "group") = false from by decide +kernel,
          show decide (("group" : Str) = "all") = false from by decide +kernel, show decide (("group" : Str) = "busy") = false from by decide +kernel, show decide (("group" : Str) = "late") = false from by decide +kernel, show decide (("group" : Str) = "bar") = false from by decide +kernel,
          show decide (("wait" : Str) = "still") = false from by decide +kernel, show decide (("still" : Str) = "wait") = false from by decide +kernel, Bool.false_and]; simp; done)
/-- states: is it busy -/
def stW (b : Bool) : W := .str (if b = true then "busy" else "free")
theorem stW_ok {b : Bool} {n : Nat} : (stW b).ok n = true := by cases b <;> (show PyData.strOk _ = true; decide +kernel)
theorem sts_ok {st : List Bool} {n : Nat} : W.oks (st.map stW) n = true := oks_map (fun _ => stW_ok) st
theorem st_in (b : Bool) : inW (stW b) ([("free" : Str), "busy"].map W.str) = true := by
  show (eqW (.str "free") (stW b) || (eqW (.str "busy") (stW b) || false)) = true
  cases b with
  | true => rw [show eqW (.str "busy") (stW true) = true from eqW_str.trans (decide_eq_true rfl)]; simp
  | false => rw [show eqW (.str "free") (stW false) = true from eqW_str.trans (decide_eq_true rfl)]; simp
def getB (ws : List Wish) (k : List Key) : Option Wish := ws.find? fun x => decide (x.key = k)
def bookD (ws : List Wish) : List (List Key × W) := ws.map fun x => (x.key, x.w)
/-- the keys of the wishes ahead -/
def knownD (xs : List Wish) : List (List Key × W) := xs.map fun x => (x.key, .bl true)
@[simp] theorem len_known {xs : List Wish} : (knownD xs).length = xs.length := List.length_map _
@[simp] theorem len_book {xs : List Wish} : (bookD xs).length = xs.length := List.length_map _
theorem known_none {xs : List Wish} {k : List Key} (h : k ∉ xs.map Wish.key) : valW (knownD xs) k = none := by
  unfold valW knownD
  rw [List.find?_map, Option.map_map, Option.map_eq_none_iff, List.find?_eq_none]
  intro x hx e
  exact h (List.mem_map.mpr ⟨x, hx, of_decide_eq_true e⟩)
theorem known_put {xs : List Wish} {x : Wish} (h : x.key ∉ xs.map Wish.key) : putW (knownD xs) x.key (.bl true) = knownD (xs ++ [x]) := by
  unfold putW
  rw [if_neg]
  · simp [knownD]
  · intro e
    rw [List.any_eq_true] at e
    obtain ⟨y, hy, e⟩ := e
    unfold knownD at hy
    obtain ⟨z, hz, rfl⟩ := List.mem_map.mp hy
    exact h (List.mem_map.mpr ⟨z, hz, of_decide_eq_true e⟩)
theorem take_succ {α : Type} {xs : List α} {i : Nat} {x : α} (h : xs[i]? = some x) : xs.take (i + 1) = xs.take i ++ [x] := by
  rw [List.take_add_one, h]
  rfl
/-! ### books -/
def BookAt (C : Addr) (S : Sto) (j : Nat) (xs : List Wish) : Prop := ∃ d, S[j]? = some (.ins C [("wanted", .ref d)]) ∧ S[d]? = some (.dt (bookD xs))
def hasB (xs : List Wish) (k : List Key) : Bool := (getB xs k).isSome
def barsF (xs : List Wish) (p c : Int) : Bool := hasB xs [.inr "bar", .inl p, .inl c]
def goalF (xs : List Wish) (word : Str) (p : Int) : Option Int := match getB xs [.inr word, .inl p] with
  | some (.all _ g) => some g
  | some (.busy _ g) => some g
  | _ => none
def membersF (xs : List Wish) (g : Int) : List Int := match getB xs [.inr "group", .inl g] with
  | some (.group _ ms) => ms
  | _ => []
theorem get_set_self {S : Sto} {j : Nat} {o o0 : O} (h : S[j]? = some o0) : (S.set j o)[j]? = some o := List.getElem?_set_self (List.getElem?_eq_some_iff.mp h).1
theorem get_set_ne {S : Sto} {j k : Nat} {o o' : O} (n : j ≠ k) (h : S[k]? = some o') : (S.set j o)[k]? = some o' := by rw [List.getElem?_set_ne n]; exact h
def busyF (st : List Bool) (p : Int) : Bool := st.getD p.toNat default
theorem eqW_st {b : Bool} : eqW (stW b) (.str "busy") = b := by
  cases b <;> (rw [stW, eqW_str]; decide +kernel)
def stillF (xs : List Wish) (p : Int) : Bool := hasB xs [.inr "still", .inl p]
def waitF (xs : List Wish) (p : Int) : Bool := hasB xs [.inr "wait", .inl p]
def ringsOk (xs : List Wish) (c : Int) (st : List Bool) (p : Int) : Bool := !decide (p = c) && (!barsF xs p c && !stillF xs p) && !busyF st p
/-- who rings by a group -/
def ringsF (xs : List Wish) (c g : Int) (st : List Bool) : List Int := (membersF xs g).filter (ringsOk xs c st)
/-- where a call goes on from a phone, or how it ends there -/
def nextF (xs : List Wish) (c p : Int) (st kn : List Bool) : Int ⊕ (Str × List Int) :=
  if barsF xs p c = true then .inr ("barred", []) else
  match goalF xs "all" p with
  | some g => .inl g
  | none =>
    if stillF xs p = true then .inr ("still", []) else
    if (!decide (p = c) && !busyF st p) = true then .inr ("rings", [p]) else
    if (!decide (p = c) && (waitF xs p && kn.getD p.toNat default)) = true then .inr ("knocks", [p]) else
    match goalF xs "busy" p with
    | some g => .inl g
    | none => .inr ("busy", [])
/-! ### refs into what stays -/
theorem get_app {S T : Sto} {j : Nat} {o : O} (h : S[j]? = some o) : (S ++ T)[j]? = some o := by rw [List.getElem?_append_left (List.getElem?_eq_some_iff.mp h).1]; exact h
theorem items_of {S : Sto} {k : Nat} {ws : List W} (h : S[k]? = some (.lst ws)) : itemsW S (.ref k) = some ws := by
  show (match S[k]? with | some (.lst ws) => some ws | _ => none) = some ws
  rw [h]
mutual
theorem fz_self {S : Sto} {n : Nat} : ∀ (w : W), w.rlt n = true → Fz S n w w
  | .non, _ => .non
  | .bl _, _ => .bl _
  | .int _, _ => .int _
  | .str _, _ => .str _
  | .tup ws, h => .tup (fzs_self ws (by simpa [W.rlt] using h))
  | .lst ws, h => .lst (fzs_self ws (by simpa [W.rlt] using h))
  | .ref k, h => .old (by simpa [W.rlt] using h)
  | .raw _, _ => .raw _
  | .scr _ _, _ => .scr _ _
  | .xi _ _ _ _, _ => .xi _ _ _ _
  | .thg _ _, _ => .thg _ _
theorem fzs_self {S : Sto} {n : Nat} : ∀ (ws : List W), W.rlts n ws = true → Fzs S n ws ws
  | [], _ => .nil
  | w :: ws, h => by
    simp only [W.rlts, Bool.and_eq_true] at h
    exact .cons (fz_self w h.1) (fzs_self ws h.2)
end
theorem rlts_map {α : Type} {f : α → W} {n : Nat} (h : ∀ a, (f a).rlt n = true) : ∀ xs : List α, W.rlts n (xs.map f) = true
  | [] => rfl
  | x :: xs => by simp [W.rlts, h, rlts_map h xs]
theorem fz_ints {S : Sto} {n : Nat} {l : List Int} : Fz S n (.tup (intsW l)) (.tup (intsW l)) := fz_self _ (by simpa [W.rlt, intsW] using rlts_map (fun _ => rfl) l)
theorem fz_intsL {S : Sto} {n : Nat} {l : List Int} : Fz S n (.lst (intsW l)) (.lst (intsW l)) := fz_self _ (by simpa [W.rlt, intsW] using rlts_map (fun _ => rfl) l)
/-! ### ways -/
structure Wy where
  chain : List Int
  leads : List (Int × Int)
  group : Option Int
  word : Str
  ears : List Int
def Wy.new : Wy := ⟨[], [], none, "nobody", []⟩
def optW : Option Int → W
  | none => .non
  | some i => .int i
def pairW (p : Int × Int) : W := .tup [.int p.1, .int p.2]
def wayFs (jb : Nat) (c : Int) (ch ld : Nat) (y : Wy) : List (Str × W) := [("book", .ref jb), ("caller", .int c), ("chain", .ref ch), ("leads", .ref ld), ("group", optW y.group), ("word", .str y.word), ("ears", .tup (intsW y.ears))]
structure WayAt (C : Addr) (S : Sto) (j ch ld jb : Nat) (c : Int) (y : Wy) : Prop where
  ob : S[j]? = some (.ins C (wayFs jb c ch ld y))
  chain : S[ch]? = some (.lst (intsW y.chain))
  leads : S[ld]? = some (.lst (y.leads.map pairW))
  ne : ch ≠ ld
/-- one step of a way: told on, or ended -/
def stepF (xs : List Wish) (c : Int) (st kn : List Bool) (y : Wy) (n : Int) : Wy × Option Int :=
  if 6 ≤ n then
    let r := ringsF xs c n st
    ({ y with group := some n, ears := r, word := if r = [] then "nobody" else "rings" }, none)
  else if n ∈ y.chain then ({ y with word := "round", ears := [] }, none)
  else match nextF xs c n st kn with
    | .inl g => ({ y with chain := y.chain ++ [n], leads := y.leads ++ [(n, g)] }, some g)
    | .inr (w, l) => ({ y with chain := y.chain ++ [n], word := w, ears := l }, none)
def goF (xs : List Wish) (c : Int) (st kn : List Bool) : Nat → Wy → Int → Wy
  | 0, y, _ => y
  | f + 1, y, n => match stepF xs c st kn y n with
    | (y', none) => y'
    | (y', some g) => goF xs c st kn f y' g
theorem fin.eqS {n : Nat} {Φ : W → Sto → Prop} {w : W} {S S2 : Sto} (h : Φ w S2) (e : S = S2) : fin n Φ w S := by rw [e]; exact fin.as h
theorem set_same {S : Sto} {k : Nat} {o : O} (h : S[k]? = some o) : S.set k o = S := by
  obtain ⟨hl, e⟩ := List.getElem?_eq_some_iff.mp h
  rw [← e]
  exact List.set_getElem_self hl
theorem inW_ints {n : Int} {l : List Int} : inW (.int n) (intsW l) = decide (n ∈ l) := inW_map (fun _ _ => eqW_int) n l
/-- the store, a way's objects changed -/
def putWay (C : Addr) (S : Sto) (j ch ld jb : Nat) (c : Int) (y : Wy) : Sto := ((S.set j (.ins C (wayFs jb c ch ld y))).set ch (.lst (intsW y.chain))).set ld (.lst (y.leads.map pairW))
theorem WayAt.nj {C : Addr} {S : Sto} {j ch ld jb : Nat} {c : Int} {y : Wy} (h : WayAt C S j ch ld jb c y) : j ≠ ch ∧ j ≠ ld := by
  constructor
  · intro e
    have q := h.ob
    rw [e, h.chain] at q
    cases q
  · intro e
    have q := h.ob
    rw [e, h.leads] at q
    cases q
theorem WayAt.put {C : Addr} {S : Sto} {j ch ld jb : Nat} {c : Int} {y : Wy} (h : WayAt C S j ch ld jb c y) (y' : Wy) : WayAt C (putWay C S j ch ld jb c y') j ch ld jb c y' := by
  obtain ⟨n1, n2⟩ := h.nj
  unfold putWay
  exact ⟨get_set_ne n2.symm (get_set_ne n1.symm (get_set_self h.ob)), get_set_ne h.ne.symm (get_set_self (get_set_ne n1 h.chain)), get_set_self (get_set_ne h.ne (get_set_ne n2 h.leads)), h.ne⟩
theorem WayAt.same {C : Addr} {S : Sto} {j ch ld jb : Nat} {c : Int} {y : Wy} (h : WayAt C S j ch ld jb c y) : putWay C S j ch ld jb c y = S := by
  unfold putWay
  rw [set_same h.ob, set_same h.chain, set_same h.leads]
/-- a book stands apart from a way -/
theorem BookAt.off {C C2 : Addr} {S : Sto} {j ch ld jb jb2 : Nat} {c : Int} {y : Wy} {xs : List Wish} (b : BookAt C S jb xs) (h : WayAt C2 S j ch ld jb2 c y) : ∃ d, S[jb]? = some (.ins C [("wanted", .ref d)]) ∧ S[d]? = some (.dt (bookD xs)) ∧ jb ≠ j ∧ jb ≠ ch ∧ jb ≠ ld ∧ d ≠ j ∧ d ≠ ch ∧ d ≠ ld := by
  obtain ⟨d, b1, b2⟩ := b
  refine ⟨d, b1, b2, ?_, ?_, ?_, ?_, ?_, ?_⟩
  · intro e
    have q := h.ob
    rw [← e, b1] at q
    have q := O.ins.inj (Option.some.inj q)
    have := congrArg List.length q.2
    simp [wayFs] at this
  · intro e
    rw [e, h.chain] at b1
    cases b1
  · intro e
    rw [e, h.leads] at b1
    cases b1
  · intro e
    rw [e, h.ob] at b2
    cases b2
  · intro e
    rw [e, h.chain] at b2
    cases b2
  · intro e
    rw [e, h.leads] at b2
    cases b2
theorem BookAt.put {C C2 : Addr} {S : Sto} {j ch ld jb jb2 : Nat} {c : Int} {y y' : Wy} {xs : List Wish} (b : BookAt C S jb xs) (h : WayAt C2 S j ch ld jb2 c y) : BookAt C (putWay C2 S j ch ld jb2 c y') jb xs := by
  obtain ⟨d, b1, b2, n1, n2, n3, n4, n5, n6⟩ := b.off h
  unfold putWay
  exact ⟨d, get_set_ne n3.symm (get_set_ne n2.symm (get_set_ne n1.symm b1)), get_set_ne n6.symm (get_set_ne n5.symm (get_set_ne n4.symm b2))⟩
/-! ### a way ends -/
theorem small_len : ∀ (n : Nat) (l : List Nat), l.Nodup → (∀ p ∈ l, p < n) → l.length ≤ n
  | 0, l, _, h => by
    cases l with
    | nil => exact Nat.le_refl _
    | cons a _ => exact absurd (h a List.mem_cons_self) (Nat.not_lt_zero _)
  | n + 1, l, hn, h => by
    by_cases hm : n ∈ l
    · have h1 := List.length_erase_of_mem hm
      have h2 := small_len n (l.erase n) (hn.erase n) fun p hp => by
        have hp' := (List.Nodup.mem_erase_iff hn).mp hp
        have := h p hp'.2
        omega
      omega
    · have := small_len n l hn fun p hp => by
        have h1 := h p hp
        have h2 : p ≠ n := fun e => hm (e ▸ hp)
        omega
      omega
section
variable {C : Addr} {S : Sto} {j ch ld jb : Nat} {c : Int} {y y' : Wy} {fs : List (Str × W)} {ws us : List W}
end
/-! ### what a wish wants -/
def obW : Option Bool → W
  | none => .non
  | some b => .bl b
theorem eqW_opt {o : Option Int} {g : Int} : eqW (optW o) (.int g) = decide (o = some g) := by
  cases o with
  | none => rw [optW, eqW_ni]; rfl
  | some i => rw [optW, eqW_int]; by_cases h : i = g <;> simp [h]
theorem eqW_intsM {a b : List Int} : eqW (.tup (intsW a)) (.tup (b.map fun x => W.int x)) = decide (a = b) := eqW_ints a b
theorem eqW_one {a : List Int} {p : Int} : eqW (.tup (intsW a)) (.tup [.int p]) = decide (a = [p]) := eqW_ints a [p]
theorem pair_eq (a b : Int × Int) : eqW (pairW a) (pairW b) = decide (a = b) := by
  simp only [pairW, eqW_tt, eqW_t0, eqW_int, Bool.and_true]
  by_cases h : a = b
  · subst h; simp
  · rw [decide_eq_false h]
    rw [Bool.and_eq_false_iff]
    by_cases h1 : a.1 = b.1
    · right
      exact decide_eq_false fun h2 => h (Prod.ext h1 h2)
    · exact .inl (decide_eq_false h1)
theorem inW_leads {p g : Int} {l : List (Int × Int)} : inW (.tup [.int p, .int g]) (l.map pairW) = decide ((p, g) ∈ l) := (inW_map pair_eq (p, g) l).trans (decide_eq_decide.mpr Iff.rfl)
theorem opt_ok {o : Option Int} {n : Nat} : (optW o).ok n = true := by cases o <;> rfl
theorem inW_wish {x : Wish} {xs : List Wish} : inW x.w (xs.map Wish.w) = decide (x ∈ xs) := (inW_map wish_eq x xs).trans (decide_eq_decide.mpr Iff.rfl)

-- WB
/-- the walker waits here -/
def Stop (p : Prop) : Prop := p
theorem stop_i {p : Prop} (h : Stop p) : p := h
theorem eqW_key (a b : Key) : eqW (keyW1 a) (keyW1 b) = decide (a = b) := by
  cases a <;> cases b <;> simp [keyW1, eqW_int, eqW_str, eqW_is, eqW_si]
def keyT (x : Wish) : W := .tup (x.key.map keyW1)
theorem eqW_keys (a b : List Key) : eqW (.tup (a.map keyW1)) (.tup (b.map keyW1)) = decide (a = b) := eqW_mapT eqW_key a b
def keyIn (k : List Key) (xs : List Wish) : Bool := xs.any fun y => decide (y.key = k)
theorem inW_keys {x : Wish} {xs : List Wish} : inW (.tup (x.key.map keyW1)) (xs.map keyT) = keyIn x.key xs := by
  show (xs.map keyT).any (fun z => eqW z (.tup (x.key.map keyW1))) = _
  rw [List.any_map]
  unfold keyIn
  congr 1
  funext y
  exact eqW_keys y.key x.key
theorem keyIn_no {k : List Key} {xs : List Wish} (h : keyIn k xs = false) : k ∉ xs.map Wish.key := by
  intro e
  obtain ⟨y, hy, e⟩ := List.mem_map.mp e
  unfold keyIn at h
  rw [List.any_eq_false] at h
  exact h y hy (decide_eq_true e)
theorem keyT_ok {x : Wish} {n : Nat} (h : 1 ≤ n) : (W.tup (x.key.map keyW1)).ok n = true := by
  refine W.ok_mono _ h ?_
  cases x <;> (simp only [Wish.key, List.map, keyW1, W.ok, W.oks, Bool.and_true, Bool.true_and]; decide +kernel)
theorem keysT_ok {xs : List Wish} {n : Nat} (h : 1 ≤ n) : W.oks (xs.map keyT) n = true := oks_map (fun _ => keyT_ok h) xs
theorem fz_new {S T : Sto} {ws us : List W} (h : T[0]? = some (.lst ws)) (hf : Fzs (S ++ T) S.length ws us) : Fz (S ++ T) S.length (.ref S.length) (.lst us) := .new (Nat.le_refl _) (by rw [nth_new0]; exact h) hf
theorem rlt_wish {n : Nat} (x : Wish) : x.w.rlt n = true := by
  cases x with
  | group g ms =>
    simp only [Wish.w, W.rlt, W.rlts, Bool.and_true, Bool.true_and]
    exact rlts_map (fun _ => rfl) ms
  | _ => rfl
theorem fzs_wishes {S : Sto} {n : Nat} {xs : List Wish} : Fzs S n (xs.map Wish.w) (xs.map Wish.w) := fzs_self _ (rlts_map rlt_wish xs)

-- WC
/-! ### calls with at most two phones busy -/
section
open TL
/-! ### deeds -/
inductive Deed
  | lift (p : Int) | drop (p : Int) | hold (p : Int) | swap (p : Int) | take (p : Int) | join (p : Int) | dial (p g : Int) | beat
  deriving DecidableEq
def Deed.word : Deed → Str
  | .lift _ => "lift" | .drop _ => "drop" | .hold _ => "hold" | .swap _ => "swap" | .take _ => "take" | .join _ => "join" | .dial _ _ => "dial" | .beat => "beat"
def Deed.nums : Deed → List Int
  | .lift p => [p] | .drop p => [p] | .hold p => [p] | .swap p => [p] | .take p => [p] | .join p => [p] | .dial p g => [p, g] | .beat => []
def Deed.w (d : Deed) : W := .tup (.str d.word :: intsW d.nums)
def Deed.ok (d : Deed) : Prop := match d with
  | .dial p g => 0 ≤ p ∧ p ≤ 5 ∧ 0 ≤ g ∧ g ≤ 7
  | .beat => True
  | .lift p => 0 ≤ p ∧ p ≤ 5
  | .drop p => 0 ≤ p ∧ p ≤ 5
  | .hold p => 0 ≤ p ∧ p ≤ 5
  | .swap p => 0 ≤ p ∧ p ≤ 5
  | .take p => 0 ≤ p ∧ p ≤ 5
  | .join p => 0 ≤ p ∧ p ≤ 5
def sizesL : List (Str × Int) := [("lift", 2), ("drop", 2), ("dial", 3), ("hold", 2), ("swap", 2), ("take", 2), ("join", 2), ("beat", 1)]
theorem Deed.wok2 (d : Deed) : d.w.ok 2 = true := by
  cases d <;> (simp only [Deed.w, Deed.word, Deed.nums, intsW, List.map_cons, List.map_nil, W.ok, W.oks, Bool.and_true]; decide +kernel)
theorem Deed.wok (d : Deed) {n : Nat} (h : 2 ≤ n := by decide) : d.w.ok n = true := W.ok_mono _ h d.wok2
theorem deeds_ok (ds : List Deed) {n : Nat} (h : 2 ≤ n := by decide) : W.oks (ds.map Deed.w) n = true := oks_map (fun x => x.wok h) ds
theorem word_inj {a b : Deed} (h1 : a.word = b.word) (h2 : a.nums = b.nums) : a = b := by
  cases a <;> cases b <;> first
    | (simp only [Deed.nums, List.cons.injEq, and_true] at h2; subst h2; rfl)
    | (simp only [Deed.nums, List.cons.injEq, and_true] at h2; obtain ⟨e1, e2⟩ := h2; subst e1; subst e2; rfl)
    | rfl
    | exact absurd h1 (by simp only [Deed.word]; decide +kernel)
/-! ### figures -/
def dg (i : Int) : Str := toString i
theorem digit {i : Int} (h0 : 0 ≤ i) (h9 : i ≤ 9) : dg i = ⟨#[48 + i.toNat]⟩ ∧ PySem.intText? (dg i) = some i := by
  obtain ⟨n, rfl⟩ : ∃ n : Nat, i = n := ⟨i.toNat, by omega⟩
  have hn : n < 10 := by omega
  match n, hn with
  | 0, _ => exact ⟨by decide +kernel, by decide +kernel⟩
  | 1, _ => exact ⟨by decide +kernel, by decide +kernel⟩
  | 2, _ => exact ⟨by decide +kernel, by decide +kernel⟩
  | 3, _ => exact ⟨by decide +kernel, by decide +kernel⟩
  | 4, _ => exact ⟨by decide +kernel, by decide +kernel⟩
  | 5, _ => exact ⟨by decide +kernel, by decide +kernel⟩
  | 6, _ => exact ⟨by decide +kernel, by decide +kernel⟩
  | 7, _ => exact ⟨by decide +kernel, by decide +kernel⟩
  | 8, _ => exact ⟨by decide +kernel, by decide +kernel⟩
  | 9, _ => exact ⟨by decide +kernel, by decide +kernel⟩
/-! ### words, rows -/
def digits (l : List Int) : Prop := ∀ m ∈ l, 0 ≤ m ∧ m ≤ 9
def Wish.word : Wish → Str
  | .all _ _ => "all" | .busy _ _ => "busy" | .late _ _ _ => "late" | .wait _ => "wait" | .still _ => "still" | .bar _ _ => "bar" | .group _ _ => "group"
def Wish.nums : Wish → List Int
  | .all p g => [p, g] | .busy p g => [p, g] | .late p g t => [p, g, t] | .wait p => [p] | .still p => [p] | .bar p o => [p, o] | .group g ms => g :: ms
theorem Wish.dig {x : Wish} (h : x.ok) : digits x.nums ∧ x.nums.length ≤ 7 := by
  cases x with
  | group g ms =>
    obtain ⟨h1, h2, h3, h4, h5, _⟩ := h
    refine ⟨fun m hm => ?_, by simp only [Wish.nums, List.length_cons]; omega⟩
    rcases List.mem_cons.mp hm with rfl | hm
    · omega
    · have := h5 m hm
      omega
  | _ =>
    simp only [Wish.ok] at h
    refine ⟨fun m hm => ?_, by simp [Wish.nums]⟩
    simp only [Wish.nums, List.mem_cons, List.not_mem_nil, or_false] at hm
    omega
theorem Deed.dig {d : Deed} (h : d.ok) : digits d.nums ∧ d.nums.length ≤ 2 := by
  cases d <;>
    (simp only [Deed.ok] at h
     refine ⟨fun m hm => ?_, by simp [Deed.nums]⟩
     simp only [Deed.nums, List.mem_cons, List.not_mem_nil, or_false] at hm
     try omega)
/-- a row: words with blanks between -/
def rowF (ws : List Str) : Str := Txt.join " " ws
def wishRow (x : Wish) : Str := rowF ("wish" :: x.word :: x.nums.map dg)
def deedRow (d : Deed) : Str := rowF (d.word :: d.nums.map dg)
def rowsF (xs : List Wish) (ds : List Deed) : List Str := xs.map wishRow ++ ds.map deedRow
def textF (xs : List Wish) (ds : List Deed) : Str := Txt.join "\n" (rowsF xs ds)
/-! ### signs -/
theorem blank_tl : tl (" " : Str) = 32 :: [] := by decide +kernel
/-- a word: no blank, no line's end in it, not empty, short -/
def goodW (s : Str) : Prop := 32 ∉ tl s ∧ 10 ∉ tl s ∧ s.length ≤ 5 ∧ 1 ≤ s.length
theorem good_dg {i : Int} (h0 : 0 ≤ i) (h9 : i ≤ 9) : goodW (dg i) := by
  obtain ⟨n, rfl⟩ : ∃ n : Nat, i = n := ⟨i.toNat, by omega⟩
  have hn : n < 10 := by omega
  unfold goodW
  match n, hn with
  | 0, _ => decide +kernel
  | 1, _ => decide +kernel
  | 2, _ => decide +kernel
  | 3, _ => decide +kernel
  | 4, _ => decide +kernel
  | 5, _ => decide +kernel
  | 6, _ => decide +kernel
  | 7, _ => decide +kernel
  | 8, _ => decide +kernel
  | 9, _ => decide +kernel
theorem good_wish (x : Wish) : goodW x.word := by
  unfold goodW
  cases x <;> (simp only [Wish.word]; decide +kernel)
theorem good_deed (d : Deed) : goodW d.word := by
  unfold goodW
  cases d <;> (simp only [Deed.word]; decide +kernel)
theorem good_w : goodW "wish" := by unfold goodW; decide +kernel
theorem tl_rows : ∀ (ws : List Str), (∀ s ∈ ws, goodW s) → 10 ∉ tl (Str.join " " ws)
  | [], _ => by decide +kernel
  | [x], h => (h x List.mem_cons_self).2.1
  | x :: z :: r, h => by
    show 10 ∉ tl (x ++ " " ++ Str.join " " (z :: r))
    rw [tl_append, tl_append, blank_tl]
    intro e
    rcases List.mem_append.mp e with e | e
    · rcases List.mem_append.mp e with e | e
      · exact (h x List.mem_cons_self).2.1 e
      · simp at e
    · exact tl_rows (z :: r) (fun s hs => h s (List.mem_cons_of_mem _ hs)) e
theorem len_rows : ∀ (ws : List Str), (∀ s ∈ ws, goodW s) → (Str.join " " ws).length ≤ 6 * ws.length
  | [], _ => by decide +kernel
  | [x], h => by
    have := (h x List.mem_cons_self).2.2.1
    show x.length ≤ 6
    omega
  | x :: z :: r, h => by
    have q := len_rows (z :: r) fun s hs => h s (List.mem_cons_of_mem _ hs)
    have q1 := (h x List.mem_cons_self).2.2.1
    have e : (x ++ " " ++ Str.join " " (z :: r)).length = x.length + 1 + (Str.join " " (z :: r)).length := by
      rw [Str.length_append, Str.length_append]
      rfl
    show (x ++ " " ++ Str.join " " (z :: r)).length ≤ _
    rw [e]
    simp only [List.length_cons] at q ⊢
    omega
theorem row_ok {ws : List Str} (h : ∀ s ∈ ws, goodW s) : 10 ∉ tl (rowF ws) ∧ (rowF ws).length ≤ 6 * ws.length := by
  unfold rowF
  rw [join_eq]
  exact ⟨tl_rows ws h, len_rows ws h⟩
theorem dg_log {i : Int} (h0 : 0 ≤ i) (h9 : i ≤ 9) : i.natAbs.log2 < 1920 := by
  obtain ⟨n, rfl⟩ : ∃ n : Nat, i = n := ⟨i.toNat, by omega⟩
  have hn : n < 10 := by omega
  match n, hn with
  | 0, _ => decide +kernel
  | 1, _ => decide +kernel
  | 2, _ => decide +kernel
  | 3, _ => decide +kernel
  | 4, _ => decide +kernel
  | 5, _ => decide +kernel
  | 6, _ => decide +kernel
  | 7, _ => decide +kernel
  | 8, _ => decide +kernel
  | 9, _ => decide +kernel
theorem row_cons {a b : Str} {r : List Str} : rowF (a :: b :: r) = a ++ " " ++ rowF (b :: r) := by
  unfold rowF
  rw [join_eq, join_eq]
  rfl
theorem tl_inj1 {x y : Str} (h : tl x = tl y) : x = y := by
  have e : [x].map tl = [y].map tl := by rw [List.map_cons, List.map_cons, h]
  exact (List.cons.inj (map_tl_inj e)).1
theorem str_assoc (a b c : Str) : a ++ b ++ c = a ++ (b ++ c) := tl_inj1 (by rw [tl_append, tl_append, tl_append, tl_append, List.append_assoc])
theorem row_snoc {b : Str} : ∀ {a : Str} {r : List Str}, rowF ((a :: r) ++ [b]) = rowF (a :: r) ++ " " ++ b
  | a, [] => by
    rw [List.cons_append, List.nil_append, row_cons]
    unfold rowF
    rw [join_eq, join_eq]
    rfl
  | a, c :: r => by
    rw [List.cons_append, List.cons_append, row_cons, ← List.cons_append, row_snoc, row_cons]
    simp only [str_assoc]
theorem good_wishRow {x : Wish} (h : x.ok) : ∀ s ∈ ("wish" : Str) :: x.word :: x.nums.map dg, goodW s := by
  intro s hs
  rcases List.mem_cons.mp hs with rfl | hs
  · exact good_w
  · rcases List.mem_cons.mp hs with rfl | hs
    · exact good_wish x
    · obtain ⟨i, hi, rfl⟩ := List.mem_map.mp hs
      have := (Wish.dig h).1 i hi
      exact good_dg this.1 this.2
theorem good_deedRow {x : Deed} (h : x.ok) : ∀ s ∈ x.word :: x.nums.map dg, goodW s := by
  intro s hs
  rcases List.mem_cons.mp hs with rfl | hs
  · exact good_deed x
  · obtain ⟨i, hi, rfl⟩ := List.mem_map.mp hs
    have := (Deed.dig h).1 i hi
    exact good_dg this.1 this.2
theorem wishRow_ok {x : Wish} (h : x.ok) : 10 ∉ tl (wishRow x) ∧ (wishRow x).length ≤ 54 := by
  obtain ⟨q1, q2⟩ := row_ok (good_wishRow h)
  refine ⟨q1, Nat.le_trans q2 ?_⟩
  have := (Wish.dig h).2
  simp only [List.length_cons, List.length_map]
  omega
theorem deedRow_ok {x : Deed} (h : x.ok) : 10 ∉ tl (deedRow x) ∧ (deedRow x).length ≤ 54 := by
  obtain ⟨q1, q2⟩ := row_ok (good_deedRow h)
  refine ⟨q1, Nat.le_trans q2 ?_⟩
  have := (Deed.dig h).2
  simp only [List.length_cons, List.length_map]
  omega
theorem rows_ok {xs : List Wish} {ds : List Deed} (hx : ∀ x ∈ xs, x.ok) (hd : ∀ d ∈ ds, d.ok) : ∀ r ∈ rowsF xs ds, 10 ∉ tl r ∧ r.length ≤ 54 := by
  intro r hr
  rcases List.mem_append.mp hr with hr | hr
  · obtain ⟨x, h, rfl⟩ := List.mem_map.mp hr
    exact wishRow_ok (hx x h)
  · obtain ⟨x, h, rfl⟩ := List.mem_map.mp hr
    exact deedRow_ok (hd x h)
theorem sum_le : ∀ (l : List Str), (∀ r ∈ l, r.length ≤ 54) → (l.map (·.length)).sum ≤ 54 * l.length
  | [], _ => Nat.le_refl _
  | r :: l, h => by
    have q := sum_le l fun z hz => h z (List.mem_cons_of_mem _ hz)
    have q1 := h r List.mem_cons_self
    simp only [List.map_cons, List.sum_cons, List.length_cons]
    omega
theorem text_fits {xs : List Wish} {ds : List Deed} (hx : ∀ x ∈ xs, x.ok) (hd : ∀ d ∈ ds, d.ok) (h1 : xs.length ≤ 24) (h2 : ds.length ≤ 200) : ((rowsF xs ds).map (·.length)).sum + (rowsF xs ds).length * ("\n" : Str).length ≤ 16777216 := by
  have q := sum_le (rowsF xs ds) fun r hr => (rows_ok hx hd r hr).2
  have q2 : (rowsF xs ds).length ≤ 224 := by
    unfold rowsF
    rw [List.length_append, List.length_map, List.length_map]
    omega
  have q3 : ("\n" : Str).length = 1 := by decide +kernel
  rw [q3]
  omega
end
-- AM23
end AM
namespace AMX
open PySem PySem.Spec PyProof.Rows PySem.SeqAt
section
variable {M : Model} {prog : Program} {w : World} {A : Around} {E : Value → Shared → Prop} {s : Shared} {K : PySem.W.Frag} {x y C : Addr} {ox oy : Obj} {od oe : Option Obj}
end
end AMX
namespace AM
open PySem PySem.Spec PyProof.Rows L2

-- AM24
/-! ### instances that are equal to themselves alone -/
structure PlainEq (K : PySem.W.Frag) (C : Addr) : Prop where
  mro : PySem.W.mroIn K C (.type "object") = some true
  eq : PySem.W.findIn K (.ref C) "__eq__" = some (some (.builtin "object.__eq__"))
  nn : PySem.W.subIn K (.ref C) (.type "NoneType") = some false
end AM
namespace AMX
open PySem PySem.Spec PyProof.Rows PySem.SeqAt
end AMX
namespace AM
open PySem PySem.Spec PyProof.Rows L2
section
variable {X : Cx} {A : Around} {pins : List (Addr × Obj)} {σ : L2.St} {H : Hp} {s : Shared} {C : Addr}
end
section
variable {X : Cx} {C : Addr}
end
/-! on told values -/
section
variable {X : Cx} {Ψ : AX} {a b o e : Expr} {E : AEnv} {S : Sto} {Φ : W → Sto → Prop} {ΦT : Bool → Sto → Prop} {pos : Pos}
end

-- AM25
/-! ### lists of instances: in, remove -/
section
variable {X : Cx} {pins : List (Addr × Obj)} {σ : L2.St} {H : Hp} {s : Shared} {C : Addr} {A : Around}
end
section
variable {X : Cx} {C : Addr}
end
section
variable {M : Lay} {H : Hp} {S : Sto} {C : Addr}
end
section
variable {X : Cx} {Ψ : AX} {a b o e : Expr} {E : AEnv} {S : Sto} {Φ : W → Sto → Prop} {ΦT : Bool → Sto → Prop} {pos : Pos}
end
/-! xs.remove(an instance) -/
section
variable {X : Cx} {o e : Expr} {to te : TE} {apos cpos : Pos}
end
section
variable {X : Cx} {Ψ : AX} {a b o e : Expr} {E : AEnv} {S : Sto} {Φ : W → Sto → Prop} {pos : Pos}
end

-- AM26
section
variable {X : Cx} {Ψ : AX} {a b c e o elt iter : Expr} {E : AEnv} {S : Sto} {Φ : W → Sto → Prop} {pos : Pos} {A : AE}
/-! ### a comprehension's list that will be changed -/
/-! ### xs + ys that will be changed -/
def sCatN (x y : W) (S : Sto) (Φ : W → Sto → Prop) : Prop := ∃ xs ys, itemsW S x = some xs ∧ itemsW S y = some ys ∧ (∀ z, x ≠ .tup z) ∧ (∀ z, y ≠ .tup z) ∧ xs.length + ys.length ≤ 100000 ∧ Φ (.ref S.length) (S ++ [.lst (xs ++ ys)])
theorem sCatN_i {x y : W} {xs ys : List W} (h1 : itemsW S x = some xs) (h2 : itemsW S y = some ys) (n1 : ∀ z, x ≠ .tup z) (n2 : ∀ z, y ≠ .tup z) (hl : xs.length + ys.length ≤ 100000) (h : Φ (.ref S.length) (S ++ [.lst (xs ++ ys)])) : sCatN x y S Φ := ⟨xs, ys, h1, h2, n1, n2, hl, h⟩
theorem xE_catN (h : wE X Ψ a E S fun x S1 => wE X Ψ b E S1 fun y S2 => sCatN x y S2 Φ) : wE X Ψ (.BinOp a .Add b pos) E S Φ :=
  wE_op (g := sCatN) op_cat (fun M H S v u x y Φ r a1 a2 ⟨xs, ys, i1, i2, n1, n2, hl, p⟩ Q q => by
    obtain ⟨p1, v1, rfl, rv1, k1⟩ := seq_of (K := X.K) r a1 i1
    obtain ⟨p2, v2, rfl, rv2, k2⟩ := seq_of (K := X.K) r a2 i2
    rcases k1 with ⟨_, h1⟩ | ⟨_, z, ez⟩
    · rcases k2 with ⟨_, h2⟩ | ⟨_, z, ez⟩
      · refine ⟨p1, p2, v1, v2, rfl, rfl, h1, h2, Nat.le_trans (by rw [rv1.length, rv2.length]; exact hl) (by decide), fun l hl => ?_⟩
        exact q _ _ _ _ _ p (lst_new r hl (rv1.append rv2)).1 (lst_new r hl (rv1.append rv2)).2 (step_new r hl)
      · exact absurd ez (n2 z)
    · exact absurd ez (n1 z)) h
/-! ### sorted, a list that nobody changes -/
end

-- AM27
section
variable {X : Cx} {Ψ : AX} {a b o e : Expr} {E : AEnv} {S : Sto} {Φ : W → Sto → Prop} {ΦT : Bool → Sto → Prop} {pos : Pos}
/-- a list of the store, and one that was not changed, told apart -/
def sNeR (x y : W) (S : Sto) (ΦT : Bool → Sto → Prop) : Prop := ∃ k ws, x = .ref k ∧ S[k]? = some (.lst ws) ∧ W.oks ws 59 = true ∧ y.ok 60 = true ∧ ΦT (!PyData.eqv (W.lst ws).d y.d) S
theorem xT_neR (hu : X.A.units + 65 < cLine) (h : wE X Ψ a E S fun x S1 => wE X Ψ b E S1 fun y S2 => sNeR x y S2 ΦT) : wT X Ψ (.Compare a [.NotEq] [b] pos) E S ΦT :=
  wT_cmpNeD hu (h.imp fun x S1 h => h.imp fun y S2 ⟨k, ws, e, h1, h2, h3, p⟩ => ⟨_, _, by subst e; exact .ref h1 (DenAll.of ws 59 h2), Den.of y _ h3, W.shaped (w := .lst ws) (n := 60) h2 (Nat.le_refl _), W.shaped h3 (Nat.le_refl _), p⟩)
end

-- AM28
section
variable {X : Cx} {Ψ : AX} {a b o e : Expr} {E : AEnv} {S : Sto} {Φ : W → Sto → Prop} {ΦT : Bool → Sto → Prop} {pos : Pos}
end

-- AM29
end AM
namespace AMX
open PySem PySem.Spec PyProof.Rows
section
variable {prog : Program} {w : World} {A : Around} {E : Value → Shared → Prop} {s : Shared}
end
end AMX
namespace AM
open PySem PySem.Spec PyProof.Rows L2
section
variable {X : Cx} {Ψ : AX} {a b o e : Expr} {E : AEnv} {S : Sto} {Φ : W → Sto → Prop} {ΦT : Bool → Sto → Prop} {pos : Pos}
end

-- AM30
section
variable {X : Cx} {Ψ : AX} {a b o e : Expr} {E : AEnv} {S : Sto} {Φ : W → Sto → Prop} {ΦT : Bool → Sto → Prop} {pos : Pos}
theorem sNeR_nil {k : Nat} {ws : List W} (h1 : S[k]? = some (.lst ws)) (h2 : W.oks ws 59 = true) (hr : eqW (.lst ws) (.lst []) = ws.isEmpty) (h : ΦT (!ws.isEmpty) S) : sNeR (.ref k) (.lst []) S ΦT := ⟨k, ws, rfl, h1, h2, rfl, by
  have e : PyData.eqv (W.lst ws).d (W.lst []).d = ws.isEmpty := hr
  rw [e]
  exact h⟩
end
section
variable {X : Cx} {Ψ : AX} {a b o e : Expr} {E : AEnv} {S : Sto} {Φ : W → Sto → Prop} {ΦT : Bool → Sto → Prop} {pos : Pos}
/-! ### a list, walked on or back -/
theorem VWs.reverse {M : Lay} {H : Hp} : ∀ {ws : List W} {vs : List V}, VWs M H vs ws → VWs M H vs.reverse ws.reverse
  | [], _, h => by cases h; exact .nil
  | w :: ws, _, h => by
    cases h with
    | cons a b =>
      rw [List.reverse_cons, List.reverse_cons]
      exact VWs.append (VWs.reverse b) (.cons a .nil)
end

-- AM32
section
variable {X : Cx} {Ψ : AX} {a b o e : Expr} {E : AEnv} {S : Sto} {Φ : W → Sto → Prop} {ΦT : Bool → Sto → Prop} {pos : Pos}
/-! ### where a number stands in a list of numbers -/
end

-- AM33
/-! ### a lambda handed to a def that tries it -/
section
variable {M : Lay} {H H1 : Hp} {S : Sto}
end
/-- the heap when a lambda was made at a def's table: its code object is there, or new -/
theorem step_tmp' {M : Lay} {H : Hp} {p d : Addr} {u ho : HO} (nd : H d = none) (ne : p ≠ d) (nm : d ∉ M.m) : Step M (upd H p u) M (upd (upd H p u) d ho) where
  pre := List.prefix_refl _
  new := fun _ h n => absurd n h
  keep := fun a o h _ _ => by
    have nd : (upd H p u) d = none := by rw [upd_ne ne.symm]; exact nd
    rw [upd_ne (ne_of_none h nd)]; exact h
  tbl := fun a ps _ h => by
    have nd : (upd H p u) d = none := by rw [upd_ne ne.symm]; exact nd
    exact ⟨ps, by rw [upd_ne (ne_of_none h nd)]; exact h⟩
  there := fun a _ h => by
    by_cases e : a = d
    · subst e; rw [upd_same]; exact fun z => nomatch z
    · rw [upd_ne e]; exact h
  old := fun _ h _ => h
  hold := rfl
def Made (H : Hp) (P : Addr) (q : Str) (ps : Array Value) (d : Addr) (H1 : Hp) : Prop :=
  (H1 = H ∧ H d = some (LamX.CodeO d q) ∧ ∃ pos : Pos, codeAmong pos ps.toList = some (.ref d)) ∨ ∃ pos : Pos, H d = none ∧ H1 = upd (upd H P (.tbl (ps ++ #[rawInt pos.line, rawInt pos.col, .ref d]))) d (LamX.CodeO d q)
section
variable {X : Cx} {pins : List (Addr × Obj)} {σ : L2.St} {H : Hp} {s : Shared}
end
section
variable {M : Lay} {H H1 : Hp} {S : Sto}
theorem made_step (r : Rep M H S) {k : Nat} {P d : Addr} {q : Str} {ps : Array Value} (hk : S[k]? = some (.tab P q)) (eP : H P = some (.tbl ps)) (tr : TriplesOk ps.toList)
    (co : ∀ (pos : Pos) (cv : Value), codeAmong pos ps.toList = some cv → ∃ c, cv = .ref c ∧ M.out c ∧ H c = some (LamX.CodeO c q)) (h : Made H P q ps d H1) : Step M H M H1 ∧ Rep M H1 S ∧ H1 d = some (LamX.CodeO d q) ∧ M.out d := by
  rcases h with ⟨rfl, hd, po, hp⟩ | ⟨po, nd, rfl⟩
  · obtain ⟨c, e1, e2, _⟩ := co po _ hp
    cases e1
    exact ⟨Step.refl M _, r, hd, e2⟩
  · have mP := r.tb k P q hk
    have nP : P ≠ d := fun z => by rw [z, nd] at eP; cases eP
    have nm : d ∉ M.m := fun m => r.alive (fun z => z.1 m) nd
    have b1 : Ob M (upd (upd H P (.tbl (ps ++ #[rawInt po.line, rawInt po.col, .ref d]))) d (LamX.CodeO d q)) (.tbl (ps ++ #[rawInt po.line, rawInt po.col, .ref d])) (.tab P q) := by
      have eL : (ps ++ #[rawInt po.line, rawInt po.col, .ref d]).toList = ps.toList ++ [rawInt po.line, rawInt po.col, .ref d] := by simp
      refine .tab (by rw [eL]; exact PySem.TriplesOk_snoc _ _ _ _ tr) fun pos cv e => ?_
      rw [eL] at e
      rcases LamX.among_app _ tr e with z | z
      · obtain ⟨c, e1, e2, e3⟩ := co pos cv z
        have n1 : c ≠ d := fun w => by rw [w, nd] at e3; cases e3
        have n2 : c ≠ P := fun w => by
          rw [w, eP] at e3
          exact LamX.codeO_ne ps (Option.some.inj e3).symm
        exact ⟨c, e1, e2, by rw [upd_ne n1, upd_ne n2]; exact e3⟩
      · exact ⟨d, z, r.free nd, upd_same⟩
    have st : Step M H M (upd (upd H P (.tbl (ps ++ #[rawInt po.line, rawInt po.col, .ref d]))) d (LamX.CodeO d q)) := (step_set r mP).trans (step_tmp' nd nP nm)
    have at_ : ∀ a, a ≠ P → a ≠ d → (upd (upd H P (.tbl (ps ++ #[rawInt po.line, rawInt po.col, .ref d]))) d (LamX.CodeO d q)) a = H a := fun a h1 h2 => by rw [upd_ne h2, upd_ne h1]
    refine ⟨st, ⟨r.nd, r.len, fun j p o h1 h2 => ?_, fun p hp => ⟨st.alive (r.hid p hp).1, (r.hid p hp).2⟩, r.tb⟩, upd_same, r.free nd⟩
    by_cases e : j = k
    · subst e
      rw [hk] at h2
      cases h2
      rw [mP] at h1
      cases h1
      exact ⟨_, by rw [upd_ne nP, upd_same], b1⟩
    · obtain ⟨ho, e1, b⟩ := r.at_ j p o h1 h2
      have n1 : p ≠ P := fun z => e (nd_at r.nd h1 (by rw [z]; exact mP))
      have n2 : p ≠ d := fun z => by rw [z, nd] at e1; cases e1
      exact ⟨ho, by rw [at_ p n1 n2]; exact e1, b.step st⟩
end

-- AM34
/-- the context of the def that got a lambda -/
abbrev zCx (X : Cx) (Ng : List Str) (x : Str) (st : Stmt) (g : Addr) (cdv : Value) (s1 : Shared) (H1 : Hp) : Cx := (cxOf C8.CX0 X.prog X.w X.K X.mg X.base Ng x (defScope st) g cdv X.A X.stack s1 H1 C8.E0).nox
/-- what the lambda's body reads, told of the slots of its maker -/
def tLm (X : Cx) (sc : Scope) (bd : Expr) (k : Nat) (f d : Addr) (σ : L2.St) (Ech : XK) : Hp → VK → Prop := fun HZ Q =>
  ∀ (A : Around) (outer : List Env) (s0 : Shared) (H0 : Hp), Room k (A.deeper (LamX.lamEnv X sc s0.heap.objs.size f d)) → sem (LamX.lamCx X A outer s0 H0 Ech sc f d) bd σ HZ Q
/-- the caught error as the suite's name has it -/
def exW (aE : Addr) (dd : Option Addr) : List (Str × W) → W
  | [(f, .int k)] => match dd with
    | some d => .xi aE d f k
    | none => .raw (.ref aE)
  | _ => .raw (.ref aE)
theorem exw_vw {M : Lay} {H : Hp} {aE : Addr} {dd : Option Addr} {fs : List (Str × W)} (h : Xd M H dd fs) : VW M H (.ref aE) (exW aE dd fs) := by
  unfold exW
  split
  · rename_i f k
    cases dd with
    | none => exact .raw _
    | some d =>
      obtain ⟨_, o, kvs, h1, h2⟩ := h
      cases h2 with
      | @cons p q _ _ a b =>
        cases b
        obtain ⟨x, v⟩ := p
        obtain ⟨e1, a⟩ := a
        have e1 : x = f := e1
        have a : VW M H v (.int k) := a
        cases a
        subst e1
        exact .xi o h1
  · exact .raw _
section
variable {X : Cx} {Ψ Ψ1 : AX} {E : AEnv} {S : Sto} {Φ Φ1 : W → Sto → Prop}
end

-- AM35
/-! ### raising, telling of a caught one -/
/-- an error's own class without an own __init__ -/
structure ExK (K : PySem.W.Frag) (mg : Str → Option Value) (x : Str) (C : Addr) : Prop where
  gl : mg x = some (.ref C)
  ex : PySem.W.excIn K C [.type "ValueError", .type "Exception", .type "BaseException", .type "object"] "ValueError.__new__" = true
  kp : PySem.W.keepIn K (.ref C) = true
  sb : PySem.W.subIn K (.ref C) (.type "BaseException") = some true
  ty : PySem.W.typeIn K (.ref C) = some (.type "type")
section
variable {X : Cx} {Ψ : AX} {e e2 : Expr} {E : AEnv} {S : Sto} {Φ : W → Sto → Prop} {A : AE}
end

-- AM36
/-! ### defs that make lambdas: their code objects, the end with their tables -/
def TabD (q : Program) (mg : Str → Option Value) (h : Heap) : Prop :=
  ∀ d ∈ recsOf q, ∃ a o fd c P, mg d.name = some (.ref a) ∧ h.get? a = some o ∧ o.data = .func fd ∧ fd.code = .ref c ∧ h.IsCode c P #[] ∧ h.TableAt c P #[]
/-- the code object of a def -/
def CodeAt (K : PySem.W.Frag) (mg : Str → Option Value) (x : Str) (c : Addr) : Prop :=
  ∀ (f : Addr) (fd : FuncData) (oc : Value) (od : Option Addr) (sl : Array (Option Value)), mg x = some (.ref f) → K.lookup f = some ⟨oc, od, .func fd, sl⟩ → fd.code = .ref c
def noTab (K : PySem.W.Frag) : Bool := K.all fun q => match q.2.data with
  | .fields vs => !vs.isEmpty
  | _ => true
theorem look_mem {a : Addr} {o : Obj} : ∀ {K : PySem.W.Frag}, K.lookup a = some o → ∃ b, (b, o) ∈ K
  | [], e => by cases e
  | (b, o') :: K, e => by
    have e : (match a == b with | true => some o' | false => List.lookup a K) = some o := e
    cases z : a == b with
    | true =>
      rw [z] at e
      cases e
      exact ⟨b, List.mem_cons_self⟩
    | false =>
      rw [z] at e
      obtain ⟨b', m⟩ := look_mem (K := K) e
      exact ⟨b', List.mem_cons_of_mem _ m⟩
theorem TabD.at {q : Program} {mg : Str → Option Value} {h : Heap} {K : PySem.W.Frag} (T : TabD q mg h) (X : K.In h) (ne : noTab K = true) {x : Str} (hx : ∃ d ∈ recsOf q, d.name = x) :
    ∃ c P, CodeAt K mg x c ∧ K.lookup P = none ∧ h.get? P = some { cls := .none, data := .fields #[] } ∧ PySem.W.CodeHd h c P := by
  obtain ⟨d, hd, rfl⟩ := hx
  obtain ⟨a, o, fd, c, P, h1, h2, h3, h4, h5, h6⟩ := T d hd
  refine ⟨c, P, fun f fd' oc od sl e1 e2 => ?_, ?_, h6.2, PySem.W.CodeHd.of h5 h6⟩
  · rw [h1] at e1
    cases e1
    have e3 := X _ _ e2
    rw [h2] at e3
    cases e3
    cases h3
    exact h4
  · cases e : K.lookup P with
    | none => rfl
    | some o' =>
      exfalso
      have e3 := X _ _ e
      have e4 : h.get? P = some { cls := .none, data := .fields #[] } := h6.2
      rw [e4] at e3
      cases e3
      obtain ⟨b, m⟩ := look_mem e
      have := List.all_eq_true.mp ne _ m
      cases this
section
variable {P : Program} {w : World} {K : PySem.W.Frag} {mg : Str → Option Value} {base : Heap} {x qual : Str} {st : Stmt} {f c : Addr} {fd : FuncData} {N ps : List Str} {k : Nat} {asp : ASp}
theorem fn_okC (F : Fun K x qual st f fd) (hc : fd.code = .ref c) (sc : FnScope N ps (defScope st))
    (hbody : ∀ (A : Around) (outer : List Env) (s : Shared) (H : Hp) (E : XK), Room k (A.deeper (envOfC qual (defScope st) s.heap.objs.size f (.ref c))) → ∀ ws S Φ Ψ, ws.length = ps.length → Srl S → asp ws S Φ Ψ →
      wB (cxOf (L2.CX P w) P w K mg base N qual (defScope st) f (.ref c) A outer s H E) (fun cls fs _ S2 => Ψ cls fs S2) (defBody st) (startW N.length ws) S ⟨fun _ S2 => fin S.length Φ .non S2, fin S.length Φ, fun _ _ => False, fun _ _ => False⟩) :
    FnOk P w K mg base (L2.CX P w) (k + 1) f fd ps (conc ps.length asp) := by
  obtain ⟨oc, od, kV, doc, pm, an, cdv, ct, osl, rfl, lk, hcd⟩ := F.ex
  have e : cdv = .ref c := hc
  subst e
  refine fn_of lk hcd sc (fun vs H Q E h => h.1) fun A outer s H vs Q E hr h => ?_
  obtain ⟨hl, M, S, ws, Φ, Ψ, r, a, hsp, g, hx⟩ := h
  have hpl : ps.length ≤ N.length := by
    have e := congrArg List.length sc.pre
    rw [List.length_take] at e
    omega
  refine ⟨semB _ _, pss_sem, ?_⟩
  refine (hbody A outer s H E hr ws S Φ Ψ (by rw [← a.length]; exact hl) r.srl hsp).run M (L2.start N vs) H r (evok_start a (by omega)) ?_ _ ?_
  · exact ⟨fun cls d _ H2 => E cls d H2, takes_of rfl rfl rfl rfl, fun cls fs E2 S2 M2 H2 d σ2 p r2 _ xd s2 => hx cls fs d M2 S2 H2 p r2 xd s2⟩
  · exact ⟨fun σ E2 M2 S2 H2 p r2 _ s2 => (g.fin r) _ _ M2 S2 H2 p r2 .non s2, g.fin r, fun _ _ _ _ _ p => p.elim, fun _ _ _ _ _ p => p.elim⟩
theorem DefAt.fnC (D : DefAt K mg x qual st ps) (hc : CodeAt K mg x c) (sc : FnScope N ps (defScope st))
    (hbody : ∀ (f : Addr) (A : Around) (outer : List Env) (s : Shared) (H : Hp) (E : XK), Room k (A.deeper (envOfC qual (defScope st) s.heap.objs.size f (.ref c))) → ∀ ws S Φ Ψ, ws.length = ps.length → Srl S → asp ws S Φ Ψ →
      wB (cxOf (L2.CX P w) P w K mg base N qual (defScope st) f (.ref c) A outer s H E) (fun cls fs _ S2 => Ψ cls fs S2) (defBody st) (startW N.length ws) S ⟨fun _ S2 => fin S.length Φ .non S2, fin S.length Φ, fun _ _ => False, fun _ _ => False⟩) : CFn P w K mg base x (k + 1) ps.length asp := by
  obtain ⟨f, fd, h1, h2, F, B⟩ := D.ex
  have hc' : fd.code = .ref c := by
    obtain ⟨oc, od, kV, doc, pm, an, cdv, ct, osl, e, lk, _⟩ := F.ex
    exact hc f fd oc od osl h1 lk
  exact ⟨f, fd, ps, h1, h2, B, rfl, fn_okC F hc' sc (hbody f)⟩
end
theorem walkT {l : PySem.W.OpenLaw} {n k : Nat} {q : Program} {loose : List Str} {XP : (Str → Option Value) → Heap → Prop} {YP : World → Heap → Prop} {d : DefRec} {K : Params → PySem.W.Frag} {CX : World → CXT} {x : Str}
    (hn : l.most = some n) (hn2 : n ≤ sizeLine) (hdf : d.params.defaults = []) (hr : Room k callerA) (hY : ∀ (w : World) (h : Heap), YP w h → (K w.params).In h)
    (F : ∀ (w : World) (mg : Str → Option Value) (fa : Addr) (h : Heap), (K w.params).In h → h.Ns mainGlobals mg → mg d.name = some (.ref fa) → TabD q mg h → LamX.LawAtS l w (K w.params) (CX w) k n x mg fa h)
    (hCX : ∀ (w : World) (H : Hp) (s : Shared) (e : Value) (s' : Shared), CX w [] H s (fun _ _ _ => False) e s' → False) :
    PySem.W.WalkO q loose XP YP l.row.toRowW d [] (fun f vs => PySem.call f vs) := by
  refine Att.attach_callB hn hdf ?_
  intro w s0 s1 mg mb fa o pm cd doc a vs ns G Y ho hd hcd hmg hobj hints hlen hbits hg
  obtain ⟨fd, cs, sp, hT, nT, C, hb, hsp, hF⟩ := F w mg fa _ (hY w _ Y) G.T.g hmg G.T.tab
  exact LamX.law_callTs (hY w _ Y) G.T.g G.T.b G.T.builtins G.T.nolimit hg hT nT C G.T.bmain hobj hints (Nat.le_trans hlen hn2) hr hF hb (fun H2 t2 q2 => hsp H2 a ns hlen hbits t2 q2) fun H2 e s' => hCX w H2 s1 e s'

-- AM37
/-! ### count and index in a list of truth values; isinstance of a class of Python's own -/
section
variable {X : Cx}
theorem bools_get : ∀ {bs : List Bool} {its : List Value}, Vals (bs.map V.bl) its → its = bs.map Value.bool
  | [], _, r => by cases r; rfl
  | b :: bs, _, r => by
    cases r with
    | cons r1 r2 =>
      have e := bools_get r2
      subst e
      have e1 : _ = Value.bool b := r1
      rw [e1]
      rfl
def rCntB (K : PySem.W.Frag) : V → List V → Hp → VK → Prop := fun x xs H Q => ∃ (p : Addr) (bs : List Bool) (k : Bool), x = .ref p ∧ xs = [.bl k] ∧ SqL K H p (bs.map V.bl) ∧ Q (.int (bs.countP (· == k) : Nat)) H
theorem mt_countB : MtR X "list.count" (rCntB X.K) := by
  intro pins s σ H x xs v us Q I rx rxs h
  obtain ⟨p, bs, k, rfl, rfl, hs, q⟩ := h
  cases rx
  obtain ⟨u, rfl, ru⟩ := rxs.one
  have ru : u = .bool k := ru
  subst ru
  obtain ⟨its, rv, ⟨⟨cls, dd, data, sl⟩, n, ho, hc, hdn, hd⟩, hlen⟩ := I.list hs
  simp only at hc hd
  subst hc hd
  have hi := bools_get rv
  subst hi
  refine call_meets PySem.F.slot_list_count ⟨_, ho, rfl⟩ PySem.F.entry_list_count (PySem.F.args_list_count_2 _ _)
    (SeqAt.list_countAt p (bs.map Value.bool).toArray n dd sl (.bool k) (isBoolOf k)) ⟨ho, fun y hy => by
      have hy : y ∈ bs.map Value.bool := by simpa using hy
      obtain ⟨b, _, rfl⟩ := List.mem_map.mp hy
      exact SeqAt.EqAt.bool_bool b k, ?_⟩
  have ec : ((bs.map Value.bool).toArray.toList).countP (isBoolOf k) = bs.countP (· == k) := by
    show (bs.map Value.bool).countP (isBoolOf k) = _
    rw [List.countP_map]
    rfl
  refine ⟨.int (bs.countP (· == k) : Nat), H, I.tok _, ⟨s.toks, ?_⟩, q⟩
  show Value.int (((bs.map Value.bool).toArray.toList.countP (isBoolOf k) : Nat) : Int) s.toks = Value.int ((bs.countP (· == k) : Nat) : Int) s.toks
  rw [ec]
end
section
variable {X : Cx} {Ψ : AX} {a b o e : Expr} {E : AEnv} {S : Sto} {Φ : W → Sto → Prop} {ΦT : Bool → Sto → Prop} {pos : Pos}
theorem vws_bls {M : Lay} {H : Hp} : ∀ {xs : List V} (l : List Bool), VWs M H xs (l.map W.bl) → xs = l.map V.bl
  | _, [], .nil => rfl
  | _, i :: l, .cons (.bl _) b => by rw [vws_bls l b]; rfl
def sCntB (x w : W) (S : Sto) (Φ : W → Sto → Prop) : Prop := ∃ (l : List Bool) (k : Bool), x = .lst (l.map W.bl) ∧ w = .bl k ∧ Φ (.int (l.countP (· == k) : Nat)) S
theorem xE_countB {apos cpos : Pos} (h : wE X Ψ o E S fun x S1 => (∃ ws, x = .lst ws) ∧ wE X Ψ e E S1 fun w S2 => sCntB x w S2 Φ)
    (hbase : attributeBase o "count" X.env (eval o X.env) = eval o X.env := by rfl)
    (hfew : ((backTo cpos (starEach [e] X.env)).all (fun x => !x.1) && (backToKw cpos (keywordEach [] X.env)).all (fun x => x.1.isSome)
      && decide (([e] : List Expr).length + ([] : List Keyword).length + (if ([] : List Keyword).isEmpty then 0 else 1) < 30)) = true := by rfl)
    (hline : (apos.endLine == cpos.line) = true := by rfl) (hs : starEach [e] X.env = (false, eval e X.env) :: starEach [] X.env := by rfl) (hplain : (backTo cpos (starEach [] X.env)).any (·.1) = false := by rfl) : wE X Ψ (.Call (.Attribute o "count" apos) [e] [] cpos) E S Φ :=
  wE_bm (g := fun x us S Φ => ∃ w, us = [w] ∧ sCntB x w S Φ) PySem.F.plainAttrs_list PySem.F.slot_list_count PySem.F.type_list_count mt_countB
    (fun M H S v w vs ws Φ r a av ⟨u, e1, l, k, e2, e3, p⟩ Q q => by
      subst e1; subst e2; subst e3
      cases a with
      | lst kk v1 =>
        cases av with
        | cons b1 b2 =>
          cases b2
          cases b1
          have ex := vws_bls l v1
          subst ex
          exact ⟨_, _, k, rfl, rfl, kk.sq, q _ _ M _ _ p r (.int _) (Step.refl M H)⟩)
    (h.imp fun x S1 ⟨⟨ws, e1⟩, h⟩ => ⟨by subst e1; exact rfl, wA_cons (h.imp fun w S2 p => wA_nil ⟨w, rfl, p⟩) hs⟩) hbase hfew hline hs hplain
def sIdxB (x w : W) (S : Sto) (Φ : W → Sto → Prop) : Prop := ∃ (l : List Bool) (j : Nat) (k : Bool), x = .lst (l.map W.bl) ∧ w = .bl k ∧ l[j]? = some k ∧ (∀ m, m < j → l[m]? ≠ some k) ∧ Φ (.int (j : Nat)) S
theorem xE_indexB {apos cpos : Pos} (h : wE X Ψ o E S fun x S1 => (∃ ws, x = .lst ws) ∧ wE X Ψ e E S1 fun w S2 => sIdxB x w S2 Φ)
    (hbase : attributeBase o "index" X.env (eval o X.env) = eval o X.env := by rfl)
    (hfew : ((backTo cpos (starEach [e] X.env)).all (fun x => !x.1) && (backToKw cpos (keywordEach [] X.env)).all (fun x => x.1.isSome)
      && decide (([e] : List Expr).length + ([] : List Keyword).length + (if ([] : List Keyword).isEmpty then 0 else 1) < 30)) = true := by rfl)
    (hline : (apos.endLine == cpos.line) = true := by rfl) (hs : starEach [e] X.env = (false, eval e X.env) :: starEach [] X.env := by rfl) (hplain : (backTo cpos (starEach [] X.env)).any (·.1) = false := by rfl) : wE X Ψ (.Call (.Attribute o "index" apos) [e] [] cpos) E S Φ :=
  wE_bm (g := fun x us S Φ => ∃ w, us = [w] ∧ sIdxB x w S Φ) PySem.F.plainAttrs_list PySem.F.slot_list_index PySem.F.type_list_index mt_index
    (fun M H S v w vs ws Φ r a av ⟨u, e1, l, j, k, e2, e3, hj, hno, p⟩ Q q => by
      subst e1; subst e2; subst e3
      cases a with
      | lst kk v1 =>
        cases av with
        | cons b1 b2 =>
          cases b2
          cases b1
          have ex := vws_bls l v1
          subst ex
          refine ⟨_, _, .bl k, j, .bl k, rfl, rfl, kk.sq, rfl, ?_, by rw [List.getElem?_map, hj]; rfl, by simp [eqV], fun m z' hm hz => ?_, q _ _ M _ _ p r (.int _) (Step.refl M H)⟩
          · rw [List.all_map, List.all_eq_true]; intro _ _; rfl
          · rw [List.getElem?_map] at hz
            cases hl : l[m]? with
            | none => rw [hl] at hz; cases hz
            | some i =>
              rw [hl] at hz
              cases hz
              have : i ≠ k := fun z => hno m hm (by rw [hl, z])
              simp [eqV, this])
    (h.imp fun x S1 ⟨⟨ws, e1⟩, h⟩ => ⟨by subst e1; exact rfl, wA_cons (h.imp fun w S2 p => wA_nil ⟨w, rfl, p⟩) hs⟩) hbase hfew hline hs hplain
theorem xE_cls {x : Str} {C : Addr} {pos : Pos} (hm : X.mg x = some (.ref C)) (h : Φ (.raw (.ref C)) S) (hg : Gl X x := by rfl) (hd : (x == ("__debug__" : Str)) = false := by decide) : wE X Ψ (.Name x pos) E S Φ := wE_glob (v := .ref C) hm rfl rfl h hg hd
end

-- AM38
section
variable {X : Cx} {Ψ : AX} {a b c e o : Expr} {es : List Expr} {E : AEnv} {S : Sto} {Φ : W → Sto → Prop} {ΦT : Bool → Sto → Prop} {ΦE : AEnv → Sto → Prop} {pos : Pos}
/-! ### (word, ears, a list of the store) != y -/
/-! ### a, b, .. = a list -/
/-! ### {k1: v1, k2: v2}, the keys numbers -/
end

-- AM39
/-! ### own errors with a field: made by an __init__ that tells a text of it -/
section
variable {X : Cx} {o e : Expr} {es : List Expr} {ta : TA} {p1 p2 pos : Pos}
/-- PhoneError.__init__(self, ..), the class an own one without an own __init__ -/
theorem pe_phinit {x : Str} {CP : Addr} {pl : Sem Bool} (hg : Gl X x) (hm : X.mg x = some (.ref CP)) (hga : PySem.W.specialIn X.K (.ref CP) "__getattribute__" = some (some (.builtin "type.__getattribute__"))) (hrd : PySem.W.readsIn X.K CP (.type "type") = true)
    (vV : PySem.W.findCls X.K (.ref CP) (.type "type") "__init__" = some (.val (.builtin "ValueError.__init__"))) (ha : PA X (e :: es) ta) (hdb : (x == ("__debug__" : Str)) = false := by decide)
    (hc : eval (.Call (.Attribute (.Name x p1) "__init__" p2) (e :: es) [] pos) X.env = (do
      let ov ← eval (.Name x p1) X.env
      standAt p2.atName
      let (f, first) ← holding [ov] (getMethod ov "__init__" pl)
      callWith pos f first (backTo pos (starEach (e :: es) X.env)) (backToKw pos (keywordEach [] X.env))) := by rfl)
    (he : starEach (e :: es) X.env = (false, eval e X.env) :: starEach es X.env := by rfl) (hpl : (backTo pos (starEach es X.env)).any (·.1) = false := by rfl) :
    PE X (.Call (.Attribute (.Name x p1) "__init__" p2) (e :: es) [] pos) (tVeI X.K ta) := by
  refine ⟨fun pins s σ H Q I h => ?_⟩
  refine PySem.W.methodCall_KW (ld_glob I hg hm ?_ hdb) hc
  refine PySem.W.method_cls I.kIn hga (PySem.W.cls_value I.kIn hrd vV (by decide +kernel) ?_)
  show wpAny _ _ (callWith pos (Value.builtin "ValueError.__init__") [] (backTo pos (starEach (e :: es) X.env)) []) _ _ _
  refine PyProof.Rows.callWith_method1 (thn (ha.run pos pins _ σ H _ (I.tok _) h) fun us s1 ⟨vs, H1, I1, r1, a, C, ws, ev, hl, T, ea, q⟩ => ?_) he hpl
  subst ev
  cases r1 with
  | @cons _ u0 _ ur ra rw' =>
    obtain rfl : u0 = Value.ref a := ra
    have hlen : ur.length ≤ sizeLine := by
      rw [← Paired.length rw', sizeLine_eq]
      omega
    exact oinit_ok T I1 ea hlen fun s' J => ⟨.non, H1, J, rfl, q⟩
end
theorem str_len {a b : Str} : (a ++ b).length = a.length + b.length := by
  show (a.cps ++ b.cps).size = a.cps.size + b.cps.size
  exact Array.size_append
/-- the promise of such an __init__ -/
def spBX (K : PySem.W.Frag) (C : Addr) (fld : Str) : Sp := fun vs H Q _ => ∃ (a : Addr) (i : Int), vs = [.ref a, .int i] ∧ i.natAbs.log2 < 1920 ∧ (Str.ofString (toString i)).length ≤ 1000 ∧ H a = some (exo a C none) ∧ ∀ d, H d = none → d ≠ a → Q .non (upd (upd H d (exd d [(fld, .int i)])) a (exo a C (some d)))
section
variable {P : Program} {w : World} {K : PySem.W.Frag} {mg : Str → Option Value} {base : Heap}
theorem oex_init {x qual xp fld t : Str} {st : Stmt} {f C CP : Addr} {fd : FuncData} {j : Nat} {q1 q2 q3 q4 q5 q6 q7 q8 q9 q10 q11 q12 q13 : Pos} (F : Fun K x qual st f fd) (sc : FnScope ["self", fld] ["self", fld] (defScope st))
    (hb : defBody st = [.Expr (.Call (.Attribute (.Name xp q1) "__init__" q2) [.Name "self" q3, .JoinedStr [.Constant (.str t) j q4, .FormattedValue (.Name fld q5) (-1) none q6] q7] [] q8) q9, .Assign [.Attribute (.Name "self" q10) fld q11] (.Name fld q12) q13])
    (hc : ∀ env : Env, ∃ pl : Sem Bool, eval (.Call (.Attribute (.Name xp q1) "__init__" q2) [.Name "self" q3, .JoinedStr [.Constant (.str t) j q4, .FormattedValue (.Name fld q5) (-1) none q6] q7] [] q8) env = (do
      let ov ← eval (.Name xp q1) env
      standAt q2.atName
      let (f, first) ← holding [ov] (getMethod ov "__init__" pl)
      callWith q8 f first (backTo q8 (starEach [.Name "self" q3, .JoinedStr [.Constant (.str t) j q4, .FormattedValue (.Name fld q5) (-1) none q6] q7] env)) (backToKw q8 (keywordEach [] env))))
    (ht : t.length ≤ 1000) (hg : (defScope st).names.lookup xp = some .globalImplicit) (hm : mg xp = some (.ref CP)) (hga : PySem.W.specialIn K (.ref CP) "__getattribute__" = some (some (.builtin "type.__getattribute__"))) (hrd : PySem.W.readsIn K CP (.type "type") = true)
    (vV : PySem.W.findCls K (.ref CP) (.type "type") "__init__" = some (.val (.builtin "ValueError.__init__"))) (T : OexC K C) (hno : PySem.W.findIn K (.ref C) fld = some none)
    (hs : (defScope st).names.lookup ("self" : Str) = some .local) (hf : (defScope st).names.lookup fld = some .local) (hdb : (xp == ("__debug__" : Str)) = false) (hdf : (fld == ("__debug__" : Str)) = false) (hcf : (fld == ("__classdict__" : Str)) = false) :
    FnOk P w K mg base CX0 1 f fd ["self", fld] (spBX K C fld) := by
  refine F.ok sc (fun vs H Q E h => by obtain ⟨a, i, rfl, _⟩ := h; rfl) fun cdv A outer s H vs Q E hr h => ?_
  obtain ⟨a, i, rfl, hi, hil, ha, hQ⟩ := h
  have z0 : Vis (cxOf CX0 P w K mg base ["self", fld] qual (defScope st) f cdv A outer s H E).nox.env.scope ("self" : Str) := .inl hs
  have z1 : Vis (cxOf CX0 P w K mg base ["self", fld] qual (defScope st) f cdv A outer s H E).nox.env.scope fld := .inl hf
  obtain ⟨pl, hc⟩ := hc (cxOf CX0 P w K mg base ["self", fld] qual (defScope st) f cdv A outer s H E).nox.env
  rw [hb]
  refine ⟨_, pss_cons (ps_expr (pe_phinit (X := (cxOf CX0 P w K mg base ["self", fld] qual (defScope st) f cdv A outer s H E).nox) hg hm hga hrd vV (pa_cons (pe_var (i := 0) rfl z0) (pa_cons (pe_joined (.cons pe_str (.cons (pe_fmt (pe_var (i := 1) rfl z1 hdf hcf)) .nil))) pa_nil)) hdb hc)) (pss_one (ps_ost (pe_var (i := 0) rfl z0) (pe_var (i := 1) rfl z1 hdf hcf))), ?_⟩
  have l1 : (Str.empty ++ t).length ≤ sizeLine := by
    have e : (Str.empty ++ t).length = t.length := by rw [str_len]; exact Nat.zero_add _
    rw [e]
    exact Nat.le_trans ht (by decide)
  have l2 : (Str.empty ++ t ++ (toString i : Str)).length ≤ sizeLine := by
    have e : (Str.empty ++ t ++ (toString i : Str)).length = t.length + (toString i : Str).length := by rw [str_len, str_len]; congr 1; exact Nat.zero_add _
    rw [e]
    exact Nat.le_trans (Nat.add_le_add ht hil) (by decide)
  exact ⟨V.ref a, rfl, t, rfl, l1, V.int i, rfl, .inr ⟨i, rfl, hi, toString i, rfl, l2, a, C, [.str _], rfl, Nat.le_of_ble_eq_true rfl, T, ha, V.int i, rfl, V.ref a, rfl, a, C, rfl, T, hno, .inl ⟨ha, fun dx h1 h2 => hQ dx h1 h2⟩⟩⟩
end
section
variable {X : Cx} {Ψ : AX} {e : Expr} {E : AEnv} {S : Sto} {Φ : W → Sto → Prop} {A : AE}
/-- what raises such an error: its class, its __init__ -/
structure ExN (K : PySem.W.Frag) (P : Program) (w : World) (mg : Str → Option Value) (base : Heap) (x fld : Str) (C : Addr) : Prop where
  gl : mg x = some (.ref C)
  oex : OexC K C
  ini : ∃ fI fd, PySem.W.findIn K (.ref C) "__init__" = some (some (.ref fI)) ∧ PySem.W.typeIn K (.ref fI) = some (.type "function") ∧ FnOk P w K mg base CX0 1 fI fd ["self", fld] (spBX K C fld) ∧ Binds K fd ["self", fld] []
theorem wS_raiseX {x fld : Str} {C : Addr} {p pos pos' : Pos} (T : ExN X.K X.prog X.w X.mg X.base x fld C) (hr : Room 2 X.A)
    (h : wE X Ψ e E S fun w S1 => ∃ i, w = .int i ∧ i.natAbs.log2 < 1920 ∧ (Str.ofString (toString i)).length ≤ 1000 ∧ Ψ (.ref C) [(fld, .int i)] E S1) (hc : X.calm = true := by rfl) (hg : Gl X x := by rfl) (hdb : (x == ("__debug__" : Str)) = false := by decide)
    (he : starEach [e] X.env = (false, eval e X.env) :: starEach [] X.env := by rfl) (hpl : (backTo pos (starEach [] X.env)).any (·.1) = false := by rfl) :
    wS X Ψ (.Raise (some (.Call (.Name x p) [e] [] pos)) none pos') E S A :=
  ⟨fun M σ H r ev xo D q pins s I => by
    have xo' := xo
    obtain ⟨Wx, tk, hx⟩ := xo
    obtain ⟨fI, fd, iC, tI, F1, hb⟩ := T.ini
    have pr := ps_raise (pos := pos') hc tk (pmk_oex (p := p) (pos := pos) (ds := []) (dvs := []) T.oex iC tI F1 hr hb .nil pass0 hg T.gl (pa_cons (pe_sem (e := e)) pa_nil he) hdb he hpl)
    refine pr.run pins s σ H D I ?_
    refine h.run M σ H r ev xo' _ fun v w M1 S1 H1 ⟨i, e1, b1, b2, pf⟩ r1 a1 s1 => ?_
    subst e1
    cases a1
    refine ⟨Nat.le_of_ble_eq_true rfl, fun a ha => ⟨a, i, rfl, b1, b2, upd_same, fun d hd hne => ⟨rfl, d, [(fld, .int i)], upd_same, ?_, ?_, ?_⟩⟩⟩
    · rw [upd_ne hne, upd_same]
    · rw [upd_ne hne] at hd
      exact hd
    · rw [upd_ne hne] at hd
      have eH : upd (del (upd (upd (upd H1 a (exo a C none)) d (exd d [(fld, V.int i)])) a (exo a C (some d))) a) d (.xd [(fld, .int i)]) = upd H1 d (.xd [(fld, .int i)]) := by
        funext b
        by_cases z : b = d
        · rw [z, upd_same, upd_same]
        · rw [upd_ne z, upd_ne z]
          by_cases y : b = a
          · rw [y, del_same, ha]
          · rw [del_ne y, upd_ne y, upd_ne z, upd_ne y]
      rw [eH]
      exact hx _ _ E S1 M1 _ (some d) σ pf (r1.tmp hd) ((ev.step s1).step (step_tmp r1 hd)) ⟨fun z => (nomatch z), r1.free hd, _, upd_same, .cons ⟨rfl, .int i⟩ .nil⟩ (s1.trans (step_tmp r1 hd))⟩
/-- e.f of the caught one -/
theorem wE_exf {a C d : Addr} {oe : Obj} {cls : Value} {dd : Option Addr} {pn : List (Addr × Obj)} {n : Str} {pos : Pos} (T : XfC X.K C) (hno : PySem.W.findIn X.K (.ref C) n = some none) (hz : Zc cls dd oe) (hf : ∃ vs, oe.data = .fields vs) (hcl : cls = .ref C) (hd : dd = some d)
    (h : wE (X.suite a ((a, oe) :: pn)) Ψ e E S fun u S1 => ∃ k, u = .xi a d n k ∧ Φ (.int k) S1) (hb : attributeBase e n X.env (eval e X.env) = eval e X.env := by rfl) :
    wE (X.suite a ((a, oe) :: pn)) Ψ (.Attribute e n pos) E S Φ :=
  wE.of (X := X.suite a ((a, oe) :: pn)) (pe_xf T hno hz hf (pe_sem (X := X.suite a ((a, oe) :: pn))) hb) fun M σ H r ev xo Q q => h.run M σ H r ev xo _ fun v u M1 S1 H1 ⟨k, e1, p⟩ r1 a1 s1 => by
    subst e1
    cases a1 with
    | xi q1 q2 => exact ⟨rfl, hcl, d, _, .int k, hd, q2, by simp [List.lookup], q _ _ M1 _ H1 p r1 (.int k) s1⟩
end

-- AM40
/-! ### isinstance of a caught error that has a field -/
/-- isinstance(e, c), the caught one has the dict at d -/
def rIsX (K : PySem.W.Frag) (D a d : Addr) : List V → Hp → VK → Prop := fun xs H Q => ∃ (c : V) (cv : Value) (b : Bool) (kvs : List (Str × V)), xs = [.ref a, c] ∧ (∀ u, RelV c u → u = cv) ∧ PySem.W.kitOne K (.ref D) cv = some b ∧ H d = some (.xd kvs) ∧ Q (.bl b) H
theorem call_isX {X : Cx} {a D d : Addr} {oe : Obj} {pn : List (Addr × Obj)} (C : L2.ExcC X.K D) (ic : (PySem.W.clsIn X.K D).isSome = true) (hz : Zc (.ref D) (some d) oe) (hf : ∃ vs, oe.data = .fields vs) : CallR (X.suite a ((a, oe) :: pn)) (.builtin "isinstance") (rIsX X.K D a d) := by
  rintro pins s σ H xs us Q I r ⟨c, cv, b, kvs, rfl, hcv, ek, hd, q⟩
  match us, r with
  | [x, y], .cons rx (.cons ry .nil) =>
    obtain rfl : x = Value.ref a := rx
    obtain rfl := hcv _ ry
    have at_ := (I.pin (a, oe) (List.mem_append_left _ List.mem_cons_self)).1
    have od0 : ObjOk X.prog X.w H s.heap d (.xd kvs) := I.hok d _ hd
    obtain ⟨mA, hns, _⟩ := od0
    obtain ⟨od, ho, _⟩ := lookIn_ns hns
    obtain ⟨fv, ef⟩ := hf
    have J : PySem.W.InstAt s.heap a oe D (some od) := ⟨at_, hz.1, by unfold PySem.W.notCls; rw [ef], by rw [hz.2]; exact ho⟩
    exact PySem.W.kia_one (PySem.W.kitx_exc ic C.hg C.hk C.hs C.ha C.hn C.ht C.hm) I.kIn J ek (fun z => nomatch z) fun tk => ⟨V.bl b, H, I.tok tk, rfl, q⟩
section
variable {X : Cx} {Ψ : AX} {E : AEnv} {S : Sto} {Φ : W → Sto → Prop}
theorem wE_isX {a D C d : Addr} {oe : Obj} {pn : List (Addr × Obj)} {p p1 p2 pos : Pos} {n y : Str} {b : Bool} (ec : L2.ExcC X.K D) (ic : (PySem.W.clsIn X.K D).isSome = true) (hz : Zc (.ref D) (some d) oe) (hf : ∃ vs, oe.data = .fields vs) (hm : X.mg "isinstance" = none)
    (hk : PySem.W.kitOne X.K (.ref D) (.ref C) = some b)
    (h : wE (X.suite a ((a, oe) :: pn)) Ψ (.Name n p1) E S fun w S1 => wE (X.suite a ((a, oe) :: pn)) Ψ (.Name y p2) E S1 fun u S2 => (∃ f i, w = .xi a d f i) ∧ u = .raw (.ref C) ∧ Φ (.bl b) S2) (hg : Gl X "isinstance" := by rfl) :
    wE (X.suite a ((a, oe) :: pn)) Ψ (.Call (.Name "isinstance" p) [.Name n p1, .Name y p2] [] pos) E S Φ :=
  wE_callB (X := X.suite a ((a, oe) :: pn)) (call_isX ec ic hz hf) (g := fun ws S Φ => ∃ f i, ws = [.xi a d f i, .raw (.ref C)] ∧ Φ (.bl b) S)
    (fun M H S vs ws Φ r av ⟨f, i, e1, p⟩ Q q => by
      subst e1
      cases av with
      | cons w1 w2 => cases w2 with
        | cons w2 w3 =>
          cases w3
          cases w2
          cases w1 with
          | xi q1 q2 => exact ⟨.ref C, .ref C, b, _, rfl, fun u z => z, hk, q2, q _ _ M S H p r (.bl _) (Step.refl _ _)⟩) hm PyProof.Rows.boot_isinstance
    (wA_cons (h.imp fun w S1 q => wA_cons (q.imp fun u S2 ⟨⟨f, i, e1⟩, e2, p⟩ => wA_nil ⟨f, i, by rw [e1, e2], p⟩) (by rfl)) (by rfl)) hg
/-- .. of a built-in class -/
theorem wE_isXB {a D d : Addr} {oe : Obj} {pn : List (Addr × Obj)} {p p1 p2 pos : Pos} {n y : Str} {T : String} {b : Bool} (ec : L2.ExcC X.K D) (ic : (PySem.W.clsIn X.K D).isSome = true) (hz : Zc (.ref D) (some d) oe) (hf : ∃ vs, oe.data = .fields vs) (hm : X.mg "isinstance" = none)
    (hk : PySem.W.kitOne X.K (.ref D) (.type T) = some b)
    (h : wE (X.suite a ((a, oe) :: pn)) Ψ (.Name n p1) E S fun w S1 => wE (X.suite a ((a, oe) :: pn)) Ψ (.Name y p2) E S1 fun u S2 => (∃ f i, w = .xi a d f i) ∧ u = .raw (.ty T) ∧ Φ (.bl b) S2) (hg : Gl X "isinstance" := by rfl) :
    wE (X.suite a ((a, oe) :: pn)) Ψ (.Call (.Name "isinstance" p) [.Name n p1, .Name y p2] [] pos) E S Φ :=
  wE_callB (X := X.suite a ((a, oe) :: pn)) (call_isX ec ic hz hf) (g := fun ws S Φ => ∃ f i, ws = [.xi a d f i, .raw (.ty T)] ∧ Φ (.bl b) S)
    (fun M H S vs ws Φ r av ⟨f, i, e1, p⟩ Q q => by
      subst e1
      cases av with
      | cons w1 w2 => cases w2 with
        | cons w2 w3 =>
          cases w3
          cases w2
          cases w1 with
          | xi q1 q2 => exact ⟨.ty T, .type T, b, _, rfl, fun u z => z, hk, q2, q _ _ M S H p r (.bl _) (Step.refl _ _)⟩) hm PyProof.Rows.boot_isinstance
    (wA_cons (h.imp fun w S1 q => wA_cons (q.imp fun u S2 ⟨⟨f, i, e1⟩, e2, p⟩ => wA_nil ⟨f, i, by rw [e1, e2], p⟩) (by rfl)) (by rfl)) hg
end

-- AM41
/-! ### lambdas as values, also with a default -/
/-- a lambda's names: no cell of its own, its own ones are no names of its maker -/
structure LamV (N : List Str) (sc scope : Scope) : Prop where
  kind : scope.kind = .function
  co : scope.isCoroutine = false
  gen : scope.isGenerator = false
  own : ∀ y ∈ scope.names, y.2 ≠ .cell ∧ (y.2 = .local → y.1 ∉ N)
  free : ∀ y ∈ scope.names, y.2 = .free → sc.names.lookup y.1 = some .cell ∨ sc.names.lookup y.1 = some .free
def lamVB (N : List Str) (sc scope : Scope) : Bool :=
  decide (scope.kind = .function) && !scope.isCoroutine && !scope.isGenerator && scope.names.all fun y => !decide (y.2 = .cell) && (!decide (y.2 = .local) || !N.contains y.1) && (!decide (y.2 = .free) || decide (sc.names.lookup y.1 = some .cell) || decide (sc.names.lookup y.1 = some .free))
theorem lamV_by {N : List Str} {sc scope : Scope} (h : lamVB N sc scope = true) : LamV N sc scope := by
  unfold lamVB at h
  simp only [Bool.and_eq_true, Bool.or_eq_true, Bool.not_eq_true', decide_eq_true_eq, decide_eq_false_iff_not, List.all_eq_true] at h
  obtain ⟨⟨⟨h1, h2⟩, h3⟩, h4⟩ := h
  refine ⟨h1, h2, h3, fun y hy => ⟨(h4 y hy).1.1, fun e m => ?_⟩, fun y hy e => ?_⟩
  · rcases (h4 y hy).1.2 with z | z
    · exact z e
    · rw [List.contains_iff_mem.mpr m] at z
      cases z
  · rcases (h4 y hy).2 with (z | z) | z
    · exact absurd e z
    · exact .inl z
    · exact .inr z
/-- the function object of a lambda -/
def FunO (a : Addr) (q : Str) (pr : Arguments) (bd : Expr) (sc : Scope) (cl : List (Str × Addr)) (dV : Value) (d : Addr) : HO :=
  .ext fun h => ∃ (doc pm ctv : Value), h.get? a = some (PySem.W.kdv_obj "<lambda>" q pr (.expr bd) sc cl dV doc pm d ctv)
/-- the defaults: none, or a tuple of one number -/
def dvV : Option (Addr × Int) → Value
  | none => .none
  | some (t, _) => .ref t
def lamFs (f d : Addr) (q : Str) (pr : Arguments) (bd : Expr) (sc : Scope) (cl : List (Str × Addr)) (dv : Option (Addr × Int)) : List (Addr × HO) :=
  (f, FunO f q pr bd sc cl (dvV dv) d) :: (d, LamX.CodeO d q) :: (match dv with
    | none => []
    | some (t, i) => [(t, .tup [.int i])])
theorem funO_ok {P : Program} {w : World} {H : Hp} {h : Heap} {a d : Addr} {q : Str} {pr : Arguments} {bd : Expr} {sc : Scope} {cl : List (Str × Addr)} {dV doc pm ctv : Value} (e : h.get? a = some (PySem.W.kdv_obj "<lambda>" q pr (.expr bd) sc cl dV doc pm d ctv)) : ObjOk P w H h a (FunO a q pr bd sc cl dV d) :=
  ⟨⟨doc, pm, ctv, e⟩, ⟨_, e⟩, fun h1 h2 ⟨x, y, z, e1⟩ st => ⟨x, y, z, st _ e1⟩⟩
theorem funO_nt {a d : Addr} {q : Str} {pr : Arguments} {bd : Expr} {sc : Scope} {cl : List (Str × Addr)} {dV : Value} (ps : Array Value) : FunO a q pr bd sc cl dV d ≠ .tbl ps := fun z => by
  unfold FunO at z
  cases z
section
variable {X : Cx} {pins : List (Addr × Obj)} {σ : L2.St} {H : Hp} {s : Shared}
theorem LamV.has {scope : Scope} (L : LamV X.N X.env.scope scope) (ok : X.Ok) : ∀ y ∈ scope.names, y.2 = .free → ∃ c, X.env.cells.lookup y.1 = some c := fun y hy e => by
  rcases L.free y hy e with k | k
  · exact ok.has _ (.inl k)
  · exact ok.has _ (.inr k)
/-- a lambda is made, its defaults dV are -/
theorem lam_mkT {c P : Addr} {ps : Array Value} {pr : Arguments} {bd : Expr} {sc : Scope} {po : Pos} {fl : Nat} {dV : Value} {EE QQ : Value → Shared → Prop} (I : Inv X pins σ H s) (tb : LamX.TabB X.base X.mg c P) (ec : X.env.code = .ref c) (eP : H P = some (.tbl ps))
    (tr : TriplesOk ps.toList) (co : ∀ (p : Pos) (cv : Value), codeAmong p ps.toList = some cv → ∃ d, cv = .ref d ∧ H d = some (LamX.CodeO d (X.env.qual ++ "<lambda>")))
    (fre : ∀ y ∈ sc.names, y.2 = .free → ∃ c, X.env.cells.lookup y.1 = some c)
    (go : ∀ (f d : Addr) (H1 : Hp) (s1 : Shared), Made H P (X.env.qual ++ "<lambda>") ps d H1 → H1 f = none →
      Inv X pins σ (upd H1 f (FunO f (X.env.qual ++ "<lambda>") pr bd sc (cloFrom X.env.cells sc.names []) dV d)) s1 → QQ (.ref f) s1) :
    wpAny (model X.prog X.w) X.A (makeTail "<lambda>" (X.env.qual ++ "<lambda>") pr (.expr bd) sc X.env dV .none none po fl) QQ EE s := by
  have gP := I.hok P _ eP
  have bP := tb.bm.keeps I.bk
  cases q : codeAmong po ps.toList with
  | some cv =>
    obtain ⟨d, rfl, hd⟩ := co po cv q
    refine PySem.W.kdv_makeTailHit (ps := ps) (closure_ok fre) I.ok.glob (I.mod.glob.keeps I.bk) ec (tb.code.keeps I.bk) gP tr q bP fun ctv doc h1 tk kp le => ?_
    refine go _ d H _ (.inl ⟨rfl, hd, po, q⟩) (I.hok.fresh le) ?_
    exact I.laid (fun b o e => Heap.get?_push_of_some _ (kp b o e)) le (funO_ok (Heap.get?_push_size _ rfl))
  | none =>
    refine PySem.W.kdv_makeTail (c := c) (P := P) (ps := ps) (closure_ok fre) I.ok.glob (I.mod.glob.keeps I.bk) ec (tb.code.keeps I.bk) gP tr q tb.gP bP fun d ctv doc h1 tk xb le lt rec_ new => ?_
    obtain ⟨d2, oc, vs, t, e2, oce, dat, nm⟩ := rec_
    cases e2
    have nd := I.hok.fresh le
    have J := LamX.inv_table (t' := tk) (more := #[rawInt po.line, rawInt po.col, .ref d]) (h' := h1) I eP xb new le ⟨oc, vs, t, oce, dat, nm⟩
    have le1 : s.heap.objs.size ≤ h1.objs.size := by omega
    have nf : (upd (upd H P (.tbl (ps ++ #[rawInt po.line, rawInt po.col, .ref d]))) d (LamX.CodeO d (X.env.qual ++ "<lambda>"))) h1.objs.size = none := J.hok.fresh (Nat.le_refl _)
    refine go h1.objs.size d _ _ (.inr ⟨po, nd, rfl⟩) nf ?_
    exact J.laid (h' := h1.push _) (t' := tk) (fun b o e => Heap.get?_push_of_some _ e) (Nat.le_refl _) (funO_ok (Heap.get?_push_size _ rfl))
end
section
variable {X : Cx} {Ψ : AX} {E : AEnv} {S : Sto} {Φ : W → Sto → Prop}
theorem lam_vw {M : Lay} {H1 : Hp} {f d : Addr} {q : Str} {pr : Arguments} {bd : Expr} {sc : Scope} {cl : List (Str × Addr)} {dv : Option (Addr × Int)} (r1 : Rep M H1 S) (nf : H1 f = none) (hd : H1 d = some (LamX.CodeO d q)) (od : M.out d)
    (ht : ∀ t i, dv = some (t, i) → H1 t = some (.tup [.int i]) ∧ M.out t) : VW M (upd H1 f (FunO f q pr bd sc cl (dvV dv) d)) (.ref f) (.thg f (lamFs f d q pr bd sc cl dv)) := by
  have nd : d ≠ f := ne_of_none hd nf
  refine .thg fun p hp => ?_
  unfold lamFs at hp
  rcases List.mem_cons.mp hp with e | hp
  · subst e
    exact ⟨r1.free nf, upd_same, funO_nt⟩
  · rcases List.mem_cons.mp hp with e | hp
    · subst e
      exact ⟨od, by rw [upd_ne nd]; exact hd, LamX.codeO_ne⟩
    · cases dv with
      | none => cases hp
      | some ti =>
        obtain ⟨t, i⟩ := ti
        have hp : p = (t, .tup [.int i]) := List.mem_singleton.mp hp
        subst hp
        obtain ⟨h1, h2⟩ := ht t i rfl
        exact ⟨h2, by rw [upd_ne (ne_of_none h1 nf)]; exact h1, fun ps z => nomatch z⟩
/-- lambda: body -/
theorem wE_lam {kt : Nat} {c P : Addr} {pr : Arguments} {bd : Expr} {sc : Scope} {po : Pos} (TB : LamX.TabB X.base X.mg c P) (hcode : X.env.code = .ref c) (hS : S[kt]? = some (.tab P (X.env.qual ++ "<lambda>")))
    (L : LamV X.N X.env.scope sc)
    (h : ∀ f d, Φ (.thg f (lamFs f d (X.env.qual ++ "<lambda>") pr bd sc (cloFrom X.env.cells sc.names []) none)) S) (hdef : defaultsOf pr X.env = ([], []) := by rfl) :
    wE X Ψ (.Lambda pr bd sc po) E S Φ := by
  refine ⟨fun M σ H r ev xo Q qq pins s I => ?_⟩
  obtain ⟨ho, eP, b⟩ := r.at_ kt P _ (r.tb kt P _ hS) hS
  cases b with
  | @tab ps _ _ tr co =>
  have co' : ∀ (p : Pos) (cv : Value), codeAmong p ps.toList = some cv → ∃ d, cv = .ref d ∧ H d = some (LamX.CodeO d (X.env.qual ++ "<lambda>")) := fun p cv e => by
    obtain ⟨d, e1, _, e2⟩ := co p cv e
    exact ⟨d, e1, e2⟩
  refine PySem.W.kla_eval hdef ?_
  rw [makeFunction_eq]
  simp only [List.zip_nil_right, List.filterMap_nil, List.isEmpty_nil, if_true, pure_bind]
  refine lam_mkT I TB hcode eP tr co' (L.has I.ok) fun f d H1 s1 md nf I1 => ?_
  obtain ⟨st1, r1, hco, od⟩ := made_step r hS eP tr co md
  exact ⟨.ref f, _, I1, rfl, qq _ _ M S _ (h f d) (r1.tmp nf) (lam_vw (dv := none) r1 nf hco od (fun _ _ z => nomatch z)) (st1.trans (step_tmp r1 nf))⟩
end

-- AM42
/-! ### calling a lambda that is a value -/
/-- what calling it binds -/
def LamB (pr : Arguments) (bd : Expr) (sc : Scope) : Option (Addr × Int) → Prop
  | none => ∀ (q : Str) (cl : List (Str × Addr)) (doc pm cdv ctv : Value), bindArgs (PySem.W.kdv_fn "<lambda>" q pr (.expr bd) sc cl .none doc pm cdv ctv) ⟨[], []⟩ = pure []
  | some (t, _) => ∃ pa, sc.names.lookup pa = some .local ∧ ∀ (q : Str) (cl : List (Str × Addr)) (doc pm cdv ctv : Value), ∃ k, bindArgs (PySem.W.kdv_fn "<lambda>" q pr (.expr bd) sc cl (.ref t) doc pm cdv ctv) ⟨[], []⟩ = seqItems? (.ref t) >>= k ∧ ∀ u, k (some #[u]) = pure [(pa, u)]
section
variable {X : Cx} {pins : List (Addr × Obj)} {σ : L2.St} {H HZ : Hp} {s s1 : Shared}
theorem lam_startV {A : Around} {outer : List Env} {E : XK} {scope : Scope} {f c' : Addr} {h₁ : Heap} {tk : Nat} {binds : List (Str × Value)} (I : Inv X pins σ H s) (L : LamV X.N X.env.scope scope) (e0 : Env0 X.prog X.w X.K X.mg X.base A outer s1 HZ) (hd : A.handled = none)
    (un : Un (frs X.stack) [] H HZ s.heap s1.heap) (hns : h₁.Ns s1.heap.objs.size fun y => binds.reverse.lookup y) (kp : ∀ b o, s1.heap.get? b = some o → h₁.get? b = some o) :
    Inv (LamX.lamCx X A outer s1 HZ E scope f c') [] σ HZ { s1 with heap := h₁, toks := tk } := by
  have hfree := L.has I.ok
  have cm : ∀ {y c}, (cloFrom X.env.cells scope.names []).lookup y = some c → X.env.cells.lookup y = some c := fun {y c} e => by
    rcases cloFrom_mem (PySem.mem_of_lookup e) with hm | ⟨h1, h2⟩
    · cases hm
    · obtain ⟨c1, hc⟩ := hfree _ h1 rfl
      have hc : X.env.cells.lookup y = some c1 := hc
      have e2 : c = c1 := by
        rw [h2, hc] <;> rfl
      rw [e2]
      exact hc
  have look : ∀ {y}, scope.names.lookup y = some .free → ∃ c, (cloFrom X.env.cells scope.names []).lookup y = some c := fun {y} hl => by
    have hy : (y, NameKind.free) ∈ scope.names := PySem.mem_of_lookup hl
    exact mem_lookup (cloFrom_has (cells := X.env.cells) (acc := []) hy)
  have cellK : ∀ {c : Addr} {v : Option Value}, H c = none → s.heap.IsCell c v → h₁.IsCell c v := fun {c v} n ⟨o, ho, hd⟩ => by
    obtain ⟨sl, q⟩ := un.any ho n (by simp)
    exact ⟨_, kp _ _ q, hd⟩
  have noA : ∀ b : Addr, b ∉ (LamX.lamCx X A outer s1 HZ E scope f c').ex := fun b z => absurd (show b ∈ ([] : List Addr) from z) (by simp)
  refine ⟨⟨e0.mod, L.kind, rfl, rfl, Nat.le_refl _, fun y z c e1 e2 => I.ok.inj y z c (cm e1) (cm e2), fun y hy => ?_, fun y c z _ => ?_, fun _ => hd, Around.frames_deeper e0.frames, .inr ⟨rfl, rfl⟩, fun b z => absurd z (noA b), e0.bs, e0.bsz, fun b _ _ => noA b,
      fun b z => absurd z (noA b), e0.funs, e0.frf⟩,
    rfl, e0.bare, Un.kept kp, ⟨_, hns, fun i y v e1 e2 e3 => ?_⟩, fun y c e => ?_, e0.hok.fresh (Nat.le_refl _), fun y c e => ?_, fun q hq => absurd (show q ∈ ([] : List (Addr × Obj)) ++ [] from hq) (by simp), e0.hok.kept kp, I.len⟩
  · have hy : scope.names.lookup y = some .cell ∨ scope.names.lookup y = some .free := hy
    rcases hy with hy | hy
    · exact absurd rfl (L.own _ (PySem.mem_of_lookup hy)).1
    · exact look hy
  · have z : false = true := z
    cases z
  · have e3 : Vis scope y := e3
    rcases e3 with k | k | k
    · exact absurd (List.mem_of_getElem? e1) ((L.own _ (PySem.mem_of_lookup k)).2 rfl)
    · exact absurd rfl (L.own _ (PySem.mem_of_lookup k)).1
    · obtain ⟨m, hn, hl⟩ := I.loc
      have hvis : Vis X.env.scope y := (L.free _ (PySem.mem_of_lookup k) rfl).elim (fun k => .inr (.inl k)) (fun k => .inr (.inr k))
      obtain ⟨w', r, q⟩ := hl i y v e1 e2 hvis
      obtain ⟨c2, h2⟩ := look k
      refine ⟨w', r, .inr ⟨.inr k, c2, h2, ?_⟩⟩
      have c1 := cm h2
      rcases q with ⟨k', _⟩ | ⟨_, c3, e', z⟩
      · have k' : X.env.scope.names.lookup y = some .local := k'
        rcases L.free _ (PySem.mem_of_lookup k) rfl with k2 | k2 <;> rw [show X.env.scope.names.lookup y = _ from k2] at k' <;> cases k'
      · rw [c1] at e'
        cases e'
        exact cellK (I.freeC y _ c1) z
  · obtain ⟨w', z⟩ := I.cell y c (cm e)
    exact ⟨w', cellK (I.freeC y c (cm e)) z⟩
  · obtain ⟨v, o, ho, hd⟩ := I.cell y c (cm e)
    exact un.free c o ho (I.freeC y c (cm e)) (by simp)
/-- x(), in the def that got the lambda: Z is that def's context, entered at s -/
theorem pe_actV {CXg : CXT} {Eg : XK} {Ng : List Str} {qg : Str} {sg : Scope} {g f c' : Addr} {cdg : Value} {params : Arguments} {body : Expr} {scope : Scope} {k i : Nat} {a : Str} {pn : List (Addr × Obj)} {xe : Value → Shared → Prop} {W : WX} {E : XK} {tb : TE} {p1 p2 : Pos} {dv : Option (Addr × Int)}
    (I : Inv X pins σ H s) (L : LamV X.N X.env.scope scope) (hbind : LamB params body scope dv)
    (tk : Takes ((cxOf CXg X.prog X.w X.K X.mg X.base Ng qg sg g cdg X.A X.stack s H Eg).tr pn xe) W) (hW : ∀ cls d σ' H', E cls d H' → W cls d σ' H') (hr : Room (k + 1) (X.A.deeper (envOfC qg sg s.heap.objs.size g cdg)))
    (hbody : ∀ (A : Around) (outer : List Env) (s : Shared) (H : Hp), Room k (A.deeper (LamX.lamEnv X scope s.heap.objs.size f c')) → PE (LamX.lamCx X A outer s H E scope f c') body tb)
    (hN : Ng[i]? = some a) (hv : Vis sg a) (hd : (a == ("__debug__" : Str)) = false := by decide) (hcd : (a == ("__classdict__" : Str)) = false := by decide) :
    PE ((cxOf CXg X.prog X.w X.K X.mg X.base Ng qg sg g cdg X.A X.stack s H Eg).tr pn xe) (.Call (.Name a p1) [] [] p2)
      (fun σZ HZ Q => σZ[i]? = some (some (.ref f)) ∧ HZ f = some (FunO f (X.env.qual ++ "<lambda>") params body scope (cloFrom X.env.cells scope.names []) (dvV dv) c') ∧ HZ c' = some (LamX.CodeO c' (X.env.qual ++ "<lambda>")) ∧ (∀ t j, dv = some (t, j) → HZ t = some (.tup [.int j])) ∧ tb σ HZ Q) := by
  refine ⟨fun pinsZ sZ σZ HZ Q IZ h => ?_⟩
  obtain ⟨hs, hf, hc, hdv, ht⟩ := h
  refine wpAny_Call_Name_kw (thn ((pe_var (pos := p1) (i := i) hN hv hd hcd).run pinsZ sZ σZ HZ (fun v H1 => v = .ref f ∧ H1 = HZ) IZ ⟨.ref f, hs, rfl, rfl⟩) fun u s1 ⟨v, H1, I1, r1, q1⟩ => ?_)
  obtain ⟨ev, eH⟩ := q1
  subst ev
  rw [eH] at I1
  obtain rfl : u = Value.ref f := r1
  obtain ⟨⟨doc, pm, ctv, of1⟩, _, _⟩ := I1.hok f _ hf
  refine PySem.W.callWith_F0 ⟨_, _, _, _, of1⟩ ?_
  have un : Un (frs X.stack) [] H HZ s.heap s1.heap := I1.base
  obtain ⟨⟨oc, vs, t, hoc, hdc, hvc⟩, _, _⟩ := I1.hok c' _ hc
  obtain ⟨binds, hb, hbl⟩ : ∃ binds, BindsTo s1 (PySem.W.kdv_fn "<lambda>" (X.env.qual ++ "<lambda>") params (.expr body) scope (cloFrom X.env.cells scope.names []) (dvV dv) doc pm (.ref c') ctv) ⟨[], []⟩ binds ∧ ∀ y ∈ binds, scope.names.lookup y.1 = some .local := by
    cases dv with
    | none => exact ⟨[], BindsTo.of_eq (hbind _ _ _ _ _ _), fun y hy => absurd hy (by simp)⟩
    | some ti =>
      obtain ⟨t, j⟩ := ti
      obtain ⟨pa, hl, hk⟩ := hbind
      obtain ⟨kk, e1, e2⟩ := hk (X.env.qual ++ "<lambda>") (cloFrom X.env.cells scope.names []) doc pm (.ref c') ctv
      obtain ⟨_, its, rv, o, ho, hcl, n, hdat⟩ := I1.hok t _ (hdv t j rfl)
      obtain ⟨u, rfl, ru⟩ := rv.one
      refine ⟨[(pa, u)], BindsTo.of_defaults (T := t) rfl ho hdat e1 (e2 u), fun y hy => ?_⟩
      rw [List.mem_singleton.mp hy]
      exact hl
  have rc : codeAny (model X.prog X.w) (X.A.deeper (envOfC qg sg s.heap.objs.size g cdg)) (.call (.ref f) ⟨[], []⟩) (CR (L2.CX X.prog X.w) (envOfC qg sg s.heap.objs.size g cdg :: X.stack) X.prog X.w HZ s1 Q E) s1 := by
    refine PySem.W.kla_callFunE hr.depth of1 rfl L.co L.gen rfl ⟨c', oc, vs, t, rfl, hoc, hdc, hvc⟩ (hb _ _ _ _ ?_)
    refine wpAny_newFunctionEnv (fun y hy => (L.own y hy).1) hbl (fun h₁ hns hsb => ⟨I1.nolimit.fresh _ hsb, ?_⟩) L.kind
    show codeAny _ _ (.expr body (LamX.lamEnv X scope s1.heap.objs.size f c')) _ _
    have kp : ∀ b o, s1.heap.get? b = some o → h₁.get? b = some o := fun b o e => hsb.extBut b o (Nat.ne_of_lt (Heap.lt_size e)) (Heap.get?_push_of_some _ e)
    have J : Inv (LamX.lamCx X (X.A.deeper (envOfC qg sg s.heap.objs.size g cdg)) (envOfC qg sg s.heap.objs.size g cdg :: X.stack) s1 HZ E scope f c') [] σ HZ { s1 with heap := h₁, toks := s1.toks + binds.length } :=
      lam_startV I L I1.env0 hr.hd un hns kp
    refine PySem.W.kla_codeExpr (wpAny_mono ((hbody _ _ s1 HZ (hr.deeper _)).run [] _ _ HZ Q J ht) (fun v s' hq => ?_) fun e s' hq => hq)
    obtain ⟨w', H', J', rv, q⟩ := hq
    exact ⟨w', H', J'.os, J'.bare, J'.base, J'.hok, rv, q⟩
  have hx : Passes (L2.CX X.prog X.w) ((cxOf CXg X.prog X.w X.K X.mg X.base Ng qg sg g cdg X.A X.stack s H Eg).tr pn xe) E := passes_call tk hW
  refine wpAny_call (codeAny_mono rc fun r s' hq => ?_)
  cases r with
  | error e => exact hx pinsZ σZ HZ s1 e s' I1 hq
  | ok fl =>
    cases fl with
    | ret u => exact I1.after hq
    | next => exact False.elim hq
    | brk => exact False.elim hq
    | cont => exact False.elim hq
end
section
variable {X : Cx} {Ψ : AX} {E : AEnv} {S : Sto} {Φ : W → Sto → Prop}
/-- the lambda w, what it does, what the def x makes of it -/
def sLam (X : Cx) (k i : Nat) (x : Str) (st b0 : Stmt) (Ng : List Str) (suite rest : List Stmt) (cE : Value) (w : W) (E : AEnv) (S : Sto) (Φ : W → Sto → Prop) : Prop :=
  ∃ (f d : Addr) (dv : Option (Addr × Int)) (pr : Arguments) (bd : Expr) (sc : Scope) (Ψ1 : AX) (Φ1 : W → Sto → Prop), w = .thg f (lamFs f d (X.env.qual ++ "<lambda>") pr bd sc (cloFrom X.env.cells sc.names []) dv) ∧ LamV X.N X.env.scope sc ∧ LamB pr bd sc dv ∧
    (∀ (A : Around) (outer : List Env) (s0 : Shared) (H0 : Hp) (Ech : XK), Room k (A.deeper (LamX.lamEnv X sc s0.heap.objs.size f d)) → wE (LamX.lamCx X A outer s0 H0 Ech sc f d) Ψ1 bd E S Φ1) ∧
    (∀ (g : Addr) (cdv : Value) (s1 : Shared) (H1 : Hp) (w : W) (S2 : Sto), Room (k + 1) (X.A.deeper (envOfC x (defScope st) s1.heap.objs.size g cdv)) → Φ1 w S2 →
      wB (zCx X Ng x st g cdv s1 H1) nox rest (startW Ng.length [.raw (.ref f)]) S2 ⟨fun _ S3 => Φ .non S3, Φ, fun _ _ => False, fun _ _ => False⟩) ∧
    (∀ (cls : Value) (fs : List (Str × W)) (E2 : AEnv) (S2 : Sto), Ψ1 cls fs E2 S2 → PySem.W.exmOne X.K cls cE = some true ∧
      ∀ (g : Addr) (cdv : Value) (s1 : Shared) (H1 : Hp) (aE : Addr) (oe : Obj) (dd : Option Addr) (pn : List (Addr × Obj)), Room (k + 1) (X.A.deeper (envOfC x (defScope st) s1.heap.objs.size g cdv)) → Zc cls dd oe → (∃ vs, oe.data = .fields vs) → (fs = [] → dd = none) → (fs ≠ [] → ∃ d, dd = some d) →
        wB ((zCx X Ng x st g cdv s1 H1).suite aE ((aE, oe) :: pn)) nox (b0 :: suite) ((List.replicate Ng.length none).set i (some (exW aE dd fs))) S2 ⟨fun _ _ => False, Φ, fun _ _ => False, fun _ _ => False⟩)
theorem word_code {k i : Nat} {x a xn en : Str} {st b0 : Stmt} {Ng : List Str} {suite rest : List Stmt} {cE : Value} {q1 q2 q3 q4 q5 np : Pos}
    (hbg : defBody st = .Try [.Expr (.Call (.Name a q1) [] [] q2) q3] [.ExceptHandler (some (.Name xn np)) (some en) (b0 :: suite) q4] [] [] q5 :: rest)
    (scg : FnScope Ng [a] (defScope st)) (hNa : Ng[0]? = some a) (hva : Vis (defScope st) a) (hNe : Ng[i]? = some en) (hi : i < Ng.length) (hke : (defScope st).names.lookup en = some .local)
    (gxn : (defScope st).names.lookup xn = some .globalImplicit) (hxn : X.mg xn = some cE) (dxn : (xn == ("__debug__" : Str)) = false) (hr : Room (k + 2) X.A)
    {g f : Addr} {oc kV doc pm cdv ct : Value} {od an : Option Addr} {osl : Array (Option Value)} (lk : X.K.lookup g = some ⟨oc, od, .func (PySem.W.fnOf x x (defArgs st) (defBody st) (defScope st) .none kV doc pm an cdv ct), osl⟩) (hcd : PySem.W.codeIn X.K cdv x = true)
    (hb : L2.Binds X.K (PySem.W.fnOf x x (defArgs st) (defBody st) (defScope st) .none kV doc pm an cdv ct) [a] []) {M1 : Lay} {H1 : Hp} {σ : L2.St} {s1 : Shared} {S1 : Sto} {pins : List (Addr × Obj)} {Q : VK}
    (I1 : L2.Inv X pins σ H1 s1) (r1 : Rep M1 H1 S1) (ev1 : EvOk M1 H1 σ E) (qq : Got M1 H1 Φ Q) (w : W) (hL : sLam X k i x st b0 Ng suite rest cE w E S1 Φ) (a1 : VW M1 H1 (.ref f) w)
    (hda : (a == ("__debug__" : Str)) = false := by decide) (hca : (a == ("__classdict__" : Str)) = false := by decide) :
    codeAny (model X.prog X.w) X.A (.call (.ref g) ⟨[.ref f], []⟩) (CR C8.CX0 X.stack X.prog X.w H1 s1 Q C8.E0) s1 := by
  obtain ⟨f', d, dv, pr, bd, sc, Ψ1, Φ1, rfl, L, hbind, hbody, hok, hexc⟩ := hL
  cases a1 with
  | thg fsOk =>
  have hfo : H1 f = some (FunO f (X.env.qual ++ "<lambda>") pr bd sc (cloFrom X.env.cells sc.names []) (dvV dv) d) := (fsOk _ List.mem_cons_self).2.1
  have hco : H1 d = some (LamX.CodeO d (X.env.qual ++ "<lambda>")) := (fsOk _ (List.mem_cons_of_mem _ List.mem_cons_self)).2.1
  have htu : ∀ t j, dv = some (t, j) → H1 t = some (.tup [.int j]) := fun t j e => by
    subst e
    exact (fsOk (t, .tup [.int j]) (List.mem_cons_of_mem _ (List.mem_cons_of_mem _ List.mem_cons_self))).2.1
  refine LamX.run_ofS (N := Ng) (ps := [a]) (us := [.ref f]) (vs := [.ref f]) lk hcd scg hr I1.env0 (hb s1 [.ref f] I1.kIn rfl) (.cons rfl .nil) rfl fun hr' => ?_
  have hgl : Gl (zCx X Ng x st g cdv s1 H1) xn := gxn
  have ptry := ps_try_as (X := zCx X Ng x st g cdv s1 H1) (x := xn) (n := en) (c := cE) (i := i) (np := np) (pos := q5) (pos' := q4) (b₀ := b0) (suite := suite) (body := [.Expr (.Call (.Name a q1) [] [] q2) q3])
    (tb := fun W D σZ HZ => ∃ Ech : XK, (∀ cls dd σ' H', Ech cls dd H' → W cls dd σ' H') ∧ σZ[0]? = some (some (.ref f)) ∧ HZ f = some (FunO f (X.env.qual ++ "<lambda>") pr bd sc (cloFrom X.env.cells sc.names []) (dvV dv) d) ∧ HZ d = some (LamX.CodeO d (X.env.qual ++ "<lambda>")) ∧ (∀ t j, dv = some (t, j) → HZ t = some (.tup [.int j])) ∧ tLm X sc bd k f d σ Ech HZ fun _ H' => D.nx σZ H')
    (ts := fun aE cls dd D σZ HZ => ∀ (oe : Obj) (pn : List (Addr × Obj)), Zc cls dd oe → (∃ vs, oe.data = .fields vs) → semB ((zCx X Ng x st g cdv s1 H1).suite aE ((aE, oe) :: pn)) (b0 :: suite) D σZ HZ)
    rfl rfl scg.nd hNe hke ⟨hgl, dxn, .inl hxn⟩ takes0 (fun W pn xe tk _ => by
      refine ⟨fun pins s' σZ HZ D I2 h' => ?_⟩
      obtain ⟨Ech, hW, z1, z2, z3, z4, z5⟩ := h'
      have hp := pe_actV (CXg := C8.CX0) (Eg := C8.E0) (Ng := Ng) (qg := x) (sg := defScope st) (g := g) (cdg := cdv) (tb := fun σ' H' Q' => tLm X sc bd k f d σ' Ech H' Q') (p1 := q1) (p2 := q2) (i := 0) (pn := pn) (xe := xe) I1 L hbind tk hW hr' (fun A outer s0 H0 hr2 => ⟨fun pins s2 σ2 H2 Q2 I3 h3 => h3 A outer s0 H0 hr2 pins s2 I3⟩) hNa hva hda hca
      exact (pss_one (ps_expr hp)).run pins s' σZ HZ D I2 ⟨z1, z2, z3, z4, z5⟩)
    (fun aE oe cls dd pn hz hf2 => ⟨fun pins s' σZ HZ D I2 h' => h' oe pn hz hf2 pins s' I2⟩)
  rw [hbg]
  have len1 : 1 ≤ Ng.length := by
    have := (List.getElem?_eq_some_iff.mp hNa).1
    omega
  have evs : ∀ {M2 : Lay} {H2 : Hp}, EvOk M2 H2 (L2.start Ng [.ref f]) (startW Ng.length [.raw (.ref f)]) := evok_start (.cons (.raw _) .nil) len1
  refine ⟨_, (pss_cons ptry (pss_sem (sts := rest))).nox, fun cls dd H' => ∃ (fs : List (Str × W)) (S2 : Sto) (M2 : Lay), (∃ E2, Ψ1 cls fs E2 S2) ∧ Rep M2 H' S2 ∧ Xd M2 H' dd fs ∧ Step M1 H1 M2 H', ?_, ?_, hfo, hco, htu, ?_⟩
  · rintro cls dd σ' H' ⟨fs, S2, M2, ⟨E2, p2⟩, r2, xd, s2⟩
    obtain ⟨ex, hx⟩ := hexc cls fs E2 S2 p2
    refine ⟨true, ex, fun _ aE ha oe pn hz hf2 pins3 s3 I3 => ?_, fun z => nomatch z⟩
    have hdd : fs = [] → dd = none := fun e => by
      cases dd with
      | none => rfl
      | some z => exact absurd e xd.1
    have hds : fs ≠ [] → ∃ d, dd = some d := fun e => by
      cases dd with
      | none => exact absurd xd e
      | some z => exact ⟨z, rfl⟩
    have ln : (σ'.set i (some (V.ref aE))).length = Ng.length := I3.len
    have evh : EvOk M2 H' (σ'.set i (some (V.ref aE))) ((List.replicate Ng.length none).set i (some (exW aE dd fs))) := by
      refine ⟨by rw [ln, List.length_set, List.length_replicate], fun j w hj => ?_⟩
      by_cases e : i = j
      · subst e
        rw [List.getElem?_set_self (by rw [List.length_replicate]; exact hi)] at hj
        cases hj
        refine ⟨_, List.getElem?_set_self ?_, exw_vw xd⟩
        rw [List.length_set] at ln
        omega
      · rw [List.getElem?_set_ne e, List.getElem?_replicate] at hj
        split at hj <;> cases hj
    exact (hx g cdv s1 H1 aE oe dd pn hr' hz hf2 hdd hds).run M2 _ H' r2 evh ExcOk.none _ ⟨fun _ _ _ _ _ z => z.elim, qq.step s2, fun _ _ _ _ _ z => z.elim, fun _ _ _ _ _ z => z.elim⟩ pins3 s3 I3
  · obtain ⟨v, h1, h2⟩ := (evs (M2 := M1) (H2 := H1)).2 0 (.raw (.ref f)) (by unfold startW; rfl)
    cases h2
    exact h1
  · intro A outer s0 H0 hrL
    refine (hbody A outer s0 H0 _ hrL).run M1 σ H1 r1 ev1 ⟨fun cls dd _ H' => _, takes_of rfl rfl rfl rfl, fun cls fs E2 S2 M2 H2 dd σ2 p2 r2 _ xd s2 => ⟨fs, S2, M2, ⟨E2, p2⟩, r2, xd, s2⟩⟩ _ fun v w M2 S2 H2 p2 r2 _ s2 => ?_
    exact (hok g cdv s1 H1 w S2 hr' p2).run M2 _ H2 r2 evs ExcOk.none _ ⟨fun σ3 E3 M3 S3 H3 p3 r3 _ s3 => qq _ _ M3 S3 H3 p3 r3 .non (s2.trans s3), qq.step s2, fun _ _ _ _ _ z => z.elim, fun _ _ _ _ _ z => z.elim⟩
theorem wE_wordV {k i : Nat} {x a xn en : Str} {st b0 : Stmt} {Ng : List Str} {suite rest : List Stmt} {cE : Value} {ea : Expr} {p pos q1 q2 q3 q4 q5 np : Pos}
    (D : DefAt X.K X.mg x x st [a]) (hbg : defBody st = .Try [.Expr (.Call (.Name a q1) [] [] q2) q3] [.ExceptHandler (some (.Name xn np)) (some en) (b0 :: suite) q4] [] [] q5 :: rest)
    (scg : FnScope Ng [a] (defScope st)) (hNa : Ng[0]? = some a) (hva : Vis (defScope st) a) (hNe : Ng[i]? = some en) (hi : i < Ng.length) (hke : (defScope st).names.lookup en = some .local)
    (gxn : (defScope st).names.lookup xn = some .globalImplicit) (hxn : X.mg xn = some cE) (dxn : (xn == ("__debug__" : Str)) = false)
    (hg : Gl X x) (hr : Room (k + 2) X.A) (h : wE X Ψ ea E S fun w S1 => sLam X k i x st b0 Ng suite rest cE w E S1 Φ)
    (hes : starEach [ea] X.env = (false, eval ea X.env) :: starEach [] X.env := by rfl)
    (hdb : (x == ("__debug__" : Str)) = false := by decide) (hda : (a == ("__debug__" : Str)) = false := by decide) (hca : (a == ("__classdict__" : Str)) = false := by decide) :
    wE X Ψ (.Call (.Name x p) [ea] [] pos) E S Φ := by
  refine ⟨fun M σ H r ev xo Q qq pins s I => ?_⟩
  obtain ⟨g, fd, hm, hk, F, hb⟩ := D.ex
  obtain ⟨oc, od, kV, doc, pm, an, cdv, ct, osl, rfl, lk, hcd⟩ := F.ex
  refine wpAny_Call_Name_kw (ld_glob I hg hm ?_ hdb)
  refine PySem.W.callWith_K (h₀ := X.base) I.ok.mod.kin hk ?_ hes (by rfl)
  rw [hes]
  show wpAny _ _ (spliced ((false, eval ea X.env) :: backTo pos (starEach [] X.env))) _ _ _
  refine Calls.spliced_cons (wpAny_mono (h.run M σ H r ev xo (fun v H2 => ∃ w M2 S2, sLam X k i x st b0 Ng suite rest cE w E S2 Φ ∧ Rep M2 H2 S2 ∧ VW M2 H2 v w ∧ Step M H M2 H2) (fun v w M2 S2 H2 p r2 a2 s2 => ⟨w, M2, S2, p, r2, a2, s2⟩) pins _ I) (fun u s1 hu => ?_) fun _ _ z => z)
  obtain ⟨v, H1, I1, rv, w, M1, S1, hL, r1, a1, st1⟩ := hu
  obtain ⟨f, rfl⟩ : ∃ f, v = .ref f := by
    obtain ⟨f, d, dv, pr, bd, sc, Ψ1, Φ1, rfl, _⟩ := hL
    cases a1
    exact ⟨_, rfl⟩
  obtain rfl : u = Value.ref f := rv
  refine Calls.spliced_nil ⟨I1.kIn, ?_⟩
  have rc := word_code hbg scg hNa hva hNe hi hke gxn hxn dxn hr lk hcd hb I1 r1 (ev.step st1) (qq.step st1) w hL a1 hda hca
  refine wpAny_call (codeAny_mono rc ?_)
  rintro (eE | fl) s9 h9
  · exact (show False from h9).elim
  · cases fl with
    | ret u => exact I1.after h9
    | next => exact (show False from h9).elim
    | brk => exact (show False from h9).elim
    | cont => exact (show False from h9).elim
end

-- AM43
section
variable {X : Cx} {Ψ : AX} {a b : Expr} {E : AEnv} {S : Sto} {Φ : W → Sto → Prop} {pos : Pos}
end

-- AM44
/-! ### a comprehension whose turns know the state of the def around -/
section
variable {X : Cx} {scope : Scope} {C : Addr} {cl : List (Str × Addr)} {fp : List Addr} {pins pinsB : List (Addr × Obj)} {s3 s : Shared} {H3 H : Hp} {σ0 σ : L2.St}
end
/-- the tests of a block -/
def IfK.ttM (B : Cx) : IfK → TT
  | .no => tYes
  | .one c => semT B c
section
variable {X : Cx}
end

-- AM45
section
/-- within a turn: (M0, H0) is the turn's start -/
def wEM (B : Cx) (M0 : Lay) (H0 : Hp) (e : Expr) (E : AEnv) (S : Sto) (Φ : W → Sto → Prop) : Prop := ∀ M σ H, Step M0 H0 M H → Rep M H S → EvOk M H σ E → ∀ Q : VK, Got M H Φ Q → sem B e σ H Q
def wTM (B : Cx) (M0 : Lay) (H0 : Hp) (e : Expr) (E : AEnv) (S : Sto) (Φ : Bool → Sto → Prop) : Prop := ∀ M σ H, Step M0 H0 M H → Rep M H S → EvOk M H σ E → ∀ Q, GotT M H Φ Q → semT B e σ H Q
/-- the def around, its state, its names -/
structure Mk (X B : Cx) (σ0 : L2.St) (M0 : Lay) (H0 : Hp) (E0 : AEnv) : Prop where
  now : ∃ pins, ∀ (pinsB : List (Addr × Obj)) (σ : L2.St) (H : Hp) (s : Shared), L2.Inv B pinsB σ H s → L2.Inv X pins σ0 H s
  ev : EvOk M0 H0 σ0 E0
variable {X B : Cx} {M0 : Lay} {H0 : Hp} {σ0 : L2.St} {E0 E : AEnv} {S : Sto} {Φ : W → Sto → Prop} {ΦT : Bool → Sto → Prop} {a e : Expr} {pos : Pos}
theorem wEM.of (h : wE B nox e E S Φ) : wEM B M0 H0 e E S Φ := fun M σ H _ r ev Q q => h.run M σ H r ev ExcOk.none Q q
theorem wTM.of (h : wT B nox e E S ΦT) : wTM B M0 H0 e E S ΦT := fun M σ H _ r ev Q q => h.run M σ H r ev ExcOk.none Q q
end
section
variable {X : Cx} {scope : Scope} {s3 : Shared} {H3 : Hp} {C : Addr} {cl : List (Str × Addr)} {fp : List Addr} {M0 : Lay} {H0 : Hp} {σ0 : L2.St} {E0 E : AEnv} {S : Sto} {Φ : W → Sto → Prop}
end
structure LcInvM (M1 : Lay) (H1 : Hp) (D : Addr) (σ : L2.St) (E : AEnv) (j : Nat) (vs : List V) (ys : List W) (I : Nat → List W → Sto → Prop) (i : Nat) (H' : Hp) : Prop where
  ex : ∃ m2 S' accV acc, Step M1 H1 ⟨m2, M1.h⟩ H' ∧ Rep ⟨m2, D :: M1.h⟩ H' S' ∧ H' D = some (.lst accV) ∧ VWs ⟨m2, D :: M1.h⟩ H' accV acc ∧ I i acc S' ∧ VWs ⟨m2, D :: M1.h⟩ H' vs ys ∧ EvOk ⟨m2, D :: M1.h⟩ H' σ E
section
variable {X : Cx} {Ψ : AX} {elt iter : Expr} {E : AEnv} {S : Sto} {Φ : W → Sto → Prop} {ΦS : List W → Sto → Prop} {pos : Pos}
end
section
variable {X : Cx} {Ψ : AX} {E : AEnv} {S : Sto} {Φ : W → Sto → Prop}
end
section
variable {X : Cx} {Ψ : AX} {elt iter c : Expr} {E : AEnv} {S : Sto} {Φ : W → Sto → Prop} {pos : Pos}
end

-- AM46
/-! ### a comprehension whose element may raise -/
/-- another wish about exceptions -/
abbrev cxd (X : Cx) (xe : Value → Shared → Prop) : Cx := X.tr X.pn xe
section
variable {X : Cx} {pins : List (Addr × Obj)} {σ : L2.St} {H : Hp} {s : Shared} {xe : Value → Shared → Prop}
end
/-- the block of a comprehension whose element may raise -/
abbrev Cx.bkx (X : Cx) (scope : Scope) (s : Shared) (H : Hp) (C : Addr) (cl : List (Str × Addr)) (fp : List Addr) : Cx :=
  cxd (Cx.bk X scope s H C cl fp) (notedBy (model X.prog X.w) X.A (compEnvC scope cl C X.env) (CompFails (model X.prog X.w) X.A X.xe (compEnvC scope cl C X.env)))
section
variable {X : Cx} {scope : Scope} {C : Addr} {cl : List (Str × Addr)} {fp : List Addr} {pins : List (Addr × Obj)} {s3 : Shared} {H3 : Hp} {σ0 : L2.St}
end
section
variable {X : Cx}
end

-- AM47
/-! ### a comprehension whose element may raise: the abstract rules -/
section
variable {X : Cx} {Ψ : AX} {elt iter : Expr} {E : AEnv} {S : Sto} {Φ : W → Sto → Prop} {ΦS : List W → Sto → Prop} {A : AE} {pos : Pos}
end

-- AM48
/-! ### a dict of the module with text keys, its values ints; and some keys that it has not -/
structure KTabN (K : PySem.W.Frag) (w : World) (mg : Str → Option Value) (x : Str) (kvs : List (Str × Int)) (nos : List Str) : Prop where
  ex : ∃ d es n, mg x = some (.ref d) ∧ KDict K w d es n ∧ (∀ kv ∈ kvs, ∃ t, PySem.W.nsIn K d kv.1 = some (some (.int kv.2 t))) ∧ ∀ z ∈ nos, PySem.W.nsIn K d z = some none
theorem KTabN.tab {K : PySem.W.Frag} {w : World} {mg : Str → Option Value} {x : Str} {kvs : List (Str × Int)} {nos : List Str} (T : KTabN K w mg x kvs nos) : KTab K w mg x kvs := by
  obtain ⟨d, es, n, h1, h2, h3, _⟩ := T.ex
  exact ⟨d, es, n, h1, h2, h3⟩
section
variable {X : Cx} {Ψ : AX} {a : Expr} {E : AEnv} {S : Sto} {ΦT : Bool → Sto → Prop} {pos : Pos}
end

-- AM50
/-! ### a dict of the module with text keys, its values ints: any text asked -/
structure KTabA (K : PySem.W.Frag) (w : World) (mg : Str → Option Value) (x : Str) (kvs : List (Str × Int)) : Prop where
  ex : ∃ d es n, mg x = some (.ref d) ∧ KDict K w d es n ∧ (∀ kv ∈ kvs, ∃ t, PySem.W.nsIn K d kv.1 = some (some (.int kv.2 t))) ∧ ∀ z, z ∉ kvs.map Prod.fst → PySem.W.nsIn K d z = some none
theorem KTabA.tab {K : PySem.W.Frag} {w : World} {mg : Str → Option Value} {x : Str} {kvs : List (Str × Int)} (T : KTabA K w mg x kvs) : KTab K w mg x kvs := by
  obtain ⟨d, es, n, h1, h2, h3, _⟩ := T.ex
  exact ⟨d, es, n, h1, h2, h3⟩
def keysChk (es : List DictEntry) (names : List Str) : Bool := es.all fun e => match e.key with
  | .str x _ => names.contains x
  | _ => false
theorem nsIn_no {K : PySem.W.Frag} {d : Addr} {es : Array DictEntry} {n : Nat} {names : List Str} {z : Str} (h : K.lookup d = some ⟨.type "dict", none, .dict es n, #[]⟩) (c : keysChk es.toList names = true) (hz : z ∉ names) : PySem.W.nsIn K d z = some none := by
  unfold keysChk at c
  rw [List.all_eq_true] at c
  unfold PySem.W.nsIn
  rw [h]
  dsimp only
  have h1 : es.toList.find? (·.key.isStr z) = none := by
    rw [List.find?_eq_none]
    intro e he
    have := c e he
    split at this
    · rename_i y t ek
      rw [ek]
      intro q
      have q : (y == z) = true := q
      have q := eq_of_beq q
      subst q
      exact hz (List.contains_iff_mem.mp this)
    · cases this
  have h2 : es.toList.any (·.refKey) = false := by
    rw [List.any_eq_false]
    intro e he
    have := c e he
    split at this
    · rename_i y t ek
      unfold DictEntry.refKey
      rw [ek]
      exact Bool.false_ne_true
    · cases this
  rw [h1, h2]
  rfl
section
variable {X : Cx} {Ψ : AX} {a : Expr} {E : AEnv} {S : Sto} {ΦT : Bool → Sto → Prop} {pos : Pos}
def sTabAny (kvs : List (Str × Int)) (x : W) (S : Sto) (ΦT : Bool → Sto → Prop) : Prop := ∃ z, x = .str z ∧ ΦT (decide (z ∉ kvs.map Prod.fst)) S
theorem sTabAny_i {kvs : List (Str × Int)} {z : Str} (h : ΦT (decide (z ∉ kvs.map Prod.fst)) S) : sTabAny kvs (.str z) S ΦT := ⟨z, rfl, h⟩
theorem xT_tabNotInA {x : Str} {kvs : List (Str × Int)} {p2 : Pos} (m : KTabA X.K X.w X.mg x kvs) (h : wE X Ψ a E S fun w S1 => sTabAny kvs w S1 ΦT) (hg : Gl X x := by rfl) (hd : (x == ("__debug__" : Str)) = false := by decide +kernel)
    (hm : behindInMarks .NotIn (.Name x p2) = false := by rfl) : wT X Ψ (.Compare a [.NotIn] [.Name x p2] pos) E S ΦT := by
  obtain ⟨d, es, n, m, D, hk1, hk⟩ := m.ex
  refine wT_cmp (g := fun x y S Φ => ∃ z, x = .str z ∧ y = .raw (.ref d) ∧ Φ (.bl (decide (z ∉ kvs.map Prod.fst))) S) (op_notIn_kd D) (fun M H S v u x y Φ r a1 a2 ⟨z, e1, e2, p⟩ Q q => ?_) (h.imp fun w S1 ⟨z, e1, p⟩ => wE_glob (v := .ref d) m rfl rfl ⟨z, e1, rfl, _, rfl, p⟩ hg hd) hm
  subst e1; subst e2
  cases a1
  cases a2
  by_cases hz : z ∉ kvs.map Prod.fst
  · rw [decide_eq_true hz] at p
    exact ⟨z, _, rfl, rfl, hk _ hz, q _ _ M S H p r (.bl _) (Step.refl _ _)⟩
  · rw [decide_eq_false hz] at p
    obtain ⟨kv, hkv, e⟩ := List.mem_map.mp (Classical.not_not.mp hz)
    obtain ⟨t, ht⟩ := hk1 kv hkv
    rw [e] at ht
    exact ⟨z, _, rfl, rfl, ht, q _ _ M S H p r (.bl _) (Step.refl _ _)⟩
end

-- AM51
/-! ### set(x), x a list of ints: with the order's facts -/
abbrev set0 (w : World) : Obj := { cls := .type "set", dict := none, data := .set #[] 0 (.fresh 0 0 (!w.params.followText "set-order")) }
section
variable {P : Program} {w : World} {A : Around} {E : Value → Shared → Prop} {s : Shared} {l : Addr} {its : Array Value} {ns : List Int}
theorem ints_here (hi : IntsAre its.toList ns) : its.size = ns.length := by
  rw [← Array.length_toList]
  exact IntsAre.length hi
theorem ints_get (hi : IntsAre its.toList ns) (i : Nat) (v : Value) (hv : its[i]? = some v) : ∃ k t, ns[i]? = some k ∧ v = .int k t := by
  have lt : i < ns.length := by
    rw [← ints_here hi]
    exact (Array.getElem?_eq_some_iff.mp hv).1
  obtain ⟨t, rfl⟩ := IntsAre.int_at hi i v (by rw [Array.getElem?_toList]; exact hv)
  have eg := List.getElem?_eq_getElem lt
  exact ⟨ns[i], t, eg, by rw [List.getD_eq_getElem?_getD, eg]; rfl⟩
/-- what the loop over the list leaves -/
def MadeSet (w : World) (s : Shared) (h0 : Heap) (ns : List Int) (S : Addr) (s2 : Shared) : Prop :=
  ∃ h' tk c, s2 = { s with heap := h', toks := tk } ∧ SetR w h' S (fun j => decide (j ∈ ns)) c ∧ c ≤ ns.length ∧ ∀ b o, h0.get? b = some o → h'.get? b = some o
set_option maxHeartbeats 8000000 in
theorem setL_init (hh : A.handled = none) (hl : s.heap.IsList l its) (hi : IntsAre its.toList ns) (hb : ns.length + 1 < scanBound) :
    wpAny (model P w) A (Builtin.«set.__init__» ⟨[.ref s.heap.objs.size, .ref l], []⟩) (fun r s2 => r = .done (.ret .none) ∧ MadeSet w s s.heap ns s.heap.objs.size s2) E { s with heap := s.heap.push (set0 w) } := by
  have hz : (s.heap.push (set0 w)).objs.size = s.heap.objs.size + 1 := Heap.size_push ..
  have gS : (s.heap.push (set0 w)).get? s.heap.objs.size = some (set0 w) := Heap.get?_push_size _ rfl
  have hlp := hl.push (set0 w)
  obtain ⟨⟨kc, kd, kt, ks⟩, ek, hc, nk, hd⟩ := hl
  simp only at hc hd
  subst hc hd
  have llt := Heap.lt_size ek
  have ek2 := Heap.get?_push_of_some (set0 w) ek
  have u1 := F.sub_list_set
  have u2 := F.sub_list_frozenset
  have u3 : (Value.type "list" == Value.type "dict") = false := by decide
  unfold Builtin.«set.__init__» noKeywords Builtin.Frozenset.updateFrom
  generalize hgo : pyIter = go
  wp_walk
  subst hgo
  refine wpAny_pyIter_list hlp (wpAny_bind (wpAny_runValue ?_))
  have nSl : l ≠ s.heap.objs.size := Nat.ne_of_lt llt
  have nIl : l ≠ (s.heap.push (set0 w)).objs.size := by rw [hz]; exact Nat.ne_of_lt (Nat.lt_succ_of_lt llt)
  have nIS : s.heap.objs.size ≠ (s.heap.push (set0 w)).objs.size := by rw [hz]; exact Nat.ne_of_lt (Nat.lt_succ_self _)
  have out : s.heap.objs.size ∉ [(s.heap.push (set0 w)).objs.size, l] := by
    intro m
    rcases List.mem_cons.mp m with m | m
    · exact nIS m
    · exact nSl (List.mem_singleton.mp m).symm
  have first : SetR w ((s.heap.push (set0 w)).push { cls := .type "list_iterator", data := .fields #[.ref l, .int 0 0] }) s.heap.objs.size (fun j => decide (j ∈ ns.take 0)) 0 := setR_new_at (Heap.get?_push_of_some _ gS)
  refine set_update_ints (Walks.list (by simp [hh]) _ l nIl its).toS s.heap.objs.size out ns (ints_here hi) hb (ints_get hi) its.size 0 _ rfl (Nat.zero_le _) ⟨⟨_, Heap.get?_push_size _ rfl, rfl, rfl⟩, hlp.push _⟩ ⟨0, Nat.le_refl _, first⟩ ?_
  intro s2 c mv hc2 hS2
  refine wpAny_pure (wpAny_pure ⟨rfl, s2.heap, s2.toks, c, ?_, hS2, by rw [← ints_here hi]; exact hc2, fun b o e => ?_⟩)
  · obtain ⟨a1, a2, a3, a4, a5⟩ := s2
    cases (show a2 = s.gens from mv.gens)
    cases (show a3 = s.drawn from mv.drawn)
    cases (show a5 = s.os from mv.os)
    rfl
  · have lt := Heap.lt_size e
    refine mv.heap b o (fun m => ?_) (Heap.get?_push_of_some _ (Heap.get?_push_of_some _ e))
    rcases List.mem_cons.mp m with m | m
    · exact Nat.ne_of_lt lt m
    · have m := List.mem_singleton.mp m
      rw [hz] at m
      exact Nat.ne_of_lt (Nat.lt_succ_of_lt lt) m
set_option maxHeartbeats 8000000 in
theorem call_setL {Q : Value → Shared → Prop} (hh : A.handled = none) (hl : s.heap.IsList l its) (hi : IntsAre its.toList ns) (hb : ns.length + 1 < scanBound)
    (h : ∀ s2, MadeSet w s s.heap ns s.heap.objs.size s2 → Q (.ref s.heap.objs.size) s2) : wpAny (model P w) A (call (.type "set") [.ref l]) Q E s := by
  obtain ⟨cc, tl, hmro⟩ := F.called_set.mro
  have f1 := F.called_set.made
  have f2 := F.called_set.sub
  have f3 := F.called_set.notType
  have f4 := F.called_set.canCreate
  have f5 := F.typeCall_set_1 (.ref l)
  refine wpAny_call (codeAny_of_tree (wpAny_pure ⟨Code.quiet_builtin _ (by decide +kernel), codeAny_builtin F.entry_type_call ?_⟩))
  rw [Around.under_plain (weight_type_call_type "set" [.ref l] []) rfl]
  repeat (any_goals (first | assumption | wp_step))
  refine codeAny_mono (code_set_led1 (.ref l) (E := E) (Q₁ := fun r s1 => r = .ref s.heap.objs.size ∧ s1 = { s with heap := s.heap.push (set0 w) }) ⟨rfl, rfl⟩) fun r s1 hr => ?_
  cases r with
  | error e => exact hr
  | ok fl =>
    cases fl with
    | ret u =>
      obtain ⟨rfl, rfl⟩ := hr
      have tS : Shared.TypeIs { s with heap := s.heap.push (set0 w) } (.ref s.heap.objs.size) "set" := ⟨_, Heap.get?_push_size _ rfl, rfl⟩
      have i1 := F.called_set.init.lookup
      have i2 := F.called_set.init.bind (.ref s.heap.objs.size)
      repeat (any_goals (first | assumption | wp_step))
      refine codeAny_mono (codeAny_call_builtin (R := wants (fun r s2 => r = .none ∧ MadeSet w s s.heap ns s.heap.objs.size s2) E) F.called_set.init.plain F.entry_set_init (check_set_init_1 tS ?_)) fun r s2 hr => ?_
      · exact wpAny_mono (setL_init (A := A.in1.in1) (E := E) (by simp [hh]) hl hi hb) (fun r s2 ⟨e, m⟩ => by subst e; exact ⟨rfl, m⟩) fun e s2 z => z
      · cases r with
        | error e => exact hr
        | ok fl =>
          cases fl with
          | ret u =>
            obtain ⟨rfl, hr⟩ := hr
            have fin := h s2 hr
            repeat (any_goals (first | assumption | wp_step))
          | _ => exact hr.elim
    | _ => exact hr.elim
end
theorem few_keys : ∀ {l : List Int}, l.Nodup → (∀ x ∈ l, 0 ≤ x ∧ x < 60) → l.length ≤ 60 := fun {l} h1 h2 => by
  have q := L2.nat_nodup_len (l.map Int.toNat) (List.range 60) (List.pairwise_map.mpr (h1.imp_of_mem fun {a b} ha hb hne e => hne (by have := h2 a ha; have := h2 b hb; omega))) fun x hx => by
    obtain ⟨y, hy, rfl⟩ := List.mem_map.mp hx
    have := h2 y hy
    exact List.mem_range.mpr (by omega)
  rw [List.length_map, List.length_range] at q
  exact q
theorem vals_ints : ∀ {vs : List Value} {ms : List Int}, IntsAre vs ms → Vals (ms.map V.int) vs
  | _, _, .nil => .nil
  | _, _, .cons k t r => .cons ⟨t, rfl⟩ (vals_ints r)
/-- sorted(set(x)), a list of small numbers -/
def tSortSet (K : PySem.W.Frag) (ta : TE) : TE := fun σ H Q => ta σ H fun x H1 => ∃ (l : Addr) (ns : List Int), x = .ref l ∧ SqL K H1 l (ns.map V.int) ∧ ns.length ≤ 4000 ∧ (∀ k ∈ ns, 0 ≤ k ∧ k < 60) ∧
  ∀ (p : Addr) (ms : List Int), H1 p = none → ms.Pairwise (· < ·) → (∀ k, k ∈ ms ↔ k ∈ ns) → Q (.ref p) (upd H1 p (.lst (ms.map V.int)))
theorem pe_sortSet {X : Cx} {a : Expr} {ta : TE} {p p2 q pos : Pos} (hg : Gl X "sorted") (hm : X.mg "sorted" = none) (hg2 : Gl X "set") (hm2 : X.mg "set" = none) (ha : PE X a ta) (hc : X.calm = true := by rfl)
    (na : starEach [a] X.env = (false, eval a X.env) :: starEach [] X.env := by rfl) : PE X (.Call (.Name "sorted" p) [.Call (.Name "set" p2) [a] [] q] [] pos) (tSortSet X.K ta) := by
  refine ⟨fun pins s σ H Q I h => ?_⟩
  refine Call_ (ld_blt I hg hm boot_sorted ?_)
  refine PyProof.Rows.callWith_builtin1 (PyProof.Rows.args_cons ?_ rfl) rfl rfl
  refine Call_ (ld_blt I hg2 hm2 boot_set ?_)
  refine PyProof.Rows.callWith_type1 (PyProof.Rows.args_cons (thn (ha.run pins s σ H _ I h) fun v s1 ⟨x, H1, I1, r1, q1⟩ => PyProof.Rows.args_nil ?_) na) na rfl
  obtain ⟨l, ns, rfl, hq, hl, hs, q1⟩ := q1
  cases r1
  obtain ⟨its, r, pl, hz⟩ := I1.list hq
  refine call_setL (ns := ns) (I1.ok.hd hc) pl.isList (by simpa using RZ.intsAre_vals r) (by unfold scanBound; omega) ?_
  rintro s2 ⟨h', tk, c, rfl, R, hcl, hk⟩
  refine PyProof.Rows.args_nil ?_
  have few : c < 64 := by
    obtain ⟨o, es, ep, t, ho, hex, hd, g, nd, hm, hb, hf, hn, hr, hle⟩ := R
    have := few_keys nd fun k hk2 => hs k (of_decide_eq_true ((hm k).mpr hk2))
    rw [List.length_map, Array.length_toList] at this
    omega
  have I2 : Inv X pins σ H1 { s1 with heap := h', toks := tk } := I1.kept hk
  refine sorted_set R (I2.ok.hd hc) few fun s3 p out c3 ms k3 g3 o3 hp hg3 hi3 pw hmem hlen => ?_
  have hn : H1 p = none := I2.hok.fresh hp
  have vs : Vals (ms.map V.int) out.toList := vals_ints hi3
  have hz3 : (ms.map V.int).length ≤ sizeLine := by rw [List.length_map, hlen, sizeLine_eq]; omega
  have J : L2.Inv X pins σ (upd H1 p (.lst (ms.map V.int))) s3 := I2.call' (ch := []) o3 (Un.laid k3 hp hn) (I2.hok.laid (o := .lst (ms.map V.int)) k3 hp ⟨hz3, out.toList, c3, vs, hg3⟩) (by rw [g3]; exact I2.bare) (fun _ z => nomatch z)
  exact ⟨.ref p, _, J, rfl, q1 p ms hn pw fun k => by rw [hmem k, decide_eq_true_eq]⟩
section
variable {X : Cx} {Ψ : AX} {a : Expr} {E : AEnv} {S : Sto} {Φ : W → Sto → Prop} {pos : Pos}
theorem vws_of_ints {M : Lay} {H : Hp} : ∀ ms : List Int, VWs M H (ms.map V.int) (ms.map W.int)
  | [] => .nil
  | m :: ms => .cons (.int m) (vws_of_ints ms)
def sSortSet (w : W) (S : Sto) (Φ : W → Sto → Prop) : Prop := ∃ l : List Int, itemsW S w = some (l.map W.int) ∧ (∀ z, w ≠ .tup z) ∧ l.length ≤ 4000 ∧ (∀ k ∈ l, 0 ≤ k ∧ k < 60) ∧ ∀ ms : List Int, ms.Pairwise (· < ·) → (∀ k, k ∈ ms ↔ k ∈ l) → Φ (.lst (ms.map W.int)) S
theorem xE_sortSet {p p2 q : Pos} (hl : X.mg "sorted" = none) (hs : X.mg "set" = none) (h : wE X Ψ a E S fun w S1 => sSortSet w S1 Φ) (hc : X.calm = true := by rfl) (hg : Gl X "sorted" := by rfl) (hg2 : Gl X "set" := by rfl)
    (na : starEach [a] X.env = (false, eval a X.env) :: starEach [] X.env := by rfl) : wE X Ψ (.Call (.Name "sorted" p) [.Call (.Name "set" p2) [a] [] q] [] pos) E S Φ :=
  wE.of (pe_sortSet hg hl hg2 hs pe_sem hc na) fun M σ H r ev x Q q => h.run M σ H r ev x _ fun v w M1 S1 H1 ⟨l, e, nt, n, k, p⟩ r1 a1 s1 => by
    obtain ⟨ad, xs, rfl, rv, kk⟩ := seq_of (K := X.K) r1 a1 e
    have ex := vws_ints l rv
    subst ex
    rcases kk with ⟨kk, _⟩ | ⟨_, y, ey⟩
    · refine ⟨_, l, rfl, kk, n, k, fun pa ms hn pw hm => ?_⟩
      exact q _ _ M1 S1 _ (p ms pw hm) (r1.tmp hn) (lq_new r1 hn (vws_of_ints ms)) (s1.trans (step_tmp r1 hn))
    · exact absurd ey (nt y)
end

-- AM52
section
variable {X : Cx} {Ψ : AX} {a b c o e : Expr} {E : AEnv} {S : Sto} {Φ : W → Sto → Prop} {pos : Pos}
/-! ### max of a list of ints; d.get(k, x) -/
def sMaxL (w : W) (S : Sto) (Φ : W → Sto → Prop) : Prop := ∃ l : List Int, itemsW S w = some (l.map W.int) ∧ (∀ z, w ≠ .tup z) ∧ 0 < l.length ∧ ∀ m, m ∈ l → (∀ y, y ∈ l → y ≤ m) → Φ (.int m) S
theorem xE_maxL {p : Pos} (hm : X.mg "max" = none) (h : wE X Ψ e E S fun w S1 => sMaxL w S1 Φ) (hc : X.calm = true := by rfl) (hg : Gl X "max" := by rfl) (he : starEach [e] X.env = (false, eval e X.env) :: starEach [] X.env := by rfl) (hpl : (backTo pos (starEach [] X.env)).any (·.1) = false := by rfl) : wE X Ψ (.Call (.Name "max" p) [e] [] pos) E S Φ :=
  wE_callB (g := fun us S Φ => ∃ w, us = [w] ∧ sMaxL w S Φ) (cr_max hc) (callw_one (fun M H S v w Φ r a ⟨w', e, l, hi, nt, hl, p⟩ Q q => by
    cases e
    obtain ⟨ad, xs, rfl, rv, kk⟩ := seq_of (K := X.K) r a hi
    have ex := vws_ints l rv
    subst ex
    rcases kk with ⟨kk, _⟩ | ⟨_, y, ey⟩
    · exact ⟨ad, l, rfl, kk, hl, fun m h1 h2 => q _ _ M S H (p m h1 h2) r (.int _) (Step.refl _ _)⟩
    · exact absurd ey (nt y)) fun ws S Φ ⟨w, e, _⟩ => ⟨_, e⟩) hm boot_max (wA_cons (h.imp fun w S1 p => wA_nil ⟨w, rfl, p⟩) he) hg (by decide) (by decide) he hpl
def isDW (S : Sto) (x : W) : Prop := ∃ k, x = .ref k ∧ ((∃ kw, S[k]? = some (.dk kw)) ∨ ∃ kw, S[k]? = some (.dt kw))
def sGet2 (x y z : W) (S : Sto) (Φ : W → Sto → Prop) : Prop := ∃ k o, x = .ref k ∧ dgetW S k y = some o ∧ Φ (o.getD z) S
theorem sGet2_i {k : Nat} {o : Option W} {y z : W} (h1 : dgetW S k y = some o) (h : Φ (o.getD z) S) : sGet2 (.ref k) y z S Φ := ⟨k, o, rfl, h1, h⟩
theorem xE_dget2 {apos : Pos} (hu : X.A.units + 1 < cLine) (m : M2 X o "get" apos a b pos) (h : wE X Ψ o E S fun x S1 => isDW S1 x ∧ wE X Ψ a E S1 fun y S2 => wE X Ψ b E S2 fun z S3 => sGet2 x y z S3 Φ) : wE X Ψ (.Call (.Attribute o "get" apos) [a, b] [] pos) E S Φ :=
  wE.of (pe_dget2 hu pe_sem pe_sem pe_sem m) fun M σ H r ev xo Q q => h.run M σ H r ev xo _ fun v x M1 S1 H1 ⟨hd, h1⟩ r1 a1 s1 => by
    obtain ⟨k, rfl, hk⟩ := hd
    obtain ⟨p, hp⟩ : ∃ p, v = V.ref p ∧ IsD H1 p := by
      rcases hk with ⟨kw, hk⟩ | ⟨kw, hk⟩
      · obtain ⟨p, ho, e1, e2, bo⟩ := r1.at' hk
        cases a1 with
        | ref em =>
          rw [em] at e1
          cases e1
          cases bo with
          | dk _ => exact ⟨_, rfl, .inl ⟨_, .inl e2⟩⟩
      · obtain ⟨p, ho, e1, e2, bo⟩ := r1.at' hk
        cases a1 with
        | ref em =>
          rw [em] at e1
          cases e1
          cases bo with
          | dt _ => exact ⟨_, rfl, .inr ⟨_, .inl e2⟩⟩
    obtain ⟨rfl, isd⟩ := hp
    refine ⟨p, rfl, isd, h1.run M1 σ H1 r1 (ev.step s1) (xo.step s1) _ fun y yw M2 S2 H2 h2 r2 a2 s2 => ?_⟩
    refine h2.run M2 σ H2 r2 ((ev.step s1).step s2) ((xo.step s1).step s2) _ fun z zw M3 S3 H3 h3 r3 a3 s3 => ?_
    obtain ⟨k', o, e, hg, pf⟩ := h3
    cases e
    obtain ⟨p', o', ep, dg, hs, hn⟩ := dget_vw (x := .non) r3 (VW.step s3 _ _ (VW.step s2 _ _ a1)) (VW.step s3 _ _ a2) hg
    cases ep
    refine ⟨o', dg, ?_⟩
    cases o with
    | none =>
      rw [hn rfl]
      exact q _ _ M3 S3 H3 pf r3 a3 ((s1.trans s2).trans s3)
    | some u =>
      obtain ⟨z', ez, az⟩ := hs u rfl
      rw [ez]
      exact q _ _ M3 S3 H3 pf r3 az ((s1.trans s2).trans s3)
/-! ### list of a text -/
def signsL (x : Str) : List Str := x.cps.toList.map fun c => ⟨#[c]⟩
theorem vals_of_signs : ∀ (l : List Nat) (vs : List Value), vs.length = l.length → (∀ (j : Nat) v, vs[j]? = some v → ∃ c u, l[j]? = some c ∧ v = Value.str ⟨#[c]⟩ u) → Vals ((l.map fun c => (⟨#[c]⟩ : Str)).map V.str) vs
  | [], [], _, _ => .nil
  | c :: l, v :: vs, e, h => by
    obtain ⟨c', u, h1, rfl⟩ := h 0 v rfl
    cases h1
    exact .cons ⟨u, rfl⟩ (vals_of_signs l vs (Nat.succ.inj e) fun j v hv => h (j + 1) v hv)
theorem vals_signs {x : Str} {acc : Array Value} (h : ItemsOf (SignAt x) acc x.cps.size) : Vals ((signsL x).map V.str) acc.toList :=
  vals_of_signs _ _ (by rw [Array.length_toList, Array.length_toList]; exact h.1) fun j v hv => by
    obtain ⟨c, u, h1, h2⟩ := h.2 j v (by rw [← Array.getElem?_toList]; exact hv)
    exact ⟨c, u, by rw [Array.getElem?_toList]; exact h1, h2⟩
theorem cr_listStr (hc : X.calm = true) : CallR X (.type "list") (fun xs H Q => ∃ x : Str, xs = [V.str x] ∧ x.cps.size ≤ sizeLine ∧ rNewStrs (signsL x) H Q) := by
  intro pins s σ H xs us Q I r h
  obtain ⟨x, rfl, hz, h⟩ := h
  cases r with
  | cons r1 r2 =>
    cases r2
    obtain ⟨t, rfl⟩ := r1
    refine call_list_str (hn := hz) (I.ok.hd hc) x t fun h' tk acc n k g it => ?_
    have hn := I.hok.fresh (Nat.le_refl s.heap.objs.size)
    have hl : ((signsL x).map V.str).length ≤ sizeLine := by rw [List.length_map, signsL, List.length_map, Array.length_toList]; exact hz
    exact ⟨.ref s.heap.objs.size, upd H s.heap.objs.size (.lst ((signsL x).map V.str)), I.laid k (Nat.le_refl _) ⟨hl, acc.toList, n, vals_signs it, g⟩, rfl, h _ hn⟩
def sListS (w : W) (S : Sto) (Φ : W → Sto → Prop) : Prop := ∃ x : Str, w = .str x ∧ x.length ≤ sizeLine ∧ Φ (.lst ((signsL x).map W.str)) S
theorem sListS_i {x : Str} (h1 : x.length ≤ sizeLine) (h : Φ (.lst ((signsL x).map W.str)) S) : sListS (.str x) S Φ := ⟨x, rfl, h1, h⟩
theorem strs_vws {M : Lay} {H : Hp} : ∀ l : List Str, VWs M H (l.map V.str) (l.map W.str)
  | [] => .nil
  | m :: ms => .cons (.str m) (strs_vws ms)
theorem xE_listStr {p : Pos} (hm : X.mg "list" = none) (h : wE X Ψ e E S fun w S1 => sListS w S1 Φ) (hc : X.calm = true := by rfl) (hg : Gl X "list" := by rfl) (he : starEach [e] X.env = (false, eval e X.env) :: starEach [] X.env := by rfl) (hpl : (backTo pos (starEach [] X.env)).any (·.1) = false := by rfl) : wE X Ψ (.Call (.Name "list" p) [e] [] pos) E S Φ :=
  wE_callTy (g := fun us S Φ => ∃ w, us = [w] ∧ sListS w S Φ) (cr_listStr hc) (callw_one (fun M H S v w Φ r a ⟨w', e, x, e1, h1, p⟩ Q q => by
    cases e
    subst e1
    cases a
    exact ⟨x, rfl, h1, fun pa hn => q _ _ M S _ p (r.tmp hn) (lq_new r hn (strs_vws _)) (step_tmp r hn)⟩) fun ws S Φ ⟨w, e, _⟩ => ⟨_, e⟩) hm boot_list (wA_cons (h.imp fun w S1 p => wA_nil ⟨w, rfl, p⟩) he) hg (by decide) (by decide) he hpl
end

-- AM53
section
variable {X : Cx} {Ψ : AX} {elt iter a b o e : Expr} {E : AEnv} {S : Sto} {Φ : W → Sto → Prop} {ΦS : List W → Sto → Prop} {pos : Pos}
/-! ### list comprehensions over pairs -/
theorem lc2_abs {tg : Expr} {scope : Scope} {j k : Nat} (hjk : j ≠ k) {f : IfK} {M : Lay} {σ : L2.St} {H : Hp} (r : Rep M H S) (ev : EvOk M H σ E) (xo : ExcOk X M H Ψ) {Q : VK}
    (h : wI X Ψ tg iter E S fun ws still S1 => ∃ I : Nat → List W → Sto → Prop, I 0 [] S1 ∧ (∀ i acc S', I i acc S' → still S' ∧ acc.length ≤ 100000) ∧
      (∀ i w acc S', ws[i]? = some w → I i acc S' → ∃ u1 u2, w = .tup [u1, u2] ∧ Turn1 X scope f elt ((((E.set k none).set j none).set j (some u1)).set k (some u2)) S' (fun y S4 => I (i + 1) (acc ++ [y]) S4) fun S3 => I (i + 1) acc S3) ∧ ∀ acc S', I ws.length acc S' → ΦS acc S')
    (q : ∀ D M1 H1 m2 S' accV acc H', H1 D = none → D ∉ M1.h → Step M H M1 H1 → Step M1 H1 ⟨m2, M1.h⟩ H' → Rep ⟨m2, D :: M1.h⟩ H' S' → H' D = some (.lst accV) → VWs ⟨m2, D :: M1.h⟩ H' accV acc → ΦS acc S' → Q (.ref D) H') :
    tLc (semI X tg iter) (gTup X.K 2 (gCons (gName j) (gCons (gName k) gNil))) (f.tt X scope) (semBk X scope elt) [j, k] σ H Q := by
  refine h.run M σ H r ev xo _ fun J vs ys ws still M1 S1 H1 ⟨I, h0, hst, hturn, hd⟩ hs1 r1 s1 ay it => ?_
  intro D hD
  have wp : ∀ (s : L2.St) (v v' : V), wipe (((wipe s [j, k]).set j (some v)).set k (some v')) [j, k] = wipe s [j, k] := fun s v v' => by
    show ((((((s.set k none).set j none).set j (some v)).set k (some v')).set k none).set j none) = (s.set k none).set j none
    rw [List.set_set, List.set_set, List.set_comm _ _ hjk, List.set_set, List.set_set]
  have r1h : Rep (M1.hid D) (upd H1 D (.lst [])) S1 := r1.hide hD
  have ev1 := evok_wipe (evok_wipe (ev.step s1) k) j
  have evh : EvOk (M1.hid D) (upd H1 D (.lst [])) ((σ.set k none).set j none) ((E.set k none).set j none) := ⟨ev1.1, fun i w h => by
    obtain ⟨v, h1, h2⟩ := ev1.2 i w h
    exact ⟨v, h1, hid_vw r1 hD h2⟩⟩
  refine ⟨fun i m H' => m = ws.length - i ∧ i ≤ ws.length ∧ LcInv M1 H1 D ((σ.set k none).set j none) ((E.set k none).set j none) vs ys I i H', ⟨_, rfl, Nat.zero_le _, ⟨M1.m, S1, [], [], step_free (Step.refl _ _) hD, r1h, upd_same, .nil, h0, hid_vws r1 hD ay, evh⟩⟩, ?_⟩
  rintro i m H' ⟨rfl, hi, ⟨m2, S', accV, acc, s', r', hDl, aacc, hI, ay', ev'⟩⟩
  obtain ⟨hst1, hacc⟩ := hst i acc S' hI
  by_cases hlt : i < ws.length
  · refine .inr ⟨it.go _ H' S' i ay' r' hst1 hlt, fun H2 => LcInv M1 H1 D ((σ.set k none).set j none) ((E.set k none).set j none) vs ys I (i + 1) H2, fun H2 hh => ⟨ws.length - (i + 1), by omega, rfl, hlt, hh⟩, fun v H2 hy => ?_⟩
    obtain ⟨w, hw, aw, r2, s2⟩ := it.yld _ H' S' i v H2 ay' r' hst1 hy hlt
    obtain ⟨u1, u2, rfl, t⟩ := hturn i w acc S' hw hI
    obtain ⟨ad, v1, v2, rfl, sq, a1, a2⟩ : ∃ ad v1 v2, v = V.ref ad ∧ SqT X.K H2 ad [v1, v2] ∧ VW ⟨m2, D :: M1.h⟩ H2 v1 u1 ∧ VW ⟨m2, D :: M1.h⟩ H2 v2 u2 := by
      cases aw with
      | tup q r =>
        cases r with
        | cons b1 r =>
          cases r with
          | cons b2 r =>
            cases r
            exact ⟨_, _, _, rfl, q.sq, b1, b2⟩
    have ev2 : EvOk ⟨m2, D :: M1.h⟩ H2 (((wipe σ [j, k]).set j (some v1)).set k (some v2)) ((((E.set k none).set j none).set j (some u1)).set k (some u2)) := ((ev'.step s2).set a1 j).set a2 k
    have hD2 : H2 D = some (.lst accV) := s2.keep D _ hDl (fun ps z => nomatch z) (r'.hid D List.mem_cons_self).2
    have fin : ∀ (M3 : Lay) (S3 : Sto) (H3 : Hp), I (i + 1) acc S3 → Rep M3 H3 S3 → Step ⟨m2, D :: M1.h⟩ H2 M3 H3 → LcInv M1 H1 D ((σ.set k none).set j none) ((E.set k none).set j none) vs ys I (i + 1) H3 := by
      intro M3 S3 H3 p r3 s3
      have e : M3 = ⟨M3.m, D :: M1.h⟩ := by
        have z := s3.hold
        cases M3
        simp only at z
        rw [z]
      have s23 := s2.trans s3
      rw [e] at r3 s23
      exact ⟨M3.m, S3, accV, acc, step_behind s' hD (by rw [e]; exact s23), r3, s3.keep D _ hD2 (fun ps z => nomatch z) (r2.hid D List.mem_cons_self).2, VWs.step s23 _ _ aacc, p, VWs.step s23 _ _ ay', ev'.step s23⟩
    have finY : ∀ (M3 : Lay) (S3 : Sto) (H3 : Hp) y yw, I (i + 1) (acc ++ [yw]) S3 → Rep M3 H3 S3 → VW M3 H3 y yw → Step ⟨m2, D :: M1.h⟩ H2 M3 H3 → ∃ acc, H3 D = some (.lst acc) ∧ acc.length < sizeLine ∧ LcInv M1 H1 D ((σ.set k none).set j none) ((E.set k none).set j none) vs ys I (i + 1) (upd H3 D (.lst (acc ++ [y]))) := by
      intro M3 S3 H3 y yw p r3 ayw s3
      have e : M3 = ⟨M3.m, D :: M1.h⟩ := by
        have z := s3.hold
        cases M3
        simp only at z
        rw [z]
      have s23 := s2.trans s3
      have sb := step_behind s' hD s23
      rw [e] at r3 s23 ayw
      have hD3 : H3 D = some (.lst accV) := s3.keep D _ hD2 (fun ps z => nomatch z) (r2.hid D List.mem_cons_self).2
      have mD : D ∈ (⟨M3.m, D :: M1.h⟩ : Lay).h := List.mem_cons_self
      have nt : (∀ ps, HO.lst accV ≠ .tbl ps) ∧ ∀ f, HO.lst accV ≠ .ext f := ⟨fun ps z => (nomatch z), fun f z => (nomatch z)⟩
      refine ⟨accV, hD3, Nat.lt_of_le_of_lt (by rw [aacc.length]; exact hacc) (by decide), ⟨M3.m, S3, _, acc ++ [yw], step_free sb hD, (step_over r3 mD hD3 nt).2, upd_same, ?_, p, vws_over r3 mD hD3 nt (VWs.step s23 _ _ ay'), evok_over r3 mD hD3 nt (ev'.step s23)⟩⟩
      exact (vws_over r3 mD hD3 nt (VWs.step s23 _ _ aacc)).append (.cons ((step_over r3 mD hD3 nt).1 _ _ ayw) .nil)
    refine ⟨ad, [v1, v2], rfl, sq, rfl, v1, [v2], rfl, v2, [], rfl, rfl, wp σ v1 v2, ?_⟩
    cases f with
    | no =>
      refine fun s H0 C cl fp => ?_
      exact ((show ∀ s H0 C cl fp, wE (Cx.bk X scope s H0 C cl fp) nox elt _ S' _ from t) s H0 C cl fp).run _ _ H2 r2 ev2 exc_nox _ fun y yw M3 S3 H3 p r3 ayw s3 => finY M3 S3 H3 y yw p r3 ayw s3
    | one c =>
      intro s H0 C cl fp
      refine ((show ∀ s H0 C cl fp, wT (Cx.bk X scope s H0 C cl fp) nox c _ S' _ from t) s H0 C cl fp).run _ _ H2 r2 ev2 exc_nox _ fun b M3 S3 H3 p r3 s3 => ?_
      cases b with
      | true =>
        refine iteT fun s H0 C cl fp => ?_
        exact ((show ∀ s H0 C cl fp, wE (Cx.bk X scope s H0 C cl fp) nox elt _ S3 _ from p) s H0 C cl fp).run _ _ H3 r3 (ev2.step s3) exc_nox _ fun y yw M4 S4 H4 p r4 ayw s4 => finY M4 S4 H4 y yw p r4 ayw (s3.trans s4)
      | false => exact iteF (fin M3 S3 H3 p r3 s3)
  · have e : i = ws.length := by omega
    subst e
    exact .inl ⟨it.stop _ H' S' _ ay' r' hst1 (Nat.le_refl _), q D M1 H1 m2 S' accV acc H' hD (r1.free hD).2 s1 s' r' hDl aacc (hd acc S' hI)⟩
end

-- AM54
section
variable {X : Cx} {Ψ : AX} {a b : Expr} {E : AEnv} {S : Sto} {Φ : W → Sto → Prop} {pos : Pos}
/-! ### slices of texts; a list times an int -/
def sSlS (x : W) (l u : Option Int) (S : Sto) (Φ : W → Sto → Prop) : Prop := ∃ z : Str, x = .str z ∧ z.length ≤ sizeLine ∧ Φ (.str (cutS z l u)) S
theorem sSlS_i {z : Str} {l u : Option Int} (hl : z.length ≤ sizeLine) (h : Φ (.str (cutS z l u)) S) : sSlS (.str z) l u S Φ := ⟨z, rfl, hl, h⟩
theorem xE_slS {lo hi : Option Expr} {p2 : Pos} (h : wE X Ψ a E S fun x S1 => wO X Ψ lo E S1 fun l S2 => wO X Ψ hi E S2 fun u S3 => sSlS x l u S3 Φ) : wE X Ψ (.Subscript a (.Slice lo hi none p2) pos) E S Φ :=
  wE_slice (g := sSlS) sl_str (fun M H S v x l u Φ r a1 ⟨z, e1, hl, p⟩ Q q => by
    subst e1
    cases a1
    exact ⟨z, rfl, hl, q _ _ M S H p r (.str _) (Step.refl _ _)⟩) h
theorem wS_setLc2 {x y z : Str} {px py pt pz : Pos} {nt : Nat} {scope : Scope} {elt iter : Expr} {A : AE} (i j k : Nat) (hjk : j ≠ k) (f : IfK) (hc : X.calm = true) (hN : X.N.Nodup) (ok : BlkOk X.N X.env.scope scope [(x, j), (y, k)])
    (h : wI X Ψ (.Tuple [.Name x px, .Name y py] nt pt) iter E S fun ws still S1 => ∃ I : Nat → List W → Sto → Prop, I 0 [] S1 ∧ (∀ i acc S', I i acc S' → still S' ∧ acc.length ≤ 100000) ∧
      (∀ i w acc S', ws[i]? = some w → I i acc S' → ∃ u1 u2, w = .tup [u1, u2] ∧ Turn1 X scope f elt ((((E.set k none).set j none).set j (some u1)).set k (some u2)) S' (fun y S4 => I (i + 1) (acc ++ [y]) S4) fun S3 => I (i + 1) acc S3) ∧ ∀ acc S', I ws.length acc S' → A.nx (E.set i (some (.lst acc))) S')
    (hx : ∀ (s : Shared) (H : Hp) (C : Addr) (cl : List (Str × Addr)) (fp : List Addr), PG (Cx.bk X scope s H C cl fp) (.Tuple [.Name x px, .Name y py] nt pt) (gTup X.K 2 (gCons (gName j) (gCons (gName k) gNil))))
    {epos spos : Pos} (hsw : swapsWith (.ListComp elt [⟨.Tuple [.Name x px, .Name y py] nt pt, iter, f.exs, 0⟩] scope epos) (some (.Name z pz)) spos.line X.env = pure true) (hz : X.N[i]? = some z := by rfl) (hzl : X.env.scope.names.lookup z = some .local := by rfl)
    (hs : ∀ x, foldedSetIterable iter X.env x = pure x := by intro _; rfl) : wS X Ψ (.Assign [.Name z pz] (.ListComp elt [⟨.Tuple [.Name x px, .Name y py] nt pt, iter, f.exs, 0⟩] scope epos) spos) E S A :=
  wS.of (ps_setLc (own := [(x, j), (y, k)]) hc hN hz hzl hsw pi_sem ok hx (pts_bk f) (fun s H C cl fp => pe_bk s H C cl fp) hs) fun M σ H r ev xo D q =>
    lc2_abs (ΦS := fun acc S' => A.nx (E.set i (some (.lst acc))) S') hjk r ev xo h (got_lc (Φ := fun w S' => A.nx (E.set i (some w)) S') (Q := fun v H1 => gName i v σ H1 D.nx) fun v w M2 S2 H2 p r2 a2 s2 => q.nx _ _ M2 S2 H2 p r2 ((ev.step s2).set a2 i) s2)
end

-- G_k18
def top (i : Nat) : Stmt := PySem.Challenge.pw_phonehall_k18_texts_refused.main.body.getD i (.Pass ⟨0, 0, 0, 0⟩)
structure GL (mg : Str → Option Value) : Prop where
  b_isinstance : mg "isinstance" = none
  b_int : mg "int" = none
  b_bool : mg "bool" = none
  b_tuple : mg "tuple" = none
  b_str : mg "str" = none
  b_list : mg "list" = none
  b_len : mg "len" = none
  b_range : mg "range" = none
  b_enumerate : mg "enumerate" = none
  b_sorted : mg "sorted" = none
  b_set : mg "set" = none
  b_zip : mg "zip" = none
  b_max : mg "max" = none
  c_PHONES : MgI mg "PHONES" 6
  c_NUMBERS : MgI mg "NUMBERS" 8
  c_MOST_LATE : MgI mg "MOST_LATE" 9
  c_MOST_WISHES : MgI mg "MOST_WISHES" 24
  c_ALL : MgS mg "ALL" "all"
  c_BUSY : MgS mg "BUSY" "busy"
  c_LATE : MgS mg "LATE" "late"
  c_WAIT : MgS mg "WAIT" "wait"
  c_STILL : MgS mg "STILL" "still"
  c_BAR : MgS mg "BAR" "bar"
  c_GROUP : MgS mg "GROUP" "group"
  c_MOST_DEEDS : MgI mg "MOST_DEEDS" 200
  c_WISH : MgS mg "WISH" "wish"
  c_FIGURES : MgS mg "FIGURES" "0123456789"
section
abbrev s_BadWish_init : Stmt := (inClass (top 2) 0)
theorem sc_BadWish_init : FnScope ["self", "number"] ["self", "number"] (defScope s_BadWish_init) := ⟨rfl, rfl, rfl, by decide +kernel, rfl, by decide +kernel, by decide +kernel⟩
abbrev s_BadDeed_init : Stmt := (inClass (top 7) 0)
theorem sc_BadDeed_init : FnScope ["self", "number"] ["self", "number"] (defScope s_BadDeed_init) := ⟨rfl, rfl, rfl, by decide +kernel, rfl, by decide +kernel, by decide +kernel⟩
abbrev s_BadText_init : Stmt := (inClass (top 8) 0)
theorem sc_BadText_init : FnScope ["self", "row"] ["self", "row"] (defScope s_BadText_init) := ⟨rfl, rfl, rfl, by decide +kernel, rfl, by decide +kernel, by decide +kernel⟩
abbrev s_is_number : Stmt := (top 21)
theorem sc_is_number : FnScope ["part", "low", "high"] ["part", "low", "high"] (defScope s_is_number) := ⟨rfl, rfl, rfl, by decide +kernel, rfl, by decide +kernel, by decide +kernel⟩
abbrev s_is_phone : Stmt := (top 22)
theorem sc_is_phone : FnScope ["part"] ["part"] (defScope s_is_phone) := ⟨rfl, rfl, rfl, by decide +kernel, rfl, by decide +kernel, by decide +kernel⟩
abbrev s_are_members : Stmt := (top 23)
theorem sc_are_members : FnScope ["part", "one", "k"] ["part"] (defScope s_are_members) := ⟨rfl, rfl, rfl, by decide +kernel, rfl, by decide +kernel, by decide +kernel⟩
abbrev s_is_wish : Stmt := (top 24)
theorem sc_is_wish : FnScope ["wish", "word", "rest"] ["wish"] (defScope s_is_wish) := ⟨rfl, rfl, rfl, by decide +kernel, rfl, by decide +kernel, by decide +kernel⟩
abbrev s_key_of : Stmt := (top 25)
theorem sc_key_of : FnScope ["wish"] ["wish"] (defScope s_key_of) := ⟨rfl, rfl, rfl, by decide +kernel, rfl, by decide +kernel, by decide +kernel⟩
abbrev s_is_deed : Stmt := (top 31)
theorem sc_is_deed : FnScope ["deed", "most", "k"] ["deed"] (defScope s_is_deed) := ⟨rfl, rfl, rfl, by decide +kernel, rfl, by decide +kernel, by decide +kernel⟩
abbrev s_number_of : Stmt := (top 32)
theorem sc_number_of : FnScope ["word"] ["word"] (defScope s_number_of) := ⟨rfl, rfl, rfl, by decide +kernel, rfl, by decide +kernel, by decide +kernel⟩
abbrev s_thing_of : Stmt := (top 33)
theorem sc_thing_of : FnScope ["words", "numbers", "word"] ["words"] (defScope s_thing_of) := ⟨rfl, rfl, rfl, by decide +kernel, rfl, by decide +kernel, by decide +kernel⟩
abbrev s_read : Stmt := (top 34)
theorem sc_read : FnScope ["text", "wishes", "deeds", "known", "row", "line", "words", "wish", "deed"] ["text"] (defScope s_read) := ⟨rfl, rfl, rfl, by decide +kernel, rfl, by decide +kernel, by decide +kernel⟩
abbrev s_law_taken : Stmt := (top 36)
theorem sc_law_taken : FnScope ["_law_row", "_law_many", "_law_cell"] ["_law_row", "_law_many"] (defScope s_law_taken) := ⟨rfl, rfl, rfl, by decide +kernel, rfl, by decide +kernel, by decide +kernel⟩
abbrev s_law_alike : Stmt := (top 37)
theorem sc_law_alike : FnScope ["_law_found", "_law_due", "_law_k"] ["_law_found", "_law_due"] (defScope s_law_alike) := ⟨rfl, rfl, rfl, by decide +kernel, rfl, by decide +kernel, by decide +kernel⟩
abbrev s_law_word : Stmt := (top 38)
theorem sc_law_word : FnScope ["_law_work", "e", "_law_kinds", "_law_word_here"] ["_law_work"] (defScope s_law_word) := ⟨rfl, rfl, rfl, by decide +kernel, rfl, by decide +kernel, by decide +kernel⟩
abbrev s_law_goal : Stmt := (top 39)
theorem sc_law_goal : FnScope ["_law_row", "_law_phone", "_law_found"] ["_law_row", "_law_phone"] (defScope s_law_goal) := ⟨rfl, rfl, rfl, by decide +kernel, rfl, by decide +kernel, by decide +kernel⟩
abbrev s_law_wish : Stmt := (top 40)
theorem sc_law_wish : FnScope ["_law_row", "_law_word_here", "_law_phone", "_law_other", "_law_some", "_law_one"] ["_law_row"] (defScope s_law_wish) := ⟨rfl, rfl, rfl, by decide +kernel, rfl, by decide +kernel, by decide +kernel⟩
abbrev s_law_wishes : Stmt := (top 41)
theorem sc_law_wishes : FnScope ["_law_row", "_law_most", "_law_found", "_law_known", "_law_k", "_law_wish_here", "_law_key"] ["_law_row", "_law_most"] (defScope s_law_wishes) := ⟨rfl, rfl, rfl, by decide +kernel, rfl, by decide +kernel, by decide +kernel⟩
abbrev s_law_any : Stmt := (top 42)
theorem sc_law_any : FnScope ["_law_row", "_law_most", "_law_found", "_law_k", "_law_word_here", "_law_deed"] ["_law_row", "_law_most"] (defScope s_law_any) := ⟨rfl, rfl, rfl, by decide +kernel, rfl, by decide +kernel, by decide +kernel⟩
abbrev s_law_rows : Stmt := (top 43)
theorem sc_law_rows : FnScope ["_law_wishes_here", "_law_deeds", "_law_rows_here", "_law_thing", "_law_wish_here", "_law_text", "_law_part", "_law_one"] ["_law_wishes_here", "_law_deeds"] (defScope s_law_rows) := ⟨rfl, rfl, rfl, by decide +kernel, rfl, by decide +kernel, by decide +kernel⟩
abbrev s_law_wished : Stmt := (top 44)
theorem sc_law_wished : FnScope ["_law_words", "_law_wishes_here", "_law_word_here", "_law_rest", "_law_one", "_law_known", "_law_wish_here", "_law_some", "_law_good", "_law_many"] ["_law_words", "_law_wishes_here"] (defScope s_law_wished) := ⟨rfl, rfl, rfl, by decide +kernel, rfl, by decide +kernel, by decide +kernel⟩
abbrev s_law_read : Stmt := (top 45)
theorem sc_law_read : FnScope ["_law_text", "_law_wishes_here", "_law_deeds", "_law_lines", "_law_k", "_law_words", "_law_most", "_law_found", "_law_bounds", "_law_good", "_law_word_here", "_law_bound"] ["_law_text"] (defScope s_law_read) := ⟨rfl, rfl, rfl, by decide +kernel, rfl, by decide +kernel, by decide +kernel⟩
abbrev s_law_spoilt : Stmt := (top 46)
theorem sc_law_spoilt : FnScope ["_law_row", "_law_text", "_law_way", "_law_at", "_law_signs", "_law_sign", "_law_lines", "_law_k", "_law_words", "_law_j", "_law_odd"] ["_law_row", "_law_text"] (defScope s_law_spoilt) := ⟨rfl, rfl, rfl, by decide +kernel, rfl, by decide +kernel, by decide +kernel⟩
abbrev s_law : Stmt := (top 47)
theorem sc_law : FnScope ["_law_script", "_law_row", "_law_some", "_law_bars", "_law_k", "_law_turn", "_law_text", "_law_change", "_law_one", "_law_bad", "_law_due"] ["_law_script"] (defScope s_law) := ⟨rfl, rfl, rfl, by decide +kernel, rfl, by decide +kernel, by decide +kernel⟩
structure DS (K : PySem.W.Frag) (mg : Str → Option Value) : Prop where
  d_is_number : DefAt K mg "is_number" "is_number" s_is_number ["part", "low", "high"]
  d_is_phone : DefAt K mg "is_phone" "is_phone" s_is_phone ["part"]
  d_are_members : DefAt K mg "are_members" "are_members" s_are_members ["part"]
  d_is_wish : DefAt K mg "is_wish" "is_wish" s_is_wish ["wish"]
  d_key_of : DefAt K mg "key_of" "key_of" s_key_of ["wish"]
  d_is_deed : DefAt K mg "is_deed" "is_deed" s_is_deed ["deed"]
  d_number_of : DefAt K mg "number_of" "number_of" s_number_of ["word"]
  d_thing_of : DefAt K mg "thing_of" "thing_of" s_thing_of ["words"]
  d_read : DefAt K mg "read" "read" s_read ["text"]
  d_law_taken : DefAt K mg "_law_taken" "_law_taken" s_law_taken ["_law_row", "_law_many"]
  d_law_alike : DefAt K mg "_law_alike" "_law_alike" s_law_alike ["_law_found", "_law_due"]
  d_law_word : DefAt K mg "_law_word" "_law_word" s_law_word ["_law_work"]
  d_law_goal : DefAt K mg "_law_goal" "_law_goal" s_law_goal ["_law_row", "_law_phone"]
  d_law_wish : DefAt K mg "_law_wish" "_law_wish" s_law_wish ["_law_row"]
  d_law_wishes : DefAt K mg "_law_wishes" "_law_wishes" s_law_wishes ["_law_row", "_law_most"]
  d_law_any : DefAt K mg "_law_any" "_law_any" s_law_any ["_law_row", "_law_most"]
  d_law_rows : DefAt K mg "_law_rows" "_law_rows" s_law_rows ["_law_wishes_here", "_law_deeds"]
  d_law_wished : DefAt K mg "_law_wished" "_law_wished" s_law_wished ["_law_words", "_law_wishes_here"]
  d_law_read : DefAt K mg "_law_read" "_law_read" s_law_read ["_law_text"]
  d_law_spoilt : DefAt K mg "_law_spoilt" "_law_spoilt" s_law_spoilt ["_law_row", "_law_text"]
  d_law : DefAt K mg "law" "law" s_law ["_law_script"]
end

local macro_rules | `(tactic| specialize "idx") => `(tactic| (focus ((show Idx _ (List.cons _ _) _); (repeat (first | with_reducible exact Idx.here | with_reducible apply Idx.there)) <;> fail)))
local macro_rules | `(tactic| specialize "okl") => `(tactic| first | ((simp only [W.ok, W.oks, oks_ints, Bool.and_true, Bool.true_and]) <;> fail) | fail)
local macro_rules | `(tactic| specialize "okl") => `(tactic| first | exact oks_ints | fail)
local macro_rules | `(tactic| specialize "okl") => `(tactic| first | exact stW_ok | fail)
local macro_rules | `(tactic| specialize "okl") => `(tactic| first | exact Wish.wok _ | fail)
local macro_rules | `(tactic| specialize "okl") => `(tactic| first | rfl | fail)
local macro_rules | `(tactic| specialize "ok") => `(tactic| first | ((simp only [W.ok, W.oks, oks_ints, Bool.and_true, Bool.true_and]); decide +kernel) | fail)
local macro_rules | `(tactic| specialize "ok") => `(tactic| first | decide +kernel | fail)
local macro_rules | `(tactic| specialize "ok") => `(tactic| first | (refine oks_map ?_ _; intro _; specialize "okl") | fail)
local macro_rules | `(tactic| specialize "ok") => `(tactic| first | ((simp only [W.ok, W.oks, oks_ints, Bool.and_true, Bool.true_and]) <;> fail) | fail)
local macro_rules | `(tactic| specialize "ok") => `(tactic| first | (show PyData.strOk _ = true; assumption) | fail)
local macro_rules | `(tactic| specialize "ok") => `(tactic| first | exact keysT_ok (by decide) | fail)
local macro_rules | `(tactic| specialize "ok") => `(tactic| first | exact keyT_ok (by decide) | fail)
local macro_rules | `(tactic| specialize "ok") => `(tactic| first | exact opt_ok | fail)
local macro_rules | `(tactic| specialize "ok") => `(tactic| first | exact sts_ok | fail)
local macro_rules | `(tactic| specialize "ok") => `(tactic| first | exact stW_ok | fail)
local macro_rules | `(tactic| specialize "ok") => `(tactic| first | exact oks_ints | fail)
local macro_rules | `(tactic| specialize "ok") => `(tactic| first | exact wishes_ok _ | fail)
local macro_rules | `(tactic| specialize "ok") => `(tactic| first | exact Wish.wok _ | fail)
local macro_rules | `(tactic| specialize "ok") => `(tactic| first | assumption | fail)
local macro_rules | `(tactic| specialize "ok") => `(tactic| first | rfl | fail)
local macro_rules | `(tactic| specialize "ev") => `(tactic| ((try simp only [inW_keys, inW_wish, inW_leads, eqW_opt, eqW_intsM, eqW_one, inW_ints, eqW_st, st_in, eqW_nil, eqW_nilT, List.isEmpty_map, eqW_int, eqW_str, eqW_bl, eqW_non, eqW_tt, eqW_t0, eqW_t1, eqW_t2, eqW_ll, eqW_l0, eqW_l1, eqW_l2, eqW_ni, eqW_in, eqW_it, eqW_ti, eqW_is, eqW_si, eqW_tn, eqW_nt, eqW_ints, wish_eq]); exact rfl))
local macro_rules | `(tactic| specialize "tt") => `(tactic| first | (specialize "t2") | fail)
local macro_rules | `(tactic| specialize "tt") => `(tactic| first | decide +kernel | fail)
local macro_rules | `(tactic| specialize "tt") => `(tactic| first | assumption | fail)
local macro_rules | `(tactic| specialize "tt") => `(tactic| first | rfl | fail)
local macro_rules | `(tactic| specialize "nth") => `(tactic| first | ((with_reducible show (List.set _ _ _)[_]? = some _); first | (apply get_set_self; (specialize "nth")) | (refine get_set_ne ?_ ?_; (focus (specialize "ne")); (specialize "nth"))) | fail)
local macro_rules | `(tactic| specialize "nth") => `(tactic| first | ((with_reducible show (_ ++ _)[_]? = some _); refine get_app ?_; (specialize "nth")) | fail)
local macro_rules | `(tactic| specialize "nth") => `(tactic| first | exact nth_new | fail)
local macro_rules | `(tactic| specialize "nth") => `(tactic| first | exact nth_new0 | fail)
local macro_rules | `(tactic| specialize "nth") => `(tactic| first | assumption | fail)
local macro_rules | `(tactic| specialize "nth") => `(tactic| first | rfl | fail)
local macro_rules | `(tactic| specialize "ne") => `(tactic| first | omega | fail)
local macro_rules | `(tactic| specialize "ne") => `(tactic| first | exact Ne.symm (by assumption) | fail)
local macro_rules | `(tactic| specialize "ne") => `(tactic| first | assumption | fail)
local macro_rules | `(tactic| specialize "itm") => `(tactic| first | exact items_of (by (specialize "nth")) | fail)
local macro_rules | `(tactic| specialize "itm") => `(tactic| first | exact (‹∀ S : Sto, itemsW S _ = some _› _) | fail)
local macro_rules | `(tactic| specialize "itm") => `(tactic| first | rfl | fail)
local macro_rules | `(tactic| specialize "fz") => `(tactic| first | exact fz_intsL | fail)
local macro_rules | `(tactic| specialize "fz") => `(tactic| first | exact fz_ints | fail)
local macro_rules | `(tactic| specialize "fz") => `(tactic| first | exact .str _ | fail)
local macro_rules | `(tactic| specialize "fz") => `(tactic| first | exact .int _ | fail)
local macro_rules | `(tactic| specialize "fz") => `(tactic| first | exact .bl _ | fail)
local macro_rules | `(tactic| specialize "fz") => `(tactic| first | exact .non | fail)
local macro_rules | `(tactic| specialize "fd") => `(tactic| exact fin.drop (Nat.le_refl _) (by assumption) (by (specialize "fz")) (by assumption))
local macro_rules | `(tactic| specialize "ci") => `(tactic| first | exact ⟨by decide, by decide⟩ | fail)
local macro_rules | `(tactic| specialize "ci") => `(tactic| first | exact .inr ⟨by decide, by decide⟩ | fail)
local macro_rules | `(tactic| specialize "len") => `(tactic| first | (simp <;> omega) | fail)
local macro_rules | `(tactic| specialize "len") => `(tactic| first | ((with_reducible show dlenW _ _ ≤ _); first | exact dlen_t (by (specialize "nth")) (by (specialize "len")) | exact dlen_k (by (specialize "nth")) (by (specialize "len"))) | fail)
local macro_rules | `(tactic| specialize "len") => `(tactic| first | assumption | fail)
local macro_rules | `(tactic| specialize "len") => `(tactic| first | omega | fail)
local macro_rules | `(tactic| specialize "len") => `(tactic| first | decide | fail)
local macro_rules | `(tactic| specialize "ix") => `(tactic| first | exact atI_map (by (specialize "rng")) (by (specialize "rng")) | fail)
local macro_rules | `(tactic| specialize "ix") => `(tactic| first | exact atI_ints (by (specialize "rng")) (by (specialize "rng")) | fail)
local macro_rules | `(tactic| specialize "ix") => `(tactic| first | rfl | fail)
local macro_rules | `(tactic| specialize "rng") => `(tactic| first | (simp only [List.mem_range, len_ints] at *; omega) | fail)
local macro_rules | `(tactic| specialize "rng") => `(tactic| first | omega | fail)
local macro_rules | `(tactic| specialize "fi") => `(tactic| (first | refine fin.as (by assumption) | refine fin.eq (by assumption) (by first | rfl | (specialize "t2") | (congr 1; specialize "t2"))))
local macro_rules | `(tactic| specialize "dg") => `(tactic| first | exact dput_k (by (specialize "nth")) rfl | fail)
local macro_rules | `(tactic| specialize "dg") => `(tactic| first | exact dget_k (by (specialize "nth")) rfl | fail)
local macro_rules | `(tactic| specialize "dg") => `(tactic| first | exact dput_t (by (specialize "nth")) (keysW_map _) | fail)
local macro_rules | `(tactic| specialize "dg") => `(tactic| first | exact dput_t (by (specialize "nth")) rfl | fail)
local macro_rules | `(tactic| specialize "dg") => `(tactic| first | exact dget_t (by (specialize "nth")) (keysW_map _) | fail)
local macro_rules | `(tactic| specialize "dg") => `(tactic| first | exact dget_t (by (specialize "nth")) rfl | fail)
local macro_rules | `(tactic| specialize "dg") => `(tactic| first | assumption | fail)
local macro_rules | `(tactic| specialize "dg") => `(tactic| first | rfl | fail)
local macro_rules | `(tactic| specialize "gg") => `(tactic| first | ((with_reducible show wG _ _ (Expr.Attribute _ _ _) _ _ _ _); refine xG_fld ?_) | fail)
local macro_rules | `(tactic| specialize "gg") => `(tactic| first | ((with_reducible show wG _ _ (Expr.Tuple _ _ _) _ _ _ _); refine xG_tup rfl (by (repeat (first | exact Each.nil | refine Each.cons rfl ?_))) ?_) | fail)
local macro_rules | `(tactic| specialize "gg") => `(tactic| first | ((with_reducible show wG _ _ (Expr.Name _ _) _ _ _ _); refine' xG_name ?k1 (of_decide_eq_true (by kernel_rfl)) ?_; (case k1 => (specialize "idx"))) | fail)
local macro_rules | `(tactic| specialize "st") => `(tactic| first | ((with_reducible show wS _ _ (Stmt.Continue _) _ _ _); refine wS_cont ?_) | fail)
local macro_rules | `(tactic| specialize "st") => `(tactic| first | ((with_reducible show wS _ _ (Stmt.Break _) _ _ _); refine wS_break ?_) | fail)
local macro_rules | `(tactic| specialize "st") => `(tactic| first | ((with_reducible show wS _ _ (Stmt.Pass _) _ _ _); refine wS_pass ?_) | fail)
local macro_rules | `(tactic| specialize "st") => `(tactic| first | ((with_reducible show wS _ _ (Stmt.Return none _) _ _ _); refine wS_retN ?_) | fail)
local macro_rules | `(tactic| specialize "st") => `(tactic| first | ((with_reducible show wS _ _ (Stmt.Expr _ _) _ _ _); refine wS_expr ?_) | fail)
local macro_rules | `(tactic| specialize "st") => `(tactic| first | ((with_reducible show wS _ _ (Stmt.Assign [Expr.Subscript _ _ _] _ _) _ _ _); refine xS_dput (Room.u65 (by assumption)) ?_) | fail)
local macro_rules | `(tactic| specialize "st") => `(tactic| first | ((with_reducible show wS _ _ (Stmt.Assign [Expr.Tuple _ _ _] _ _) _ _ _); refine xS_asg ?_) | fail)
local macro_rules | `(tactic| specialize "st") => `(tactic| first | ((with_reducible show wS _ _ (Stmt.Assign [Expr.Attribute _ _ _] _ _) _ _ _); refine xS_fld ?_) | fail)
local macro_rules | `(tactic| specialize "st") => `(tactic| first | ((with_reducible show wS _ _ (Stmt.Assign [Expr.Tuple [Expr.Name _ _, Expr.Name _ _] _ _] (Expr.Tuple [_, _] _ _) _) _ _ _); refine' xS_par ?k1 ?k2 rfl (of_decide_eq_true (by kernel_rfl)) ?_ ?k3; (case k1 => (specialize "idx")); (case k2 => (specialize "idx")); (case k3 => decide)) | fail)
local macro_rules | `(tactic| specialize "st") => `(tactic| first | ((with_reducible show wS _ _ (Stmt.Assign [Expr.Name _ _] _ _) _ _ _); refine' xS_set ?k1 (of_decide_eq_true (by kernel_rfl)) ?_; (case k1 => (specialize "idx"))) | fail)
local macro_rules | `(tactic| specialize "st") => `(tactic| first | ((with_reducible show wS _ _ (Stmt.Assign [Expr.Attribute _ _ _] (Expr.List [] _) _) _ _ _); refine xS_fld ?_; refine xE_lstN ?_) | fail)
local macro_rules | `(tactic| specialize "st") => `(tactic| first | ((with_reducible show wS _ _ (Stmt.Assign [Expr.Name _ _] (Expr.List [] _) _) _ _ _); refine' xS_set ?k1 (of_decide_eq_true (by kernel_rfl)) ?_; (case k1 => (specialize "idx")); refine xE_lstN ?_) | fail)
local macro_rules | `(tactic| specialize "st") => `(tactic| first | ((with_reducible show wS _ _ (Stmt.Assign [Expr.Name _ _] (Expr.ListComp _ _ _ _) _) _ _ _); (specialize "lcS")) | fail)
local macro_rules | `(tactic| specialize "st") => `(tactic| first | ((with_reducible show wS _ _ (Stmt.If _ _ _ _) _ _ _); refine xS_if ?_) | fail)
local macro_rules | `(tactic| specialize "st") => `(tactic| first | ((with_reducible show wS _ _ (Stmt.Return (some _) _) _ _ _); refine wS_ret ?_) | fail)
local macro_rules | `(tactic| specialize "co") => `(tactic| first | ((with_reducible show wE _ _ (Expr.Constant Const.none _ _) _ _ _); refine wE_non ?_) | fail)
local macro_rules | `(tactic| specialize "co") => `(tactic| first | ((with_reducible show wE _ _ (Expr.Constant (Const.bool _) _ _) _ _ _); refine wE_bl ?_) | fail)
local macro_rules | `(tactic| specialize "co") => `(tactic| first | ((with_reducible show wE _ _ (Expr.Constant (Const.str _) _ _) _ _ _); refine wE_str ?_) | fail)
local macro_rules | `(tactic| specialize "co") => `(tactic| first | ((with_reducible show wE _ _ (Expr.Constant (Const.int _) _ _) _ _ _); refine wE_int ?_) | fail)
local macro_rules | `(tactic| specialize "cmp") => `(tactic| first | ((with_reducible show wE _ _ (Expr.Compare _ [CmpOp.LtE, CmpOp.LtE] _ _) _ _ _); refine xE_chain op_le op_le ?_) | fail)
local macro_rules | `(tactic| specialize "cmp") => `(tactic| first | ((with_reducible show wE _ _ (Expr.Compare _ [CmpOp.NotIn] _ _) _ _ _); refine xE_notIn (Room.u65 (by assumption)) ?_) | fail)
local macro_rules | `(tactic| specialize "cmp") => `(tactic| first | ((with_reducible show wE _ _ (Expr.Compare _ [CmpOp.In] _ _) _ _ _); refine xE_in (Room.u65 (by assumption)) ?_) | fail)
local macro_rules | `(tactic| specialize "cmp") => `(tactic| first | ((with_reducible show wE _ _ (Expr.Compare _ [CmpOp.In] [Expr.Name (Str.ofString "known") _] _) _ _ _); refine xE_din (Room.u65 (by assumption)) ?_) | fail)
local macro_rules | `(tactic| specialize "cmp") => `(tactic| first | ((with_reducible show wE _ _ (Expr.Compare _ [CmpOp.In] [Expr.Attribute _ (Str.ofString "wanted") _] _) _ _ _); refine xE_din (Room.u65 (by assumption)) ?_) | fail)
local macro_rules | `(tactic| specialize "cmp") => `(tactic| first | ((with_reducible show wE _ _ (Expr.Compare _ [CmpOp.IsNot] [Expr.Constant Const.none _ _] _) _ _ _); refine xE_notN ?_) | fail)
local macro_rules | `(tactic| specialize "cmp") => `(tactic| first | ((with_reducible show wE _ _ (Expr.Compare _ [CmpOp.Is] [Expr.Constant Const.none _ _] _) _ _ _); refine xE_isN ?_) | fail)
local macro_rules | `(tactic| specialize "cmp") => `(tactic| first | ((with_reducible show wE _ _ (Expr.Compare _ [CmpOp.GtE] _ _) _ _ _); refine xE_cmpI op_ge ?_) | fail)
local macro_rules | `(tactic| specialize "cmp") => `(tactic| first | ((with_reducible show wE _ _ (Expr.Compare _ [CmpOp.Gt] _ _) _ _ _); refine xE_cmpI op_gt ?_) | fail)
local macro_rules | `(tactic| specialize "cmp") => `(tactic| first | ((with_reducible show wE _ _ (Expr.Compare _ [CmpOp.LtE] _ _) _ _ _); refine xE_cmpI op_le ?_) | fail)
local macro_rules | `(tactic| specialize "cmp") => `(tactic| first | ((with_reducible show wE _ _ (Expr.Compare _ [CmpOp.Lt] _ _) _ _ _); refine xE_cmpI op_lt ?_) | fail)
local macro_rules | `(tactic| specialize "cmp") => `(tactic| first | ((with_reducible show wE _ _ (Expr.Compare _ [CmpOp.NotEq] _ _) _ _ _); refine xE_ne (Room.u65 (by assumption)) ?_) | fail)
local macro_rules | `(tactic| specialize "cmp") => `(tactic| first | ((with_reducible show wE _ _ (Expr.Compare _ [CmpOp.Eq] _ _) _ _ _); refine xE_eq (Room.u65 (by assumption)) ?_) | fail)
local macro_rules | `(tactic| specialize "cmT") => `(tactic| first | ((with_reducible show wT _ _ (Expr.Compare _ [CmpOp.NotIn] _ _) _ _ _); refine xT_notIn (Room.u65 (by assumption)) ?_) | fail)
local macro_rules | `(tactic| specialize "cmT") => `(tactic| first | ((with_reducible show wT _ _ (Expr.Compare _ [CmpOp.In] _ _) _ _ _); refine xT_in (Room.u65 (by assumption)) ?_) | fail)
local macro_rules | `(tactic| specialize "cmT") => `(tactic| first | ((with_reducible show wT _ _ (Expr.Compare _ [CmpOp.In] [Expr.Name (Str.ofString "known") _] _) _ _ _); refine xT_din (Room.u65 (by assumption)) ?_) | fail)
local macro_rules | `(tactic| specialize "cmT") => `(tactic| first | ((with_reducible show wT _ _ (Expr.Compare _ [CmpOp.In] [Expr.Attribute _ (Str.ofString "wanted") _] _) _ _ _); refine xT_din (Room.u65 (by assumption)) ?_) | fail)
local macro_rules | `(tactic| specialize "cmT") => `(tactic| first | ((with_reducible show wT _ _ (Expr.Compare _ [CmpOp.IsNot] [Expr.Constant Const.none _ _] _) _ _ _); refine xT_notN ?_) | fail)
local macro_rules | `(tactic| specialize "cmT") => `(tactic| first | ((with_reducible show wT _ _ (Expr.Compare _ [CmpOp.Is] [Expr.Constant Const.none _ _] _) _ _ _); refine xT_isN ?_) | fail)
local macro_rules | `(tactic| specialize "cmT") => `(tactic| first | ((with_reducible show wT _ _ (Expr.Compare _ [CmpOp.GtE] _ _) _ _ _); refine xT_cmpI op_ge ?_) | fail)
local macro_rules | `(tactic| specialize "cmT") => `(tactic| first | ((with_reducible show wT _ _ (Expr.Compare _ [CmpOp.Gt] _ _) _ _ _); refine xT_cmpI op_gt ?_) | fail)
local macro_rules | `(tactic| specialize "cmT") => `(tactic| first | ((with_reducible show wT _ _ (Expr.Compare _ [CmpOp.LtE] _ _) _ _ _); refine xT_cmpI op_le ?_) | fail)
local macro_rules | `(tactic| specialize "cmT") => `(tactic| first | ((with_reducible show wT _ _ (Expr.Compare _ [CmpOp.Lt] _ _) _ _ _); refine xT_cmpI op_lt ?_) | fail)
local macro_rules | `(tactic| specialize "cmT") => `(tactic| first | ((with_reducible show wT _ _ (Expr.Compare _ [CmpOp.NotEq] _ _) _ _ _); refine xT_ne (Room.u65 (by assumption)) ?_) | fail)
local macro_rules | `(tactic| specialize "cmT") => `(tactic| first | ((with_reducible show wT _ _ (Expr.Compare _ [CmpOp.Eq] _ _) _ _ _); refine xT_eq (Room.u65 (by assumption)) ?_) | fail)
local macro_rules | `(tactic| specialize "bo") => `(tactic| first | ((with_reducible show wE _ _ (Expr.BoolOp BoolOp.Or _ _) _ _ _); refine xE_or ?_) | fail)
local macro_rules | `(tactic| specialize "bo") => `(tactic| first | ((with_reducible show wE _ _ (Expr.BoolOp BoolOp.And _ _) _ _ _); refine xE_and ?_) | fail)
local macro_rules | `(tactic| specialize "bo") => `(tactic| first | ((with_reducible show wE _ _ (Expr.BoolOp BoolOp.Or [_] _) _ _ _); refine wE_one ?_) | fail)
local macro_rules | `(tactic| specialize "bo") => `(tactic| first | ((with_reducible show wE _ _ (Expr.BoolOp BoolOp.And [_] _) _ _ _); refine wE_one ?_) | fail)
local macro_rules | `(tactic| specialize "su") => `(tactic| first | ((with_reducible show wE _ _ (Expr.Subscript _ _ _) _ _ _); refine xE_ix ?_) | fail)
local macro_rules | `(tactic| specialize "su") => `(tactic| first | ((with_reducible show wE _ _ (Expr.Subscript _ (Expr.Constant (Const.str _) _ _) _) _ _ _); refine xE_dget (Room.u65 (by assumption)) ?_) | fail)
local macro_rules | `(tactic| specialize "su") => `(tactic| first | ((with_reducible show wE _ _ (Expr.Subscript (Expr.Attribute _ (Str.ofString "wanted") _) _ _) _ _ _); refine xE_dget (Room.u65 (by assumption)) ?_) | fail)
local macro_rules | `(tactic| specialize "su") => `(tactic| first | ((with_reducible show wE _ _ (Expr.Subscript _ (Expr.Slice _ _ none _) _) _ _ _); first | (specialize "slice") | refine xE_slT ?_) | fail)
local macro_rules | `(tactic| specialize "bi") => `(tactic| first | ((with_reducible show wE _ _ (Expr.BinOp _ Operator.Mult _ _) _ _ _); first | (specialize "times") | refine xE_rep ?_) | fail)
local macro_rules | `(tactic| specialize "bi") => `(tactic| first | ((with_reducible show wE _ _ (Expr.BinOp _ Operator.FloorDiv _ _) _ _ _); refine xE_fdiv ?_) | fail)
local macro_rules | `(tactic| specialize "bi") => `(tactic| first | ((with_reducible show wE _ _ (Expr.BinOp _ Operator.Mod _ _) _ _ _); refine xE_mod ?_) | fail)
local macro_rules | `(tactic| specialize "bi") => `(tactic| first | ((with_reducible show wE _ _ (Expr.BinOp _ Operator.Sub _ _) _ _ _); refine xE_sub ?_) | fail)
local macro_rules | `(tactic| specialize "bi") => `(tactic| first | ((with_reducible show wE _ _ (Expr.BinOp _ Operator.Add _ _) _ _ _); first | (specialize "plus") | refine xE_add ?_) | fail)
local macro_rules | `(tactic| specialize "ex") => `(tactic| first | ((with_reducible show wE _ _ (Expr.List _ _) _ _ _); first | (specialize "list") | refine xE_lst ?_) | fail)
local macro_rules | `(tactic| specialize "ex") => `(tactic| first | ((with_reducible show wE _ _ (Expr.Dict [] [] _) _ _ _); first | (specialize "dict") | refine wE_newT ?_) | fail)
local macro_rules | `(tactic| specialize "ex") => `(tactic| first | ((with_reducible show wE _ _ (Expr.IfExp _ _ _ _) _ _ _); refine xE_if ?_) | fail)
local macro_rules | `(tactic| specialize "ex") => `(tactic| first | ((with_reducible show wE _ _ (Expr.UnaryOp UnaryOp.Not _ _) _ _ _); refine xE_not ?_) | fail)
local macro_rules | `(tactic| specialize "ex") => `(tactic| first | ((with_reducible show wE _ _ (Expr.BinOp _ _ _ _) _ _ _); (specialize "bi")) | fail)
local macro_rules | `(tactic| specialize "ex") => `(tactic| first | ((with_reducible show wE _ _ (Expr.BoolOp _ _ _) _ _ _); (specialize "bo")) | fail)
local macro_rules | `(tactic| specialize "ex") => `(tactic| first | ((with_reducible show wE _ _ (Expr.ListComp _ _ _ _) _ _ _); (specialize "lc")) | fail)
local macro_rules | `(tactic| specialize "ex") => `(tactic| first | ((with_reducible show wE _ _ (Expr.Tuple _ _ _) _ _ _); refine xE_tup ?_) | fail)
local macro_rules | `(tactic| specialize "ex") => `(tactic| first | ((with_reducible show wE _ _ (Expr.Attribute _ _ _) _ _ _); refine xE_fld ?_) | fail)
local macro_rules | `(tactic| specialize "ex") => `(tactic| first | ((with_reducible show wE _ _ (Expr.Subscript _ _ _) _ _ _); (specialize "su")) | fail)
local macro_rules | `(tactic| specialize "ex") => `(tactic| first | ((with_reducible show wE _ _ (Expr.Call _ _ _ _) _ _ _); (specialize "fun")) | fail)
local macro_rules | `(tactic| specialize "ex") => `(tactic| first | ((with_reducible show wE _ _ (Expr.Call (Expr.Attribute _ (Str.ofString "append") _) _ _ _) _ _ _); refine xE_append ?_) | fail)
local macro_rules | `(tactic| specialize "ex") => `(tactic| first | ((with_reducible show wE _ _ (Expr.Compare _ _ _ _) _ _ _); (specialize "cmp")) | fail)
local macro_rules | `(tactic| specialize "ex") => `(tactic| first | ((with_reducible show wE _ _ (Expr.Constant _ _ _) _ _ _); (specialize "co")) | fail)
local macro_rules | `(tactic| specialize "ex") => `(tactic| first | ((with_reducible show wE _ _ (Expr.Name _ _) _ _ _); first | (refine' xE_name ?k1 ?k2 ?_; (case k1 => (specialize "idx")); (case k2 => exact rfl)) | (specialize "glob")) | fail)
local macro_rules | `(tactic| specialize "te") => `(tactic| first | ((with_reducible show wT _ _ (_) _ _ _); refine xT_val ?_) | fail)
local macro_rules | `(tactic| specialize "te") => `(tactic| first | ((with_reducible show wT _ _ (Expr.Compare _ _ _ _) _ _ _); (specialize "cmT")) | fail)
local macro_rules | `(tactic| specialize "te") => `(tactic| first | ((with_reducible show wT _ _ (Expr.UnaryOp UnaryOp.Not _ _) _ _ _); refine wT_not ?_) | fail)
local macro_rules | `(tactic| specialize "te") => `(tactic| first | ((with_reducible show wT _ _ (Expr.BoolOp _ _ _) _ _ _); refine wT_bool ?_) | fail)
local macro_rules | `(tactic| specialize "tw") => `(tactic| first | ((with_reducible show wW _ _ (Expr.BoolOp BoolOp.Or _ _) _ _ _); refine xW_or ?_) | fail)
local macro_rules | `(tactic| specialize "tw") => `(tactic| first | ((with_reducible show wW _ _ (Expr.BoolOp BoolOp.And _ _) _ _ _); refine xW_and ?_) | fail)
local macro_rules | `(tactic| specialize "tw") => `(tactic| first | ((with_reducible show wW _ _ (Expr.BoolOp BoolOp.Or [_] _) _ _ _); refine wW_or1 ?_) | fail)
local macro_rules | `(tactic| specialize "tw") => `(tactic| first | ((with_reducible show wW _ _ (Expr.BoolOp BoolOp.And [_] _) _ _ _); refine wW_and1 ?_) | fail)
local macro_rules | `(tactic| specialize "s1") => `(tactic| first | ((with_reducible show sFld _ _ _ _ _); refine sFld_i (by (specialize "nth")) rfl (by (specialize "cls")) (by (specialize "noa")) ?_) | fail)
local macro_rules | `(tactic| specialize "s1") => `(tactic| first | ((with_reducible show sIn _ _ _ _ _); refine sIn_i (by (specialize "itm")) (by (specialize "ok")) (by (specialize "ok")) (by (specialize "ev")) ?_) | fail)
local macro_rules | `(tactic| specialize "s1") => `(tactic| first | ((with_reducible show sAdd _ _ _ _); first | refine sAdd_I ?_ | refine sAdd_S (by first | omega | decide) ?_) | fail)
local macro_rules | `(tactic| specialize "s1") => `(tactic| first | ((with_reducible show sII _ _ _ _ _ _); refine sII_i (by first | trivial | omega | decide | (specialize "ci")) ?_) | fail)
local macro_rules | `(tactic| specialize "s1") => `(tactic| first | ((with_reducible show sOrW _ _ _ _); first | refine sOrW_t (by (specialize "tt")) ?_ | refine sOrW_f (by (specialize "tt")) ?_ | apply sOrW_p) | fail)
local macro_rules | `(tactic| specialize "s1") => `(tactic| first | ((with_reducible show sAndW _ _ _ _); first | refine sAndW_f (by (specialize "tt")) ?_ | refine sAndW_t (by (specialize "tt")) ?_ | apply sAndW_p) | fail)
local macro_rules | `(tactic| specialize "s1") => `(tactic| first | ((with_reducible show sOr _ _ _ _); first | refine sOr_t (by (specialize "tt")) ?_ | refine sOr_f (by (specialize "tt")) ?_ | apply sOr_p) | fail)
local macro_rules | `(tactic| specialize "s1") => `(tactic| first | ((with_reducible show sAnd _ _ _ _); first | refine sAnd_f (by (specialize "tt")) ?_ | refine sAnd_t (by (specialize "tt")) ?_ | apply sAnd_p) | fail)
local macro_rules | `(tactic| specialize "s1") => `(tactic| first | ((with_reducible show sIte _ _ _); first | refine sIte_t (by (specialize "tt")) ?_ | refine sIte_f (by (specialize "tt")) ?_) | fail)
local macro_rules | `(tactic| specialize "s1") => `(tactic| first | ((with_reducible show sEq true _ _ _ _); refine sNe_i (by (specialize "ok")) (by (specialize "ok")) (by (specialize "ev")) ?_) | fail)
local macro_rules | `(tactic| specialize "s1") => `(tactic| first | ((with_reducible show sEq false _ _ _ _); refine sEq_i (by (specialize "ok")) (by (specialize "ok")) (by (specialize "ev")) ?_) | fail)
local macro_rules | `(tactic| specialize "s1") => `(tactic| first | ((with_reducible show sIx _ _ _ _); refine sIx_i (by (specialize "itm")) (by (specialize "ix")) ?_) | fail)
local macro_rules | `(tactic| specialize "s1") => `(tactic| first | ((with_reducible show sCall _ _ _ _ _ _); refine sCall_i rfl ?_) | fail)
local macro_rules | `(tactic| specialize "s1") => `(tactic| first | ((with_reducible show sTup _ _ _); refine sTup_i (by first | exact Nat.le_of_ble_eq_true rfl | (specialize "len")) ?_) | fail)
local macro_rules | `(tactic| specialize "s1") => `(tactic| first | ((with_reducible show sB _ _ _); refine sB_i ?_) | fail)
local macro_rules | `(tactic| specialize "s2") => `(tactic| first | ((with_reducible show _ = _ → wW _ _ _ _ _ _); intro _) | fail)
local macro_rules | `(tactic| specialize "s2") => `(tactic| first | ((with_reducible show _ = _ → wE _ _ _ _ _ _); intro _) | fail)
local macro_rules | `(tactic| specialize "s2") => `(tactic| first | ((with_reducible show _ = _ ∧ _ = _); exact ⟨rfl, rfl⟩) | fail)
local macro_rules | `(tactic| specialize "s2") => `(tactic| first | ((with_reducible show sApp _ _ _ _); refine sApp_i (by (specialize "nth")) (by (specialize "len")) ?_) | fail)
local macro_rules | `(tactic| specialize "s2") => `(tactic| first | ((with_reducible show sAppO _ _ _); refine sAppO_i (by (specialize "nth")) ?_) | fail)
local macro_rules | `(tactic| specialize "s2") => `(tactic| first | ((with_reducible show sMeth _ _ _ _ _); refine sMeth_i (by (specialize "nth")) rfl ?_) | fail)
local macro_rules | `(tactic| specialize "s2") => `(tactic| first | ((with_reducible show sCallM _ _ _ _ _ _ _); refine sCallM_i rfl ?_) | fail)
local macro_rules | `(tactic| specialize "s2") => `(tactic| first | ((with_reducible show sDput _ _ _ _ _); refine sDput_i (by (specialize "len")) (by (specialize "dg")) ?_) | fail)
local macro_rules | `(tactic| specialize "s2") => `(tactic| first | ((with_reducible show sPut _ _ _ _ _ _); refine sPut_i (by (specialize "nth")) (Nat.le_of_ble_eq_true rfl) (by (specialize "cls")) (by (specialize "noa")) ?_) | fail)
local macro_rules | `(tactic| specialize "s2") => `(tactic| first | ((with_reducible show sRep _ _ _ _); refine sRep_i (by decide) (by decide) (by decide) ?_) | fail)
local macro_rules | `(tactic| specialize "s2") => `(tactic| first | ((with_reducible show sCat _ _ _ _); refine sCat_i (by first | exact Nat.le_of_ble_eq_true rfl | (specialize "len")) ?_) | fail)
local macro_rules | `(tactic| specialize "s2") => `(tactic| first | ((with_reducible show sChain _ _ _ _ _ _ _); apply sChain_p) | fail)
local macro_rules | `(tactic| specialize "s2") => `(tactic| first | ((with_reducible show sCut _ _ _ _ _); refine sCut_l ?_) | fail)
local macro_rules | `(tactic| specialize "s2") => `(tactic| first | ((with_reducible show sCutT _ _ _ _ _); refine sCutT_i ?_) | fail)
local macro_rules | `(tactic| specialize "s2") => `(tactic| first | ((with_reducible show sI _ _ _); refine sI_i ?_) | fail)
local macro_rules | `(tactic| specialize "s2") => `(tactic| first | ((with_reducible show sBI _ _ _); refine sBI_i ?_) | fail)
local macro_rules | `(tactic| specialize "s2") => `(tactic| first | ((with_reducible show sItemsN _ _ _); refine sItemsN_i (by (specialize "itm")) ?_) | fail)
local macro_rules | `(tactic| specialize "s2") => `(tactic| first | ((with_reducible show sItems _ _ _ _); refine sItems_i (by (specialize "itm")) ?_) | fail)
local macro_rules | `(tactic| specialize "s2") => `(tactic| first | ((with_reducible show sTy _ _ _ _); first | refine sTy_i rfl ?_ | refine sTy_i (by assumption) ?_) | fail)
local macro_rules | `(tactic| specialize "s2") => `(tactic| first | ((with_reducible show sLen _ _ _ _); first | refine sLen_i (by (specialize "itm")) ?_ | refine sLen_scr ?_) | fail)
local macro_rules | `(tactic| specialize "s2") => `(tactic| first | ((with_reducible show sLstN _ _ _); refine sLstN_i (by first | exact Nat.le_of_ble_eq_true rfl | (specialize "len")) ?_) | fail)
local macro_rules | `(tactic| specialize "s2") => `(tactic| first | ((with_reducible show sLst _ _ _); refine sLst_i (by first | exact Nat.le_of_ble_eq_true rfl | (specialize "len")) ?_) | fail)
local macro_rules | `(tactic| specialize "s2") => `(tactic| first | ((with_reducible show sDget _ _ _ _); refine sDget_i (by (specialize "dg")) ?_) | fail)
local macro_rules | `(tactic| specialize "s2") => `(tactic| first | ((with_reducible show sDin _ _ _ _ _); refine sDin_i (by (specialize "dg")) ?_) | fail)
local macro_rules | `(tactic| specialize "s2") => `(tactic| first | ((with_reducible show sNon _ _ _ _); refine sNon_i rfl ?_) | fail)
local macro_rules | `(tactic| specialize "lc") => `(tactic| first | (refine' xE_lc .no ?k1 rfl (of_decide_eq_true (by kernel_rfl)) ?k4 ?_; (case k1 => (specialize "idx")); (case k4 => exact blkOk_by (by kernel_rfl))) | fail)
local macro_rules | `(tactic| specialize "lc") => `(tactic| first | (refine' xE_lc (.one _) ?k1 rfl (of_decide_eq_true (by kernel_rfl)) ?k4 ?_; (case k1 => (specialize "idx")); (case k4 => exact blkOk_by (by kernel_rfl))) | fail)
local macro_rules | `(tactic| specialize "lcS") => `(tactic| first | (refine' xS_lc .no ?k1 ?k2 rfl (of_decide_eq_true (by kernel_rfl)) ?k4 ?_ ?k3; (case k1 => (specialize "idx")); (case k2 => (specialize "idx")); (case k3 => rfl); (case k4 => exact blkOk_by (by kernel_rfl))) | fail)
local macro_rules | `(tactic| specialize "lcS") => `(tactic| first | (refine' xS_lc (.one _) ?k1 ?k2 rfl (of_decide_eq_true (by kernel_rfl)) ?k4 ?_ ?k3; (case k1 => (specialize "idx")); (case k2 => (specialize "idx")); (case k3 => rfl); (case k4 => exact blkOk_by (by kernel_rfl))) | fail)
local macro_rules | `(tactic| specialize "wi") => `(tactic| first | (refine xI_list ?_; (repeat' (specialize "1")); (with_reducible show sWL _ _ _); first | refine sWL_l ?_ | refine sWL_r (by (specialize "nth")) ?_) | fail)
local macro_rules | `(tactic| specialize "wi") => `(tactic| first | (refine xI_tup ?_; (repeat' (specialize "1")); (with_reducible show sWT (W.tup _) _ _); refine sWT_i ?_) | fail)
local macro_rules | `(tactic| specialize "wi") => `(tactic| first | (specialize "it") | fail)
local macro_rules | `(tactic| specialize "s0") => `(tactic| first | ((with_reducible show _ = _ → ∀ _ _ _ _ _, wE _ _ _ _ _ _); intro _ _ _ _ _ _) | fail)
local macro_rules | `(tactic| specialize "s0") => `(tactic| first | ((with_reducible show ∀ _ _ _ _ _, wE _ _ _ _ _ _); intro _ _ _ _ _) | fail)
local macro_rules | `(tactic| specialize "s0") => `(tactic| first | ((with_reducible show ∀ _ _ _ _ _, wT _ _ _ _ _ _); intro _ _ _ _ _) | fail)
local macro_rules | `(tactic| specialize "s0") => `(tactic| first | ((with_reducible show TurnP _ _ IfK.no _ _ _ _ _); apply TurnP.no_i) | fail)
local macro_rules | `(tactic| specialize "s0") => `(tactic| first | ((with_reducible show TurnP _ _ (IfK.one _) _ _ _ _ _); apply TurnP.one_i) | fail)
local macro_rules | `(tactic| specialize "s0") => `(tactic| first | ((with_reducible show sWE _ _ _); refine sWE_l ?_) | fail)
local macro_rules | `(tactic| specialize "s0") => `(tactic| first | ((with_reducible show sR2 _ _ _ _); refine sR2_i (by first | decide | omega | (simp <;> omega)) (by first | decide | omega | (simp <;> omega)) (by first | decide | omega | (simp <;> omega)) (by first | decide | omega | (simp <;> omega)) ?_) | fail)
local macro_rules | `(tactic| specialize "s0") => `(tactic| first | ((with_reducible show sR1 _ _ _); refine sR1_i (by first | decide | omega | (simp <;> omega)) (by first | decide | omega | (simp <;> omega)) ?_) | fail)
local macro_rules | `(tactic| specialize "s0") => `(tactic| first | ((with_reducible show List.length _ ≤ 100000); (specialize "len")) | fail)
local macro_rules | `(tactic| specialize "s0") => `(tactic| first | exact trivial | fail)
local macro_rules | `(tactic| specialize "s0") => `(tactic| first | ((with_reducible show ∀ _, _ → TurnP _ _ _ _ _ _ _ _); intro _ _) | fail)
local macro_rules | `(tactic| specialize "s0") => `(tactic| first | ((with_reducible show sLc _ _ _ _ _ _ _ _ _ _); apply sLc_i) | fail)
local macro_rules | `(tactic| specialize "s0") => `(tactic| first | ((with_reducible show sInK _ _ _ _ _); refine sInK_i (by (specialize "ok")) (by (specialize "ev")) ?_) | fail)
local macro_rules | `(tactic| specialize "s0") => `(tactic| first | ((with_reducible show sGs _ _ _ _ _ _ _); first | refine sGs_2 ?_ | refine sGs_3 ?_) | fail)
local macro_rules | `(tactic| specialize "s0") => `(tactic| first | ((with_reducible show sLset _ _ _ _ _); refine sLset_i (by (specialize "nth")) rfl ?_) | fail)
local macro_rules | `(tactic| specialize "1") => `(tactic| first | (specialize "s3") | fail)
local macro_rules | `(tactic| specialize "1") => `(tactic| first | (specialize "s0") | fail)
local macro_rules | `(tactic| specialize "1") => `(tactic| first | (specialize "s2") | fail)
local macro_rules | `(tactic| specialize "1") => `(tactic| first | (specialize "s1") | fail)
local macro_rules | `(tactic| specialize "1") => `(tactic| first | ((with_reducible show wI _ _ _ _ _ _ _); (specialize "wi")) | fail)
local macro_rules | `(tactic| specialize "1") => `(tactic| first | ((with_reducible show wO _ _ _ _ _ _); first | refine wO_none ?_ | refine wO_some ?_) | fail)
local macro_rules | `(tactic| specialize "1") => `(tactic| first | ((with_reducible show wW _ _ _ _ _ _); (specialize "tw")) | fail)
local macro_rules | `(tactic| specialize "1") => `(tactic| first | ((with_reducible show wA _ _ _ _ _ _); first | refine wA_nil ?_ | refine wA_cons ?_) | fail)
local macro_rules | `(tactic| specialize "1") => `(tactic| first | ((with_reducible show wG _ _ _ _ _ _ _); (specialize "gg")) | fail)
local macro_rules | `(tactic| specialize "1") => `(tactic| first | ((with_reducible show wS _ _ _ _ _ _); (specialize "st")) | fail)
local macro_rules | `(tactic| specialize "1") => `(tactic| first | ((with_reducible show wB _ _ _ _ _ _); first | refine wB_one ?_ | refine wB_cons ?_ | refine wB_nil ?_) | fail)
local macro_rules | `(tactic| specialize "1") => `(tactic| first | ((with_reducible show wT _ _ _ _ _ _); (specialize "te")) | fail)
local macro_rules | `(tactic| specialize "1") => `(tactic| first | ((with_reducible show wE _ _ _ _ _ _); (specialize "ex")) | fail)
local macro_rules | `(tactic| specialize "go") => `(tactic| repeat' (specialize "1"))
local macro_rules | `(tactic| specialize "glob") => `(tactic| first | ((with_reducible show wE _ _ (Expr.Name (Str.ofString "FIGURES") _) _ _ _); refine xE_globS (GL.c_FIGURES (by assumption)) ?_) | fail)
local macro_rules | `(tactic| specialize "glob") => `(tactic| first | ((with_reducible show wE _ _ (Expr.Name (Str.ofString "WISH") _) _ _ _); refine xE_globS (GL.c_WISH (by assumption)) ?_) | fail)
local macro_rules | `(tactic| specialize "glob") => `(tactic| first | ((with_reducible show wE _ _ (Expr.Name (Str.ofString "MOST_DEEDS") _) _ _ _); refine xE_globI (GL.c_MOST_DEEDS (by assumption)) ?_) | fail)
local macro_rules | `(tactic| specialize "glob") => `(tactic| first | ((with_reducible show wE _ _ (Expr.Name (Str.ofString "GROUP") _) _ _ _); refine xE_globS (GL.c_GROUP (by assumption)) ?_) | fail)
local macro_rules | `(tactic| specialize "glob") => `(tactic| first | ((with_reducible show wE _ _ (Expr.Name (Str.ofString "BAR") _) _ _ _); refine xE_globS (GL.c_BAR (by assumption)) ?_) | fail)
local macro_rules | `(tactic| specialize "glob") => `(tactic| first | ((with_reducible show wE _ _ (Expr.Name (Str.ofString "STILL") _) _ _ _); refine xE_globS (GL.c_STILL (by assumption)) ?_) | fail)
local macro_rules | `(tactic| specialize "glob") => `(tactic| first | ((with_reducible show wE _ _ (Expr.Name (Str.ofString "WAIT") _) _ _ _); refine xE_globS (GL.c_WAIT (by assumption)) ?_) | fail)
local macro_rules | `(tactic| specialize "glob") => `(tactic| first | ((with_reducible show wE _ _ (Expr.Name (Str.ofString "LATE") _) _ _ _); refine xE_globS (GL.c_LATE (by assumption)) ?_) | fail)
local macro_rules | `(tactic| specialize "glob") => `(tactic| first | ((with_reducible show wE _ _ (Expr.Name (Str.ofString "BUSY") _) _ _ _); refine xE_globS (GL.c_BUSY (by assumption)) ?_) | fail)
local macro_rules | `(tactic| specialize "glob") => `(tactic| first | ((with_reducible show wE _ _ (Expr.Name (Str.ofString "ALL") _) _ _ _); refine xE_globS (GL.c_ALL (by assumption)) ?_) | fail)
local macro_rules | `(tactic| specialize "glob") => `(tactic| first | ((with_reducible show wE _ _ (Expr.Name (Str.ofString "MOST_WISHES") _) _ _ _); refine xE_globI (GL.c_MOST_WISHES (by assumption)) ?_) | fail)
local macro_rules | `(tactic| specialize "glob") => `(tactic| first | ((with_reducible show wE _ _ (Expr.Name (Str.ofString "MOST_LATE") _) _ _ _); refine xE_globI (GL.c_MOST_LATE (by assumption)) ?_) | fail)
local macro_rules | `(tactic| specialize "glob") => `(tactic| first | ((with_reducible show wE _ _ (Expr.Name (Str.ofString "NUMBERS") _) _ _ _); refine xE_globI (GL.c_NUMBERS (by assumption)) ?_) | fail)
local macro_rules | `(tactic| specialize "glob") => `(tactic| first | ((with_reducible show wE _ _ (Expr.Name (Str.ofString "PHONES") _) _ _ _); refine xE_globI (GL.c_PHONES (by assumption)) ?_) | fail)
local macro_rules | `(tactic| specialize "fun") => `(tactic| first | ((with_reducible show wE _ _ (Expr.Call (Expr.Name (Str.ofString "int") _) _ _ _) _ _ _); refine xE_intB (GL.b_int (by assumption)) ?_) | fail)
local macro_rules | `(tactic| specialize "fun") => `(tactic| first | ((with_reducible show wE _ _ (Expr.Call (Expr.Name (Str.ofString "list") _) _ _ _) _ _ _); refine xE_list (GL.b_list (by assumption)) ?_) | fail)
local macro_rules | `(tactic| specialize "fun") => `(tactic| first | ((with_reducible show wE _ _ (Expr.Call (Expr.Name (Str.ofString "tuple") _) _ _ _) _ _ _); refine xE_tuple (GL.b_tuple (by assumption)) ?_) | fail)
local macro_rules | `(tactic| specialize "fun") => `(tactic| first | ((with_reducible show wE _ _ (Expr.Call (Expr.Name (Str.ofString "len") _) _ _ _) _ _ _); refine xE_len (GL.b_len (by assumption)) ?_) | fail)
local macro_rules | `(tactic| specialize "fun") => `(tactic| first | ((with_reducible show wE _ _ (Expr.Call (Expr.Name (Str.ofString "isinstance") _) [_, Expr.Name (Str.ofString "list") _] [] _) _ _ _); refine xE_isi .lst (GL.b_isinstance (by assumption)) (GL.b_list (by assumption)) PyProof.Rows.boot_list ?_) | fail)
local macro_rules | `(tactic| specialize "fun") => `(tactic| first | ((with_reducible show wE _ _ (Expr.Call (Expr.Name (Str.ofString "isinstance") _) [_, Expr.Name (Str.ofString "str") _] [] _) _ _ _); refine xE_isi .str (GL.b_isinstance (by assumption)) (GL.b_str (by assumption)) PyProof.Rows.boot_str ?_) | fail)
local macro_rules | `(tactic| specialize "fun") => `(tactic| first | ((with_reducible show wE _ _ (Expr.Call (Expr.Name (Str.ofString "isinstance") _) [_, Expr.Name (Str.ofString "tuple") _] [] _) _ _ _); refine xE_isi .tup (GL.b_isinstance (by assumption)) (GL.b_tuple (by assumption)) PyProof.Rows.boot_tuple ?_) | fail)
local macro_rules | `(tactic| specialize "fun") => `(tactic| first | ((with_reducible show wE _ _ (Expr.Call (Expr.Name (Str.ofString "isinstance") _) [_, Expr.Name (Str.ofString "bool") _] [] _) _ _ _); refine xE_isi .bl (GL.b_isinstance (by assumption)) (GL.b_bool (by assumption)) PyProof.Rows.boot_bool ?_) | fail)
local macro_rules | `(tactic| specialize "fun") => `(tactic| first | ((with_reducible show wE _ _ (Expr.Call (Expr.Name (Str.ofString "isinstance") _) [_, Expr.Name (Str.ofString "int") _] [] _) _ _ _); refine xE_isi .int (GL.b_isinstance (by assumption)) (GL.b_int (by assumption)) PyProof.Rows.boot_int ?_) | fail)
local macro_rules | `(tactic| specialize "it") => `(tactic| first | ((with_reducible show wI _ _ _ (Expr.Call (Expr.Name (Str.ofString "enumerate") _) [_] [] _) _ _ _); refine xI_enum (GL.b_enumerate (by assumption)) ?_) | fail)
local macro_rules | `(tactic| specialize "it") => `(tactic| first | ((with_reducible show wI _ _ _ (Expr.Call (Expr.Name (Str.ofString "range") _) [_, _] [] _) _ _ _); refine xI_range2 (GL.b_range (by assumption)) ?_) | fail)
local macro_rules | `(tactic| specialize "it") => `(tactic| first | ((with_reducible show wI _ _ _ (Expr.Call (Expr.Name (Str.ofString "range") _) [_] [] _) _ _ _); refine xI_range1 (GL.b_range (by assumption)) ?_) | fail)

-- P1K
section
variable {P : Program} {w : World} {K : PySem.W.Frag} {mg : Str → Option Value} {base : Heap} 
def isNumW (w : W) (lo hi : Int) : Bool := match w with
  | .int i => decide (lo ≤ i) && decide (i ≤ hi)
  | _ => false
theorem ty_ref {S : Sto} {k : Nat} {t : Ty} (h : tyW S (.ref k) = some t) : t = .lst ∨ t = .dict := by
  unfold tyW at h
  dsimp only at h
  split at h
  · cases h; exact .inl rfl
  · cases h; exact .inr rfl
  · cases h; exact .inr rfl
  · cases h
def asp_is_number : ASp := fun ws S Φ _ => ∃ w lo hi t, ws = [w, .int lo, .int hi] ∧ tyW S w = some t ∧ Φ (.bl (isNumW w lo hi)) S
theorem cf_is_number (G : GL mg) (D : DS K mg) : CFn P w K mg base "is_number" 1 3 asp_is_number := by
  refine D.d_is_number.fn sc_is_number fun f cdv A outer s H E hr ws S Φ Ψ hl hS ha => ?_
  obtain ⟨w, lo, hi, t, rfl, ht, h⟩ := ha
  cases w with
  | ref k =>
    rcases ty_ref ht with e | e
    all_goals
      subst e
      specialize "go"
      exact fin.as h
  | raw v => cases ht
  | scr K' ns => cases ht
  | xi _ _ _ _ => cases ht
  | thg _ _ => cases ht
  | _ =>
    cases ht
    specialize "go"
    exact fin.as h
local macro_rules | `(tactic| specialize "fun") => `(tactic| ((with_reducible show wE _ _ (Expr.Call (Expr.Name (Str.ofString "is_number") _) _ _ _) _ _ _); refine xE_call (cf_is_number (by assumption) (by assumption)) (Room.mono (by assumption) (by decide)) ?_))
local macro_rules | `(tactic| specialize "s3") => `(tactic| ((with_reducible show asp_is_number _ _ _ _); refine ⟨_, _, _, _, rfl, (by first | rfl | assumption), ?_⟩))
local macro_rules | `(tactic| specialize "t2") => `(tactic| (simp [isNumW, *] <;> fail))
def asp_is_phone : ASp := fun ws S Φ _ => ∃ w t, ws = [w] ∧ tyW S w = some t ∧ Φ (.bl (isNumW w 0 5)) S
theorem cf_is_phone (G : GL mg) (D : DS K mg) : CFn P w K mg base "is_phone" 2 1 asp_is_phone := by
  refine D.d_is_phone.fn sc_is_phone fun f cdv A outer s H E hr ws S Φ Ψ hl hS ha => ?_
  obtain ⟨w, t, rfl, ht, h⟩ := ha
  specialize "go"
  exact fin.as h
local macro_rules | `(tactic| specialize "fun") => `(tactic| ((with_reducible show wE _ _ (Expr.Call (Expr.Name (Str.ofString "is_phone") _) _ _ _) _ _ _); refine xE_call (cf_is_phone (by assumption) (by assumption)) (Room.mono (by assumption) (by decide)) ?_))
local macro_rules | `(tactic| specialize "s3") => `(tactic| ((with_reducible show asp_is_phone _ _ _ _); refine ⟨_, _, rfl, (by first | rfl | assumption), ?_⟩))
/-- need_phone, need_number: of what is one -/
theorem num_yes {i lo hi : Int} (h1 : lo ≤ i) (h2 : i ≤ hi) : isNumW (.int i) lo hi = true := by
  show (decide (lo ≤ i) && decide (i ≤ hi)) = true
  rw [decide_eq_true h1, decide_eq_true h2]
  rfl
def asp_are_members : ASp := fun ws S Φ _ => ∃ ms : List Int, ws = [.tup (intsW ms)] ∧ msOk ms ∧ Φ (.bl true) S
theorem cf_are_members (G : GL mg) (D : DS K mg) : CFn P w K mg base "are_members" 3 1 asp_are_members := by
  refine D.d_are_members.fn sc_are_members fun f cdv A outer s H E hr ws S Φ Ψ hl hS ha => ?_
  obtain ⟨ms, rfl, h1, h⟩ := ha
  have hl6 := h1.2.1
  specialize "go"
  have e1 : (intsW ms).isEmpty = false := by
    cases ms with
    | nil => exact absurd rfl h1.1
    | cons a l => rfl
  have e2 : (List.filter (fun x => !isNumW (W.int x) 0 5) ms) = [] := by
    rw [List.filter_eq_nil_iff]
    intro x hx
    rw [num_yes (h1.2.2.1 x hx).1 (h1.2.2.1 x hx).2]
    exact Bool.false_ne_true
  refine sIte_f (by rw [e1, e2]; rfl) ?_
  specialize "go"
  refine fin.eq h ?_
  congr 1
  rw [List.isEmpty_iff, List.filter_eq_nil_iff]
  intro k hk
  rw [List.mem_range, len_ints] at hk
  have hk' : k + 1 < ms.length := by omega
  have e1 : (1 + (k : Int)).toNat = k + 1 := by omega
  have e2 : (1 + (k : Int) - 1).toNat = k := by omega
  have q := h1.2.2.2 k _ _ (List.getElem?_eq_getElem (by omega : k < ms.length)) (List.getElem?_eq_getElem hk')
  rw [e1, e2, List.getD_eq_getElem?_getD, List.getD_eq_getElem?_getD, List.getElem?_eq_getElem hk', List.getElem?_eq_getElem (by omega : k < ms.length)]
  simp only [Option.getD_some, decide_eq_true_eq]
  omega
local macro_rules | `(tactic| specialize "fun") => `(tactic| ((with_reducible show wE _ _ (Expr.Call (Expr.Name (Str.ofString "are_members") _) _ _ _) _ _ _); refine xE_call (cf_are_members (by assumption) (by assumption)) (Room.mono (by assumption) (by decide)) ?_))
local macro_rules | `(tactic| specialize "s3") => `(tactic| ((with_reducible show asp_are_members _ _ _ _); refine ⟨_, rfl, (by assumption), ?_⟩))
/-- is_wish of a wish -/
def asp_is_wish : ASp := fun ws S Φ _ => ∃ x : Wish, ws = [x.w] ∧ x.ok ∧ Φ (.bl true) S
theorem cf_is_wish (G : GL mg) (D : DS K mg) : CFn P w K mg base "is_wish" 4 1 asp_is_wish := by
  refine D.d_is_wish.fn sc_is_wish fun f cdv A outer s H E hr ws S Φ Ψ hl hS ha => ?_
  obtain ⟨x, rfl, hx, h⟩ := ha
  cases x with
  | group g ms =>
    obtain ⟨h1, h2, h3⟩ := hx
    specialize "go"
    specialize "fi"
  | wait p =>
    obtain ⟨h1, h2⟩ := hx
    specialize "go"
    specialize "fi"
  | still p =>
    obtain ⟨h1, h2⟩ := hx
    specialize "go"
    specialize "fi"
  | late p g t =>
    obtain ⟨h1, h2, h3, h4, h5, h6, h7⟩ := hx
    specialize "go"
    specialize "fi"
  | _ p g =>
    obtain ⟨h1, h2, h3, h4, h5⟩ := hx
    specialize "go"
    specialize "fi"
local macro_rules | `(tactic| specialize "fun") => `(tactic| ((with_reducible show wE _ _ (Expr.Call (Expr.Name (Str.ofString "is_wish") _) _ _ _) _ _ _); refine xE_call (cf_is_wish (by assumption) (by assumption)) (Room.mono (by assumption) (by decide)) ?_))
local macro_rules | `(tactic| specialize "s3") => `(tactic| ((with_reducible show asp_is_wish _ _ _ _); refine ⟨_, rfl, (by assumption), ?_⟩))
def asp_key_of : ASp := fun ws S Φ _ => ∃ x : Wish, ws = [x.w] ∧ Φ (.tup (x.key.map keyW1)) S
theorem cf_key_of (G : GL mg) (D : DS K mg) : CFn P w K mg base "key_of" 1 1 asp_key_of := by
  refine D.d_key_of.fn sc_key_of fun f cdv A outer s H E hr ws S Φ Ψ hl hS ha => ?_
  obtain ⟨x, rfl, h⟩ := ha
  cases x <;> (specialize "go") <;> (specialize "fi")
local macro_rules | `(tactic| specialize "fun") => `(tactic| ((with_reducible show wE _ _ (Expr.Call (Expr.Name (Str.ofString "key_of") _) _ _ _) _ _ _); refine xE_call (cf_key_of (by assumption) (by assumption)) (Room.mono (by assumption) (by decide)) ?_))
local macro_rules | `(tactic| specialize "s3") => `(tactic| ((with_reducible show asp_key_of _ _ _ _); refine ⟨_, rfl, ?_⟩))
end

local macro_rules | `(tactic| specialize "fun") => `(tactic| ((with_reducible show wE _ _ (Expr.Call (Expr.Name (Str.ofString "is_number") _) _ _ _) _ _ _); refine xE_call (cf_is_number (by assumption) (by assumption)) (Room.mono (by assumption) (by decide)) ?_))
local macro_rules | `(tactic| specialize "s3") => `(tactic| ((with_reducible show asp_is_number _ _ _ _); refine ⟨_, _, _, _, rfl, (by first | rfl | assumption), ?_⟩))
local macro_rules | `(tactic| specialize "t2") => `(tactic| (simp [isNumW, *] <;> fail))
local macro_rules | `(tactic| specialize "fun") => `(tactic| ((with_reducible show wE _ _ (Expr.Call (Expr.Name (Str.ofString "is_phone") _) _ _ _) _ _ _); refine xE_call (cf_is_phone (by assumption) (by assumption)) (Room.mono (by assumption) (by decide)) ?_))
local macro_rules | `(tactic| specialize "s3") => `(tactic| ((with_reducible show asp_is_phone _ _ _ _); refine ⟨_, _, rfl, (by first | rfl | assumption), ?_⟩))
local macro_rules | `(tactic| specialize "fun") => `(tactic| ((with_reducible show wE _ _ (Expr.Call (Expr.Name (Str.ofString "are_members") _) _ _ _) _ _ _); refine xE_call (cf_are_members (by assumption) (by assumption)) (Room.mono (by assumption) (by decide)) ?_))
local macro_rules | `(tactic| specialize "s3") => `(tactic| ((with_reducible show asp_are_members _ _ _ _); refine ⟨_, rfl, (by assumption), ?_⟩))
local macro_rules | `(tactic| specialize "fun") => `(tactic| ((with_reducible show wE _ _ (Expr.Call (Expr.Name (Str.ofString "is_wish") _) _ _ _) _ _ _); refine xE_call (cf_is_wish (by assumption) (by assumption)) (Room.mono (by assumption) (by decide)) ?_))
local macro_rules | `(tactic| specialize "s3") => `(tactic| ((with_reducible show asp_is_wish _ _ _ _); refine ⟨_, rfl, (by assumption), ?_⟩))
local macro_rules | `(tactic| specialize "fun") => `(tactic| ((with_reducible show wE _ _ (Expr.Call (Expr.Name (Str.ofString "key_of") _) _ _ _) _ _ _); refine xE_call (cf_key_of (by assumption) (by assumption)) (Room.mono (by assumption) (by decide)) ?_))
local macro_rules | `(tactic| specialize "s3") => `(tactic| ((with_reducible show asp_key_of _ _ _ _); refine ⟨_, rfl, ?_⟩))

section
-- ZE_k18
section
variable {P : Program} {w : World} {K : PySem.W.Frag} {mg : Str → Option Value} {base : Heap} { C_PE C_BW C_BP C_BN C_BS C_NN C_BD C_BT : Addr}
def hBody : List Stmt → List Stmt
  | .Try _ [.ExceptHandler _ _ b _] _ _ _ :: _ => b
  | _ => []
theorem OexC.icn {K : PySem.W.Frag} {C : Addr} (h : OexC K C) : (PySem.W.clsIn K C).isSome = true := by
  obtain ⟨_, _, _, _, _, _, _, _, _, _, _, _, _, _, _, e, _⟩ := h.cls
  unfold PySem.W.clsIn
  rw [e]
  rfl
/-- what the class D is among the errors -/
structure E1 (K : PySem.W.Frag) (D C_PE C_BW C_BP C_BN C_BS C_NN C_BD C_BT : Addr) (b0 b1 b2 b3 b4 b5 b6 : Bool) : Prop where
  exc : L2.ExcC K D
  em : PySem.W.exmOne K (.ref D) (.ref C_PE) = some true
  k0 : PySem.W.kitOne K (.ref D) (.ref C_BW) = some b0
  k1 : PySem.W.kitOne K (.ref D) (.ref C_BP) = some b1
  k2 : PySem.W.kitOne K (.ref D) (.ref C_BN) = some b2
  k3 : PySem.W.kitOne K (.ref D) (.ref C_BS) = some b3
  k4 : PySem.W.kitOne K (.ref D) (.ref C_NN) = some b4
  k5 : PySem.W.kitOne K (.ref D) (.ref C_BD) = some b5
  k6 : PySem.W.kitOne K (.ref D) (.ref C_BT) = some b6
  kv : PySem.W.kitOne K (.ref D) (.type "ValueError") = some true
structure EE (K : PySem.W.Frag) (mg : Str → Option Value) (C_PE C_BW C_BP C_BN C_BS C_NN C_BD C_BT : Addr) : Prop where
  pe : mg "PhoneError" = some (.ref C_PE)
  g_BW : mg "BadWish" = some (.ref C_BW)
  g_BP : mg "BadPhone" = some (.ref C_BP)
  g_BN : mg "BadNumber" = some (.ref C_BN)
  g_BS : mg "BadState" = some (.ref C_BS)
  g_NN : mg "NotNow" = some (.ref C_NN)
  g_BD : mg "BadDeed" = some (.ref C_BD)
  g_BT : mg "BadText" = some (.ref C_BT)
  ve : mg "ValueError" = none
  pga : PySem.W.specialIn K (.ref C_PE) "__getattribute__" = some (some (.builtin "type.__getattribute__"))
  prd : PySem.W.readsIn K C_PE (.type "type") = true
  pvv : PySem.W.findCls K (.ref C_PE) (.type "type") "__init__" = some (.val (.builtin "ValueError.__init__"))
  e_BT : E1 K C_BT C_PE C_BW C_BP C_BN C_BS C_NN C_BD C_BT false false false false false false true
  o_BT : OexC K C_BT
  i_BT : RawMeth K C_BT "__init__" "BadText.__init__" s_BadText_init
  n_BT : PySem.W.findIn K (.ref C_BT) "row" = some none
theorem EE.x_BT (N : EE K mg C_PE C_BW C_BP C_BN C_BS C_NN C_BD C_BT) : ExN K P w mg base "BadText" "row" C_BT := by
  obtain ⟨f, od, an, sl, oc, kV, dc, pm, cd, ct, h1, h2, h3, h4, h5⟩ := N.i_BT
  refine ⟨N.g_BT, N.o_BT, f, _, h1, beq_iff_eq.mp h5, oex_init (fun_mk h2 h3 h4) sc_BadText_init rfl (fun _ => ⟨_, rfl⟩) (by decide +kernel) rfl N.pe N.pga N.prd N.pvv N.o_BT N.n_BT rfl rfl (by decide +kernel) (by decide +kernel) (by decide +kernel), .all fun us hl => ?_⟩
  match us, hl with
  | [_, _], _ => rfl
theorem EE.f_BT (N : EE K mg C_PE C_BW C_BP C_BN C_BS C_NN C_BD C_BT) : XfC K C_BT := ⟨N.e_BT.exc.hg, N.e_BT.exc.hk, N.e_BT.exc.hs, N.e_BT.exc.hd⟩
section
local macro_rules | `(tactic| specialize "glob") => `(tactic| first
  | ((with_reducible show wE _ _ (Expr.Name (Str.ofString "BadWish") _) _ _ _); refine xE_cls (EE.g_BW (by assumption)) ?_)
  | ((with_reducible show wE _ _ (Expr.Name (Str.ofString "BadPhone") _) _ _ _); refine xE_cls (EE.g_BP (by assumption)) ?_)
  | ((with_reducible show wE _ _ (Expr.Name (Str.ofString "BadNumber") _) _ _ _); refine xE_cls (EE.g_BN (by assumption)) ?_)
  | ((with_reducible show wE _ _ (Expr.Name (Str.ofString "BadState") _) _ _ _); refine xE_cls (EE.g_BS (by assumption)) ?_)
  | ((with_reducible show wE _ _ (Expr.Name (Str.ofString "NotNow") _) _ _ _); refine xE_cls (EE.g_NN (by assumption)) ?_)
  | ((with_reducible show wE _ _ (Expr.Name (Str.ofString "BadDeed") _) _ _ _); refine xE_cls (EE.g_BD (by assumption)) ?_)
  | ((with_reducible show wE _ _ (Expr.Name (Str.ofString "BadText") _) _ _ _); refine xE_cls (EE.g_BT (by assumption)) ?_)
  | ((with_reducible show wE _ _ (Expr.Name (Str.ofString "ValueError") _) _ _ _); refine wE_bltn (EE.ve (by assumption)) L2.boot_ValueError (v := .ty "ValueError") rfl ?_))
local macro_rules | `(tactic| specialize "s3") => `(tactic| ((with_reducible show _ = _ ∧ _ = _ ∧ _); refine ⟨rfl, rfl, ?_⟩))
local macro_rules | `(tactic| specialize "s3") => `(tactic| ((with_reducible show (∃ _ _, _ = W.xi _ _ _ _) ∧ _ = _ ∧ _); refine ⟨⟨_, _, rfl⟩, rfl, ?_⟩))
local macro_rules | `(tactic| specialize "s3") => `(tactic| ((with_reducible show ∃ _, _ = W.xi _ _ _ _ ∧ _); refine ⟨_, rfl, ?_⟩))
local macro_rules | `(tactic| specialize "plus") => `(tactic| refine xE_cat ?_)
local macro_rules | `(tactic| specialize "ex") => `(tactic| ((with_reducible show wE _ _ (Expr.Call (Expr.Attribute _ (Str.ofString "count") _) _ _ _) _ _ _); refine xE_countB ?_))
local macro_rules | `(tactic| specialize "ex") => `(tactic| ((with_reducible show wE _ _ (Expr.Call (Expr.Attribute _ (Str.ofString "index") _) _ _ _) _ _ _); refine xE_indexB ?_))
local macro_rules | `(tactic| specialize "s3") => `(tactic| ((with_reducible show (∃ _, _ = W.lst _) ∧ _); refine ⟨⟨_, rfl⟩, ?_⟩))
local macro_rules | `(tactic| specialize "cmT") => `(tactic| first
  | ((with_reducible show wT _ _ (Expr.Compare _ [CmpOp.NotEq] _ _) _ _ _); refine xT_ne (by assumption) ?_)
  | ((with_reducible show wT _ _ (Expr.Compare _ [CmpOp.Eq] _ _) _ _ _); refine xT_eq (by assumption) ?_)
  | ((with_reducible show wT _ _ (Expr.Compare _ [CmpOp.In] _ _) _ _ _); refine xT_in (by assumption) ?_))
section
local macro_rules | `(tactic| specialize "fun") => `(tactic| first
  | ((with_reducible show wE _ _ (Expr.Call (Expr.Name (Str.ofString "isinstance") _) [_, Expr.Name (Str.ofString "BadWish") _] [] _) _ _ _); refine wE_isX (E1.exc (by assumption)) (OexC.icn (EE.o_BT (by assumption))) (by assumption) (by assumption) (GL.b_isinstance (by assumption)) (E1.k0 (by assumption)) ?_)
  | ((with_reducible show wE _ _ (Expr.Call (Expr.Name (Str.ofString "isinstance") _) [_, Expr.Name (Str.ofString "BadPhone") _] [] _) _ _ _); refine wE_isX (E1.exc (by assumption)) (OexC.icn (EE.o_BT (by assumption))) (by assumption) (by assumption) (GL.b_isinstance (by assumption)) (E1.k1 (by assumption)) ?_)
  | ((with_reducible show wE _ _ (Expr.Call (Expr.Name (Str.ofString "isinstance") _) [_, Expr.Name (Str.ofString "BadNumber") _] [] _) _ _ _); refine wE_isX (E1.exc (by assumption)) (OexC.icn (EE.o_BT (by assumption))) (by assumption) (by assumption) (GL.b_isinstance (by assumption)) (E1.k2 (by assumption)) ?_)
  | ((with_reducible show wE _ _ (Expr.Call (Expr.Name (Str.ofString "isinstance") _) [_, Expr.Name (Str.ofString "BadState") _] [] _) _ _ _); refine wE_isX (E1.exc (by assumption)) (OexC.icn (EE.o_BT (by assumption))) (by assumption) (by assumption) (GL.b_isinstance (by assumption)) (E1.k3 (by assumption)) ?_)
  | ((with_reducible show wE _ _ (Expr.Call (Expr.Name (Str.ofString "isinstance") _) [_, Expr.Name (Str.ofString "NotNow") _] [] _) _ _ _); refine wE_isX (E1.exc (by assumption)) (OexC.icn (EE.o_BT (by assumption))) (by assumption) (by assumption) (GL.b_isinstance (by assumption)) (E1.k4 (by assumption)) ?_)
  | ((with_reducible show wE _ _ (Expr.Call (Expr.Name (Str.ofString "isinstance") _) [_, Expr.Name (Str.ofString "BadDeed") _] [] _) _ _ _); refine wE_isX (E1.exc (by assumption)) (OexC.icn (EE.o_BT (by assumption))) (by assumption) (by assumption) (GL.b_isinstance (by assumption)) (E1.k5 (by assumption)) ?_)
  | ((with_reducible show wE _ _ (Expr.Call (Expr.Name (Str.ofString "isinstance") _) [_, Expr.Name (Str.ofString "BadText") _] [] _) _ _ _); refine wE_isX (E1.exc (by assumption)) (OexC.icn (EE.o_BT (by assumption))) (by assumption) (by assumption) (GL.b_isinstance (by assumption)) (E1.k6 (by assumption)) ?_)
  | ((with_reducible show wE _ _ (Expr.Call (Expr.Name (Str.ofString "isinstance") _) [_, Expr.Name (Str.ofString "ValueError") _] [] _) _ _ _); refine wE_isXB (E1.exc (by assumption)) (OexC.icn (EE.o_BT (by assumption))) (by assumption) (by assumption) (GL.b_isinstance (by assumption)) (E1.kv (by assumption)) ?_))
local macro_rules | `(tactic| specialize "s3") => `(tactic| ((with_reducible show sCntB _ _ _ _); refine ⟨[false, false, false, false, false, false, true], true, rfl, rfl, ?_⟩))
local macro_rules | `(tactic| specialize "s3") => `(tactic| ((with_reducible show sIdxB _ _ _ _); refine ⟨[false, false, false, false, false, false, true], 6, true, rfl, rfl, rfl, (by decide), ?_⟩))
local macro_rules | `(tactic| specialize "ex") => `(tactic| ((with_reducible show wE _ _ (Expr.Attribute _ (Str.ofString "row") _) _ _ _); refine wE_exf (EE.f_BT (by assumption)) (EE.n_BT (by assumption)) (by assumption) (by assumption) rfl rfl ?_))
theorem word_BT {X : Cx} (G : GL X.mg) (N : EE X.K X.mg C_PE C_BW C_BP C_BN C_BS C_NN C_BD C_BT) {g aE d : Addr} {cdv : Value} {s1 : Shared} {H1 : Hp} {oe : Obj} {pn : List (Addr × Obj)} {k : Nat} {i : Int} (hr : Room (k + 1) (X.A.deeper (envOfC "_law_word" (defScope s_law_word) s1.heap.objs.size g cdv)))
    (hz : Zc (.ref C_BT) (some d) oe) (hf : ∃ vs, oe.data = .fields vs) {S : Sto} {Φ : W → Sto → Prop} (h : Φ (.tup [.str "text", .int i]) S) :
    wB ((zCx X ["_law_work", "e", "_law_kinds", "_law_word_here"] "_law_word" s_law_word g cdv s1 H1).suite aE ((aE, oe) :: pn)) nox (hBody (defBody s_law_word)) ((List.replicate 4 none).set 1 (some (.xi aE d "row" i))) S ⟨fun _ _ => False, Φ, fun _ _ => False, fun _ _ => False⟩ := by
  have e1 := N.e_BT
  have hu : ((zCx X ["_law_work", "e", "_law_kinds", "_law_word_here"] "_law_word" s_law_word g cdv s1 H1).suite aE ((aE, oe) :: pn)).A.units + 65 < cLine := by
    have h0 := Room.u65 hr
    exact h0
  specialize "go"
  exact h
end
end
/-- the word of a caught error -/
def wordW (C_PE C_BW C_BP C_BN C_BS C_NN C_BD C_BT : Addr) (cls : Value) (fs : List (Str × W)) (u : W) : Prop := (∃ i, cls = .ref C_BT ∧ fs = [(("row" : Str), W.int i)] ∧ u = .tup [.str "text", .int i])
/-- the lambda w, the words that come of it -/
def sWd (X : Cx) (k : Nat) (C_PE C_BW C_BP C_BN C_BS C_NN C_BD C_BT : Addr) (w : W) (E : AEnv) (S : Sto) (Φ : W → Sto → Prop) : Prop :=
  ∃ (f d : Addr) (dv : Option (Addr × Int)) (pr : Arguments) (bd : Expr) (sc : Scope) (Ψ1 : AX) (Φ1 : W → Sto → Prop), w = .thg f (lamFs f d (X.env.qual ++ "<lambda>") pr bd sc (cloFrom X.env.cells sc.names []) dv) ∧ LamV X.N X.env.scope sc ∧ LamB pr bd sc dv ∧
    (∀ (A : Around) (outer : List Env) (s0 : Shared) (H0 : Hp) (Ech : XK), Room k (A.deeper (LamX.lamEnv X sc s0.heap.objs.size f d)) → wE (LamX.lamCx X A outer s0 H0 Ech sc f d) Ψ1 bd E S Φ1) ∧
    (∀ w S2, Φ1 w S2 → Φ (.str "") S2) ∧ (∀ cls fs E2 S2, Ψ1 cls fs E2 S2 → ∃ u, wordW C_PE C_BW C_BP C_BN C_BS C_NN C_BD C_BT cls fs u ∧ Φ u S2)
theorem word_of {X : Cx} {Ψ : AX} {E : AEnv} {S : Sto} {Φ : W → Sto → Prop} {ea : Expr} {p pos : Pos} {k : Nat} (G : GL X.mg) (D : DS X.K X.mg ) (N : EE X.K X.mg C_PE C_BW C_BP C_BN C_BS C_NN C_BD C_BT) (hr : Room (k + 2) X.A)
    (h : wE X Ψ ea E S fun w S1 => sWd X k C_PE C_BW C_BP C_BN C_BS C_NN C_BD C_BT w E S1 Φ) (hg : Gl X "_law_word" := by rfl) (hes : starEach [ea] X.env = (false, eval ea X.env) :: starEach [] X.env := by rfl) : wE X Ψ (.Call (.Name "_law_word" p) [ea] [] pos) E S Φ := by
  refine wE_wordV (i := 1) (a := "_law_work") (en := "e") (xn := "PhoneError") (cE := .ref C_PE) D.d_law_word rfl sc_law_word rfl (.inl rfl) rfl (by decide) rfl rfl N.pe rfl hg hr (h.imp fun w S1 ⟨f, d, dv, pr, bd, sc, Ψ1, Φ1, e, h1, h2, h3, h4, h5⟩ => ⟨f, d, dv, pr, bd, sc, Ψ1, Φ1, e, h1, h2, h3, fun g cdv s1 H1 w S2 hr2 hp => ?_, fun cls fs E2 S2 hp => ?_⟩) hes
  · have h6 := h4 w S2 hp
    specialize "go"
    exact h6
  · obtain ⟨u, hw, hp⟩ := h5 cls fs E2 S2 hp
    rcases hw with ⟨i, rfl, rfl, rfl⟩
    · refine ⟨N.e_BT.em, fun g cdv s1 H1 aE oe dd pn hr2 hz hf hd hs => ?_⟩
      obtain ⟨d, rfl⟩ := hs (by simp)
      exact word_BT G N hr2 hz hf hp
end

end
section
-- ZW
section
variable {P : Program} {w : World} {K : PySem.W.Frag} {mg : Str → Option Value} {base : Heap}
/-! ### wishes of any told things -/
def numD : W → Int
  | .int i => i
  | _ => 0
theorem isNum_int {w : W} {lo hi : Int} (h : isNumW w lo hi = true) : ∃ i, w = .int i ∧ lo ≤ i ∧ i ≤ hi := by
  cases w with
  | int i =>
    have h : (decide (lo ≤ i) && decide (i ≤ hi)) = true := h
    simp only [Bool.and_eq_true, decide_eq_true_eq] at h
    exact ⟨i, rfl, h.1, h.2⟩
  | _ => cases h
theorem ok_ty {S : Sto} {v : W} {n : Nat} (h : v.ok n = true) : ∃ t, tyW S v = some t := by
  cases v with
  | ref k => simp [W.ok] at h
  | raw k => simp [W.ok] at h
  | scr _ _ => simp [W.ok] at h
  | xi _ _ _ _ => simp [W.ok] at h
  | thg _ _ => simp [W.ok] at h
  | _ => exact ⟨_, rfl⟩
/-- a rising tuple of phones, one at least -/
def memW : W → Bool
  | .tup ms => !ms.isEmpty && (ms.all (isNumW · 0 5) && (List.range (ms.length - 1)).all fun k => decide (numD (ms.getD k .non) < numD (ms.getD (k + 1) .non)))
  | _ => false
theorem all_ints : ∀ {ws : List W}, (∀ o ∈ ws, isNumW o 0 5 = true) → ∃ ms : List Int, ws = intsW ms ∧ ∀ m ∈ ms, 0 ≤ m ∧ m ≤ 5
  | [], _ => ⟨[], rfl, fun _ h => nomatch h⟩
  | o :: os, h => by
    obtain ⟨i, rfl, h0, h5⟩ := isNum_int (h o List.mem_cons_self)
    obtain ⟨ms, rfl, hm⟩ := all_ints fun x hx => h x (List.mem_cons_of_mem _ hx)
    refine ⟨i :: ms, rfl, fun m hm' => ?_⟩
    rcases List.mem_cons.mp hm' with rfl | z
    · exact ⟨h0, h5⟩
    · exact hm m z
theorem memW_ints {ms : List Int} (he : ms ≠ []) (hm : ∀ m ∈ ms, 0 ≤ m ∧ m ≤ 5) : memW (.tup (intsW ms)) = (List.range (ms.length - 1)).all fun k => decide (ms.getD k 0 < ms.getD (k + 1) 0) := by
  have h1 : (intsW ms).isEmpty = false := by
    cases ms with
    | nil => exact absurd rfl he
    | cons a l => rfl
  have h2 : (intsW ms).all (isNumW · 0 5) = true := by
    rw [List.all_eq_true]
    intro o ho
    obtain ⟨m, hm', rfl⟩ := List.mem_map.mp ho
    exact num_yes (hm m hm').1 (hm m hm').2
  have hg : ∀ k, numD ((intsW ms).getD k .non) = ms.getD k 0 := by
    intro k
    unfold intsW
    rw [List.getD_eq_getElem?_getD, List.getElem?_map, List.getD_eq_getElem?_getD]
    cases ms[k]? <;> rfl
  unfold memW
  dsimp only
  rw [h1, h2, len_ints]
  simp only [hg, Bool.not_false, Bool.true_and]
theorem memW_no {ws : List W} (ha : ¬ ∀ o ∈ ws, isNumW o 0 5 = true) : memW (.tup ws) = false := by
  have : ws.all (isNumW · 0 5) = false := by
    rw [← Bool.not_eq_true, List.all_eq_true]
    exact ha
  unfold memW
  dsimp only
  rw [this, Bool.false_and, Bool.and_false]
theorem notallW {ws : List W} (ha : ¬ ∀ o ∈ ws, isNumW o 0 5 = true) : (!(ws.filter fun x => !isNumW x 0 5).isEmpty) = true := by
  cases h : (ws.filter fun x => !isNumW x 0 5) with
  | cons a l => rfl
  | nil =>
    rw [List.filter_eq_nil_iff] at h
    refine absurd (fun o ho => ?_) ha
    have := h o ho
    cases hq : isNumW o 0 5 with
    | true => rfl
    | false => rw [hq] at this; exact absurd rfl this
def idW (x : W) : W := x
theorem map_idW {ws : List W} : ws.map idW = ws := List.map_id' ws
theorem oks_idW {n : Nat} : ∀ {ws : List W}, (∀ o ∈ ws, o.ok n = true) → W.oks (ws.map idW) n = true := fun {ws} h => by rw [map_idW, W.oks_all, List.all_eq_true]; exact h
def asp_memW : ASp := fun ws S Φ _ => ∃ v, ws = [v] ∧ v.ok 60 = true ∧ (∀ l, v = .tup l → l.length ≤ 100000) ∧ Φ (.bl (memW v)) S
section
local macro_rules | `(tactic| specialize "s0") => `(tactic| ((with_reducible show sLc _ _ _ _ _ _ (List.map idW _) _ _ _); refine stop_i ?_))
local macro_rules | `(tactic| specialize "s3") => `(tactic| ((with_reducible show asp_is_phone _ _ _ _); refine ⟨_, Classical.choose (ok_ty (by assumption)), rfl, Classical.choose_spec (ok_ty (by assumption)), ?_⟩))
theorem cf_memW (G : GL mg) (D : DS K mg) : CFn P w K mg base "are_members" 3 1 asp_memW := by
  refine D.d_are_members.fn sc_are_members fun f cdv A outer s H E hr ws S Φ Ψ hl hS ha => ?_
  obtain ⟨v, rfl, hok, hl1, h⟩ := ha
  cases v with
  | tup os =>
    have hl1 := hl1 os rfl
    have hoks : W.oks os 59 = true := hok
    rw [W.oks_all, List.all_eq_true] at hoks
    by_cases he : os = []
    · subst he
      specialize "go"
      exact fin.as h
    by_cases ha : ∀ o ∈ os, isNumW o 0 5 = true
    · obtain ⟨ms, rfl, hm⟩ := all_ints ha
      have hl6 : ms.length ≤ 100000 := by rw [len_ints] at hl1; exact hl1
      specialize "go"
      have e1 : (intsW ms).isEmpty = false := by
        cases ms with
        | nil => exact absurd rfl he
        | cons a l => rfl
      have e2 : (List.filter (fun x => !isNumW (W.int x) 0 5) ms) = [] := by
        rw [List.filter_eq_nil_iff]
        intro x hx
        rw [num_yes (hm x hx).1 (hm x hx).2]
        exact Bool.false_ne_true
      refine sIte_f (by rw [e2]; rfl) ?_
      specialize "go"
      refine fin.eq h ?_
      congr 1
      rw [memW_ints (fun z => he (by rw [z]; rfl)) hm]
      rw [Bool.eq_iff_iff, List.isEmpty_iff, List.filter_eq_nil_iff, List.all_eq_true, len_ints, show ((ms.length : Int) - 1).toNat = ms.length - 1 by omega]
      refine forall_congr' fun k => forall_congr' fun hk => ?_
      rw [show (1 + (k : Int)).toNat = k + 1 by omega, show (1 + (k : Int) - 1).toNat = k by omega, decide_eq_true_eq, decide_eq_true_eq]
      omega
    · obtain ⟨ot, rfl⟩ : ∃ ot : List W, os = ot.map idW := ⟨os, map_idW.symm⟩
      have hie : (ot.map idW).isEmpty = false := by
        cases ot with
        | nil => exact absurd rfl he
        | cons a l => rfl
      have hel : ∀ o ∈ ot, o.ok 59 = true := fun o ho => hoks o (by rw [map_idW]; exact ho)
      have hlt : ot.length ≤ 100000 := by rw [List.length_map] at hl1; exact hl1
      have hof : ∀ p : W → Bool, W.oks ((ot.filter p).map idW) 59 = true := fun p => oks_idW fun o ho => hel o (List.mem_filter.mp ho).1
      specialize "go"
      · unfold Stop
        refine sLc_i (xs := ot) (enc := idW) (p := fun x => !isNumW x 0 5) (g := idW) trivial hlt (fun x hx => ?_) ?_
        · have hx2 := hel x hx
          unfold idW
          specialize "go"
        · have hoF := hof fun x => !isNumW x 0 5
          have hoF2 : (W.lst ((ot.filter fun x => !isNumW x 0 5).map idW)).ok 60 = true := hoF
          specialize "go"
      have hn := notallW (ws := ot) (by rw [map_idW] at ha; exact ha)
      refine sIte_t (by rw [hn, Bool.or_true]) ?_
      specialize "go"
      refine fin.eq h ?_
      rw [memW_no ha]
  | ref k => simp [W.ok] at hok
  | raw k => simp [W.ok] at hok
  | scr _ _ => simp [W.ok] at hok
  | xi _ _ _ _ => simp [W.ok] at hok
  | thg _ _ => simp [W.ok] at hok
  | _ =>
    specialize "go"
    exact fin.as h
end
section
local macro_rules | `(tactic| specialize "fun") => `(tactic| ((with_reducible show wE _ _ (Expr.Call (Expr.Name (Str.ofString "are_members") _) _ _ _) _ _ _); refine xE_call (cf_memW (by assumption) (by assumption)) (Room.mono (by assumption) (by decide)) ?_))
local macro_rules | `(tactic| specialize "s3") => `(tactic| ((with_reducible show asp_memW _ _ _ _); refine ⟨_, rfl, (by assumption), (by assumption), ?_⟩))
local macro_rules | `(tactic| specialize "s3") => `(tactic| ((with_reducible show asp_is_phone _ _ _ _); refine ⟨_, Classical.choose (ok_ty (by assumption)), rfl, Classical.choose_spec (ok_ty (by assumption)), ?_⟩))
local macro_rules | `(tactic| specialize "s3") => `(tactic| ((with_reducible show asp_is_number _ _ _ _); refine ⟨_, _, _, Classical.choose (ok_ty (by assumption)), rfl, Classical.choose_spec (ok_ty (by assumption)), ?_⟩))
local macro_rules | `(tactic| specialize "ix") => `(tactic| first | exact atI_nat (j := 0) rfl | exact atI_nat (j := 1) rfl | exact atI_nat (j := 2) rfl)
theorem cut_1 {v : W} {ws : List W} : cutW (v :: ws) (some 1) none = ws := by
  unfold cutW
  rw [HT.sIx_none, show HT.sIx (v :: ws).length 0 (some 1) = 1 from by
    rw [show (some (1 : Int)) = some ((1 : Nat) : Int) from rfl, HT.sIx_nat, List.length_cons]
    omega]
  rw [List.drop_succ_cons, List.drop_zero, List.length_cons, Nat.add_sub_cancel, List.take_length]
/-- whether something is a wish -/
theorem in2S {a x y : Str} : inW (.str a) [.str x, .str y] = (decide (a = x) || decide (a = y)) := by
  simp [inW, eqW_str, eq_comm]
theorem in3S {a x y z : Str} : inW (.str a) [.str x, .str y, .str z] = (decide (a = x) || (decide (a = y) || decide (a = z))) := by
  simp [inW, eqW_str, eq_comm]
local macro_rules | `(tactic| specialize "ev") => `(tactic| first | exact in2S | exact in3S)
def grpR (b : W) : List W → Bool
  | [m] => isNumW b 6 7 && memW m
  | _ => false
def barR (b : W) : List W → Bool
  | [c] => isNumW c 0 5 && !eqW c b
  | _ => false
def lateR : List W → Bool
  | [d] => isNumW d 1 9
  | _ => false
def goalR (late : Bool) (b : W) : List W → Bool
  | [] => false
  | c :: r => isNumW c 0 7 && (!eqW c b && (if late = true then lateR r else r.isEmpty))
def isWishW : W → Bool
  | .tup (.str a :: b :: r) =>
    if decide (a = "group") = true then grpR b r
    else if isNumW b 0 5 = false then false
    else if (decide (a = "wait") || decide (a = "still")) = true then r.isEmpty
    else if decide (a = "bar") = true then barR b r
    else if (decide (a = "all") || (decide (a = "busy") || decide (a = "late"))) = false then false
    else goalR (decide (a = "late")) b r
  | _ => false
def asp_is_wishW : ASp := fun ws S Φ _ => ∃ v, ws = [v] ∧ v.ok 60 = true ∧ (∀ l m, v = .tup l → .tup m ∈ l → m.length ≤ 100000) ∧ (∀ l, v = .tup l → l.length ≤ 100000) ∧ Φ (.bl (isWishW v)) S
theorem cf_is_wishW (G : GL mg) (D : DS K mg) : CFn P w K mg base "is_wish" 4 1 asp_is_wishW := by
  refine D.d_is_wish.fn sc_is_wish fun f cdv A outer s H E hr ws S Φ Ψ hl hS ha => ?_
  obtain ⟨v, rfl, hok, hm1, hl1, h⟩ := ha
  cases v with
  | ref k => simp [W.ok] at hok
  | raw k => simp [W.ok] at hok
  | scr _ _ => simp [W.ok] at hok
  | xi _ _ _ _ => simp [W.ok] at hok
  | thg _ _ => simp [W.ok] at hok
  | tup l =>
    have hl1 := hl1 l rfl
    have hm1 := fun m => hm1 l m rfl
    have hoks : W.oks l 59 = true := hok
    rw [W.oks_all, List.all_eq_true] at hoks
    rcases l with _ | ⟨x0, _ | ⟨b, r⟩⟩
    · specialize "go"
      exact fin.as h
    · have e : isWishW (.tup [x0]) = false := by cases x0 <;> rfl
      rw [e] at h
      specialize "go"
      exact fin.as h
    · have ox := hoks x0 List.mem_cons_self
      have ob := hoks b (List.mem_cons_of_mem _ List.mem_cons_self)
      cases x0 with
      | ref k => simp [W.ok] at ox
      | raw k => simp [W.ok] at ox
      | scr _ _ => simp [W.ok] at ox
      | xi _ _ _ _ => simp [W.ok] at ox
      | thg _ _ => simp [W.ok] at ox
      | str a =>
        have hc1 : cutW (W.str a :: b :: r) (some 1) none = b :: r := cut_1
        have oks2 : W.oks (W.str a :: b :: r) 59 = true := hok
        have hl1' : r.length + 1 + 1 ≤ 100000 := hl1
        specialize "go"
        rw [hc1]
        refine sIte_s (fun hg => ?_) (fun hg => ?_)
        · have hr : isWishW (.tup (.str a :: b :: r)) = grpR b r := by unfold isWishW; dsimp only; rw [if_pos hg]
          rcases r with _ | ⟨m, _ | ⟨m2, r⟩⟩
          · specialize "go"
            exact fin.eq h (by rw [hr]; rfl)
          · have om : m.ok 60 = true := W.ok_mono _ (by decide) (hoks m (by simp))
            have hml : ∀ l, m = .tup l → l.length ≤ 100000 := fun l e => hm1 l (by rw [e]; simp)
            specialize "go"
            exact fin.eq h (by rw [hr]; rfl)
          · specialize "go"
            exact fin.eq h (by rw [hr]; rfl)
        specialize "go"
        cases hp : isNumW b 0 5 with
        | false =>
          refine sIte_t (by rfl) ?_
          specialize "go"
          exact fin.eq h (by unfold isWishW; dsimp only; rw [if_neg (by rw [hg]; decide), if_pos hp])
        | true =>
        refine sIte_f (by rfl) ?_
        obtain ⟨p, rfl, p0, p5⟩ := isNum_int hp
        have hr : isWishW (.tup (.str a :: .int p :: r)) = if (decide (a = "wait") || decide (a = "still")) = true then r.isEmpty
          else if decide (a = "bar") = true then barR (.int p) r
          else if (decide (a = "all") || (decide (a = "busy") || decide (a = "late"))) = false then false
          else goalR (decide (a = "late")) (.int p) r := by
          unfold isWishW; dsimp only; rw [if_neg (by rw [hg]; decide), if_neg (by rw [hp]; decide)]
        specialize "go"
        refine sIte_s (fun hw => ?_) (fun hw => ?_)
        · change (decide (a = "wait") || decide (a = "still")) = true at hw
          rw [if_pos hw] at hr
          cases r with
          | nil =>
            specialize "go"
            exact fin.eq h (by rw [hr]; rfl)
          | cons c r =>
            specialize "go"
            refine fin.eq h ?_
            rw [hr]
            congr 1
            done
        change (decide (a = "wait") || decide (a = "still")) = false at hw
        rw [if_neg (by rw [hw]; decide)] at hr
        specialize "go"
        refine sIte_s (fun hb => ?_) (fun hb => ?_)
        · rw [if_pos hb] at hr
          rcases r with _ | ⟨c, _ | ⟨c2, r⟩⟩
          · specialize "go"
            exact fin.eq h (by rw [hr]; rfl)
          · have oc : c.ok 60 = true := W.ok_mono _ (by decide) (hoks c (by simp))
            specialize "go"
            exact fin.eq h (by rw [hr]; rfl)
          · specialize "go"
            exact fin.eq h (by rw [hr]; rfl)
        rw [if_neg (by rw [hb]; decide)] at hr
        cases hk : (decide (a = "all") || (decide (a = "busy") || decide (a = "late"))) with
        | false =>
          rw [if_pos hk] at hr
          specialize "go"
          exact fin.eq h (by rw [hr])
        | true =>
          rw [if_neg (by rw [hk]; decide)] at hr
          rcases r with _ | ⟨c, r⟩
          · specialize "go"
            exact fin.eq h (by rw [hr]; rfl)
          · have oc : c.ok 60 = true := W.ok_mono _ (by decide) (hoks c (by simp))
            specialize "go"
            refine sIte_s (fun hc => ?_) (fun hc => ?_)
            · specialize "go"
              refine fin.eq h ?_
              rw [hr]
              congr 1
              show false = (isNumW c 0 7 && (!eqW c (.int p) && _))
              change (!isNumW c 0 7 || eqW c (.int p)) = true at hc
              cases h1 : isNumW c 0 7 <;> cases h2 : eqW c (.int p) <;> rw [h1, h2] at hc <;> first | rfl | cases hc
            · change (!isNumW c 0 7 || eqW c (.int p)) = false at hc
              have e1 : goalR (decide (a = "late")) (.int p) (c :: r) = if decide (a = "late") = true then lateR r else r.isEmpty := by
                show (isNumW c 0 7 && (!eqW c (.int p) && _)) = _
                cases h1 : isNumW c 0 7 <;> cases h2 : eqW c (.int p) <;> rw [h1, h2] at hc <;> first | rfl | cases hc
              rw [e1] at hr
              specialize "go"
              refine sIte_s (fun hq => ?_) (fun hq => ?_)
              · have hq' : decide (a = "late") = false := by rw [Bool.not_eq_true'] at hq; exact hq
                rw [hq', if_neg (by decide)] at hr
                cases r with
                | nil =>
                  specialize "go"
                  exact fin.eq h (by rw [hr]; rfl)
                | cons d r =>
                  specialize "go"
                  exact fin.eq h (by rw [hr]; rfl)
              · have hq' : decide (a = "late") = true := by rw [Bool.not_eq_false'] at hq; exact hq
                rw [if_pos hq'] at hr
                rcases r with _ | ⟨d, _ | ⟨d2, r⟩⟩
                · specialize "go"
                  exact fin.eq h (by rw [hr]; rfl)
                · have od : d.ok 60 = true := W.ok_mono _ (by decide) (hoks d (by simp))
                  specialize "go"
                  exact fin.eq h (by rw [hr]; rfl)
                · specialize "go"
                  exact fin.eq h (by rw [hr]; rfl)
      | _ =>
        specialize "go"
        exact fin.as h
  | _ =>
    specialize "go"
    exact fin.as h
end
end

end
section
-- ZX
section
variable {P : Program} {w : World} {K : PySem.W.Frag} {mg : Str → Option Value} {base : Heap}
/-- whether something is a deed -/
def oneWords : List Str := ["lift", "drop", "hold", "swap", "take", "join"]
def isDeedW : W → Bool
  | .tup (.str a :: r) => match r with
    | [] => decide (a = "beat")
    | [p] => decide (a ∈ oneWords) && isNumW p 0 5
    | [p, g] => decide (a = "dial") && (isNumW p 0 5 && isNumW g 0 7)
    | _ => false
  | _ => false
theorem sizes_at {a : Str} (h : a ∈ sizesL.map Prod.fst) : (a ∈ oneWords ∧ (a, 2) ∈ sizesL) ∨ (a = "dial" ∧ (a, 3) ∈ sizesL) ∨ (a = "beat" ∧ (a, 1) ∈ sizesL) := by
  simp only [sizesL, List.map_cons, List.map_nil, List.mem_cons, List.not_mem_nil, or_false] at h
  rcases h with rfl | rfl | rfl | rfl | rfl | rfl | rfl | rfl <;> first
    | exact .inl ⟨by decide +kernel, by decide +kernel⟩
    | exact .inr (.inl ⟨rfl, by decide +kernel⟩)
    | exact .inr (.inr ⟨rfl, by decide +kernel⟩)
theorem one_not {a : Str} (h : a ∈ oneWords) : a ≠ "dial" ∧ a ≠ "beat" := by
  simp only [oneWords, List.mem_cons, List.not_mem_nil, or_false] at h
  rcases h with rfl | rfl | rfl | rfl | rfl | rfl <;> exact ⟨by decide +kernel, by decide +kernel⟩
theorem sizes_not {a : Str} (h : a ∉ sizesL.map Prod.fst) : a ∉ oneWords ∧ a ≠ "dial" ∧ a ≠ "beat" := by
  refine ⟨fun q => h ?_, fun q => h ?_, fun q => h ?_⟩
  · simp only [oneWords, List.mem_cons, List.not_mem_nil, or_false] at q
    rcases q with rfl | rfl | rfl | rfl | rfl | rfl <;> decide +kernel
  · rw [q]; decide +kernel
  · rw [q]; decide +kernel
def asp_is_deedW : ASp := fun ws S Φ _ => ∃ v, ws = [v] ∧ v.ok 60 = true ∧ (∀ l, v = .tup l → l.length ≤ 100000) ∧ Φ (.bl (isDeedW v)) S
section
local macro_rules | `(tactic| specialize "cmT") => `(tactic| ((with_reducible show wT _ _ (Expr.Compare _ [CmpOp.NotIn] [Expr.Name (Str.ofString "SIZES") _] _) _ _ _); refine xT_tabNotInA (by assumption) ?_))
local macro_rules | `(tactic| specialize "su") => `(tactic| ((with_reducible show wE _ _ (Expr.Subscript (Expr.Name (Str.ofString "SIZES") _) _ _) _ _ _); refine xE_tabIx (by assumption) ?_))
local macro_rules | `(tactic| specialize "s3") => `(tactic| ((with_reducible show sTabAny _ _ _ _); refine sTabAny_i ?_))
local macro_rules | `(tactic| specialize "s3") => `(tactic| ((with_reducible show sTabIx _ _ _ _); refine sTabIx_i (by assumption) ?_))
local macro_rules | `(tactic| specialize "s3") => `(tactic| ((with_reducible show asp_is_number _ _ _ _); refine ⟨_, _, _, Classical.choose (ok_ty (by assumption)), rfl, Classical.choose_spec (ok_ty (by assumption)), ?_⟩))
local macro_rules | `(tactic| specialize "s0") => `(tactic| ((with_reducible show sLc _ _ _ _ _ _ _ _ _ _); refine stop_i ?_))
local macro_rules | `(tactic| specialize "ix") => `(tactic| first | exact atI_nat (j := 0) rfl | exact atI_nat (j := 1) rfl | exact atI_nat (j := 2) rfl)
theorem cf_is_deedW (G : GL mg) (D : DS K mg) (T : KTabA K w mg "SIZES" sizesL) : CFn P w K mg base "is_deed" 2 1 asp_is_deedW := by
  refine D.d_is_deed.fn sc_is_deed fun f cdv A outer s H E hr ws S Φ Ψ hl hS ha => ?_
  obtain ⟨v, rfl, hok, hl1, h⟩ := ha
  have T1 := T.tab
  cases v with
  | ref k => simp [W.ok] at hok
  | raw k => simp [W.ok] at hok
  | scr _ _ => simp [W.ok] at hok
  | xi _ _ _ _ => simp [W.ok] at hok
  | thg _ _ => simp [W.ok] at hok
  | tup l =>
    have hl1 := hl1 l rfl
    have hoks : W.oks l 59 = true := hok
    rw [W.oks_all, List.all_eq_true] at hoks
    rcases l with _ | ⟨x0, r⟩
    · specialize "go"
      exact fin.as h
    have ox := hoks x0 List.mem_cons_self
    have hoks2 : W.oks (x0 :: r) 59 = true := hok
    have hl1' : r.length + 1 ≤ 100000 := hl1
    cases x0 with
    | ref k => simp [W.ok] at ox
    | raw k => simp [W.ok] at ox
    | scr _ _ => simp [W.ok] at ox
    | xi _ _ _ _ => simp [W.ok] at ox
    | thg _ _ => simp [W.ok] at ox
    | str a =>
      by_cases ha : a ∈ sizesL.map Prod.fst
      · have hd1 : decide (a ∉ sizesL.map Prod.fst) = false := decide_eq_false fun q => q ha
        rcases sizes_at ha with ⟨h1, h2⟩ | ⟨rfl, h2⟩ | ⟨rfl, h2⟩
        · obtain ⟨n1, n2⟩ := one_not h1
          rcases r with _ | ⟨p, _ | ⟨g, r⟩⟩
          · have e : isDeedW (.tup [.str a]) = false := decide_eq_false n2
            rw [e] at h
            specialize "go"
            exact fin.as h
          · have e : isDeedW (.tup [.str a, p]) = isNumW p 0 5 := by
              show (decide _ && _) = _
              rw [decide_eq_true h1]; rfl
            have op : p.ok 60 = true := W.ok_mono _ (by decide) (hoks p (by simp))
            rw [e] at h
            specialize "go"
            unfold Stop
            refine sLc_i (p := fun _ => !isNumW p 0 5) (g := fun x : Nat => W.int (0 + (x : Int))) trivial (by simp) (fun x hx => ?_) ?_
            · have hx2 := List.mem_range.mp hx
              have hx3 : x = 0 := by simp at hx2; omega
              subst hx3
              specialize "go"
            · specialize "go"
              refine fin.eq h ?_
              cases isNumW p 0 5 <;> rfl
          · have e : isDeedW (.tup (.str a :: p :: g :: r)) = false := by
              cases r with
              | nil =>
                show (decide _ && _) = _
                rw [decide_eq_false n1]; rfl
              | cons _ _ => rfl
            rw [e] at h
            specialize "go"
            exact fin.as h
        · rcases r with _ | ⟨p, _ | ⟨g, _ | ⟨g2, r⟩⟩⟩
          · have e : isDeedW (.tup [.str ("dial" : Str)]) = false := by show decide (("dial" : Str) = "beat") = false; decide +kernel
            rw [e] at h
            specialize "go"
            exact fin.as h
          · have e : isDeedW (.tup [.str ("dial" : Str), p]) = false := by
              show (decide (("dial" : Str) ∈ oneWords) && isNumW p 0 5) = false
              rw [show decide (("dial" : Str) ∈ oneWords) = false from by decide +kernel]; rfl
            rw [e] at h
            specialize "go"
            exact fin.as h
          · have e : isDeedW (.tup [.str ("dial" : Str), p, g]) = (isNumW p 0 5 && isNumW g 0 7) := by
              show (decide (("dial" : Str) = "dial") && (isNumW p 0 5 && isNumW g 0 7)) = _
              rw [show decide (("dial" : Str) = "dial") = true from by decide +kernel]; rfl
            have op : p.ok 60 = true := W.ok_mono _ (by decide) (hoks p (by simp))
            have og : g.ok 60 = true := W.ok_mono _ (by decide) (hoks g (by simp))
            rw [e] at h
            specialize "go"
            unfold Stop
            refine sLc_i (p := fun x => if x = 0 then !isNumW p 0 5 else !isNumW g 0 7) (g := fun x : Nat => W.int (0 + (x : Int))) trivial (by simp) (fun x hx => ?_) ?_
            · have hx2 := List.mem_range.mp hx
              have hx3 : x = 0 ∨ x = 1 := by simp at hx2; omega
              rcases hx3 with rfl | rfl <;> (specialize "go")
            · specialize "go"
              refine fin.eq h ?_
              congr 1
              show (List.filter (fun x : Nat => if x = 0 then !isNumW p 0 5 else !isNumW g 0 7) [0, 1]).isEmpty = _
              cases isNumW p 0 5 <;> cases isNumW g 0 7 <;> rfl
          · have e : isDeedW (.tup (.str ("dial" : Str) :: p :: g :: g2 :: r)) = false := rfl
            rw [e] at h
            specialize "go"
            exact fin.as h
        · cases r with
          | nil =>
            have e : isDeedW (.tup [.str ("beat" : Str)]) = true := by show decide (("beat" : Str) = "beat") = true; decide +kernel
            rw [e] at h
            specialize "go"
            unfold Stop
            refine sLc_i (p := fun _ => false) (g := fun x : Nat => W.int (0 + (x : Int))) trivial (by simp) (fun x hx => ?_) ?_
            · have hx2 := List.mem_range.mp hx
              simp at hx2
            · specialize "go"
              exact fin.as h
          | cons p r =>
            have e : isDeedW (.tup (.str ("beat" : Str) :: p :: r)) = false := by
              rcases r with _ | ⟨g, _ | ⟨g2, r⟩⟩
              · show (decide (("beat" : Str) ∈ oneWords) && isNumW p 0 5) = false
                rw [show decide (("beat" : Str) ∈ oneWords) = false from by decide +kernel]; rfl
              · show (decide (("beat" : Str) = "dial") && (isNumW p 0 5 && isNumW g 0 7)) = false
                rw [show decide (("beat" : Str) = "dial") = false from by decide +kernel]; rfl
              · rfl
            rw [e] at h
            specialize "go"
            exact fin.as h
      · have hd1 : decide (a ∉ sizesL.map Prod.fst) = true := decide_eq_true ha
        obtain ⟨n1, n2, n3⟩ := sizes_not ha
        specialize "go"
        refine fin.eq h ?_
        congr 1
        rcases r with _ | ⟨p, _ | ⟨g, _ | ⟨g2, r⟩⟩⟩
        · exact (decide_eq_false n3).symm
        · show _ = (decide _ && _)
          rw [decide_eq_false n1]; rfl
        · show _ = (decide _ && _)
          rw [decide_eq_false n2]; rfl
        · rfl
    | _ =>
      specialize "go"
      exact fin.as h
  | _ =>
    specialize "go"
    exact fin.as h
end
end

end
section
-- ZY
section
variable {P : Program} {w : World} {K : PySem.W.Frag} {mg : Str → Option Value} {base : Heap}
def sSign (x y : W) (S : Sto) (ΦT : Bool → Sto → Prop) : Prop := ∃ (c : Nat) (z : Str), x = .str ⟨#[c]⟩ ∧ y = .str z ∧ ΦT (decide (c ∈ z.cps.toList)) S
theorem sSign_i {c : Nat} {z : Str} {S : Sto} {ΦT : Bool → Sto → Prop} (h : ΦT (decide (c ∈ z.cps.toList)) S) : sSign (.str ⟨#[c]⟩) (.str z) S ΦT := ⟨c, z, rfl, rfl, h⟩
theorem xT_inSign {X : Cx} {Ψ : AX} {a b : Expr} {E : AEnv} {S : Sto} {ΦT : Bool → Sto → Prop} {pos : Pos} (h : wE X Ψ a E S fun x S1 => wE X Ψ b E S1 fun y S2 => sSign x y S2 ΦT) (hm : behindInMarks .In b = false := by rfl) : wT X Ψ (.Compare a [.In] [b] pos) E S ΦT := wT_inSign h hm
def sLenS (x : W) (S : Sto) (Φ : W → Sto → Prop) : Prop := ∃ z : Str, x = .str z ∧ z.length ≤ sizeLine ∧ Φ (.int z.length) S
theorem sLenS_i {z : Str} {S : Sto} {Φ : W → Sto → Prop} (h1 : z.length ≤ sizeLine) (h : Φ (.int z.length) S) : sLenS (.str z) S Φ := ⟨z, rfl, h1, h⟩
theorem xE_lenS {X : Cx} {Ψ : AX} {e : Expr} {E : AEnv} {S : Sto} {Φ : W → Sto → Prop} {pos p : Pos} (hm : X.mg "len" = none) (h : wE X Ψ e E S fun w S1 => sLenS w S1 Φ) (hg : Gl X "len" := by rfl) (he : starEach [e] X.env = (false, eval e X.env) :: starEach [] X.env := by rfl) (hpl : (backTo pos (starEach [] X.env)).any (·.1) = false := by rfl) : wE X Ψ (.Call (.Name "len" p) [e] [] pos) E S Φ :=
  wE_callB (g := fun us S Φ => ∃ w, us = [w] ∧ sLenS w S Φ) call_len_str (callw_one (fun M H S v w Φ r a ⟨w', e, z, e1, h1, p⟩ Q q => by
    cases e
    subst e1
    cases a
    exact ⟨z, rfl, h1, q _ _ M S H p r (.int _) (Step.refl _ _)⟩) fun ws S Φ ⟨w, e, _⟩ => ⟨_, e⟩) hm PySem.boot_len (wA_cons (h.imp fun w S1 p => wA_nil ⟨w, rfl, p⟩) he) hg (by decide) (by decide) he hpl
/-- the number that a word writes -/
def numF (z : Str) : Option Int := match z.cps.toList with
  | [c] => if 48 ≤ c ∧ c ≤ 57 then some ((c : Int) - 48) else none
  | _ => none
theorem figs_mem {c : Nat} : c ∈ (("0123456789" : Str)).cps.toList ↔ 48 ≤ c ∧ c ≤ 57 := by
  rw [show (("0123456789" : Str)).cps.toList = [48, 49, 50, 51, 52, 53, 54, 55, 56, 57] from by decide +kernel]
  simp only [List.mem_cons, List.not_mem_nil, or_false]
  omega
theorem one_sign {z : Str} (h : z.length = 1) : ∃ c, z = ⟨#[c]⟩ := by
  obtain ⟨a⟩ := z
  have h : a.size = 1 := h
  obtain ⟨c, hc⟩ : ∃ c, a.toList = [c] := List.length_eq_one_iff.mp (by rw [Array.length_toList]; exact h)
  exact ⟨c, by congr 1; exact Array.toList_inj.mp hc⟩
theorem num_no {z : Str} (h : z.length ≠ 1) : numF z = none := by
  unfold numF
  split
  · rename_i c e
    refine absurd ?_ h
    show z.cps.size = 1
    rw [← Array.length_toList, e]
    rfl
  · rfl
theorem num_sign {c : Nat} : numF ⟨#[c]⟩ = if 48 ≤ c ∧ c ≤ 57 then some ((c : Int) - 48) else none := rfl
theorem dig_str {c : Nat} (h : 48 ≤ c ∧ c ≤ 57) : PySem.intText? ⟨#[c]⟩ = some ((c : Int) - 48) := by
  have q := digit (i := (c : Int) - 48) (by omega) (by omega)
  rw [show 48 + ((c : Int) - 48).toNat = c by omega] at q
  rw [← q.1]
  exact q.2
def asp_numOf : ASp := fun ws S Φ _ => ∃ z : Str, ws = [.str z] ∧ z.length ≤ sizeLine ∧ Φ (optW (numF z)) S
section
local macro_rules | `(tactic| specialize "cmT") => `(tactic| ((with_reducible show wT _ _ (Expr.Compare _ [CmpOp.In] [Expr.Name (Str.ofString "FIGURES") _] _) _ _ _); refine xT_inSign ?_))
local macro_rules | `(tactic| specialize "s3") => `(tactic| ((with_reducible show sSign _ _ _ _); refine sSign_i ?_))
local macro_rules | `(tactic| specialize "fun") => `(tactic| ((with_reducible show wE _ _ (Expr.Call (Expr.Name (Str.ofString "int") _) _ _ _) _ _ _); refine xE_intS (GL.b_int (by assumption)) ?_))
local macro_rules | `(tactic| specialize "s3") => `(tactic| ((with_reducible show sIntOf _ _ _); refine sIntOf_i (by assumption) (show 1 ≤ 640 by decide) ?_))
local macro_rules | `(tactic| specialize "fun") => `(tactic| ((with_reducible show wE _ _ (Expr.Call (Expr.Name (Str.ofString "len") _) _ _ _) _ _ _); refine xE_lenS (GL.b_len (by assumption)) ?_))
local macro_rules | `(tactic| specialize "s3") => `(tactic| ((with_reducible show sLenS _ _ _); refine sLenS_i (by first | assumption | exact (show 1 ≤ sizeLine by decide)) ?_))
theorem cf_numOf (G : GL mg) (D : DS K mg) : CFn P w K mg base "number_of" 1 1 asp_numOf := by
  refine D.d_number_of.fn sc_number_of fun f cdv A outer s H E hr ws S Φ Ψ hl hS ha => ?_
  obtain ⟨z, rfl, hz, h⟩ := ha
  by_cases h1 : z.length = 1
  · obtain ⟨c, rfl⟩ := one_sign h1
    rw [num_sign] at h
    by_cases hc : 48 ≤ c ∧ c ≤ 57
    · have e2 := dig_str hc
      have e3 := decide_eq_true (figs_mem.mpr hc)
      rw [if_pos hc] at h
      specialize "go"
      exact fin.as h
    · have e3 := decide_eq_false (fun q => hc (figs_mem.mp q))
      rw [if_neg hc] at h
      specialize "go"
      exact fin.as h
  · have e1 : decide ((z.length : Int) = 1) = false := decide_eq_false (by omega)
    rw [num_no h1] at h
    specialize "go"
    exact fin.as h
end
/-- what words write -/
def thingW (a : Str) (os : List (Option Int)) : W := if a = "group" then (match os with | [] => .tup [.str a] | o :: r => .tup [.str "group", optW o, .tup (r.map optW)]) else .tup (.str a :: os.map optW)
def asp_thingF : ASp := fun ws S Φ _ => ∃ (a : Str) (l : List Str), ws = [.lst ((a :: l).map W.str)] ∧ PyData.strOk a = true ∧ l.length ≤ 99999 ∧ (∀ z ∈ l, z.length ≤ sizeLine) ∧ Φ (thingW a (l.map numF)) S
section
local macro_rules | `(tactic| specialize "fun") => `(tactic| ((with_reducible show wE _ _ (Expr.Call (Expr.Name (Str.ofString "number_of") _) _ _ _) _ _ _); refine xE_call (cf_numOf (by assumption) (by assumption)) (Room.mono (by assumption) (by decide)) ?_))
local macro_rules | `(tactic| specialize "s0") => `(tactic| ((with_reducible show sLc _ _ _ _ _ _ _ _ _ _); refine stop_i ?_))
local macro_rules | `(tactic| specialize "slice") => `(tactic| ((with_reducible show wE _ _ (Expr.Subscript (Expr.Name (Str.ofString "words") _) _ _) _ _ _); refine xE_slL ?_))
local macro_rules | `(tactic| specialize "s2") => `(tactic| ((with_reducible show sCut _ _ _ _ _); refine sCut_l ?_; rw [cut_1]))
local macro_rules | `(tactic| specialize "s2") => `(tactic| ((with_reducible show sCutT _ _ _ _ _); refine sCutT_i ?_; rw [cut_1]))
local macro_rules | `(tactic| specialize "plus") => `(tactic| ((with_reducible show wE _ _ (Expr.BinOp (Expr.Tuple _ _ _) _ _ _) _ _ _); refine xE_catT ?_))
local macro_rules | `(tactic| specialize "ix") => `(tactic| exact atI_nat (j := 0) rfl)
theorem cf_thingF (G : GL mg) (D : DS K mg) : CFn P w K mg base "thing_of" 2 1 asp_thingF := by
  refine D.d_thing_of.fn sc_thing_of fun f cdv A outer s H E hr ws S Φ Ψ hl hS ha => ?_
  obtain ⟨a, l, rfl, hok, hll, hz, h⟩ := ha
  simp only [List.map_cons]
  specialize "go"
  unfold Stop
  refine sLc_i (p := fun _ => true) (g := fun z => optW (numF z)) trivial (by omega) (fun x hx => ?_) ?_
  · refine TurnP.no_i ?_
    intro s1 H0 C cl fp
    specialize "go"
    exact ⟨x, rfl, hz x hx, rfl, rfl⟩
  rw [List.filter_eq_self.mpr fun _ _ => rfl]
  have hll2 : (l.map fun z => optW (numF z)).length ≤ 99999 := by rw [List.length_map]; exact hll
  have em : (l.map numF).map optW = l.map fun z => optW (numF z) := List.map_map
  by_cases hg : a = "group"
  · subst hg
    cases l with
    | nil =>
      specialize "go"
      refine sCatT_i (by decide) ?_
      exact fin.as h
    | cons z r =>
      simp only [List.map_cons] at hll2 ⊢
      have e : thingW "group" ((z :: r).map numF) = .tup [.str "group", optW (numF z), .tup (r.map fun z => optW (numF z))] := by
        unfold thingW
        rw [if_pos rfl]
        show W.tup [_, _, .tup ((r.map numF).map optW)] = _
        rw [List.map_map]
        rfl
      rw [e] at h
      specialize "go"
      exact fin.as h
  · have hg' : decide (a = "group") = false := decide_eq_false hg
    have e : thingW a (l.map numF) = .tup (.str a :: l.map fun z => optW (numF z)) := by
      unfold thingW
      rw [if_neg hg, em]
    rw [e] at h
    specialize "go"
    refine sCatT_i (by simp only [List.length_cons, List.length_nil]; omega) ?_
    exact fin.as h
end
end

end
section
-- ZR
/-! ### what is_wish, is_deed let by -/
theorem rise_len : ∀ {ms : List Int} {lo : Int}, (∀ m ∈ ms, lo ≤ m ∧ m ≤ 5) → (∀ (k : Nat) (a b : Int), ms[k]? = some a → ms[k + 1]? = some b → a < b) → lo ≤ 6 → (ms.length : Int) ≤ 6 - lo
  | [], lo, _, _, h => by simp only [List.length_nil]; omega
  | m :: ms, lo, h1, h2, h => by
    have hm := h1 m List.mem_cons_self
    have q := rise_len (ms := ms) (lo := m + 1) (fun x hx => by
      refine ⟨?_, (h1 x (List.mem_cons_of_mem _ hx)).2⟩
      obtain ⟨i, hi, e⟩ := List.mem_iff_getElem.mp hx
      have : ∀ (j : Nat) (y : Int), ms[j]? = some y → m < y := by
        intro j
        induction j with
        | zero => exact fun y hy => h2 0 m y rfl hy
        | succ j ih =>
          intro y hy
          have hl : j + 1 < ms.length := (List.getElem?_eq_some_iff.mp hy).1
          have e1 : ms[j]? = some ms[j] := List.getElem?_eq_getElem (by omega)
          have z := h2 (j + 1) ms[j] y e1 hy
          have := ih _ e1
          omega
      have := this i x (by rw [List.getElem?_eq_getElem hi, e])
      omega) (fun k a b ha hb => h2 (k + 1) a b ha hb) (by omega)
    simp only [List.length_cons]
    omega
theorem mem_ms {v : W} (h : memW v = true) : ∃ ms, v = .tup (intsW ms) ∧ msOk ms := by
  cases v with
  | tup ws =>
    unfold memW at h
    dsimp only at h
    rw [Bool.and_eq_true, Bool.and_eq_true] at h
    obtain ⟨h1, h2, h3⟩ := h
    rw [List.all_eq_true] at h2
    obtain ⟨ms, rfl, hm⟩ := all_ints h2
    have hne : ms ≠ [] := fun z => by rw [z] at h1; cases h1
    have q := memW_ints hne hm
    have h4 : memW (.tup (intsW ms)) = true := by
      unfold memW
      dsimp only
      rw [h1, h3, List.all_eq_true.mpr h2]
      rfl
    rw [h4] at q
    have q := List.all_eq_true.mp q.symm
    have ris : ∀ (k : Nat) (a b : Int), ms[k]? = some a → ms[k + 1]? = some b → a < b := by
      intro k a b ha hb
      have hl : k + 1 < ms.length := (List.getElem?_eq_some_iff.mp hb).1
      have := of_decide_eq_true (q k (List.mem_range.mpr (by omega)))
      rw [List.getD_eq_getElem?_getD, List.getD_eq_getElem?_getD, ha, hb] at this
      exact this
    have hl := rise_len (lo := 0) hm ris (by decide)
    exact ⟨ms, rfl, hne, by omega, hm, ris⟩
  | _ => cases h
theorem wish_of {v : W} (h : isWishW v = true) : ∃ x : Wish, x.ok ∧ v = x.w := by
  unfold isWishW at h
  split at h
  · rename_i a b r
    split at h
    · rename_i hg
      have hg := of_decide_eq_true hg
      subst hg
      rcases r with _ | ⟨m, _ | ⟨m2, r⟩⟩
      · cases h
      · have h : (isNumW b 6 7 && memW m) = true := h
        rw [Bool.and_eq_true] at h
        obtain ⟨g, rfl, g6, g7⟩ := isNum_int h.1
        obtain ⟨ms, rfl, hm⟩ := mem_ms h.2
        exact ⟨.group g ms, ⟨g6, g7, hm⟩, rfl⟩
      · cases h
    · split at h
      · cases h
      · rename_i hp
        obtain ⟨p, rfl, p0, p5⟩ := isNum_int (by rw [Bool.not_eq_false] at hp; exact hp)
        split at h
        · rename_i hw
          cases r with
          | cons _ _ => cases h
          | nil =>
            rw [Bool.or_eq_true, decide_eq_true_eq, decide_eq_true_eq] at hw
            rcases hw with rfl | rfl
            · exact ⟨.wait p, ⟨p0, p5⟩, rfl⟩
            · exact ⟨.still p, ⟨p0, p5⟩, rfl⟩
        · split at h
          · rename_i hb
            have hb := of_decide_eq_true hb
            subst hb
            rcases r with _ | ⟨c, _ | ⟨c2, r⟩⟩
            · cases h
            · have h : (isNumW c 0 5 && !eqW c (.int p)) = true := h
              rw [Bool.and_eq_true, Bool.not_eq_true'] at h
              obtain ⟨o, rfl, o0, o5⟩ := isNum_int h.1
              have hne := h.2
              rw [eqW_int, decide_eq_false_iff_not] at hne
              exact ⟨.bar p o, ⟨p0, p5, o0, o5, hne⟩, rfl⟩
            · cases h
          · split at h
            · cases h
            · rename_i hk
              rw [Bool.not_eq_false, Bool.or_eq_true, Bool.or_eq_true, decide_eq_true_eq, decide_eq_true_eq, decide_eq_true_eq] at hk
              cases r with
              | nil => cases h
              | cons c r =>
                have h : (isNumW c 0 7 && (!eqW c (.int p) && (if decide (a = "late") = true then lateR r else r.isEmpty))) = true := h
                rw [Bool.and_eq_true, Bool.and_eq_true, Bool.not_eq_true'] at h
                obtain ⟨h1, hne, h3⟩ := h
                obtain ⟨g, rfl, g0, g7⟩ := isNum_int h1
                rw [eqW_int, decide_eq_false_iff_not] at hne
                by_cases hl : a = "late"
                · subst hl
                  rw [if_pos (by decide +kernel)] at h3
                  rcases r with _ | ⟨d, _ | ⟨d2, r⟩⟩
                  · cases h3
                  · obtain ⟨t, rfl, t1, t9⟩ := isNum_int (w := d) h3
                    exact ⟨.late p g t, ⟨p0, p5, g0, g7, hne, t1, t9⟩, rfl⟩
                  · cases h3
                · rw [if_neg (by rw [decide_eq_true_eq]; exact hl)] at h3
                  cases r with
                  | cons _ _ => cases h3
                  | nil =>
                    rcases hk with rfl | rfl | rfl
                    · exact ⟨.all p g, ⟨p0, p5, g0, g7, hne⟩, rfl⟩
                    · exact ⟨.busy p g, ⟨p0, p5, g0, g7, hne⟩, rfl⟩
                    · exact absurd rfl hl
  · cases h
theorem deed_of {v : W} (h : isDeedW v = true) : ∃ d : Deed, d.ok ∧ v = d.w := by
  unfold isDeedW at h
  split at h
  · rename_i a r
    split at h
    · have h := of_decide_eq_true h
      subst h
      exact ⟨.beat, trivial, rfl⟩
    · rename_i p
      rw [Bool.and_eq_true, decide_eq_true_eq] at h
      obtain ⟨h1, h2⟩ := h
      obtain ⟨i, rfl, i0, i5⟩ := isNum_int h2
      simp only [oneWords, List.mem_cons, List.not_mem_nil, or_false] at h1
      rcases h1 with rfl | rfl | rfl | rfl | rfl | rfl
      · exact ⟨.lift i, ⟨i0, i5⟩, rfl⟩
      · exact ⟨.drop i, ⟨i0, i5⟩, rfl⟩
      · exact ⟨.hold i, ⟨i0, i5⟩, rfl⟩
      · exact ⟨.swap i, ⟨i0, i5⟩, rfl⟩
      · exact ⟨.take i, ⟨i0, i5⟩, rfl⟩
      · exact ⟨.join i, ⟨i0, i5⟩, rfl⟩
    · rename_i p g
      rw [Bool.and_eq_true, Bool.and_eq_true, decide_eq_true_eq] at h
      obtain ⟨rfl, h2, h3⟩ := h
      obtain ⟨i, rfl, i0, i5⟩ := isNum_int h2
      obtain ⟨j, rfl, j0, j7⟩ := isNum_int h3
      exact ⟨.dial i j, ⟨i0, i5, j0, j7⟩, rfl⟩
    · cases h
  · cases h

end
section
-- ZS
/-! ### reading, plainly -/
open PySem.Builtin PySem.Builtin.Str in
theorem part_ok {x y a : Str} (h : a ∈ Txt.split x y) (hx : PyData.strOk x = true) : PyData.strOk a = true := by
  have sub : ∀ i j, PyData.strOk (strSub x i j) = true := by
    intro i j
    unfold PyData.strOk at hx ⊢
    rw [Array.all_eq_true_iff_forall_mem] at hx ⊢
    intro c hc
    refine hx c ?_
    have hc' : c ∈ x.cps.extract i j := hc
    have hc2 : c ∈ (x.cps.extract i j).toList := Array.mem_toList_iff.mpr hc'
    rw [Array.toList_extract, List.extract_eq_take_drop] at hc2
    exact Array.mem_toList_iff.mp (List.mem_of_mem_drop (List.mem_of_mem_take hc2))
  have frm : ∀ (w : Nat) (cuts : List Nat) (a : Nat), ∀ p ∈ StrLaws.partsFrom x w a cuts, PyData.strOk p = true := by
    intro w cuts
    induction cuts with
    | nil =>
      intro a p hp
      rw [List.mem_singleton.mp hp]
      exact sub _ _
    | cons c r ih =>
      intro a p hp
      rcases List.mem_cons.mp hp with rfl | hp'
      · exact sub _ _
      · exact ih _ p hp'
  unfold Txt.split at h
  split at h
  · rw [List.mem_singleton.mp h]; exact hx
  · split at h
    · rw [List.mem_singleton.mp h]; exact hx
    · rw [StrLaws.partsBetween_eq] at h
      exact frm _ _ _ a h
open Classical in
noncomputable def wishC (v : W) : Option Wish := if h : isWishW v = true then some (Classical.choose (wish_of h)) else none
open Classical in
noncomputable def deedC (v : W) : Option Deed := if h : isDeedW v = true then some (Classical.choose (deed_of h)) else none
theorem wishC_some {v : W} {x : Wish} (h : wishC v = some x) : isWishW v = true ∧ x.ok ∧ v = x.w := by
  unfold wishC at h
  split at h
  · rename_i q
    have e := Option.some.inj h
    have z := Classical.choose_spec (wish_of q)
    rw [e] at z
    exact ⟨q, z.1, z.2⟩
  · cases h
theorem wishC_none {v : W} (h : wishC v = none) : isWishW v = false := by
  unfold wishC at h
  split at h
  · cases h
  · rename_i q; exact (Bool.not_eq_true _).mp q
theorem deedC_some {v : W} {x : Deed} (h : deedC v = some x) : isDeedW v = true ∧ x.ok ∧ v = x.w := by
  unfold deedC at h
  split at h
  · rename_i q
    have e := Option.some.inj h
    have z := Classical.choose_spec (deed_of q)
    rw [e] at z
    exact ⟨q, z.1, z.2⟩
  · cases h
theorem deedC_none {v : W} (h : deedC v = none) : isDeedW v = false := by
  unfold deedC at h
  split at h
  · cases h
  · rename_i q; exact (Bool.not_eq_true _).mp q
def thingV : List Str → W
  | [] => .non
  | a :: r => thingW a (r.map numF)
abbrev RSt := List Wish × List Deed
open Classical in
noncomputable def stepP (st : RSt) (l : List Str) : Option RSt :=
  if l.head? = some ("wish" : Str) ∧ st.2 = [] ∧ 1 < l.length ∧ st.1.length < 24 then
    match wishC (thingV l.tail) with
    | some x => if x.key ∈ st.1.map Wish.key then none else some (st.1 ++ [x], st.2)
    | none => none
  else match deedC (thingV l) with
    | some d => if st.2.length = 200 then none else some (st.1, st.2 ++ [d])
    | none => none
noncomputable def runP : List (List Str) → Nat → RSt → Nat ⊕ RSt
  | [], _, st => .inr st
  | l :: ls, i, st => match stepP st l with
    | none => .inl i
    | some st' => runP ls (i + 1) st'
def rowsP (x : Str) : List (List Str) := (if x = "" then [] else Txt.split x "\n").map fun r => Txt.split r " "
/-- what holds of what was read -/
structure ROk (st : RSt) : Prop where
  l1 : st.1.length ≤ 24
  l2 : st.2.length ≤ 200
  ok1 : ∀ x ∈ st.1, x.ok
  ok2 : ∀ x ∈ st.2, x.ok
  nd : (st.1.map Wish.key).Nodup
theorem ROk.nil : ROk ([], []) := ⟨by decide, by decide, (fun _ h => nomatch h), (fun _ h => nomatch h), List.nodup_nil⟩
theorem ROk.step {st st' : RSt} {l : List Str} (h : ROk st) (e : stepP st l = some st') : ROk st' := by
  unfold stepP at e
  split at e
  · rename_i hc
    split at e
    · rename_i x hx
      split at e
      · cases e
      · rename_i hk
        cases e
        obtain ⟨_, o, _⟩ := wishC_some hx
        refine ⟨by simp only [List.length_append, List.length_singleton]; omega, h.l2, fun y hy => ?_, h.ok2, ?_⟩
        · rcases List.mem_append.mp hy with hy | hy
          · exact h.ok1 y hy
          · rw [List.mem_singleton.mp hy]; exact o
        · show ((st.1 ++ [x]).map Wish.key).Nodup
          rw [List.map_append, List.nodup_append]
          refine ⟨h.nd, by simp, fun a ha b hb q => hk ?_⟩
          have hb : b = x.key := by simpa using hb
          rw [hb] at q
          exact q ▸ ha
    · cases e
  · split at e
    · rename_i d hd
      split at e
      · cases e
      · rename_i hn
        cases e
        obtain ⟨_, o, _⟩ := deedC_some hd
        have := h.l2
        refine ⟨h.l1, by simp only [List.length_append, List.length_singleton]; omega, h.ok1, fun y hy => ?_, h.nd⟩
        rcases List.mem_append.mp hy with hy | hy
        · exact h.ok2 y hy
        · rw [List.mem_singleton.mp hy]; exact o
    · cases e

end
section
-- ZT
section
variable {P : Program} {w : World} {K : PySem.W.Frag} {mg : Str → Option Value} {base : Heap} {C_PE C_BW C_BP C_BN C_BS C_NN C_BD C_BT : Addr}
def Old (S S' : Sto) : Prop := (∀ i, i < S.length → S'[i]? = S[i]?) ∧ S.length ≤ S'.length
theorem Old.app {S T : Sto} : Old S (S ++ T) := ⟨fun i hi => List.getElem?_append_left hi, by rw [List.length_append]; omega⟩
theorem Old.refl {S : Sto} : Old S S := ⟨fun i hi => rfl, Nat.le_refl _⟩
theorem Old.trans {S T U : Sto} (h : Old S T) (g : Old T U) : Old S U := ⟨fun i hi => (g.1 i (Nat.lt_of_lt_of_le hi h.2)).trans (h.1 i hi), Nat.le_trans h.2 g.2⟩
theorem Old.get {S T : Sto} (h : Old S T) {i : Nat} {o : O} (e : S[i]? = some o) : T[i]? = some o := (h.1 i (List.getElem?_eq_some_iff.mp e).1).trans e
theorem Old.split {S T : Sto} (h : Old S T) : T = S ++ T.drop S.length := by
  refine List.ext_getElem? fun i => ?_
  by_cases hi : i < S.length
  · rw [List.getElem?_append_left hi, h.1 i hi]
  · rw [List.getElem?_append_right (by omega), List.getElem?_drop]
    congr 1
    omega
theorem smallN {n : Nat} (h : n ≤ 300) : ((n : Int)).natAbs.log2 < 1920 ∧ (Str.ofString (toString (n : Int))).length ≤ 1000 := by
  have q : ∀ n : Nat, n < 301 → ((n : Int)).natAbs.log2 < 1920 ∧ (Str.ofString (toString (n : Int))).length ≤ 1000 := by decide +kernel
  exact q n (by omega)
theorem optW_ok {o : Option Int} {n : Nat} : (optW o).ok n = true := by cases o <;> rfl
theorem thing_ok {a : Str} {os : List (Option Int)} (h : PyData.strOk a = true) : (thingW a os).ok 60 = true := by
  have q : ∀ (l : List (Option Int)) (n : Nat), W.oks (l.map optW) n = true := fun l n => oks_map (fun _ => optW_ok) l
  unfold thingW
  split
  · cases os with
    | nil => simp only [W.ok, W.oks, h, Bool.and_true]
    | cons o r => simp only [W.ok, W.oks, optW_ok, q, Bool.and_true]; decide +kernel
  · simp only [W.ok, W.oks, h, q, Bool.and_true]
theorem thing_len {a : Str} {os : List (Option Int)} (h : os.length ≤ 99990) : (∀ l m, thingW a os = .tup l → .tup m ∈ l → m.length ≤ 100000) ∧ ∀ l, thingW a os = .tup l → l.length ≤ 100000 := by
  have no : ∀ (l : List (Option Int)) m, W.tup m ∉ l.map optW := fun l m hm => by
    obtain ⟨o, _, e⟩ := List.mem_map.mp hm
    cases o <;> cases e
  unfold thingW
  split
  · cases os with
    | nil =>
      refine ⟨fun l m e hm => ?_, fun l e => ?_⟩
      · cases e
        rcases List.mem_cons.mp hm with z | z
        · cases z
        · cases z
      · cases e; exact Nat.le_of_ble_eq_true rfl
    | cons o r =>
      refine ⟨fun l m e hm => ?_, fun l e => ?_⟩
      · cases e
        simp only [List.mem_cons, List.not_mem_nil, or_false] at hm
        rcases hm with z | z | z
        · cases z
        · cases o <;> cases z
        · cases z
          rw [List.length_map]
          simp only [List.length_cons] at h
          omega
      · cases e; exact Nat.le_of_ble_eq_true rfl
  · refine ⟨fun l m e hm => ?_, fun l e => ?_⟩
    · cases e
      rcases List.mem_cons.mp hm with z | z
      · cases z
      · exact absurd z (no _ _)
    · cases e
      simp only [List.length_cons, List.length_map]
      omega
def sEqR (neg : Bool) (x y : W) (S : Sto) (ΦT : Bool → Sto → Prop) : Prop := ∃ k ws, x = .ref k ∧ S[k]? = some (.lst ws) ∧ W.oks ws 59 = true ∧ y.ok 60 = true ∧ ΦT (if neg = true then !eqW (.lst ws) y else eqW (.lst ws) y) S
theorem sEqR_i {neg : Bool} {k : Nat} {ws : List W} {y : W} {b : Bool} {S : Sto} {ΦT : Bool → Sto → Prop} (h1 : S[k]? = some (.lst ws)) (h2 : W.oks ws 59 = true) (h3 : y.ok 60 = true) (e : eqW (.lst ws) y = b) (h : ΦT (if neg = true then !b else b) S) : sEqR neg (.ref k) y S ΦT := ⟨k, ws, rfl, h1, h2, h3, by rw [e]; exact h⟩
theorem xT_eqR {X : Cx} {Ψ : AX} {a b : Expr} {E : AEnv} {S : Sto} {ΦT : Bool → Sto → Prop} {pos : Pos} (hu : X.A.units + 65 < cLine) (h : wE X Ψ a E S fun x S1 => wE X Ψ b E S1 fun y S2 => sEqR false x y S2 ΦT) : wT X Ψ (.Compare a [.Eq] [b] pos) E S ΦT :=
  wT_cmpEqD hu (h.imp fun x S1 h => h.imp fun y S2 ⟨k, ws, e, h1, h2, h3, p⟩ => ⟨_, _, by subst e; exact .ref h1 (DenAll.of ws 59 h2), Den.of y _ h3, W.shaped (w := .lst ws) (n := 60) h2 (Nat.le_refl _), W.shaped h3 (Nat.le_refl _), p⟩)
theorem known_in {xs : List Wish} {k : List Key} (h : k ∈ xs.map Wish.key) : (valW (knownD xs) k).isSome = true := by
  unfold valW knownD
  obtain ⟨x, hx, e⟩ := List.mem_map.mp h
  cases q : (xs.map fun x => (x.key, W.bl true)).find? fun kv => decide (kv.1 = k) with
  | some kv => rfl
  | none =>
    rw [List.find?_eq_none] at q
    exact absurd (decide_eq_true e) (q (x.key, .bl true) (List.mem_map.mpr ⟨x, hx, rfl⟩))
theorem rd_cond {a : Str} {l : List Str} {xs : List Wish} {ds : List Deed} : (decide (a = "wish") && ((if false = true then !(ds.map Deed.w).isEmpty else (ds.map Deed.w).isEmpty) && (decide (1 < ((W.str a :: l.map W.str).length : Int)) && decide (((xs.map Wish.w).length : Int) < 24)))) = decide ((a :: l).head? = some ("wish" : Str) ∧ ds = [] ∧ 1 < (a :: l).length ∧ xs.length < 24) := by
  rw [Bool.eq_iff_iff]
  simp only [Bool.and_eq_true, decide_eq_true_eq, List.head?_cons, Option.some.injEq, Bool.false_eq_true, if_false, List.isEmpty_iff, List.map_eq_nil_iff, List.length_cons, List.length_map]
  refine and_congr Iff.rfl (and_congr Iff.rfl (and_congr ?_ ?_)) <;> omega
def readS (st : RSt) : Sto := [.lst (st.1.map Wish.w), .lst (st.2.map Deed.w), .dt (knownD st.1)]
def asp_readF (C_BT : Addr) : ASp := fun ws S Φ Ψ => ∃ x : Str, ws = [.str x] ∧ PyData.strOk x = true ∧ x.length ≤ 90000 ∧
  (∀ st, runP (rowsP x) 0 ([], []) = .inr st → ROk st → Φ (.tup [.ref S.length, .ref (S.length + 1)]) (S ++ readS st)) ∧
  ∀ i, runP (rowsP x) 0 ([], []) = .inl i → ∀ S', Old S S' → Ψ (.ref C_BT) [("row", .int i)] S'
/-- the state behind i rows -/
theorem run_drop {ls : List (List Str)} {i : Nat} {st st' : RSt} {l : List Str} (h : ls[i]? = some l) (e : stepP st l = some st') : runP (ls.drop i) i st = runP (ls.drop (i + 1)) (i + 1) st' := by
  rw [List.drop_eq_getElem_cons (List.getElem?_eq_some_iff.mp h).1, (List.getElem?_eq_some_iff.mp h).2]
  show (match stepP st l with | none => Sum.inl i | some st' => runP (ls.drop (i + 1)) (i + 1) st') = _
  rw [e]
theorem run_stop {ls : List (List Str)} {i : Nat} {st : RSt} {l : List Str} (h : ls[i]? = some l) (e : stepP st l = none) : runP (ls.drop i) i st = .inl i := by
  rw [List.drop_eq_getElem_cons (List.getElem?_eq_some_iff.mp h).1, (List.getElem?_eq_some_iff.mp h).2]
  show (match stepP st l with | none => Sum.inl i | some st' => runP (ls.drop (i + 1)) (i + 1) st') = _
  rw [e]
section
local macro_rules | `(tactic| specialize "st") => `(tactic| ((with_reducible show wS _ _ (Stmt.Raise _ _ _) _ _ _); refine wS_raiseX (EE.x_BT (by assumption)) (Room.mono (by assumption) (by decide)) ?_))
local macro_rules | `(tactic| specialize "ex") => `(tactic| ((with_reducible show wE _ _ (Expr.Call (Expr.Attribute _ (Str.ofString "split") _) _ _ _) _ _ _); refine xE_split ?_))
local macro_rules | `(tactic| specialize "s3") => `(tactic| ((with_reducible show sStr _ _); refine sStr_i ?_))
local macro_rules | `(tactic| specialize "slice") => `(tactic| ((with_reducible show wE _ _ (Expr.Subscript (Expr.Name (Str.ofString "words") _) _ _) _ _ _); refine xE_slL ?_))
local macro_rules | `(tactic| specialize "s2") => `(tactic| ((with_reducible show sCut _ _ _ _ _); refine sCut_l ?_; rw [cut_1]))
local macro_rules | `(tactic| specialize "ix") => `(tactic| exact atI_nat (j := 0) rfl)
local macro_rules | `(tactic| specialize "cmT") => `(tactic| ((with_reducible show wT _ _ (Expr.Compare (Expr.Name (Str.ofString "deeds") _) [CmpOp.Eq] _ _) _ _ _); refine xT_eqR (Room.u65 (by assumption)) ?_))
local macro_rules | `(tactic| specialize "s3") => `(tactic| ((with_reducible show sEqR _ _ _ _ _); refine sEqR_i (by (specialize "nth")) (deeds_ok _) rfl eqW_nil ?_))
local macro_rules | `(tactic| specialize "fun") => `(tactic| ((with_reducible show wE _ _ (Expr.Call (Expr.Name (Str.ofString "thing_of") _) _ _ _) _ _ _); refine xE_call (cf_thingF (by assumption) (by assumption)) (Room.mono (by assumption) (by decide)) ?_))
local macro_rules | `(tactic| specialize "fun") => `(tactic| ((with_reducible show wE _ _ (Expr.Call (Expr.Name (Str.ofString "is_wish") _) _ _ _) _ _ _); refine stop_i ?_))
local macro_rules | `(tactic| specialize "fun") => `(tactic| ((with_reducible show wE _ _ (Expr.Call (Expr.Name (Str.ofString "is_deed") _) _ _ _) _ _ _); refine stop_i ?_))
theorem cf_readF (G : GL mg) (D : DS K mg) (N : EE K mg C_PE C_BW C_BP C_BN C_BS C_NN C_BD C_BT) (T : KTabA K w mg "SIZES" sizesL) : CFn P w K mg base "read" 6 1 (asp_readF C_BT) := by
  refine D.d_read.fn sc_read fun f cdv A outer s H E hr ws S Φ Ψ hl hS ha => ?_
  obtain ⟨x, rfl, hok, hlx, hgood, hbad⟩ := ha
  specialize "go"
  refine wS_for (passes_of rfl) rfl ?_
  have hS0 : S ++ [O.lst []] ++ [O.lst []] ++ [O.dt []] = S ++ readS ([], []) := by simp [readS, knownD]
  by_cases hn : x = ""
  · have he : decide (x = "") = true := decide_eq_true hn
    specialize "go"
    refine ⟨fun i E' S' => i = 0 ∧ S' = S ++ readS ([], []) ∧ E' = [some (.str x), some (.ref S.length), some (.ref (S.length + 1)), some (.ref (S.length + 2)), none, none, none, none, none], ⟨rfl, hS0, ?_⟩, fun _ _ _ _ => trivial, ?_, ?_⟩
    · rw [List.length_append, List.length_append, List.length_append]
      rfl
    · rintro i w E' S' hw
      cases i <;> cases hw
    · rintro E' S' ⟨_, rfl, rfl⟩
      specialize "go"
      refine fin.as (hgood _ ?_ ROk.nil)
      unfold rowsP
      rw [if_pos hn]
      rfl
  · have he : decide (x = "") = false := decide_eq_false hn
    have hrow : rowsP x = (Txt.split x "\n").map fun r => Txt.split r " " := by unfold rowsP; rw [if_neg hn]
    specialize "go"
    refine sSplit_i (by decide +kernel) (by rw [sizeLine_eq]; omega) ?_
    refine sWE_l ?_
    refine ⟨fun i E' S' => i ≤ (Txt.split x "\n").length ∧ ∃ st : RSt, ROk st ∧ i = st.1.length + st.2.length ∧ runP (rowsP x) 0 ([], []) = runP ((rowsP x).drop i) i st ∧ S' = S ++ readS st ∧ ∃ b4 b5 b6 b7 b8, E' = [some (.str x), some (.ref S.length), some (.ref (S.length + 1)), some (.ref (S.length + 2)), b4, b5, b6, b7, b8], ⟨Nat.zero_le _, ([], []), ROk.nil, rfl, rfl, hS0, none, none, none, none, none, ?_⟩, fun _ _ _ _ => trivial, ?_, ?_⟩
    · rw [List.length_append, List.length_append, List.length_append]
      rfl
    · rintro i w E' S' hw ⟨hi, st, rok, hsum, hrun, rfl, b4, b5, b6, b7, b8, rfl⟩
      obtain ⟨u, hu, rfl⟩ := enum_inv hw
      obtain ⟨r, hr', rfl⟩ := map_inv hu
      have hil : i < (Txt.split x "\n").length := (List.getElem?_eq_some_iff.mp hr').1
      have hrm := List.mem_of_getElem? hr'
      have hrl := part_short hrm
      have hro := part_ok hrm hok
      have hrw : (rowsP x)[i]? = some (Txt.split r " ") := by rw [hrow, List.getElem?_map, hr']; rfl
      have hwl := split_le r " "
      have hws : ∀ z ∈ Txt.split r " ", z.length ≤ sizeLine := fun z hz => by
        have := part_short hz
        rw [sizeLine_eq]
        omega
      have hwo : ∀ z ∈ Txt.split r " ", PyData.strOk z = true := fun z hz => part_ok hz hro
      have hpos := split_pos r " "
      obtain ⟨xs, ds⟩ := st
      unfold readS
      specialize "go"
      refine sSplit_i (by decide +kernel) (by rw [sizeLine_eq]; omega) ?_
      cases hsp : Txt.split r " " with
      | nil => rw [hsp] at hpos; cases hpos
      | cons a l =>
      rw [hsp] at hrw hwl hws hwo
      have hao := hwo a List.mem_cons_self
      have hwl' : l.length + 1 ≤ 90002 := by simp only [List.length_cons] at hwl; omega
      have hl1 := rok.l1
      have hl2 := rok.l2
      simp only at hl1 hl2 hsum
      have hx1 : (xs.map Wish.w).length ≤ 100000 := by rw [List.length_map]; omega
      have hx2 : (ds.map Deed.w).length ≤ 100000 := by rw [List.length_map]; omega
      obtain ⟨q1, q2⟩ := smallN (n := 0 + i) (by omega)
      have hend : stepP (xs, ds) (a :: l) = none → ∀ S', Old S S' → Ψ (.ref C_BT) [("row", .int ((0 + i : Nat) : Int))] S' := fun e => by
        rw [Nat.zero_add]
        exact hbad i (hrun.trans (run_stop hrw e))
      have hgo : ∀ st', stepP (xs, ds) (a :: l) = some st' → runP (rowsP x) 0 ([], []) = runP ((rowsP x).drop (i + 1)) (i + 1) st' := fun st' e => hrun.trans (run_drop hrw e)
      simp only [List.map_cons]
      specialize "go"
      rw [rd_cond]
      by_cases hc : (a :: l).head? = some ("wish" : Str) ∧ ds = [] ∧ 1 < (a :: l).length ∧ xs.length < 24
      · have est : stepP (xs, ds) (a :: l) = (match wishC (thingV l) with
          | some y => (open Classical in if y.key ∈ xs.map Wish.key then none else some (xs ++ [y], ds))
          | none => none) := by unfold stepP; rw [if_pos hc]; rfl
        obtain ⟨hc1, rfl, hc3, hc4⟩ := hc
        refine sIte_t (decide_eq_true ⟨hc1, rfl, hc3, hc4⟩) ?_
        cases l with
        | nil => exact absurd hc3 (by simp)
        | cons b l =>
        have hbo := hwo b (by simp)
        have htk := thing_ok (os := l.map numF) hbo
        obtain ⟨htl1, htl2⟩ := thing_len (a := b) (os := l.map numF) (by rw [List.length_map]; simp only [List.length_cons] at hwl'; omega)
        simp only [List.map_cons]
        specialize "go"
        refine ⟨b, l, rfl, hbo, by simp only [List.length_cons] at hwl'; omega, fun z hz => hws z (by simp [hz]), ?_⟩
        cases hw : wishC (thingW b (l.map numF)) with
        | none =>
          have e0 : stepP (xs, []) (a :: b :: l) = none := by rw [est, show thingV (b :: l) = thingW b (l.map numF) from rfl, hw]
          have e1 := wishC_none hw
          generalize thingW b (l.map numF) = v at *
          specialize "go"
          unfold Stop
          refine xE_call (cf_is_wishW (by assumption) (by assumption)) (Room.mono (by assumption) (by decide)) ?_
          specialize "go"
          refine ⟨v, rfl, htk, htl1, htl2, ?_⟩
          rw [e1]
          specialize "go"
          exact ⟨_, rfl, q1, q2, hend e0 _ Old.app⟩
        | some y =>
          obtain ⟨e1, yo, e2⟩ := wishC_some hw
          rw [e2]
          by_cases hk : y.key ∈ xs.map Wish.key
          · have e0 : stepP (xs, []) (a :: b :: l) = none := by
              rw [est, show thingV (b :: l) = thingW b (l.map numF) from rfl, hw]
              exact if_pos hk
            have hv : (valW (knownD xs) y.key).isSome = true := known_in hk
            specialize "go"
            unfold Stop
            refine xE_call (cf_is_wish (by assumption) (by assumption)) (Room.mono (by assumption) (by decide)) ?_
            specialize "go"
            exact ⟨_, rfl, q1, q2, hend e0 _ Old.app⟩
          · have e0 : stepP (xs, []) (a :: b :: l) = some (xs ++ [y], []) := by
              rw [est, show thingV (b :: l) = thingW b (l.map numF) from rfl, hw]
              exact if_neg hk
            specialize "go"
            unfold Stop
            refine xE_call (cf_is_wish (by assumption) (by assumption)) (Room.mono (by assumption) (by decide)) ?_
            specialize "go"
            refine sIte_f (by rw [known_none hk]; rfl) ?_
            specialize "go"
            rw [known_put hk, set_new]
            specialize "go"
            rw [set_new0]
            dsimp only
            refine dropTo.as ?_
            exact ⟨hil, (xs ++ [y], []), rok.step e0, by simp only [List.length_append, List.length_singleton, List.length_nil] at hsum ⊢; omega, hgo _ e0, by rw [List.map_append]; rfl, _, _, _, _, _, rfl⟩
      · refine sIte_f (decide_eq_false hc) ?_
        have est : stepP (xs, ds) (a :: l) = (match deedC (thingV (a :: l)) with
          | some d => if ds.length = 200 then none else some (xs, ds ++ [d])
          | none => none) := by unfold stepP; rw [if_neg hc] <;> rfl
        have htk := thing_ok (os := l.map numF) hao
        obtain ⟨htl1, htl2⟩ := thing_len (a := a) (os := l.map numF) (by rw [List.length_map]; omega)
        specialize "go"
        refine ⟨a, l, rfl, hao, by omega, fun z hz => hws z (by simp [hz]), ?_⟩
        cases hw : deedC (thingW a (l.map numF)) with
        | none =>
          have e0 : stepP (xs, ds) (a :: l) = none := by rw [est, show thingV (a :: l) = thingW a (l.map numF) from rfl, hw]
          have e1 := deedC_none hw
          generalize thingW a (l.map numF) = v at *
          specialize "go"
          unfold Stop
          refine xE_call (cf_is_deedW (by assumption) (by assumption) (by assumption)) (Room.mono (by assumption) (by decide)) ?_
          specialize "go"
          refine ⟨v, rfl, htk, htl2, ?_⟩
          rw [e1]
          specialize "go"
          exact ⟨_, rfl, q1, q2, hend e0 _ Old.app⟩
        | some d =>
          obtain ⟨e1, yo, e2⟩ := deedC_some hw
          rw [e2] at e1 htk htl2 ⊢
          by_cases hk : ds.length = 200
          · have e0 : stepP (xs, ds) (a :: l) = none := by
              rw [est, show thingV (a :: l) = thingW a (l.map numF) from rfl, hw]
              exact if_pos hk
            have hk' : decide (((ds.map Deed.w).length : Int) = 200) = true := decide_eq_true (by rw [List.length_map]; omega)
            specialize "go"
            unfold Stop
            refine xE_call (cf_is_deedW (by assumption) (by assumption) (by assumption)) (Room.mono (by assumption) (by decide)) ?_
            specialize "go"
            refine ⟨d.w, rfl, htk, htl2, ?_⟩
            rw [e1]
            specialize "go"
            exact ⟨_, rfl, q1, q2, hend e0 _ Old.app⟩
          · have e0 : stepP (xs, ds) (a :: l) = some (xs, ds ++ [d]) := by
              rw [est, show thingV (a :: l) = thingW a (l.map numF) from rfl, hw]
              exact if_neg hk
            have hk' : decide (((ds.map Deed.w).length : Int) = 200) = false := decide_eq_false (by rw [List.length_map]; omega)
            specialize "go"
            unfold Stop
            refine xE_call (cf_is_deedW (by assumption) (by assumption) (by assumption)) (Room.mono (by assumption) (by decide)) ?_
            specialize "go"
            refine ⟨d.w, rfl, htk, htl2, ?_⟩
            rw [e1]
            specialize "go"
            rw [set_new]
            dsimp only
            refine dropTo.as ?_
            exact ⟨hil, (xs, ds ++ [d]), rok.step e0, by simp only [List.length_append, List.length_singleton]; omega, hgo _ e0, by rw [List.map_append]; rfl, _, _, _, _, _, rfl⟩
    · rintro E' S' ⟨hi, st, rok, hsum, hrun, rfl, b4, b5, b6, b7, b8, rfl⟩
      specialize "go"
      refine fin.as (hgood st ?_ rok)
      rw [hrun, enum_len, List.length_map, List.drop_of_length_le (by rw [hrow, List.length_map]; exact Nat.le_refl _)]
      rfl
end
end

end
section
-- ZV
/-! ### which words are wishes -/
theorem wish_inj {x y : Wish} (h : x.w = y.w) : x = y := by
  have q : eqW x.w y.w = true := by rw [h, wish_eq]; exact decide_eq_true rfl
  rw [wish_eq] at q
  exact of_decide_eq_true q
theorem adj_all : ∀ {ms : List Int}, (∀ (k : Nat) (a b : Int), ms[k]? = some a → ms[k + 1]? = some b → a < b) → ms.Pairwise (· < ·)
  | [], _ => List.Pairwise.nil
  | m :: ms, h => by
    have ih := adj_all (ms := ms) fun k a b ha hb => h (k + 1) a b ha hb
    refine List.pairwise_cons.mpr ⟨?_, ih⟩
    cases ms with
    | nil => exact fun _ z => nomatch z
    | cons y ys =>
      intro z hz
      have q := h 0 m y rfl rfl
      rcases List.mem_cons.mp hz with rfl | hz
      · exact q
      · have := (List.pairwise_cons.mp ih).1 z hz
        omega
theorem pair_adj {ms : List Int} (h : ms.Pairwise (· < ·)) (k : Nat) (a b : Int) (ha : ms[k]? = some a) (hb : ms[k + 1]? = some b) : a < b := by
  obtain ⟨h1, e1⟩ := List.getElem?_eq_some_iff.mp ha
  obtain ⟨h2, e2⟩ := List.getElem?_eq_some_iff.mp hb
  rw [← e1, ← e2]
  exact List.pairwise_iff_getElem.mp h k (k + 1) h1 h2 (Nat.lt_succ_self k)
theorem rise_eq : ∀ {l m : List Int}, l.Pairwise (· < ·) → m.Pairwise (· < ·) → (∀ k, k ∈ l ↔ k ∈ m) → l = m
  | [], [], _, _, _ => rfl
  | [], y :: m, _, _, h => absurd ((h y).mpr List.mem_cons_self) (by simp)
  | x :: l, [], _, _, h => absurd ((h x).mp List.mem_cons_self) (by simp)
  | x :: l, y :: m, h1, h2, h => by
    obtain ⟨a1, b1⟩ := List.pairwise_cons.mp h1
    obtain ⟨a2, b2⟩ := List.pairwise_cons.mp h2
    have e : x = y := by
      rcases List.mem_cons.mp ((h x).mp List.mem_cons_self) with e | e
      · exact e
      · rcases List.mem_cons.mp ((h y).mpr List.mem_cons_self) with e' | e'
        · exact e'.symm
        · have := a2 x e
          have := a1 y e'
          omega
    subst e
    congr 1
    refine rise_eq b1 b2 fun k => ⟨fun hk => ?_, fun hk => ?_⟩
    · rcases List.mem_cons.mp ((h k).mp (List.mem_cons_of_mem _ hk)) with e | e
      · have := a1 k hk
        omega
      · exact e
    · rcases List.mem_cons.mp ((h k).mpr (List.mem_cons_of_mem _ hk)) with e | e
      · have := a2 k hk
        omega
      · exact e
theorem ms_ok {ms ts : List Int} (hd : ∀ m ∈ ms, 0 ≤ m) (hp : ts.Pairwise (· < ·)) (hm : ∀ k, k ∈ ts ↔ k ∈ ms) : msOk ms ↔ (ms ≠ [] ∧ (∀ m ∈ ms, m < 6) ∧ ms = ts) := by
  constructor
  · rintro ⟨h1, h2, h3, h4⟩
    exact ⟨h1, fun m h => by have := (h3 m h).2; omega, rise_eq (adj_all h4) hp fun k => (hm k).symm⟩
  · rintro ⟨h1, h2, rfl⟩
    have b : ∀ m ∈ ms, 0 ≤ m ∧ m ≤ 5 := fun m h => ⟨hd m h, by have := h2 m h; omega⟩
    have q := rise_len (lo := 0) b (pair_adj hp) (by decide)
    exact ⟨h1, by omega, b, pair_adj hp⟩
theorem isW_eq {a : Str} {b : W} {r : List W} : isWishW (.tup (.str a :: b :: r)) = if decide (a = "group") = true then grpR b r
    else if isNumW b 0 5 = false then false
    else if (decide (a = "wait") || decide (a = "still")) = true then r.isEmpty
    else if decide (a = "bar") = true then barR b r
    else if (decide (a = "all") || (decide (a = "busy") || decide (a = "late"))) = false then false
    else goalR (decide (a = "late")) b r := rfl
theorem isWish_ok {y : Wish} (h : y.ok) : isWishW y.w = true := by
  have d1 : decide (("group" : Str) = "group") = true := by decide +kernel
  cases y with
  | group g ms =>
    obtain ⟨h6, h7, hm⟩ := h
    show isWishW (.tup (.str "group" :: .int g :: [.tup (intsW ms)])) = true
    unfold isWishW
    dsimp only
    rw [if_pos d1]
    show (isNumW (.int g) 6 7 && memW (.tup (intsW ms))) = true
    rw [num_yes h6 h7, memW_ints hm.1 hm.2.2.1, Bool.true_and, List.all_eq_true]
    intro k hk
    have hk := List.mem_range.mp hk
    have e1 := List.getElem?_eq_getElem (show k < ms.length by omega)
    have e2 := List.getElem?_eq_getElem (show k + 1 < ms.length by omega)
    rw [List.getD_eq_getElem?_getD, List.getD_eq_getElem?_getD, e1, e2]
    exact decide_eq_true (hm.2.2.2 k _ _ e1 e2)
  | wait p =>
    show isWishW (.tup (.str "wait" :: .int p :: [])) = true
    rw [isW_eq, if_neg (by decide +kernel), num_yes h.1 h.2, if_neg (by decide), if_pos (by decide +kernel)]
    rfl
  | still p =>
    show isWishW (.tup (.str "still" :: .int p :: [])) = true
    rw [isW_eq, if_neg (by decide +kernel), num_yes h.1 h.2, if_neg (by decide), if_pos (by decide +kernel)]
    rfl
  | bar p o =>
    obtain ⟨h0, h5, o0, o5, ne⟩ := h
    show isWishW (.tup (.str "bar" :: .int p :: [.int o])) = true
    rw [isW_eq, if_neg (by decide +kernel), num_yes h0 h5, if_neg (by decide), if_neg (by decide +kernel), if_pos (by decide +kernel)]
    show (isNumW (.int o) 0 5 && !eqW (.int o) (.int p)) = true
    rw [num_yes o0 o5, eqW_int, decide_eq_false ne]
    rfl
  | all p g =>
    obtain ⟨h0, h5, g0, g7, ne⟩ := h
    show isWishW (.tup (.str "all" :: .int p :: [.int g])) = true
    rw [isW_eq, if_neg (by decide +kernel), num_yes h0 h5, if_neg (by decide), if_neg (by decide +kernel), if_neg (by decide +kernel), if_neg (by decide +kernel)]
    show (isNumW (.int g) 0 7 && (!eqW (.int g) (.int p) && (if decide (("all" : Str) = "late") = true then lateR ([] : List W) else List.isEmpty ([] : List W)))) = true
    rw [num_yes g0 g7, eqW_int, decide_eq_false ne, if_neg (by decide +kernel)]
    rfl
  | busy p g =>
    obtain ⟨h0, h5, g0, g7, ne⟩ := h
    show isWishW (.tup (.str "busy" :: .int p :: [.int g])) = true
    rw [isW_eq, if_neg (by decide +kernel), num_yes h0 h5, if_neg (by decide), if_neg (by decide +kernel), if_neg (by decide +kernel), if_neg (by decide +kernel)]
    show (isNumW (.int g) 0 7 && (!eqW (.int g) (.int p) && (if decide (("busy" : Str) = "late") = true then lateR ([] : List W) else List.isEmpty ([] : List W)))) = true
    rw [num_yes g0 g7, eqW_int, decide_eq_false ne, if_neg (by decide +kernel)]
    rfl
  | late p g t =>
    obtain ⟨h0, h5, g0, g7, ne, t1, t9⟩ := h
    show isWishW (.tup (.str "late" :: .int p :: [.int g, .int t])) = true
    rw [isW_eq, if_neg (by decide +kernel), num_yes h0 h5, if_neg (by decide), if_neg (by decide +kernel), if_neg (by decide +kernel), if_neg (by decide +kernel)]
    show (isNumW (.int g) 0 7 && (!eqW (.int g) (.int p) && (if decide (("late" : Str) = "late") = true then lateR [.int t] else List.isEmpty [W.int t]))) = true
    rw [num_yes g0 g7, eqW_int, decide_eq_false ne, if_pos (by decide +kernel), show lateR [.int t] = isNumW (.int t) 1 9 from rfl, num_yes t1 t9]
    rfl
theorem wishC_yes {y : Wish} (h : y.ok) : wishC y.w = some y := by
  cases q : wishC y.w with
  | none =>
    have z := isWish_ok h
    rw [wishC_none q] at z
    cases z
  | some x => rw [wish_inj (wishC_some q).2.2]
theorem wishC_no {y : Wish} (h : ¬ y.ok) : wishC y.w = none := by
  cases q : wishC y.w with
  | none => rfl
  | some x =>
    obtain ⟨_, o, e⟩ := wishC_some q
    rw [wish_inj e] at h
    exact absurd o h
theorem key_word (x : Wish) : x.key = .inr x.word :: x.key.tail := by cases x <;> rfl
theorem known_mem {a : Str} {ks : List Key} {xs : List Wish} : inW (.tup [.str a, .tup (ks.map keyW1)]) (xs.map fun x => W.tup [.str x.word, .tup (x.key.tail.map keyW1)]) = keyIn (.inr a :: ks) xs := by
  show (xs.map fun x => W.tup [.str x.word, .tup (x.key.tail.map keyW1)]).any (fun z => eqW z (.tup [.str a, .tup (ks.map keyW1)])) = _
  unfold keyIn
  rw [List.any_map, Bool.eq_iff_iff, List.any_eq_true, List.any_eq_true]
  refine exists_congr fun x => and_congr Iff.rfl ?_
  show eqW (.tup [.str x.word, .tup (x.key.tail.map keyW1)]) (.tup [.str a, .tup (ks.map keyW1)]) = true ↔ decide (x.key = _) = true
  rw [decide_eq_true_eq]
  rw [eqW_tt, eqW_tt, eqW_t0, eqW_str, eqW_keys, Bool.and_true, Bool.and_eq_true, decide_eq_true_eq, decide_eq_true_eq]
  constructor
  · rintro ⟨h1, h2⟩
    rw [key_word x, h1, h2]
  · intro h
    rw [key_word x] at h
    injection h with h1 h2
    injection h1 with h1
    exact ⟨h1, h2⟩

end
section
-- ZU
section
variable {P : Program} {w : World} {K : PySem.W.Frag} {mg : Str → Option Value} {base : Heap}
/-! ### the law's own reader of wishes -/
theorem wS.imp {X : Cx} {Ψ : AX} {E : AEnv} {S : Sto} {st : Stmt} {A A' : AE} (h : wS X Ψ st E S A) (g1 : ∀ w S', A.nx w S' → A'.nx w S') (g2 : ∀ w S', A.rt w S' → A'.rt w S') (g3 : ∀ w S', A.bk w S' → A'.bk w S') (g4 : ∀ w S', A.ct w S' → A'.ct w S') : wS X Ψ st E S A' :=
  ⟨fun M σ H r ev x D q => h.run M σ H r ev x D ⟨fun σ E M2 S2 H2 p => q.nx σ E M2 S2 H2 (g1 _ _ p), fun v w M2 S2 H2 p => q.rt v w M2 S2 H2 (g2 _ _ p), fun σ E M2 S2 H2 p => q.bk σ E M2 S2 H2 (g3 _ _ p), fun σ E M2 S2 H2 p => q.ct σ E M2 S2 H2 (g4 _ _ p)⟩⟩
theorem wS_cut {X : Cx} {Ψ : AX} {E : AEnv} {S : Sto} {st : Stmt} {A : AE} (I : AEnv → Sto → Prop) (h : wS X Ψ st E S { A with nx := I }) (q : ∀ E1 S1, I E1 S1 → A.nx E1 S1) : wS X Ψ st E S A := h.imp q (fun _ _ z => z) (fun _ _ z => z) fun _ _ z => z
theorem wS.less {X : Cx} {Ψ : AX} {E : AEnv} {S S1 : Sto} {st : Stmt} {A : AE} (i : Imp S S1) (h : wS X Ψ st E S1 A) : wS X Ψ st E S A := ⟨fun M σ H r ev x D q => h.run M σ H (i _ _ r) ev x D q⟩
theorem fig_str : signsL "0123456789" = [0, 1, 2, 3, 4, 5, 6, 7, 8, 9].map dg := by decide +kernel
theorem numF_dg {n : Int} (h0 : 0 ≤ n) (h9 : n ≤ 9) : numF (dg n) = some n := by
  rw [(digit h0 h9).1, num_sign, if_pos (by omega)]
  congr 1
  omega
theorem numF_some {z : Str} {n : Int} (h : numF z = some n) : z = dg n ∧ 0 ≤ n ∧ n ≤ 9 := by
  by_cases h1 : z.length = 1
  · obtain ⟨c, rfl⟩ := one_sign h1
    rw [num_sign] at h
    by_cases hc : 48 ≤ c ∧ c ≤ 57
    · rw [if_pos hc] at h
      cases h
      refine ⟨?_, by omega, by omega⟩
      rw [(digit (i := (c : Int) - 48) (by omega) (by omega)).1, show 48 + ((c : Int) - 48).toNat = c by omega]
    · rw [if_neg hc] at h; cases h
  · rw [num_no h1] at h; cases h
theorem fig_in {z : Str} : inW (.str z) ((signsL "0123456789").map W.str) = (numF z).isSome := by
  have q : inW (.str z) ((signsL "0123456789").map W.str) = decide (z ∈ signsL "0123456789") := inW_map (fun _ _ => eqW_str) z _
  rw [q, Bool.eq_iff_iff, decide_eq_true_eq, fig_str, List.mem_map]
  constructor
  · rintro ⟨n, hn, rfl⟩
    have : 0 ≤ n ∧ n ≤ 9 := by
      simp only [List.mem_cons, List.not_mem_nil, or_false] at hn
      omega
    rw [numF_dg this.1 this.2]
    rfl
  · intro h
    obtain ⟨n, hn⟩ := Option.isSome_iff_exists.mp h
    obtain ⟨e, h0, h9⟩ := numF_some hn
    refine ⟨n, ?_, e.symm⟩
    simp only [List.mem_cons, List.not_mem_nil, or_false]
    omega
theorem all_dg : ∀ {l : List Str}, (∀ z ∈ l, (numF z).isSome = true) → ∃ ns : List Int, l = ns.map dg ∧ ∀ n ∈ ns, 0 ≤ n ∧ n ≤ 9
  | [], _ => ⟨[], rfl, fun _ h => nomatch h⟩
  | z :: l, h => by
    obtain ⟨n, hn⟩ := Option.isSome_iff_exists.mp (h z List.mem_cons_self)
    obtain ⟨rfl, h0, h9⟩ := numF_some hn
    obtain ⟨ns, rfl, hns⟩ := all_dg fun y hy => h y (List.mem_cons_of_mem _ hy)
    refine ⟨n :: ns, rfl, fun m hm => ?_⟩
    rcases List.mem_cons.mp hm with rfl | hm
    · exact ⟨h0, h9⟩
    · exact hns m hm
theorem map_numF {ns : List Int} (h : ∀ n ∈ ns, 0 ≤ n ∧ n ≤ 9) : (ns.map dg).map numF = ns.map some := by
  rw [List.map_map]
  exact List.map_congr_left fun n hn => numF_dg (h n hn).1 (h n hn).2
/-- a word that is no figure: no wish -/
theorem no_fig {b : Str} {l : List Str} {z : Str} (hz : z ∈ l) (hn : numF z = none) : wishC (thingW b (l.map numF)) = none := by
  cases h : wishC (thingW b (l.map numF)) with
  | none => rfl
  | some x =>
    exfalso
    obtain ⟨h1, _, h2⟩ := wishC_some h
    have hm : (none : Option Int) ∈ l.map numF := List.mem_map.mpr ⟨z, hz, hn⟩
    generalize l.map numF = os at hm h2
    have noInts : ∀ (ms : List Int), os.map optW ≠ intsW ms := fun ms e => by
      have q : W.non ∈ os.map optW := List.mem_map.mpr ⟨none, hm, rfl⟩
      rw [e] at q
      obtain ⟨m, _, e2⟩ := List.mem_map.mp q
      cases e2
    unfold thingW at h2
    split at h2
    · cases os with
      | nil => cases hm
      | cons o r =>
        cases x with
        | group g ms =>
          have h2 : W.tup [.str "group", optW o, .tup (r.map optW)] = W.tup [.str "group", .int g, .tup (intsW ms)] := h2
          injection h2 with h2
          injection h2 with _ h2
          injection h2 with e1 h2
          injection h2 with e2 _
          injection e2 with e2
          refine noInts (g :: ms) ?_
          show optW o :: r.map optW = _
          rw [e1, e2]
          rfl
        | _ =>
          first
            | (injection h2 with h2; injection h2 with _ h2; injection h2 with _ h2; injection h2 with e _; cases e; done)
            | (injection h2 with h2; injection h2 with _ h2; injection h2 with _ h2; cases h2; done)
    · rename_i hg
      cases x with
      | group g ms =>
        injection h2 with h2
        injection h2 with e _
        injection e with e
        exact hg e
      | all p g => injection h2 with h2; injection h2 with _ h2; exact noInts [p, g] h2
      | busy p g => injection h2 with h2; injection h2 with _ h2; exact noInts [p, g] h2
      | late p g t => injection h2 with h2; injection h2 with _ h2; exact noInts [p, g, t] h2
      | wait p => injection h2 with h2; injection h2 with _ h2; exact noInts [p] h2
      | still p => injection h2 with h2; injection h2 with _ h2; exact noInts [p] h2
      | bar p o => injection h2 with h2; injection h2 with _ h2; exact noInts [p, o] h2
open Classical in
noncomputable def wishedW (l : List Str) (xs : List Wish) : W := match wishC (thingV l) with
  | some x => if x.key ∈ xs.map Wish.key then .non else x.w
  | none => .non
theorem in2I {a x y : Int} : inW (.int a) [.int x, .int y] = (decide (a = x) || decide (a = y)) := by
  simp [inW, eqW_int, eq_comm]
theorem keyIn_mem {k : List Key} {xs : List Wish} (h : keyIn k xs = true) : k ∈ xs.map Wish.key := by
  unfold keyIn at h
  obtain ⟨y, hy, e⟩ := List.any_eq_true.mp h
  exact List.mem_map.mpr ⟨y, hy, of_decide_eq_true e⟩
theorem wVs_cons {X : Cx} {Ψ : AX} {v : Expr} {vs : List Expr} {E : AEnv} {S : Sto} {Φ : List W → Sto → Prop} (h : wE X Ψ v E S fun w S1 => wVs X Ψ vs E S1 fun ws S2 => Φ (w :: ws) S2) : wVs X Ψ (v :: vs) E S Φ := h
theorem wVs_nil {X : Cx} {Ψ : AX} {E : AEnv} {S : Sto} {Φ : List W → Sto → Prop} (h : Φ [] S) : wVs X Ψ [] E S Φ := h
theorem cut_nb {b : Str} {n0 : Int} {ms : List Int} (h : b ≠ "bar") : cutW ((n0 :: ms).map W.int) none (some (1 + if decide (b = Str.ofString "bar") = true then 1 else 0)) = [W.int n0] := by
  rw [if_neg (by rw [decide_eq_true_eq]; exact h)]
  simp [cutW, HT.sIx]
theorem cut_bar {k : Bool} {n0 m1 : Int} {ms : List Int} (hk : k = true) : cutW ((n0 :: m1 :: ms).map W.int) none (some (1 + if k = true then 1 else 0)) = [W.int n0, W.int m1] := by
  rw [if_pos hk]
  simp [cutW, HT.sIx]
theorem bar_self : eqW (.str (Str.ofString "bar")) (.str (Str.ofString "bar")) = true := by rw [eqW_str]; decide +kernel
theorem ix_nb {b : Str} (h : b ≠ "bar") : atI [W.int 8, W.int 6] (if decide (b = Str.ofString "bar") = true then 1 else 0) = some (.int 8) := by
  rw [if_neg (by rw [decide_eq_true_eq]; exact h)]
  rfl
theorem ix_bar {k : Bool} (h : k = true) : atI [W.int 8, W.int 6] (if k = true then 1 else 0) = some (.int 6) := by
  rw [if_pos h]
  rfl
theorem sGet2_s {k : Nat} {y z v : W} {S : Sto} {Φ : W → Sto → Prop} (h1 : dgetW S k y = some (some v)) (h : Φ v S) : sGet2 (.ref k) y z S Φ := sGet2_i h1 h
theorem sGet2_n {k : Nat} {y z : W} {S : Sto} {Φ : W → Sto → Prop} (h1 : dgetW S k y = some none) (h : Φ z S) : sGet2 (.ref k) y z S Φ := sGet2_i h1 h
theorem wished_yes {l : List Str} {xs : List Wish} {y : Wish} (hv : thingV l = y.w) (ho : y.ok) (hk : keyIn y.key xs = false) : wishedW l xs = y.w := by
  unfold wishedW
  rw [hv, wishC_yes ho]
  exact if_neg (keyIn_no hk)
theorem wished_no {l : List Str} {xs : List Wish} {y : Wish} (hv : thingV l = y.w) (h : ¬ y.ok ∨ keyIn y.key xs = true) : wishedW l xs = .non := by
  unfold wishedW
  rw [hv]
  by_cases ho : y.ok
  · rcases h with h | h
    · exact absurd ho h
    · rw [wishC_yes ho]
      exact if_pos (keyIn_mem h)
  · rw [wishC_no ho]
theorem thing_no {b : Str} {ns : List Int} (h : b ≠ "group") : thingW b (ns.map some) = .tup (.str b :: ns.map W.int) := by
  unfold thingW
  rw [if_neg h, List.map_map]
  rfl
theorem len_all {l : List Str} {xs : List Wish} {ns : List Int} (e : thingV l = .tup (.str "all" :: ns.map W.int)) (hl : ns.length ≠ 2) : wishedW l xs = .non := by
  unfold wishedW
  cases q : wishC (thingV l) with
  | none => rfl
  | some x =>
    exfalso
    have h2 := (wishC_some q).2.2
    rw [e] at h2
    cases x <;> (injection h2 with h2; injection h2 with e1 e2; injection e1 with e1; first | exact absurd e1 (by decide +kernel) | exact hl (by have := congrArg List.length e2; simpa using this))
theorem len_busy {l : List Str} {xs : List Wish} {ns : List Int} (e : thingV l = .tup (.str "busy" :: ns.map W.int)) (hl : ns.length ≠ 2) : wishedW l xs = .non := by
  unfold wishedW
  cases q : wishC (thingV l) with
  | none => rfl
  | some x =>
    exfalso
    have h2 := (wishC_some q).2.2
    rw [e] at h2
    cases x <;> (injection h2 with h2; injection h2 with e1 e2; injection e1 with e1; first | exact absurd e1 (by decide +kernel) | exact hl (by have := congrArg List.length e2; simpa using this))
theorem len_late {l : List Str} {xs : List Wish} {ns : List Int} (e : thingV l = .tup (.str "late" :: ns.map W.int)) (hl : ns.length ≠ 3) : wishedW l xs = .non := by
  unfold wishedW
  cases q : wishC (thingV l) with
  | none => rfl
  | some x =>
    exfalso
    have h2 := (wishC_some q).2.2
    rw [e] at h2
    cases x <;> (injection h2 with h2; injection h2 with e1 e2; injection e1 with e1; first | exact absurd e1 (by decide +kernel) | exact hl (by have := congrArg List.length e2; simpa using this))
theorem len_wait {l : List Str} {xs : List Wish} {ns : List Int} (e : thingV l = .tup (.str "wait" :: ns.map W.int)) (hl : ns.length ≠ 1) : wishedW l xs = .non := by
  unfold wishedW
  cases q : wishC (thingV l) with
  | none => rfl
  | some x =>
    exfalso
    have h2 := (wishC_some q).2.2
    rw [e] at h2
    cases x <;> (injection h2 with h2; injection h2 with e1 e2; injection e1 with e1; first | exact absurd e1 (by decide +kernel) | exact hl (by have := congrArg List.length e2; simpa using this))
theorem len_still {l : List Str} {xs : List Wish} {ns : List Int} (e : thingV l = .tup (.str "still" :: ns.map W.int)) (hl : ns.length ≠ 1) : wishedW l xs = .non := by
  unfold wishedW
  cases q : wishC (thingV l) with
  | none => rfl
  | some x =>
    exfalso
    have h2 := (wishC_some q).2.2
    rw [e] at h2
    cases x <;> (injection h2 with h2; injection h2 with e1 e2; injection e1 with e1; first | exact absurd e1 (by decide +kernel) | exact hl (by have := congrArg List.length e2; simpa using this))
theorem len_bar {l : List Str} {xs : List Wish} {ns : List Int} (e : thingV l = .tup (.str "bar" :: ns.map W.int)) (hl : ns.length ≠ 2) : wishedW l xs = .non := by
  unfold wishedW
  cases q : wishC (thingV l) with
  | none => rfl
  | some x =>
    exfalso
    have h2 := (wishC_some q).2.2
    rw [e] at h2
    cases x <;> (injection h2 with h2; injection h2 with e1 e2; injection e1 with e1; first | exact absurd e1 (by decide +kernel) | exact hl (by have := congrArg List.length e2; simpa using this))
theorem len_other {l : List Str} {xs : List Wish} {ns : List Int} {b : Str} (e : thingV l = .tup (.str b :: ns.map W.int)) (h0 : b ≠ "group") (h1 : b ≠ "all") (h2 : b ≠ "busy") (h3 : b ≠ "late") (h4 : b ≠ "wait") (h5 : b ≠ "still") (h6 : b ≠ "bar") : wishedW l xs = .non := by
  unfold wishedW
  cases q : wishC (thingV l) with
  | none => rfl
  | some x =>
    exfalso
    have h2 := (wishC_some q).2.2
    rw [e] at h2
    cases x <;> (injection h2 with h2; injection h2 with e1 e2; injection e1 with e1; contradiction)
def asp_wished : ASp := fun ws S Φ _ => ∃ (l : List Str) (xs : List Wish) (r : Nat), ws = [.lst (l.map W.str), .ref r] ∧ S[r]? = some (.lst (xs.map Wish.w)) ∧ l ≠ [] ∧ (∀ z ∈ l, PyData.strOk z = true) ∧ l.length ≤ 3900 ∧ xs.length ≤ 24 ∧ (∀ x ∈ xs, x.ok) ∧ Φ (wishedW l xs) S
section
local macro_rules | `(tactic| specialize "fun") => `(tactic| ((with_reducible show wE _ _ (Expr.Call (Expr.Name (Str.ofString "list") _) _ _ _) _ _ _); refine xE_listStr (GL.b_list (by assumption)) ?_))
local macro_rules | `(tactic| specialize "s3") => `(tactic| ((with_reducible show sListS _ _ _); refine sListS_i (by decide +kernel) ?_))
local macro_rules | `(tactic| specialize "slice") => `(tactic| ((with_reducible show wE _ _ (Expr.Subscript (Expr.Name (Str.ofString "_law_words") _) _ _) _ _ _); refine xE_slL ?_))
local macro_rules | `(tactic| specialize "slice") => `(tactic| ((with_reducible show wE _ _ (Expr.Subscript (Expr.Name (Str.ofString "_law_rest") _) _ _) _ _ _); refine xE_slL ?_))
local macro_rules | `(tactic| specialize "s2") => `(tactic| ((with_reducible show sCut _ _ _ _ _); refine sCut_l ?_; first | rw [cut_1] | (simp only [List.map_cons]; rw [cut_1])))
local macro_rules | `(tactic| specialize "s2") => `(tactic| ((with_reducible show sCut _ _ _ _ _); refine sCut_l ?_; first | rw [cut_nb (by decide +kernel)] | rw [cut_bar (by first | rfl | decide +kernel)]))
local macro_rules | `(tactic| specialize "ev") => `(tactic| first | exact bar_self | exact fig_in | exact in2I | assumption)
local macro_rules | `(tactic| specialize "ix") => `(tactic| first | exact ix_nb (by decide +kernel) | exact ix_bar (by first | rfl | decide +kernel) | exact atI_nat (j := 0) rfl | exact atI_nat (j := 1) rfl | exact atI_nat (j := 2) rfl)
local macro_rules | `(tactic| specialize "fun") => `(tactic| ((with_reducible show wE _ _ (Expr.Call (Expr.Name (Str.ofString "int") _) [Expr.Name (Str.ofString "_law_one") _] _ _) _ _ _); refine xE_intS (GL.b_int (by assumption)) ?_))
local macro_rules | `(tactic| specialize "s3") => `(tactic| ((with_reducible show sIntOf _ _ _); refine sIntOf_i (by assumption) (by assumption) ?_))
local macro_rules | `(tactic| specialize "fun") => `(tactic| ((with_reducible show wE _ _ (Expr.Call (Expr.Name (Str.ofString "max") _) _ _ _) _ _ _); refine xE_maxL (GL.b_max (by assumption)) ?_))
local macro_rules | `(tactic| specialize "fun") => `(tactic| ((with_reducible show wE _ _ (Expr.Call (Expr.Name (Str.ofString "sorted") _) _ _ _) _ _ _); refine xE_sortSet (GL.b_sorted (by assumption)) (GL.b_set (by assumption)) ?_))
local macro_rules | `(tactic| specialize "st") => `(tactic| ((with_reducible show wS _ _ (Stmt.Assign [Expr.Name (Str.ofString "_law_good") _] _ _) _ _ _); refine stop_i ?_))
local macro_rules | `(tactic| specialize "s1") => `(tactic| ((with_reducible show sAnd _ _ _ _); refine stop_i ?_))
local macro_rules | `(tactic| specialize "ex") => `(tactic| ((with_reducible show wE _ _ (Expr.Dict (_ :: _) _ _) _ _ _); refine' wE_disp ?k1 rfl ?k2 ?k3 ?_; (case k1 => repeat (first | exact KeysAre.nil | apply KeysAre.cons)); (case k2 => simp); (case k3 => exact Nat.le_of_ble_eq_true rfl)))
local macro_rules | `(tactic| specialize "s3") => `(tactic| ((with_reducible show wVs _ _ _ _ _ _); first | refine wVs_cons ?_ | refine wVs_nil ?_))
local macro_rules | `(tactic| specialize "ex") => `(tactic| ((with_reducible show wE _ _ (Expr.Call (Expr.Attribute _ (Str.ofString "get") _) _ _ _) _ _ _); refine xE_dget2 (Nat.lt_of_le_of_lt (Nat.add_le_add_left (by decide) _) (Room.u65 (by assumption))) ⟨rfl, rfl, rfl, rfl⟩ ?_))
local macro_rules | `(tactic| specialize "s1") => `(tactic| ((with_reducible show sOr _ _ _ _); refine stop_i ?_))
local macro_rules | `(tactic| specialize "s1") => `(tactic| ((with_reducible show sOrW (decide ((3 : Int) < 3)) _ _ _); refine sOrW_f (by decide) ?_))
local macro_rules | `(tactic| specialize "plus") => `(tactic| ((with_reducible show wE _ _ (Expr.BinOp (Expr.Tuple _ _ _) _ _ _) _ _ _); refine xE_catT ?_))
local macro_rules | `(tactic| specialize "s3") => `(tactic| ((with_reducible show sCatT _ _ _ _); refine sCatT_i (Nat.le_of_ble_eq_true rfl) ?_))
local macro_rules | `(tactic| specialize "s0") => `(tactic| ((with_reducible show sLc _ _ _ _ _ _ _ _ _ _); refine stop_i ?_))
theorem cf_wished (G : GL mg) (D : DS K mg) : CFn P w K mg base "_law_wished" 2 2 asp_wished := by
  refine D.d_law_wished.fn sc_law_wished fun f cdv A outer s H E hr ws S Φ Ψ hl hS ha => ?_
  obtain ⟨l, xs, r, rfl, hr0, hne, hok, hl1, hx1, hxo, h⟩ := ha
  rcases l with _ | ⟨b, _ | ⟨c, l⟩⟩
  · exact absurd rfl hne
  · have e : wishedW [b] xs = .non := by
      unfold wishedW
      have q : wishC (thingV [b]) = none := by
        cases h : wishC (thingV [b]) with
        | none => rfl
        | some x =>
          exfalso
          obtain ⟨h1, _, _⟩ := wishC_some h
          have h1 : isWishW (thingW b []) = true := h1
          unfold thingW at h1
          split at h1 <;> cases h1
      rw [q]
    rw [e] at h
    specialize "go"
    exact fin.as h
  · have hL : (c :: l).length ≤ 3899 := by simp only [List.length_cons] at hl1 ⊢; omega
    have hLo : ∀ z ∈ c :: l, PyData.strOk z = true := fun z hz => hok z (List.mem_cons_of_mem _ hz)
    have hof : ∀ p : Str → Bool, W.oks (((c :: l).filter p).map W.str) 59 = true := fun p => by
      rw [W.oks_all, List.all_eq_true]
      intro v hv
      obtain ⟨z, hz, rfl⟩ := List.mem_map.mp hv
      exact hLo z (List.mem_filter.mp hz).1
    have hLne : (c :: l) ≠ [] := List.cons_ne_nil _ _
    have hb := hok b List.mem_cons_self
    generalize hLd : c :: l = L at *
    have hlen2 : decide (((W.str b :: L.map W.str).length : Int) < 2) = false := decide_eq_false (by
      rw [List.length_cons, List.length_map]
      cases L with
      | nil => exact absurd rfl hLne
      | cons _ _ => simp only [List.length_cons]; omega)
    simp only [List.map_cons]
    specialize "go"
    unfold Stop
    refine sLc_i (xs := L) (enc := W.str) (p := fun z => !(numF z).isSome) (g := W.str) trivial (by omega) (fun z hz => ?_) ?_
    · have hzo := hLo z hz
      specialize "go"
    have hof2 := hof fun z => !(numF z).isSome
    specialize "go"
    by_cases hall : ∀ z ∈ L, (numF z).isSome = true
    · have hfil : L.filter (fun z => !(numF z).isSome) = [] := by
        rw [List.filter_eq_nil_iff]
        intro z hz q
        rw [hall z hz] at q
        cases q
      refine sIte_f (by rw [hfil]; rfl) ?_
      obtain ⟨ns, rfl, hns⟩ := all_dg hall
      have e2 : (ns.map dg).map W.str = ns.map fun i => W.str (dg i) := List.map_map
      have hnl : ns.length ≤ 3899 := by rw [List.length_map] at hL; exact hL
      rw [e2]
      clear hof hof2 hfil hall hLo hlen2 hok hl1
      specialize "go"
      unfold Stop
      refine sLc_i (xs := ns) (enc := fun i => W.str (dg i)) (p := fun _ => true) (g := W.int) trivial (by omega) (fun n hn => ?_) ?_
      · have hd := digit (hns n hn).1 (hns n hn).2
        have hd2 := hd.2
        have hdl : (dg n).length ≤ 640 := by rw [hd.1]; exact (show 1 ≤ 640 by decide)
        specialize "go"
      rw [List.filter_eq_self.mpr fun _ _ => rfl]
      specialize "go"
      unfold Stop
      refine sLc_i (xs := xs) (enc := Wish.w) (p := fun _ => true) (g := fun x => W.tup [.str x.word, .tup (x.key.tail.map keyW1)]) (by first | exact trivial | exact hr0 | rfl) (by omega) (fun x hx => ?_) ?_
      · cases x
        all_goals (simp only [Wish.w]; specialize "go")
      rw [List.filter_eq_self.mpr fun _ _ => rfl]
      have hkd : ∀ {a : Str} {ks : List Key}, inW (.tup [.str a, .tup (ks.map keyW1)]) (xs.map fun x => W.tup [.str x.word, .tup (x.key.tail.map keyW1)]) = keyIn (.inr a :: ks) xs := known_mem
      have hko : W.oks (xs.map fun x => W.tup [.str x.word, .tup (x.key.tail.map keyW1)]) 59 = true := oks_map (fun x => by cases x <;> (simp only [Wish.word, Wish.key, List.tail_cons, List.map_cons, List.map_nil, keyW1, W.ok, W.oks, Bool.and_true]; decide +kernel)) xs
      generalize hkn : (xs.map fun x => W.tup [.str x.word, .tup (x.key.tail.map keyW1)]) = kn at hkd hko ⊢
      have hns0 : ∀ m ∈ ns, 0 ≤ m := fun m hm => (hns m hm).1
      cases ns with
      | nil => exact absurd rfl hLne
      | cons n0 ms =>
      by_cases hg : b = "group"
      · subst hg
        have hv : thingV ("group" :: (n0 :: ms).map dg) = (Wish.group n0 ms).w := by
          show thingW "group" (((n0 :: ms).map dg).map numF) = _
          rw [map_numF hns]
          unfold thingW
          rw [if_pos rfl]
          show W.tup [.str "group", optW (some n0), .tup ((ms.map some).map optW)] = W.tup [.str "group", .int n0, .tup (intsW ms)]
          rw [List.map_map]
          rfl
        have hc1 : cutW ((n0 :: ms).map W.int) (some 1) none = ms.map W.int := cut_1
        have hms0 : ∀ m ∈ ms, 0 ≤ m := fun m hm => hns0 m (List.mem_cons_of_mem _ hm)
        have hml : ms.length ≤ 3898 := by simp only [List.length_cons] at hnl; omega
        have hmo : W.oks (ms.map W.int) 59 = true := oks_ints
        obtain ⟨gd, hgd⟩ : ∃ gd : Bool, gd = true ↔ (Wish.group n0 ms).ok := by
          by_cases q : (Wish.group n0 ms).ok
          · exact ⟨true, by simp [q]⟩
          · exact ⟨false, by simp [q]⟩
        specialize "go"
        unfold Stop
        refine wS_cut (fun E1 S1 => S1 = S ∧ E1 = [some (.lst (.str "group" :: .str (dg n0) :: ms.map fun i => W.str (dg i))), some (.ref r), some (.str "group"), some (.lst (.int n0 :: ms.map W.int)), none, some (.lst kn), none, some (.lst (ms.map W.int)), some (.bl gd), none]) ?_ ?_
        · refine' xS_set ?k1 (of_decide_eq_true (by kernel_rfl)) ?_
          (case k1 => specialize "idx")
          refine wE.imp (Φ := fun w S2 => w = .bl gd ∧ S2 = S) ?_ (fun w S2 ⟨e1, e2⟩ => by subst e1; subst e2; exact ⟨rfl, rfl⟩)
          specialize "go"
          unfold Stop
          by_cases h1 : n0 = 6 ∨ n0 = 7
          · refine sAnd_t (by show (decide (n0 = 6) || decide (n0 = 7)) = true; rw [Bool.or_eq_true, decide_eq_true_eq, decide_eq_true_eq]; exact h1) ?_
            specialize "go"
            unfold Stop
            cases ms with
            | nil =>
              refine sAnd_f (by rfl) ?_
              have : gd = false := by
                cases gd with
                | false => rfl
                | true => exact absurd rfl (hgd.mp rfl).2.2.1
              exact ⟨by rw [this], rfl⟩
            | cons m1 ms =>
              refine sAnd_t (by rfl) ?_
              have hpos : 0 < (m1 :: ms).length := by simp
              have hnil : (m1 :: ms) ≠ [] := by simp
              generalize hMs : m1 :: ms = Ms at *
              have hwk : ∀ {t : List Int}, t.Pairwise (· < ·) → (∀ k, k ∈ t ↔ k ∈ Ms) → ((Wish.group n0 Ms).ok ↔ (Ms ≠ [] ∧ (∀ m ∈ Ms, m < 6) ∧ Ms = t)) := fun {t} hp hm =>
                (show (Wish.group n0 Ms).ok ↔ msOk Ms from ⟨fun z => z.2.2, fun z => ⟨by omega, by omega, z⟩⟩).trans (ms_ok hms0 hp hm)
              specialize "go"
              refine ⟨Ms, rfl, (fun _ z => nomatch z), hpos, fun m hm hmax => ?_⟩
              specialize "go"
              unfold Stop
              by_cases h6 : m < 6
              · refine sAnd_t (decide_eq_true h6) ?_
                specialize "go"
                refine ⟨Ms, rfl, (fun _ z => nomatch z), by omega, (fun k hk => ⟨hms0 k hk, by have := hmax k hk; omega⟩), fun ts hp hmem => ?_⟩
                have hev : eqW (.lst (Ms.map W.int)) (.lst (ts.map W.int)) = decide (Ms = ts) := eqW_map (fun _ _ => eqW_int) Ms ts
                have hto : W.oks (ts.map W.int) 59 = true := oks_ints
                specialize "go"
                refine ⟨?_, rfl⟩
                congr 1
                show decide (Ms = ts) = gd
                rw [Bool.eq_iff_iff, decide_eq_true_eq, hgd, hwk hp hmem]
                exact ⟨fun e => ⟨hnil, fun k hk => by have := hmax k hk; omega, e⟩, fun z => z.2.2⟩
              · refine sAnd_f (decide_eq_false h6) ?_
                have : gd = false := by
                  cases gd with
                  | false => rfl
                  | true =>
                    obtain ⟨_, _, _, _, b, _⟩ := hgd.mp rfl
                    have := b m hm
                    omega
                exact ⟨by rw [this], rfl⟩
          · refine sAnd_f (by show (decide (n0 = 6) || decide (n0 = 7)) = false; rw [← Bool.not_eq_true, Bool.or_eq_true, decide_eq_true_eq, decide_eq_true_eq]; exact h1) ?_
            have : gd = false := by
              cases gd with
              | false => rfl
              | true =>
                obtain ⟨h6, h7, _⟩ := hgd.mp rfl
                exact absurd (show n0 = 6 ∨ n0 = 7 by omega) h1
            exact ⟨by rw [this], rfl⟩
        · rintro E1 S1 ⟨rfl, rfl⟩
          have hkk := hkd (a := "group") (ks := [.inl n0])
          specialize "go"
          cases hk : keyIn [.inr "group", .inl n0] xs with
          | true =>
            rw [wished_no hv (.inr hk)] at h
            refine sIte_t (by cases gd <;> rfl) ?_
            specialize "go"
            exact fin.as h
          | false =>
            cases hgv : gd with
            | false =>
              rw [wished_no hv (.inl fun z => by rw [hgd.mpr z] at hgv; cases hgv)] at h
              refine sIte_t rfl ?_
              specialize "go"
              exact fin.as h
            | true =>
              rw [wished_yes hv (hgd.mp hgv) hk] at h
              refine sIte_f rfl ?_
              specialize "go"
              exact fin.as h
      · specialize "go"
        refine ⟨⟨_, rfl, .inl ⟨_, List.getElem?_concat_length⟩⟩, ?_⟩
        specialize "go"
        have hth : thingV (b :: (n0 :: ms).map dg) = .tup (.str b :: (n0 :: ms).map W.int) := by
          show thingW b (((n0 :: ms).map dg).map numF) = _
          rw [map_numF hns, thing_no hg]
        by_cases hw0 : b = "all"
        · subst hw0
          refine sGet2_s (v := .int 2) ((dget_k List.getElem?_concat_length rfl).trans (by kernel_rfl)) ?_
          have hkk : inW (W.tup [W.str "all", W.tup [W.int n0]]) kn = keyIn (.inr "all" :: [.inl n0]) xs := by
            exact hkd (ks := [.inl n0])
          specialize "go"
          cases hq : (!decide ((2 : Int) = (((n0 :: ms).map W.int).length : Int)) || (decide (5 < n0) || keyIn (.inr "all" :: [.inl n0]) xs)) with
          | true =>
            have hv0 : wishedW ("all" :: (n0 :: ms).map dg) xs = .non := by
              rcases ms with _ | ⟨m1, _ | ⟨m2, ms⟩⟩
              · exact len_all hth (by simp)
              · refine wished_no (y := .all n0 m1) hth ?_
                rw [show decide ((2 : Int) = ((List.map W.int [n0, m1]).length : Int)) = true from rfl, Bool.not_true, Bool.false_or, Bool.or_eq_true, decide_eq_true_eq] at hq
                rcases hq with hq | hq
                · exact .inl fun z => by have := z.2.1; omega
                · exact .inr hq
              · exact len_all hth (by simp)
            rw [hv0] at h
            refine sIte_t hq ?_
            specialize "go"
            specialize "fd"
          | false =>
            refine sIte_f hq ?_
            rw [Bool.or_eq_false_iff, Bool.or_eq_false_iff, Bool.not_eq_false', decide_eq_true_eq, decide_eq_false_iff_not] at hq
            obtain ⟨q1, q2, q3⟩ := hq
            rw [List.length_map, List.length_cons] at q1
            rcases ms with _ | ⟨m1, _ | ⟨m2, ms⟩⟩
            · exfalso; simp only [List.length_cons, List.length_nil] at q1; omega
            · rw [show List.map W.int [n0, m1] = [W.int n0, W.int m1] from rfl]
              specialize "go"
              unfold Stop
              refine' xS_set ?k1 (of_decide_eq_true (by kernel_rfl)) ?_
              (case k1 => specialize "idx")
              specialize "go"
              unfold Stop
              refine sOr_f rfl ?_
              specialize "go"
              unfold Stop
              by_cases e1 : m1 = n0
              · have e1d : (!decide (m1 = n0)) = false := by rw [decide_eq_true e1]; rfl
                refine sAnd_f e1d ?_
                rw [wished_no (y := Wish.all n0 m1) hth (.inl fun z => z.2.2.2.2 e1)] at h
                specialize "go"
                specialize "fd"
              have e1d : (!decide (m1 = n0)) = true := by rw [decide_eq_false e1]; rfl
              refine sAnd_t e1d ?_
              specialize "go"
              by_cases e2 : m1 < 8
              · have e2d := decide_eq_true e2
                refine sIte_t (by rw [e2d]; rfl) ?_
                rw [wished_yes (y := Wish.all n0 m1) hth ⟨hns0 _ (by simp), by omega, hns0 _ (by simp), by omega, e1⟩ q3] at h
                specialize "go"
                exact fin.drop (Nat.le_refl _) hS (.tup (.cons (.str _) (.cons (.int _) (.cons (.int _) .nil)))) h
              · have e2d := decide_eq_false e2
                rw [wished_no (y := Wish.all n0 m1) hth (.inl fun z => e2 (by have := z.2.2.2.1; omega))] at h
                refine sIte_f (by rw [e2d]; rfl) ?_
                specialize "go"
                specialize "fd"
            · exfalso; simp only [List.length_cons, List.length_nil] at q1; omega
        · skip
          by_cases hw1 : b = "busy"
          · subst hw1
            refine sGet2_s (v := .int 2) ((dget_k List.getElem?_concat_length rfl).trans (by kernel_rfl)) ?_
            have hkk : inW (W.tup [W.str "busy", W.tup [W.int n0]]) kn = keyIn (.inr "busy" :: [.inl n0]) xs := by
              exact hkd (ks := [.inl n0])
            specialize "go"
            cases hq : (!decide ((2 : Int) = (((n0 :: ms).map W.int).length : Int)) || (decide (5 < n0) || keyIn (.inr "busy" :: [.inl n0]) xs)) with
            | true =>
              have hv0 : wishedW ("busy" :: (n0 :: ms).map dg) xs = .non := by
                rcases ms with _ | ⟨m1, _ | ⟨m2, ms⟩⟩
                · exact len_busy hth (by simp)
                · refine wished_no (y := .busy n0 m1) hth ?_
                  rw [show decide ((2 : Int) = ((List.map W.int [n0, m1]).length : Int)) = true from rfl, Bool.not_true, Bool.false_or, Bool.or_eq_true, decide_eq_true_eq] at hq
                  rcases hq with hq | hq
                  · exact .inl fun z => by have := z.2.1; omega
                  · exact .inr hq
                · exact len_busy hth (by simp)
              rw [hv0] at h
              refine sIte_t hq ?_
              specialize "go"
              specialize "fd"
            | false =>
              refine sIte_f hq ?_
              rw [Bool.or_eq_false_iff, Bool.or_eq_false_iff, Bool.not_eq_false', decide_eq_true_eq, decide_eq_false_iff_not] at hq
              obtain ⟨q1, q2, q3⟩ := hq
              rw [List.length_map, List.length_cons] at q1
              rcases ms with _ | ⟨m1, _ | ⟨m2, ms⟩⟩
              · exfalso; simp only [List.length_cons, List.length_nil] at q1; omega
              · rw [show List.map W.int [n0, m1] = [W.int n0, W.int m1] from rfl]
                specialize "go"
                unfold Stop
                refine' xS_set ?k1 (of_decide_eq_true (by kernel_rfl)) ?_
                (case k1 => specialize "idx")
                specialize "go"
                unfold Stop
                refine sOr_f rfl ?_
                specialize "go"
                unfold Stop
                by_cases e1 : m1 = n0
                · have e1d : (!decide (m1 = n0)) = false := by rw [decide_eq_true e1]; rfl
                  refine sAnd_f e1d ?_
                  rw [wished_no (y := Wish.busy n0 m1) hth (.inl fun z => z.2.2.2.2 e1)] at h
                  specialize "go"
                  specialize "fd"
                have e1d : (!decide (m1 = n0)) = true := by rw [decide_eq_false e1]; rfl
                refine sAnd_t e1d ?_
                specialize "go"
                by_cases e2 : m1 < 8
                · have e2d := decide_eq_true e2
                  refine sIte_t (by rw [e2d]; rfl) ?_
                  rw [wished_yes (y := Wish.busy n0 m1) hth ⟨hns0 _ (by simp), by omega, hns0 _ (by simp), by omega, e1⟩ q3] at h
                  specialize "go"
                  exact fin.drop (Nat.le_refl _) hS (.tup (.cons (.str _) (.cons (.int _) (.cons (.int _) .nil)))) h
                · have e2d := decide_eq_false e2
                  rw [wished_no (y := Wish.busy n0 m1) hth (.inl fun z => e2 (by have := z.2.2.2.1; omega))] at h
                  refine sIte_f (by rw [e2d]; rfl) ?_
                  specialize "go"
                  specialize "fd"
              · exfalso; simp only [List.length_cons, List.length_nil] at q1; omega
          · skip
            by_cases hw2 : b = "late"
            · subst hw2
              refine sGet2_s (v := .int 3) ((dget_k List.getElem?_concat_length rfl).trans (by kernel_rfl)) ?_
              have hkk : inW (W.tup [W.str "late", W.tup [W.int n0]]) kn = keyIn (.inr "late" :: [.inl n0]) xs := by
                exact hkd (ks := [.inl n0])
              specialize "go"
              cases hq : (!decide ((3 : Int) = (((n0 :: ms).map W.int).length : Int)) || (decide (5 < n0) || keyIn (.inr "late" :: [.inl n0]) xs)) with
              | true =>
                have hv0 : wishedW ("late" :: (n0 :: ms).map dg) xs = .non := by
                  rcases ms with _ | ⟨m1, _ | ⟨m2, _ | ⟨m3, ms⟩⟩⟩
                  · exact len_late hth (by simp)
                  · exact len_late hth (by simp)
                  · refine wished_no (y := .late n0 m1 m2) hth ?_
                    rw [show decide ((3 : Int) = ((List.map W.int [n0, m1, m2]).length : Int)) = true from rfl, Bool.not_true, Bool.false_or, Bool.or_eq_true, decide_eq_true_eq] at hq
                    rcases hq with hq | hq
                    · exact .inl fun z => by have := z.2.1; omega
                    · exact .inr hq
                  · exact len_late hth (by simp)
                rw [hv0] at h
                refine sIte_t hq ?_
                specialize "go"
                specialize "fd"
              | false =>
                refine sIte_f hq ?_
                rw [Bool.or_eq_false_iff, Bool.or_eq_false_iff, Bool.not_eq_false', decide_eq_true_eq, decide_eq_false_iff_not] at hq
                obtain ⟨q1, q2, q3⟩ := hq
                rw [List.length_map, List.length_cons] at q1
                rcases ms with _ | ⟨m1, _ | ⟨m2, _ | ⟨m3, ms⟩⟩⟩
                · exfalso; simp only [List.length_cons, List.length_nil] at q1; omega
                · exfalso; simp only [List.length_cons, List.length_nil] at q1; omega
                · rw [show List.map W.int [n0, m1, m2] = [W.int n0, W.int m1, W.int m2] from rfl]
                  specialize "go"
                  unfold Stop
                  refine' xS_set ?k1 (of_decide_eq_true (by kernel_rfl)) ?_
                  (case k1 => specialize "idx")
                  specialize "go"
                  unfold Stop
                  refine sOr_f rfl ?_
                  specialize "go"
                  unfold Stop
                  by_cases e1 : m1 = n0
                  · have e1d : (!decide (m1 = n0)) = false := by rw [decide_eq_true e1]; rfl
                    refine sAnd_f e1d ?_
                    rw [wished_no (y := Wish.late n0 m1 m2) hth (.inl fun z => z.2.2.2.2.1 e1)] at h
                    specialize "go"
                    specialize "fd"
                  have e1d : (!decide (m1 = n0)) = true := by rw [decide_eq_false e1]; rfl
                  refine sAnd_t e1d ?_
                  specialize "go"
                  by_cases e2 : m1 < 8
                  · have e2d := decide_eq_true e2
                    by_cases e3 : 0 < m2
                    · refine sIte_t (by rw [e2d, decide_eq_true e3]; rfl) ?_
                      rw [wished_yes (y := Wish.late n0 m1 m2) hth ⟨hns0 _ (by simp), by omega, hns0 _ (by simp), by omega, e1, by omega, (hns _ (by simp)).2⟩ q3] at h
                      specialize "go"
                      exact fin.drop (Nat.le_refl _) hS (.tup (.cons (.str _) (.cons (.int _) (.cons (.int _) (.cons (.int _) .nil))))) h
                    · refine sIte_f (by rw [e2d, decide_eq_false e3]; rfl) ?_
                      rw [wished_no (y := Wish.late n0 m1 m2) hth (.inl fun z => e3 (by have := z.2.2.2.2.2.1; omega))] at h
                      specialize "go"
                      specialize "fd"
                  · have e2d := decide_eq_false e2
                    rw [wished_no (y := Wish.late n0 m1 m2) hth (.inl fun z => e2 (by have := z.2.2.2.1; omega))] at h
                    refine sIte_f (by rw [e2d]; rfl) ?_
                    specialize "go"
                    specialize "fd"
                · exfalso; simp only [List.length_cons, List.length_nil] at q1; omega
            · skip
              by_cases hw3 : b = "wait"
              · subst hw3
                refine sGet2_s (v := .int 1) ((dget_k List.getElem?_concat_length rfl).trans (by kernel_rfl)) ?_
                have hkk : inW (W.tup [W.str "wait", W.tup [W.int n0]]) kn = keyIn (.inr "wait" :: [.inl n0]) xs := by
                  exact hkd (ks := [.inl n0])
                specialize "go"
                cases hq : (!decide ((1 : Int) = (((n0 :: ms).map W.int).length : Int)) || (decide (5 < n0) || keyIn (.inr "wait" :: [.inl n0]) xs)) with
                | true =>
                  have hv0 : wishedW ("wait" :: (n0 :: ms).map dg) xs = .non := by
                    rcases ms with _ | ⟨m1, ms⟩
                    · refine wished_no (y := .wait n0) hth ?_
                      rw [show decide ((1 : Int) = ((List.map W.int [n0]).length : Int)) = true from rfl, Bool.not_true, Bool.false_or, Bool.or_eq_true, decide_eq_true_eq] at hq
                      rcases hq with hq | hq
                      · exact .inl fun z => by have := z.2; omega
                      · exact .inr hq
                    · exact len_wait hth (by simp)
                  rw [hv0] at h
                  refine sIte_t hq ?_
                  specialize "go"
                  specialize "fd"
                | false =>
                  refine sIte_f hq ?_
                  rw [Bool.or_eq_false_iff, Bool.or_eq_false_iff, Bool.not_eq_false', decide_eq_true_eq, decide_eq_false_iff_not] at hq
                  obtain ⟨q1, q2, q3⟩ := hq
                  rw [List.length_map, List.length_cons] at q1
                  rcases ms with _ | ⟨m1, ms⟩
                  · rw [show List.map W.int [n0] = [W.int n0] from rfl]
                    specialize "go"
                    unfold Stop
                    refine' xS_set ?k1 (of_decide_eq_true (by kernel_rfl)) ?_
                    (case k1 => specialize "idx")
                    specialize "go"
                    unfold Stop
                    refine sOr_t rfl ?_
                    rw [wished_yes (y := Wish.wait n0) hth ⟨hns0 _ (by simp), by omega⟩ q3] at h
                    specialize "go"
                    exact fin.drop (Nat.le_refl _) hS (.tup (.cons (.str _) (.cons (.int _) .nil))) h
                  · exfalso; simp only [List.length_cons, List.length_nil] at q1; omega
              · skip
                by_cases hw4 : b = "still"
                · subst hw4
                  refine sGet2_s (v := .int 1) ((dget_k List.getElem?_concat_length rfl).trans (by kernel_rfl)) ?_
                  have hkk : inW (W.tup [W.str "still", W.tup [W.int n0]]) kn = keyIn (.inr "still" :: [.inl n0]) xs := by
                    exact hkd (ks := [.inl n0])
                  specialize "go"
                  cases hq : (!decide ((1 : Int) = (((n0 :: ms).map W.int).length : Int)) || (decide (5 < n0) || keyIn (.inr "still" :: [.inl n0]) xs)) with
                  | true =>
                    have hv0 : wishedW ("still" :: (n0 :: ms).map dg) xs = .non := by
                      rcases ms with _ | ⟨m1, ms⟩
                      · refine wished_no (y := .still n0) hth ?_
                        rw [show decide ((1 : Int) = ((List.map W.int [n0]).length : Int)) = true from rfl, Bool.not_true, Bool.false_or, Bool.or_eq_true, decide_eq_true_eq] at hq
                        rcases hq with hq | hq
                        · exact .inl fun z => by have := z.2; omega
                        · exact .inr hq
                      · exact len_still hth (by simp)
                    rw [hv0] at h
                    refine sIte_t hq ?_
                    specialize "go"
                    specialize "fd"
                  | false =>
                    refine sIte_f hq ?_
                    rw [Bool.or_eq_false_iff, Bool.or_eq_false_iff, Bool.not_eq_false', decide_eq_true_eq, decide_eq_false_iff_not] at hq
                    obtain ⟨q1, q2, q3⟩ := hq
                    rw [List.length_map, List.length_cons] at q1
                    rcases ms with _ | ⟨m1, ms⟩
                    · rw [show List.map W.int [n0] = [W.int n0] from rfl]
                      specialize "go"
                      unfold Stop
                      refine' xS_set ?k1 (of_decide_eq_true (by kernel_rfl)) ?_
                      (case k1 => specialize "idx")
                      specialize "go"
                      unfold Stop
                      refine sOr_t rfl ?_
                      rw [wished_yes (y := Wish.still n0) hth ⟨hns0 _ (by simp), by omega⟩ q3] at h
                      specialize "go"
                      exact fin.drop (Nat.le_refl _) hS (.tup (.cons (.str _) (.cons (.int _) .nil))) h
                    · exfalso; simp only [List.length_cons, List.length_nil] at q1; omega
                · skip
                  by_cases hw5 : b = "bar"
                  · subst hw5
                    refine sGet2_s (v := .int 2) ((dget_k List.getElem?_concat_length rfl).trans (by kernel_rfl)) ?_
                    rcases ms with _ | ⟨m1, ms⟩
                    · rw [len_bar hth (by simp)] at h
                      have hl0 : (!decide ((2 : Int) = ((([n0] : List Int).map W.int).length : Int))) = true := rfl
                      specialize "go"
                      specialize "fd"
                    have hkk : inW (W.tup [W.str "bar", W.tup [W.int n0, W.int m1]]) kn = keyIn (.inr "bar" :: [.inl n0, .inl m1]) xs := by
                      exact hkd (ks := [.inl n0, .inl m1])
                    specialize "go"
                    cases hq : (!decide ((2 : Int) = (((n0 :: m1 :: ms).map W.int).length : Int)) || (decide (5 < n0) || keyIn (.inr "bar" :: [.inl n0, .inl m1]) xs)) with
                    | true =>
                      have hv0 : wishedW ("bar" :: (n0 :: m1 :: ms).map dg) xs = .non := by
                        rcases ms with _ | ⟨m2, ms⟩
                        · refine wished_no (y := .bar n0 m1) hth ?_
                          rw [show decide ((2 : Int) = ((List.map W.int [n0, m1]).length : Int)) = true from rfl, Bool.not_true, Bool.false_or, Bool.or_eq_true, decide_eq_true_eq] at hq
                          rcases hq with hq | hq
                          · exact .inl fun z => by have := z.2.1; omega
                          · exact .inr hq
                        · exact len_bar hth (by simp)
                      rw [hv0] at h
                      refine sIte_t hq ?_
                      specialize "go"
                      specialize "fd"
                    | false =>
                      refine sIte_f hq ?_
                      rw [Bool.or_eq_false_iff, Bool.or_eq_false_iff, Bool.not_eq_false', decide_eq_true_eq, decide_eq_false_iff_not] at hq
                      obtain ⟨q1, q2, q3⟩ := hq
                      rw [List.length_map, List.length_cons] at q1
                      rcases ms with _ | ⟨m2, ms⟩
                      · rw [show List.map W.int [n0, m1] = [W.int n0, W.int m1] from rfl]
                        specialize "go"
                        unfold Stop
                        refine' xS_set ?k1 (of_decide_eq_true (by kernel_rfl)) ?_
                        (case k1 => specialize "idx")
                        specialize "go"
                        unfold Stop
                        refine sOr_f rfl ?_
                        specialize "go"
                        unfold Stop
                        by_cases e1 : m1 = n0
                        · have e1d : (!decide (m1 = n0)) = false := by rw [decide_eq_true e1]; rfl
                          refine sAnd_f e1d ?_
                          rw [wished_no (y := Wish.bar n0 m1) hth (.inl fun z => z.2.2.2.2 e1)] at h
                          specialize "go"
                          specialize "fd"
                        have e1d : (!decide (m1 = n0)) = true := by rw [decide_eq_false e1]; rfl
                        refine sAnd_t e1d ?_
                        specialize "go"
                        by_cases e2 : m1 < 6
                        · have e2d := decide_eq_true e2
                          refine sIte_t (by rw [e2d]; rfl) ?_
                          rw [wished_yes (y := Wish.bar n0 m1) hth ⟨hns0 _ (by simp), by omega, hns0 _ (by simp), by omega, e1⟩ q3] at h
                          specialize "go"
                          exact fin.drop (Nat.le_refl _) hS (.tup (.cons (.str _) (.cons (.int _) (.cons (.int _) .nil)))) h
                        · have e2d := decide_eq_false e2
                          rw [wished_no (y := Wish.bar n0 m1) hth (.inl fun z => e2 (by have := z.2.2.2.1; omega))] at h
                          refine sIte_f (by rw [e2d]; rfl) ?_
                          specialize "go"
                          specialize "fd"
                      · exfalso; simp only [List.length_cons, List.length_nil] at q1; omega
                  · skip
                    rw [len_other hth hg hw0 hw1 hw2 hw3 hw4 hw5] at h
                    have hl0 : (!decide ((0 : Int) = (((n0 :: ms).map W.int).length : Int))) = true := by
                      rw [Bool.not_eq_true', decide_eq_false_iff_not, List.length_map, List.length_cons]
                      omega
                    refine sGet2_n ((dget_k List.getElem?_concat_length rfl).trans (congrArg some ?_)) ?_
                    · exact (valW_neg fun e => hw0 (Sum.inr.inj e).symm).trans <| (valW_neg fun e => hw1 (Sum.inr.inj e).symm).trans <| (valW_neg fun e => hw2 (Sum.inr.inj e).symm).trans <| (valW_neg fun e => hw3 (Sum.inr.inj e).symm).trans <| (valW_neg fun e => hw4 (Sum.inr.inj e).symm).trans <| (valW_neg fun e => hw5 (Sum.inr.inj e).symm).trans rfl
                    specialize "go"
                    specialize "fd"
    · obtain ⟨z, hz⟩ := Classical.not_forall.mp hall
      obtain ⟨hz, hn⟩ := Classical.not_imp.mp hz
      have hn : numF z = none := by
        cases q : numF z with
        | none => rfl
        | some n => rw [q] at hn; exact absurd rfl hn
      have e : wishedW (b :: L) xs = .non := by
        unfold wishedW
        rw [show wishC (thingV (b :: L)) = none from no_fig hz hn]
      rw [e] at h
      have hfil : (L.filter fun z => !(numF z).isSome).isEmpty = false := by
        cases q : L.filter fun z => !(numF z).isSome with
        | cons _ _ => rfl
        | nil =>
          rw [List.filter_eq_nil_iff] at q
          exact absurd (by rw [hn]; rfl) (q z hz)
      refine sIte_t (by rw [hfil, Bool.not_false]) ?_
      specialize "go"
      exact fin.as h
end
end

end
section
-- ZQ
/-! ### deeds told by words: the bounds -/
def bdsOf (a : Str) : Option (List Int) := if a ∈ oneWords then some [6] else if a = "dial" then some [6, 8] else if a = "beat" then some [] else none
def goodZ (b : Int) (z : Str) : Bool := match numF z with
  | some n => decide (n < b)
  | none => false
theorem optW_int {o : Option Int} {n : Int} (h : optW o = .int n) : o = some n := by
  cases o with
  | none => cases h
  | some m => injection h with h; rw [h]
theorem optW_ints : ∀ {os : List (Option Int)} {ns : List Int}, os.map optW = ns.map W.int → os = ns.map some
  | [], [], _ => rfl
  | [], _ :: _, h => by cases h
  | _ :: _, [], h => by cases h
  | o :: os, n :: ns, h => by
    rw [List.map_cons, List.map_cons] at h
    injection h with h1 h2
    rw [optW_int h1, optW_ints h2]
    rfl
theorem deed_word (d : Deed) : d.word ≠ "group" := by cases d <;> (simp only [Deed.word]; decide +kernel)
theorem deed_bds (d : Deed) : ∃ bs, bdsOf d.word = some bs ∧ bs.length = d.nums.length := by
  cases d <;> first
    | exact ⟨[6], by simp only [Deed.word]; decide +kernel, rfl⟩
    | exact ⟨[6, 8], by simp only [Deed.word]; decide +kernel, rfl⟩
    | exact ⟨[], by simp only [Deed.word]; decide +kernel, rfl⟩
/-- what a deed read from words says of them -/
theorem deed_read {a : Str} {l : List Str} {d : Deed} (h : deedC (thingV (a :: l)) = some d) : d.ok ∧ a = d.word ∧ l.map numF = d.nums.map some := by
  obtain ⟨_, ho, e⟩ := deedC_some h
  have e : thingW a (l.map numF) = .tup (.str d.word :: d.nums.map W.int) := e
  by_cases hg : a = "group"
  · exfalso
    subst hg
    unfold thingW at e
    rw [if_pos rfl] at e
    cases q : l.map numF with
    | nil =>
      rw [q] at e
      injection e with e
      injection e with e _
      injection e with e
      exact deed_word d e.symm
    | cons o r =>
      rw [q] at e
      injection e with e
      injection e with e _
      injection e with e
      exact deed_word d e.symm
  · unfold thingW at e
    rw [if_neg hg] at e
    injection e with e
    injection e with e1 e2
    injection e1 with e1
    exact ⟨ho, e1, optW_ints e2⟩
theorem isOne_ok {a : Str} {p : Int} (h : a ∈ oneWords) (h0 : 0 ≤ p) (h1 : p ≤ 5) : isDeedW (.tup [.str a, .int p]) = true := by
  show (decide (a ∈ oneWords) && isNumW (.int p) 0 5) = true
  simp only [isNumW, Bool.and_eq_true, decide_eq_true_eq]
  exact ⟨h, h0, h1⟩
theorem isDeed_ok {d : Deed} (h : d.ok) : isDeedW d.w = true := by
  cases d with
  | beat =>
    show decide (("beat" : Str) = "beat") = true
    decide +kernel
  | dial p g =>
    show (decide (("dial" : Str) = "dial") && (isNumW (.int p) 0 5 && isNumW (.int g) 0 7)) = true
    simp only [isNumW, Bool.and_eq_true, decide_eq_true_eq]
    exact ⟨by trivial, ⟨h.1, h.2.1⟩, h.2.2.1, h.2.2.2⟩
  | lift p => exact isOne_ok (a := "lift") (by decide +kernel) h.1 h.2
  | drop p => exact isOne_ok (a := "drop") (by decide +kernel) h.1 h.2
  | hold p => exact isOne_ok (a := "hold") (by decide +kernel) h.1 h.2
  | swap p => exact isOne_ok (a := "swap") (by decide +kernel) h.1 h.2
  | take p => exact isOne_ok (a := "take") (by decide +kernel) h.1 h.2
  | join p => exact isOne_ok (a := "join") (by decide +kernel) h.1 h.2
theorem deed_inj {a b : Deed} (h : a.w = b.w) : a = b := by
  injection h with h
  injection h with h1 h2
  injection h1 with h1
  exact word_inj h1 (List.map_inj_right (fun _ _ e => by injection e) |>.mp h2)
theorem deedC_yes {d : Deed} (h : d.ok) : deedC d.w = some d := by
  cases q : deedC d.w with
  | none =>
    have z := isDeed_ok h
    rw [deedC_none q] at z
    cases z
  | some e => rw [deed_inj (deedC_some q).2.2.symm]
theorem deed_none {a : Str} {l : List Str} (h : bdsOf a = none) : deedC (thingV (a :: l)) = none := by
  cases q : deedC (thingV (a :: l)) with
  | none => rfl
  | some d =>
    obtain ⟨_, e, _⟩ := deed_read q
    obtain ⟨bs, e2, _⟩ := deed_bds d
    rw [← e, h] at e2
    cases e2
theorem deed_len {a : Str} {l : List Str} {bs : List Int} (h : bdsOf a = some bs) (hl : bs.length ≠ l.length) : deedC (thingV (a :: l)) = none := by
  cases q : deedC (thingV (a :: l)) with
  | none => rfl
  | some d =>
    obtain ⟨_, e, e3⟩ := deed_read q
    obtain ⟨bs', e2, e4⟩ := deed_bds d
    rw [← e, h] at e2
    cases e2
    have := congrArg List.length e3
    rw [List.length_map, List.length_map] at this
    omega
theorem thing_dg {a : Str} {ns : List Int} (hg : a ≠ "group") (h : ∀ n ∈ ns, 0 ≤ n ∧ n ≤ 9) : thingV (a :: ns.map dg) = .tup (.str a :: ns.map W.int) := by
  show thingW a ((ns.map dg).map numF) = _
  rw [map_numF h, thing_no hg]
theorem goodZ_some {b : Int} {z : Str} (h : goodZ b z = true) : ∃ n, z = dg n ∧ 0 ≤ n ∧ n ≤ 9 ∧ n < b := by
  unfold goodZ at h
  split at h
  · rename_i n hn
    obtain ⟨e, h0, h9⟩ := numF_some hn
    exact ⟨n, e, h0, h9, of_decide_eq_true h⟩
  · cases h
theorem goodZ_no {b n : Int} {z : Str} (h : goodZ b z = false) (e : numF z = some n) (hb : n < b) : False := by
  unfold goodZ at h
  rw [e] at h
  exact absurd hb (of_decide_eq_false h)
/-- one figure -/
theorem deed_one {a z : Str} (h : a ∈ oneWords) : (goodZ 6 z = true → ∃ d n, z = dg n ∧ 0 ≤ n ∧ n ≤ 9 ∧ deedC (thingV [a, z]) = some d ∧ d.w = .tup [.str a, .int n]) ∧ (goodZ 6 z = false → deedC (thingV [a, z]) = none) := by
  have hg : a ≠ "group" := by
    intro e
    subst e
    revert h
    decide +kernel
  constructor
  · intro hz
    obtain ⟨n, rfl, h0, h9, hb⟩ := goodZ_some hz
    have e := thing_dg (ns := [n]) hg (by intro m hm; rw [List.mem_singleton.mp hm]; exact ⟨h0, h9⟩)
    have e : thingV [a, dg n] = .tup [.str a, .int n] := e
    obtain ⟨d, hd, hw⟩ : ∃ d : Deed, d.ok ∧ d.w = .tup [.str a, .int n] := by
      simp only [oneWords, List.mem_cons, List.not_mem_nil, or_false] at h
      rcases h with rfl | rfl | rfl | rfl | rfl | rfl
      · exact ⟨.lift n, ⟨h0, by omega⟩, rfl⟩
      · exact ⟨.drop n, ⟨h0, by omega⟩, rfl⟩
      · exact ⟨.hold n, ⟨h0, by omega⟩, rfl⟩
      · exact ⟨.swap n, ⟨h0, by omega⟩, rfl⟩
      · exact ⟨.take n, ⟨h0, by omega⟩, rfl⟩
      · exact ⟨.join n, ⟨h0, by omega⟩, rfl⟩
    exact ⟨d, n, rfl, h0, h9, by rw [e, ← hw]; exact deedC_yes hd, hw⟩
  · intro hz
    cases q : deedC (thingV [a, z]) with
    | none => rfl
    | some d =>
      exfalso
      obtain ⟨ho, e, e3⟩ := deed_read q
      subst e
      cases d with
      | beat => revert h; simp only [Deed.word]; decide +kernel
      | dial p g => revert h; simp only [Deed.word]; decide +kernel
      | _ =>
        have e3 : [numF z] = [some _] := e3
        injection e3 with e3 _
        exact goodZ_no hz e3 (by have := ho.2; omega)
theorem deed_two {z y : Str} : (goodZ 6 z = true → goodZ 8 y = true → ∃ d n m, z = dg n ∧ 0 ≤ n ∧ n ≤ 9 ∧ y = dg m ∧ 0 ≤ m ∧ m ≤ 9 ∧ deedC (thingV ["dial", z, y]) = some d ∧ d.w = .tup [.str "dial", .int n, .int m]) ∧ (goodZ 6 z = false ∨ goodZ 8 y = false → deedC (thingV ["dial", z, y]) = none) := by
  constructor
  · intro hz hy
    obtain ⟨n, rfl, h0, h9, hb⟩ := goodZ_some hz
    obtain ⟨m, rfl, g0, g9, gb⟩ := goodZ_some hy
    have e := thing_dg (a := "dial") (ns := [n, m]) (by decide +kernel) (by
      intro k hk
      simp only [List.mem_cons, List.not_mem_nil, or_false] at hk
      rcases hk with rfl | rfl
      · exact ⟨h0, h9⟩
      · exact ⟨g0, g9⟩)
    have e : thingV ["dial", dg n, dg m] = (Deed.dial n m).w := e
    exact ⟨.dial n m, n, m, rfl, h0, h9, rfl, g0, g9, by rw [e]; exact deedC_yes ⟨h0, by omega, g0, by omega⟩, rfl⟩
  · intro hzy
    cases q : deedC (thingV ["dial", z, y]) with
    | none => rfl
    | some d =>
      exfalso
      obtain ⟨ho, e, e3⟩ := deed_read q
      cases d with
      | dial p g =>
        have e3 : [numF z, numF y] = [some p, some g] := e3
        injection e3 with e3 e4
        injection e4 with e4 _
        rcases hzy with hz | hz
        · exact goodZ_no hz e3 (by have := ho.2.1; omega)
        · exact goodZ_no hz e4 (by have := ho.2.2.2; omega)
      | _ => revert e; simp only [Deed.word]; decide +kernel
theorem deed_beat : deedC (thingV ["beat"]) = some .beat := by
  have e : thingV ["beat"] = Deed.beat.w := by
    show thingW "beat" [] = _
    unfold thingW
    rw [if_neg (by decide +kernel)]
    rfl
  rw [e]
  exact deedC_yes trivial

end
section
-- ZO
/-! ### slices, sums of texts: signs and length -/
theorem strOk_iff {z : Str} : PyData.strOk z = true ↔ ∀ c ∈ z.cps.toList, (PyData.strOk ⟨#[c]⟩ = true) := by
  unfold PyData.strOk
  rw [Array.all_eq_true_iff_forall_mem]
  constructor
  · intro h c hc
    have := h c (Array.mem_toList_iff.mp hc)
    simpa using this
  · intro h c hc
    have := h c (Array.mem_toList_iff.mpr hc)
    simpa using this
theorem cutS_ok {z : Str} {l u : Option Int} (h : PyData.strOk z = true) : PyData.strOk (cutS z l u) = true := by
  rw [strOk_iff] at h ⊢
  intro c hc
  refine h c ?_
  unfold cutS at hc
  exact List.mem_of_mem_drop (List.mem_of_mem_take (by simpa using hc))
theorem cutS_len {z : Str} {l u : Option Int} : (cutS z l u).length ≤ z.length := by
  show (cutS z l u).cps.size ≤ z.cps.size
  unfold cutS
  rw [List.size_toArray, List.length_take, List.length_drop, Array.length_toList]
  omega
theorem app_len {a b : Str} : (a ++ b).length = a.length + b.length := by
  show (a.cps ++ b.cps).size = _
  rw [Array.size_append]
  rfl
theorem app_ok {a b : Str} (ha : PyData.strOk a = true) (hb : PyData.strOk b = true) : PyData.strOk (a ++ b) = true := by
  rw [strOk_iff] at ha hb ⊢
  intro c hc
  have hc : c ∈ (a.cps ++ b.cps).toList := hc
  rw [Array.toList_append] at hc
  rcases List.mem_append.mp hc with q | q
  · exact ha c q
  · exact hb c q
open PySem.Builtin PySem.Builtin.Str in
theorem joinT_len {sep : Str} {ls : List Str} : (Txt.join sep ls).length = (ls.map (·.length)).sum + (ls.length - 1) * sep.length := size_glued sep ls
theorem join_eqT (y : Str) (ls : List Str) : Txt.join y ls = Str.join y ls := PySem.StrLaws.glued_eq_join y ls
theorem split_sum {x y : Str} (hy : y.length = 1) : ((Txt.split x y).map (·.length)).sum + ((Txt.split x y).length - 1) = x.length := by
  have q := joinT_len (sep := y) (ls := Txt.split x y)
  rw [join_eqT, PySem.StrLaws.join_split, hy, Nat.mul_one] at q
  exact q.symm
theorem joinT_ok {sep : Str} (hs : PyData.strOk sep = true) : ∀ {ls : List Str}, (∀ l ∈ ls, PyData.strOk l = true) → PyData.strOk (Txt.join sep ls) = true := by
  intro ls h
  rw [join_eqT]
  induction ls with
  | nil =>
    show PyData.strOk Str.empty = true
    decide +kernel
  | cons a ls ih =>
    cases ls with
    | nil => exact h a List.mem_cons_self
    | cons b ls =>
      show PyData.strOk (a ++ sep ++ Str.join sep (b :: ls)) = true
      exact app_ok (app_ok (h a List.mem_cons_self) hs) (ih fun l hl => h l (List.mem_cons_of_mem _ hl))

end
section
-- ZO2
/-! ### lines left out, told twice, moved -/
def sumL (l : List Str) : Nat := (l.map (·.length)).sum
theorem sumL_app {a b : List Str} : sumL (a ++ b) = sumL a + sumL b := by
  unfold sumL
  rw [List.map_append, List.sum_append]
theorem sumL_td {l : List Str} (k : Nat) : sumL (l.take k) + sumL (l.drop k) = sumL l := by
  rw [← sumL_app, List.take_append_drop]
theorem sumL_drop {l : List Str} (k : Nat) : sumL (l.drop k) ≤ sumL l := by
  have := sumL_td (l := l) k
  omega
theorem sumL_take {l : List Str} (k : Nat) : sumL (l.take k) ≤ sumL l := by
  have := sumL_td (l := l) k
  omega
theorem sumL_cons {a : Str} {l : List Str} : sumL (a :: l) = a.length + sumL l := rfl
theorem sumL_at {l : List Str} {k : Nat} {a : Str} (h : l[k]? = some a) : sumL (l.take k) + (a.length + sumL (l.drop (k + 1))) = sumL l := by
  obtain ⟨hk, e⟩ := List.getElem?_eq_some_iff.mp h
  rw [← sumL_td (l := l) k, List.drop_eq_getElem_cons hk, e, sumL_cons]
theorem join_len {sep : Str} {l : List Str} (hs : sep.length = 1) : (Txt.join sep l).length = sumL l + (l.length - 1) := by
  rw [joinT_len, hs, Nat.mul_one]
  rfl
theorem cut_toN {l : List W} {v : Int} (h0 : 0 ≤ v) : cutW l none (some v) = l.take v.toNat := by
  unfold cutW
  obtain ⟨n, rfl⟩ : ∃ n : Nat, v = n := ⟨v.toNat, by omega⟩
  rw [HT.sIx_none, HT.sIx_nat, Int.toNat_natCast, List.drop_zero, Nat.sub_zero, List.take_eq_take_iff]
  omega
theorem cut_fromN {l : List W} {v : Int} (h0 : 0 ≤ v) : cutW l (some v) none = l.drop v.toNat := by
  unfold cutW
  obtain ⟨n, rfl⟩ : ∃ n : Nat, v = n := ⟨v.toNat, by omega⟩
  rw [HT.sIx_none, HT.sIx_nat, Int.toNat_natCast]
  rcases Nat.le_total n l.length with h | h
  · rw [Nat.min_eq_left h, ← List.length_drop, List.take_length]
  · rw [Nat.min_eq_right h, List.drop_length, List.drop_eq_nil_of_le h, List.take_nil]
theorem sCut_toS {ls : List Str} {v : Int} {S : Sto} {Φ : W → Sto → Prop} (h0 : 0 ≤ v) (h : Φ (.lst ((ls.take v.toNat).map W.str)) S) : sCut (.lst (ls.map W.str)) none (some v) S Φ := sCut_l (by rw [cut_toN h0, ← List.map_take]; exact h)
theorem sCut_fromS {ls : List Str} {v : Int} {S : Sto} {Φ : W → Sto → Prop} (h0 : 0 ≤ v) (h : Φ (.lst ((ls.drop v.toNat).map W.str)) S) : sCut (.lst (ls.map W.str)) (some v) none S Φ := sCut_l (by rw [cut_fromN h0, ← List.map_drop]; exact h)
theorem sCat_S {xs ys : List Str} {S : Sto} {Φ : W → Sto → Prop} (hl : xs.length + ys.length ≤ 100000) (h : Φ (.lst ((xs ++ ys).map W.str)) S) : sCat (.lst (xs.map W.str)) (.lst (ys.map W.str)) S Φ := sCat_i (by rw [List.length_map, List.length_map]; exact hl) (by rw [← List.map_append]; exact h)
/-- the word in the line, the line in the text -/
theorem spoilt_word {ws ms : List Str} {j : Nat} {a z : Str} (hz : (Txt.split z " ") = ws) (ha : ws[j]? = some a) (hm : sumL ms ≤ 2 * a.length + 5) (hl : ms.length ≤ 2) : (Txt.join " " (ws.take j ++ ms ++ ws.drop (j + 1))).length ≤ 2 * z.length + 6 := by
  have hb : (" " : Str).length = 1 := by decide +kernel
  have hs := split_sum (x := z) (y := " ") hb
  rw [hz] at hs
  have hs : sumL ws + (ws.length - 1) = z.length := hs
  have h1 := sumL_at ha
  have hj := (List.getElem?_eq_some_iff.mp ha).1
  rw [join_len hb, sumL_app, sumL_app, List.length_append, List.length_append, List.length_take, List.length_drop]
  omega
theorem spoilt_line {ls : List Str} {k : Nat} {a b x : Str} (hs : sumL ls + (ls.length - 1) = x.length) (ha : ls[k]? = some a) (hb : b.length ≤ 2 * a.length + 6) : (Txt.join "\n" (ls.take k ++ [b] ++ ls.drop (k + 1))).length ≤ 2 * x.length + 20 := by
  have hn : ("\n" : Str).length = 1 := by decide +kernel
  have h1 := sumL_at ha
  have hk := (List.getElem?_eq_some_iff.mp ha).1
  have hc : sumL [b] = b.length := rfl
  rw [join_len hn, sumL_app, sumL_app, hc, List.length_append, List.length_append, List.length_take, List.length_drop, List.length_singleton]
  omega

end
section
-- ZP
/-! ### lengths and signs of the law's first texts -/
open TL
theorem dg_len {i : Int} (h0 : 0 ≤ i) (h9 : i ≤ 9) : (dg i).length = 1 := by rw [(digit h0 h9).1]; rfl
theorem sum_dg : ∀ {ns : List Int}, digits ns → ((ns.map dg).map (·.length)).sum = ns.length
  | [], _ => rfl
  | n :: ns, h => by
    have h1 := h n List.mem_cons_self
    have ih := sum_dg (ns := ns) fun m hm => h m (List.mem_cons_of_mem _ hm)
    simp only [List.map_cons, List.sum_cons, dg_len h1.1 h1.2, ih, List.length_cons]
    omega
theorem sum_le2 {b : Nat} : ∀ {l : List Str}, (∀ r ∈ l, r.length ≤ b) → (l.map (·.length)).sum ≤ b * l.length
  | [], _ => Nat.zero_le _
  | a :: l, h => by
    have h1 := h a List.mem_cons_self
    have ih := sum_le2 (l := l) fun m hm => h m (List.mem_cons_of_mem _ hm)
    simp only [List.map_cons, List.sum_cons, List.length_cons, Nat.mul_add, Nat.mul_one]
    omega
theorem bl_len : (" " : Str).length = 1 := by decide +kernel
theorem nl_len : ("\n" : Str).length = 1 := by decide +kernel
theorem wishRow_len {x : Wish} (h : x.ok) : (wishRow x).length ≤ 24 := by
  have hd := x.dig h
  have q := joinT_len (sep := " ") (ls := ("wish" : Str) :: x.word :: x.nums.map dg)
  show (Txt.join _ _).length ≤ 24
  have hw := (good_wish x).2.2.1
  have h4 : ("wish" : Str).length = 4 := by decide +kernel
  rw [q, bl_len]
  simp only [List.map_cons, List.sum_cons, sum_dg hd.1, List.length_cons, List.length_map, h4]
  have := hd.2
  omega
theorem deedRow_len {x : Deed} (h : x.ok) : (deedRow x).length ≤ 10 := by
  have hd := x.dig h
  have q := joinT_len (sep := " ") (ls := x.word :: x.nums.map dg)
  show (Txt.join _ _).length ≤ 10
  have hw := (good_deed x).2.2.1
  rw [q, bl_len]
  simp only [List.map_cons, List.sum_cons, sum_dg hd.1, List.length_cons, List.length_map]
  have := hd.2
  omega
theorem text_len9 {xs : List Wish} {ds : List Deed} (hx : ∀ x ∈ xs, x.ok) (hd : ∀ d ∈ ds, d.ok) (h1 : xs.length ≤ 9) (h2 : ds.length ≤ 9) : (textF xs ds).length ≤ 340 := by
  have q := joinT_len (sep := "\n") (ls := rowsF xs ds)
  show (Txt.join _ _).length ≤ 340
  rw [q, nl_len]
  have a1 := sum_le2 (b := 24) (l := xs.map wishRow) fun r hr => by
    obtain ⟨x, hx', rfl⟩ := List.mem_map.mp hr
    exact wishRow_len (hx x hx')
  have a2 := sum_le2 (b := 10) (l := ds.map deedRow) fun r hr => by
    obtain ⟨x, hx', rfl⟩ := List.mem_map.mp hr
    exact deedRow_len (hd x hx')
  unfold rowsF
  rw [List.map_append, List.sum_append, List.length_append]
  rw [List.length_map] at a1 a2
  rw [List.length_map, List.length_map]
  omega
theorem dg_ok {i : Int} (h0 : 0 ≤ i) (h9 : i ≤ 9) : PyData.strOk (dg i) = true := by
  rw [(digit h0 h9).1, strOk_iff]
  intro c hc
  have hc : c ∈ [48 + i.toNat] := hc
  rw [List.mem_singleton.mp hc]
  show PyData.strOk ⟨#[48 + i.toNat]⟩ = true
  obtain ⟨n, rfl, hn⟩ : ∃ n : Nat, i = n ∧ n ≤ 9 := ⟨i.toNat, by omega, by omega⟩
  have q : ∀ m : Fin 10, PyData.strOk ⟨#[48 + m.val]⟩ = true := by decide +kernel
  exact q ⟨n, by omega⟩
theorem textF_ok {xs : List Wish} {ds : List Deed} (hx : ∀ x ∈ xs, x.ok) (hd : ∀ d ∈ ds, d.ok) : PyData.strOk (textF xs ds) = true := by
  have nums : ∀ {ns : List Int}, digits ns → ∀ l ∈ ns.map dg, PyData.strOk l = true := fun h l hl => by
    obtain ⟨n, hn, rfl⟩ := List.mem_map.mp hl
    exact dg_ok (h n hn).1 (h n hn).2
  refine joinT_ok (by decide +kernel) fun r hr => ?_
  rcases List.mem_append.mp hr with hr | hr
  · obtain ⟨x, hx', rfl⟩ := List.mem_map.mp hr
    refine joinT_ok (by decide +kernel) fun l hl => ?_
    rcases List.mem_cons.mp hl with rfl | hl
    · decide +kernel
    · rcases List.mem_cons.mp hl with rfl | hl
      · cases x <;> (simp only [Wish.word]; decide +kernel)
      · exact nums (x.dig (hx x hx')).1 l hl
  · obtain ⟨x, hx', rfl⟩ := List.mem_map.mp hr
    refine joinT_ok (by decide +kernel) fun l hl => ?_
    rcases List.mem_cons.mp hl with rfl | hl
    · cases x <;> (simp only [Deed.word]; decide +kernel)
    · exact nums (x.dig (hd x hx')).1 l hl

end
section
-- Yr1
section
variable {P : Program} {w : World} {K : PySem.W.Frag} {mg : Str → Option Value} {base : Heap}
/-! ### the law's own reader of texts -/
def lreadW : Nat ⊕ RSt → W
  | .inl i => .tup [.int i, .non]
  | .inr st => .tup [.non, .tup [.lst (st.1.map Wish.w), .lst (st.2.map Deed.w)]]
def linesP (x : Str) : List Str := if x = "" then [] else Txt.split x "\n"
theorem rowsP_lines (x : Str) : rowsP x = (linesP x).map fun r => Txt.split r " " := rfl
theorem fzs_deedsR {S : Sto} {n : Nat} {ds : List Deed} : Fzs S n (ds.map Deed.w) (ds.map Deed.w) := fzs_self _ (rlts_map (fun d => by
  show (W.tup (.str d.word :: intsW d.nums)).rlt n = true
  simp only [W.rlt, W.rlts, Bool.true_and]
  exact rlts_map (fun _ => rfl) d.nums) ds)
def goodL (ps : List (Str × Int)) : List W := (ps.filter fun p => goodZ p.2 p.1).map fun p => W.str p.1
theorem goodL_len {ps : List (Str × Int)} : (goodL ps).length ≤ ps.length := by
  unfold goodL
  rw [List.length_map]
  exact List.length_filter_le _ _
theorem zip_p {l : List Str} {bs : List Int} : zipW (l.map W.str) (bs.map W.int) = (l.zip bs).map fun p => W.tup [.str p.1, .int p.2] := by
  unfold zipW
  induction l generalizing bs with
  | nil => cases bs <;> rfl
  | cons z l ih => cases bs with
    | nil => rfl
    | cons b bs => simpa using ih
theorem bds_68 {a : Str} {bs : List Int} (h : bdsOf a = some bs) : ∀ b ∈ bs, b = 6 ∨ b = 8 := by
  unfold bdsOf at h
  split at h
  · cases h; simp
  · split at h
    · cases h; simp
    · split at h
      · cases h; simp
      · cases h
theorem sig6 : signsL (cutS "01234567" none (some 6)) = [0, 1, 2, 3, 4, 5].map dg := by decide +kernel
theorem sig8 : signsL (cutS "01234567" none (some 8)) = [0, 1, 2, 3, 4, 5, 6, 7].map dg := by decide +kernel
theorem sig_in {b : Int} {z : Str} (hb : b = 6 ∨ b = 8) : inW (.str z) ((signsL (cutS "01234567" none (some b))).map W.str) = goodZ b z := by
  have q : inW (.str z) ((signsL (cutS "01234567" none (some b))).map W.str) = decide (z ∈ signsL (cutS "01234567" none (some b))) := inW_map (fun _ _ => eqW_str) z _
  rw [q, Bool.eq_iff_iff, decide_eq_true_eq]
  constructor
  · intro h
    obtain ⟨n, hn, rfl⟩ : ∃ n : Int, (0 ≤ n ∧ n ≤ 9 ∧ n < b) ∧ z = dg n := by
      rcases hb with rfl | rfl
      · rw [sig6] at h
        obtain ⟨n, hn, e⟩ := List.mem_map.mp h
        refine ⟨n, ?_, e.symm⟩
        simp only [List.mem_cons, List.not_mem_nil, or_false] at hn
        omega
      · rw [sig8] at h
        obtain ⟨n, hn, e⟩ := List.mem_map.mp h
        refine ⟨n, ?_, e.symm⟩
        simp only [List.mem_cons, List.not_mem_nil, or_false] at hn
        omega
    unfold goodZ
    rw [numF_dg hn.1 hn.2.1]
    exact decide_eq_true hn.2.2
  · intro h
    obtain ⟨n, rfl, h0, h9, hn⟩ := goodZ_some h
    rcases hb with rfl | rfl
    · rw [sig6]
      refine List.mem_map.mpr ⟨n, ?_, rfl⟩
      simp only [List.mem_cons, List.not_mem_nil, or_false]
      omega
    · rw [sig8]
      refine List.mem_map.mpr ⟨n, ?_, rfl⟩
      simp only [List.mem_cons, List.not_mem_nil, or_false]
      omega
theorem sig_ok {b : Int} (hb : b = 6 ∨ b = 8) : W.oks ((signsL (cutS "01234567" none (some b))).map W.str) 59 = true := by
  rcases hb with rfl | rfl
  · rw [sig6]; decide +kernel
  · rw [sig8]; decide +kernel
theorem goodL_yes {ps : List (Str × Int)} {i : Nat} {p : Str × Int} (h : ps[i]? = some p) (g : goodZ p.2 p.1 = true) : goodL (ps.take i) ++ [W.str p.1] = goodL (ps.take (i + 1)) := by
  unfold goodL
  rw [List.take_succ, h, List.filter_append, List.map_append]
  simp [g]
theorem goodL_no {ps : List (Str × Int)} {i : Nat} {p : Str × Int} (h : ps[i]? = some p) (g : goodZ p.2 p.1 = false) : goodL (ps.take i) = goodL (ps.take (i + 1)) := by
  unfold goodL
  rw [List.take_succ, h, List.filter_append, List.map_append]
  simp [g]
theorem bds_inv {a : Str} {bs : List Int} (h : bdsOf a = some bs) : (a ∈ oneWords ∧ bs = [6]) ∨ (a = "dial" ∧ bs = [6, 8]) ∨ (a = "beat" ∧ bs = []) := by
  unfold bdsOf at h
  split at h
  · cases h; exact .inl ⟨by assumption, rfl⟩
  · split at h
    · cases h; exact .inr (.inl ⟨by assumption, rfl⟩)
    · split at h
      · cases h; exact .inr (.inr ⟨by assumption, rfl⟩)
      · cases h
theorem good_or {a : Str} {l : List Str} {bs : List Int} (hb : bdsOf a = some bs) (hl : bs.length = l.length) : (∃ (ns : List Int) (d : Deed), goodL (l.zip bs) = ns.map (fun n => W.str (dg n)) ∧ ns.length = bs.length ∧ (∀ n ∈ ns, 0 ≤ n ∧ n ≤ 9) ∧ deedC (thingV (a :: l)) = some d ∧ d.w = .tup (.str a :: ns.map W.int)) ∨ ((goodL (l.zip bs)).length < bs.length ∧ deedC (thingV (a :: l)) = none) := by
  rcases bds_inv hb with ⟨ha, rfl⟩ | ⟨rfl, rfl⟩ | ⟨rfl, rfl⟩
  · rcases l with _ | ⟨z, _ | ⟨y, l⟩⟩
    · cases hl
    · cases hz : goodZ 6 z with
      | true =>
        obtain ⟨d, n, rfl, h0, h9, hd, hw⟩ := (deed_one ha).1 hz
        refine .inl ⟨[n], d, by simp [goodL, hz], rfl, ?_, hd, hw⟩
        intro m hm
        rw [List.mem_singleton.mp hm]
        exact ⟨h0, h9⟩
      | false => exact .inr ⟨by simp [goodL, hz], (deed_one ha).2 hz⟩
    · simp at hl
  · rcases l with _ | ⟨z, _ | ⟨y, _ | ⟨x, l⟩⟩⟩
    · simp at hl
    · simp at hl
    · cases hz : goodZ 6 z with
      | true =>
        cases hy : goodZ 8 y with
        | true =>
          obtain ⟨d, n, m, rfl, h0, h9, rfl, g0, g9, hd, hw⟩ := deed_two.1 hz hy
          refine .inl ⟨[n, m], d, by simp [goodL, hz, hy], rfl, ?_, hd, hw⟩
          intro k hk
          simp only [List.mem_cons, List.not_mem_nil, or_false] at hk
          rcases hk with rfl | rfl
          · exact ⟨h0, h9⟩
          · exact ⟨g0, g9⟩
        | false => exact .inr ⟨by simp [goodL, hz, hy], deed_two.2 (.inr hy)⟩
      | false => exact .inr ⟨by cases hy : goodZ 8 y <;> simp [goodL, hz, hy], deed_two.2 (.inl hz)⟩
    · simp at hl
  · cases l with
    | nil => exact .inl ⟨[], .beat, rfl, rfl, (fun _ h => nomatch h), deed_beat, rfl⟩
    | cons _ _ => cases hl
theorem st_set {S T : Sto} {a b a' d : O} : ((S ++ [a, b] ++ T) ++ [d]).set S.length a' = S ++ [a', b] ++ (T ++ [d]) := by
  rw [List.append_assoc, List.append_assoc, set_new0, List.append_assoc]
  rfl
theorem st_set1 {S T : Sto} {a b b' d : O} : ((S ++ [a, b] ++ T) ++ [d]).set (S.length + 1) b' = S ++ [a, b'] ++ (T ++ [d]) := by
  rw [List.append_assoc, List.append_assoc, set_new, List.append_assoc]
  rfl
theorem most_at (a : Str) : valW (putW (mergeW [] (((["lift", "drop", "dial", "hold", "swap", "take", "join"] : List Str).map Sum.inr).zip [W.lst [W.int 6], W.lst [W.int 6], W.lst [W.int 6, W.int 8], W.lst [W.int 6], W.lst [W.int 6], W.lst [W.int 6], W.lst [W.int 6]])) (Sum.inr ("beat" : Str)) (W.lst [])) (Sum.inr a : Key) = (bdsOf a).map fun bs => W.lst (bs.map W.int) := by
  by_cases h0 : a = "lift"
  · subst h0; rw [show bdsOf "lift" = some [6] by decide +kernel]; kernel_rfl
  by_cases h1 : a = "drop"
  · subst h1; rw [show bdsOf "drop" = some [6] by decide +kernel]; kernel_rfl
  by_cases h2 : a = "dial"
  · subst h2; rw [show bdsOf "dial" = some [6, 8] by decide +kernel]; kernel_rfl
  by_cases h3 : a = "hold"
  · subst h3; rw [show bdsOf "hold" = some [6] by decide +kernel]; kernel_rfl
  by_cases h4 : a = "swap"
  · subst h4; rw [show bdsOf "swap" = some [6] by decide +kernel]; kernel_rfl
  by_cases h5 : a = "take"
  · subst h5; rw [show bdsOf "take" = some [6] by decide +kernel]; kernel_rfl
  by_cases h6 : a = "join"
  · subst h6; rw [show bdsOf "join" = some [6] by decide +kernel]; kernel_rfl
  by_cases h7 : a = "beat"
  · subst h7; rw [show bdsOf "beat" = some [] by decide +kernel]; kernel_rfl
  have hb : bdsOf a = none := by
    unfold bdsOf
    rw [if_neg (by simp only [oneWords, List.mem_cons, List.not_mem_nil, or_false, not_or]; exact ⟨h0, h1, h3, h4, h5, h6⟩), if_neg h2, if_neg h7]
  rw [hb]
  exact (valW_neg fun e => h0 (Sum.inr.inj e).symm).trans <| (valW_neg fun e => h1 (Sum.inr.inj e).symm).trans <| (valW_neg fun e => h2 (Sum.inr.inj e).symm).trans <| (valW_neg fun e => h3 (Sum.inr.inj e).symm).trans <| (valW_neg fun e => h4 (Sum.inr.inj e).symm).trans <| (valW_neg fun e => h5 (Sum.inr.inj e).symm).trans <| (valW_neg fun e => h6 (Sum.inr.inj e).symm).trans <| (valW_neg fun e => h7 (Sum.inr.inj e).symm).trans rfl
theorem bds_len {a : Str} {bs : List Int} (h : bdsOf a = some bs) : bs.length ≤ 2 := by
  unfold bdsOf at h
  split at h
  · cases h; decide
  · split at h
    · cases h; decide
    · split at h
      · cases h; decide
      · cases h
def asp_lread : ASp := fun ws S Φ _ => ∃ x : Str, ws = [.str x] ∧ PyData.strOk x = true ∧ x.length ≤ 3800 ∧ Φ (lreadW (runP (rowsP x) 0 ([], []))) S
section
local macro_rules | `(tactic| specialize "ex") => `(tactic| ((with_reducible show wE _ _ (Expr.Call (Expr.Attribute _ (Str.ofString "split") _) _ _ _) _ _ _); refine xE_split ?_))
local macro_rules | `(tactic| specialize "s3") => `(tactic| ((with_reducible show sStr _ _); refine sStr_i ?_))
local macro_rules | `(tactic| specialize "list") => `(tactic| ((with_reducible show wE _ _ (Expr.List [] _) _ _ _); refine stop_i ?_))
local macro_rules | `(tactic| specialize "st") => `(tactic| ((with_reducible show wS _ _ (Stmt.Assign [Expr.Name (Str.ofString "_law_lines") _] _ _) _ _ _); refine stop_i ?_))
local macro_rules | `(tactic| specialize "st") => `(tactic| ((with_reducible show wS _ _ (Stmt.For _ _ _ _ _) _ _ _); refine stop_i ?_))
local macro_rules | `(tactic| specialize "fun") => `(tactic| ((with_reducible show wE _ _ (Expr.Call (Expr.Name (Str.ofString "_law_wished") _) _ _ _) _ _ _); refine xE_call (cf_wished (by assumption) (by assumption)) (Room.mono (by assumption) (by decide)) ?_))
local macro_rules | `(tactic| specialize "ex") => `(tactic| ((with_reducible show wE _ _ (Expr.Dict (_ :: _) _ _) _ _ _); refine' wE_disp ?k1 rfl ?k2 ?k3 ?_; (case k1 => repeat (first | exact KeysAre.nil | apply KeysAre.cons)); (case k2 => simp); (case k3 => exact Nat.le_of_ble_eq_true rfl)))
local macro_rules | `(tactic| specialize "s3") => `(tactic| ((with_reducible show wVs _ _ _ _ _ _); first | refine wVs_cons ?_ | refine wVs_nil ?_))
local macro_rules | `(tactic| specialize "ex") => `(tactic| ((with_reducible show wE _ _ (Expr.Call (Expr.Attribute _ (Str.ofString "get") _) _ _ _) _ _ _); refine xE_dget2 (Nat.lt_of_le_of_lt (Nat.add_le_add_left (by decide) _) (Room.u65 (by assumption))) ⟨rfl, rfl, rfl, rfl⟩ ?_))
local macro_rules | `(tactic| specialize "cmT") => `(tactic| ((with_reducible show wT _ _ (Expr.Compare (Expr.Name (Str.ofString "_law_deeds") _) [CmpOp.NotEq] [_] _) _ _ _); refine xT_neR (Room.u65 (by assumption)) ?_))
local macro_rules | `(tactic| specialize "s3") => `(tactic| ((with_reducible show sNeR _ _ _ _); refine sNeR_nil (by (specialize "nth")) (deeds_ok _) eqW_nil ?_))
local macro_rules | `(tactic| specialize "ix") => `(tactic| exact atI_nat (j := 0) rfl)
local macro_rules | `(tactic| specialize "fun") => `(tactic| ((with_reducible show wE _ _ (Expr.Call (Expr.Name (Str.ofString "list") _) _ _ _) _ _ _); refine xE_listStr (GL.b_list (by assumption)) ?_))
local macro_rules | `(tactic| specialize "s3") => `(tactic| ((with_reducible show sListS _ _ _); refine sListS_i (by assumption) ?_))
local macro_rules | `(tactic| specialize "slice") => `(tactic| ((with_reducible show wE _ _ (Expr.Subscript (Expr.Constant _ _ _) _ _) _ _ _); refine xE_slS ?_))
local macro_rules | `(tactic| specialize "s3") => `(tactic| ((with_reducible show sSlS _ _ _ _ _); refine sSlS_i (by assumption) ?_))
local macro_rules | `(tactic| specialize "ev") => `(tactic| exact sig_in (by assumption))
local macro_rules | `(tactic| specialize "fun") => `(tactic| ((with_reducible show wE _ _ (Expr.Call (Expr.Name (Str.ofString "int") _) [Expr.Name (Str.ofString "_law_word_here") _] _ _) _ _ _); refine xE_intS (GL.b_int (by assumption)) ?_))
local macro_rules | `(tactic| specialize "s3") => `(tactic| ((with_reducible show sIntOf _ _ _); refine sIntOf_i (by assumption) (by assumption) ?_))
local macro_rules | `(tactic| specialize "plus") => `(tactic| ((with_reducible show wE _ _ (Expr.BinOp (Expr.Tuple _ _ _) _ _ _) _ _ _); refine xE_catT ?_))
local macro_rules | `(tactic| specialize "s0") => `(tactic| ((with_reducible show sLc _ _ _ _ _ _ _ _ _ _); refine stop_i ?_))
local macro_rules | `(tactic| specialize "st") => `(tactic| ((with_reducible show wS _ _ (Stmt.Assign [Expr.Name (Str.ofString "_law_good") _] _ _) _ _ _); refine stop_i ?_))
local macro_rules | `(tactic| specialize "slice") => `(tactic| ((with_reducible show wE _ _ (Expr.Subscript (Expr.Name (Str.ofString "_law_words") _) _ _) _ _ _); refine xE_slL ?_))
local macro_rules | `(tactic| specialize "s2") => `(tactic| ((with_reducible show sCut _ _ _ _ _); refine sCut_l ?_; rw [cut_1]))
theorem cf_lread (G : GL mg) (D : DS K mg) : CFn P w K mg base "_law_read" 3 1 asp_lread := by
  refine D.d_law_read.fn sc_law_read fun f cdv A outer s H E hr ws S Φ Ψ hl hS ha => ?_
  obtain ⟨x, rfl, hok, hlx, h⟩ := ha
  specialize "go"
  unfold Stop
  refine xE_lstN ?_
  specialize "go"
  unfold Stop
  refine xE_lstN ?_
  specialize "go"
  unfold Stop
  refine wS_cut (fun E1 S1 => S1 = S ++ [.lst [], .lst []] ∧ E1 = [some (.str x), some (.ref S.length), some (.ref (S.length + 1)), some (.lst ((linesP x).map W.str)), none, none, none, none, none, none, none, none]) ?_ ?_
  · refine' xS_set ?k1 (of_decide_eq_true (by kernel_rfl)) ?_
    (case k1 => specialize "idx")
    refine wE.imp (Φ := fun w S2 => w = .lst ((linesP x).map W.str) ∧ S2 = S ++ [.lst [], .lst []]) ?_ (fun w S2 ⟨e1, e2⟩ => by subst e1; subst e2; refine ⟨rfl, ?_⟩; simp; rfl)
    by_cases hn : x = ""
    · have he : decide (x = "") = true := decide_eq_true hn
      specialize "go"
      unfold Stop
      refine xE_lst ?_
      specialize "go"
      refine ⟨?_, by simp⟩
      unfold linesP
      rw [if_pos hn]
      rfl
    · have he : decide (x = "") = false := decide_eq_false hn
      specialize "go"
      refine sSplit_i (by decide +kernel) (by rw [sizeLine_eq]; omega) ?_
      refine ⟨?_, by simp⟩
      unfold linesP
      rw [if_neg hn]
  · rintro E1 S1 ⟨rfl, rfl⟩
    specialize "go"
    unfold Stop
    have hll : (linesP x).length ≤ 3802 := by
      unfold linesP
      split
      · exact Nat.zero_le _
      · have := split_le x "\n"
        omega
    have hll2 : ((linesP x).map W.str).length ≤ 3802 := by rw [List.length_map]; exact hll
    refine wS_for (passes_of rfl) rfl ?_
    specialize "go"
    refine ⟨fun i E' S' => i ≤ (linesP x).length ∧ ∃ (st : RSt) (T : Sto), ROk st ∧ i = st.1.length + st.2.length ∧ runP (rowsP x) 0 ([], []) = runP ((rowsP x).drop i) i st ∧ S' = S ++ [.lst (st.1.map Wish.w), .lst (st.2.map Deed.w)] ++ T ∧ ∃ b4 b5 b6 b7 b8 b9 b10 b11, E' = [some (.str x), some (.ref S.length), some (.ref (S.length + 1)), some (.lst ((linesP x).map W.str)), b4, b5, b6, b7, b8, b9, b10, b11], ⟨Nat.zero_le _, ([], []), [], ROk.nil, rfl, rfl, by simp, _, _, _, _, _, _, _, _, rfl⟩, fun _ _ _ _ => trivial, ?_, ?_⟩
    · rintro i w E' S' hw ⟨hi, st, T, rok, hsum, hrun, rfl, b4, b5, b6, b7, b8, b9, b10, b11, rfl⟩
      have hil : i < (linesP x).length := by
        have := (List.getElem?_eq_some_iff.mp hw).1
        rw [range_len, List.length_map] at this
        omega
      have ew : w = .int (0 + (i : Int)) := by
        rw [range_get (by rw [List.length_map]; omega)] at hw
        exact (Option.some.inj hw).symm
      subst ew
      rw [Int.zero_add]
      obtain ⟨r, hr'⟩ : ∃ r, (linesP x)[i]? = some r := ⟨_, List.getElem?_eq_getElem hil⟩
      have hrm := List.mem_of_getElem? hr'
      have hxn : x ≠ "" := by
        intro e
        unfold linesP at hrm
        rw [if_pos e] at hrm
        cases hrm
      have hrm2 : r ∈ Txt.split x "\n" := by unfold linesP at hrm; rw [if_neg hxn] at hrm; exact hrm
      have hrl := part_short hrm2
      have hro := part_ok hrm2 hok
      have hrw : (rowsP x)[i]? = some (Txt.split r " ") := by rw [rowsP_lines, List.getElem?_map, hr']; rfl
      have hwl := split_le r " "
      have hwo : ∀ z ∈ Txt.split r " ", PyData.strOk z = true := fun z hz => part_ok hz hro
      have hpos := split_pos r " "
      obtain ⟨xs, ds⟩ := st
      have hgd : (linesP x).getD ((i : Int)).toNat default = r := by rw [Int.toNat_natCast, List.getD_eq_getElem?_getD, hr']; rfl
      specialize "go"
      rw [hgd]
      refine sSplit_i (by decide +kernel) (by rw [sizeLine_eq]; omega) ?_
      cases hsp : Txt.split r " " with
      | nil => rw [hsp] at hpos; cases hpos
      | cons a l =>
      rw [hsp] at hrw hwl hwo
      have hao := hwo a List.mem_cons_self
      have hwl' : l.length + 1 ≤ 3802 := by simp only [List.length_cons] at hwl; omega
      have hl1 := rok.l1
      have hl2 := rok.l2
      simp only at hl1 hl2 hsum
      have hx1 : (xs.map Wish.w).length ≤ 24 := by rw [List.length_map]; omega
      have hx2 : (ds.map Deed.w).length ≤ 200 := by rw [List.length_map]; omega
      simp only [List.map_cons]
      specialize "go"
      unfold Stop
      refine xE_lst ?_
      specialize "go"
      rw [set_new0, List.set_cons_zero]
      specialize "go"
      by_cases hw : a = "wish"
      · refine sIte_t (decide_eq_true hw) ?_
        specialize "go"
        unfold Stop
        refine xE_lst ?_
        specialize "go"
        subst hw
        by_cases hc : ds = [] ∧ 1 < (("wish" : Str) :: l).length ∧ xs.length < 24
        · have est : stepP (xs, ds) ("wish" :: l) = (match wishC (thingV l) with
            | some y => (open Classical in if y.key ∈ xs.map Wish.key then none else some (xs ++ [y], ds))
            | none => none) := by unfold stepP; rw [if_pos ⟨rfl, hc⟩]; rfl
          obtain ⟨rfl, hc3, hc4⟩ := hc
          have hlne : l ≠ [] := by
            intro e
            rw [e] at hc3
            exact absurd hc3 (by decide)
          refine sIte_f (by
            rw [Bool.or_eq_false_iff, Bool.or_eq_false_iff, decide_eq_false_iff_not, decide_eq_false_iff_not]
            refine ⟨rfl, ?_, ?_⟩
            · rw [List.length_map]; omega
            · simp only [List.length_cons, List.length_map] at hc3 ⊢; omega) ?_
          specialize "go"
          refine ⟨l, xs, S.length, rfl, by (specialize "nth"), hlne, fun z hz => hwo z (List.mem_cons_of_mem _ hz), by omega, hl1, rok.ok1, ?_⟩
          cases hwc : wishC (thingV l) with
          | none =>
            have e0 : stepP (xs, []) ("wish" :: l) = none := by rw [est, hwc]
            have e1 : wishedW l xs = .non := by unfold wishedW; rw [hwc]
            rw [e1]
            have hstop := hrun.trans (run_stop hrw e0)
            rw [hstop] at h
            specialize "go"
            rw [List.append_assoc, List.append_assoc]
            exact fin.drop (Nat.le_refl _) hS (.tup (.cons (.int _) (.cons .non .nil))) h
          | some y =>
            by_cases hk : y.key ∈ xs.map Wish.key
            · have e0 : stepP (xs, []) ("wish" :: l) = none := by rw [est, hwc]; exact if_pos hk
              have e1 : wishedW l xs = .non := by unfold wishedW; rw [hwc]; exact if_pos hk
              rw [e1]
              have hstop := hrun.trans (run_stop hrw e0)
              rw [hstop] at h
              specialize "go"
              rw [List.append_assoc, List.append_assoc]
              exact fin.drop (Nat.le_refl _) hS (.tup (.cons (.int _) (.cons .non .nil))) h
            · have e0 : stepP (xs, []) ("wish" :: l) = some (xs ++ [y], []) := by rw [est, hwc]; exact if_neg hk
              have e1 : wishedW l xs = y.w := by unfold wishedW; rw [hwc]; exact if_neg hk
              rw [e1]
              have hgo := hrun.trans (run_drop hrw e0)
              specialize "go"
              refine sNon_i (k := false) (by cases y <;> rfl) ?_
              specialize "go"
              rw [st_set]
              dsimp only
              refine dropTo.as ?_
              exact ⟨hil, (xs ++ [y], []), _, rok.step e0, by simp only [List.length_append, List.length_singleton, List.length_nil] at hsum ⊢; omega, hgo, by rw [List.map_append]; rfl, _, _, _, _, _, _, _, _, rfl⟩
        · have e0 : stepP (xs, ds) ("wish" :: l) = none := by
            unfold stepP
            rw [if_neg fun z => hc z.2, deed_none (a := "wish") (by decide +kernel)]
          have hstop := hrun.trans (run_stop hrw e0)
          rw [hstop] at h
          refine sIte_t (by
            cases hb : (!(ds.map Deed.w).isEmpty || (decide (((xs.map Wish.w).length : Int) = 24) || decide (((W.str ("wish" : Str) :: l.map W.str).length : Int) < 2))) with
            | true => rfl
            | false =>
              exfalso
              rw [Bool.or_eq_false_iff, Bool.or_eq_false_iff, decide_eq_false_iff_not, decide_eq_false_iff_not, Bool.not_eq_false', List.isEmpty_iff, List.map_eq_nil_iff, List.length_map, List.length_cons, List.length_map] at hb
              refine hc ⟨hb.1, ?_, ?_⟩
              · have := hb.2.2
                simp only [List.length_cons]
                omega
              · have := hb.2.1
                omega) ?_
          specialize "go"
          rw [List.append_assoc, List.append_assoc]
          exact fin.drop (Nat.le_refl _) hS (.tup (.cons (.int _) (.cons .non .nil))) h
      · refine sIte_f (decide_eq_false hw) ?_
        have est : stepP (xs, ds) (a :: l) = (match deedC (thingV (a :: l)) with
          | some d => if ds.length = 200 then none else some (xs, ds ++ [d])
          | none => none) := by
          unfold stepP
          rw [if_neg fun z => hw (by injection z.1)] <;> rfl
        have hst : deedC (thingV (a :: l)) = none ∨ ds.length = 200 → Φ (.tup [.int i, .non]) S := fun z => by
          have e0 : stepP (xs, ds) (a :: l) = none := by
            rw [est]
            cases q : deedC (thingV (a :: l)) with
            | none => rfl
            | some d =>
              rcases z with z | z
              · rw [q] at z; cases z
              · exact if_pos z
          have hstop := hrun.trans (run_stop hrw e0)
          rw [hstop] at h
          exact h
        specialize "go"
        refine ⟨⟨_, rfl, .inl ⟨_, List.getElem?_concat_length⟩⟩, ?_⟩
        specialize "go"
        cases hb : bdsOf a with
        | none =>
          refine sGet2_n ((dget_k List.getElem?_concat_length rfl).trans (congrArg some ((most_at a).trans (by rw [hb]; rfl)))) ?_
          have h := hst (.inl (deed_none hb))
          specialize "go"
          rw [List.append_assoc, List.append_assoc]
          exact fin.drop (Nat.le_refl _) hS (.tup (.cons (.int _) (.cons .non .nil))) h
        | some bs =>
          refine sGet2_s (v := .lst (bs.map W.int)) ((dget_k List.getElem?_concat_length rfl).trans (congrArg some ((most_at a).trans (by rw [hb]; rfl)))) ?_
          have hbl := bds_len hb
          have hbl2 : (bs.map W.int).length ≤ 2 := by rw [List.length_map]; exact hbl
          specialize "go"
          cases hq : (!decide (((bs.map W.int).length : Int) = ((W.str a :: l.map W.str).length : Int) - 1) || decide (((ds.map Deed.w).length : Int) = 200)) with
          | true =>
            have hq' := hq
            rw [Bool.or_eq_true, Bool.not_eq_true', decide_eq_false_iff_not, decide_eq_true_eq, List.length_map, List.length_map, List.length_cons, List.length_map] at hq
            have h := hst (hq.elim (fun z => .inl (deed_len hb (by omega))) fun z => .inr (by omega))
            refine sIte_t (by first | rfl | exact hq') ?_
            specialize "go"
            rw [List.append_assoc, List.append_assoc]
            exact fin.drop (Nat.le_refl _) hS (.tup (.cons (.int _) (.cons .non .nil))) h
          | false =>
            refine sIte_f (by first | rfl | exact hq) ?_
            rw [Bool.or_eq_false_iff, Bool.not_eq_false', decide_eq_true_eq, decide_eq_false_iff_not, List.length_map, List.length_map, List.length_cons, List.length_map] at hq
            have hbl3 : bs.length = l.length := by omega
            have hds : ds.length ≠ 200 := by omega
            have hb68 := bds_68 hb
            specialize "go"
            unfold Stop
            refine wS_setLc2 9 10 11 (by decide) (.one _) rfl (of_decide_eq_true (by kernel_rfl)) (blkOk_by (by kernel_rfl)) ?_ ?_ (by rfl)
            · refine xI_zip (GL.b_zip (by assumption)) ?_
              specialize "go"
              refine sZip_i ?_
              rw [zip_p]
              refine ⟨fun i acc S' => acc = goodL ((l.zip bs).take i) ∧ S' = S ++ [O.lst (List.map Wish.w xs), O.lst (List.map Deed.w ds)] ++ T ++ [O.dk _], ⟨rfl, rfl⟩, ?_, ?_, ?_⟩
              · rintro i acc S' ⟨rfl, rfl⟩
                exact ⟨trivial, Nat.le_trans goodL_len (by rw [List.length_take, List.length_zip]; omega)⟩
              · rintro i w acc S' hw2 ⟨rfl, rfl⟩
                obtain ⟨p, hp, rfl⟩ := map_inv hw2
                have hpm := List.mem_of_getElem? hp
                obtain ⟨z, b⟩ := p
                have hzl := (List.of_mem_zip hpm).1
                have hbb := hb68 b (List.of_mem_zip hpm).2
                have hzo := hwo z (List.mem_cons_of_mem _ hzl)
                refine ⟨.str z, .int b, rfl, ?_⟩
                have hsig := sig_in (z := z) hbb
                have hsok := sig_ok hbb
                have hslen : ("01234567" : Str).length ≤ sizeLine := by decide +kernel
                have hslen2 : (cutS "01234567" none (some b)).length ≤ sizeLine := by rcases hbb with rfl | rfl <;> decide +kernel
                intro s1 H1 C1 cl1 fp1
                specialize "go"
                cases hg : goodZ b z with
                | true =>
                  rw [if_pos (by rfl)]
                  intro s2 H2 C2 cl2 fp2
                  specialize "go"
                  exact ⟨goodL_yes hp hg, rfl⟩
                | false =>
                  rw [if_neg (by decide)]
                  exact ⟨goodL_no hp hg, rfl⟩
              · rintro acc S' ⟨rfl, rfl⟩
                rw [show (List.take ((l.zip bs).map fun p => W.tup [.str p.1, .int p.2]).length (l.zip bs)) = l.zip bs by rw [List.length_map, List.take_length]]
                specialize "go"
                rcases good_or hb hbl3 with ⟨ns, d, hg, hnl, hns, hd, hdw⟩ | ⟨hg, hd⟩
                · rw [hg]
                  refine sIte_f (decide_eq_false (by rw [List.length_map, List.length_map]; omega)) ?_
                  have e0 : stepP (xs, ds) (a :: l) = some (xs, ds ++ [d]) := by rw [est, hd]; exact if_neg hds
                  have hgo := hrun.trans (run_drop hrw e0)
                  have hnl2 : ns.length ≤ 2 := by omega
                  specialize "go"
                  unfold Stop
                  refine sLc_i (xs := ns) (enc := fun i => W.str (dg i)) (p := fun _ => true) (g := W.int) trivial (by omega) (fun n hn => ?_) ?_
                  · have hd := digit (hns n hn).1 (hns n hn).2
                    have hd2 := hd.2
                    have hdl : (dg n).length ≤ 640 := by rw [hd.1]; exact (show 1 ≤ 640 by decide)
                    specialize "go"
                  rw [List.filter_eq_self.mpr fun _ _ => rfl]
                  specialize "go"
                  refine sCatT_i (by simp only [List.length_cons, List.length_nil, List.length_map]; omega) ?_
                  rw [show [W.str a] ++ ns.map W.int = W.str a :: ns.map W.int from rfl, ← hdw]
                  specialize "go"
                  rw [st_set1]
                  dsimp only
                  refine dropTo.as ?_
                  exact ⟨hil, (xs, ds ++ [d]), _, rok.step e0, by simp only [List.length_append, List.length_singleton] at hsum ⊢; omega, hgo, by rw [List.map_append]; rfl, _, _, _, _, _, _, _, _, rfl⟩
                · refine sIte_t (decide_eq_true (by rw [List.length_map]; omega)) ?_
                  have h := hst (.inl hd)
                  specialize "go"
                  rw [List.append_assoc, List.append_assoc]
                  exact fin.drop (Nat.le_refl _) hS (.tup (.cons (.int _) (.cons .non .nil))) h
            · intro s1 H1 C1 cl1 fp1
              exact pg_tup rfl (pgs_cons (pg_name (of_decide_eq_true (by kernel_rfl)) rfl (by first | exact Or.inl rfl | exact Or.inr rfl)) (pgs_cons (pg_name (of_decide_eq_true (by kernel_rfl)) rfl (by first | exact Or.inl rfl | exact Or.inr rfl)) pgs_nil))
    · rintro E' S' ⟨hi, st, T, rok, hsum, hrun, rfl, b4, b5, b6, b7, b8, b9, b10, b11, rfl⟩
      rw [range_len] at hrun
      have hend : runP (rowsP x) 0 ([], []) = .inr st := by
        rw [hrun, List.drop_eq_nil_of_le (by rw [rowsP_lines, List.length_map, List.length_map]; omega)]
        rfl
      rw [hend] at h
      specialize "go"
      rw [List.append_assoc]
      refine fin.drop (Nat.le_refl _) hS (.tup (.cons .non (.cons (.tup (.cons (.new (Nat.le_refl _) ?_ fzs_wishes) (.cons (.new (Nat.le_succ _) ?_ fzs_deedsR) .nil))) .nil))) h
      · simp
      · simp
end
end

end
section
-- A5
section
variable {P : Program} {w : World} {K : PySem.W.Frag} {mg : Str → Option Value} {base : Heap}
/-- the same told data; a list that was found may be one of the store -/
def TR (S : Sto) : Nat → W → W → Prop
  | _, .int i, .int j => i = j
  | _, .str x, .str y => x = y ∧ PyData.strOk x = true
  | n + 1, .tup vs, .tup us => vs.length = us.length ∧ us.length ≤ 100000 ∧ ∀ k, k < us.length → TR S n (vs.getD k .non) (us.getD k .non)
  | n + 1, .lst vs, .lst us => vs.length = us.length ∧ us.length ≤ 100000 ∧ ∀ k, k < us.length → TR S n (vs.getD k .non) (us.getD k .non)
  | n + 1, .ref j, .lst us => ∃ vs, S[j]? = some (.lst vs) ∧ vs.length = us.length ∧ us.length ≤ 100000 ∧ ∀ k, k < us.length → TR S n (vs.getD k .non) (us.getD k .non)
  | _, _, _ => False
theorem at_self {vs : List W} {i : Int} (h0 : 0 ≤ i) (h1 : i < vs.length) : atI vs i = some (vs.getD i.toNat .non) := by
  unfold atI ixN
  rw [if_pos h0, if_pos h1]
  show vs[i.toNat]? = _
  have hl : i.toNat < vs.length := by omega
  rw [List.getElem?_eq_getElem hl, List.getD_eq_getElem?_getD, List.getElem?_eq_getElem hl]
  rfl
def asp_alike (n : Nat) : ASp := fun ws S Φ _ => ∃ v u, ws = [v, u] ∧ TR S n v u ∧ Φ (.bl true) S
section
local macro_rules | `(tactic| specialize "fun") => `(tactic| ((with_reducible show wE _ _ (Expr.Call (Expr.Name (Str.ofString "isinstance") _) [_, Expr.Tuple [Expr.Name _ _, Expr.Name _ _] _ _] _ _) _ _ _); refine wE_isi2 .tup .lst (GL.b_isinstance (by assumption)) (GL.b_tuple (by assumption)) PyProof.Rows.boot_tuple (GL.b_list (by assumption)) boot_list ?_))
local macro_rules | `(tactic| specialize "s3") => `(tactic| ((with_reducible show ∃ _, tyW _ _ = some _ ∧ _); first | refine ⟨_, rfl, ?_⟩ | refine ⟨_, (by assumption), ?_⟩))
local macro_rules | `(tactic| specialize "s0") => `(tactic| ((with_reducible show sLc _ _ _ _ _ _ _ _ _ _); refine stop_i ?_))
local macro_rules | `(tactic| specialize "fun") => `(tactic| ((with_reducible show wE _ _ (Expr.Call (Expr.Name (Str.ofString "_law_alike") _) _ _ _) _ _ _); refine xE_call (by assumption) (Room.mono (by assumption) (by omega)) ?_))
local macro_rules | `(tactic| specialize "ix") => `(tactic| exact at_self (by (specialize "rng")) (by (specialize "rng")))
theorem cf_law_alike (G : GL mg) (D : DS K mg) : ∀ n, CFn P w K mg base "_law_alike" (n + 1) 2 (asp_alike n) := by
  intro n
  induction n with
  | zero =>
    refine D.d_law_alike.fn sc_law_alike fun f cdv A outer s H E hr ws S Φ Ψ hl hS ha => ?_
    obtain ⟨v, u, rfl, hv, h⟩ := ha
    cases v with
    | int i =>
      cases u with
      | int j =>
        obtain rfl : i = j := hv
        specialize "go"
        exact fin.eq h (by simp)
      | _ => exact hv.elim
    | str x =>
      cases u with
      | str y =>
        obtain ⟨rfl, hx⟩ := hv
        specialize "go"
        exact fin.eq h (by simp)
      | _ => exact hv.elim
    | _ => cases u <;> exact hv.elim
  | succ n ih =>
    refine D.d_law_alike.fn sc_law_alike fun f cdv A outer s H E hr ws S Φ Ψ hl hS ha => ?_
    obtain ⟨v, u, rfl, hv, h⟩ := ha
    cases v with
    | int i =>
      cases u with
      | int j =>
        obtain rfl : i = j := hv
        specialize "go"
        exact fin.eq h (by simp)
      | _ => exact hv.elim
    | str x =>
      cases u with
      | str y =>
        obtain ⟨rfl, hx⟩ := hv
        specialize "go"
        exact fin.eq h (by simp)
      | _ => exact hv.elim
    | tup vs =>
      cases u with
      | tup us =>
        obtain ⟨hle, hl1, hv⟩ := hv
        specialize "go"
        unfold Stop
        refine sLc_i (p := fun _ => false) (g := fun x => W.int (0 + ((x : Nat) : Int))) trivial (by simp; omega) (fun x hx => ?_) ?_
        · have hx2 : x < us.length := by simpa using hx
          refine TurnP.one_i ?_ ?_
          · intro s1 H0 C cl fp
            specialize "go"
            refine ⟨_, _, rfl, by simpa using hv x hx2, ?_⟩
            specialize "go"
          · intro hp
            cases hp
        · rw [List.filter_eq_nil_iff.mpr (fun _ _ => Bool.false_ne_true)]
          specialize "go"
          exact fin.as h
      | _ => exact hv.elim
    | lst vs =>
      cases u with
      | lst us =>
        obtain ⟨hle, hl1, hv⟩ := hv
        specialize "go"
        unfold Stop
        refine sLc_i (p := fun _ => false) (g := fun x => W.int (0 + ((x : Nat) : Int))) trivial (by simp; omega) (fun x hx => ?_) ?_
        · have hx2 : x < us.length := by simpa using hx
          refine TurnP.one_i ?_ ?_
          · intro s1 H0 C cl fp
            specialize "go"
            refine ⟨_, _, rfl, by simpa using hv x hx2, ?_⟩
            specialize "go"
          · intro hp
            cases hp
        · rw [List.filter_eq_nil_iff.mpr (fun _ _ => Bool.false_ne_true)]
          specialize "go"
          exact fin.as h
      | _ => exact hv.elim
    | ref kk =>
      cases u with
      | lst us =>
        obtain ⟨vs, hkk, hle, hl1, hv⟩ := hv
        have hty : tyW S (.ref kk) = some .lst := by
          show (match S[kk]? with | some (.lst _) => some Ty.lst | some (.dk _) => some .dict | some (.dt _) => some .dict | _ => none) = some Ty.lst
          rw [hkk]
        specialize "go"
        unfold Stop
        refine sLc_i (p := fun _ => false) (g := fun x => W.int (0 + ((x : Nat) : Int))) trivial (by simp; omega) (fun x hx => ?_) ?_
        · have hx2 : x < us.length := by simpa using hx
          refine TurnP.one_i ?_ ?_
          · intro s1 H0 C cl fp
            specialize "go"
            refine ⟨_, _, rfl, by simpa using hv x hx2, ?_⟩
            specialize "go"
          · intro hp
            cases hp
        · rw [List.filter_eq_nil_iff.mpr (fun _ _ => Bool.false_ne_true)]
          specialize "go"
          exact fin.as h
      | _ => exact hv.elim
    | _ => cases u <;> exact hv.elim
end
end

end
section
-- M18a
section
open TL
variable {P : Program} {w : World} {K : PySem.W.Frag} {mg : Str → Option Value} {base : Heap}
/-- told data is like itself -/
theorem TR_ints {S : Sto} {n : Nat} {l : List Int} (_ : l.length ≤ 100000) : ∀ k, k < (intsW l).length → TR S n ((intsW l).getD k .non) ((intsW l).getD k .non) := by
  intro k hk
  rw [List.getD_eq_getElem?_getD, List.getElem?_eq_getElem hk]
  simp only [intsW, List.getElem_map, Option.getD_some]
  cases n <;> exact rfl
theorem TR_wish {S : Sto} {x : Wish} (h : x.ok) : TR S 2 x.w x.w := by
  have hw : ∀ s : Str, PyData.strOk s = true → ∀ n, TR S n (.str s) (.str s) := fun s hs n => by cases n <;> exact ⟨rfl, hs⟩
  have hi : ∀ (i : Int) n, TR S n (.int i) (.int i) := fun i n => by cases n <;> exact rfl
  cases x with
  | group g ms =>
    obtain ⟨_, _, _, h4, _, _⟩ := h
    refine ⟨rfl, by show 3 ≤ 100000; decide, fun k hk => ?_⟩
    have hk : k < 3 := hk
    match k, hk with
    | 0, _ => exact hw "group" (by decide +kernel) 1
    | 1, _ => exact hi g 1
    | 2, _ => exact ⟨rfl, by rw [len_ints]; omega, TR_ints (by omega)⟩
  | all p g =>
    refine ⟨rfl, by show 3 ≤ 100000; decide, fun k hk => ?_⟩
    have hk : k < 3 := hk
    match k, hk with
    | 0, _ => exact hw "all" (by decide +kernel) 1
    | 1, _ => exact hi p 1
    | 2, _ => exact hi g 1
  | busy p g =>
    refine ⟨rfl, by show 3 ≤ 100000; decide, fun k hk => ?_⟩
    have hk : k < 3 := hk
    match k, hk with
    | 0, _ => exact hw "busy" (by decide +kernel) 1
    | 1, _ => exact hi p 1
    | 2, _ => exact hi g 1
  | late p g t =>
    refine ⟨rfl, by show 4 ≤ 100000; decide, fun k hk => ?_⟩
    have hk : k < 4 := hk
    match k, hk with
    | 0, _ => exact hw "late" (by decide +kernel) 1
    | 1, _ => exact hi p 1
    | 2, _ => exact hi g 1
    | 3, _ => exact hi t 1
  | wait p =>
    refine ⟨rfl, by show 2 ≤ 100000; decide, fun k hk => ?_⟩
    have hk : k < 2 := hk
    match k, hk with
    | 0, _ => exact hw "wait" (by decide +kernel) 1
    | 1, _ => exact hi p 1
  | still p =>
    refine ⟨rfl, by show 2 ≤ 100000; decide, fun k hk => ?_⟩
    have hk : k < 2 := hk
    match k, hk with
    | 0, _ => exact hw "still" (by decide +kernel) 1
    | 1, _ => exact hi p 1
  | bar p o =>
    refine ⟨rfl, by show 3 ≤ 100000; decide, fun k hk => ?_⟩
    have hk : k < 3 := hk
    match k, hk with
    | 0, _ => exact hw "bar" (by decide +kernel) 1
    | 1, _ => exact hi p 1
    | 2, _ => exact hi o 1
theorem TR_deed {S : Sto} {d : Deed} : TR S 2 d.w d.w := by
  have hw : PyData.strOk d.word = true := by cases d <;> (simp only [Deed.word]; decide +kernel)
  have hl : d.nums.length ≤ 2 := by cases d <;> simp [Deed.nums]
  refine ⟨rfl, by rw [List.length_cons, len_ints]; omega, fun k hk => ?_⟩
  cases k with
  | zero => exact ⟨rfl, hw⟩
  | succ k => exact TR_ints (by omega) k (by simpa using hk)
theorem TR_list {S : Sto} {α : Type} {f : α → W} {l : List α} (h : ∀ x ∈ l, TR S 2 (f x) (f x)) : ∀ k, k < (l.map f).length → TR S 2 ((l.map f).getD k .non) ((l.map f).getD k .non) := by
  intro k hk
  rw [List.getD_eq_getElem?_getD, List.getElem?_eq_getElem hk, List.getElem_map]
  exact h _ (List.getElem_mem _)
theorem TR_found {S : Sto} {a b : Nat} {xs : List Wish} {ds : List Deed} (h1 : S[a]? = some (.lst (xs.map Wish.w))) (h2 : S[b]? = some (.lst (ds.map Deed.w))) (hx : ∀ x ∈ xs, x.ok) (l1 : xs.length ≤ 24) (l2 : ds.length ≤ 200) : TR S 4 (.tup [.ref a, .ref b]) (.tup [.lst (xs.map Wish.w), .lst (ds.map Deed.w)]) := by
  refine ⟨rfl, by show 2 ≤ 100000; decide, fun k hk => ?_⟩
  have hk : k < 2 := hk
  match k, hk with
  | 0, _ => exact ⟨_, h1, rfl, by rw [List.length_map]; omega, TR_list fun x hx' => TR_wish (hx x hx')⟩
  | 1, _ => exact ⟨_, h2, rfl, by rw [List.length_map]; omega, TR_list fun x hx' => TR_deed⟩
end

end
section
-- L1K
section
variable {P : Program} {w : World} {K : PySem.W.Frag} {mg : Str → Option Value} {base : Heap} 
section
local macro_rules | `(tactic| specialize "st") => `(tactic| ((with_reducible show wS _ _ (Stmt.Assign [Expr.Subscript _ _ _] _ _) _ _ _); refine wS_asg ?_))
local macro_rules | `(tactic| specialize "gg") => `(tactic| ((with_reducible show wG _ _ (Expr.Subscript _ _ _) _ _ _ _); refine xG_lset ?_))
local macro_rules | `(tactic| specialize "times") => `(tactic| refine xE_mulI ?_)
local macro_rules | `(tactic| specialize "su") => `(tactic| ((with_reducible show wE _ _ (Expr.Subscript (Expr.Subscript _ _ _) _ _) _ _ _); refine xE_ixScr ?_))
theorem cf_law_taken (G : GL mg) (D : DS K mg) : CFn P w K mg base "_law_taken" 1 2 (asp_taken K) := by
  refine D.d_law_taken.fn sc_law_taken fun f cdv A outer s H E hr ws S Φ Ψ hl hS ha => ?_
  obtain ⟨r, m, rfl, hr0, hm, hmx, h⟩ := ha
  refine wB_row hr0 fun ns i z ⟨g1, g2, g3, g4⟩ => ?_
  have hr1 : (S.set r (rowL K ns i z))[r]? = some (.lst [.scr K ns, .int i, .int z]) := get_set_self hr0
  have fold : ∀ v i' z', 0 ≤ v → v < m → 0 ≤ i' → 0 ≤ z' → z' < 2147483647 → fin S.length Φ (.int v) (S.set r (.lst [.scr K ns, .int i', .int z'])) := by
    intro v i' z' h1 h2 h3 h4 h5
    have hq : (S.set r (.lst [.scr K ns, .int i', .int z']))[r]? = some (rowL K ns i' z') := get_set_self hr0
    refine fin.less (imp_fold hq ⟨g1, h3, h4, h5⟩) (fin.as ?_)
    rw [List.set_set, set_same hr0]
    exact h v h1 h2
  specialize "go"
  refine sIte_s (fun e => ?_) (fun e => ?_)
  · specialize "go"
    dsimp only
    rw [List.set_set, List.set_set]
    have hz0 : 0 ≤ (z * 48271 + 11) % 2147483647 := Int.emod_nonneg _ (by decide)
    have hz1 : (z * 48271 + 11) % 2147483647 < 2147483647 := Int.emod_lt_of_pos _ (by decide)
    exact fold _ _ _ (Int.emod_nonneg _ (by omega)) (Int.emod_lt_of_pos _ hm) (by omega) hz0 hz1
  · have e := of_decide_eq_false e
    obtain ⟨x, hx⟩ := atI_scr (ns := ns) (i := i + 1 - 1) (by omega) (by omega)
    specialize "go"
    refine sIxScr_i hx ?_
    specialize "go"
    dsimp only
    rw [List.set_set, List.set_set]
    have hz0 : 0 ≤ (z * 48271 + x + 11) % 2147483647 := Int.emod_nonneg _ (by decide)
    have hz1 : (z * 48271 + x + 11) % 2147483647 < 2147483647 := Int.emod_lt_of_pos _ (by decide)
    exact fold _ _ _ (Int.emod_nonneg _ (by omega)) (Int.emod_lt_of_pos _ hm) (by omega) hz0 hz1
end
local macro_rules | `(tactic| specialize "fun") => `(tactic| ((with_reducible show wE _ _ (Expr.Call (Expr.Name (Str.ofString "_law_taken") _) _ _ _) _ _ _); refine xE_call (cf_law_taken (by assumption) (by assumption)) (Room.mono (by assumption) (by decide)) ?_))
local macro_rules | `(tactic| specialize "s3") => `(tactic| ((with_reducible show asp_taken _ _ _ _ _); refine ⟨_, _, rfl, (by specialize "nth"), (by first | decide | omega), (by first | decide | omega), ?_⟩))
/-- a goal of a phone: a number, not itself -/
def asp_law_goal (K : PySem.W.Frag) : ASp := fun ws S Φ _ => ∃ r p, ws = [.ref r, .int p] ∧ S[r]? = some (.row K) ∧ 0 ≤ p ∧ p ≤ 5 ∧ ∀ g : Int, 0 ≤ g → g ≤ 7 → g ≠ p → Φ (.int g) S
theorem cf_law_goal (G : GL mg) (D : DS K mg) : CFn P w K mg base "_law_goal" 2 2 (asp_law_goal K) := by
  refine D.d_law_goal.fn sc_law_goal fun f cdv A outer s H E hr ws S Φ Ψ hl hS ha => ?_
  obtain ⟨r, p, rfl, hr0, hp0, hp5, h⟩ := ha
  specialize "go"
  intro v hv0 hv1
  specialize "go"
  refine fin.as (h _ ?_ ?_ ?_)
  all_goals
    by_cases q : p ≤ v
    · simp [q]; omega
    · simp [q]; omega
local macro_rules | `(tactic| specialize "fun") => `(tactic| ((with_reducible show wE _ _ (Expr.Call (Expr.Name (Str.ofString "_law_goal") _) _ _ _) _ _ _); refine xE_call (cf_law_goal (by assumption) (by assumption)) (Room.mono (by assumption) (by decide)) ?_))
local macro_rules | `(tactic| specialize "s3") => `(tactic| ((with_reducible show asp_law_goal _ _ _ _ _); refine ⟨_, _, rfl, (by specialize "nth"), (by omega), (by omega), ?_⟩))
/-- any wish -/
def asp_law_wish (K : PySem.W.Frag) : ASp := fun ws S Φ _ => ∃ r, ws = [.ref r] ∧ S[r]? = some (.row K) ∧ ∀ x : Wish, x.ok → Φ x.w S
/-- rising, all below n -/
def upTo (n : Nat) (l : List Int) : Prop := (∀ m ∈ l, 0 ≤ m ∧ m < n) ∧ l.Pairwise (· < ·)
theorem upTo.more {n : Nat} {l : List Int} (h : upTo n l) : upTo (n + 1) (l ++ [(n : Int)]) := by
  refine ⟨fun m hm => ?_, List.pairwise_append.mpr ⟨h.2, by simp, fun a ha b hb => ?_⟩⟩
  · rcases List.mem_append.mp hm with hm | hm
    · have := h.1 m hm
      omega
    · rw [List.mem_singleton.mp hm]
      omega
  · rw [List.mem_singleton.mp hb]
    exact (h.1 a ha).2
theorem upTo.skip {n : Nat} {l : List Int} (h : upTo n l) : upTo (n + 1) l := ⟨fun m hm => by have := h.1 m hm; omega, h.2⟩
theorem upTo.len {n : Nat} {l : List Int} (h : upTo n l) : l.length ≤ n := by
  have q := small_len n (l.map Int.toNat) (by
    rw [List.nodup_iff_pairwise_ne, List.pairwise_map]
    refine h.2.imp_of_mem ?_
    intro a b ha hb hab e
    have h1 := h.1 a ha
    have h2 := h.1 b hb
    omega) fun p hp => by
    obtain ⟨x, hx, rfl⟩ := List.mem_map.mp hp
    have := h.1 x hx
    omega
  rw [List.length_map] at q
  exact q
theorem upTo.ms {l : List Int} (h : upTo 6 l) (hn : l ≠ []) : msOk l := by
  refine ⟨hn, h.len, fun m hm => by have := h.1 m hm; omega, fun k a b h1 h2 => ?_⟩
  obtain ⟨k1, e1⟩ := List.getElem?_eq_some_iff.mp h1
  obtain ⟨k2, e2⟩ := List.getElem?_eq_some_iff.mp h2
  rw [← e1, ← e2]
  exact List.pairwise_iff_getElem.mp h.2 k (k + 1) k1 k2 (Nat.lt_succ_self k)
section
local macro_rules | `(tactic| specialize "st") => `(tactic| ((with_reducible show wS _ _ (Stmt.Assign [Expr.Name (Str.ofString "_law_some") _] (Expr.ListComp _ _ _ _) _) _ _ _); refine wS_setLcF 4 5 (.one _) rfl (of_decide_eq_true (by kernel_rfl)) (blkOk_by (by kernel_rfl)) ?_ rfl))
theorem cf_law_wish (G : GL mg) (D : DS K mg) : CFn P w K mg base "_law_wish" 3 1 (asp_law_wish K) := by
  refine D.d_law_wish.fn sc_law_wish fun f cdv A outer s H E hr ws S Φ Ψ hl hS ha => ?_
  obtain ⟨r, rfl, hr0, h⟩ := ha
  specialize "go"
  intro v hv0 hv1
  obtain ⟨n, rfl⟩ : ∃ n : Nat, v = n := ⟨v.toNat, by omega⟩
  have hn : n < 10 := by omega
  match n, hn with
  | 0, _ =>
    specialize "go"
    intro p hp0 hp1
    specialize "go"
    intro g hg0 hg1 hg2
    specialize "go"
    exact fin.as (h (.all p g) ⟨hp0, by omega, hg0, hg1, hg2⟩)
  | 1, _ =>
    specialize "go"
    intro p hp0 hp1
    specialize "go"
    intro g hg0 hg1 hg2
    specialize "go"
    exact fin.as (h (.all p g) ⟨hp0, by omega, hg0, hg1, hg2⟩)
  | 2, _ =>
    specialize "go"
    intro p hp0 hp1
    specialize "go"
    intro g hg0 hg1 hg2
    specialize "go"
    exact fin.as (h (.busy p g) ⟨hp0, by omega, hg0, hg1, hg2⟩)
  | 3, _ =>
    specialize "go"
    intro p hp0 hp1
    specialize "go"
    intro g hg0 hg1 hg2
    specialize "go"
    exact fin.as (h (.busy p g) ⟨hp0, by omega, hg0, hg1, hg2⟩)
  | 4, _ =>
    specialize "go"
    intro p hp0 hp1
    specialize "go"
    intro g hg0 hg1 hg2
    specialize "go"
    intro u hu0 hu1
    obtain ⟨k, rfl⟩ : ∃ k : Nat, u = k := ⟨u.toNat, by omega⟩
    have hk : k < 2 := by omega
    match k, hk with
    | 0, _ =>
      specialize "go"
      intro t ht0 ht1
      specialize "go"
      exact fin.as (h (.late p g (1 + t)) ⟨hp0, by omega, hg0, hg1, hg2, by omega, by omega⟩)
    | 1, _ =>
      specialize "go"
      intro t ht0 ht1
      specialize "go"
      exact fin.as (h (.late p g (1 + t)) ⟨hp0, by omega, hg0, hg1, hg2, by omega, by omega⟩)
  | 5, _ =>
    specialize "go"
    intro p hp0 hp1
    specialize "go"
    exact fin.as (h (.wait p) ⟨hp0, by omega⟩)
  | 6, _ =>
    specialize "go"
    intro p hp0 hp1
    specialize "go"
    exact fin.as (h (.wait p) ⟨hp0, by omega⟩)
  | 7, _ =>
    specialize "go"
    intro p hp0 hp1
    specialize "go"
    exact fin.as (h (.still p) ⟨hp0, by omega⟩)
  | 8, _ =>
    specialize "go"
    intro p hp0 hp1
    specialize "go"
    intro o ho0 ho1
    specialize "go"
    refine fin.as (h (.bar p (o + if decide (p ≤ o) = true then 1 else 0)) ?_)
    by_cases q : p ≤ o
    · simp only [q, decide_true, if_true, Wish.ok]; omega
    · simp only [q, decide_false, Bool.false_eq_true, if_false, Wish.ok]; omega
  | 9, _ =>
    specialize "go"
    intro p hp0 hp1
    specialize "go"
    refine ⟨fun i acc S' => i ≤ 6 ∧ S' = S ∧ ∃ l, acc = intsW l ∧ upTo i l, ⟨by decide, rfl, [], rfl, ⟨by simp, by simp⟩⟩, ?_, ?_, ?_⟩
    · rintro i acc S' ⟨hi, rfl, l, rfl, hu⟩
      refine ⟨trivial, ?_⟩
      have := hu.len
      rw [len_ints]
      omega
    · rintro i w acc S' hw ⟨hi, rfl, l, rfl, hu⟩
      obtain ⟨x, hx, rfl⟩ := map_inv hw
      obtain ⟨hx1, hx2⟩ := List.getElem?_eq_some_iff.mp hx
      have hxi : x = i := by rw [← hx2, List.getElem_range]
      have hi6 : i < 6 := by rw [List.length_range] at hx1; exact hx1
      subst hxi
      intro s1 H0 C cl fp
      specialize "go"
      intro v hv0 hv1
      specialize "go"
      by_cases q : v = 0
      · subst q
        refine (sIte_t rfl ?_ : sIte _ _ _)
        intro s1 H0 C cl fp
        specialize "go"
        exact ⟨hi6, rfl, l ++ [(x : Int)], by simp [intsW], hu.more⟩
      · refine (sIte_f (decide_eq_false q) ?_ : sIte _ _ _)
        exact ⟨hi6, rfl, l, rfl, hu.skip⟩
    · rintro acc S' ⟨hi, rfl, l, rfl, hu⟩
      specialize "go"
      intro v hv0 hv1
      specialize "go"
      cases l with
      | nil =>
        refine sIte_f rfl ?_
        specialize "go"
        exact fin.as (h (.group (6 + v) [p]) ⟨by omega, by omega, by simp, by simp, (fun m hm => by rw [List.mem_singleton.mp hm]; omega), fun k a b h1 h2 => by cases k <;> simp at h2⟩)
      | cons a l =>
        refine sIte_t rfl ?_
        specialize "go"
        exact fin.as (h (.group (6 + v) (a :: l)) ⟨by omega, by omega, upTo.ms hu (by simp)⟩)
end
local macro_rules | `(tactic| specialize "fun") => `(tactic| ((with_reducible show wE _ _ (Expr.Call (Expr.Name (Str.ofString "_law_wish") _) _ _ _) _ _ _); refine xE_call (cf_law_wish (by assumption) (by assumption)) (Room.mono (by assumption) (by decide)) ?_))
local macro_rules | `(tactic| specialize "s3") => `(tactic| ((with_reducible show asp_law_wish _ _ _ _ _); refine ⟨_, rfl, (by specialize "nth"), ?_⟩))
end

end
section
local macro_rules | `(tactic| specialize "fun") => `(tactic| ((with_reducible show wE _ _ (Expr.Call (Expr.Name (Str.ofString "_law_taken") _) _ _ _) _ _ _); refine xE_call (cf_law_taken (by assumption) (by assumption)) (Room.mono (by assumption) (by decide)) ?_))
local macro_rules | `(tactic| specialize "s3") => `(tactic| ((with_reducible show asp_taken _ _ _ _ _); refine ⟨_, _, rfl, (by specialize "nth"), (by first | decide | omega), (by first | decide | omega), ?_⟩))
local macro_rules | `(tactic| specialize "fun") => `(tactic| ((with_reducible show wE _ _ (Expr.Call (Expr.Name (Str.ofString "_law_goal") _) _ _ _) _ _ _); refine xE_call (cf_law_goal (by assumption) (by assumption)) (Room.mono (by assumption) (by decide)) ?_))
local macro_rules | `(tactic| specialize "s3") => `(tactic| ((with_reducible show asp_law_goal _ _ _ _ _); refine ⟨_, _, rfl, (by specialize "nth"), (by omega), (by omega), ?_⟩))
local macro_rules | `(tactic| specialize "fun") => `(tactic| ((with_reducible show wE _ _ (Expr.Call (Expr.Name (Str.ofString "_law_wish") _) _ _ _) _ _ _); refine xE_call (cf_law_wish (by assumption) (by assumption)) (Room.mono (by assumption) (by decide)) ?_))
local macro_rules | `(tactic| specialize "s3") => `(tactic| ((with_reducible show asp_law_wish _ _ _ _ _); refine ⟨_, rfl, (by specialize "nth"), ?_⟩))

-- L3K
section
variable {P : Program} {w : World} {K : PySem.W.Frag} {mg : Str → Option Value} {base : Heap} 
/-- any wishes, of different keys -/
def asp_law_wishes (K : PySem.W.Frag) : ASp := fun ws S Φ _ => ∃ r m, ws = [.ref r, .int m] ∧ S[r]? = some (.row K) ∧ 0 ≤ m ∧ m ≤ 24 ∧ ∀ xs : List Wish, xs.length ≤ m → (∀ x ∈ xs, x.ok) → (xs.map Wish.key).Nodup → Φ (.lst (xs.map Wish.w)) S
section
local macro_rules | `(tactic| specialize "st") => `(tactic| ((with_reducible show wS _ _ (Stmt.Assign [Expr.Name (Str.ofString "_law_key") _] _ _) _ _ _); refine stop_i ?_))
theorem cf_law_wishes (G : GL mg) (D : DS K mg) : CFn P w K mg base "_law_wishes" 4 2 (asp_law_wishes K) := by
  refine D.d_law_wishes.fn sc_law_wishes fun f cdv A outer s H E hr ws S Φ Ψ hl hS ha => ?_
  obtain ⟨r, m, rfl, hr0, hm0, hm1, h⟩ := ha
  specialize "go"
  refine wS_for (passes_of rfl) rfl ?_
  specialize "go"
  intro n hn0 hn1
  specialize "go"
  rw [List.append_assoc]
  refine ⟨fun i E' S' => i ≤ n.toNat ∧ ∃ (xs : List Wish) (a b c : Option W), E' = [some (.ref r), some (.int m), some (.ref S.length), some (.ref (S.length + 1)), a, b, c] ∧ S' = S ++ [.lst (xs.map Wish.w), .lst (xs.map keyT)] ∧ xs.length ≤ i ∧ (∀ x ∈ xs, x.ok) ∧ (xs.map Wish.key).Nodup,
    ⟨Nat.zero_le _, [], none, none, none, ?_, rfl, Nat.le_refl _, (fun x hx => by cases hx), List.nodup_nil⟩, fun _ _ _ _ => trivial, ?_, ?_⟩
  · rw [List.length_append]
    rfl
  · rintro i w E' S' hw ⟨hi, xs, a, b, c, rfl, rfl, hxl, hxo, hxn⟩
    obtain ⟨k, hk, rfl⟩ := map_inv hw
    have hi' : i < n.toNat := by
      have := (List.getElem?_eq_some_iff.mp hk).1
      rw [List.length_range] at this
      exact this
    have hlen1 : (xs.map Wish.w).length ≤ 100000 := by rw [List.length_map]; omega
    have hlen2 : (xs.map keyT).length ≤ 100000 := by rw [List.length_map]; omega
    specialize "go"
    intro x hx
    specialize "go"
    unfold Stop
    refine' xS_set ?k1 (of_decide_eq_true (by kernel_rfl)) ?_
    (case k1 => specialize "idx")
    refine wE.imp (Φ := fun w S2 => w = W.tup (x.key.map keyW1) ∧ S2 = S ++ [.lst (xs.map Wish.w), .lst (xs.map keyT)]) ?_ ?_
    · cases x <;> (specialize "go")
    · rintro w S2 ⟨rfl, rfl⟩
      specialize "go"
      refine sIte_s (fun e => ?_) (fun e => ?_)
      · have e' : keyIn x.key xs = false := by
          cases q : keyIn x.key xs with
          | false => rfl
          | true => rw [q] at e; cases e
        specialize "go"
        rw [set_new]
        specialize "go"
        rw [set_new0]
        dsimp only
        refine dropTo.as ?_
        refine ⟨hi', xs ++ [x], _, _, _, rfl, ?_, ?_, ?_, ?_⟩
        · simp [keyT]
        · rw [List.length_append, List.length_singleton]
          omega
        · intro y hy
          rcases List.mem_append.mp hy with hy | hy
          · exact hxo y hy
          · rw [List.mem_singleton.mp hy]
            exact hx
        · rw [List.map_append]
          refine List.nodup_append.mpr ⟨hxn, by simp, fun a ha b hb z => ?_⟩
          rw [List.map_cons, List.map_nil, List.mem_singleton] at hb
          exact keyIn_no e' (hb ▸ z ▸ ha)
      · specialize "go"
        dsimp only
        refine dropTo.as ?_
        exact ⟨hi', xs, _, _, _, rfl, rfl, by omega, hxo, hxn⟩
  · rintro E' S' ⟨hi, xs, a, b, c, rfl, rfl, hxl, hxo, hxn⟩
    specialize "go"
    refine fin.drop (Nat.le_refl _) hS (fz_new rfl fzs_wishes) (h xs ?_ hxo hxn)
    rw [range_len] at hxl
    omega
end
local macro_rules | `(tactic| specialize "fun") => `(tactic| ((with_reducible show wE _ _ (Expr.Call (Expr.Name (Str.ofString "_law_wishes") _) _ _ _) _ _ _); refine xE_call (cf_law_wishes (by assumption) (by assumption)) (Room.mono (by assumption) (by decide)) ?_))
local macro_rules | `(tactic| specialize "s3") => `(tactic| ((with_reducible show asp_law_wishes _ _ _ _ _); refine ⟨_, _, rfl, (by specialize "nth"), (by first | decide | omega), (by first | decide | omega), ?_⟩))
end

end
section
local macro_rules | `(tactic| specialize "fun") => `(tactic| ((with_reducible show wE _ _ (Expr.Call (Expr.Name (Str.ofString "_law_taken") _) _ _ _) _ _ _); refine xE_call (cf_law_taken (by assumption) (by assumption)) (Room.mono (by assumption) (by decide)) ?_))
local macro_rules | `(tactic| specialize "s3") => `(tactic| ((with_reducible show asp_taken _ _ _ _ _); refine ⟨_, _, rfl, (by specialize "nth"), (by first | decide | omega), (by first | decide | omega), ?_⟩))
local macro_rules | `(tactic| specialize "fun") => `(tactic| ((with_reducible show wE _ _ (Expr.Call (Expr.Name (Str.ofString "_law_goal") _) _ _ _) _ _ _); refine xE_call (cf_law_goal (by assumption) (by assumption)) (Room.mono (by assumption) (by decide)) ?_))
local macro_rules | `(tactic| specialize "s3") => `(tactic| ((with_reducible show asp_law_goal _ _ _ _ _); refine ⟨_, _, rfl, (by specialize "nth"), (by omega), (by omega), ?_⟩))
local macro_rules | `(tactic| specialize "fun") => `(tactic| ((with_reducible show wE _ _ (Expr.Call (Expr.Name (Str.ofString "_law_wish") _) _ _ _) _ _ _); refine xE_call (cf_law_wish (by assumption) (by assumption)) (Room.mono (by assumption) (by decide)) ?_))
local macro_rules | `(tactic| specialize "s3") => `(tactic| ((with_reducible show asp_law_wish _ _ _ _ _); refine ⟨_, rfl, (by specialize "nth"), ?_⟩))

-- L5K
section
open TL
variable {P : Program} {w : World} {K : PySem.W.Frag} {mg : Str → Option Value} {base : Heap}
/-- any deeds -/
def asp_law_any (K : PySem.W.Frag) : ASp := fun ws S Φ _ => ∃ r m, ws = [.ref r, .int m] ∧ S[r]? = some (.row K) ∧ 0 ≤ m ∧ m ≤ 200 ∧ ∀ ds : List Deed, ds.length ≤ m → (∀ d ∈ ds, d.ok) → Φ (.lst (ds.map Deed.w)) S
theorem fzs_deeds {S : Sto} {n : Nat} {ds : List Deed} : Fzs S n (ds.map Deed.w) (ds.map Deed.w) := fzs_self _ (rlts_map (fun d => by
  show (W.tup (.str d.word :: intsW d.nums)).rlt n = true
  simp only [W.rlt, W.rlts, Bool.true_and]
  exact rlts_map (fun _ => rfl) d.nums) ds)
theorem sRep01_t {ws : List W} {k : Bool} {S : Sto} {Φ : W → Sto → Prop} (e : k = true) (hn : ws ≠ []) (h : Φ (.tup ws) S) : sRep01 (.tup ws) (.int (if k = true then 1 else 0)) S Φ := sRep01_i hn (by rw [if_pos e]; exact h)
theorem sRep01_f {ws : List W} {k : Bool} {S : Sto} {Φ : W → Sto → Prop} (e : k = false) (hn : ws ≠ []) (h : Φ (.tup []) S) : sRep01 (.tup ws) (.int (if k = true then 1 else 0)) S Φ := sRep01_i hn (by rw [e]; exact h)
section
local macro_rules | `(tactic| specialize "s3") => `(tactic| ((with_reducible show sRep01 _ _ _ _); first | refine sRep01_t (by (specialize "tt")) (by simp) ?_ | refine sRep01_f (by (specialize "tt")) (by simp) ?_))
local macro_rules | `(tactic| specialize "s3") => `(tactic| ((with_reducible show sCatT _ _ _ _); refine sCatT_i (by simp) ?_))
local macro_rules | `(tactic| specialize "times") => `(tactic| ((with_reducible show wE _ _ (Expr.BinOp (Expr.Tuple _ _ _) _ _ _) _ _ _); refine xE_rep01 ?_))
local macro_rules | `(tactic| specialize "plus") => `(tactic| ((with_reducible show wE _ _ (Expr.BinOp _ _ (Expr.BinOp _ Operator.Mult _ _) _) _ _ _); refine xE_catT ?_))
theorem cf_law_any (G : GL mg) (D : DS K mg) : CFn P w K mg base "_law_any" 2 2 (asp_law_any K) := by
  refine D.d_law_any.fn sc_law_any fun f cdv A outer s H E hr ws S Φ Ψ hl hS ha => ?_
  obtain ⟨r, m, rfl, hr0, hm0, hm1, h⟩ := ha
  specialize "go"
  refine wS_for (passes_of rfl) rfl ?_
  specialize "go"
  intro n hn0 hn1
  specialize "go"
  refine ⟨fun i E' S' => i ≤ n.toNat ∧ ∃ (ds : List Deed) (a b c : Option W), E' = [some (.ref r), some (.int m), some (.ref S.length), a, b, c] ∧ S' = S ++ [.lst (ds.map Deed.w)] ∧ ds.length ≤ i ∧ (∀ d ∈ ds, d.ok),
    ⟨Nat.zero_le _, [], none, none, none, rfl, rfl, Nat.le_refl _, (fun x hx => by cases hx)⟩, fun _ _ _ _ => trivial, ?_, ?_⟩
  · rintro i w E' S' hw ⟨hi, ds, a, b, c, rfl, rfl, hdl, hdo⟩
    obtain ⟨k, hk, rfl⟩ := map_inv hw
    have hi' : i < n.toNat := by
      have := (List.getElem?_eq_some_iff.mp hk).1
      rw [List.length_range] at this
      exact this
    have hlen1 : (ds.map Deed.w).length ≤ 100000 := by rw [List.length_map]; omega
    have fin : ∀ (d : Deed) (a b c : Option W), d.ok → dropTo (S ++ [O.lst []]).length (fun E' S' => i + 1 ≤ n.toNat ∧ ∃ (ds : List Deed) (a b c : Option W), E' = [some (.ref r), some (.int m), some (.ref S.length), a, b, c] ∧ S' = S ++ [.lst (ds.map Deed.w)] ∧ ds.length ≤ i + 1 ∧ (∀ d ∈ ds, d.ok)) [some (.ref r), some (.int m), some (.ref S.length), a, b, c] (S ++ [.lst (ds.map Deed.w ++ [d.w])]) := by
      intro d a b c hd
      refine dropTo.as ⟨hi', ds ++ [d], a, b, c, rfl, by rw [List.map_append]; rfl, by rw [List.length_append, List.length_singleton]; omega, ?_⟩
      intro y hy
      rcases List.mem_append.mp hy with hy | hy
      · exact hdo y hy
      · rw [List.mem_singleton.mp hy]
        exact hd
    specialize "go"
    intro v hv0 hv1
    obtain ⟨j, rfl⟩ : ∃ j : Nat, v = j := ⟨v.toNat, by omega⟩
    have hj : j < 9 := by omega
    match j, hj with
    | 0, _ =>
      specialize "go"
      intro p hp0 hp1
      specialize "go"
      intro g hg0 hg1
      specialize "go"
      rw [set_new0]
      dsimp only
      exact fin (.lift p) _ _ _ ⟨hp0, by omega⟩
    | 1, _ =>
      specialize "go"
      intro p hp0 hp1
      specialize "go"
      intro g hg0 hg1
      specialize "go"
      rw [set_new0]
      dsimp only
      exact fin (.drop p) _ _ _ ⟨hp0, by omega⟩
    | 2, _ =>
      specialize "go"
      intro p hp0 hp1
      specialize "go"
      intro g hg0 hg1
      specialize "go"
      rw [set_new0]
      dsimp only
      exact fin (.dial p g) _ _ _ ⟨hp0, by omega, hg0, by omega⟩
    | 3, _ =>
      specialize "go"
      intro p hp0 hp1
      specialize "go"
      intro g hg0 hg1
      specialize "go"
      rw [set_new0]
      dsimp only
      exact fin (.dial p g) _ _ _ ⟨hp0, by omega, hg0, by omega⟩
    | 4, _ =>
      specialize "go"
      intro p hp0 hp1
      specialize "go"
      intro g hg0 hg1
      specialize "go"
      rw [set_new0]
      dsimp only
      exact fin (.hold p) _ _ _ ⟨hp0, by omega⟩
    | 5, _ =>
      specialize "go"
      intro p hp0 hp1
      specialize "go"
      intro g hg0 hg1
      specialize "go"
      rw [set_new0]
      dsimp only
      exact fin (.swap p) _ _ _ ⟨hp0, by omega⟩
    | 6, _ =>
      specialize "go"
      intro p hp0 hp1
      specialize "go"
      intro g hg0 hg1
      specialize "go"
      rw [set_new0]
      dsimp only
      exact fin (.take p) _ _ _ ⟨hp0, by omega⟩
    | 7, _ =>
      specialize "go"
      intro p hp0 hp1
      specialize "go"
      intro g hg0 hg1
      specialize "go"
      rw [set_new0]
      dsimp only
      exact fin (.join p) _ _ _ ⟨hp0, by omega⟩
    | 8, _ =>
      specialize "go"
      intro p hp0 hp1
      specialize "go"
      intro g hg0 hg1
      specialize "go"
      rw [set_new0]
      dsimp only
      exact fin .beat _ _ _ trivial
  · rintro E' S' ⟨hi, ds, a, b, c, rfl, rfl, hdl, hdo⟩
    specialize "go"
    refine fin.drop (Nat.le_refl _) hS (fz_new rfl fzs_deeds) (h ds ?_ hdo)
    rw [range_len] at hdl
    omega
end
end

end
section
local macro_rules | `(tactic| specialize "fun") => `(tactic| ((with_reducible show wE _ _ (Expr.Call (Expr.Name (Str.ofString "_law_taken") _) _ _ _) _ _ _); refine xE_call (cf_law_taken (by assumption) (by assumption)) (Room.mono (by assumption) (by decide)) ?_))
local macro_rules | `(tactic| specialize "s3") => `(tactic| ((with_reducible show asp_taken _ _ _ _ _); refine ⟨_, _, rfl, (by specialize "nth"), (by first | decide | omega), (by first | decide | omega), ?_⟩))
local macro_rules | `(tactic| specialize "fun") => `(tactic| ((with_reducible show wE _ _ (Expr.Call (Expr.Name (Str.ofString "_law_goal") _) _ _ _) _ _ _); refine xE_call (cf_law_goal (by assumption) (by assumption)) (Room.mono (by assumption) (by decide)) ?_))
local macro_rules | `(tactic| specialize "s3") => `(tactic| ((with_reducible show asp_law_goal _ _ _ _ _); refine ⟨_, _, rfl, (by specialize "nth"), (by omega), (by omega), ?_⟩))
local macro_rules | `(tactic| specialize "fun") => `(tactic| ((with_reducible show wE _ _ (Expr.Call (Expr.Name (Str.ofString "_law_wish") _) _ _ _) _ _ _); refine xE_call (cf_law_wish (by assumption) (by assumption)) (Room.mono (by assumption) (by decide)) ?_))
local macro_rules | `(tactic| specialize "s3") => `(tactic| ((with_reducible show asp_law_wish _ _ _ _ _); refine ⟨_, rfl, (by specialize "nth"), ?_⟩))

-- L6R
section
open TL
def encS : Str ⊕ Int → W
  | .inl a => .str a
  | .inr i => .int i
def strS : Str ⊕ Int → Str
  | .inl a => a
  | .inr i => dg i
theorem cut_from {v : W} {ws : List W} : cutW (v :: ws) (some 1) none = ws := by
  unfold cutW
  rw [HT.sIx_none, show HT.sIx (v :: ws).length 0 (some 1) = 1 from by
    rw [show (some (1 : Int)) = some ((1 : Nat) : Int) from rfl, HT.sIx_nat, List.length_cons]
    omega]
  rw [List.drop_succ_cons, List.drop_zero, List.length_cons, Nat.add_sub_cancel, List.take_length]
theorem sCutT1 {v : W} {ws : List W} {S : Sto} {Φ : W → Sto → Prop} (h : Φ (.tup ws) S) : sCutT (.tup (v :: ws)) (some 1) none S Φ := sCutT_i (by rw [cut_from]; exact h)
/-! ### things: a word, and parts -/
inductive Part | s (a : Str) | i (n : Int) | t (ms : List Int)
def Part.w : Part → W
  | .s a => .str a
  | .i n => .int n
  | .t ms => .tup (intsW ms)
def Part.items : Part → List (Str ⊕ Int)
  | .s a => [.inl a]
  | .i n => [.inr n]
  | .t ms => ms.map .inr
structure Thing where
  head : Str
  parts : List Part
def Thing.w (t : Thing) : W := .tup (.str t.head :: t.parts.map Part.w)
def Thing.items (t : Thing) : List (Str ⊕ Int) := t.parts.flatMap Part.items
def itemOk : Str ⊕ Int → Prop
  | .inl a => goodW a
  | .inr n => 0 ≤ n ∧ n ≤ 9
def Thing.ok (t : Thing) : Prop := goodW t.head ∧ (∀ x ∈ t.items, itemOk x) ∧ t.items.length ≤ 8
def Thing.row (t : Thing) : Str := rowF (t.head :: t.items.map strS)
def wishThing (x : Wish) : Thing := ⟨"wish", .s x.word :: match x with
  | .group g ms => [.i g, .t ms]
  | x => x.nums.map .i⟩
def deedThing (d : Deed) : Thing := ⟨d.word, d.nums.map .i⟩
theorem items_i (l : List Int) : (l.map Part.i).flatMap Part.items = l.map .inr := by
  induction l with
  | nil => rfl
  | cons a l ih => rw [List.map_cons, List.flatMap_cons, ih]; rfl
theorem wish_items (x : Wish) : (wishThing x).items = .inl x.word :: x.nums.map .inr := by
  cases x with
  | group g ms =>
    show Part.items (.s _) ++ (Part.items (.i g) ++ (Part.items (.t ms) ++ [])) = _
    rw [List.append_nil]
    rfl
  | _ =>
    show [.inl _] ++ List.flatMap Part.items (List.map Part.i _) = _
    rw [items_i]
    rfl
theorem deed_items (d : Deed) : (deedThing d).items = d.nums.map .inr := items_i d.nums
theorem str_inr (l : List Int) : (l.map (Sum.inr : Int → Str ⊕ Int)).map strS = l.map dg := by
  rw [List.map_map]
  rfl
theorem wish_row (x : Wish) : (wishThing x).row = wishRow x := by
  unfold Thing.row
  rw [wish_items, List.map_cons, str_inr]
  rfl
theorem deed_row (d : Deed) : (deedThing d).row = deedRow d := by
  unfold Thing.row
  rw [deed_items, str_inr]
  rfl
theorem wish_tok {x : Wish} (h : x.ok) : (wishThing x).ok := by
  obtain ⟨q1, q2⟩ := Wish.dig h
  refine ⟨good_w, ?_, ?_⟩
  · rw [wish_items]
    intro z hz
    rcases List.mem_cons.mp hz with rfl | hz
    · exact good_wish x
    · obtain ⟨i, hi, rfl⟩ := List.mem_map.mp hz
      exact q1 i hi
  · rw [wish_items, List.length_cons, List.length_map]
    omega
theorem deed_tok {d : Deed} (h : d.ok) : (deedThing d).ok := by
  obtain ⟨q1, q2⟩ := Deed.dig h
  refine ⟨good_deed d, ?_, ?_⟩
  · rw [deed_items]
    intro z hz
    obtain ⟨i, hi, rfl⟩ := List.mem_map.mp hz
    exact q1 i hi
  · rw [deed_items, List.length_map]
    omega
theorem deed_tw (d : Deed) : (deedThing d).w = d.w := by
  unfold Thing.w deedThing Deed.w
  rw [List.map_map]
  rfl
theorem wish_tw (x : Wish) : ∃ ws, x.w = .tup ws ∧ ws.length ≤ 10 ∧ W.tup ([W.str "wish"] ++ ws) = (wishThing x).w := by
  cases x <;> exact ⟨_, rfl, by simp, rfl⟩
theorem good_str {z : Str ⊕ Int} (h : itemOk z) : goodW (strS z) := by
  cases z with
  | inl a => exact h
  | inr n => exact good_dg h.1 h.2
theorem row_len {a : Str} {l : List (Str ⊕ Int)} (ha : goodW a) (hl : ∀ x ∈ l, itemOk x) : (rowF (a :: l.map strS)).length ≤ 6 * (l.length + 1) := by
  have q := (row_ok (ws := a :: l.map strS) fun s hs => by
    rcases List.mem_cons.mp hs with rfl | hs
    · exact ha
    · obtain ⟨z, hz, rfl⟩ := List.mem_map.mp hs
      exact good_str (hl z hz)).2
  rw [List.length_cons, List.length_map] at q
  exact q
theorem row_one {a : Str} : rowF [a] = a := by
  unfold rowF
  rw [join_eq]
  rfl
theorem row_more {a : Str} {l : List (Str ⊕ Int)} {z : Str ⊕ Int} : rowF (a :: (l ++ [z]).map strS) = rowF (a :: l.map strS) ++ " " ++ strS z := by
  rw [List.map_append]
  exact row_snoc
theorem part_items (p : Part) : (match p with | .s a => [W.str a] | .i n => [W.int n] | .t ms => intsW ms) = p.items.map encS := by
  cases p with
  | t ms =>
    show intsW ms = (ms.map .inr).map encS
    rw [List.map_map]
    rfl
  | _ => rfl
theorem take_flat {α β : Type} {f : α → List β} {l : List α} {j : Nat} {p : α} (h : l[j]? = some p) : (l.take (j + 1)).flatMap f = (l.take j).flatMap f ++ f p := by
  rw [take_succ h, List.flatMap_append]
  simp
theorem flat_split {α β : Type} {f : α → List β} {l : List α} {j : Nat} {p : α} (h : l[j]? = some p) : l.flatMap f = (l.take j).flatMap f ++ (f p ++ (l.drop (j + 1)).flatMap f) := by
  have hj : j < l.length := (List.getElem?_eq_some_iff.mp h).1
  have e : l = l.take j ++ (p :: l.drop (j + 1)) := by
    have e1 : l.drop j = p :: l.drop (j + 1) := by
      rw [List.drop_eq_getElem_cons hj]
      congr 1
      exact (List.getElem?_eq_some_iff.mp h).2
    rw [← e1, List.take_append_drop]
  conv => lhs; rw [e]
  rw [List.flatMap_append, List.flatMap_cons]
def thingsF (xs : List Wish) (ds : List Deed) : List Thing := xs.map wishThing ++ ds.map deedThing
theorem things_rows (xs : List Wish) (ds : List Deed) : (thingsF xs ds).map Thing.row = rowsF xs ds := by
  unfold thingsF rowsF
  rw [List.map_append, List.map_map, List.map_map]
  congr 1
  · exact List.map_congr_left fun x _ => wish_row x
  · exact List.map_congr_left fun x _ => deed_row x
theorem things_ok {xs : List Wish} {ds : List Deed} (hx : ∀ x ∈ xs, x.ok) (hd : ∀ d ∈ ds, d.ok) : ∀ t ∈ thingsF xs ds, t.ok := by
  intro t ht
  rcases List.mem_append.mp ht with ht | ht
  · obtain ⟨x, h, rfl⟩ := List.mem_map.mp ht
    exact wish_tok (hx x h)
  · obtain ⟨x, h, rfl⟩ := List.mem_map.mp ht
    exact deed_tok (hd x h)
theorem things_w (xs : List Wish) (ds : List Deed) : List.map (fun x => (wishThing x).w) (List.filter (fun _ => true) xs) ++ ds.map Deed.w = (thingsF xs ds).map Thing.w := by
  rw [List.filter_eq_self.mpr fun _ _ => rfl]
  unfold thingsF
  rw [List.map_append, List.map_map, List.map_map]
  congr 1
  exact List.map_congr_left fun x _ => (deed_tw x).symm
theorem fzs_strs {S : Sto} {n : Nat} {l : List Str} : Fzs S n (l.map W.str) (l.map W.str) := fzs_self _ (rlts_map (fun _ => rfl) l)
variable {P : Program} {w : World} {K : PySem.W.Frag} {mg : Str → Option Value} {base : Heap}
def asp_law_rows : ASp := fun ws S Φ _ => ∃ (xs : List Wish) (ds : List Deed), ws = [.lst (xs.map Wish.w), .lst (ds.map Deed.w)] ∧ xs.length ≤ 24 ∧ (∀ x ∈ xs, x.ok) ∧ ds.length ≤ 200 ∧ (∀ x ∈ ds, x.ok) ∧ Φ (.lst ((rowsF xs ds).map W.str)) S
section
local macro_rules | `(tactic| specialize "s0") => `(tactic| ((with_reducible show sLc _ _ _ _ _ _ _ _ _ _); refine stop_i ?_))
local macro_rules | `(tactic| specialize "plus") => `(tactic| ((with_reducible show wE _ _ (Expr.BinOp (Expr.ListComp _ _ _ _) _ _ _) _ _ _); refine xE_cat ?_))
local macro_rules | `(tactic| specialize "plus") => `(tactic| ((with_reducible show wE _ _ (Expr.BinOp (Expr.Tuple _ _ _) _ _ _) _ _ _); refine xE_catT ?_))
local macro_rules | `(tactic| specialize "s2") => `(tactic| ((with_reducible show sCutT _ _ _ _ _); refine sCutT1 ?_))
local macro_rules | `(tactic| specialize "ix") => `(tactic| exact atI_nat (j := 0) rfl)
local macro_rules | `(tactic| specialize "fun") => `(tactic| ((with_reducible show wE _ _ (Expr.Call (Expr.Name (Str.ofString "str") _) _ _ _) _ _ _); refine xE_str (GL.b_str (by assumption)) ?_))
local macro_rules | `(tactic| specialize "s3") => `(tactic| ((with_reducible show sStrOf _ _ _); first | refine sStrOf_S ?_ | refine sStrOf_I (dg_log (by assumption) (by assumption)) ?_))
theorem cf_law_rows (G : GL mg) (D : DS K mg) : CFn P w K mg base "_law_rows" 1 2 asp_law_rows := by
  refine D.d_law_rows.fn sc_law_rows fun f cdv A outer s H E hr ws S Φ Ψ hl hS ha => ?_
  obtain ⟨xs, ds, rfl, h24, ho, h200, hd, h⟩ := ha
  specialize "go"
  refine wS_for (passes_of rfl) rfl ?_
  refine xI_list ?_
  specialize "go"
  unfold Stop
  refine sLc_i (p := fun _ => true) (g := fun x => (wishThing x).w) trivial (by omega) (fun x hx => ?_) ?_
  · refine TurnP.no_i ?_
    intro s1 H0 C cl fp
    obtain ⟨vs, e1, e2, e3⟩ := wish_tw x
    rw [e1]
    specialize "go"
    refine sCatT_i (by simp; omega) ?_
    exact ⟨e3, rfl⟩
  specialize "go"
  refine sCat_i ?_ ?_
  · have := List.length_filter_le (fun _ => true) xs
    rw [List.length_map, List.length_map]
    omega
  rw [things_w]
  refine sWL_l ?_
  have hok := things_ok ho hd
  have hrw := things_rows xs ds
  have hln : (thingsF xs ds).length ≤ 224 := by
    unfold thingsF
    rw [List.length_append, List.length_map, List.length_map]
    omega
  generalize thingsF xs ds = ts at hok hrw hln ⊢
  refine ⟨fun i E' S' => i ≤ ts.length ∧ S' = S ++ [.lst (((ts.take i).map Thing.row).map W.str)] ∧ ∃ b3 b5 b6 b7, E' = [some (.lst (xs.map Wish.w)), some (.lst (ds.map Deed.w)), some (.ref S.length), b3, none, b5, b6, b7], ⟨Nat.zero_le _, rfl, none, none, none, none, rfl⟩, fun _ _ _ _ => trivial, ?_, ?_⟩
  · rintro i w E' S' hw ⟨hi, rfl, b3, b5, b6, b7, rfl⟩
    obtain ⟨t, ht, rfl⟩ := map_inv hw
    have hil : i < ts.length := (List.getElem?_eq_some_iff.mp ht).1
    obtain ⟨hg, hit, hl8⟩ := hok t (List.mem_of_getElem? ht)
    have hlen : ((ts.take i).map Thing.row |>.map W.str).length ≤ 100000 := by rw [List.length_map, List.length_map, List.length_take]; omega
    unfold Thing.w
    specialize "go"
    refine wS_for (passes_of rfl) rfl ?_
    refine xI_tup ?_
    specialize "go"
    refine sWT_i ?_
    refine ⟨fun j E' S' => j ≤ t.parts.length ∧ S' = S ++ [.lst (((ts.take i).map Thing.row).map W.str)] ∧ ∃ b6 b7, E' = [some (.lst (xs.map Wish.w)), some (.lst (ds.map Deed.w)), some (.ref S.length), some (.tup (.str t.head :: t.parts.map Part.w)), none, some (.str (rowF (t.head :: ((t.parts.take j).flatMap Part.items).map strS))), b6, b7], ⟨Nat.zero_le _, rfl, b6, b7, ?_⟩, fun _ _ _ _ => trivial, ?_, ?_⟩
    · rw [List.take_zero, List.flatMap_nil, List.map_nil, row_one]
      rfl
    · rintro j w E' S' hw ⟨hj, rfl, b6, b7, rfl⟩
      obtain ⟨p, hp, rfl⟩ := map_inv hw
      have hjl : j < t.parts.length := (List.getElem?_eq_some_iff.mp hp).1
      specialize "go"
      refine wS_for (passes_of rfl) rfl ?_
      refine xI_tup ?_
      cases p with
      | s a0 =>
        specialize "go"
        refine sWT_i ?_
        refine ⟨fun m E' S' => S' = S ++ [.lst (((ts.take i).map Thing.row).map W.str)] ∧ ∃ b7, E' = [some (.lst (xs.map Wish.w)), some (.lst (ds.map Deed.w)), some (.ref S.length), some (.tup (.str t.head :: t.parts.map Part.w)), none, some (.str (rowF (t.head :: ((t.parts.take j).flatMap Part.items ++ (Part.s a0).items.take m).map strS))), some (Part.s a0).w, b7], ⟨rfl, b7, by rw [List.take_zero, List.append_nil]; rfl⟩, fun _ _ _ _ => trivial, ?_, ?_⟩
        · rintro m w E' S' hw ⟨rfl, b7, rfl⟩
          have hw : (List.map encS (Part.s a0).items)[m]? = some w := by rw [← part_items]; exact hw
          obtain ⟨z, hz, rfl⟩ := map_inv hw
          have hzk : itemOk z := hit z (List.mem_flatMap.mpr ⟨_, List.mem_of_getElem? hp, List.mem_of_getElem? hz⟩)
          have hpre : ∀ x ∈ (t.parts.take j).flatMap Part.items ++ (Part.s a0).items.take m, itemOk x := by
            intro x hx
            refine hit x (List.mem_flatMap.mpr ?_)
            rcases List.mem_append.mp hx with hx | hx
            · obtain ⟨q, hq, hx⟩ := List.mem_flatMap.mp hx
              exact ⟨q, List.mem_of_mem_take hq, hx⟩
            · exact ⟨_, List.mem_of_getElem? hp, List.mem_of_mem_take hx⟩
          have hle : ((t.parts.take j).flatMap Part.items ++ (Part.s a0).items.take m).length ≤ 8 := by
            refine Nat.le_trans ?_ hl8
            have e : t.items = (t.parts.take j).flatMap Part.items ++ ((Part.s a0).items ++ (t.parts.drop (j + 1)).flatMap Part.items) := flat_split hp
            rw [e, List.length_append, List.length_append, List.length_append, List.length_take]
            omega
          have hrl := row_len hg hpre
          have hzl := (good_str hzk).2.2.1
          have hb : (" " : Str).length = 1 := by decide +kernel
          specialize "go"
          refine sAdd_S (by rw [hb, sizeLine_eq]; omega) ?_
          have hnx : rowF (t.head :: ((t.parts.take j).flatMap Part.items ++ (Part.s a0).items.take (m + 1)).map strS) = rowF (t.head :: ((t.parts.take j).flatMap Part.items ++ (Part.s a0).items.take m).map strS) ++ " " ++ strS z := by
            rw [take_succ hz, ← List.append_assoc, row_more]
          cases z with
          | inl a =>
            specialize "go"
            refine sAdd_S (by rw [Str.length_append, hb, sizeLine_eq]; change a.length ≤ 5 at hzl; omega) ?_
            dsimp only
            refine dropTo.as ⟨rfl, _, by rw [hnx]; rfl⟩
          | inr n =>
            obtain ⟨hn0, hn9⟩ := hzk
            specialize "go"
            refine sAdd_S (by rw [Str.length_append, hb, sizeLine_eq]; change (dg n).length ≤ 5 at hzl; show _ + (dg n).length ≤ _; omega) ?_
            dsimp only
            refine dropTo.as ⟨rfl, _, by rw [hnx]; rfl⟩
        · rintro E' S' ⟨rfl, b7, rfl⟩
          dsimp only
          refine dropTo.as ?_
          refine ⟨by omega, rfl, some (Part.s a0).w, b7, ?_⟩
          rw [take_flat hp]
          rfl
      | i n0 =>
        specialize "go"
        refine sWT_i ?_
        refine ⟨fun m E' S' => S' = S ++ [.lst (((ts.take i).map Thing.row).map W.str)] ∧ ∃ b7, E' = [some (.lst (xs.map Wish.w)), some (.lst (ds.map Deed.w)), some (.ref S.length), some (.tup (.str t.head :: t.parts.map Part.w)), none, some (.str (rowF (t.head :: ((t.parts.take j).flatMap Part.items ++ (Part.i n0).items.take m).map strS))), some (Part.i n0).w, b7], ⟨rfl, b7, by rw [List.take_zero, List.append_nil]; rfl⟩, fun _ _ _ _ => trivial, ?_, ?_⟩
        · rintro m w E' S' hw ⟨rfl, b7, rfl⟩
          have hw : (List.map encS (Part.i n0).items)[m]? = some w := by rw [← part_items]; exact hw
          obtain ⟨z, hz, rfl⟩ := map_inv hw
          have hzk : itemOk z := hit z (List.mem_flatMap.mpr ⟨_, List.mem_of_getElem? hp, List.mem_of_getElem? hz⟩)
          have hpre : ∀ x ∈ (t.parts.take j).flatMap Part.items ++ (Part.i n0).items.take m, itemOk x := by
            intro x hx
            refine hit x (List.mem_flatMap.mpr ?_)
            rcases List.mem_append.mp hx with hx | hx
            · obtain ⟨q, hq, hx⟩ := List.mem_flatMap.mp hx
              exact ⟨q, List.mem_of_mem_take hq, hx⟩
            · exact ⟨_, List.mem_of_getElem? hp, List.mem_of_mem_take hx⟩
          have hle : ((t.parts.take j).flatMap Part.items ++ (Part.i n0).items.take m).length ≤ 8 := by
            refine Nat.le_trans ?_ hl8
            have e : t.items = (t.parts.take j).flatMap Part.items ++ ((Part.i n0).items ++ (t.parts.drop (j + 1)).flatMap Part.items) := flat_split hp
            rw [e, List.length_append, List.length_append, List.length_append, List.length_take]
            omega
          have hrl := row_len hg hpre
          have hzl := (good_str hzk).2.2.1
          have hb : (" " : Str).length = 1 := by decide +kernel
          specialize "go"
          refine sAdd_S (by rw [hb, sizeLine_eq]; omega) ?_
          have hnx : rowF (t.head :: ((t.parts.take j).flatMap Part.items ++ (Part.i n0).items.take (m + 1)).map strS) = rowF (t.head :: ((t.parts.take j).flatMap Part.items ++ (Part.i n0).items.take m).map strS) ++ " " ++ strS z := by
            rw [take_succ hz, ← List.append_assoc, row_more]
          cases z with
          | inl a =>
            specialize "go"
            refine sAdd_S (by rw [Str.length_append, hb, sizeLine_eq]; change a.length ≤ 5 at hzl; omega) ?_
            dsimp only
            refine dropTo.as ⟨rfl, _, by rw [hnx]; rfl⟩
          | inr n =>
            obtain ⟨hn0, hn9⟩ := hzk
            specialize "go"
            refine sAdd_S (by rw [Str.length_append, hb, sizeLine_eq]; change (dg n).length ≤ 5 at hzl; show _ + (dg n).length ≤ _; omega) ?_
            dsimp only
            refine dropTo.as ⟨rfl, _, by rw [hnx]; rfl⟩
        · rintro E' S' ⟨rfl, b7, rfl⟩
          dsimp only
          refine dropTo.as ?_
          refine ⟨by omega, rfl, some (Part.i n0).w, b7, ?_⟩
          rw [take_flat hp]
          rfl
      | t ms =>
        specialize "go"
        refine sWT_i ?_
        refine ⟨fun m E' S' => S' = S ++ [.lst (((ts.take i).map Thing.row).map W.str)] ∧ ∃ b7, E' = [some (.lst (xs.map Wish.w)), some (.lst (ds.map Deed.w)), some (.ref S.length), some (.tup (.str t.head :: t.parts.map Part.w)), none, some (.str (rowF (t.head :: ((t.parts.take j).flatMap Part.items ++ (Part.t ms).items.take m).map strS))), some (Part.t ms).w, b7], ⟨rfl, b7, by rw [List.take_zero, List.append_nil]; rfl⟩, fun _ _ _ _ => trivial, ?_, ?_⟩
        · rintro m w E' S' hw ⟨rfl, b7, rfl⟩
          have hw : (List.map encS (Part.t ms).items)[m]? = some w := by rw [← part_items]; exact hw
          obtain ⟨z, hz, rfl⟩ := map_inv hw
          have hzk : itemOk z := hit z (List.mem_flatMap.mpr ⟨_, List.mem_of_getElem? hp, List.mem_of_getElem? hz⟩)
          have hpre : ∀ x ∈ (t.parts.take j).flatMap Part.items ++ (Part.t ms).items.take m, itemOk x := by
            intro x hx
            refine hit x (List.mem_flatMap.mpr ?_)
            rcases List.mem_append.mp hx with hx | hx
            · obtain ⟨q, hq, hx⟩ := List.mem_flatMap.mp hx
              exact ⟨q, List.mem_of_mem_take hq, hx⟩
            · exact ⟨_, List.mem_of_getElem? hp, List.mem_of_mem_take hx⟩
          have hle : ((t.parts.take j).flatMap Part.items ++ (Part.t ms).items.take m).length ≤ 8 := by
            refine Nat.le_trans ?_ hl8
            have e : t.items = (t.parts.take j).flatMap Part.items ++ ((Part.t ms).items ++ (t.parts.drop (j + 1)).flatMap Part.items) := flat_split hp
            rw [e, List.length_append, List.length_append, List.length_append, List.length_take]
            omega
          have hrl := row_len hg hpre
          have hzl := (good_str hzk).2.2.1
          have hb : (" " : Str).length = 1 := by decide +kernel
          specialize "go"
          refine sAdd_S (by rw [hb, sizeLine_eq]; omega) ?_
          have hnx : rowF (t.head :: ((t.parts.take j).flatMap Part.items ++ (Part.t ms).items.take (m + 1)).map strS) = rowF (t.head :: ((t.parts.take j).flatMap Part.items ++ (Part.t ms).items.take m).map strS) ++ " " ++ strS z := by
            rw [take_succ hz, ← List.append_assoc, row_more]
          cases z with
          | inl a =>
            specialize "go"
            refine sAdd_S (by rw [Str.length_append, hb, sizeLine_eq]; change a.length ≤ 5 at hzl; omega) ?_
            dsimp only
            refine dropTo.as ⟨rfl, _, by rw [hnx]; rfl⟩
          | inr n =>
            obtain ⟨hn0, hn9⟩ := hzk
            specialize "go"
            refine sAdd_S (by rw [Str.length_append, hb, sizeLine_eq]; change (dg n).length ≤ 5 at hzl; show _ + (dg n).length ≤ _; omega) ?_
            dsimp only
            refine dropTo.as ⟨rfl, _, by rw [hnx]; rfl⟩
        · rintro E' S' ⟨rfl, b7, rfl⟩
          dsimp only
          refine dropTo.as ?_
          refine ⟨by omega, rfl, some (Part.t ms).w, b7, ?_⟩
          have e : ∀ q : Nat, q = (Part.t ms).items.length → (Part.t ms).items.take q = (Part.t ms).items := fun q h => by rw [h, List.take_length]
          rw [take_flat hp, e _ (by show (intsW ms).length = _; simp [Part.items])]
    · rintro E' S' ⟨hj, rfl, b6, b7, rfl⟩
      specialize "go"
      rw [set_new0]
      dsimp only
      refine dropTo.as ⟨hil, ?_, _, _, _, _, rfl⟩
      rw [take_succ ht, List.map_append, List.map_append, List.length_map, List.take_length]
      rfl
  · rintro E' S' ⟨hi, rfl, b3, b5, b6, b7, rfl⟩
    specialize "go"
    rw [List.length_map, List.take_length, hrw]
    exact fin.drop (Nat.le_refl _) hS (fz_new rfl fzs_strs) h
end
local macro_rules | `(tactic| specialize "fun") => `(tactic| ((with_reducible show wE _ _ (Expr.Call (Expr.Name (Str.ofString "_law_rows") _) _ _ _) _ _ _); refine xE_call (cf_law_rows (by assumption) (by assumption)) (Room.mono (by assumption) (by decide)) ?_))
local macro_rules | `(tactic| specialize "fun") => `(tactic| ((with_reducible show wE _ _ (Expr.Call (Expr.Name (Str.ofString "_law_any") _) _ _ _) _ _ _); refine xE_call (cf_law_any (by assumption) (by assumption)) (Room.mono (by assumption) (by decide)) ?_))
local macro_rules | `(tactic| specialize "fun") => `(tactic| ((with_reducible show wE _ _ (Expr.Call (Expr.Name (Str.ofString "read") _) _ _ _) _ _ _); refine xE_call (cf_read (by assumption) (by assumption) (by assumption)) (Room.mono (by assumption) (by decide)) ?_))
local macro_rules | `(tactic| specialize "fun") => `(tactic| ((with_reducible show wE _ _ (Expr.Call (Expr.Name (Str.ofString "written") _) _ _ _) _ _ _); refine xE_call (cf_written (by assumption) (by assumption) (by assumption)) (Room.mono (by assumption) (by decide)) ?_))
end

end
section
local macro_rules | `(tactic| specialize "fun") => `(tactic| ((with_reducible show wE _ _ (Expr.Call (Expr.Name (Str.ofString "_law_taken") _) _ _ _) _ _ _); refine xE_call (cf_law_taken (by assumption) (by assumption)) (Room.mono (by assumption) (by decide)) ?_))
local macro_rules | `(tactic| specialize "s3") => `(tactic| ((with_reducible show asp_taken _ _ _ _ _); refine ⟨_, _, rfl, (by specialize "nth"), (by first | decide | omega), (by first | decide | omega), ?_⟩))
local macro_rules | `(tactic| specialize "fun") => `(tactic| ((with_reducible show wE _ _ (Expr.Call (Expr.Name (Str.ofString "_law_goal") _) _ _ _) _ _ _); refine xE_call (cf_law_goal (by assumption) (by assumption)) (Room.mono (by assumption) (by decide)) ?_))
local macro_rules | `(tactic| specialize "s3") => `(tactic| ((with_reducible show asp_law_goal _ _ _ _ _); refine ⟨_, _, rfl, (by specialize "nth"), (by omega), (by omega), ?_⟩))
local macro_rules | `(tactic| specialize "fun") => `(tactic| ((with_reducible show wE _ _ (Expr.Call (Expr.Name (Str.ofString "_law_wish") _) _ _ _) _ _ _); refine xE_call (cf_law_wish (by assumption) (by assumption)) (Room.mono (by assumption) (by decide)) ?_))
local macro_rules | `(tactic| specialize "s3") => `(tactic| ((with_reducible show asp_law_wish _ _ _ _ _); refine ⟨_, rfl, (by specialize "nth"), ?_⟩))

-- Ys1
section
variable {P : Program} {w : World} {K : PySem.W.Frag} {mg : Str → Option Value} {base : Heap}
/-! ### a text told otherwise in one place -/
def asp_spoilt (K : PySem.W.Frag) : ASp := fun ws S Φ _ => ∃ (r : Nat) (x : Str), ws = [.ref r, .str x] ∧ S[r]? = some (.row K) ∧ PyData.strOk x = true ∧ x.length ≤ 1900 ∧ ∀ y : Str, PyData.strOk y = true → y.length ≤ 2 * x.length + 20 → Φ (.str y) S
section
local macro_rules | `(tactic| specialize "slice") => `(tactic| ((with_reducible show wE _ _ (Expr.Subscript (Expr.Name (Str.ofString "_law_text") _) _ _) _ _ _); refine xE_slS ?_))
local macro_rules | `(tactic| specialize "ex") => `(tactic| ((with_reducible show wE _ _ (Expr.Call (Expr.Attribute _ (Str.ofString "split") _) _ _ _) _ _ _); refine xE_split ?_))
local macro_rules | `(tactic| specialize "s3") => `(tactic| ((with_reducible show sStr _ _); refine sStr_i ?_))
local macro_rules | `(tactic| specialize "ex") => `(tactic| ((with_reducible show wE _ _ (Expr.Call (Expr.Attribute _ (Str.ofString "join") _) _ _ _) _ _ _); refine xE_join ?_))
local macro_rules | `(tactic| specialize "slice") => `(tactic| ((with_reducible show wE _ _ (Expr.Subscript (Expr.Name (Str.ofString "_law_lines") _) _ _) _ _ _); refine xE_slL ?_))
local macro_rules | `(tactic| specialize "slice") => `(tactic| ((with_reducible show wE _ _ (Expr.Subscript (Expr.Name (Str.ofString "_law_words") _) _ _) _ _ _); refine xE_slL ?_))
local macro_rules | `(tactic| specialize "plus") => `(tactic| ((with_reducible show wE _ _ (Expr.BinOp (Expr.Subscript (Expr.Name (Str.ofString "_law_lines") _) _ _) Operator.Add (Expr.Subscript (Expr.Name (Str.ofString "_law_lines") _) _ _) _) _ _ _); refine xE_cat ?_))
local macro_rules | `(tactic| specialize "fun") => `(tactic| ((with_reducible show wE _ _ (Expr.Call (Expr.Name (Str.ofString "len") _) [Expr.Name (Str.ofString "_law_text") _] _ _) _ _ _); refine wE_lenS (GL.b_len (by assumption)) ?_))
local macro_rules | `(tactic| specialize "fun") => `(tactic| ((with_reducible show wE _ _ (Expr.Call (Expr.Name (Str.ofString "len") _) [Expr.Name (Str.ofString "_law_signs") _] _ _) _ _ _); refine wE_lenS (GL.b_len (by assumption)) ?_))
local macro_rules | `(tactic| specialize "su") => `(tactic| ((with_reducible show wE _ _ (Expr.Subscript (Expr.Name (Str.ofString "_law_signs") _) _ _) _ _ _); refine wE_ixS ?_))
local macro_rules | `(tactic| specialize "s2") => `(tactic| ((with_reducible show sCut (W.lst (List.map _ _)) none (some _) _ _); refine sCut_toS (by first | assumption | omega) ?_))
local macro_rules | `(tactic| specialize "s2") => `(tactic| ((with_reducible show sCut (W.lst (List.map _ _)) (some _) none _ _); refine sCut_fromS (by first | assumption | omega) ?_))
local macro_rules | `(tactic| specialize "s2") => `(tactic| ((with_reducible show sCat (W.lst (List.map _ _)) (W.lst (List.map _ _)) _ _); refine sCat_S (by simp only [List.length_append, List.length_take, List.length_drop, List.length_cons, List.length_nil] <;> omega) ?_))
local macro_rules | `(tactic| specialize "plus") => `(tactic| ((with_reducible show wE _ _ (Expr.BinOp (Expr.Subscript (Expr.Name (Str.ofString "_law_words") _) _ _) Operator.Add _ _) _ _ _); refine xE_cat ?_))
local macro_rules | `(tactic| specialize "plus") => `(tactic| ((with_reducible show wE _ _ (Expr.BinOp (Expr.Subscript (Expr.Name (Str.ofString "_law_lines") _) _ _) Operator.Add _ _) _ _ _); refine xE_cat ?_))
local macro_rules | `(tactic| specialize "plus") => `(tactic| ((with_reducible show wE _ _ (Expr.BinOp (Expr.BinOp (Expr.Subscript (Expr.Name (Str.ofString "_law_words") _) _ _) _ _ _) Operator.Add _ _) _ _ _); refine xE_cat ?_))
local macro_rules | `(tactic| specialize "plus") => `(tactic| ((with_reducible show wE _ _ (Expr.BinOp (Expr.BinOp (Expr.Subscript (Expr.Name (Str.ofString "_law_lines") _) _ _) _ _ _) Operator.Add _ _) _ _ _); refine xE_cat ?_))
def oddS : List Str := ["", "0", "5", "6", "7", "8", "9", "10", "00", "-1", "wish", "group", "all", "bar", "late", "lift", "Dial"]
theorem odd_at {i : Int} (h0 : 0 ≤ i) (h1 : i < 17) : ∃ z, atI (oddS.map W.str) i = some (.str z) ∧ PyData.strOk z = true ∧ z.length ≤ 5 := by
  obtain ⟨n, rfl, hn⟩ : ∃ n : Nat, i = n ∧ n < oddS.length := ⟨i.toNat, by omega, by show _ < 17; omega⟩
  have q : ∀ z ∈ oddS, PyData.strOk z = true ∧ z.length ≤ 5 := by decide +kernel
  refine ⟨oddS[n], atI_nat ?_, q _ (List.getElem_mem hn)⟩
  rw [List.getElem?_map, List.getElem?_eq_getElem hn]
  rfl
def signsS : Str := "0123456789 \nabcdefghijklmnopqrstuvwxyz!#$&'()*+,-./:;<=>?@ABCDEFGHIJKLMNOPQRSTUVWXYZ[]^_{|}~"
theorem sign_at {i : Int} (h0 : 0 ≤ i) (h1 : i < 92) : ∃ c, atI signsS.cps.toList i = some c ∧ PyData.strOk ⟨#[c]⟩ = true := by
  have q : ∀ k : Fin 92, ∃ c, atI signsS.cps.toList ((k.val : Nat) : Int) = some c ∧ PyData.strOk ⟨#[c]⟩ = true := by
    have q2 : (List.range 92).all (fun k => match atI signsS.cps.toList ((k : Nat) : Int) with | some c => PyData.strOk ⟨#[c]⟩ | none => false) = true := by decide +kernel
    intro k
    have z := List.all_eq_true.mp q2 k.val (List.mem_range.mpr k.isLt)
    cases e : atI signsS.cps.toList ((k.val : Nat) : Int) with
    | none => rw [e] at z; cases z
    | some c => rw [e] at z; exact ⟨c, rfl, z⟩
  have := q ⟨i.toNat, by omega⟩
  rwa [show ((i.toNat : Nat) : Int) = i by omega] at this
theorem cf_spoilt (G : GL mg) (D : DS K mg) : CFn P w K mg base "_law_spoilt" 2 2 (asp_spoilt K) := by
  refine D.d_law_spoilt.fn sc_law_spoilt fun f cdv A outer s H E hr ws S Φ Ψ hl hS ha => ?_
  obtain ⟨r, x, rfl, hr0, hok, hlx, h⟩ := ha
  specialize "go"
  intro way w0 w1
  specialize "go"
  refine ⟨x, rfl, by rw [sizeLine_eq]; omega, ?_⟩
  specialize "go"
  intro pos p0 p1
  specialize "go"
  refine ⟨_, rfl, by decide +kernel, ?_⟩
  rw [show ((Str.ofString "0123456789 \nabcdefghijklmnopqrstuvwxyz!#$&'()*+,-./:;<=>?@ABCDEFGHIJKLMNOPQRSTUVWXYZ[]^_{|}~").length : Int) = 92 by decide +kernel]
  specialize "go"
  intro two t0 t1
  refine sIx_i (w := .int (if two = 0 then 12 else 92)) rfl (by obtain rfl | rfl : two = 0 ∨ two = 1 := (by omega) <;> rfl) ?_
  have hm : 0 < (if two = 0 then 12 else 92 : Int) ∧ (if two = 0 then 12 else 92 : Int) ≤ 92 := by split <;> omega
  generalize (if two = 0 then 12 else 92 : Int) = mm at hm ⊢
  obtain ⟨hm0, hm1⟩ := hm
  specialize "go"
  intro sg g0 g1
  obtain ⟨sc, hsc, hso⟩ := sign_at g0 (by omega)
  refine ⟨_, _, sc, rfl, rfl, by decide +kernel, hsc, ?_⟩
  specialize "go"
  have hxs : x.length ≤ sizeLine := by rw [sizeLine_eq]; omega
  by_cases hw3 : way < 3
  · refine sIte_t (decide_eq_true hw3) ?_
    obtain ⟨mid, hmid, hmo, hml⟩ : ∃ mid : Str, atI [W.str ⟨#[sc]⟩, W.str "", W.str ⟨#[sc]⟩] way = some (.str mid) ∧ PyData.strOk mid = true ∧ mid.length ≤ 1 := by
      obtain rfl | rfl | rfl : way = 0 ∨ way = 1 ∨ way = 2 := by omega
      · exact ⟨_, rfl, hso, Nat.le_refl _⟩
      · exact ⟨"", rfl, by decide +kernel, by decide +kernel⟩
      · exact ⟨_, rfl, hso, Nat.le_refl _⟩
    specialize "go"
    refine sSlS_i hxs ?_
    specialize "go"
    refine sIx_i (w := .str mid) rfl hmid ?_
    have c1 := cutS_len (z := x) (l := none) (u := some pos)
    refine sAdd_S (by rw [sizeLine_eq]; omega) ?_
    specialize "go"
    refine sSlS_i hxs ?_
    refine sAdd_S (by rw [sizeLine_eq, app_len]; have := cutS_len (z := x) (l := some (pos + (if decide (0 < way) = true then 1 else 0))) (u := none); omega) ?_
    specialize "go"
    refine fin.as (h _ (app_ok (app_ok (cutS_ok hok) hmo) (cutS_ok hok)) ?_)
    rw [app_len, app_len]
    have := cutS_len (z := x) (l := some (pos + (if decide (0 < way) = true then 1 else 0))) (u := none)
    omega
  · refine sIte_f (decide_eq_false hw3) ?_
    specialize "go"
    refine sSplit_i (by decide +kernel) (by rw [sizeLine_eq]; omega) ?_
    have hsum := split_sum (x := x) (y := "\n") (by decide +kernel)
    have hpos := split_pos x "\n"
    have hlo : ∀ l ∈ Txt.split x "\n", PyData.strOk l = true := fun l hl => part_ok hl hok
    have hle := split_le x "\n"
    generalize Txt.split x "\n" = ls at hsum hpos hlo hle ⊢
    have hle2 : (ls.map W.str).length ≤ 1902 := by rw [List.length_map]; omega
    have hpos2 : 0 < (ls.map W.str).length := by rw [List.length_map]; omega
    specialize "go"
    intro k k0 k1
    obtain ⟨kk, rfl, hkk⟩ : ∃ n : Nat, k = n ∧ n < ls.length := ⟨k.toNat, by omega, by rw [List.length_map] at k1; omega⟩
    have hta : ((kk : Int)).toNat = kk := Int.toNat_natCast kk
    have htb : ((kk : Int) + 1).toNat = kk + 1 := by omega
    specialize "go"
    by_cases hw6 : way < 6
    · refine sIte_t (decide_eq_true hw6) ?_
      specialize "go"
      have hsl : sumL ls + (ls.length - 1) = x.length := hsum
      have hn : ("\n" : Str).length = 1 := by decide +kernel
      have t1 := sumL_td (l := ls) kk
      have t2 := sumL_drop (l := ls.drop kk) 1
      have t3 := sumL_take (l := ls) (kk + 1)
      rw [List.drop_drop] at t2
      obtain ⟨L, hL, hmem, hsz⟩ : ∃ L : List Str, atI [W.lst ((ls.take kk ++ ls.drop (kk + 1)).map W.str), W.lst ((ls.take (kk + 1) ++ ls.drop kk).map W.str), W.lst ((ls.drop kk ++ ls.take kk).map W.str)] (way - 3) = some (.lst (L.map W.str)) ∧ (∀ l ∈ L, PyData.strOk l = true) ∧ sumL L + L.length ≤ 2 * x.length + 20 := by
        have ok : ∀ l, l ∈ ls.take kk ∨ l ∈ ls.drop (kk + 1) ∨ l ∈ ls.take (kk + 1) ∨ l ∈ ls.drop kk → PyData.strOk l = true := fun l h => by
          rcases h with h | h | h | h
          · exact hlo l (List.mem_of_mem_take h)
          · exact hlo l (List.mem_of_mem_drop h)
          · exact hlo l (List.mem_of_mem_take h)
          · exact hlo l (List.mem_of_mem_drop h)
        obtain rfl | rfl | rfl : way = 3 ∨ way = 4 ∨ way = 5 := by omega
        · refine ⟨_, rfl, fun l hl => ok l ?_, ?_⟩
          · rcases List.mem_append.mp hl with h | h
            · exact .inl h
            · exact .inr (.inl h)
          · rw [sumL_app, List.length_append, List.length_take, List.length_drop]; omega
        · refine ⟨_, rfl, fun l hl => ok l ?_, ?_⟩
          · rcases List.mem_append.mp hl with h | h
            · exact .inr (.inr (.inl h))
            · exact .inr (.inr (.inr h))
          · rw [sumL_app, List.length_append, List.length_take, List.length_drop]; omega
        · refine ⟨_, rfl, fun l hl => ok l ?_, ?_⟩
          · rcases List.mem_append.mp hl with h | h
            · exact .inr (.inr (.inr h))
            · exact .inl h
          · rw [sumL_app, List.length_append, List.length_take, List.length_drop]; omega
      rw [hta, htb]
      refine sIx_i (w := .lst (L.map W.str)) rfl hL ?_
      refine sJoin_i (by rw [hn, Nat.mul_one]; show sumL L + L.length ≤ _; omega) ?_
      refine fin.as (h _ (joinT_ok (by decide +kernel) hmem) ?_)
      rw [join_len hn]
      omega
    · refine sIte_f (decide_eq_false hw6) ?_
      specialize "go"
      obtain ⟨z, hz, ez⟩ : ∃ z, ls[kk]? = some z ∧ ls.getD ((kk : Int)).toNat default = z := ⟨ls[kk], List.getElem?_eq_getElem hkk, by rw [hta, List.getD_eq_getElem?_getD, List.getElem?_eq_getElem hkk]; rfl⟩
      rw [ez]
      have hzo : PyData.strOk z = true := hlo z (List.mem_of_getElem? hz)
      have hzl : z.length ≤ x.length := by
        have h1 := sumL_at hz
        have h2 : sumL ls + (ls.length - 1) = x.length := hsum
        omega
      refine sSplit_i (by decide +kernel) (by rw [sizeLine_eq]; omega) ?_
      have hwo : ∀ l ∈ Txt.split z " ", PyData.strOk l = true := fun l hl => part_ok hl hzo
      have hwe := split_le z " "
      have hwp := split_pos z " "
      obtain ⟨wd, hwd⟩ : ∃ wd, Txt.split z " " = wd := ⟨_, rfl⟩
      rw [hwd] at hwo hwe hwp ⊢
      have hwl2 : (wd.map W.str).length ≤ 1902 := by rw [List.length_map]; omega
      have hwp2 : 0 < (wd.map W.str).length := by rw [List.length_map]; omega
      specialize "go"
      intro j j0 j1
      obtain ⟨jj, rfl, hjj⟩ : ∃ n : Nat, j = n ∧ n < wd.length := ⟨j.toNat, by omega, by rw [List.length_map] at j1; omega⟩
      have hja : ((jj : Int)).toNat = jj := Int.toNat_natCast jj
      have hjb : ((jj : Int) + 1).toNat = jj + 1 := by omega
      specialize "go"
      obtain ⟨a, ha, ea⟩ : ∃ a, wd[jj]? = some a ∧ wd.getD ((jj : Int)).toNat default = a := ⟨wd[jj], List.getElem?_eq_getElem hjj, by rw [hja, List.getD_eq_getElem?_getD, List.getElem?_eq_getElem hjj]; rfl⟩
      rw [ea]
      have hao : PyData.strOk a = true := hwo a (List.mem_of_getElem? ha)
      refine sRep_i (by decide) (by decide) (by simp) ?_
      rw [show (List.replicate (Int.toNat 2) [W.str a]).flatten = [W.str a, W.str a] from rfl]
      specialize "go"
      intro o o0 o1
      obtain ⟨od, hod, hoo, hol⟩ := odd_at o0 o1
      refine sIx_i (w := .str od) rfl hod ?_
      specialize "go"
      obtain ⟨ms, hms, hmo, hmz, hml⟩ : ∃ ms : List Str, atI [W.lst [], W.lst [W.str a, W.str a], W.lst [W.str od]] (way - 6) = some (.lst (ms.map W.str)) ∧ (∀ l ∈ ms, PyData.strOk l = true) ∧ sumL ms ≤ 2 * a.length + 5 ∧ ms.length ≤ 2 := by
        obtain rfl | rfl | rfl : way = 6 ∨ way = 7 ∨ way = 8 := by omega
        · exact ⟨[], rfl, (fun l hl => nomatch hl), by show 0 ≤ _; omega, by decide⟩
        · refine ⟨[a, a], rfl, fun l hl => ?_, ?_, Nat.le_refl _⟩
          · simp only [List.mem_cons, List.not_mem_nil, or_false, or_self] at hl
            rw [hl]; exact hao
          · show a.length + (a.length + 0) ≤ _; omega
        · refine ⟨[od], rfl, fun l hl => ?_, ?_, by show 1 ≤ 2; decide⟩
          · rw [List.mem_singleton.mp hl]; exact hoo
          · show od.length + 0 ≤ _; omega
      refine sIx_i (w := .lst (ms.map W.str)) rfl hms ?_
      specialize "go"
      have hn : ("\n" : Str).length = 1 := by decide +kernel
      have hb : (" " : Str).length = 1 := by decide +kernel
      rw [hja, hjb, hta]
      have hbw := spoilt_word (ms := ms) hwd ha hmz hml
      have hfits : sumL (wd.take jj ++ ms ++ wd.drop (jj + 1)) + (wd.take jj ++ ms ++ wd.drop (jj + 1)).length * (" " : Str).length ≤ 16777216 := by
        have h1 := sumL_take (l := wd) jj
        have h2 := sumL_drop (l := wd) (jj + 1)
        have h3 := split_sum (x := z) (y := " ") hb
        rw [hwd] at h3
        have h3 : sumL wd + (wd.length - 1) = z.length := h3
        have h4 := sumL_at ha
        rw [hb, Nat.mul_one, sumL_app, sumL_app, List.length_append, List.length_append, List.length_take, List.length_drop]
        omega
      refine sJoin_i hfits ?_
      have hbo : PyData.strOk (Txt.join " " (wd.take jj ++ ms ++ wd.drop (jj + 1))) = true := joinT_ok (by decide +kernel) fun l hl => by
        rcases List.mem_append.mp hl with hl | hl
        · rcases List.mem_append.mp hl with hl | hl
          · exact hwo l (List.mem_of_mem_take hl)
          · exact hmo l hl
        · exact hwo l (List.mem_of_mem_drop hl)
      generalize Txt.join " " (wd.take jj ++ ms ++ wd.drop (jj + 1)) = b at hbw hbo ⊢
      specialize "go"
      rw [htb, show List.map W.str (ls.take kk) ++ [W.str b] ++ List.map W.str (ls.drop (kk + 1)) = List.map W.str (ls.take kk ++ [b] ++ ls.drop (kk + 1)) by rw [List.map_append, List.map_append]; rfl]
      have hsl : sumL ls + (ls.length - 1) = x.length := hsum
      have hlw := spoilt_line hsl hz hbw
      have hlo2 : PyData.strOk (Txt.join "\n" (ls.take kk ++ [b] ++ ls.drop (kk + 1))) = true := joinT_ok (by decide +kernel) fun l hl => by
        rcases List.mem_append.mp hl with hl | hl
        · rcases List.mem_append.mp hl with hl | hl
          · exact hlo l (List.mem_of_mem_take hl)
          · rw [List.mem_singleton.mp hl]; exact hbo
        · exact hlo l (List.mem_of_mem_drop hl)
      have hfit2 : sumL (ls.take kk ++ [b] ++ ls.drop (kk + 1)) + (ls.take kk ++ [b] ++ ls.drop (kk + 1)).length * ("\n" : Str).length ≤ 16777216 := by
        rw [join_len hn] at hlw
        rw [hn, Nat.mul_one]
        omega
      refine sJoin_i hfit2 ?_
      exact fin.as (h _ hlo2 hlw)
end
end
local macro_rules | `(tactic| specialize "fun") => `(tactic| ((with_reducible show wE _ _ (Expr.Call (Expr.Name (Str.ofString "_law_spoilt") _) _ _ _) _ _ _); refine xE_call (cf_spoilt (by assumption) (by assumption)) (Room.mono (by assumption) (by decide)) ?_))

end
section
local macro_rules | `(tactic| specialize "fun") => `(tactic| ((with_reducible show wE _ _ (Expr.Call (Expr.Name (Str.ofString "_law_taken") _) _ _ _) _ _ _); refine xE_call (cf_law_taken (by assumption) (by assumption)) (Room.mono (by assumption) (by decide)) ?_))
local macro_rules | `(tactic| specialize "s3") => `(tactic| ((with_reducible show asp_taken _ _ _ _ _); refine ⟨_, _, rfl, (by specialize "nth"), (by first | decide | omega), (by first | decide | omega), ?_⟩))
local macro_rules | `(tactic| specialize "fun") => `(tactic| ((with_reducible show wE _ _ (Expr.Call (Expr.Name (Str.ofString "_law_goal") _) _ _ _) _ _ _); refine xE_call (cf_law_goal (by assumption) (by assumption)) (Room.mono (by assumption) (by decide)) ?_))
local macro_rules | `(tactic| specialize "s3") => `(tactic| ((with_reducible show asp_law_goal _ _ _ _ _); refine ⟨_, _, rfl, (by specialize "nth"), (by omega), (by omega), ?_⟩))
local macro_rules | `(tactic| specialize "fun") => `(tactic| ((with_reducible show wE _ _ (Expr.Call (Expr.Name (Str.ofString "_law_wish") _) _ _ _) _ _ _); refine xE_call (cf_law_wish (by assumption) (by assumption)) (Room.mono (by assumption) (by decide)) ?_))
local macro_rules | `(tactic| specialize "s3") => `(tactic| ((with_reducible show asp_law_wish _ _ _ _ _); refine ⟨_, rfl, (by specialize "nth"), ?_⟩))

-- M18
section
variable {P : Program} {w : World} {K : PySem.W.Frag} {mg : Str → Option Value} {base : Heap} {C_PE C_BW C_BP C_BN C_BS C_NN C_BD C_BT : Addr}
def tx1 : List Str := ["", "\n", "beat", "beat\n", " beat", "beat ", "lift 5", "lift 6", "lift 05", "lift -0", "dial 0 7", "dial 0 8"]
def tx2 : List Str := tx1 ++ (["wish", "wish all 0 1", "wish all 0 0", "wish all 0 7", "wish all 0 8", "wish late 0 1 9", "wish late 0 1 0"] : List Str)
def tx3 : List Str := tx2 ++ (["wish late 0 1 10", "wish bar 0 6", "wish bar 0 5", "wish wait 0\nwish wait 0", "wish wait 0\nwish wait 1"] : List Str)
def tx4 : List Str := tx3 ++ (["wish all 0 1\nwish all 0 2", "wish bar 0 1\nwish bar 0 2", "beat\nwish wait 0", "wish group 6 0 5"] : List Str)
def tx5 : List Str := tx4 ++ (["wish group 6", "wish group 6 5 0", "wish group 8 0", "wish group 7 0 0", "group 6 0", "wish lift 0", "Beat"] : List Str)
def barT (k : Nat) : Str := "wish bar " ++ dg ((k : Int) / 5) ++ " " ++ dg (((k : Int) / 5 + 1 + (k : Int) % 5) % 6)
def barsT : List Str := (List.range 25).map barT
def tx6 : List Str := tx5 ++ ([Txt.join "\n" barsT, Txt.join "\n" (barsT.take 24 ++ (["beat"] : List Str)), Txt.join "\n" (List.replicate 200 "beat"), Txt.join "\n" (List.replicate 201 "beat")] : List Str)
theorem rep_flatS {n : Nat} {z : Str} : (List.replicate n [W.str z]).flatten = (List.replicate n z).map W.str := by
  rw [List.map_replicate]
  induction n with
  | zero => rfl
  | succ n ih => rw [List.replicate_succ, List.replicate_succ, List.flatten_cons, ih]; rfl
theorem cat_S1 {l : List Str} {z : Str} : List.map W.str l ++ [W.str z] = (l ++ [z]).map W.str := by rw [List.map_append]; rfl
def bnd : Nat → Nat
  | 0 => 340
  | n + 1 => 2 * bnd n + 20
theorem bnd_le {n : Nat} (h : n ≤ 2) : bnd n ≤ 1900 := by
  match n, h with
  | 0, _ => decide
  | 1, _ => decide
  | 2, _ => decide
theorem bnd_le3 {n : Nat} (h : n ≤ 3) : bnd n ≤ 3800 := by
  match n, h with
  | 0, _ => decide
  | 1, _ => decide
  | 2, _ => decide
  | 3, _ => decide
theorem joined_ok {l : List Str} (h : ∀ z ∈ l, PyData.strOk z = true ∧ z.length ≤ 12) (hl : l.length ≤ 201) : PyData.strOk (Txt.join "\n" l) = true ∧ (Txt.join "\n" l).length ≤ 3800 := by
  refine ⟨joinT_ok (by decide +kernel) fun z hz => (h z hz).1, ?_⟩
  rw [joinT_len, nl_len]
  have := sum_le2 (b := 12) (l := l) fun z hz => (h z hz).2
  omega
theorem barT_ok {k : Nat} (hk : k < 25) : PyData.strOk (barT k) = true ∧ (barT k).length ≤ 12 := by
  have d1 : (0 : Int) ≤ (k : Int) / 5 ∧ (k : Int) / 5 ≤ 9 := by omega
  have d2 : (0 : Int) ≤ ((k : Int) / 5 + 1 + (k : Int) % 5) % 6 ∧ ((k : Int) / 5 + 1 + (k : Int) % 5) % 6 ≤ 9 := by omega
  refine ⟨app_ok (app_ok (app_ok (by decide +kernel) (dg_ok d1.1 d1.2)) (by decide +kernel)) (dg_ok d2.1 d2.2), ?_⟩
  unfold barT
  rw [app_len, app_len, app_len, dg_len d1.1 d1.2, dg_len d2.1 d2.2, bl_len, show ("wish bar " : Str).length = 9 by decide +kernel]
  decide
theorem barsT_ok : ∀ z ∈ barsT, PyData.strOk z = true ∧ z.length ≤ 12 := by
  intro z hz
  obtain ⟨k, hk, rfl⟩ := List.mem_map.mp hz
  exact barT_ok (List.mem_range.mp hk)
theorem beat_ok : PyData.strOk ("beat" : Str) = true ∧ ("beat" : Str).length ≤ 12 := by decide +kernel
theorem tx5_ok : ∀ z ∈ tx5, PyData.strOk z = true ∧ z.length ≤ 3800 := by decide +kernel
theorem tx6_ok : ∀ z ∈ tx6, PyData.strOk z = true ∧ z.length ≤ 3800 := by
  intro z hz
  rcases List.mem_append.mp hz with hz | hz
  · exact tx5_ok z hz
  · simp only [List.mem_cons, List.not_mem_nil, or_false] at hz
    rcases hz with rfl | rfl | rfl | rfl
    · exact joined_ok barsT_ok (by decide)
    · refine joined_ok (fun z hz => ?_) (by decide)
      rcases List.mem_append.mp hz with hz | hz
      · exact barsT_ok z (List.mem_of_mem_take hz)
      · rw [List.mem_singleton.mp hz]; exact beat_ok
    · exact joined_ok (fun z hz => by rw [List.eq_of_mem_replicate hz]; exact beat_ok) (by rw [List.length_replicate]; decide)
    · exact joined_ok (fun z hz => by rw [List.eq_of_mem_replicate hz]; exact beat_ok) (by rw [List.length_replicate]; decide)
theorem sWd_excO {X : Cx} {k : Nat} {f d : Addr} {dv : Option (Addr × Int)} {pr : Arguments} {bd : Expr} {sc : Scope} {E : AEnv} {S : Sto} {Φ : W → Sto → Prop} {cls0 : Value} {fs0 : List (Str × W)} {u0 : W} (hw : wordW C_PE C_BW C_BP C_BN C_BS C_NN C_BD C_BT cls0 fs0 u0) (hL : LamV X.N X.env.scope sc) (hB : LamB pr bd sc dv)
    (body : ∀ (A : Around) (outer : List Env) (s0 : Shared) (H0 : Hp) (Ech : XK), Room k (A.deeper (LamX.lamEnv X sc s0.heap.objs.size f d)) → wE (LamX.lamCx X A outer s0 H0 Ech sc f d) (fun cls fs _ S2 => cls = cls0 ∧ fs = fs0 ∧ Old S S2) bd E S fun _ _ => False) (h : ∀ S2, Old S S2 → Φ u0 S2) :
    sWd X k C_PE C_BW C_BP C_BN C_BS C_NN C_BD C_BT (.thg f (lamFs f d (X.env.qual ++ "<lambda>") pr bd sc (cloFrom X.env.cells sc.names []) dv)) E S Φ :=
  ⟨f, d, dv, pr, bd, sc, fun cls fs _ S2 => cls = cls0 ∧ fs = fs0 ∧ Old S S2, fun _ _ => False, rfl, hL, hB, body, fun _ _ z => z.elim, fun cls fs E2 S2 ⟨e1, e2, e3⟩ => ⟨u0, by rw [e1, e2]; exact hw, h _ e3⟩⟩
def asp_law (K : PySem.W.Frag) (Pt : Addr) (q : Str) : ASp := fun ws S Φ _ => ∃ ns, ws = [.scr K ns] ∧ ns.length ≤ 63 ∧ S[0]? = some (.tab Pt q) ∧ Φ (.bl true) S
section
local macro_rules | `(tactic| specialize "st") => `(tactic| ((with_reducible show wS _ _ (Stmt.Assign [Expr.Name (Str.ofString "_law_row") _] _ _) _ _ _); refine' xS_set ?k1 (of_decide_eq_true (by kernel_rfl)) ?_; (case k1 => specialize "idx"); refine xE_lstN ?_))
local macro_rules | `(tactic| specialize "st") => `(tactic| ((with_reducible show wS _ _ (Stmt.Assign [Expr.Name (Str.ofString "_law_some") _] (Expr.List _ _) _) _ _ _); refine stop_i ?_))
local macro_rules | `(tactic| specialize "st") => `(tactic| ((with_reducible show wS _ _ (Stmt.Assign [Expr.Name (Str.ofString "_law_some") _] (Expr.BinOp _ _ _ _) _) _ _ _); refine stop_i ?_))
local macro_rules | `(tactic| specialize "plus") => `(tactic| ((with_reducible show wE _ _ (Expr.BinOp (Expr.Name (Str.ofString "_law_some") _) Operator.Add _ _) _ _ _); refine xE_catN ?_))
local macro_rules | `(tactic| specialize "s2") => `(tactic| ((with_reducible show sCatN _ _ _ _); refine sCatN_i (by specialize "itm") (by specialize "itm") (fun _ e => nomatch e) (fun _ e => nomatch e) (by first | exact Nat.le_of_ble_eq_true rfl | (specialize "len")) ?_))
local macro_rules | `(tactic| specialize "ex") => `(tactic| ((with_reducible show wE _ _ (Expr.Call (Expr.Attribute _ (Str.ofString "join") _) _ _ _) _ _ _); refine xE_join ?_))
local macro_rules | `(tactic| specialize "s3") => `(tactic| ((with_reducible show sStr _ _); refine sStr_i ?_))
local macro_rules | `(tactic| specialize "s0") => `(tactic| ((with_reducible show sLc _ _ _ _ _ _ _ _ _ _); refine stop_i ?_))
local macro_rules | `(tactic| specialize "fun") => `(tactic| ((with_reducible show wE _ _ (Expr.Call (Expr.Name (Str.ofString "str") _) _ _ _) _ _ _); refine xE_str (GL.b_str (by assumption)) ?_))
local macro_rules | `(tactic| specialize "s3") => `(tactic| ((with_reducible show sStrOf (W.int _) _ _); refine sStrOf_I (dg_log (by omega) (by omega)) ?_))
local macro_rules | `(tactic| specialize "st") => `(tactic| ((with_reducible show wS _ _ (Stmt.Assign [Expr.Name (Str.ofString "_law_bars") _] _ _) _ _ _); refine stop_i ?_))
local macro_rules | `(tactic| specialize "slice") => `(tactic| ((with_reducible show wE _ _ (Expr.Subscript (Expr.Name (Str.ofString "_law_bars") _) _ _) _ _ _); refine xE_slL ?_))
local macro_rules | `(tactic| specialize "plus") => `(tactic| ((with_reducible show wE _ _ (Expr.BinOp (Expr.Subscript (Expr.Name (Str.ofString "_law_bars") _) _ _) Operator.Add _ _) _ _ _); refine xE_cat ?_))
local macro_rules | `(tactic| specialize "s2") => `(tactic| ((with_reducible show sCut (W.lst (List.map _ _)) none (some _) _ _); refine sCut_toS (by first | assumption | omega) ?_))
local macro_rules | `(tactic| specialize "fun") => `(tactic| ((with_reducible show wE _ _ (Expr.Call (Expr.Name (Str.ofString "_law_wishes") _) _ _ _) _ _ _); refine xE_call (cf_law_wishes (by assumption) (by assumption)) (Room.mono (by assumption) (by decide)) ?_))
local macro_rules | `(tactic| specialize "fun") => `(tactic| ((with_reducible show wE _ _ (Expr.Call (Expr.Name (Str.ofString "_law_any") _) _ _ _) _ _ _); refine xE_call (cf_law_any (by assumption) (by assumption)) (Room.mono (by assumption) (by decide)) ?_))
local macro_rules | `(tactic| specialize "fun") => `(tactic| ((with_reducible show wE _ _ (Expr.Call (Expr.Name (Str.ofString "_law_rows") _) _ _ _) _ _ _); refine xE_call (cf_law_rows (by assumption) (by assumption)) (Room.mono (by assumption) (by decide)) ?_))
local macro_rules | `(tactic| specialize "fun") => `(tactic| ((with_reducible show wE _ _ (Expr.Call (Expr.Name (Str.ofString "_law_spoilt") _) _ _ _) _ _ _); refine xE_call (cf_spoilt (by assumption) (by assumption)) (Room.mono (by assumption) (by decide)) ?_))
local macro_rules | `(tactic| specialize "fun") => `(tactic| ((with_reducible show wE _ _ (Expr.Call (Expr.Name (Str.ofString "_law_read") _) _ _ _) _ _ _); refine xE_call (cf_lread (by assumption) (by assumption)) (Room.mono (by assumption) (by decide)) ?_))
local macro_rules | `(tactic| specialize "fun") => `(tactic| ((with_reducible show wE _ _ (Expr.Call (Expr.Name (Str.ofString "_law_alike") _) _ _ _) _ _ _); refine xE_call (cf_law_alike (by assumption) (by assumption) 4) (Room.mono (by assumption) (by decide)) ?_))
local macro_rules | `(tactic| specialize "fun") => `(tactic| ((with_reducible show wE _ _ (Expr.Call (Expr.Name (Str.ofString "read") _) _ _ _) _ _ _); refine xE_call (cf_readF (by assumption) (by assumption) (by assumption) (by assumption)) (Room.mono (by assumption) (by decide)) ?_))
local macro_rules | `(tactic| specialize "fun") => `(tactic| ((with_reducible show wE _ _ (Expr.Call (Expr.Name (Str.ofString "_law_word") _) _ _ _) _ _ _); refine stop_i ?_))
local macro_rules | `(tactic| specialize "s3") => `(tactic| ((with_reducible show asp_law_wishes _ _ _ _ _); refine ⟨_, _, rfl, (by specialize "nth"), (by decide), (by decide), ?_⟩))
local macro_rules | `(tactic| specialize "s3") => `(tactic| ((with_reducible show asp_law_any _ _ _ _ _); refine ⟨_, _, rfl, (by specialize "nth"), (by decide), (by decide), ?_⟩))
local macro_rules | `(tactic| specialize "s3") => `(tactic| ((with_reducible show asp_law_rows _ _ _ _); refine ⟨_, _, rfl, (by omega), (by assumption), (by omega), (by assumption), ?_⟩))
theorem law_hbody (G : GL mg) (D : DS K mg) (N : EE K mg C_PE C_BW C_BP C_BN C_BS C_NN C_BD C_BT) (T : KTabA K w mg "SIZES" sizesL) {c Pt : Addr} (TB : LamX.TabB base mg c Pt) {f : Addr} {A : Around} {outer : List Env} {s : Shared} {H : Hp} {E : XK} (hr : Room 12 (A.deeper (envOfC "law" (defScope s_law) s.heap.objs.size f (.ref c)))) (ws : List W) (S : Sto) (Φ : W → Sto → Prop) (Ψ : Value → List (Str × W) → Sto → Prop) (hl : ws.length = 1) (hS : Srl S) (ha : asp_law K Pt (("law" : Str) ++ ".<locals>." ++ "<lambda>") ws S Φ Ψ) :
    wB (cxOf (L2.CX P w) P w K mg base ["_law_script", "_law_row", "_law_some", "_law_bars", "_law_k", "_law_turn", "_law_text", "_law_change", "_law_one", "_law_bad", "_law_due"] "law" (defScope s_law) f (.ref c) A outer s H E) (fun cls fs _ S2 => Ψ cls fs S2) (defBody s_law) (startW (["_law_script", "_law_row", "_law_some", "_law_bars", "_law_k", "_law_turn", "_law_text", "_law_change", "_law_one", "_law_bad", "_law_due"] : List Str).length ws) S ⟨fun _ S2 => fin S.length Φ .non S2, fin S.length Φ, fun _ _ => False, fun _ _ => False⟩ := by
  obtain ⟨ns, rfl, hns, ht, h⟩ := ha
  have h0l : 0 < S.length := (List.getElem?_eq_some_iff.mp ht).1
  specialize "go"
  unfold Stop
  have hq : (S ++ [O.lst [.scr K ns, .int 0, .int 0]])[S.length]? = some (rowL K ns 0 0) := nth_new0
  refine wS.less (imp_fold hq ⟨hns, by decide, by decide, by decide⟩) ?_
  rw [set_new0]
  have hr0 : (S ++ [O.row K])[S.length]? = some (.row K) := nth_new0
  have ht0 : (S ++ [O.row K])[0]? = some (.tab Pt _) := (List.getElem?_append_left h0l).trans ht
  show wS _ _ _ _ (S ++ [O.row K]) _
  generalize hS0 : S ++ [O.row K] = S0 at hr0 ht0 ⊢
  refine' xS_set ?k1 (of_decide_eq_true (by kernel_rfl)) ?_
  (case k1 => specialize "idx")
  refine xE_lstN ?_
  specialize "go"
  unfold Stop
  rw [set_new0, List.set_cons_zero]
  show wS _ _ _ _ (S0 ++ [O.lst (tx1.map W.str)]) _
  have g1 : (S0 ++ [O.lst (tx1.map W.str)])[S0.length]? = some (.lst (tx1.map W.str)) := nth_new0
  have old1 : Old S0 (S0 ++ [O.lst (tx1.map W.str)]) := Old.app
  generalize S0 ++ [O.lst (tx1.map W.str)] = S1 at g1 old1 ⊢
  generalize S0.length = j1 at g1 ⊢
  refine' xS_set ?k1 (of_decide_eq_true (by kernel_rfl)) ?_
  (case k1 => specialize "idx")
  specialize "go"
  unfold Stop
  rw [set_new0, List.set_cons_zero]
  show wS _ _ _ _ (S1 ++ [O.lst (tx2.map W.str)]) _
  have g2 : (S1 ++ [O.lst (tx2.map W.str)])[S1.length]? = some (.lst (tx2.map W.str)) := nth_new0
  have old2 : Old S1 (S1 ++ [O.lst (tx2.map W.str)]) := Old.app
  generalize S1 ++ [O.lst (tx2.map W.str)] = S2 at g2 old2 ⊢
  generalize S1.length = j2 at g2 ⊢
  refine' xS_set ?k1 (of_decide_eq_true (by kernel_rfl)) ?_
  (case k1 => specialize "idx")
  specialize "go"
  unfold Stop
  rw [set_new0, List.set_cons_zero]
  show wS _ _ _ _ (S2 ++ [O.lst (tx3.map W.str)]) _
  have g3 : (S2 ++ [O.lst (tx3.map W.str)])[S2.length]? = some (.lst (tx3.map W.str)) := nth_new0
  have old3 : Old S2 (S2 ++ [O.lst (tx3.map W.str)]) := Old.app
  generalize S2 ++ [O.lst (tx3.map W.str)] = S3 at g3 old3 ⊢
  generalize S2.length = j3 at g3 ⊢
  refine' xS_set ?k1 (of_decide_eq_true (by kernel_rfl)) ?_
  (case k1 => specialize "idx")
  specialize "go"
  unfold Stop
  show wS _ _ _ _ (S3 ++ [O.lst (tx4.map W.str)]) _
  have g4 : (S3 ++ [O.lst (tx4.map W.str)])[S3.length]? = some (.lst (tx4.map W.str)) := nth_new0
  have old4 : Old S3 (S3 ++ [O.lst (tx4.map W.str)]) := Old.app
  generalize S3 ++ [O.lst (tx4.map W.str)] = S4 at g4 old4 ⊢
  generalize S3.length = j4 at g4 ⊢
  refine' xS_set ?k1 (of_decide_eq_true (by kernel_rfl)) ?_
  (case k1 => specialize "idx")
  specialize "go"
  unfold Stop
  rw [set_new0, List.set_cons_zero]
  show wS _ _ _ _ (S4 ++ [O.lst (tx5.map W.str)]) _
  have g5 : (S4 ++ [O.lst (tx5.map W.str)])[S4.length]? = some (.lst (tx5.map W.str)) := nth_new0
  have old5 : Old S4 (S4 ++ [O.lst (tx5.map W.str)]) := Old.app
  generalize S4 ++ [O.lst (tx5.map W.str)] = S5 at g5 old5 ⊢
  generalize S4.length = j5 at g5 ⊢
  specialize "lcS"
  specialize "go"
  unfold Stop
  refine sLc_i (xs := List.range 25) (enc := fun k : Nat => .int ((0 : Int) + (k : Int))) (p := fun _ => true) (g := fun k : Nat => W.str (barT k)) trivial (by decide) (fun x hx => ?_) ?_
  · have hx6 : x < 25 := List.mem_range.mp hx
    rw [Int.zero_add (x : Int)]
    have d1 : (0 : Int) ≤ (x : Int) / 5 ∧ (x : Int) / 5 ≤ 9 := by omega
    have d2 : (0 : Int) ≤ ((x : Int) / 5 + 1 + (x : Int) % 5) % 6 ∧ ((x : Int) / 5 + 1 + (x : Int) % 5) % 6 ≤ 9 := by omega
    have l1 : (toString ((x : Int) / 5) : Str).length = 1 := dg_len d1.1 d1.2
    have l2 : (toString (((x : Int) / 5 + 1 + (x : Int) % 5) % 6) : Str).length = 1 := dg_len d2.1 d2.2
    have l0 : ("wish bar " : Str).length = 9 := by decide +kernel
    specialize "go"
    refine sAdd_S (by rw [l0, l1, sizeLine_eq]; decide) ?_
    specialize "go"
    refine sAdd_S (by rw [app_len, l0, l1, bl_len, sizeLine_eq]; decide) ?_
    specialize "go"
    refine sAdd_S (by rw [app_len, app_len, l0, l1, bl_len, l2, sizeLine_eq]; decide) ?_
    exact ⟨rfl, rfl⟩
  rw [List.filter_eq_self.mpr fun _ _ => rfl, show List.map (fun k : Nat => W.str (barT k)) (List.range 25) = barsT.map W.str by unfold barsT; rw [List.map_map]; rfl]
  specialize "go"
  unfold Stop
  refine' xS_set ?k1 (of_decide_eq_true (by kernel_rfl)) ?_
  (case k1 => specialize "idx")
  specialize "go"
  refine sJoin_i (by decide +kernel) ?_
  specialize "go"
  rw [cat_S1]
  refine sJoin_i (by decide +kernel) ?_
  specialize "go"
  rw [rep_flatS]
  refine sJoin_i (by decide +kernel) ?_
  specialize "go"
  rw [rep_flatS]
  refine sJoin_i (by decide +kernel) ?_
  specialize "go"
  rw [set_new0, List.set_cons_zero]
  show wS _ _ _ _ (S5 ++ [O.lst (tx6.map W.str)]) _
  have g6 : (S5 ++ [O.lst (tx6.map W.str)])[S5.length]? = some (.lst (tx6.map W.str)) := nth_new0
  have old6 : Old S5 (S5 ++ [O.lst (tx6.map W.str)]) := Old.app
  generalize S5 ++ [O.lst (tx6.map W.str)] = S6 at g6 old6 ⊢
  generalize S5.length = j6 at g6 ⊢
  have oldA : Old S0 S6 := old1.trans (old2.trans (old3.trans (old4.trans (old5.trans old6))))
  have hr6 := oldA.get hr0
  have ht6 := oldA.get ht0
  refine wS_for (passes_of rfl) rfl ?_
  specialize "go"
  refine ⟨fun i E' S' => (∃ a5 a6 a7 a8 a9 a10, E' = [some (.scr K ns), some (.ref S.length), some (.ref j6), some (.lst (barsT.map W.str)), none, a5, a6, a7, a8, a9, a10]) ∧ Old S6 S', ⟨⟨_, _, _, _, _, _, rfl⟩, Old.refl⟩, fun _ _ _ _ => trivial, ?_, ?_⟩
  · rintro i w E' S7 hw ⟨⟨a5, a6, a7, a8, a9, a10, rfl⟩, old7⟩
    obtain ⟨xt, hxt, rfl⟩ := map_inv hw
    have hr7 := old7.get hr6
    have ht7 := old7.get ht6
    have g7 := old7.get g6
    specialize "go"
    intro xs hx1 hx2 hx3
    specialize "go"
    intro ds hd1 hd2
    have hx9 : xs.length ≤ 9 := by omega
    have hd9 : ds.length ≤ 9 := by omega
    have hx24 : xs.length ≤ 24 := by omega
    have hd200 : ds.length ≤ 200 := by omega
    have hfit := text_fits hx2 hd2 hx24 hd200
    have htl := text_len9 hx2 hd2 hx9 hd9
    have hto := textF_ok hx2 hd2
    specialize "go"
    dsimp only
    refine sJoin_i hfit ?_
    have e0 : Txt.join "\n" (rowsF xs ds) = textF xs ds := rfl
    rw [e0]
    generalize textF xs ds = x0 at htl hto ⊢
    specialize "go"
    refine wS_for (passes_of rfl) rfl ?_
    specialize "go"
    intro v hv0 hv1
    specialize "go"
    refine ⟨fun i E' S' => S' = S7 ∧ i ≤ 3 ∧ ∃ y a7, PyData.strOk y = true ∧ y.length ≤ bnd i ∧ E' = [some (.scr K ns), some (.ref S.length), some (.ref j6), some (.lst (barsT.map W.str)), none, some (.int (0 + (xt : Int))), some (.str y), a7, a8, a9, a10], ⟨rfl, by decide, x0, _, hto, htl, rfl⟩, fun _ _ _ _ => trivial, ?_, ?_⟩
    · rintro i w E' S' hw ⟨rfl, hi3, y, b7, hyo, hyl, rfl⟩
      obtain ⟨x2, hx2, rfl⟩ := map_inv hw
      have hi2 : i ≤ 2 := by
        have := (List.getElem?_eq_some_iff.mp hx2).1
        rw [List.length_range] at this
        omega
      have hb := bnd_le hi2
      specialize "go"
      refine ⟨_, y, rfl, by specialize "nth", hyo, by omega, ?_⟩
      intro z hzo hzl
      specialize "go"
      dsimp only
      refine dropTo.as ?_
      exact ⟨rfl, by omega, z, _, hzo, by show z.length ≤ 2 * bnd i + 20; omega, rfl⟩
    · rintro E' S' ⟨rfl, hi3, y, b7, hyo, hyl, rfl⟩
      have hyl2 : y.length ≤ 3800 := Nat.le_trans hyl (bnd_le3 hi3)
      clear hyl hi3
      specialize "go"
      refine wS_for (passes_of rfl) rfl ?_
      refine xI_list ?_
      specialize "go"
      intro p hp0 hp1
      obtain ⟨z, hz, hzm⟩ : ∃ z, atI (tx6.map W.str) p = some (.str z) ∧ z ∈ tx6 := by
        obtain ⟨n, rfl, hn⟩ : ∃ n : Nat, p = n ∧ n < tx6.length := ⟨p.toNat, by omega, by rw [List.length_map] at hp1; omega⟩
        refine ⟨tx6[n], atI_nat ?_, List.getElem_mem hn⟩
        rw [List.getElem?_map, List.getElem?_eq_getElem hn]
        rfl
      obtain ⟨hzo, hzl⟩ := tx6_ok z hzm
      refine sIx_i (w := .str z) (items_of g7) hz ?_
      specialize "go"
      refine sWL_l ?_
      refine ⟨fun i E' S'' => (∃ a8 a9 a10, E' = [some (.scr K ns), some (.ref S.length), some (.ref j6), some (.lst (barsT.map W.str)), none, some (.int (0 + (xt : Int))), some (.str y), b7, a8, a9, a10]) ∧ Old S' S'', ⟨⟨_, _, _, rfl⟩, Old.refl⟩, fun _ _ _ _ => trivial, ?_, ?_⟩
      · rintro i w E' S9 hw ⟨⟨a8, a9, a10, rfl⟩, old9⟩
        obtain ⟨q, rfl, hqo, hql⟩ : ∃ q, w = .str q ∧ PyData.strOk q = true ∧ q.length ≤ 3800 := by
          match i, hw with
          | 0, hw => cases hw; exact ⟨y, rfl, hyo, hyl2⟩
          | 1, hw => cases hw; exact ⟨z, rfl, hzo, hzl⟩
        have ht9 := old9.get ht7
        specialize "go"
        refine ⟨q, rfl, hqo, hql, ?_⟩
        cases e : runP (rowsP q) 0 ([], []) with
        | inl n =>
          specialize "go"
          unfold Stop
          refine wE.imp (word_of (k := 10) (Φ := fun r S2 => r = .tup [.str "text", .int n] ∧ Old S9 S2) G D N hr (wE_lam TB rfl ht9 (lamV_by (by kernel_rfl)) fun f' d' => sWd_excO (cls0 := .ref C_BT) (fs0 := [(("row" : Str), W.int n)]) (u0 := .tup [.str "text", .int n]) ⟨_, rfl, rfl, rfl⟩ (lamV_by (by kernel_rfl)) (fun _ _ _ _ _ _ => rfl) (fun A' outer' s0 H0 Ech hr' => ?_) fun S2 o => ⟨rfl, o⟩)) ?_
          · refine xE_call (cf_readF (by assumption) (by assumption) (by assumption) (by assumption)) (Room.mono (by assumption) (by decide)) ?_
            specialize "go"
            refine ⟨q, rfl, hqo, by omega, fun st e' => ?_, fun n' e' S2 o => ?_⟩
            · rw [e] at e'; cases e'
            · rw [e] at e'; cases e'; exact ⟨rfl, rfl, o⟩
          · rintro r S2 ⟨rfl, o⟩
            specialize "go"
            dsimp only
            refine dropTo.as ?_
            exact ⟨⟨_, _, _, rfl⟩, old9.trans o⟩
        | inr st =>
          specialize "go"
          refine ⟨q, rfl, hqo, by omega, fun st' e' rok => ?_, fun n' e' S2 o => ?_⟩
          · rw [e] at e'
            cases e'
            have k1 : (S9 ++ readS st)[S9.length]? = some (.lst (st.1.map Wish.w)) := nth_new0
            have k2 : (S9 ++ readS st)[S9.length + 1]? = some (.lst (st.2.map Deed.w)) := nth_new (i := 1)
            have o : Old S9 (S9 ++ readS st) := Old.app
            have tr := TR_found k1 k2 rok.ok1 rok.l1 rok.l2
            specialize "go"
            refine ⟨_, _, rfl, tr, ?_⟩
            specialize "go"
            dsimp only
            refine dropTo.as ?_
            exact ⟨⟨_, _, _, rfl⟩, old9.trans o⟩
          · rw [e] at e'; cases e'
      · rintro E' S9 ⟨⟨a8, a9, a10, rfl⟩, old9⟩
        dsimp only
        refine dropTo.as ?_
        exact ⟨⟨_, _, _, _, _, _, rfl⟩, old7.trans old9⟩
  · rintro E' S7 ⟨⟨a5, a6, a7, a8, a9, a10, rfl⟩, old7⟩
    specialize "go"
    have o : Old S S7 := (show Old S S0 from by rw [← hS0]; exact Old.app).trans (oldA.trans old7)
    rw [o.split]
    exact fin.drop (Nat.le_refl _) hS (.bl true) h
end
end

end
-- H_k18
theorem all_facts {K : PySem.W.Frag} {h : Heap} {mg : Str → Option Value} (X : K.In h) (G : h.Ns mainGlobals mg)
    (r_is_number : RawDef K "is_number" "is_number" s_is_number)
    (r_is_phone : RawDef K "is_phone" "is_phone" s_is_phone)
    (r_are_members : RawDef K "are_members" "are_members" s_are_members)
    (r_is_wish : RawDef K "is_wish" "is_wish" s_is_wish)
    (r_key_of : RawDef K "key_of" "key_of" s_key_of)
    (r_is_deed : RawDef K "is_deed" "is_deed" s_is_deed)
    (r_number_of : RawDef K "number_of" "number_of" s_number_of)
    (r_thing_of : RawDef K "thing_of" "thing_of" s_thing_of)
    (r_read : RawDef K "read" "read" s_read)
    (r_law_taken : RawDef K "_law_taken" "_law_taken" s_law_taken)
    (r_law_alike : RawDef K "_law_alike" "_law_alike" s_law_alike)
    (r_law_word : RawDef K "_law_word" "_law_word" s_law_word)
    (r_law_goal : RawDef K "_law_goal" "_law_goal" s_law_goal)
    (r_law_wish : RawDef K "_law_wish" "_law_wish" s_law_wish)
    (r_law_wishes : RawDef K "_law_wishes" "_law_wishes" s_law_wishes)
    (r_law_any : RawDef K "_law_any" "_law_any" s_law_any)
    (r_law_rows : RawDef K "_law_rows" "_law_rows" s_law_rows)
    (r_law_wished : RawDef K "_law_wished" "_law_wished" s_law_wished)
    (r_law_read : RawDef K "_law_read" "_law_read" s_law_read)
    (r_law_spoilt : RawDef K "_law_spoilt" "_law_spoilt" s_law_spoilt)
    (r_law : RawDef K "law" "law" s_law)
    (b_isinstance : PySem.W.nsIn K mainGlobals "isinstance" = some none)
    (b_int : PySem.W.nsIn K mainGlobals "int" = some none)
    (b_bool : PySem.W.nsIn K mainGlobals "bool" = some none)
    (b_tuple : PySem.W.nsIn K mainGlobals "tuple" = some none)
    (b_str : PySem.W.nsIn K mainGlobals "str" = some none)
    (b_list : PySem.W.nsIn K mainGlobals "list" = some none)
    (b_len : PySem.W.nsIn K mainGlobals "len" = some none)
    (b_range : PySem.W.nsIn K mainGlobals "range" = some none)
    (b_enumerate : PySem.W.nsIn K mainGlobals "enumerate" = some none)
    (b_sorted : PySem.W.nsIn K mainGlobals "sorted" = some none)
    (b_set : PySem.W.nsIn K mainGlobals "set" = some none)
    (b_zip : PySem.W.nsIn K mainGlobals "zip" = some none)
    (b_max : PySem.W.nsIn K mainGlobals "max" = some none)
    (c_PHONES : ∃ t, PySem.W.nsIn K mainGlobals "PHONES" = some (some (.int 6 t)))
    (c_NUMBERS : ∃ t, PySem.W.nsIn K mainGlobals "NUMBERS" = some (some (.int 8 t)))
    (c_MOST_LATE : ∃ t, PySem.W.nsIn K mainGlobals "MOST_LATE" = some (some (.int 9 t)))
    (c_MOST_WISHES : ∃ t, PySem.W.nsIn K mainGlobals "MOST_WISHES" = some (some (.int 24 t)))
    (c_ALL : ∃ t, PySem.W.nsIn K mainGlobals "ALL" = some (some (.str "all" t)))
    (c_BUSY : ∃ t, PySem.W.nsIn K mainGlobals "BUSY" = some (some (.str "busy" t)))
    (c_LATE : ∃ t, PySem.W.nsIn K mainGlobals "LATE" = some (some (.str "late" t)))
    (c_WAIT : ∃ t, PySem.W.nsIn K mainGlobals "WAIT" = some (some (.str "wait" t)))
    (c_STILL : ∃ t, PySem.W.nsIn K mainGlobals "STILL" = some (some (.str "still" t)))
    (c_BAR : ∃ t, PySem.W.nsIn K mainGlobals "BAR" = some (some (.str "bar" t)))
    (c_GROUP : ∃ t, PySem.W.nsIn K mainGlobals "GROUP" = some (some (.str "group" t)))
    (c_MOST_DEEDS : ∃ t, PySem.W.nsIn K mainGlobals "MOST_DEEDS" = some (some (.int 200 t)))
    (c_WISH : ∃ t, PySem.W.nsIn K mainGlobals "WISH" = some (some (.str "wish" t)))
    (c_FIGURES : ∃ t, PySem.W.nsIn K mainGlobals "FIGURES" = some (some (.str "0123456789" t)))
    : GL mg ∧ DS K mg  :=
  ⟨⟨PySem.W.mg_none_of X G b_isinstance, PySem.W.mg_none_of X G b_int, PySem.W.mg_none_of X G b_bool, PySem.W.mg_none_of X G b_tuple, PySem.W.mg_none_of X G b_str, PySem.W.mg_none_of X G b_list, PySem.W.mg_none_of X G b_len, PySem.W.mg_none_of X G b_range, PySem.W.mg_none_of X G b_enumerate, PySem.W.mg_none_of X G b_sorted, PySem.W.mg_none_of X G b_set, PySem.W.mg_none_of X G b_zip, PySem.W.mg_none_of X G b_max, mgI_of X G c_PHONES, mgI_of X G c_NUMBERS, mgI_of X G c_MOST_LATE, mgI_of X G c_MOST_WISHES, mgS_of X G c_ALL, mgS_of X G c_BUSY, mgS_of X G c_LATE, mgS_of X G c_WAIT, mgS_of X G c_STILL, mgS_of X G c_BAR, mgS_of X G c_GROUP, mgI_of X G c_MOST_DEEDS, mgS_of X G c_WISH, mgS_of X G c_FIGURES⟩, ⟨RawDef.at r_is_number X G (fun _ _ _ _ _ _ us hl => match us, hl with | [_, _, _], _ => rfl), RawDef.at r_is_phone X G (fun _ _ _ _ _ _ us hl => match us, hl with | [_], _ => rfl), RawDef.at r_are_members X G (fun _ _ _ _ _ _ us hl => match us, hl with | [_], _ => rfl), RawDef.at r_is_wish X G (fun _ _ _ _ _ _ us hl => match us, hl with | [_], _ => rfl), RawDef.at r_key_of X G (fun _ _ _ _ _ _ us hl => match us, hl with | [_], _ => rfl), RawDef.at r_is_deed X G (fun _ _ _ _ _ _ us hl => match us, hl with | [_], _ => rfl), RawDef.at r_number_of X G (fun _ _ _ _ _ _ us hl => match us, hl with | [_], _ => rfl), RawDef.at r_thing_of X G (fun _ _ _ _ _ _ us hl => match us, hl with | [_], _ => rfl), RawDef.at r_read X G (fun _ _ _ _ _ _ us hl => match us, hl with | [_], _ => rfl), RawDef.at r_law_taken X G (fun _ _ _ _ _ _ us hl => match us, hl with | [_, _], _ => rfl), RawDef.at r_law_alike X G (fun _ _ _ _ _ _ us hl => match us, hl with | [_, _], _ => rfl), RawDef.at r_law_word X G (fun _ _ _ _ _ _ us hl => match us, hl with | [_], _ => rfl), RawDef.at r_law_goal X G (fun _ _ _ _ _ _ us hl => match us, hl with | [_, _], _ => rfl), RawDef.at r_law_wish X G (fun _ _ _ _ _ _ us hl => match us, hl with | [_], _ => rfl), RawDef.at r_law_wishes X G (fun _ _ _ _ _ _ us hl => match us, hl with | [_, _], _ => rfl), RawDef.at r_law_any X G (fun _ _ _ _ _ _ us hl => match us, hl with | [_, _], _ => rfl), RawDef.at r_law_rows X G (fun _ _ _ _ _ _ us hl => match us, hl with | [_, _], _ => rfl), RawDef.at r_law_wished X G (fun _ _ _ _ _ _ us hl => match us, hl with | [_, _], _ => rfl), RawDef.at r_law_read X G (fun _ _ _ _ _ _ us hl => match us, hl with | [_], _ => rfl), RawDef.at r_law_spoilt X G (fun _ _ _ _ _ _ us hl => match us, hl with | [_, _], _ => rfl), RawDef.at r_law X G (fun _ _ _ _ _ _ us hl => match us, hl with | [_], _ => rfl)⟩⟩

-- E_k18
theorem sp_lawT {K : PySem.W.Frag} {H : Hp} {a Pt : Addr} {q : Str} {ns : List Int} (hl : ns.length ≤ 63) (hP : H Pt = some (.tbl #[])) (hS : SqL K H a (ns.map V.int)) : conc 1 (asp_law K Pt q) [.ref a] H (fun v _ => v = .bl true) fun _ _ _ => False := by
  refine ⟨rfl, ⟨[Pt], []⟩, [.tab Pt q], [.scr K ns], fun w _ => w = .bl true, fun _ _ _ => False, ⟨by simp, rfl, ?_, (fun p hp => by cases hp), ?_⟩, .cons (.scr ?_) .nil, ⟨ns, rfl, hl, rfl, rfl⟩, ?_, fun cls fs d M2 S2 H2 h _ _ _ => h.elim⟩
  · intro k p o h1 h2
    cases k with
    | zero =>
      cases h1
      cases h2
      exact ⟨_, hP, .tab trivial fun pos cv e => by cases e⟩
    | succ k => cases h1
  · intro k P q e
    cases k with
    | zero => cases e; rfl
    | succ k => cases e
  · rcases hS with h | h
    · refine .inl ⟨h, fun m => ?_, fun m => nomatch m⟩
      have e := List.mem_singleton.mp m
      subst e
      rcases h with h | ⟨o, h⟩ <;> (rw [hP] at h; cases h)
    · exact .inr h
  · rintro v w M2 S2 H2 rfl _ a _
    cases a
    rfl
theorem oc_raw {K : PySem.W.Frag} {C : Addr} {nm q : Str} {N bs sn sub ab col dd k0 k1 k2 k3 k5} {bm} (h1 : K.lookup C = some (excClassObj nm q C N bs bm true sn sub ab col dd k0 k1 k2 k3 k5 "ValueError.__new__")) (h2 : PySem.HandSPX.refsVE bm = true) :
    ∃ nm q N bs bm sn sub ab col dd k0 k1 k2 k3 k5, K.lookup C = some (excClassObj nm q C N bs bm true sn sub ab col dd k0 k1 k2 k3 k5 "ValueError.__new__") ∧ PySem.HandSPX.refsVE bm = true := ⟨_, _, _, _, _, _, _, _, _, _, _, _, _, _, _, h1, h2⟩
def lamQ : Str := ("law" : Str) ++ ".<locals>." ++ "<lambda>"
theorem rec_by {q : Program} {x : Str} (h : (recsOf q).any (fun d => decide (d.name = x)) = true) : ∃ d ∈ recsOf q, d.name = x := by
  obtain ⟨d, h1, h2⟩ := List.any_eq_true.mp h
  exact ⟨d, h1, of_decide_eq_true h2⟩
theorem tab_of {K : PySem.W.Frag} {w : World} {h : Heap} {mg : Str → Option Value} {dS : Addr} {esS : Array DictEntry} {nS : Nat} {t0 t1 t2 t3 t4 t5 t6 t7 : Tok} (X : K.In h) (N : h.Ns mainGlobals mg)
    (sz_d : PySem.W.nsIn K mainGlobals "SIZES" = some (some (.ref dS)))
    (sz_l : K.lookup dS = some ⟨.type "dict", none, .dict esS nS, #[]⟩) (sz_t : PySem.W.KeysLit w.params esS.toList) (sz_s : (dS == sysModules) = false)
    (sz_0 : PySem.W.nsIn K dS "lift" = some (some (.int 2 t0)))
    (sz_1 : PySem.W.nsIn K dS "drop" = some (some (.int 2 t1)))
    (sz_2 : PySem.W.nsIn K dS "dial" = some (some (.int 3 t2)))
    (sz_3 : PySem.W.nsIn K dS "hold" = some (some (.int 2 t3)))
    (sz_4 : PySem.W.nsIn K dS "swap" = some (some (.int 2 t4)))
    (sz_5 : PySem.W.nsIn K dS "take" = some (some (.int 2 t5)))
    (sz_6 : PySem.W.nsIn K dS "join" = some (some (.int 2 t6)))
    (sz_7 : PySem.W.nsIn K dS "beat" = some (some (.int 1 t7)))
    (sz_c : keysChk esS.toList (sizesL.map Prod.fst) = true)
    : KTabA K w mg "SIZES" sizesL := by
  refine ⟨dS, esS, nS, PySem.W.mg_of X N sz_d, ⟨sz_l, sz_t, sz_s⟩, ?_, ?_⟩
  · intro kv hkv
    simp only [sizesL, List.mem_cons, List.not_mem_nil, or_false] at hkv
    rcases hkv with rfl | rfl | rfl | rfl | rfl | rfl | rfl | rfl
    · exact ⟨_, sz_0⟩
    · exact ⟨_, sz_1⟩
    · exact ⟨_, sz_2⟩
    · exact ⟨_, sz_3⟩
    · exact ⟨_, sz_4⟩
    · exact ⟨_, sz_5⟩
    · exact ⟨_, sz_6⟩
    · exact ⟨_, sz_7⟩
  · exact fun z hz => nsIn_no sz_l sz_c hz
theorem law_end {l : PySem.W.OpenLaw} {w : World} {K : PySem.W.Frag} {h : Heap} {mg : Str → Option Value} {fa : Addr} { C_PE C_BW C_BP C_BN C_BS C_NN C_BD C_BT : Addr} (X : K.In h) (N : h.Ns mainGlobals mg) (hfa : mg "law" = some (.ref fa)) (r_law : RawDef K "law" "law" s_law) (F : GL mg ∧ DS K mg ) (Q : EE K mg C_PE C_BW C_BP C_BN C_BS C_NN C_BD C_BT) (TZ : KTabA K w mg "SIZES" sizesL) {qp : Program} (T : TabD qp mg h) (ne : noTab K = true) (hx : ∃ d ∈ recsOf qp, d.name = "law") :
    LamX.LawAtS l w K (L2.CX l.prog w) 13 63 "_law_script" mg fa h := by
  obtain ⟨c, Pt, hc, nK, gP, C⟩ := T.at X ne hx
  obtain ⟨f, od, an, sl, oc, kV, dc, pm, cd, ct, h1, h2, h3, h4⟩ := r_law
  have e := hfa.symm.trans (PySem.W.mg_of X N h1)
  cases e
  refine ⟨PySem.W.fnOf "law" "law" (defArgs s_law) (defBody s_law) (defScope s_law) .none kV dc pm an cd ct, [(c, Pt)], conc 1 (asp_law K Pt lamQ), fun p hp => ?_, fun p hp => ?_, fun p hp => ?_, fun s v => .of_eq rfl, fun H a ns hl _ hP hS => sp_lawT hl (hP (c, Pt) (List.mem_singleton.mpr rfl)) hS, fun base _ _ TB => ?_⟩
  · rw [List.mem_singleton.mp hp]; exact gP
  · rw [List.mem_singleton.mp hp]; exact nK
  · rw [List.mem_singleton.mp hp]; exact C
  exact fn_okC (fun_mk h2 h3 h4) (hc _ _ _ _ _ hfa h2) sc_law (fun A outer s H E hr ws S Φ Ψ hl hS ha => law_hbody F.1 F.2 Q TZ (TB (c, Pt) (List.mem_singleton.mpr rfl)) hr ws S Φ Ψ hl hS ha)
theorem law_all {l : PySem.W.OpenLaw} {w : World} {fa : Addr} {K : PySem.W.Frag} {h : Heap} {mg : Str → Option Value} {dS : Addr} {esS : Array DictEntry} {nS : Nat} {t0 t1 t2 t3 t4 t5 t6 t7 : Tok} { C_PE C_BW C_BP C_BN C_BS C_NN C_BD C_BT : Addr} (X : K.In h) (G : h.Ns mainGlobals mg) (hfa : mg "law" = some (.ref fa)) {qp : Program} (T : TabD qp mg h) (ne : noTab K = true) (hx : ∃ d ∈ recsOf qp, d.name = "law")
    (r_is_number : RawDef K "is_number" "is_number" s_is_number)
    (r_is_phone : RawDef K "is_phone" "is_phone" s_is_phone)
    (r_are_members : RawDef K "are_members" "are_members" s_are_members)
    (r_is_wish : RawDef K "is_wish" "is_wish" s_is_wish)
    (r_key_of : RawDef K "key_of" "key_of" s_key_of)
    (r_is_deed : RawDef K "is_deed" "is_deed" s_is_deed)
    (r_number_of : RawDef K "number_of" "number_of" s_number_of)
    (r_thing_of : RawDef K "thing_of" "thing_of" s_thing_of)
    (r_read : RawDef K "read" "read" s_read)
    (r_law_taken : RawDef K "_law_taken" "_law_taken" s_law_taken)
    (r_law_alike : RawDef K "_law_alike" "_law_alike" s_law_alike)
    (r_law_word : RawDef K "_law_word" "_law_word" s_law_word)
    (r_law_goal : RawDef K "_law_goal" "_law_goal" s_law_goal)
    (r_law_wish : RawDef K "_law_wish" "_law_wish" s_law_wish)
    (r_law_wishes : RawDef K "_law_wishes" "_law_wishes" s_law_wishes)
    (r_law_any : RawDef K "_law_any" "_law_any" s_law_any)
    (r_law_rows : RawDef K "_law_rows" "_law_rows" s_law_rows)
    (r_law_wished : RawDef K "_law_wished" "_law_wished" s_law_wished)
    (r_law_read : RawDef K "_law_read" "_law_read" s_law_read)
    (r_law_spoilt : RawDef K "_law_spoilt" "_law_spoilt" s_law_spoilt)
    (r_law : RawDef K "law" "law" s_law)
    (b_isinstance : PySem.W.nsIn K mainGlobals "isinstance" = some none)
    (b_int : PySem.W.nsIn K mainGlobals "int" = some none)
    (b_bool : PySem.W.nsIn K mainGlobals "bool" = some none)
    (b_tuple : PySem.W.nsIn K mainGlobals "tuple" = some none)
    (b_str : PySem.W.nsIn K mainGlobals "str" = some none)
    (b_list : PySem.W.nsIn K mainGlobals "list" = some none)
    (b_len : PySem.W.nsIn K mainGlobals "len" = some none)
    (b_range : PySem.W.nsIn K mainGlobals "range" = some none)
    (b_enumerate : PySem.W.nsIn K mainGlobals "enumerate" = some none)
    (b_sorted : PySem.W.nsIn K mainGlobals "sorted" = some none)
    (b_set : PySem.W.nsIn K mainGlobals "set" = some none)
    (b_zip : PySem.W.nsIn K mainGlobals "zip" = some none)
    (b_max : PySem.W.nsIn K mainGlobals "max" = some none)
    (c_PHONES : ∃ t, PySem.W.nsIn K mainGlobals "PHONES" = some (some (.int 6 t)))
    (c_NUMBERS : ∃ t, PySem.W.nsIn K mainGlobals "NUMBERS" = some (some (.int 8 t)))
    (c_MOST_LATE : ∃ t, PySem.W.nsIn K mainGlobals "MOST_LATE" = some (some (.int 9 t)))
    (c_MOST_WISHES : ∃ t, PySem.W.nsIn K mainGlobals "MOST_WISHES" = some (some (.int 24 t)))
    (c_ALL : ∃ t, PySem.W.nsIn K mainGlobals "ALL" = some (some (.str "all" t)))
    (c_BUSY : ∃ t, PySem.W.nsIn K mainGlobals "BUSY" = some (some (.str "busy" t)))
    (c_LATE : ∃ t, PySem.W.nsIn K mainGlobals "LATE" = some (some (.str "late" t)))
    (c_WAIT : ∃ t, PySem.W.nsIn K mainGlobals "WAIT" = some (some (.str "wait" t)))
    (c_STILL : ∃ t, PySem.W.nsIn K mainGlobals "STILL" = some (some (.str "still" t)))
    (c_BAR : ∃ t, PySem.W.nsIn K mainGlobals "BAR" = some (some (.str "bar" t)))
    (c_GROUP : ∃ t, PySem.W.nsIn K mainGlobals "GROUP" = some (some (.str "group" t)))
    (c_MOST_DEEDS : ∃ t, PySem.W.nsIn K mainGlobals "MOST_DEEDS" = some (some (.int 200 t)))
    (c_WISH : ∃ t, PySem.W.nsIn K mainGlobals "WISH" = some (some (.str "wish" t)))
    (c_FIGURES : ∃ t, PySem.W.nsIn K mainGlobals "FIGURES" = some (some (.str "0123456789" t)))
    (g_C_PE : PySem.W.nsIn K mainGlobals "PhoneError" = some (some (.ref C_PE)))
    (g_C_BW : PySem.W.nsIn K mainGlobals "BadWish" = some (some (.ref C_BW)))
    (g_C_BP : PySem.W.nsIn K mainGlobals "BadPhone" = some (some (.ref C_BP)))
    (g_C_BN : PySem.W.nsIn K mainGlobals "BadNumber" = some (some (.ref C_BN)))
    (g_C_BS : PySem.W.nsIn K mainGlobals "BadState" = some (some (.ref C_BS)))
    (g_C_NN : PySem.W.nsIn K mainGlobals "NotNow" = some (some (.ref C_NN)))
    (g_C_BD : PySem.W.nsIn K mainGlobals "BadDeed" = some (some (.ref C_BD)))
    (g_C_BT : PySem.W.nsIn K mainGlobals "BadText" = some (some (.ref C_BT)))
    (ve : PySem.W.nsIn K mainGlobals "ValueError" = some none)
    (pga : PySem.W.specialIn K (.ref C_PE) "__getattribute__" = some (some (.builtin "type.__getattribute__")))
    (prd : PySem.W.readsIn K C_PE (.type "type") = true)
    (pvv : PySem.W.findCls K (.ref C_PE) (.type "type") "__init__" = some (.val (.builtin "ValueError.__init__")))
    (xc_hn : PySem.W.specialIn K (.builtin "object.__class__") "__get__" = some (some (.builtin "getset_descriptor.__get__")))
    (xc_ht : PySem.W.takesIn K (.builtin "object.__class__") = some true)
    (hg_BT : PySem.W.findIn K (.ref C_BT) "__getattribute__" = some (some (.builtin "BaseException.__getattribute__")))
    (hk_BT : PySem.W.findIn K (.ref C_BT) "__getattr__" = some none)
    (sb_BT : PySem.W.subIn K (.ref C_BT) (.type "BaseException") = some true)
    (hd_BT : PySem.W.hasDictIn K C_BT = true)
    (ha_BT : PySem.W.findIn K (.ref C_BT) "__class__" = some (some (.builtin "object.__class__")))
    (hm_BT : PySem.W.mroIn K C_BT (.type "object") = some true)
    (em_BT : PySem.W.exmOne K (.ref C_BT) (.ref C_PE) = some true)
    (k_BT_BW : PySem.W.kitOne K (.ref C_BT) (.ref C_BW) = some false)
    (k_BT_BP : PySem.W.kitOne K (.ref C_BT) (.ref C_BP) = some false)
    (k_BT_BN : PySem.W.kitOne K (.ref C_BT) (.ref C_BN) = some false)
    (k_BT_BS : PySem.W.kitOne K (.ref C_BT) (.ref C_BS) = some false)
    (k_BT_NN : PySem.W.kitOne K (.ref C_BT) (.ref C_NN) = some false)
    (k_BT_BD : PySem.W.kitOne K (.ref C_BT) (.ref C_BD) = some false)
    (k_BT_BT : PySem.W.kitOne K (.ref C_BT) (.ref C_BT) = some true)
    (kv_BT : PySem.W.kitOne K (.ref C_BT) (.type "ValueError") = some true)
    (ty_BT : PySem.W.typeIn K (.ref C_BT) = some (.type "type"))
    (kp_BT : PySem.W.keepIn K (.ref C_BT) = true)
    (oc_BT : ∃ nm q N bs bm sn sub ab col dd k0 k1 k2 k3 k5, K.lookup C_BT = some (excClassObj nm q C_BT N bs bm true sn sub ab col dd k0 k1 k2 k3 k5 "ValueError.__new__") ∧ PySem.HandSPX.refsVE bm = true)
    (sa_BT : PySem.W.findIn K (.ref C_BT) "__setattr__" = some (some (.builtin "object.__setattr__")))
    (ri_BT : RawMeth K C_BT "__init__" "BadText.__init__" s_BadText_init)
    (no_BT : PySem.W.findIn K (.ref C_BT) "row" = some none)
    (sz_d : PySem.W.nsIn K mainGlobals "SIZES" = some (some (.ref dS)))
    (sz_l : K.lookup dS = some ⟨.type "dict", none, .dict esS nS, #[]⟩) (sz_t : PySem.W.KeysLit w.params esS.toList) (sz_s : (dS == sysModules) = false)
    (sz_0 : PySem.W.nsIn K dS "lift" = some (some (.int 2 t0)))
    (sz_1 : PySem.W.nsIn K dS "drop" = some (some (.int 2 t1)))
    (sz_2 : PySem.W.nsIn K dS "dial" = some (some (.int 3 t2)))
    (sz_3 : PySem.W.nsIn K dS "hold" = some (some (.int 2 t3)))
    (sz_4 : PySem.W.nsIn K dS "swap" = some (some (.int 2 t4)))
    (sz_5 : PySem.W.nsIn K dS "take" = some (some (.int 2 t5)))
    (sz_6 : PySem.W.nsIn K dS "join" = some (some (.int 2 t6)))
    (sz_7 : PySem.W.nsIn K dS "beat" = some (some (.int 1 t7)))
    (sz_c : keysChk esS.toList (sizesL.map Prod.fst) = true)
    : LamX.LawAtS l w K (L2.CX l.prog w) 13 63 "_law_script" mg fa h :=
  law_end X G hfa r_law (all_facts X G r_is_number r_is_phone r_are_members r_is_wish r_key_of r_is_deed r_number_of r_thing_of r_read r_law_taken r_law_alike r_law_word r_law_goal r_law_wish r_law_wishes r_law_any r_law_rows r_law_wished r_law_read r_law_spoilt r_law b_isinstance b_int b_bool b_tuple b_str b_list b_len b_range b_enumerate b_sorted b_set b_zip b_max c_PHONES c_NUMBERS c_MOST_LATE c_MOST_WISHES c_ALL c_BUSY c_LATE c_WAIT c_STILL c_BAR c_GROUP c_MOST_DEEDS c_WISH c_FIGURES) ⟨(PySem.W.mg_of X G g_C_PE), (PySem.W.mg_of X G g_C_BW), (PySem.W.mg_of X G g_C_BP), (PySem.W.mg_of X G g_C_BN), (PySem.W.mg_of X G g_C_BS), (PySem.W.mg_of X G g_C_NN), (PySem.W.mg_of X G g_C_BD), (PySem.W.mg_of X G g_C_BT), (PySem.W.mg_none_of X G ve), pga, prd, pvv, ⟨⟨hg_BT, hk_BT, sb_BT, hd_BT, ha_BT, xc_hn, xc_ht, hm_BT⟩, em_BT, k_BT_BW, k_BT_BP, k_BT_BN, k_BT_BS, k_BT_NN, k_BT_BD, k_BT_BT, kv_BT⟩, ⟨oc_BT, sa_BT, sb_BT, ty_BT, kp_BT⟩, ri_BT, no_BT⟩ (tab_of X G sz_d sz_l sz_t sz_s sz_0 sz_1 sz_2 sz_3 sz_4 sz_5 sz_6 sz_7 sz_c) T ne hx
theorem raw_def {K : PySem.W.Frag} {x qual : Str} {st : Stmt} {f : Addr} {od an : Option Addr} {sl : Array (Option Value)} {oc kV dc pm cd ct : Value} (h1 : PySem.W.nsIn K mainGlobals x = some (some (.ref f)))
    (h2 : K.lookup f = some ⟨oc, od, .func (PySem.W.fnOf x qual (defArgs st) (defBody st) (defScope st) .none kV dc pm an cd ct), sl⟩) (h3 : PySem.W.codeIn K cd qual = true) (h4 : PySem.W.keepIn K (.ref f) = true) : RawDef K x qual st := ⟨_, _, _, _, _, _, _, _, _, _, h1, h2, h3, h4⟩
theorem raw_meth {K : PySem.W.Frag} {C : Addr} {m qual : Str} {st : Stmt} {f : Addr} {od an : Option Addr} {sl : Array (Option Value)} {oc kV dc pm cd ct : Value} (h1 : PySem.W.findIn K (.ref C) m = some (some (.ref f)))
    (h2 : K.lookup f = some ⟨oc, od, .func (PySem.W.fnOf m qual (defArgs st) (defBody st) (defScope st) .none kV dc pm an cd ct), sl⟩) (h3 : PySem.W.codeIn K cd qual = true) (h4 : PySem.W.keepIn K (.ref f) = true) (h5 : PySem.W.isFn K (.ref f) = true) : RawMeth K C m qual st := ⟨_, _, _, _, _, _, _, _, _, _, h1, h2, h3, h4, h5⟩
theorem raw_int {K : PySem.W.Frag} {x : Str} {i : Int} {t : Tok} (h1 : PySem.W.nsIn K mainGlobals x = some (some (.int i t))) : ∃ t, PySem.W.nsIn K mainGlobals x = some (some (.int i t)) := ⟨_, h1⟩
theorem raw_str {K : PySem.W.Frag} {x i : Str} {t : Tok} (h1 : PySem.W.nsIn K mainGlobals x = some (some (.str i t))) : ∃ t, PySem.W.nsIn K mainGlobals x = some (some (.str i t)) := ⟨_, h1⟩
end AM
open PySem PySem.W PyProof.Rows in
set_option maxRecDepth 100000 in
set_option maxHeartbeats 0 in
theorem PySem.Challenge.cw_phonehall_k18_texts_refused_holds : PySem.Challenge.rw_phonehall_k18_texts_refused.Holds := by
  refine AM.head_of ?_
  k_fill
  refine AM.walkT (l := PySem.Challenge.rw_phonehall_k18_texts_refused) (n := 63) (k := 13) (CX := fun w => L2.CX PySem.Challenge.rw_phonehall_k18_texts_refused.prog w) (x := "_law_script") rfl (by decide) rfl ⟨rfl, by decide, by decide⟩ (fun w h Y => PySem.W.km_in_of Y) ?F ?Z
  case Z =>
    rintro w H s e s' ⟨_, _, _, _, _, _, _, _, _, _, _, _, z⟩
    exact z
  case F =>
    intro w mg fa h KX G hmg T
    refine' AM.law_all KX G hmg T ?ne ?hx ?r_is_number ?r_is_phone ?r_are_members ?r_is_wish ?r_key_of ?r_is_deed ?r_number_of ?r_thing_of ?r_read ?r_law_taken ?r_law_alike ?r_law_word ?r_law_goal ?r_law_wish ?r_law_wishes ?r_law_any ?r_law_rows ?r_law_wished ?r_law_read ?r_law_spoilt ?r_law ?b_isinstance ?b_int ?b_bool ?b_tuple ?b_str ?b_list ?b_len ?b_range ?b_enumerate ?b_sorted ?b_set ?b_zip ?b_max ?c_PHONES ?c_NUMBERS ?c_MOST_LATE ?c_MOST_WISHES ?c_ALL ?c_BUSY ?c_LATE ?c_WAIT ?c_STILL ?c_BAR ?c_GROUP ?c_MOST_DEEDS ?c_WISH ?c_FIGURES ?g_C_PE ?g_C_BW ?g_C_BP ?g_C_BN ?g_C_BS ?g_C_NN ?g_C_BD ?g_C_BT ?ve ?pga ?prd ?pvv ?xc_hn ?xc_ht ?hg_BT ?hk_BT ?sb_BT ?hd_BT ?ha_BT ?hm_BT ?em_BT ?k_BT_BW ?k_BT_BP ?k_BT_BN ?k_BT_BS ?k_BT_NN ?k_BT_BD ?k_BT_BT ?kv_BT ?ty_BT ?kp_BT ?oc_BT ?sa_BT ?ri_BT ?no_BT ?sz_d ?sz_l ?sz_t ?sz_s ?sz_0 ?sz_1 ?sz_2 ?sz_3 ?sz_4 ?sz_5 ?sz_6 ?sz_7 ?sz_c
    (case ne => as_aux_lemma => kernel_rfl)
    (case hx => exact AM.rec_by (by kernel_rfl))
    (case r_is_number => (refine' AM.raw_def ?h1 ?h2 ?h3 ?h4; (case h1 => as_aux_lemma => k_is); (case h2 => as_aux_lemma => k_is); (case h3 => as_aux_lemma => k_is); (case h4 => as_aux_lemma => k_is)))
    (case r_is_phone => (refine' AM.raw_def ?h1 ?h2 ?h3 ?h4; (case h1 => as_aux_lemma => k_is); (case h2 => as_aux_lemma => k_is); (case h3 => as_aux_lemma => k_is); (case h4 => as_aux_lemma => k_is)))
    (case r_are_members => (refine' AM.raw_def ?h1 ?h2 ?h3 ?h4; (case h1 => as_aux_lemma => k_is); (case h2 => as_aux_lemma => k_is); (case h3 => as_aux_lemma => k_is); (case h4 => as_aux_lemma => k_is)))
    (case r_is_wish => (refine' AM.raw_def ?h1 ?h2 ?h3 ?h4; (case h1 => as_aux_lemma => k_is); (case h2 => as_aux_lemma => k_is); (case h3 => as_aux_lemma => k_is); (case h4 => as_aux_lemma => k_is)))
    (case r_key_of => (refine' AM.raw_def ?h1 ?h2 ?h3 ?h4; (case h1 => as_aux_lemma => k_is); (case h2 => as_aux_lemma => k_is); (case h3 => as_aux_lemma => k_is); (case h4 => as_aux_lemma => k_is)))
    (case r_is_deed => (refine' AM.raw_def ?h1 ?h2 ?h3 ?h4; (case h1 => as_aux_lemma => k_is); (case h2 => as_aux_lemma => k_is); (case h3 => as_aux_lemma => k_is); (case h4 => as_aux_lemma => k_is)))
    (case r_number_of => (refine' AM.raw_def ?h1 ?h2 ?h3 ?h4; (case h1 => as_aux_lemma => k_is); (case h2 => as_aux_lemma => k_is); (case h3 => as_aux_lemma => k_is); (case h4 => as_aux_lemma => k_is)))
    (case r_thing_of => (refine' AM.raw_def ?h1 ?h2 ?h3 ?h4; (case h1 => as_aux_lemma => k_is); (case h2 => as_aux_lemma => k_is); (case h3 => as_aux_lemma => k_is); (case h4 => as_aux_lemma => k_is)))
    (case r_read => (refine' AM.raw_def ?h1 ?h2 ?h3 ?h4; (case h1 => as_aux_lemma => k_is); (case h2 => as_aux_lemma => k_is); (case h3 => as_aux_lemma => k_is); (case h4 => as_aux_lemma => k_is)))
    (case r_law_taken => (refine' AM.raw_def ?h1 ?h2 ?h3 ?h4; (case h1 => as_aux_lemma => k_is); (case h2 => as_aux_lemma => k_is); (case h3 => as_aux_lemma => k_is); (case h4 => as_aux_lemma => k_is)))
    (case r_law_alike => (refine' AM.raw_def ?h1 ?h2 ?h3 ?h4; (case h1 => as_aux_lemma => k_is); (case h2 => as_aux_lemma => k_is); (case h3 => as_aux_lemma => k_is); (case h4 => as_aux_lemma => k_is)))
    (case r_law_word => (refine' AM.raw_def ?h1 ?h2 ?h3 ?h4; (case h1 => as_aux_lemma => k_is); (case h2 => as_aux_lemma => k_is); (case h3 => as_aux_lemma => k_is); (case h4 => as_aux_lemma => k_is)))
    (case r_law_goal => (refine' AM.raw_def ?h1 ?h2 ?h3 ?h4; (case h1 => as_aux_lemma => k_is); (case h2 => as_aux_lemma => k_is); (case h3 => as_aux_lemma => k_is); (case h4 => as_aux_lemma => k_is)))
    (case r_law_wish => (refine' AM.raw_def ?h1 ?h2 ?h3 ?h4; (case h1 => as_aux_lemma => k_is); (case h2 => as_aux_lemma => k_is); (case h3 => as_aux_lemma => k_is); (case h4 => as_aux_lemma => k_is)))
    (case r_law_wishes => (refine' AM.raw_def ?h1 ?h2 ?h3 ?h4; (case h1 => as_aux_lemma => k_is); (case h2 => as_aux_lemma => k_is); (case h3 => as_aux_lemma => k_is); (case h4 => as_aux_lemma => k_is)))
    (case r_law_any => (refine' AM.raw_def ?h1 ?h2 ?h3 ?h4; (case h1 => as_aux_lemma => k_is); (case h2 => as_aux_lemma => k_is); (case h3 => as_aux_lemma => k_is); (case h4 => as_aux_lemma => k_is)))
    (case r_law_rows => (refine' AM.raw_def ?h1 ?h2 ?h3 ?h4; (case h1 => as_aux_lemma => k_is); (case h2 => as_aux_lemma => k_is); (case h3 => as_aux_lemma => k_is); (case h4 => as_aux_lemma => k_is)))
    (case r_law_wished => (refine' AM.raw_def ?h1 ?h2 ?h3 ?h4; (case h1 => as_aux_lemma => k_is); (case h2 => as_aux_lemma => k_is); (case h3 => as_aux_lemma => k_is); (case h4 => as_aux_lemma => k_is)))
    (case r_law_read => (refine' AM.raw_def ?h1 ?h2 ?h3 ?h4; (case h1 => as_aux_lemma => k_is); (case h2 => as_aux_lemma => k_is); (case h3 => as_aux_lemma => k_is); (case h4 => as_aux_lemma => k_is)))
    (case r_law_spoilt => (refine' AM.raw_def ?h1 ?h2 ?h3 ?h4; (case h1 => as_aux_lemma => k_is); (case h2 => as_aux_lemma => k_is); (case h3 => as_aux_lemma => k_is); (case h4 => as_aux_lemma => k_is)))
    (case r_law => (refine' AM.raw_def ?h1 ?h2 ?h3 ?h4; (case h1 => as_aux_lemma => k_is); (case h2 => as_aux_lemma => k_is); (case h3 => as_aux_lemma => k_is); (case h4 => as_aux_lemma => k_is)))
    (case b_isinstance => as_aux_lemma => k_is)
    (case b_int => as_aux_lemma => k_is)
    (case b_bool => as_aux_lemma => k_is)
    (case b_tuple => as_aux_lemma => k_is)
    (case b_str => as_aux_lemma => k_is)
    (case b_list => as_aux_lemma => k_is)
    (case b_len => as_aux_lemma => k_is)
    (case b_range => as_aux_lemma => k_is)
    (case b_enumerate => as_aux_lemma => k_is)
    (case b_sorted => as_aux_lemma => k_is)
    (case b_set => as_aux_lemma => k_is)
    (case b_zip => as_aux_lemma => k_is)
    (case b_max => as_aux_lemma => k_is)
    (case c_PHONES => (first | (refine' AM.raw_int ?h1; (case h1 => as_aux_lemma => k_is)) | (refine' AM.raw_str ?h1; (case h1 => as_aux_lemma => k_is))))
    (case c_NUMBERS => (first | (refine' AM.raw_int ?h1; (case h1 => as_aux_lemma => k_is)) | (refine' AM.raw_str ?h1; (case h1 => as_aux_lemma => k_is))))
    (case c_MOST_LATE => (first | (refine' AM.raw_int ?h1; (case h1 => as_aux_lemma => k_is)) | (refine' AM.raw_str ?h1; (case h1 => as_aux_lemma => k_is))))
    (case c_MOST_WISHES => (first | (refine' AM.raw_int ?h1; (case h1 => as_aux_lemma => k_is)) | (refine' AM.raw_str ?h1; (case h1 => as_aux_lemma => k_is))))
    (case c_ALL => (first | (refine' AM.raw_int ?h1; (case h1 => as_aux_lemma => k_is)) | (refine' AM.raw_str ?h1; (case h1 => as_aux_lemma => k_is))))
    (case c_BUSY => (first | (refine' AM.raw_int ?h1; (case h1 => as_aux_lemma => k_is)) | (refine' AM.raw_str ?h1; (case h1 => as_aux_lemma => k_is))))
    (case c_LATE => (first | (refine' AM.raw_int ?h1; (case h1 => as_aux_lemma => k_is)) | (refine' AM.raw_str ?h1; (case h1 => as_aux_lemma => k_is))))
    (case c_WAIT => (first | (refine' AM.raw_int ?h1; (case h1 => as_aux_lemma => k_is)) | (refine' AM.raw_str ?h1; (case h1 => as_aux_lemma => k_is))))
    (case c_STILL => (first | (refine' AM.raw_int ?h1; (case h1 => as_aux_lemma => k_is)) | (refine' AM.raw_str ?h1; (case h1 => as_aux_lemma => k_is))))
    (case c_BAR => (first | (refine' AM.raw_int ?h1; (case h1 => as_aux_lemma => k_is)) | (refine' AM.raw_str ?h1; (case h1 => as_aux_lemma => k_is))))
    (case c_GROUP => (first | (refine' AM.raw_int ?h1; (case h1 => as_aux_lemma => k_is)) | (refine' AM.raw_str ?h1; (case h1 => as_aux_lemma => k_is))))
    (case c_MOST_DEEDS => (first | (refine' AM.raw_int ?h1; (case h1 => as_aux_lemma => k_is)) | (refine' AM.raw_str ?h1; (case h1 => as_aux_lemma => k_is))))
    (case c_WISH => (first | (refine' AM.raw_int ?h1; (case h1 => as_aux_lemma => k_is)) | (refine' AM.raw_str ?h1; (case h1 => as_aux_lemma => k_is))))
    (case c_FIGURES => (first | (refine' AM.raw_int ?h1; (case h1 => as_aux_lemma => k_is)) | (refine' AM.raw_str ?h1; (case h1 => as_aux_lemma => k_is))))
    (case g_C_PE => as_aux_lemma => k_is)
    (case g_C_BW => as_aux_lemma => k_is)
    (case g_C_BP => as_aux_lemma => k_is)
    (case g_C_BN => as_aux_lemma => k_is)
    (case g_C_BS => as_aux_lemma => k_is)
    (case g_C_NN => as_aux_lemma => k_is)
    (case g_C_BD => as_aux_lemma => k_is)
    (case g_C_BT => as_aux_lemma => k_is)
    (case ve => as_aux_lemma => k_is)
    (case pga => as_aux_lemma => k_is)
    (case prd => as_aux_lemma => k_is)
    (case pvv => as_aux_lemma => k_is)
    (case xc_hn => first | rfl | k_is)
    (case xc_ht => first | rfl | k_is)
    (case hg_BT => as_aux_lemma => k_is)
    (case hk_BT => as_aux_lemma => k_is)
    (case sb_BT => as_aux_lemma => k_is)
    (case hd_BT => as_aux_lemma => k_is)
    (case ha_BT => as_aux_lemma => k_is)
    (case hm_BT => as_aux_lemma => k_is)
    (case em_BT => kts_exm)
    (case k_BT_BW => kit_is)
    (case k_BT_BP => kit_is)
    (case k_BT_BN => kit_is)
    (case k_BT_BS => kit_is)
    (case k_BT_NN => kit_is)
    (case k_BT_BD => kit_is)
    (case k_BT_BT => kit_is)
    (case kv_BT => kit_is)
    (case ty_BT => as_aux_lemma => k_is)
    (case kp_BT => as_aux_lemma => k_is)
    (case oc_BT => (refine' AM.oc_raw ?h1 ?h2; (case h1 => as_aux_lemma => k_is); (case h2 => kernel_rfl)))
    (case sa_BT => as_aux_lemma => k_is)
    (case ri_BT => (refine' AM.raw_meth ?h1 ?h2 ?h3 ?h4 ?h5; (case h1 => as_aux_lemma => k_is); (case h2 => as_aux_lemma => k_is); (case h3 => as_aux_lemma => k_is); (case h4 => as_aux_lemma => k_is); (case h5 => as_aux_lemma => k_is)))
    (case no_BT => as_aux_lemma => k_is)
    (case sz_d => as_aux_lemma => k_is)
    (case sz_l => as_aux_lemma => k_is)
    (case sz_t => repeat' (first | exact trivial | refine ⟨⟨_, _, rfl, rfl⟩, ?_⟩))
    (case sz_s => first | rfl | decide)
    (case sz_0 => as_aux_lemma => k_is)
    (case sz_1 => as_aux_lemma => k_is)
    (case sz_2 => as_aux_lemma => k_is)
    (case sz_3 => as_aux_lemma => k_is)
    (case sz_4 => as_aux_lemma => k_is)
    (case sz_5 => as_aux_lemma => k_is)
    (case sz_6 => as_aux_lemma => k_is)
    (case sz_7 => as_aux_lemma => k_is)
    (case sz_c => as_aux_lemma => kernel_rfl)
namespace AM

end AM
