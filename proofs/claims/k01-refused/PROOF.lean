import PyProof.Rows.All
import Wide.All
import OpenK.AllK
import Wide.FinOn
import PySem.Challenge.RW_phonehall_k01_wishes_refused
import HandS.ForMost
import HandS.ForExc
import HandS.IsInst
import HandS.Deep
import HandS.Lambda
import HandS.TupAny
import KE.KAssignIn
import HandS.RaiseMore
import HandS.TupMul
import HandS.SortInts
import PyProof.DictUpdate
import HandS.Conv
import HandS.Zip
import HandS.Text
import HandS.HeadHook3
import KE.SortData
import HandS.Remove
import HandS.Iter
import HandS.More
import KE.DataFind
import HandS.OwnEq
import KE.KRevSl
import HandS.ExcIs
import HandS.EndTab
import HandS.SetFor
import HandS.ExcBuiltin
import PyProof.Rows.CountFlat
import HandS.TryOnly
import HandS.ExcInit
import HandS.FStr
import HandS.ExcField
import KE.KExcIs
import KE.KDflt
import KE.GoesRaise
import HandS.TupSets
import PySem.Challenge.RW_phonehall_k01_wishes_refused
set_option Elab.async false
set_option linter.all false
set_option maxRecDepth 100000
set_option maxHeartbeats 2000000
set_option pp.maxSteps 700
namespace AM
open PySem PySem.Spec PyProof.Rows L2
-- E0_k01
set_option maxHeartbeats 0 in
open PySem PySem.W PyProof.Rows in
open_top head_of for PySem.Challenge.rw_phonehall_k01_wishes_refused

-- AM1
/-! AM: an abstract state over the hand layer: values W, a store of mutable objects by number, environments by slot. -/

/-- abstract values: scalars, tuples, lists that nobody changes, the k-th mutable object, any other thing -/
inductive W where
  | non | bl (b : Bool) | int (i : Int) | str (x : Str)
  | tup (xs : List W) | lst (xs : List W)
  | ref (k : Nat) | raw (v : V) | scr (K : PySem.W.Frag) (ns : List Int)
  /-- a caught error whose dict stands at d, with one field, a number -/
  | xi (a d : Addr) (f : Str) (i : Int)
  /-- a thing at a that is known by objects that nobody changes -/
  | thg (a : Addr) (fs : List (Addr × HO))
/-- mutable objects -/
inductive O where
  | lst (xs : List W) | dk (kvs : List (Key × W)) | dt (kvs : List (List Key × W)) | ins (C : Addr) (fs : List (Str × W))
  /-- the law's row of draws: the script, a place, a number -/
  | row (K : PySem.W.Frag)
  /-- not told -/
  | any
  /-- the table of code objects of a def: where it stands, the name that its lambdas bear -/
  | tab (P : Addr) (q : Str)
abbrev Sto := List O
abbrev AEnv := List (Option W)

/-- where the mutable objects stand, by number; and the hidden ones -/
structure Lay where
  m : List Addr
  h : List Addr
def Lay.out (L : Lay) (a : Addr) : Prop := a ∉ L.m ∧ a ∉ L.h
abbrev Lay.add (L : Lay) (p : Addr) : Lay := ⟨L.m ++ [p], L.h⟩
abbrev Lay.hid (L : Lay) (p : Addr) : Lay := ⟨L.m, p :: L.h⟩
/-- a tuple, a list that nobody changes: tracked, and none of the mutable ones -/
def TQ (M : Lay) (H : Hp) (a : Addr) (xs : List V) : Prop := H a = some (.tup xs) ∧ M.out a
def LQ (M : Lay) (H : Hp) (a : Addr) (xs : List V) : Prop := H a = some (.lst xs) ∧ M.out a
/-- the script -/
def SQ (K : PySem.W.Frag) (M : Lay) (H : Hp) (a : Addr) (ns : List Int) : Prop :=
  (Rd H a (.lst (ns.map V.int)) ∧ M.out a) ∨ ∃ (o : Obj) (its : Array Value) (n : Nat), K.lookup a = some o ∧ o.cls = .type "list" ∧ o.dict = none ∧ o.data = .seq its n ∧ its.size ≤ sizeLine ∧ Vals (ns.map V.int) its.toList
theorem TQ.sq {K : PySem.W.Frag} {M : Lay} {H : Hp} {a : Addr} {xs : List V} (h : TQ M H a xs) : SqT K H a xs := SqT.of h.1
theorem LQ.sq {K : PySem.W.Frag} {M : Lay} {H : Hp} {a : Addr} {xs : List V} (h : LQ M H a xs) : SqL K H a xs := SqL.of h.1
theorem SQ.sq {K : PySem.W.Frag} {M : Lay} {H : Hp} {a : Addr} {ns : List Int} (h : SQ K M H a ns) : SqL K H a (ns.map V.int) := by
  rcases h with ⟨h, _⟩ | h
  · exact .inl h
  · exact .inr h
theorem SQ.of {K : PySem.W.Frag} {M : Lay} {H : Hp} {a : Addr} {ns : List Int} (h : SqL K H a (ns.map V.int)) (o : M.out a) : SQ K M H a ns := by
  rcases h with h | h
  · exact .inl ⟨h, o⟩
  · exact .inr h

mutual
inductive VW (M : Lay) (H : Hp) : V → W → Prop
  | non : VW M H .non .non
  | bl (b : Bool) : VW M H (.bl b) (.bl b)
  | int (i : Int) : VW M H (.int i) (.int i)
  | str (x : Str) : VW M H (.str x) (.str x)
  | tup {a : Addr} {xs : List V} {ws : List W} : TQ M H a xs → VWs M H xs ws → VW M H (.ref a) (.tup ws)
  | lst {a : Addr} {xs : List V} {ws : List W} : LQ M H a xs → VWs M H xs ws → VW M H (.ref a) (.lst ws)
  | ref {a : Addr} {k : Nat} : M.m[k]? = some a → VW M H (.ref a) (.ref k)
  | raw (v : V) : VW M H v (.raw v)
  | scr {K : PySem.W.Frag} {a : Addr} {ns : List Int} : SQ K M H a ns → VW M H (.ref a) (.scr K ns)
  | xi {a d : Addr} {f : Str} {i : Int} : M.out d → H d = some (.xd [(f, .int i)]) → VW M H (.ref a) (.xi a d f i)
  | thg {a : Addr} {fs : List (Addr × HO)} : (∀ q ∈ fs, M.out q.1 ∧ H q.1 = some q.2 ∧ ∀ ps, q.2 ≠ .tbl ps) → VW M H (.ref a) (.thg a fs)
inductive VWs (M : Lay) (H : Hp) : List V → List W → Prop
  | nil : VWs M H [] []
  | cons {v : V} {vs : List V} {w : W} {ws : List W} : VW M H v w → VWs M H vs ws → VWs M H (v :: vs) (w :: ws)
end

/-- what a step of the code leaves: the mutable objects known before are known still, new ones are new; all else stands -/
structure Step (M : Lay) (H : Hp) (M2 : Lay) (H2 : Hp) : Prop where
  pre : M.m <+: M2.m
  new : ∀ p, ¬ M2.out p → M.out p → H p = none
  keep : ∀ a o, H a = some o → (∀ ps, o ≠ .tbl ps) → a ∉ M.m → H2 a = some o
  tbl : ∀ a ps, a ∉ M.m → H a = some (.tbl ps) → ∃ ps', H2 a = some (.tbl ps')
  there : ∀ a, a ∈ M.m → H a ≠ none → H2 a ≠ none
  /-- the hidden ones stay hidden, and are not among the mutable ones -/
  old : ∀ a, a ∈ M2.m → a ∈ M.h → a ∈ M.m
  hold : M2.h = M.h
theorem Step.refl (M : Lay) (H : Hp) : Step M H M H :=
  ⟨List.prefix_refl _, fun _ h n => absurd n h, fun _ _ h _ _ => h, fun _ ps _ h => ⟨ps, h⟩, fun _ _ h => h, fun _ h _ => h, rfl⟩
theorem Step.alive {M M2 : Lay} {H H2 : Hp} (s : Step M H M2 H2) {a : Addr} (h : H a ≠ none) : H2 a ≠ none := by
  by_cases m : a ∈ M.m
  · exact s.there a m h
  · cases e : H a with
    | none => exact absurd e h
    | some o =>
      by_cases t : ∃ ps, o = .tbl ps
      · obtain ⟨ps, rfl⟩ := t
        obtain ⟨ps', e'⟩ := s.tbl a ps m e
        rw [e']; exact fun z => nomatch z
      · rw [s.keep a o e (fun ps z => t ⟨ps, z⟩) m]; exact fun z => nomatch z
theorem Step.out {M M2 : Lay} {H H2 : Hp} (s : Step M H M2 H2) {a : Addr} (h : H a ≠ none) (m : M.out a) : M2.out a := Classical.byContradiction fun z => h (s.new a z m)
theorem Step.trans {M M1 M2 : Lay} {H H1 H2 : Hp} (s : Step M H M1 H1) (t : Step M1 H1 M2 H2) : Step M H M2 H2 where
  pre := List.IsPrefix.trans s.pre t.pre
  new := fun p h n => by
    by_cases m : M1.out p
    · have e := t.new p h m
      cases q : H p with
      | none => rfl
      | some o => exact absurd e (s.alive (by rw [q]; exact fun z => nomatch z))
    · exact s.new p m n
  keep := fun a o h nt m => by
    have e := s.keep a o h nt m
    refine t.keep a o e nt fun m1 => ?_
    by_cases hh : a ∈ M.h
    · exact m (s.old a m1 hh)
    · rw [s.new a (fun z => z.1 m1) ⟨m, hh⟩] at h
      cases h
  tbl := fun a ps m h => by
    obtain ⟨ps', e⟩ := s.tbl a ps m h
    refine t.tbl a ps' (fun m1 => ?_) e
    by_cases hh : a ∈ M.h
    · exact m (s.old a m1 hh)
    · rw [s.new a (fun z => z.1 m1) ⟨m, hh⟩] at h
      cases h
  there := fun a m h => t.alive (s.there a m h)
  old := fun a m hh => by
    by_cases q : a ∈ M1.h
    · exact s.old a (t.old a m q) hh
    · exact absurd (by rw [s.hold]; exact hh) q
  hold := t.hold.trans s.hold

theorem get_pre {α : Type} {l l2 : List α} (h : l <+: l2) {k : Nat} {a : α} (e : l[k]? = some a) : l2[k]? = some a := by
  obtain ⟨t, rfl⟩ := h
  rw [List.getElem?_append_left (List.getElem?_eq_some_iff.mp e).1]
  exact e
section
variable {K : PySem.W.Frag} {M M2 : Lay} {H H2 : Hp}
theorem rd_some {a : Addr} {u : HO} (h : Rd H a u) : H a ≠ none := by
  rcases h with h | ⟨o, h⟩ <;> (rw [h]; exact fun z => nomatch z)
theorem rd_step (s : Step M H M2 H2) {a : Addr} {u : HO} (h : Rd H a u) (nt : ∀ ps, u ≠ .tbl ps) (m : M.out a) : Rd H2 a u := by
  rcases h with h | ⟨o, h⟩
  · exact .inl (s.keep a _ h nt m.1)
  · exact .inr ⟨o, s.keep a _ h (fun ps z => nomatch z) m.1⟩
theorem TQ.step (s : Step M H M2 H2) {a : Addr} {xs : List V} (h : TQ M H a xs) : TQ M2 H2 a xs :=
  ⟨s.keep a _ h.1 (fun ps z => nomatch z) h.2.1, s.out (by rw [h.1]; exact fun z => nomatch z) h.2⟩
theorem LQ.step (s : Step M H M2 H2) {a : Addr} {xs : List V} (h : LQ M H a xs) : LQ M2 H2 a xs :=
  ⟨s.keep a _ h.1 (fun ps z => nomatch z) h.2.1, s.out (by rw [h.1]; exact fun z => nomatch z) h.2⟩
theorem SQ.step (s : Step M H M2 H2) {a : Addr} {ns : List Int} (h : SQ K M H a ns) : SQ K M2 H2 a ns := by
  rcases h with ⟨h, o⟩ | h
  · exact .inl ⟨rd_step s h (fun ps z => nomatch z) o, s.out (rd_some h) o⟩
  · exact .inr h
mutual
theorem VW.step (s : Step M H M2 H2) : ∀ (w : W) (v : V), VW M H v w → VW M2 H2 v w
  | .non, _, h => by cases h; exact .non
  | .bl b, _, h => by cases h; exact .bl b
  | .int i, _, h => by cases h; exact .int i
  | .str x, _, h => by cases h; exact .str x
  | .tup ws, _, h => by
    cases h with
    | tup q r => exact .tup (q.step s) (VWs.step s ws _ r)
  | .lst ws, _, h => by
    cases h with
    | lst q r => exact .lst (q.step s) (VWs.step s ws _ r)
  | .ref k, _, h => by
    cases h with
    | ref q => exact .ref (get_pre s.pre q)
  | .raw v, _, h => by cases h; exact .raw v
  | .scr _ ns, _, h => by
    cases h with
    | scr q => exact .scr (q.step s)
  | .xi _ d f i, _, h => by
    cases h with
    | xi q1 q2 => exact .xi (s.out (by rw [q2]; exact fun z => nomatch z) q1) (s.keep _ _ q2 (fun ps z => nomatch z) q1.1)
  | .thg _ _, _, h => by
    cases h with
    | thg q => exact .thg fun p hp => ⟨s.out (by rw [(q p hp).2.1]; exact fun z => nomatch z) (q p hp).1, s.keep _ _ (q p hp).2.1 (q p hp).2.2 (q p hp).1.1, (q p hp).2.2⟩
theorem VWs.step (s : Step M H M2 H2) : ∀ (ws : List W) (vs : List V), VWs M H vs ws → VWs M2 H2 vs ws
  | [], _, h => by cases h; exact .nil
  | w :: ws, _, h => by
    cases h with
    | cons a b => exact .cons (VW.step s w _ a) (VWs.step s ws _ b)
end
theorem VWs.length : ∀ {ws : List W} {vs : List V}, VWs M H vs ws → vs.length = ws.length
  | [], _, h => by cases h; rfl
  | w :: ws, _, h => by
    cases h with
    | cons a b => simp [VWs.length b]
theorem VWs.get : ∀ {ws : List W} {vs : List V} {i : Nat} {w : W}, VWs M H vs ws → ws[i]? = some w → ∃ v, vs[i]? = some v ∧ VW M H v w
  | [], _, _, _, h, e => by simp at e
  | w :: ws, _, 0, x, h, e => by
    cases h with
    | cons a b => simp at e; subst e; exact ⟨_, rfl, a⟩
  | w :: ws, _, i + 1, x, h, e => by
    cases h with
    | cons a b => exact VWs.get (i := i) b (by simpa using e)
theorem VWs.append : ∀ {ws : List W} {vs : List V} {ws' : List W} {vs' : List V}, VWs M H vs ws → VWs M H vs' ws' → VWs M H (vs ++ vs') (ws ++ ws')
  | [], _, _, _, h, h' => by cases h; exact h'
  | w :: ws, _, _, _, h, h' => by
    cases h with
    | cons a b => exact .cons a (VWs.append b h')
theorem VWs.set : ∀ {ws : List W} {vs : List V} {w : W} {v : V} (i : Nat), VWs M H vs ws → VW M H v w → VWs M H (vs.set i v) (ws.set i w)
  | [], _, _, _, _, h, h' => by cases h; exact .nil
  | w :: ws, _, _, _, 0, h, h' => by
    cases h with
    | cons a b => exact .cons h' b
  | w :: ws, _, _, _, i + 1, h, h' => by
    cases h with
    | cons a b => exact .cons a (VWs.set i b h')
theorem VWs.take : ∀ {ws : List W} {vs : List V} (n : Nat), VWs M H vs ws → VWs M H (vs.take n) (ws.take n)
  | _, _, 0, _ => by simp; exact .nil
  | [], _, _ + 1, h => by cases h; exact .nil
  | w :: ws, _, n + 1, h => by
    cases h with
    | cons a b => exact .cons a (VWs.take n b)
theorem VWs.drop : ∀ {ws : List W} {vs : List V} (n : Nat), VWs M H vs ws → VWs M H (vs.drop n) (ws.drop n)
  | _, _, 0, h => h
  | [], _, _ + 1, h => by cases h; exact .nil
  | w :: ws, _, n + 1, h => by
    cases h with
    | cons a b => exact VWs.drop n b
/-- pairs: a key and a value -/
abbrev PVW (M : Lay) (H : Hp) {κ : Type} : List (κ × V) → List (κ × W) → Prop := Paired fun (p : κ × V) (q : κ × W) => p.1 = q.1 ∧ VW M H p.2 q.2
theorem PVW.step (s : Step M H M2 H2) {κ : Type} {xs : List (κ × V)} {ws : List (κ × W)} (h : PVW M H xs ws) : PVW M2 H2 xs ws := Paired.mapP h fun _ _ r => ⟨r.1, VW.step s _ _ r.2⟩

/-! ### the store -/
def rowO (K : PySem.W.Frag) (M : Lay) (H : Hp) (xs : List V) : Prop :=
  ∃ (v : V) (ns : List Int) (i z : Int), xs = [v, .int i, .int z] ∧ VW M H v (.scr K ns) ∧ ns.length ≤ 63 ∧ 0 ≤ i ∧ 0 ≤ z ∧ z < 2147483647
inductive Ob (M : Lay) (H : Hp) : HO → O → Prop
  | lst {xs ws} : VWs M H xs ws → Ob M H (.lst xs) (.lst ws)
  | dk {kvs kws} : PVW M H kvs kws → Ob M H (.dK kvs) (.dk kws)
  | dt {kvs kws} : PVW M H kvs kws → Ob M H (.dT kvs) (.dt kws)
  | ins {C dx fs ws} : PVW M H fs ws → Ob M H (.ins C dx fs) (.ins C ws)
  | row {K xs} : rowO K M H xs → Ob M H (.lst xs) (.row K)
  | any {ho} : Mut (some ho) → (∀ f, ho ≠ .ext f) → Ob M H ho .any
  | tab {ps P q} : TriplesOk ps.toList → (∀ (pos : Pos) (cv : Value), codeAmong pos ps.toList = some cv → ∃ c, cv = .ref c ∧ M.out c ∧ H c = some (LamX.CodeO c q)) → Ob M H (.tbl ps) (.tab P q)
theorem Ob.step (s : Step M H M2 H2) {ho : HO} {o : O} (h : Ob M H ho o) : Ob M2 H2 ho o := by
  cases h with
  | lst r => exact .lst (VWs.step s _ _ r)
  | dk r => exact .dk (PVW.step s r)
  | dt r => exact .dt (PVW.step s r)
  | ins r => exact .ins (PVW.step s r)
  | row r =>
    obtain ⟨v, ns, i, z, e, r, q⟩ := r
    exact .row ⟨v, ns, i, z, e, VW.step s _ _ r, q⟩
  | any m n => exact .any m n
  | tab t q =>
    refine .tab t fun pos cv e => ?_
    obtain ⟨c, h1, h2, h3⟩ := q pos cv e
    exact ⟨c, h1, s.out (by rw [h3]; exact fun z => nomatch z) h2, s.keep c _ h3 LamX.codeO_ne h2.1⟩
structure Rep (M : Lay) (H : Hp) (S : Sto) : Prop where
  nd : M.m.Nodup
  len : M.m.length = S.length
  at_ : ∀ (k : Nat) p o, M.m[k]? = some p → S[k]? = some o → ∃ ho, H p = some ho ∧ Ob M H ho o
  hid : ∀ p, p ∈ M.h → H p ≠ none ∧ p ∉ M.m
  tb : ∀ (k : Nat) P q, S[k]? = some (.tab P q) → M.m[k]? = some P
theorem Rep.alive {S : Sto} (r : Rep M H S) {p : Addr} (h : ¬ M.out p) : H p ≠ none := by
  by_cases q : p ∈ M.h
  · exact (r.hid p q).1
  · have h : p ∈ M.m := Classical.byContradiction fun z => h ⟨z, q⟩
    obtain ⟨k, hk, e⟩ := List.mem_iff_getElem.mp h
    have hs : k < S.length := by rw [← r.len]; exact hk
    obtain ⟨ho, h1, _⟩ := r.at_ k p S[k] (by rw [List.getElem?_eq_getElem hk, e]) (List.getElem?_eq_getElem hs)
    rw [h1]; exact fun z => nomatch z
theorem Rep.free {S : Sto} (r : Rep M H S) {p : Addr} (h : H p = none) : M.out p := Classical.byContradiction fun z => r.alive z h
theorem Rep.at' {S : Sto} (r : Rep M H S) {k : Nat} {o : O} (h : S[k]? = some o) : ∃ p ho, M.m[k]? = some p ∧ H p = some ho ∧ Ob M H ho o := by
  have hk : k < M.m.length := by rw [r.len]; exact (List.getElem?_eq_some_iff.mp h).1
  obtain ⟨ho, h1, h2⟩ := r.at_ k M.m[k] o (List.getElem?_eq_getElem hk) h
  exact ⟨M.m[k], ho, List.getElem?_eq_getElem hk, h1, h2⟩
/-- a new object that is not told of -/
theorem step_tmp {S : Sto} (r : Rep M H S) {p : Addr} {ho : HO} (hp : H p = none) : Step M H M (upd H p ho) where
  pre := List.prefix_refl _
  new := fun _ h n => absurd n h
  keep := fun a o h _ _ => by rw [upd_ne (ne_of_none h hp)]; exact h
  tbl := fun a ps _ h => ⟨ps, by rw [upd_ne (ne_of_none h hp)]; exact h⟩
  there := fun a _ h => by
    by_cases e : a = p
    · subst e; exact absurd hp h
    · rw [upd_ne e]; exact h
  old := fun _ h _ => h
  hold := rfl
theorem Rep.tmp {S : Sto} (r : Rep M H S) {p : Addr} {ho : HO} (hp : H p = none) : Rep M (upd H p ho) S :=
  ⟨r.nd, r.len, fun k q o h1 h2 => by
    obtain ⟨hq, e, b⟩ := r.at_ k q o h1 h2
    exact ⟨hq, by rw [upd_ne (ne_of_none e hp)]; exact e, b.step (step_tmp r hp)⟩, fun q hq => ⟨(step_tmp r (ho := ho) hp).alive (r.hid q hq).1, (r.hid q hq).2⟩, r.tb⟩
/-- a new object, told of as the last one -/
theorem step_new {S : Sto} (r : Rep M H S) {p : Addr} {ho : HO} (hp : H p = none) : Step M H (M.add p) (upd H p ho) where
  pre := List.prefix_append M.m [p]
  new := fun q h n => by
    have e : q = p := Classical.byContradiction fun z => h ⟨fun m => by
      rcases List.mem_append.mp m with m | m
      · exact n.1 m
      · exact z (List.mem_singleton.mp m), n.2⟩
    rw [e]; exact hp
  keep := fun a o h _ _ => by rw [upd_ne (ne_of_none h hp)]; exact h
  tbl := fun a ps _ h => ⟨ps, by rw [upd_ne (ne_of_none h hp)]; exact h⟩
  there := fun a _ h => by
    by_cases e : a = p
    · subst e; exact absurd hp h
    · rw [upd_ne e]; exact h
  old := fun a h hh => by
    rcases List.mem_append.mp h with h | h
    · exact h
    · rw [List.mem_singleton.mp h] at hh
      exact absurd hp (r.hid p hh).1
  hold := rfl
theorem Rep.new {S : Sto} (r : Rep M H S) {p : Addr} {ho : HO} {o : O} (hp : H p = none) (b : Ob (M.add p) (upd H p ho) ho o) (nt : ∀ P q, o ≠ O.tab P q := by intro _ _ z; cases z) : Rep (M.add p) (upd H p ho) (S ++ [o]) := by
  refine ⟨?_, by simp [r.len], fun k q u h1 h2 => ?_, fun q hq => ⟨(step_new r (ho := ho) hp).alive (r.hid q hq).1, fun m => ?_⟩, fun k P q e => ?_⟩
  · refine List.nodup_append.mpr ⟨r.nd, by simp, fun a ha b hb e => ?_⟩
    rw [List.mem_singleton.mp hb] at e
    subst e
    exact r.alive (fun z => z.1 ha) hp
  · have h1 : (M.m ++ [p])[k]? = some q := h1
    by_cases hk : k < M.m.length
    · rw [List.getElem?_append_left hk] at h1
      rw [List.getElem?_append_left (by rw [← r.len]; exact hk)] at h2
      obtain ⟨hq, e, b'⟩ := r.at_ k q u h1 h2
      exact ⟨hq, by rw [upd_ne (ne_of_none e hp)]; exact e, b'.step (step_new r hp)⟩
    · rw [List.getElem?_append_right (by omega)] at h1
      rw [List.getElem?_append_right (by rw [← r.len]; omega)] at h2
      have e0 : k - M.m.length = 0 := by
        have q := (List.getElem?_eq_some_iff.mp h1).1
        simp at q; omega
      have e1 : k - S.length = 0 := by rw [← r.len]; exact e0
      rw [e0] at h1; rw [e1] at h2
      simp at h1 h2
      subst h1; subst h2
      exact ⟨ho, upd_same, b⟩
  · rcases List.mem_append.mp m with m | m
    · exact (r.hid q hq).2 m
    · rw [List.mem_singleton.mp m] at hq
      exact (r.hid p hq).1 hp
  · by_cases hk : k < S.length
    · rw [List.getElem?_append_left hk] at e
      exact (List.getElem?_append_left (by rw [r.len]; exact hk)).trans (r.tb k P q e)
    · rw [List.getElem?_append_right (by omega)] at e
      have z := List.mem_of_getElem? e
      exact absurd (List.mem_singleton.mp z).symm (nt P q)
/-- the k-th object is written -/
theorem step_set {S : Sto} (r : Rep M H S) {k : Nat} {p : Addr} {ho : HO} (hp : M.m[k]? = some p) : Step M H M (upd H p ho) where
  pre := List.prefix_refl _
  new := fun _ h n => absurd n h
  keep := fun a o h _ m => by
    rw [upd_ne (fun e => m (by rw [e]; exact List.mem_of_getElem? hp))]; exact h
  tbl := fun a ps m h => ⟨ps, by rw [upd_ne (fun e => m (by rw [e]; exact List.mem_of_getElem? hp))]; exact h⟩
  there := fun a _ h => by
    by_cases e : a = p
    · subst e; rw [upd_same]; exact fun z => nomatch z
    · rw [upd_ne e]; exact h
  old := fun _ h _ => h
  hold := rfl
theorem nd_at {l : List Addr} (hN : l.Nodup) {i j : Nat} {x : Addr} (a : l[i]? = some x) (b : l[j]? = some x) : i = j := by
  obtain ⟨h1, e1⟩ := List.getElem?_eq_some_iff.mp a
  obtain ⟨h2, e2⟩ := List.getElem?_eq_some_iff.mp b
  exact (List.getElem_inj hN).mp (e1.trans e2.symm)
theorem Rep.set {S : Sto} (r : Rep M H S) {k : Nat} {p : Addr} {ho : HO} {o : O} (hp : M.m[k]? = some p) (b : Ob M (upd H p ho) ho o) (nt : ∀ P q, o ≠ O.tab P q := by intro _ _ z; cases z) : Rep M (upd H p ho) (S.set k o) := by
  have tb' : ∀ (j : Nat) P q, (S.set k o)[j]? = some (.tab P q) → M.m[j]? = some P := fun j P q e => by
    by_cases z : k = j
    · subst z
      have hk : k < S.length := by
        have z := (List.getElem?_eq_some_iff.mp e).1
        simpa using z
      rw [List.getElem?_set_self hk] at e
      exact absurd (Option.some.inj e) (nt P q)
    · rw [List.getElem?_set_ne z] at e
      exact r.tb j P q e
  refine ⟨r.nd, by simp [r.len], fun j q u h1 h2 => ?_, fun q hq => ⟨(step_set r (ho := ho) hp).alive (r.hid q hq).1, (r.hid q hq).2⟩, tb'⟩
  by_cases e : j = k
  · subst e
    rw [hp] at h1; cases h1
    have hk : j < S.length := by
      have z := (List.getElem?_eq_some_iff.mp h2).1
      simpa using z
    rw [List.getElem?_set_self hk] at h2; cases h2
    exact ⟨ho, upd_same, b⟩
  · rw [List.getElem?_set_ne (fun z => e z.symm)] at h2
    obtain ⟨hq, e1, b'⟩ := r.at_ j q u h1 h2
    refine ⟨hq, ?_, b'.step (step_set r hp)⟩
    rw [upd_ne (fun z => e (nd_at r.nd h1 (by rw [z]; exact hp)))]
    exact e1
/-! a hidden object: laid, written, shown -/
/-- what stands behind a hiding -/
theorem hid_vw {S : Sto} (r : Rep M H S) {p : Addr} {ho : HO} (hp : H p = none) : ∀ {w v}, VW M H v w → VW (M.hid p) (upd H p ho) v w := by
  intro w v h
  have o : ∀ {a : Addr}, H a ≠ none → M.out a → (M.hid p).out a := fun hn z => ⟨z.1, fun m => by
    rcases List.mem_cons.mp m with m | m
    · subst m; exact hn hp
    · exact z.2 m⟩
  refine VW.rec (motive_1 := fun v w _ => VW (M.hid p) (upd H p ho) v w) (motive_2 := fun v w _ => VWs (M.hid p) (upd H p ho) v w) .non .bl .int .str ?_ ?_ ?_ .raw ?_ ?_ ?_ .nil ?_ h
  · intro a xs ws q _ ih
    exact .tup ⟨by rw [upd_ne (ne_of_none q.1 hp)]; exact q.1, o (by rw [q.1]; exact fun z => nomatch z) q.2⟩ ih
  · intro a xs ws q _ ih
    exact .lst ⟨by rw [upd_ne (ne_of_none q.1 hp)]; exact q.1, o (by rw [q.1]; exact fun z => nomatch z) q.2⟩ ih
  · intro a k q
    exact .ref q
  · intro K a ns q
    refine .scr ?_
    rcases q with ⟨q, qo⟩ | q
    · refine .inl ⟨?_, o (rd_some q) qo⟩
      rcases q with z | ⟨u, z⟩
      · exact .inl (by rw [upd_ne (ne_of_none z hp)]; exact z)
      · exact .inr ⟨u, by rw [upd_ne (ne_of_none z hp)]; exact z⟩
    · exact .inr q
  · intro a d f i q1 q2
    exact .xi (o (by rw [q2]; exact fun z => nomatch z) q1) (by rw [upd_ne (ne_of_none q2 hp)]; exact q2)
  · intro a fs q
    exact .thg fun z hz => ⟨o (by rw [(q z hz).2.1]; exact fun z => nomatch z) (q z hz).1, by rw [upd_ne (ne_of_none (q z hz).2.1 hp)]; exact (q z hz).2.1, (q z hz).2.2⟩
  · intro v vs w ws _ _ i1 i2
    exact .cons i1 i2
theorem hid_vws {S : Sto} (r : Rep M H S) {p : Addr} {ho : HO} (hp : H p = none) : ∀ {ws vs}, VWs M H vs ws → VWs (M.hid p) (upd H p ho) vs ws := by
  intro ws
  induction ws with
  | nil => intro vs h; cases h; exact .nil
  | cons w ws ih =>
    intro vs h
    cases h with
    | cons a b => exact .cons (hid_vw r hp a) (ih b)
/-- a step behind a hiding, told without it -/
theorem step_behind {M3 : Lay} {H3 : Hp} {h : List Addr} {m2 : List Addr} {D : Addr} (s : Step M H ⟨m2, h⟩ H2) (hD : H D = none) (t : Step ⟨m2, D :: h⟩ H2 M3 H3) : Step M H ⟨M3.m, h⟩ H3 where
  pre := List.IsPrefix.trans s.pre t.pre
  new := fun p hn n => by
    by_cases e : p = D
    · rw [e]; exact hD
    · by_cases m : p ∈ m2
      · exact s.new p (fun z => z.1 m) n
      · have hh : p ∉ h := by have := s.hold; simp only at this; rw [this]; exact n.2
        have q := t.new p (fun z => hn ⟨z.1, hh⟩) ⟨m, fun z => by
          rcases List.mem_cons.mp z with z | z
          · exact e z
          · exact hh z⟩
        cases r : H p with
        | none => rfl
        | some o => exact absurd q (s.alive (by rw [r]; exact fun z => nomatch z))
  keep := fun a o ha nt m => by
    have e := s.keep a o ha nt m
    refine t.keep a o e nt fun m1 => ?_
    by_cases hh : a ∈ M.h
    · exact m (s.old a m1 hh)
    · rw [s.new a (fun z => z.1 m1) ⟨m, hh⟩] at ha
      cases ha
  tbl := fun a ps m h => by
    obtain ⟨ps', e⟩ := s.tbl a ps m h
    refine t.tbl a ps' (fun m1 => ?_) e
    by_cases hh : a ∈ M.h
    · exact m (s.old a m1 hh)
    · rw [s.new a (fun z => z.1 m1) ⟨m, hh⟩] at h
      cases h
  there := fun a m h => t.alive (s.there a m h)
  old := fun a m hh => by
    have e := s.hold
    simp only at e
    by_cases q : a ∈ m2
    · exact s.old a q hh
    · have z := t.old a m (List.mem_cons_of_mem _ (by rw [e]; exact hh))
      exact s.old a z hh
  hold := s.hold
/-- an address that was free ahead is written -/
theorem step_free {D : Addr} {ho : HO} (s : Step M H M2 H2) (hD : H D = none) : Step M H M2 (upd H2 D ho) where
  pre := s.pre
  new := s.new
  keep := fun a o h nt m => by rw [upd_ne (ne_of_none h hD)]; exact s.keep a o h nt m
  tbl := fun a ps m h => by rw [upd_ne (ne_of_none h hD)]; exact s.tbl a ps m h
  there := fun a m h => by
    by_cases e : a = D
    · subst e; exact absurd hD h
    · rw [upd_ne e]; exact s.there a m h
  old := s.old
  hold := s.hold
theorem Rep.hide {S : Sto} (r : Rep M H S) {p : Addr} {ho : HO} (hp : H p = none) : Rep (M.hid p) (upd H p ho) S :=
  ⟨r.nd, r.len, fun k q o h1 h2 => by
    obtain ⟨hq, e, b⟩ := r.at_ k q o h1 h2
    refine ⟨hq, by rw [upd_ne (ne_of_none e hp)]; exact e, ?_⟩
    have fp : ∀ {κ : Type} {xs : List (κ × V)} {ws : List (κ × W)}, PVW M H xs ws → PVW (M.hid p) (upd H p ho) xs ws := fun h => Paired.mapP h fun _ _ z => ⟨z.1, hid_vw r hp z.2⟩
    cases b with
    | lst a => exact .lst (hid_vws r hp a)
    | dk a => exact .dk (fp a)
    | dt a => exact .dt (fp a)
    | ins a => exact .ins (fp a)
    | row a =>
      obtain ⟨v, ns, i, z, e, a, q⟩ := a
      exact .row ⟨v, ns, i, z, e, hid_vw r hp a, q⟩
    | any m n => exact .any m n
    | tab t q =>
      refine .tab t fun pos cv e => ?_
      obtain ⟨c, h1, h2, h3⟩ := q pos cv e
      exact ⟨c, h1, ⟨h2.1, fun m => (List.mem_cons.mp m).elim (fun e => ne_of_none h3 hp e) h2.2⟩, by rw [upd_ne (ne_of_none h3 hp)]; exact h3⟩, fun q hq => by
    rcases List.mem_cons.mp hq with e | hq
    · subst e
      exact ⟨(by rw [upd_same]; exact fun z => nomatch z), fun m => r.alive (fun z => z.1 m) hp⟩
    · exact ⟨(step_tmp r (ho := ho) hp).alive (r.hid q hq).1, (r.hid q hq).2⟩, r.tb⟩
/-- what stands but for one address that no value reads -/
theorem step_over {S : Sto} (r : Rep M H S) {p : Addr} {u ho : HO} (hp : p ∈ M.h) (hu : H p = some u) (nt : (∀ ps, u ≠ .tbl ps) ∧ ∀ f, u ≠ .ext f) :
    (∀ w v, VW M H v w → VW M (upd H p ho) v w) ∧ Rep M (upd H p ho) S := by
  have e1 : ∀ {a : Addr}, M.out a → a ≠ p := fun o z => o.2 (z ▸ hp)
  have f : ∀ w v, VW M H v w → VW M (upd H p ho) v w := by
    intro w v h
    refine VW.rec (motive_1 := fun v w _ => VW M (upd H p ho) v w) (motive_2 := fun v w _ => VWs M (upd H p ho) v w) .non .bl .int .str ?_ ?_ ?_ .raw ?_ ?_ ?_ .nil ?_ h
    · intro a xs ws q _ ih
      exact .tup ⟨by rw [upd_ne (e1 q.2)]; exact q.1, q.2⟩ ih
    · intro a xs ws q _ ih
      exact .lst ⟨by rw [upd_ne (e1 q.2)]; exact q.1, q.2⟩ ih
    · intro a k q
      exact .ref q
    · intro K a ns q
      refine .scr ?_
      rcases q with ⟨q, qo⟩ | q
      · refine .inl ⟨?_, qo⟩
        rcases q with z | ⟨o, z⟩
        · exact .inl (by rw [upd_ne (e1 qo)]; exact z)
        · exact .inr ⟨o, by rw [upd_ne (e1 qo)]; exact z⟩
      · exact .inr q
    · intro a d f i q1 q2
      exact .xi q1 (by rw [upd_ne (e1 q1)]; exact q2)
    · intro a fs q
      exact .thg fun z hz => ⟨(q z hz).1, by rw [upd_ne (e1 (q z hz).1)]; exact (q z hz).2.1, (q z hz).2.2⟩
    · intro v vs w ws _ _ i1 i2
      exact .cons i1 i2
  have fs : ∀ {ws vs}, VWs M H vs ws → VWs M (upd H p ho) vs ws := by
    intro ws
    induction ws with
    | nil => intro vs h; cases h; exact .nil
    | cons w ws ih =>
      intro vs h
      cases h with
      | cons a b => exact .cons (f _ _ a) (ih b)
  have fp : ∀ {κ : Type} {xs : List (κ × V)} {ws : List (κ × W)}, PVW M H xs ws → PVW M (upd H p ho) xs ws := fun h => Paired.mapP h fun _ _ r => ⟨r.1, f _ _ r.2⟩
  refine ⟨f, ⟨r.nd, r.len, fun k q o h1 h2 => ?_, fun q hq => ⟨?_, (r.hid q hq).2⟩, r.tb⟩⟩
  · obtain ⟨hq, e, b⟩ := r.at_ k q o h1 h2
    have nq : q ≠ p := fun z => (r.hid p hp).2 (by rw [← z]; exact List.mem_of_getElem? h1)
    refine ⟨hq, by rw [upd_ne nq]; exact e, ?_⟩
    cases b with
    | lst a => exact .lst (fs a)
    | dk a => exact .dk (fp a)
    | dt a => exact .dt (fp a)
    | ins a => exact .ins (fp a)
    | row a =>
      obtain ⟨v, ns, i, z, e, a, q⟩ := a
      exact .row ⟨v, ns, i, z, e, f _ _ a, q⟩
    | any m n => exact .any m n
    | tab t q =>
      refine .tab t fun pos cv e => ?_
      obtain ⟨c, h1, h2, h3⟩ := q pos cv e
      have nc : c ≠ p := fun z => by
        rw [z, hu] at h3
        exact nt.2 _ (Option.some.inj h3)
      exact ⟨c, h1, h2, by rw [upd_ne nc]; exact h3⟩
  · by_cases z : q = p
    · subst z; rw [upd_same]; exact fun z => nomatch z
    · rw [upd_ne z]; exact (r.hid q hq).1
/-- the hidden one is shown: it is a list that nobody changes from now on -/
theorem vw_show {p : Addr} : ∀ {w v}, VW (M.hid p) H v w → VW M H v w := by
  intro w v h
  have o : ∀ {a : Addr}, (M.hid p).out a → M.out a := fun z => ⟨z.1, fun m => z.2 (List.mem_cons_of_mem _ m)⟩
  refine VW.rec (motive_1 := fun v w _ => VW M H v w) (motive_2 := fun v w _ => VWs M H v w) .non .bl .int .str ?_ ?_ ?_ .raw ?_ ?_ ?_ .nil ?_ h
  · intro a xs ws q _ ih
    exact .tup ⟨q.1, o q.2⟩ ih
  · intro a xs ws q _ ih
    exact .lst ⟨q.1, o q.2⟩ ih
  · intro a k q
    exact .ref q
  · intro K a ns q
    refine .scr ?_
    rcases q with ⟨q, qo⟩ | q
    · exact .inl ⟨q, o qo⟩
    · exact .inr q
  · intro a d f i q1 q2
    exact .xi (o q1) q2
  · intro a fs q
    exact .thg fun z hz => ⟨o (q z hz).1, (q z hz).2⟩
  · intro v vs w ws _ _ i1 i2
    exact .cons i1 i2
theorem vws_show {p : Addr} : ∀ {ws vs}, VWs (M.hid p) H vs ws → VWs M H vs ws := by
  intro ws
  induction ws with
  | nil => intro vs h; cases h; exact .nil
  | cons w ws ih =>
    intro vs h
    cases h with
    | cons a b => exact .cons (vw_show a) (ih b)
theorem Rep.show {S : Sto} {p : Addr} (r : Rep (M.hid p) H S) : Rep M H S :=
  ⟨r.nd, r.len, fun k q o h1 h2 => by
    obtain ⟨hq, e, b⟩ := r.at_ k q o h1 h2
    refine ⟨hq, e, ?_⟩
    have fp : ∀ {κ : Type} {xs : List (κ × V)} {ws : List (κ × W)}, PVW (M.hid p) H xs ws → PVW M H xs ws := fun h => Paired.mapP h fun _ _ r => ⟨r.1, vw_show r.2⟩
    cases b with
    | lst a => exact .lst (vws_show a)
    | dk a => exact .dk (fp a)
    | dt a => exact .dt (fp a)
    | ins a => exact .ins (fp a)
    | row a =>
      obtain ⟨v, ns, i, z, e, a, q⟩ := a
      exact .row ⟨v, ns, i, z, e, vw_show a, q⟩
    | any m n => exact .any m n
    | tab t q =>
      refine .tab t fun pos cv e => ?_
      obtain ⟨c, h1, h2, h3⟩ := q pos cv e
      exact ⟨c, h1, ⟨h2.1, fun m => h2.2 (List.mem_cons_of_mem _ m)⟩, h3⟩, fun q hq => r.hid q (List.mem_cons_of_mem _ hq), r.tb⟩
/-! ### slots -/
def EvOk (M : Lay) (H : Hp) (σ : L2.St) (E : AEnv) : Prop :=
  σ.length = E.length ∧ ∀ (i : Nat) w, E[i]? = some (some w) → ∃ v, σ[i]? = some (some v) ∧ VW M H v w
theorem EvOk.step (s : Step M H M2 H2) {σ : L2.St} {E : AEnv} (e : EvOk M H σ E) : EvOk M2 H2 σ E :=
  ⟨e.1, fun i w h => by
    obtain ⟨v, h1, h2⟩ := e.2 i w h
    exact ⟨v, h1, VW.step s _ _ h2⟩⟩
theorem EvOk.set {σ : L2.St} {E : AEnv} (e : EvOk M H σ E) {v : V} {w : W} (h : VW M H v w) (i : Nat) : EvOk M H (σ.set i (some v)) (E.set i (some w)) :=
  ⟨by simp [e.1], fun j u hj => by
    by_cases q : j = i
    · subst q
      have hl : j < E.length := by
        have z := (List.getElem?_eq_some_iff.mp hj).1
        simpa using z
      rw [List.getElem?_set_self hl] at hj
      cases hj
      exact ⟨v, List.getElem?_set_self (by rw [e.1]; exact hl), h⟩
    · rw [List.getElem?_set_ne (fun z => q z.symm)] at hj
      obtain ⟨x, h1, h2⟩ := e.2 j u hj
      exact ⟨x, by rw [List.getElem?_set_ne (fun z => q z.symm)]; exact h1, h2⟩⟩
end

-- AM2

/-! ### judgements -/
/-- what is wanted of an exception: its class, its own fields, the slots, the store -/
abbrev AX := Value → List (Str × W) → AEnv → Sto → Prop
abbrev nox : AX := fun _ _ _ _ => False
def Xd (M : Lay) (H : Hp) : Option Addr → List (Str × W) → Prop
  | none, fs => fs = []
  | some d, fs => fs ≠ [] ∧ M.out d ∧ ∃ kvs, H d = some (.xd kvs) ∧ PVW M H kvs fs
def ExcOk (X : Cx) (M : Lay) (H : Hp) (Ψ : AX) : Prop :=
  ∃ Wx : WX, Takes X Wx ∧ ∀ cls fs E2 S2 M2 H2 d σ2, Ψ cls fs E2 S2 → Rep M2 H2 S2 → EvOk M2 H2 σ2 E2 → Xd M2 H2 d fs → Step M H M2 H2 → Wx cls d σ2 H2
theorem ExcOk.step {X : Cx} {M M2 : Lay} {H H2 : Hp} {Ψ : AX} (x : ExcOk X M H Ψ) (s : Step M H M2 H2) : ExcOk X M2 H2 Ψ := by
  obtain ⟨Wx, t, h⟩ := x
  exact ⟨Wx, t, fun cls fs E2 S2 M3 H3 d σ2 p r e xd s2 => h cls fs E2 S2 M3 H3 d σ2 p r e xd (s.trans s2)⟩
theorem ExcOk.none {X : Cx} {M : Lay} {H : Hp} : ExcOk X M H nox := ⟨_, takes0, fun _ _ _ _ _ _ _ _ p => p.elim⟩
def Got (M : Lay) (H : Hp) (Φ : W → Sto → Prop) (Q : VK) : Prop :=
  ∀ v w M2 S2 H2, Φ w S2 → Rep M2 H2 S2 → VW M2 H2 v w → Step M H M2 H2 → Q v H2
def GotS (M : Lay) (H : Hp) (Φ : List W → Sto → Prop) (Q : List V → Hp → Prop) : Prop :=
  ∀ vs ws M2 S2 H2, Φ ws S2 → Rep M2 H2 S2 → VWs M2 H2 vs ws → Step M H M2 H2 → Q vs H2
def GotT (M : Lay) (H : Hp) (Φ : Bool → Sto → Prop) (Q : Bool → Hp → Prop) : Prop :=
  ∀ k M2 S2 H2, Φ k S2 → Rep M2 H2 S2 → Step M H M2 H2 → Q k H2

def sem (X : Cx) (e : Expr) : TE := fun σ H Q => ∀ pins s, Inv X pins σ H s → wpAny (model X.prog X.w) X.A (eval e X.env) (EP X pins σ Q) X.xe s
def semT (X : Cx) (e : Expr) : TT := fun σ H Q => ∀ pins s, Inv X pins σ H s → wpAny (model X.prog X.w) X.A (isTrue e X.env (eval e X.env)) (TP X pins σ Q) X.xe s
def semW (X : Cx) (e : Expr) : TT := fun σ H Q => ∀ (whole : Sem Value) pins s, Inv X pins σ H s → wpAny (model X.prog X.w) X.A (isTrue e X.env whole) (TP X pins σ Q) X.xe s
def semA (X : Cx) (es : List Expr) : TA := fun σ H Q => ∀ (pos : Pos) pins s, Inv X pins σ H s → wpAny (model X.prog X.w) X.A (spliced (backTo pos (starEach es X.env))) (AP X pins σ Q) X.xe s
def semS (X : Cx) (st : Stmt) : TS := fun D σ H => ∀ pins s, Inv X pins σ H s → wpAny (model X.prog X.w) X.A (exec st X.env) (SP X pins D) X.xe s
def semB (X : Cx) (st : List Stmt) : TS := fun D σ H => ∀ pins s, Inv X pins σ H s → wpAny (model X.prog X.w) X.A (execs st X.env) (SP X pins D) X.xe s
section
variable {X : Cx} {e : Expr} {es : List Expr} {st : Stmt} {sts : List Stmt}
theorem pe_sem : PE X e (sem X e) := ⟨fun pins s _ _ _ I h => h pins s I⟩
theorem pt_sem : PT X e (semT X e) := ⟨fun pins s _ _ _ I h => h pins s I⟩
theorem pw_sem : L2.PW X e (semW X e) := ⟨fun w pins s _ _ _ I h => h w pins s I⟩
theorem pa_sem : PA X es (semA X es) := ⟨fun p pins s _ _ _ I h => h p pins s I⟩
theorem ps_sem : PS X st (semS X st) := ⟨fun pins s _ _ _ I h => h pins s I⟩
theorem pss_sem : PSs X sts (semB X sts) := ⟨fun pins s _ _ _ I h => h pins s I⟩
end

structure wE (X : Cx) (Ψ : AX) (e : Expr) (E : AEnv) (S : Sto) (Φ : W → Sto → Prop) : Prop where
  run : ∀ M σ H, Rep M H S → EvOk M H σ E → ExcOk X M H Ψ → ∀ Q : VK, Got M H Φ Q → sem X e σ H Q
structure wT (X : Cx) (Ψ : AX) (e : Expr) (E : AEnv) (S : Sto) (Φ : Bool → Sto → Prop) : Prop where
  run : ∀ M σ H, Rep M H S → EvOk M H σ E → ExcOk X M H Ψ → ∀ Q, GotT M H Φ Q → semT X e σ H Q
structure wW (X : Cx) (Ψ : AX) (e : Expr) (E : AEnv) (S : Sto) (Φ : Bool → Sto → Prop) : Prop where
  run : ∀ M σ H, Rep M H S → EvOk M H σ E → ExcOk X M H Ψ → ∀ Q, GotT M H Φ Q → semW X e σ H Q
structure wA (X : Cx) (Ψ : AX) (es : List Expr) (E : AEnv) (S : Sto) (Φ : List W → Sto → Prop) : Prop where
  run : ∀ M σ H, Rep M H S → EvOk M H σ E → ExcOk X M H Ψ → ∀ Q, GotS M H Φ Q → semA X es σ H Q
/-- ends of statements -/
structure AE where
  nx : AEnv → Sto → Prop
  rt : W → Sto → Prop
  bk : AEnv → Sto → Prop := fun _ _ => False
  ct : AEnv → Sto → Prop := fun _ _ => False
structure GotB (M : Lay) (H : Hp) (A : AE) (D : Ends) : Prop where
  nx : ∀ σ E M2 S2 H2, A.nx E S2 → Rep M2 H2 S2 → EvOk M2 H2 σ E → Step M H M2 H2 → D.nx σ H2
  rt : Got M H A.rt D.rt
  bk : ∀ σ E M2 S2 H2, A.bk E S2 → Rep M2 H2 S2 → EvOk M2 H2 σ E → Step M H M2 H2 → D.bk σ H2
  ct : ∀ σ E M2 S2 H2, A.ct E S2 → Rep M2 H2 S2 → EvOk M2 H2 σ E → Step M H M2 H2 → D.ct σ H2
structure wS (X : Cx) (Ψ : AX) (st : Stmt) (E : AEnv) (S : Sto) (A : AE) : Prop where
  run : ∀ M σ H, Rep M H S → EvOk M H σ E → ExcOk X M H Ψ → ∀ D, GotB M H A D → semS X st D σ H
structure wB (X : Cx) (Ψ : AX) (st : List Stmt) (E : AEnv) (S : Sto) (A : AE) : Prop where
  run : ∀ M σ H, Rep M H S → EvOk M H σ E → ExcOk X M H Ψ → ∀ D, GotB M H A D → semB X st D σ H
theorem Got.step {M M2 : Lay} {H H2 : Hp} {Φ : W → Sto → Prop} {Q : VK} (g : Got M H Φ Q) (s : Step M H M2 H2) : Got M2 H2 Φ Q :=
  fun v w M3 S3 H3 p r a t => g v w M3 S3 H3 p r a (s.trans t)
theorem GotT.step {M M2 : Lay} {H H2 : Hp} {Φ : Bool → Sto → Prop} {Q : Bool → Hp → Prop} (g : GotT M H Φ Q) (s : Step M H M2 H2) : GotT M2 H2 Φ Q :=
  fun k M3 S3 H3 p r t => g k M3 S3 H3 p r (s.trans t)
theorem GotS.step {M M2 : Lay} {H H2 : Hp} {Φ : List W → Sto → Prop} {Q : List V → Hp → Prop} (g : GotS M H Φ Q) (s : Step M H M2 H2) : GotS M2 H2 Φ Q :=
  fun v w M3 S3 H3 p r a t => g v w M3 S3 H3 p r a (s.trans t)
theorem GotB.step {M M2 : Lay} {H H2 : Hp} {A : AE} {D : Ends} (g : GotB M H A D) (s : Step M H M2 H2) : GotB M2 H2 A D :=
  ⟨fun σ E M3 S3 H3 p r e t => g.nx σ E M3 S3 H3 p r e (s.trans t), g.rt.step s, fun σ E M3 S3 H3 p r e t => g.bk σ E M3 S3 H3 p r e (s.trans t), fun σ E M3 S3 H3 p r e t => g.ct σ E M3 S3 H3 p r e (s.trans t)⟩

section
variable {X : Cx} {Ψ : AX} {a b e : Expr} {es : List Expr} {E : AEnv} {S : Sto} {Φ : W → Sto → Prop} {ΦT : Bool → Sto → Prop} {ΦS : List W → Sto → Prop} {pos : Pos}
theorem wE.of {t : TE} (h : PE X e t) (g : ∀ M σ H, Rep M H S → EvOk M H σ E → ExcOk X M H Ψ → ∀ Q : VK, Got M H Φ Q → t σ H Q) : wE X Ψ e E S Φ :=
  ⟨fun M σ H r ev x Q q pins s I => h.run pins s σ H Q I (g M σ H r ev x Q q)⟩
theorem wT.of {t : TT} (h : PT X e t) (g : ∀ M σ H, Rep M H S → EvOk M H σ E → ExcOk X M H Ψ → ∀ Q, GotT M H ΦT Q → t σ H Q) : wT X Ψ e E S ΦT :=
  ⟨fun M σ H r ev x Q q pins s I => h.run pins s σ H Q I (g M σ H r ev x Q q)⟩
theorem wW.of {t : TT} (h : L2.PW X e t) (g : ∀ M σ H, Rep M H S → EvOk M H σ E → ExcOk X M H Ψ → ∀ Q, GotT M H ΦT Q → t σ H Q) : wW X Ψ e E S ΦT :=
  ⟨fun M σ H r ev x Q q w pins s I => h.run w pins s σ H Q I (g M σ H r ev x Q q)⟩
theorem wA.of {t : TA} (h : PA X es t) (g : ∀ M σ H, Rep M H S → EvOk M H σ E → ExcOk X M H Ψ → ∀ Q, GotS M H ΦS Q → t σ H Q) : wA X Ψ es E S ΦS :=
  ⟨fun M σ H r ev x Q q p pins s I => h.run p pins s σ H Q I (g M σ H r ev x Q q)⟩
theorem wS.of {st : Stmt} {t : TS} {A : AE} (h : PS X st t) (g : ∀ M σ H, Rep M H S → EvOk M H σ E → ExcOk X M H Ψ → ∀ D, GotB M H A D → t D σ H) : wS X Ψ st E S A :=
  ⟨fun M σ H r ev x D q pins s I => h.run pins s σ H D I (g M σ H r ev x D q)⟩
theorem wB.of {st : List Stmt} {t : TS} {A : AE} (h : PSs X st t) (g : ∀ M σ H, Rep M H S → EvOk M H σ E → ExcOk X M H Ψ → ∀ D, GotB M H A D → t D σ H) : wB X Ψ st E S A :=
  ⟨fun M σ H r ev x D q pins s I => h.run pins s σ H D I (g M σ H r ev x D q)⟩
theorem wE.imp {Φ' : W → Sto → Prop} (h : wE X Ψ e E S Φ) (g : ∀ w S', Φ w S' → Φ' w S') : wE X Ψ e E S Φ' :=
  ⟨fun M σ H r ev x Q q => h.run M σ H r ev x Q fun v w M2 S2 H2 p => q v w M2 S2 H2 (g _ _ p)⟩
theorem wT.imp {Φ' : Bool → Sto → Prop} (h : wT X Ψ e E S ΦT) (g : ∀ w S', ΦT w S' → Φ' w S') : wT X Ψ e E S Φ' :=
  ⟨fun M σ H r ev x Q q => h.run M σ H r ev x Q fun w M2 S2 H2 p => q w M2 S2 H2 (g _ _ p)⟩
theorem wB.imp {st : List Stmt} {A A' : AE} (h : wB X Ψ st E S A) (g1 : ∀ w S', A.nx w S' → A'.nx w S') (g2 : ∀ w S', A.rt w S' → A'.rt w S') (g3 : ∀ w S', A.bk w S' → A'.bk w S') (g4 : ∀ w S', A.ct w S' → A'.ct w S') : wB X Ψ st E S A' :=
  ⟨fun M σ H r ev x D q => h.run M σ H r ev x D ⟨fun σ E M2 S2 H2 p => q.nx σ E M2 S2 H2 (g1 _ _ p), fun v w M2 S2 H2 p => q.rt v w M2 S2 H2 (g2 _ _ p), fun σ E M2 S2 H2 p => q.bk σ E M2 S2 H2 (g3 _ _ p), fun σ E M2 S2 H2 p => q.ct σ E M2 S2 H2 (g4 _ _ p)⟩⟩

/-! ### names, constants -/
theorem wE_name {x : Str} {w : W} (i : Nat) (he : E[i]? = some (some w)) (h : Φ w S) (hN : X.N[i]? = some x := by rfl) (hv : Vis X.env.scope x := by first | exact Or.inl rfl | exact Or.inr (Or.inl rfl) | exact Or.inr (Or.inr rfl))
    (hd : (x == ("__debug__" : Str)) = false := by decide) (hcd : (x == ("__classdict__" : Str)) = false := by decide) : wE X Ψ (.Name x pos) E S Φ :=
  wE.of (pe_var (i := i) hN hv hd hcd) fun M σ H r ev _ Q q => by
    obtain ⟨v, h1, h2⟩ := ev.2 i w he
    exact ⟨v, h1, q v w M S H h r h2 (Step.refl M H)⟩
theorem wE_int {i j} (h : Φ (.int i) S) : wE X Ψ (.Constant (.int i) j pos) E S Φ := wE.of pe_int fun M σ H r _ _ Q q => q _ _ M S H h r (.int i) (Step.refl M H)
theorem wE_bl {i j} (h : Φ (.bl i) S) : wE X Ψ (.Constant (.bool i) j pos) E S Φ := wE.of pe_bl fun M σ H r _ _ Q q => q _ _ M S H h r (.bl i) (Step.refl M H)
theorem wE_non {j} (h : Φ .non S) : wE X Ψ (.Constant .none j pos) E S Φ := wE.of pe_non fun M σ H r _ _ Q q => q _ _ M S H h r .non (Step.refl M H)
theorem wE_str {x j} (h : Φ (.str x) S) : wE X Ψ (.Constant (.str x) j pos) E S Φ := wE.of pe_str fun M σ H r _ _ Q q => q _ _ M S H h r (.str x) (Step.refl M H)
/-- a module's constant, an int, a text; a def, a class -/
def cW : W → Option V
  | .non => some .non | .bl b => some (.bl b) | .int i => some (.int i) | .str x => some (.str x) | .raw v => some v | _ => none
theorem vw_c {M : Lay} {H : Hp} {w : W} {v : V} (h : cW w = some v) : VW M H v w := by
  cases w <;> simp [cW] at h <;> subst h
  · exact .non
  · exact .bl _
  · exact .int _
  · exact .str _
  · exact .raw _
theorem wE_glob {x : Str} {v : V} {u : Value} {w : W} (hm : X.mg x = some u) (r : RelV v u) (hw : cW w = some v) (h : Φ w S) (hg : Gl X x := by rfl) (hd : (x == ("__debug__" : Str)) = false := by decide) : wE X Ψ (.Name x pos) E S Φ :=
  wE.of (pe_glob hg hm r hd) fun M σ H r _ _ Q q => q _ _ M S H h r (vw_c hw) (Step.refl M H)
theorem wE_bltn {x : Str} {v : V} {u : Value} (hm : X.mg x = none) (hv : bootBuiltins x = some u) (r : RelV v u) (h : Φ (.raw v) S) (hg : Gl X x := by rfl) (hn : x ≠ "__name__" := by decide) (hd : (x == ("__debug__" : Str)) = false := by decide) : wE X Ψ (.Name x pos) E S Φ :=
  wE.of (pe_bltn hg hm hv r hn hd) fun M σ H r _ _ Q q => q _ _ M S H h r (.raw _) (Step.refl M H)

/-! ### lists of arguments, displays -/
theorem wA_nil (h : ΦS [] S) : wA X Ψ [] E S ΦS := wA.of pa_nil fun M σ H r _ _ Q q => q _ _ M S H h r .nil (Step.refl M H)
theorem wA_cons (h : wE X Ψ e E S fun w S1 => wA X Ψ es E S1 fun ws S2 => ΦS (w :: ws) S2) (hs : starEach (e :: es) X.env = (false, eval e X.env) :: starEach es X.env := by rfl) : wA X Ψ (e :: es) E S ΦS :=
  wA.of (pa_cons pe_sem pa_sem hs) fun M σ H r ev x Q q =>
    h.run M σ H r ev x _ fun v w M1 S1 H1 p r1 a1 s1 => p.run M1 σ H1 r1 (ev.step s1) (x.step s1) _ fun vs ws M2 S2 H2 p2 r2 a2 s2 =>
      q _ _ M2 S2 H2 p2 r2 (.cons (VW.step s2 _ _ a1) a2) (s1.trans s2)
theorem tq_new {M : Lay} {H : Hp} {S : Sto} (r : Rep M H S) {p : Addr} {xs : List V} {ws : List W} (hp : H p = none) (a : VWs M H xs ws) : VW M (upd H p (.tup xs)) (.ref p) (.tup ws) :=
  .tup ⟨upd_same, r.free hp⟩ (VWs.step (step_tmp r hp) _ _ a)
theorem lq_new {M : Lay} {H : Hp} {S : Sto} (r : Rep M H S) {p : Addr} {xs : List V} {ws : List W} (hp : H p = none) (a : VWs M H xs ws) : VW M (upd H p (.lst xs)) (.ref p) (.lst ws) :=
  .lst ⟨upd_same, r.free hp⟩ (VWs.step (step_tmp r hp) _ _ a)
theorem lst_new {M : Lay} {H : Hp} {S : Sto} (r : Rep M H S) {p : Addr} {xs : List V} {ws : List W} (hp : H p = none) (a : VWs M H xs ws) : Rep (M.add p) (upd H p (.lst xs)) (S ++ [.lst ws]) ∧ VW (M.add p) (upd H p (.lst xs)) (.ref p) (.ref S.length) :=
  ⟨r.new hp (.lst (VWs.step (step_new r hp) _ _ a)), .ref (by show (M.m ++ [p])[S.length]? = some p; rw [← r.len, List.getElem?_append_right (Nat.le_refl _)]; simp)⟩
theorem wE_tup {x1} (h : wA X Ψ es E S fun ws S1 => ws.length ≤ 100000 ∧ Φ (.tup ws) S1) : wE X Ψ (.Tuple es x1 pos) E S Φ :=
  wE.of (pe_tup pa_sem) fun M σ H r ev x Q q => h.run M σ H r ev x _ fun vs ws M1 S1 H1 p r1 a1 s1 =>
    ⟨Nat.le_trans (by rw [a1.length]; exact p.1) (by decide), fun ad hp => q _ _ M1 S1 _ p.2 (r1.tmp hp) (tq_new r1 hp a1) (s1.trans (step_tmp r1 hp))⟩
/-- a list that nobody will change -/
theorem wE_lst (h : wA X Ψ es E S fun ws S1 => ws.length ≤ 100000 ∧ Φ (.lst ws) S1) : wE X Ψ (.List es pos) E S Φ :=
  wE.of (pe_lst pa_sem) fun M σ H r ev x Q q => h.run M σ H r ev x _ fun vs ws M1 S1 H1 p r1 a1 s1 =>
    ⟨Nat.le_trans (by rw [a1.length]; exact p.1) (by decide), fun ad hp => q _ _ M1 S1 _ p.2 (r1.tmp hp) (lq_new r1 hp a1) (s1.trans (step_tmp r1 hp))⟩
/-- a list of one's own -/
theorem wE_lstN (h : wA X Ψ es E S fun ws S1 => ws.length ≤ 100000 ∧ Φ (.ref S1.length) (S1 ++ [.lst ws])) : wE X Ψ (.List es pos) E S Φ :=
  wE.of (pe_lst pa_sem) fun M σ H r ev x Q q => h.run M σ H r ev x _ fun vs ws M1 S1 H1 p r1 a1 s1 =>
    ⟨Nat.le_trans (by rw [a1.length]; exact p.1) (by decide), fun ad hp => q _ _ _ _ _ p.2 (lst_new r1 hp a1).1 (lst_new r1 hp a1).2 (s1.trans (step_new r1 hp))⟩

/-! ### two-place operations -/
/-- what an operation on values does with abstract ones -/
def OpW (X : Cx) (r : R2) (g : W → W → Sto → (W → Sto → Prop) → Prop) : Prop :=
  ∀ M H S v u x y Φ, Rep M H S → VW M H v x → VW M H u y → g x y S Φ → ∀ Q, Got M H Φ Q → r v u H Q
theorem two {r : R2} {g : W → W → Sto → (W → Sto → Prop) → Prop} (hw : OpW X r g) (h : wE X Ψ a E S fun x S1 => wE X Ψ b E S1 fun y S2 => g x y S2 Φ)
    {M σ H} (r1 : Rep M H S) (ev : EvOk M H σ E) (x : ExcOk X M H Ψ) {Q} (q : Got M H Φ Q) : tOp r (sem X a) (sem X b) σ H Q :=
  h.run M σ H r1 ev x _ fun v w M1 S1 H1 p1 r1 a1 s1 => p1.run M1 σ H1 r1 (ev.step s1) (x.step s1) _ fun u w2 M2 S2 H2 p2 r2 a2 s2 =>
    hw M2 H2 S2 v u w w2 Φ r2 (VW.step s2 _ _ a1) a2 p2 Q (q.step (s1.trans s2))
theorem wE_op {op : Operator} {r : R2} {g : W → W → Sto → (W → Sto → Prop) → Prop} (ho : OpR X (binaryOp op) r) (hw : OpW X r g) (h : wE X Ψ a E S fun x S1 => wE X Ψ b E S1 fun y S2 => g x y S2 Φ) : wE X Ψ (.BinOp a op b pos) E S Φ :=
  wE.of (pe_op ho pe_sem pe_sem) fun M σ H r1 ev x Q q => two hw h r1 ev x q
/-- .. that changes nothing -/
theorem opw_pure {r : R2} {g : W → W → Sto → (W → Sto → Prop) → Prop} (h : ∀ M H S v u x y Φ, Rep M H S → VW M H v x → VW M H u y → g x y S Φ → ∀ Q : VK, (∀ z w, Φ w S → VW M H z w → Q z H) → r v u H Q) : OpW X r g :=
  fun M H S v u x y Φ r a1 a2 gg Q q => h M H S v u x y Φ r a1 a2 gg Q fun z w p az => q z w M S H p r az (Step.refl M H)
def gI (C : Int → Int → Prop) (f : Int → Int → W) : W → W → Sto → (W → Sto → Prop) → Prop := fun x y S Φ => ∃ i j, x = .int i ∧ y = .int j ∧ C i j ∧ Φ (f i j) S
theorem opw_I {C : Int → Int → Prop} {f : Int → Int → Int} : OpW X (rI C fun i j => .int (f i j)) (gI C fun i j => .int (f i j)) := opw_pure fun M H S v u x y Φ r a1 a2 gg Q q => by
  obtain ⟨i, j, rfl, rfl, c, p⟩ := gg
  cases a1; cases a2
  exact ⟨i, j, rfl, rfl, c, q _ _ p (.int _)⟩
theorem opw_I0 {f : Int → Int → Int} : OpW X (rI0 fun i j => .int (f i j)) (gI (fun _ _ => True) fun i j => .int (f i j)) := opw_pure fun M H S v u x y Φ r a1 a2 gg Q q => by
  obtain ⟨i, j, rfl, rfl, _, p⟩ := gg
  cases a1; cases a2
  exact ⟨i, j, rfl, rfl, q _ _ p (.int _)⟩
theorem opw_B0 {f : Int → Int → Bool} : OpW X (rI0 fun i j => .bl (f i j)) (gI (fun _ _ => True) fun i j => .bl (f i j)) := opw_pure fun M H S v u x y Φ r a1 a2 gg Q q => by
  obtain ⟨i, j, rfl, rfl, _, p⟩ := gg
  cases a1; cases a2
  exact ⟨i, j, rfl, rfl, q _ _ p (.bl _)⟩
theorem wE_sub (h : wE X Ψ a E S fun x S1 => wE X Ψ b E S1 fun y S2 => ∃ i j, x = .int i ∧ y = .int j ∧ True ∧ Φ (.int (i - j)) S2) : wE X Ψ (.BinOp a .Sub b pos) E S Φ := wE_op op_sub opw_I0 h
theorem wE_mul (h : wE X Ψ a E S fun x S1 => wE X Ψ b E S1 fun y S2 => ∃ i j, x = .int i ∧ y = .int j ∧ CMul i j ∧ Φ (.int (i * j)) S2) : wE X Ψ (.BinOp a .Mult b pos) E S Φ := wE_op op_mul opw_I h
theorem wE_mod (h : wE X Ψ a E S fun x S1 => wE X Ψ b E S1 fun y S2 => ∃ i j, x = .int i ∧ y = .int j ∧ 0 < j ∧ Φ (.int (i % j)) S2) : wE X Ψ (.BinOp a .Mod b pos) E S Φ := wE_op op_mod opw_I h
theorem wE_fdiv (h : wE X Ψ a E S fun x S1 => wE X Ψ b E S1 fun y S2 => ∃ i j, x = .int i ∧ y = .int j ∧ CDiv i j ∧ Φ (.int (i / j)) S2) : wE X Ψ (.BinOp a .FloorDiv b pos) E S Φ := wE_op op_fdiv opw_I h
end

-- AM3

/-! ### data -/
mutual
def W.d : W → PyData
  | .non => .none | .bl b => .bool b | .int i => .int i | .str x => .str x
  | .tup ws => .tuple (W.ds ws) | .lst ws => .list (W.ds ws) | .ref _ => .none | .raw _ => .none | .scr _ _ => .none | .xi _ _ _ _ => .none | .thg _ _ => .none
def W.ds : List W → List PyData
  | [] => []
  | w :: ws => w.d :: W.ds ws
end
mutual
def W.ok : W → Nat → Bool
  | .non, _ => true | .bl _, _ => true | .int _, _ => true | .str x, _ => PyData.strOk x
  | .tup ws, n => match n with
    | 0 => false
    | n + 1 => W.oks ws n
  | .lst ws, n => match n with
    | 0 => false
    | n + 1 => W.oks ws n
  | .ref _, _ => false | .raw _, _ => false | .scr _ _, _ => false | .xi _ _ _ _, _ => false | .thg _ _, _ => false
def W.oks : List W → Nat → Bool
  | [], _ => true
  | w :: ws, n => w.ok n && W.oks ws n
end
theorem W.oks_all {ws : List W} {n : Nat} : W.oks ws n = ws.all (fun w => w.ok n) := by
  induction ws with
  | nil => rfl
  | cons w ws ih => simp [W.oks, ih]
theorem W.ds_map {ws : List W} : W.ds ws = ws.map W.d := by
  induction ws with
  | nil => rfl
  | cons w ws ih => simp [W.ds, ih]
mutual
theorem W.ok_mono : ∀ (w : W) {n m : Nat}, n ≤ m → w.ok n = true → w.ok m = true
  | .non, _, _, _, _ => by simp [W.ok]
  | .bl _, _, _, _, _ => by simp [W.ok]
  | .int _, _, _, _, _ => by simp [W.ok]
  | .str _, _, _, _, q => by simpa [W.ok] using q
  | .tup ws, n, m, h, q => by
    cases n with
    | zero => simp [W.ok] at q
    | succ n => cases m with
      | zero => omega
      | succ m => simp only [W.ok] at q ⊢; exact W.oks_mono ws (by omega) q
  | .lst ws, n, m, h, q => by
    cases n with
    | zero => simp [W.ok] at q
    | succ n => cases m with
      | zero => omega
      | succ m => simp only [W.ok] at q ⊢; exact W.oks_mono ws (by omega) q
  | .ref _, _, _, _, q => by simp [W.ok] at q
  | .raw _, _, _, _, q => by simp [W.ok] at q
  | .scr _ _, _, _, _, q => by simp [W.ok] at q
  | .xi _ _ _ _, _, _, _, q => by simp [W.ok] at q
  | .thg _ _, _, _, _, q => by simp [W.ok] at q
theorem W.oks_mono : ∀ (ws : List W) {n m : Nat}, n ≤ m → W.oks ws n = true → W.oks ws m = true
  | [], _, _, _, _ => rfl
  | w :: ws, n, m, h, q => by
    simp only [W.oks, Bool.and_eq_true] at q ⊢
    exact ⟨W.ok_mono w h q.1, W.oks_mono ws h q.2⟩
end
mutual
theorem W.lay : ∀ (w : W) (n : Nat), w.ok n = true → w.d.canLay0 = true ∧ w.d.depth ≤ n + 1
  | .non, n, _ => by simp [W.d, PyData.canLay0, PyData.depth]
  | .bl _, n, _ => by simp [W.d, PyData.canLay0, PyData.depth]
  | .int _, n, _ => by simp [W.d, PyData.canLay0, PyData.depth]
  | .str _, n, q => by simpa [W.d, PyData.canLay0, PyData.depth, W.ok] using q
  | .tup ws, n, q => by
    cases n with
    | zero => simp [W.ok] at q
    | succ n =>
      simp only [W.ok] at q
      have h := W.lays ws n q
      simp only [W.d, PyData.canLay0, PyData.depth]
      exact ⟨h.1, by omega⟩
  | .lst ws, n, q => by
    cases n with
    | zero => simp [W.ok] at q
    | succ n =>
      simp only [W.ok] at q
      have h := W.lays ws n q
      simp only [W.d, PyData.canLay0, PyData.depth]
      exact ⟨h.1, by omega⟩
  | .ref _, _, q => by simp [W.ok] at q
  | .raw _, _, q => by simp [W.ok] at q
  | .scr _ _, _, q => by simp [W.ok] at q
  | .xi _ _ _ _, _, q => by simp [W.ok] at q
  | .thg _ _, _, q => by simp [W.ok] at q
theorem W.lays : ∀ (ws : List W) (n : Nat), W.oks ws n = true → PyData.canLayAll0 (W.ds ws) = true ∧ PyData.depthAll (W.ds ws) ≤ n + 1
  | [], n, _ => by simp [W.ds, PyData.canLayAll0, PyData.depthAll]
  | w :: ws, n, q => by
    simp only [W.oks, Bool.and_eq_true] at q
    have h1 := W.lay w n q.1
    have h2 := W.lays ws n q.2
    simp only [W.ds, PyData.canLayAll0, PyData.depthAll, Bool.and_eq_true]
    exact ⟨⟨h1.1, h2.1⟩, by omega⟩
end
theorem W.shaped {w : W} {n : Nat} (h : w.ok n = true) (hn : n ≤ 60) : SeqAt.shaped w.d = true := by
  have q := W.lay w n h
  show (w.d.canLay0 && decide (w.d.depth ≤ 64)) = true
  rw [q.1, Bool.true_and]
  exact decide_eq_true (by omega)
/- what a value is, the mutable lists looked up -/
mutual
inductive Den (S : Sto) : W → PyData → Prop
  | non : Den S .non .none
  | bl (b : Bool) : Den S (.bl b) (.bool b)
  | int (i : Int) : Den S (.int i) (.int i)
  | str (x : Str) : Den S (.str x) (.str x)
  | tup {ws ds} : DenAll S ws ds → Den S (.tup ws) (.tuple ds)
  | lst {ws ds} : DenAll S ws ds → Den S (.lst ws) (.list ds)
  | ref {k ws ds} : S[k]? = some (.lst ws) → DenAll S ws ds → Den S (.ref k) (.list ds)
inductive DenAll (S : Sto) : List W → List PyData → Prop
  | nil : DenAll S [] []
  | cons {w ws d ds} : Den S w d → DenAll S ws ds → DenAll S (w :: ws) (d :: ds)
end
mutual
theorem Den.of {S : Sto} : ∀ (w : W) (n : Nat), w.ok n = true → Den S w w.d
  | .non, _, _ => .non
  | .bl b, _, _ => .bl b
  | .int i, _, _ => .int i
  | .str x, _, _ => .str x
  | .tup ws, n, q => by
    cases n with
    | zero => simp [W.ok] at q
    | succ n => exact .tup (DenAll.of ws n (by simpa [W.ok] using q))
  | .lst ws, n, q => by
    cases n with
    | zero => simp [W.ok] at q
    | succ n => exact .lst (DenAll.of ws n (by simpa [W.ok] using q))
  | .ref _, _, q => by simp [W.ok] at q
  | .raw _, _, q => by simp [W.ok] at q
  | .scr _ _, _, q => by simp [W.ok] at q
  | .xi _ _ _ _, _, q => by simp [W.ok] at q
  | .thg _ _, _, q => by simp [W.ok] at q
theorem DenAll.of {S : Sto} : ∀ (ws : List W) (n : Nat), W.oks ws n = true → DenAll S ws (W.ds ws)
  | [], _, _ => .nil
  | w :: ws, n, q => by
    simp only [W.oks, Bool.and_eq_true] at q
    exact .cons (Den.of w n q.1) (DenAll.of ws n q.2)
end
section
variable {K : PySem.W.Frag} {M : Lay} {H : Hp} {S : Sto}
theorem Rep.lst (r : Rep M H S) {k : Nat} {ws : List W} (h : S[k]? = some (.lst ws)) : ∃ p xs, M.m[k]? = some p ∧ H p = some (.lst xs) ∧ VWs M H xs ws := by
  obtain ⟨p, ho, h1, h2, b⟩ := r.at' h
  cases b with
  | lst a => exact ⟨p, _, h1, h2, a⟩
mutual
theorem VW.dp (r : Rep M H S) : ∀ (d : PyData) (w : W) (v : V), VW M H v w → Den S w d → Dp K H v d
  | .none, _, _, a, b => by cases b; cases a; exact .non
  | .bool _, _, _, a, b => by cases b; cases a; exact .bl _
  | .int _, _, _, a, b => by cases b; cases a; exact .int _
  | .str _, _, _, a, b => by cases b; cases a; exact .str _
  | .tuple ds, _, _, a, b => by
    cases b with
    | tup b => cases a with
      | tup q a => exact .tup q.sq (VWs.dp r ds _ _ a b)
  | .list ds, _, _, a, b => by
    cases b with
    | lst b => cases a with
      | lst q a => exact .lst q.sq (VWs.dp r ds _ _ a b)
    | ref hk b => cases a with
      | ref hm =>
        obtain ⟨p, xs, h1, h2, h3⟩ := r.lst hk
        rw [hm] at h1; cases h1
        exact .lst (SqL.of h2) (VWs.dp r ds _ _ h3 b)
  | .dict _, _, _, a, b => by cases b
theorem VWs.dp (r : Rep M H S) : ∀ (ds : List PyData) (ws : List W) (vs : List V), VWs M H vs ws → DenAll S ws ds → DpAll K H vs ds
  | [], _, _, a, b => by cases b; cases a; exact .nil
  | d :: ds, _, _, a, b => by
    cases b with
    | cons b1 b2 => cases a with
      | cons a1 a2 => exact .cons (VW.dp r d _ _ a1 b1) (VWs.dp r ds _ _ a2 b2)
end
end
def eqW (x y : W) : Bool := PyData.eqv x.d y.d
def inW (x : W) (ws : List W) : Bool := ws.any fun z => eqW z x

/-! ### comparisons -/
section
variable {X : Cx} {Ψ : AX} {a b c e : Expr} {es : List Expr} {E : AEnv} {S : Sto} {Φ : W → Sto → Prop} {ΦT : Bool → Sto → Prop} {ΦS : List W → Sto → Prop} {pos : Pos}
theorem wE_cmp {op : CmpOp} {r : R2} {g : W → W → Sto → (W → Sto → Prop) → Prop} (ho : OpR X (compareOp op) r) (hw : OpW X r g) (h : wE X Ψ a E S fun x S1 => wE X Ψ b E S1 fun y S2 => g x y S2 Φ) (hm : behindInMarks op b = false := by first | exact nomark _ | rfl) : wE X Ψ (.Compare a [op] [b] pos) E S Φ :=
  wE.of (pe_cmpR ho pe_sem pe_sem hm) fun M σ H r1 ev x Q q => two hw h r1 ev x q
theorem wT_cmp {op : CmpOp} {r : R2} {g : W → W → Sto → (W → Sto → Prop) → Prop} (ho : OpR X (compareOp op) r) (hw : OpW X r g) (h : wE X Ψ a E S fun x S1 => wE X Ψ b E S1 fun y S2 => g x y S2 fun w S3 => ∃ k, w = .bl k ∧ ΦT k S3) (hm : behindInMarks op b = false := by first | exact nomark _ | rfl) : wT X Ψ (.Compare a [op] [b] pos) E S ΦT :=
  wT.of (pt_cmpR ho pe_sem pe_sem hm) fun M σ H r1 ev x Q q => two hw h r1 ev x fun z w M2 S2 H2 p r2 a2 s2 => by
    obtain ⟨k, rfl, p⟩ := p
    cases a2
    exact ⟨k, rfl, q k M2 S2 H2 p r2 s2⟩
abbrev G2 := W → W → Sto → (W → Sto → Prop) → Prop
abbrev gEq : G2 := fun x y S Φ => x.ok 60 = true ∧ y.ok 60 = true ∧ Φ (.bl (eqW x y)) S
abbrev gNe : G2 := fun x y S Φ => x.ok 60 = true ∧ y.ok 60 = true ∧ Φ (.bl (!eqW x y)) S
abbrev gEqD : G2 := fun x y S Φ => ∃ d e, Den S x d ∧ Den S y e ∧ SeqAt.shaped d = true ∧ SeqAt.shaped e = true ∧ Φ (.bl (PyData.eqv d e)) S
abbrev gNeD : G2 := fun x y S Φ => ∃ d e, Den S x d ∧ Den S y e ∧ SeqAt.shaped d = true ∧ SeqAt.shaped e = true ∧ Φ (.bl (!PyData.eqv d e)) S
theorem opw_eqD : OpW X (rEqD X.K) gEqD := opw_pure fun M H S v u x y Φ r a1 a2 ⟨d, e, h1, h2, h3, h4, p⟩ Q q => ⟨d, e, VW.dp r _ _ _ a1 h1, VW.dp r _ _ _ a2 h2, h3, h4, q _ _ p (.bl _)⟩
theorem opw_neD : OpW X (rNeD X.K) gNeD := opw_pure fun M H S v u x y Φ r a1 a2 ⟨d, e, h1, h2, h3, h4, p⟩ Q q => ⟨d, e, VW.dp r _ _ _ a1 h1, VW.dp r _ _ _ a2 h2, h3, h4, q _ _ p (.bl _)⟩
theorem opw_eq : OpW X (rEqD X.K) gEq := fun M H S v u x y Φ r a1 a2 ⟨h1, h2, p⟩ Q q => opw_eqD (X := X) M H S v u x y Φ r a1 a2 ⟨_, _, Den.of x _ h1, Den.of y _ h2, W.shaped h1 (Nat.le_refl _), W.shaped h2 (Nat.le_refl _), p⟩ Q q
theorem opw_ne : OpW X (rNeD X.K) gNe := fun M H S v u x y Φ r a1 a2 ⟨h1, h2, p⟩ Q q => opw_neD (X := X) M H S v u x y Φ r a1 a2 ⟨_, _, Den.of x _ h1, Den.of y _ h2, W.shaped h1 (Nat.le_refl _), W.shaped h2 (Nat.le_refl _), p⟩ Q q
abbrev gLt : G2 := gI (fun _ _ => True) fun i j => .bl (decide (i < j))
/-- is None, of any thing -/
def isNonW : W → Option Bool
  | .non => some true | .raw .non => some true | .raw _ => some false | _ => some false
abbrev gIsN : G2 := fun x y S Φ => y = .non ∧ ∃ k, isNonW x = some k ∧ Φ (.bl k) S
abbrev gNotN : G2 := fun x y S Φ => y = .non ∧ ∃ k, isNonW x = some k ∧ Φ (.bl (!k)) S
theorem isNon_ok {M : Lay} {H : Hp} {v : V} {x : W} {k : Bool} (a : VW M H v x) (h : isNonW x = some k) : decide (v = .non) = k := by
  cases a with
  | raw v => cases v <;> simp [isNonW] at h <;> simp [h]
  | _ => simp [isNonW] at h <;> simp [h]
theorem opw_isN : OpW X (fun x y H Q => y = .non ∧ Q (.bl (decide (x = .non))) H) gIsN := opw_pure fun M H S v u x y Φ r a1 a2 ⟨e, k, hk, p⟩ Q q => by
  subst e
  cases a2
  refine ⟨rfl, ?_⟩
  rw [isNon_ok a1 hk]
  exact q _ _ p (.bl _)
theorem opw_notN : OpW X (fun x y H Q => y = .non ∧ Q (.bl (!decide (x = .non))) H) gNotN := opw_pure fun M H S v u x y Φ r a1 a2 ⟨e, k, hk, p⟩ Q q => by
  subst e
  cases a2
  refine ⟨rfl, ?_⟩
  rw [isNon_ok a1 hk]
  exact q _ _ p (.bl _)
/-- low <= x <= high -/
theorem wE_chainI {f g : Int → Int → Bool} {op op' : CmpOp} (ho : OpR X (compareOp op) (rI0 fun i j => .bl (f i j))) (ho' : OpR X (compareOp op') (rI0 fun i j => .bl (g i j)))
    (h : wE X Ψ a E S fun x S1 => wE X Ψ b E S1 fun y S2 => ∃ i j, x = .int i ∧ y = .int j ∧ if f i j = true then wE X Ψ c E S2 (fun z S3 => ∃ k, z = .int k ∧ Φ (.bl (g j k)) S3) else Φ (.bl false) S2)
    (hm : lastMarks [op, op'] [b, c] = false := by with_unfolding_all rfl) : wE X Ψ (.Compare a [op, op'] [b, c] pos) E S Φ :=
  wE.of (pe_chain ho ho' pe_sem pe_sem pe_sem hm) fun M σ H r1 ev x Q q => h.run M σ H r1 ev x _ fun v w M1 S1 H1 p1 r1 a1 s1 => p1.run M1 σ H1 r1 (ev.step s1) (x.step s1) _ fun u w2 M2 S2 H2 p2 r2 a2 s2 => by
    obtain ⟨i, j, rfl, rfl, p2⟩ := p2
    have a1' := VW.step s2 _ _ a1
    cases a1'; cases a2
    refine ⟨i, j, rfl, rfl, f i j, rfl, ?_⟩
    cases hf : f i j with
    | true =>
      rw [hf] at p2
      refine L2.iteT ((show wE X Ψ c E S2 _ from p2).run M2 σ H2 r2 ((ev.step s1).step s2) ((x.step s1).step s2) _ fun t w3 M3 S3 H3 p3 r3 a3 s3 => ?_)
      obtain ⟨k, rfl, p3⟩ := p3
      cases a3
      exact ⟨j, k, rfl, rfl, q _ _ M3 S3 H3 p3 r3 (.bl _) ((s1.trans s2).trans s3)⟩
    | false =>
      rw [hf] at p2
      exact L2.iteF (q _ _ M2 S2 H2 p2 r2 (.bl _) (s1.trans s2))
end

-- AM4

section
variable {X : Cx} {Ψ : AX} {a b c e o : Expr} {es rest : List Expr} {E : AEnv} {S : Sto} {Φ : W → Sto → Prop} {ΦT : Bool → Sto → Prop} {ΦS : List W → Sto → Prop} {pos : Pos}
theorem wE_cmpEq (hu : X.A.units + 65 < cLine) (h : wE X Ψ a E S fun x S1 => wE X Ψ b E S1 fun y S2 => gEq x y S2 Φ) : wE X Ψ (.Compare a [.Eq] [b] pos) E S Φ := wE_cmp (op_eqD (by omega)) opw_eq h
theorem wE_cmpNe (hu : X.A.units + 65 < cLine) (h : wE X Ψ a E S fun x S1 => wE X Ψ b E S1 fun y S2 => gNe x y S2 Φ) : wE X Ψ (.Compare a [.NotEq] [b] pos) E S Φ := wE_cmp (op_neD (by omega)) opw_ne h
theorem wT_cmpEq (hu : X.A.units + 65 < cLine) (h : wE X Ψ a E S fun x S1 => wE X Ψ b E S1 fun y S2 => x.ok 60 = true ∧ y.ok 60 = true ∧ ΦT (eqW x y) S2) : wT X Ψ (.Compare a [.Eq] [b] pos) E S ΦT :=
  wT_cmp (op_eqD (by omega)) opw_eq (h.imp fun w S1 q => q.imp fun y S2 p => ⟨p.1, p.2.1, _, rfl, p.2.2⟩)
theorem wT_cmpNe (hu : X.A.units + 65 < cLine) (h : wE X Ψ a E S fun x S1 => wE X Ψ b E S1 fun y S2 => x.ok 60 = true ∧ y.ok 60 = true ∧ ΦT (!eqW x y) S2) : wT X Ψ (.Compare a [.NotEq] [b] pos) E S ΦT :=
  wT_cmp (op_neD (by omega)) opw_ne (h.imp fun w S1 q => q.imp fun y S2 p => ⟨p.1, p.2.1, _, rfl, p.2.2⟩)
theorem wT_cmpI {op : CmpOp} {f : Int → Int → Bool} (ho : OpR X (compareOp op) (rI0 fun i j => .bl (f i j))) (h : wE X Ψ a E S fun x S1 => wE X Ψ b E S1 fun y S2 => ∃ i j, x = .int i ∧ y = .int j ∧ ΦT (f i j) S2) (hm : behindInMarks op b = false := by first | exact nomark _ | rfl) : wT X Ψ (.Compare a [op] [b] pos) E S ΦT :=
  wT_cmp ho opw_B0 (h.imp fun w S1 q => q.imp fun y S2 ⟨i, j, e1, e2, p⟩ => ⟨i, j, e1, e2, True.intro, _, rfl, p⟩) hm
theorem wE_cmpI {op : CmpOp} {f : Int → Int → Bool} (ho : OpR X (compareOp op) (rI0 fun i j => .bl (f i j))) (h : wE X Ψ a E S fun x S1 => wE X Ψ b E S1 fun y S2 => ∃ i j, x = .int i ∧ y = .int j ∧ Φ (.bl (f i j)) S2) (hm : behindInMarks op b = false := by first | exact nomark _ | rfl) : wE X Ψ (.Compare a [op] [b] pos) E S Φ :=
  wE_cmp ho opw_B0 (h.imp fun w S1 q => q.imp fun y S2 ⟨i, j, e1, e2, p⟩ => ⟨i, j, e1, e2, True.intro, p⟩) hm
theorem wT_isN (h : wE X Ψ a E S fun x S1 => ∃ k, isNonW x = some k ∧ ΦT k S1) {j pos'} : wT X Ψ (.Compare a [.Is] [.Constant .none j pos'] pos) E S ΦT :=
  wT_cmp op_isN opw_isN (h.imp fun w S1 ⟨k, e, p⟩ => wE_non ⟨rfl, k, e, _, rfl, p⟩)
theorem wT_notN (h : wE X Ψ a E S fun x S1 => ∃ k, isNonW x = some k ∧ ΦT (!k) S1) {j pos'} : wT X Ψ (.Compare a [.IsNot] [.Constant .none j pos'] pos) E S ΦT :=
  wT_cmp op_notN opw_notN (h.imp fun w S1 ⟨k, e, p⟩ => wE_non ⟨rfl, k, e, _, rfl, p⟩)
theorem wE_isN (h : wE X Ψ a E S fun x S1 => ∃ k, isNonW x = some k ∧ Φ (.bl k) S1) {j pos'} : wE X Ψ (.Compare a [.Is] [.Constant .none j pos'] pos) E S Φ :=
  wE_cmp op_isN opw_isN (h.imp fun w S1 ⟨k, e, p⟩ => wE_non ⟨rfl, k, e, p⟩)
theorem wE_notN (h : wE X Ψ a E S fun x S1 => ∃ k, isNonW x = some k ∧ Φ (.bl (!k)) S1) {j pos'} : wE X Ψ (.Compare a [.IsNot] [.Constant .none j pos'] pos) E S Φ :=
  wE_cmp op_notN opw_notN (h.imp fun w S1 ⟨k, e, p⟩ => wE_non ⟨rfl, k, e, p⟩)

/-! ### in -/
def rInTD (K : PySem.W.Frag) (neg : Bool) : R2 := fun x y H Q => ∃ d ds, Dp K H x d ∧ Dp K H y (.tuple ds) ∧ SeqAt.shaped d = true ∧ SeqAt.shaped (.tuple ds) = true ∧ Q (.bl (if neg then !ds.any fun z => PyData.eqv z d else ds.any fun z => PyData.eqv z d)) H
theorem op_inTD (hu : X.A.units + 65 < cLine) : OpR X (compareOp .In) (rInTD X.K false) := by
  intro pins s σ H x y v u Q I rx ry h
  obtain ⟨d, ds, hd, he, sd, se, q⟩ := h
  obtain ⟨as, r1⟩ := Dp.reads I d x v hd rx
  obtain ⟨bs, r2⟩ := Dp.reads I (.tuple ds) y u he ry
  exact SeqAt.in_tuple_reads r2 r1 (SeqAt.canLay_of_shaped se) (SeqAt.canLay_of_shaped sd) (room_in_shaped sd hu) ⟨.bl _, H, I, rfl, q⟩
theorem op_notInTD (hu : X.A.units + 65 < cLine) : OpR X (compareOp .NotIn) (rInTD X.K true) := by
  intro pins s σ H x y v u Q I rx ry h
  obtain ⟨d, ds, hd, he, sd, se, q⟩ := h
  obtain ⟨as, r1⟩ := Dp.reads I d x v hd rx
  obtain ⟨bs, r2⟩ := Dp.reads I (.tuple ds) y u he ry
  exact SeqAt.notIn_tuple_reads r2 r1 (SeqAt.canLay_of_shaped se) (SeqAt.canLay_of_shaped sd) (room_in_shaped sd hu) ⟨.bl _, H, I, rfl, q⟩
/-- the items of a list or a tuple -/
def itemsW (S : Sto) : W → Option (List W)
  | .tup ws => some ws | .lst ws => some ws
  | .ref k => match S[k]? with
    | some (.lst ws) => some ws
    | _ => none
  | _ => none
theorem items_ref {S : Sto} {k : Nat} {ws : List W} (h : itemsW S (.ref k) = some ws) : S[k]? = some (.lst ws) := by
  have e : itemsW S (.ref k) = (match S[k]? with
    | some (.lst ws) => some ws
    | _ => none) := rfl
  rw [e] at h
  split at h
  · rename_i ws' hk
    cases h
    exact hk
  · cases h
theorem any_ds {x : W} {ws : List W} : ((W.ds ws).any fun z => PyData.eqv z x.d) = inW x ws := by
  rw [W.ds_map, List.any_map]
  rfl
def rInAny (K : PySem.W.Frag) (neg : Bool) : R2 := fun x y H Q => (if neg then rNotInD K x y H Q else rInD K x y H Q) ∨ rInTD K neg x y H Q
abbrev gIn (neg : Bool) : G2 := fun x y S Φ => ∃ ws, itemsW S y = some ws ∧ x.ok 59 = true ∧ W.oks ws 59 = true ∧ Φ (.bl (if neg then !inW x ws else inW x ws)) S
theorem op_inAny (hu : X.A.units + 65 < cLine) : OpR X (compareOp .In) (rInAny X.K false) := OpR.or (op_inD hu) (op_inTD hu)
theorem op_notInAny (hu : X.A.units + 65 < cLine) : OpR X (compareOp .NotIn) (rInAny X.K true) := OpR.or (op_notInD hu) (op_notInTD hu)
theorem opw_in {neg : Bool} : OpW X (rInAny X.K neg) (gIn neg) := opw_pure fun M H S v u x y Φ r a1 a2 ⟨ws, hi, h1, h2, p⟩ Q q => by
  have dx := VW.dp (K := X.K) r _ _ _ a1 (Den.of x _ h1)
  have sx := W.shaped h1 (by decide)
  have sl : SeqAt.shaped (.list (W.ds ws)) = true := W.shaped (w := .lst ws) (n := 60) h2 (Nat.le_refl _)
  have st : SeqAt.shaped (.tuple (W.ds ws)) = true := W.shaped (w := .tup ws) (n := 60) h2 (Nat.le_refl _)
  have dy : Dp X.K H u (.list (W.ds ws)) ∨ Dp X.K H u (.tuple (W.ds ws)) := by
    cases y with
    | tup ws' => cases hi; exact .inr (VW.dp r _ _ _ a2 (.tup (DenAll.of ws _ h2)))
    | lst ws' => cases hi; exact .inl (VW.dp r _ _ _ a2 (.lst (DenAll.of ws _ h2)))
    | ref k => exact .inl (VW.dp r _ _ _ a2 (.ref (items_ref hi) (DenAll.of ws _ h2)))
    | _ => cases hi
  have e := any_ds (x := x) (ws := ws)
  rcases dy with dy | dy
  · left
    cases neg with
    | true => exact ⟨_, _, dx, dy, sx, sl, by rw [e]; exact q _ _ p (.bl _)⟩
    | false => exact ⟨_, _, dx, dy, sx, sl, by rw [e]; exact q _ _ p (.bl _)⟩
  · right
    cases neg with
    | true => exact ⟨_, _, dx, dy, sx, st, by rw [e]; exact q _ _ p (.bl _)⟩
    | false => exact ⟨_, _, dx, dy, sx, st, by rw [e]; exact q _ _ p (.bl _)⟩
theorem wT_in (hu : X.A.units + 65 < cLine) (h : wE X Ψ a E S fun x S1 => wE X Ψ b E S1 fun y S2 => ∃ ws, itemsW S2 y = some ws ∧ x.ok 59 = true ∧ W.oks ws 59 = true ∧ ΦT (inW x ws) S2) (hm : behindInMarks .In b = false := by rfl) : wT X Ψ (.Compare a [.In] [b] pos) E S ΦT :=
  wT_cmp (op_inAny hu) opw_in (h.imp fun w S1 q => q.imp fun y S2 ⟨ws, p1, p2, p3, p⟩ => ⟨ws, p1, p2, p3, _, rfl, p⟩) hm
theorem wT_notIn (hu : X.A.units + 65 < cLine) (h : wE X Ψ a E S fun x S1 => wE X Ψ b E S1 fun y S2 => ∃ ws, itemsW S2 y = some ws ∧ x.ok 59 = true ∧ W.oks ws 59 = true ∧ ΦT (!inW x ws) S2) (hm : behindInMarks .NotIn b = false := by rfl) : wT X Ψ (.Compare a [.NotIn] [b] pos) E S ΦT :=
  wT_cmp (op_notInAny hu) opw_in (h.imp fun w S1 q => q.imp fun y S2 ⟨ws, p1, p2, p3, p⟩ => ⟨ws, p1, p2, p3, _, rfl, p⟩) hm
theorem wE_in (hu : X.A.units + 65 < cLine) (h : wE X Ψ a E S fun x S1 => wE X Ψ b E S1 fun y S2 => ∃ ws, itemsW S2 y = some ws ∧ x.ok 59 = true ∧ W.oks ws 59 = true ∧ Φ (.bl (inW x ws)) S2) (hm : behindInMarks .In b = false := by rfl) : wE X Ψ (.Compare a [.In] [b] pos) E S Φ :=
  wE_cmp (op_inAny hu) opw_in h hm
theorem wE_notIn (hu : X.A.units + 65 < cLine) (h : wE X Ψ a E S fun x S1 => wE X Ψ b E S1 fun y S2 => ∃ ws, itemsW S2 y = some ws ∧ x.ok 59 = true ∧ W.oks ws 59 = true ∧ Φ (.bl (!inW x ws)) S2) (hm : behindInMarks .NotIn b = false := by rfl) : wE X Ψ (.Compare a [.NotIn] [b] pos) E S Φ :=
  wE_cmp (op_notInAny hu) opw_in h hm
/-! ### tests, and, or, not, if -/
theorem wT_val (h : wE X Ψ e E S fun w S1 => ∃ k, w = .bl k ∧ ΦT k S1) (he : ∀ whole, isTrue e X.env whole = (do let v ← whole; standAt e.pos; holding [v] (truthy v)) := by intro _; rfl) : wT X Ψ e E S ΦT :=
  wT.of (pt_val pe_sem he) fun M σ H r ev x Q q => h.run M σ H r ev x _ fun v w M1 S1 H1 ⟨k, e1, p⟩ r1 a1 s1 => by
    subst e1; cases a1
    exact ⟨k, rfl, q k M1 S1 H1 p r1 s1⟩
theorem wT_not (h : wT X Ψ e E S fun k S1 => ΦT (!k) S1) : wT X Ψ (.UnaryOp .Not e pos) E S ΦT :=
  wT.of (pt_not pt_sem) fun M σ H r ev x Q q => h.run M σ H r ev x _ fun k M1 S1 H1 p r1 s1 => q _ M1 S1 H1 p r1 s1
theorem wW_and1 (h : wT X Ψ a E S ΦT) : wW X Ψ (.BoolOp .And [a] pos) E S ΦT := wW.of (pw_and1 pt_sem) fun M σ H r ev x Q q => h.run M σ H r ev x Q q
theorem wW_or1 (h : wT X Ψ a E S ΦT) : wW X Ψ (.BoolOp .Or [a] pos) E S ΦT := wW.of (pw_or1 pt_sem) fun M σ H r ev x Q q => h.run M σ H r ev x Q q
theorem wW_and (h : wT X Ψ a E S fun k S1 => if k = true then wW X Ψ (.BoolOp .And (b :: rest) pos) E S1 ΦT else ΦT false S1) : wW X Ψ (.BoolOp .And (a :: b :: rest) pos) E S ΦT :=
  wW.of (pw_and pt_sem pw_sem) fun M σ H r ev x Q q => h.run M σ H r ev x _ fun k M1 S1 H1 p r1 s1 => by
    cases k with
    | true => exact iteT ((show wW X Ψ _ E S1 ΦT from p).run M1 σ H1 r1 (ev.step s1) (x.step s1) Q (q.step s1))
    | false => exact iteF (q false M1 S1 H1 p r1 s1)
theorem wW_or (h : wT X Ψ a E S fun k S1 => if k = true then ΦT true S1 else wW X Ψ (.BoolOp .Or (b :: rest) pos) E S1 ΦT) : wW X Ψ (.BoolOp .Or (a :: b :: rest) pos) E S ΦT :=
  wW.of (pw_or pt_sem pw_sem) fun M σ H r ev x Q q => h.run M σ H r ev x _ fun k M1 S1 H1 p r1 s1 => by
    cases k with
    | true => exact iteT (q true M1 S1 H1 p r1 s1)
    | false => exact iteF ((show wW X Ψ _ E S1 ΦT from p).run M1 σ H1 r1 (ev.step s1) (x.step s1) Q (q.step s1))
theorem wT_bool (h : wW X Ψ e E S ΦT) : wT X Ψ e E S ΦT := wT.of pw_sem.pt fun M σ H r ev x Q q => h.run M σ H r ev x Q q
theorem wE_one {op} (h : wE X Ψ a E S Φ) : wE X Ψ (.BoolOp op [a] pos) E S Φ := wE.of (pe_one pe_sem) fun M σ H r ev x Q q => h.run M σ H r ev x Q q
theorem wE_and (h : wE X Ψ a E S fun w S1 => ∃ k, w = .bl k ∧ if k = true then wE X Ψ (.BoolOp .And (b :: rest) pos) E S1 Φ else Φ (.bl false) S1) : wE X Ψ (.BoolOp .And (a :: b :: rest) pos) E S Φ :=
  wE.of (pe_and pe_sem pe_sem) fun M σ H r ev x Q q => h.run M σ H r ev x _ fun v w M1 S1 H1 ⟨k, e1, p⟩ r1 a1 s1 => by
    subst e1; cases a1
    refine ⟨k, rfl, ?_⟩
    cases k with
    | true => exact iteT ((show wE X Ψ _ E S1 Φ from p).run M1 σ H1 r1 (ev.step s1) (x.step s1) Q (q.step s1))
    | false => exact iteF (q _ _ M1 S1 H1 p r1 (.bl _) s1)
theorem wE_or (h : wE X Ψ a E S fun w S1 => ∃ k, w = .bl k ∧ if k = true then Φ (.bl true) S1 else wE X Ψ (.BoolOp .Or (b :: rest) pos) E S1 Φ) : wE X Ψ (.BoolOp .Or (a :: b :: rest) pos) E S Φ :=
  wE.of (pe_or pe_sem pe_sem) fun M σ H r ev x Q q => h.run M σ H r ev x _ fun v w M1 S1 H1 ⟨k, e1, p⟩ r1 a1 s1 => by
    subst e1; cases a1
    refine ⟨k, rfl, ?_⟩
    cases k with
    | true => exact iteT (q _ _ M1 S1 H1 p r1 (.bl _) s1)
    | false => exact iteF ((show wE X Ψ _ E S1 Φ from p).run M1 σ H1 r1 (ev.step s1) (x.step s1) Q (q.step s1))
theorem wE_not (h : wE X Ψ a E S fun w S1 => ∃ k, w = .bl k ∧ Φ (.bl (!k)) S1) : wE X Ψ (.UnaryOp .Not a pos) E S Φ :=
  wE.of (pe_not pe_sem) fun M σ H r ev x Q q => h.run M σ H r ev x _ fun v w M1 S1 H1 ⟨k, e1, p⟩ r1 a1 s1 => by
    subst e1; cases a1
    exact ⟨k, rfl, q _ _ M1 S1 H1 p r1 (.bl _) s1⟩
theorem wE_if (h : wT X Ψ c E S fun k S1 => if k = true then wE X Ψ a E S1 Φ else wE X Ψ b E S1 Φ) : wE X Ψ (.IfExp c a b pos) E S Φ :=
  wE.of (pe_ifExp pt_sem pe_sem pe_sem) fun M σ H r ev x Q q => h.run M σ H r ev x _ fun k M1 S1 H1 p r1 s1 => by
    cases k with
    | true => exact iteT ((show wE X Ψ a E S1 Φ from p).run M1 σ H1 r1 (ev.step s1) (x.step s1) Q (q.step s1))
    | false => exact iteF ((show wE X Ψ b E S1 Φ from p).run M1 σ H1 r1 (ev.step s1) (x.step s1) Q (q.step s1))

/-! ### places, slices, fields -/
theorem atI_vw {M : Lay} {H : Hp} {xs : List V} {ws : List W} {i : Int} {w : W} (r : VWs M H xs ws) (h : atI ws i = some w) : ∃ v, atI xs i = some v ∧ VW M H v w := by
  unfold atI at h ⊢
  rw [r.length]
  cases e : ixN ws.length i with
  | none => rw [e] at h; cases h
  | some j =>
    rw [e] at h
    obtain ⟨v, h1, h2⟩ := r.get (show ws[j]? = some w from h)
    exact ⟨v, h1, h2⟩
/-- a tracked list or tuple of some items -/
theorem seq_of {K : PySem.W.Frag} {M : Lay} {H : Hp} {S : Sto} (r : Rep M H S) {u : V} {y : W} {ws : List W} (a : VW M H u y) (h : itemsW S y = some ws) : ∃ p xs, u = .ref p ∧ VWs M H xs ws ∧ ((SqL K H p xs ∧ H p = some (.lst xs)) ∨ (SqT K H p xs ∧ ∃ ws', y = .tup ws')) := by
  cases y with
  | tup ws' =>
    cases h
    cases a with
    | tup q a => exact ⟨_, _, rfl, a, .inr ⟨q.sq, _, rfl⟩⟩
  | lst ws' =>
    cases h
    cases a with
    | lst q a => exact ⟨_, _, rfl, a, .inl ⟨q.sq, q.1⟩⟩
  | ref k =>
    cases a with
    | ref hm =>
      obtain ⟨p, xs, h1, h2, h3⟩ := r.lst (items_ref h)
      rw [hm] at h1; cases h1
      exact ⟨_, _, rfl, h3, .inl ⟨SqL.of h2, h2⟩⟩
  | _ => cases h
theorem wE_ix (h : wE X Ψ a E S fun x S1 => wE X Ψ b E S1 fun y S2 => ∃ ws i w, itemsW S2 x = some ws ∧ y = .int i ∧ atI ws i = some w ∧ Φ w S2) (hs : PlainIx b := by exact fun _ _ => rfl) : wE X Ψ (.Subscript a b pos) E S Φ :=
  wE.of (pe_ix ix_seq pe_sem pe_sem hs) fun M σ H r ev x Q q => two (r := rIx X.K) (g := fun x y S Φ => ∃ ws i w, itemsW S x = some ws ∧ y = .int i ∧ atI ws i = some w ∧ Φ w S)
    (opw_pure (X := X) fun M H S v u x y Φ r a1 a2 ⟨ws, i, w, h1, h2, h3, p⟩ Q q => by
      subst h2
      cases a2
      obtain ⟨ad, xs, rfl, rv, k⟩ := seq_of (K := X.K) r a1 h1
      obtain ⟨v', e1, e2⟩ := atI_vw rv h3
      rcases k with ⟨k, _⟩ | ⟨k, _⟩
      · exact .inl ⟨ad, xs, i, v', rfl, rfl, k, e1, q _ _ p e2⟩
      · exact .inr (.inl ⟨ad, xs, i, v', rfl, rfl, k, e1, q _ _ p e2⟩)) h r ev x q
/-- a part of a slice -/
def wO (X : Cx) (Ψ : AX) (e : Option Expr) (E : AEnv) (S : Sto) (Φ : Option Int → Sto → Prop) : Prop :=
  match e with
  | none => Φ none S
  | some e => wE X Ψ e E S fun w S1 => ∃ i, w = .int i ∧ Φ (some i) S1
def cutW (ws : List W) (lo hi : Option Int) : List W := (ws.drop (HT.sIx ws.length 0 lo)).take (HT.sIx ws.length ws.length hi - HT.sIx ws.length 0 lo)
theorem cut_vw {M : Lay} {H : Hp} {xs : List V} {ws : List W} {lo hi : Option Int} (r : VWs M H xs ws) : VWs M H (cutV xs lo hi) (cutW ws lo hi) := by
  unfold cutV cutW
  rw [r.length]
  exact (r.drop _).take _
def semO (X : Cx) (e : Option Expr) : TO := match e with
  | none => tNoPart
  | some e => tPart (sem X e)
theorem po_sem {e : Option Expr} : PO X e (semO X e) := by
  cases e with
  | none => exact po_none
  | some e => exact po_some pe_sem
theorem wO_run {e : Option Expr} {Φ : Option Int → Sto → Prop} (h : wO X Ψ e E S Φ) {M σ H} (r : Rep M H S) (ev : EvOk M H σ E) (x : ExcOk X M H Ψ) {Q : Option Int → Hp → Prop} (q : ∀ k M2 S2 H2, Φ k S2 → Rep M2 H2 S2 → Step M H M2 H2 → Q k H2) : semO X e σ H Q := by
  cases e with
  | none => exact q none M S H h r (Step.refl M H)
  | some e =>
    refine (show wE X Ψ e E S _ from h).run M σ H r ev x _ fun v w M1 S1 H1 ⟨i, e1, p⟩ r1 a1 s1 => ?_
    subst e1; cases a1
    exact ⟨i, rfl, q _ M1 S1 H1 p r1 s1⟩
theorem wE_slice {rr : V → Option Int → Option Int → Hp → VK → Prop} {g : W → Option Int → Option Int → Sto → (W → Sto → Prop) → Prop} {lo hi : Option Expr} {p2 : Pos} (hr : SlR X rr)
    (hw : ∀ M H S v x l u Φ, Rep M H S → VW M H v x → g x l u S Φ → ∀ Q, Got M H Φ Q → rr v l u H Q)
    (h : wE X Ψ a E S fun x S1 => wO X Ψ lo E S1 fun l S2 => wO X Ψ hi E S2 fun u S3 => g x l u S3 Φ) : wE X Ψ (.Subscript a (.Slice lo hi none p2) pos) E S Φ :=
  wE.of (pe_slice hr pe_sem po_sem po_sem) fun M σ H r ev x Q q => h.run M σ H r ev x _ fun v w M1 S1 H1 p1 r1 a1 s1 => wO_run p1 r1 (ev.step s1) (x.step s1) fun l M2 S2 H2 p2 r2 s2 => wO_run p2 r2 ((ev.step s1).step s2) ((x.step s1).step s2) fun u M3 S3 H3 p3 r3 s3 =>
    hw M3 H3 S3 v w l u Φ r3 (VW.step s3 _ _ (VW.step s2 _ _ a1)) p3 Q (q.step ((s1.trans s2).trans s3))
theorem wE_slT {lo hi : Option Expr} {p2 : Pos} (h : wE X Ψ a E S fun x S1 => wO X Ψ lo E S1 fun l S2 => wO X Ψ hi E S2 fun u S3 => ∃ ws, x = .tup ws ∧ Φ (.tup (cutW ws l u)) S3) : wE X Ψ (.Subscript a (.Slice lo hi none p2) pos) E S Φ :=
  wE_slice (g := fun x l u S Φ => ∃ ws, x = .tup ws ∧ Φ (.tup (cutW ws l u)) S) sl_tupA (fun M H S v x l u Φ r a1 ⟨ws, e1, p⟩ Q q => by
    subst e1
    cases a1 with
    | @tup ad xs _ k a =>
      refine ⟨ad, xs, rfl, k.sq, fun hc => ?_, fun _ p' hp => q _ _ M S _ p (r.tmp hp) (tq_new r hp (cut_vw a)) (step_tmp r hp)⟩
      have e : cutV xs l u = xs := by unfold cutV; rw [hc.1, hc.2]; simp
      have e2 : VWs M H xs (cutW ws l u) := by rw [← e]; exact cut_vw a
      exact q _ _ M S H p r (.tup k e2) (Step.refl M H)) h
theorem wE_slL {lo hi : Option Expr} {p2 : Pos} (h : wE X Ψ a E S fun x S1 => wO X Ψ lo E S1 fun l S2 => wO X Ψ hi E S2 fun u S3 => ∃ ws, itemsW S3 x = some ws ∧ (∀ y, x ≠ .tup y) ∧ Φ (.lst (cutW ws l u)) S3) : wE X Ψ (.Subscript a (.Slice lo hi none p2) pos) E S Φ :=
  wE_slice (g := fun x l u S Φ => ∃ ws, itemsW S x = some ws ∧ (∀ y, x ≠ .tup y) ∧ Φ (.lst (cutW ws l u)) S) (sl_list (X := X)) (fun M H S v x l u Φ r a1 ⟨ws, e1, nt, p⟩ Q q => by
    obtain ⟨ad, xs, rfl, rv, k⟩ := seq_of (K := X.K) r a1 e1
    rcases k with ⟨k, _⟩ | ⟨_, y, k⟩
    · exact ⟨ad, xs, rfl, k, fun p' hp => q _ _ M S _ p (r.tmp hp) (lq_new r hp (cut_vw rv)) (step_tmp r hp)⟩
    · exact absurd k (nt y)) h
theorem look_vw {M : Lay} {H : Hp} : ∀ {fs : List (Str × V)} {ws : List (Str × W)} {f : Str}, PVW M H fs ws → (∀ w, ws.lookup f = some w → ∃ v, fs.lookup f = some v ∧ VW M H v w) ∧ (ws.lookup f = none → fs.lookup f = none)
  | _, _, f, .nil => ⟨fun w h => by simp at h, fun _ => rfl⟩
  | _, _, f, .cons (a := p) (b := q) r t => by
    have ih := look_vw (f := f) t
    obtain ⟨k, v⟩ := p
    obtain ⟨k', w'⟩ := q
    have e : k = k' := r.1
    subst e
    by_cases h : f = k
    · subst h
      refine ⟨fun w hw => ?_, fun hn => ?_⟩
      · simp [List.lookup] at hw
        subst hw
        exact ⟨v, by simp [List.lookup], r.2⟩
      · simp [List.lookup] at hn
    · have hb : (f == k) = false := by simpa using h
      refine ⟨fun w hw => ?_, fun hn => ?_⟩
      · simp only [List.lookup, hb] at hw ⊢
        exact ih.1 w hw
      · simp only [List.lookup, hb] at hn ⊢
        exact ih.2 hn
theorem Rep.inst {M : Lay} {H : Hp} {S : Sto} (r : Rep M H S) {k : Nat} {C : Addr} {ws : List (Str × W)} (h : S[k]? = some (.ins C ws)) : ∃ p dx fs, M.m[k]? = some p ∧ H p = some (.ins C dx fs) ∧ PVW M H fs ws := by
  obtain ⟨p, ho, h1, h2, b⟩ := r.at' h
  cases b with
  | ins a => exact ⟨p, _, _, h1, h2, a⟩
theorem wE_fld {f : Str} (h : wE X Ψ a E S fun x S1 => ∃ k C ws w, x = .ref k ∧ S1[k]? = some (.ins C ws) ∧ Cls X.K C ∧ NoAttr X.K C f ∧ ws.lookup f = some w ∧ Φ w S1) (hb : attributeBase a f X.env (eval a X.env) = eval a X.env := by rfl) : wE X Ψ (.Attribute a f pos) E S Φ :=
  wE.of (pe_fld pe_sem hb) fun M σ H r ev x Q q => h.run M σ H r ev x _ fun v w M1 S1 H1 ⟨k, C, ws, w', e1, hk, hc, hn, hl, p⟩ r1 a1 s1 => by
    subst e1
    cases a1 with
    | ref hm =>
      obtain ⟨ad, dx, fs, h1, h2, h3⟩ := r1.inst hk
      rw [hm] at h1; cases h1
      obtain ⟨v', e1, e2⟩ := (look_vw h3).1 _ hl
      exact ⟨_, C, dx, fs, v', rfl, h2, hc, hn, e1, q _ _ M1 S1 H1 p r1 e2 s1⟩

/-! ### dicts -/
def keyW : W → Option Key
  | .int i => some (.inl i) | .str x => some (.inr x) | _ => none
def keysW : List W → Option (List Key)
  | [] => some []
  | w :: ws => match keyW w, keysW ws with
    | some k, some ks => some (k :: ks)
    | _, _ => none
theorem key_vw {M : Lay} {H : Hp} {v : V} {w : W} {k : Key} (a : VW M H v w) (h : keyW w = some k) : v = kV k := by
  cases w <;> simp [keyW] at h <;> subst h <;> cases a <;> rfl
theorem keys_vw {M : Lay} {H : Hp} : ∀ {ws : List W} {vs : List V} {ks : List Key}, VWs M H vs ws → keysW ws = some ks → vs = ks.map kV
  | [], _, ks, a, h => by cases a; simp [keysW] at h; subst h; rfl
  | w :: ws, _, ks, a, h => by
    cases a with
    | cons a b =>
      unfold keysW at h
      split at h
      · rename_i k ks' h1 h2
        cases h
        rw [key_vw a h1, keys_vw b h2, List.map_cons]
      · cases h
def valW {κ : Type} [DecidableEq κ] (kvs : List (κ × W)) (k : κ) : Option W := (kvs.find? fun kv => decide (kv.1 = k)).map (·.2)
def putW {κ : Type} [DecidableEq κ] (kvs : List (κ × W)) (k : κ) (w : W) : List (κ × W) :=
  if kvs.any (fun kv => decide (kv.1 = k)) then kvs.map (fun kv => if kv.1 = k then (kv.1, w) else kv) else kvs ++ [(k, w)]
theorem valW_neg {κ : Type} [DecidableEq κ] {k : κ} {q : κ × W} {r : List (κ × W)} (h : ¬ q.1 = k) : valW (q :: r) k = valW r k := by simp [valW, List.find?_cons, h]
theorem val_vw {κ : Type} [DecidableEq κ] {M : Lay} {H : Hp} {k : κ} : ∀ {kvs : List (κ × V)} {kws : List (κ × W)}, PVW M H kvs kws → (∀ w, valW kws k = some w → ∃ v, valV kvs k = some v ∧ VW M H v w) ∧ (valW kws k = none → valV kvs k = none)
  | _, _, .nil => ⟨fun w h => by simp [valW] at h, fun _ => rfl⟩
  | _, _, .cons (a := p) (b := q) r t => by
    have ih := val_vw (k := k) t
    by_cases h : q.1 = k
    · refine ⟨fun w hw => ?_, fun hn => ?_⟩
      · simp [valW, List.find?_cons, h] at hw
        subst hw
        exact ⟨p.2, by simp [valV, List.find?_cons, r.1, h], r.2⟩
      · simp [valW, List.find?_cons, h] at hn
    · refine ⟨fun w hw => ?_, fun hn => ?_⟩
      · rw [valW_neg h] at hw
        obtain ⟨v, h1, h2⟩ := ih.1 w hw
        exact ⟨v, by rw [valV_neg (by rw [r.1]; exact h)]; exact h1, h2⟩
      · rw [valW_neg h] at hn
        rw [valV_neg (by rw [r.1]; exact h)]
        exact ih.2 hn
theorem pvw_any {κ : Type} [DecidableEq κ] {M : Lay} {H : Hp} {k : κ} {kvs : List (κ × V)} {kws : List (κ × W)} (r : PVW M H kvs kws) : (kvs.any fun kv => decide (kv.1 = k)) = kws.any fun kv => decide (kv.1 = k) := by
  induction r with
  | nil => rfl
  | cons h t ih => rw [List.any_cons, List.any_cons, ih, h.1]
theorem pvw_repl {κ : Type} [DecidableEq κ] {M : Lay} {H : Hp} {k : κ} {v : V} {w : W} {kvs : List (κ × V)} {kws : List (κ × W)} (r : PVW M H kvs kws) (a : VW M H v w) : PVW M H (kvs.map fun kv => if kv.1 = k then (kv.1, v) else kv) (kws.map fun kv => if kv.1 = k then (kv.1, w) else kv) := by
  induction r with
  | nil => exact .nil
  | @cons p q ps qs h t ih =>
    rw [List.map_cons, List.map_cons]
    refine .cons ?_ ih
    by_cases e : q.1 = k
    · rw [if_pos e, if_pos (by rw [h.1]; exact e)]
      exact ⟨h.1, a⟩
    · rw [if_neg e, if_neg (by rw [h.1]; exact e)]
      exact h
theorem pvw_app {κ : Type} {M : Lay} {H : Hp} {kvs : List (κ × V)} {kws : List (κ × W)} {kv kw} (r : PVW M H kvs kws) (h : PVW M H kv kw) : PVW M H (kvs ++ kv) (kws ++ kw) := by
  induction r with
  | nil => exact h
  | cons a t ih => exact .cons a ih
theorem put_vw {κ : Type} [DecidableEq κ] {M : Lay} {H : Hp} {k : κ} {v : V} {w : W} {kvs : List (κ × V)} {kws : List (κ × W)} (r : PVW M H kvs kws) (a : VW M H v w) : PVW M H (putK kvs k v) (putW kws k w) := by
  unfold putK putW
  rw [pvw_any r]
  split
  · exact pvw_repl r a
  · exact pvw_app r (.cons ⟨rfl, a⟩ .nil)
theorem PVW.length {κ : Type} {M : Lay} {H : Hp} {kvs : List (κ × V)} {kws : List (κ × W)} (r : PVW M H kvs kws) : kvs.length = kws.length := Paired.length r
/-- what a dict of the store holds at a key -/
def dgetW (S : Sto) (k : Nat) (y : W) : Option (Option W) :=
  match S[k]? with
  | some (.dk kws) => (keyW y).map fun key => valW kws key
  | some (.dt kws) => match y with
    | .tup ws => (keysW ws).map fun key => valW kws key
    | _ => none
  | _ => none
theorem dget_vw {M : Lay} {H : Hp} {S : Sto} (r : Rep M H S) {x y : W} {v u : V} {k : Nat} {o : Option W} (a1 : VW M H v (.ref k)) (a2 : VW M H u y) (h : dgetW S k y = some o) :
    ∃ p o', v = .ref p ∧ DGet H p u o' ∧ (∀ w, o = some w → ∃ z, o' = some z ∧ VW M H z w) ∧ (o = none → o' = none) := by
  cases a1 with
  | @ref p _ hm =>
    unfold dgetW at h
    split at h
    · rename_i kws hk
      obtain ⟨q, ho, h1, h2, b⟩ := r.at' hk
      rw [hm] at h1; cases h1
      cases b with
      | dk b =>
        cases e : keyW y with
        | none => rw [e] at h; cases h
        | some key =>
          rw [e] at h
          cases h
          rw [key_vw a2 e]
          exact ⟨p, _, rfl, DGet.k h2, (val_vw b).1, (val_vw b).2⟩
    · rename_i kws hk
      obtain ⟨q, ho, h1, h2, b⟩ := r.at' hk
      rw [hm] at h1; cases h1
      cases b with
      | dt b =>
        split at h
        · rename_i ws
          cases e : keysW ws with
          | none => rw [e] at h; cases h
          | some key =>
            rw [e] at h
            cases h
            cases a2 with
            | tup q a =>
              exact ⟨p, _, rfl, DGet.t h2 (by rw [q.1, keys_vw a e]), (val_vw b).1, (val_vw b).2⟩
        · cases h
    · cases h
theorem wE_dget (hu : X.A.units + 65 < cLine) (h : wE X Ψ a E S fun x S1 => wE X Ψ b E S1 fun y S2 => ∃ k w, x = .ref k ∧ dgetW S2 k y = some (some w) ∧ Φ w S2) (hs : NoSl b := by exact fun _ _ => rfl) : wE X Ψ (.Subscript a b pos) E S Φ :=
  wE.of (pe_dget (by omega) pe_sem pe_sem hs) fun M σ H r ev x Q q => h.run M σ H r ev x _ fun v w M1 S1 H1 p1 r1 a1 s1 => p1.run M1 σ H1 r1 (ev.step s1) (x.step s1) _ fun u y M2 S2 H2 ⟨k, w2, e1, hg, p⟩ r2 a2 s2 => by
    subst e1
    obtain ⟨ad, o', rfl, g, h1, _⟩ := dget_vw (x := .non) r2 (VW.step s2 _ _ a1) a2 hg
    obtain ⟨z, rfl, az⟩ := h1 _ rfl
    exact ⟨ad, z, rfl, g, q _ _ M2 S2 H2 p r2 az (s1.trans s2)⟩
theorem wT_din (hu : X.A.units + 65 < cLine) (h : wE X Ψ a E S fun y S1 => wE X Ψ b E S1 fun x S2 => ∃ k o, x = .ref k ∧ dgetW S2 k y = some o ∧ ΦT o.isSome S2) (hm : behindInMarks .In b = false := by rfl) : wT X Ψ (.Compare a [.In] [b] pos) E S ΦT :=
  wT.of (pt_cmp (pc_din (by omega) pe_sem pe_sem) hm) fun M σ H r ev x Q q => h.run M σ H r ev x _ fun v w M1 S1 H1 p1 r1 a1 s1 => p1.run M1 σ H1 r1 (ev.step s1) (x.step s1) _ fun u y M2 S2 H2 ⟨k, o, e1, hg, p⟩ r2 a2 s2 => by
    subst e1
    obtain ⟨ad, o', rfl, g, h1, h2⟩ := dget_vw (x := .non) r2 a2 (VW.step s2 _ _ a1) hg
    refine ⟨ad, o', rfl, g, _, rfl, ?_⟩
    have e : o'.isSome = o.isSome := by
      cases o with
      | none => rw [h2 rfl]; rfl
      | some w => obtain ⟨z, rfl, _⟩ := h1 w rfl; rfl
    rw [e]
    exact q _ M2 S2 H2 p r2 (s1.trans s2)
theorem wE_din (hu : X.A.units + 65 < cLine) (h : wE X Ψ a E S fun y S1 => wE X Ψ b E S1 fun x S2 => ∃ k o, x = .ref k ∧ dgetW S2 k y = some o ∧ Φ (.bl o.isSome) S2) (hm : behindInMarks .In b = false := by rfl) : wE X Ψ (.Compare a [.In] [b] pos) E S Φ :=
  wE.of (pe_cmp (pc_din (by omega) pe_sem pe_sem) hm) fun M σ H r ev x Q q => h.run M σ H r ev x _ fun v w M1 S1 H1 p1 r1 a1 s1 => p1.run M1 σ H1 r1 (ev.step s1) (x.step s1) _ fun u y M2 S2 H2 ⟨k, o, e1, hg, p⟩ r2 a2 s2 => by
    subst e1
    obtain ⟨ad, o', rfl, g, h1, h2⟩ := dget_vw (x := .non) r2 a2 (VW.step s2 _ _ a1) hg
    refine ⟨ad, o', rfl, g, ?_⟩
    have e : o'.isSome = o.isSome := by
      cases o with
      | none => rw [h2 rfl]; rfl
      | some w => obtain ⟨z, rfl, _⟩ := h1 w rfl; rfl
    rw [e]
    exact q _ _ M2 S2 H2 p r2 (.bl _) (s1.trans s2)
end

-- AM5

/-! ### targets -/
def semG (X : Cx) (tg : Expr) : TG := fun v σ H Q => ∀ pins s u, Inv X pins σ H s → RelV v u → wpAny (model X.prog X.w) X.A (assign tg X.env u) (fun _ s' => ∃ σ' H', Inv X pins σ' H' s' ∧ Q σ' H') X.xe s
theorem pg_sem {X : Cx} {tg : Expr} : PG X tg (semG X tg) := ⟨fun pins s _ _ _ u _ I r h => h pins s u I r⟩
def GotE (M : Lay) (H : Hp) (Φ : AEnv → Sto → Prop) (Q : L2.St → Hp → Prop) : Prop :=
  ∀ σ E M2 S2 H2, Φ E S2 → Rep M2 H2 S2 → EvOk M2 H2 σ E → Step M H M2 H2 → Q σ H2
theorem GotE.step {M M2 : Lay} {H H2 : Hp} {Φ : AEnv → Sto → Prop} {Q : L2.St → Hp → Prop} (g : GotE M H Φ Q) (s : Step M H M2 H2) : GotE M2 H2 Φ Q :=
  fun σ E M3 S3 H3 p r e t => g σ E M3 S3 H3 p r e (s.trans t)
structure wG (X : Cx) (Ψ : AX) (tg : Expr) (w : W) (E : AEnv) (S : Sto) (Φ : AEnv → Sto → Prop) : Prop where
  run : ∀ M σ H v, Rep M H S → EvOk M H σ E → ExcOk X M H Ψ → VW M H v w → ∀ Q, GotE M H Φ Q → semG X tg v σ H Q
section
variable {X : Cx} {Ψ : AX} {a b c e o tg iter : Expr} {es rest : List Expr} {E : AEnv} {S : Sto} {Φ : W → Sto → Prop} {ΦE : AEnv → Sto → Prop} {ΦT : Bool → Sto → Prop} {ΦS : List W → Sto → Prop} {pos : Pos} {w : W}
theorem wG.of {t : TG} (h : PG X tg t) (g : ∀ M σ H v, Rep M H S → EvOk M H σ E → ExcOk X M H Ψ → VW M H v w → ∀ Q, GotE M H ΦE Q → t v σ H Q) : wG X Ψ tg w E S ΦE :=
  ⟨fun M σ H v r ev x a Q q pins s u I ru => h.run pins s σ H v u Q I ru (g M σ H v r ev x a Q q)⟩
theorem wG_name {x : Str} (i : Nat) (hN : X.N.Nodup) (h : ΦE (E.set i (some w)) S) (hi : X.N[i]? = some x := by rfl) (hx : Loc X.env.scope x := by first | exact Or.inl rfl | exact Or.inr rfl) (hf : X.fn x = true ∨ X.env.scope.names.lookup x = some .local := by first | exact .inl rfl | exact .inr rfl) : wG X Ψ (.Name x pos) w E S ΦE :=
  wG.of (pg_name hN hi hx hf) fun M σ H v r ev _ a Q q => q _ _ M S H h r (ev.set a i) (Step.refl M H)
/-- several targets, one after another -/
def wGs (X : Cx) (Ψ : AX) : List Expr → List W → AEnv → Sto → (AEnv → Sto → Prop) → Prop
  | [], [], E, S, Φ => Φ E S
  | t :: ts, w :: ws, E, S, Φ => wG X Ψ t w E S fun E2 S2 => wGs X Ψ ts ws E2 S2 Φ
  | _, _, _, _, _ => False
def semGs (X : Cx) (tgs : List Expr) : TGs := fun vs σ H Q => ∀ pins s us, Inv X pins σ H s → Vals vs us → wpAny (model X.prog X.w) X.A (assignInOrder ((assignEach tgs X.env).map (·.2)) us) (fun _ s' => ∃ σ' H', Inv X pins σ' H' s' ∧ Q σ' H') X.xe s
theorem pgs_sem {X : Cx} {tgs : List Expr} : PGs X tgs (semGs X tgs) := ⟨fun pins s _ _ _ us _ I r h => h pins s us I r⟩
/-- each target is told by itself -/
inductive Each (X : Cx) : List Expr → Prop
  | nil : Each X []
  | cons {t ts} (h : (assignEach (t :: ts) X.env).map (·.2) = assign t X.env :: (assignEach ts X.env).map (·.2)) (r : Each X ts) : Each X (t :: ts)
theorem wGs_run : ∀ {ts : List Expr} {ws : List W} {vs : List V} {E : AEnv} {S : Sto}, Each X ts → wGs X Ψ ts ws E S ΦE → ∀ {M σ H}, Rep M H S → EvOk M H σ E → ExcOk X M H Ψ → VWs M H vs ws → ∀ {Q}, GotE M H ΦE Q → semGs X ts vs σ H Q
  | [], [], _, E, S, _, h, M, σ, H, r, ev, x, a, Q, q => by
    cases a
    intro pins s us I ru
    exact pgs_nil.run pins s σ H [] us Q I ru ⟨rfl, q _ _ M S H h r ev (Step.refl M H)⟩
  | [], _ :: _, _, _, _, _, h, _, _, _, _, _, _, _, _, _ => h.elim
  | _ :: _, [], _, _, _, _, h, _, _, _, _, _, _, _, _, _ => h.elim
  | t :: ts, w :: ws, _, E, S, he, h, M, σ, H, r, ev, x, a, Q, q => by
    cases he with
    | cons hs he =>
      cases a with
      | cons a1 a2 =>
        intro pins s us I ru
        refine (pgs_cons pg_sem pgs_sem hs).run pins s σ H _ us Q I ru ⟨_, _, rfl, ?_⟩
        refine (show wG X Ψ t w E S _ from h).run M σ H _ r ev x a1 _ fun σ2 E2 M2 S2 H2 p r2 ev2 s2 => ?_
        exact wGs_run he p r2 ev2 (x.step s2) (VWs.step s2 _ _ a2) (q.step s2)
theorem wG_tup {k : Nat} (hc : X.calm = true) (he : Each X es) (h : ∃ ws, w = .tup ws ∧ ws.length = es.length ∧ wGs X Ψ es ws E S ΦE) (hn : (assignEach es X.env).length = es.length := by rfl) (hst : (assignEach es X.env).findIdx? (·.1) = none := by rfl) : wG X Ψ (.Tuple es k pos) w E S ΦE :=
  wG.of (pg_tup hc pgs_sem hn hst) fun M σ H v r ev x a Q q => by
    obtain ⟨ws, rfl, hl, h⟩ := h
    cases a with
    | @tup ad xs _ kk a => exact ⟨ad, xs, rfl, kk.sq, by rw [a.length]; exact hl, wGs_run he h r ev x a q⟩
/-- a list in a tuple's place: a, b = [..] -/
theorem set_lst {M : Lay} {H : Hp} {S : Sto} (r : Rep M H S) {k : Nat} {p : Addr} {xs : List V} {ws : List W} (hp : M.m[k]? = some p) (a : VWs M H xs ws) : Rep M (upd H p (.lst xs)) (S.set k (.lst ws)) ∧ Step M H M (upd H p (.lst xs)) :=
  ⟨r.set hp (.lst (VWs.step (step_set r hp) _ _ a)), step_set r hp⟩
/-- o[i] = v, by values -/
def SetW (X : Cx) (t : TSet) (g : W → W → W → Sto → (Sto → Prop) → Prop) : Prop :=
  ∀ M H S vo vi vv x y z (Φ : Sto → Prop), Rep M H S → VW M H vo x → VW M H vi y → VW M H vv z → g x y z S Φ → ∀ Q : Hp → Prop, (∀ M2 S2 H2, Φ S2 → Rep M2 H2 S2 → Step M H M2 H2 → Q H2) → t vo vi vv H Q
abbrev gSetL : W → W → W → Sto → (Sto → Prop) → Prop := fun x y z S Φ => ∃ k ws i j, x = .ref k ∧ S[k]? = some (.lst ws) ∧ y = .int i ∧ ixN ws.length i = some j ∧ Φ (S.set k (.lst (ws.set j z)))
theorem setw_list : SetW X rSetL gSetL := fun M H S vo vi vv x y z Φ r a1 a2 a3 ⟨k, ws, i, j, e1, hk, e2, hj, p⟩ Q q => by
  subst e1; subst e2
  cases a1 with
  | ref hm =>
    cases a2
    obtain ⟨ad, xs, h1, h2, h3⟩ := r.lst hk
    rw [hm] at h1; cases h1
    have rr := set_lst r hm (h3.set j a3)
    exact ⟨_, xs, i, j, rfl, rfl, h2, by rw [h3.length]; exact hj, q M _ _ p rr.1 rr.2⟩
/-- the store behind d[y] = z -/
def dputW (S : Sto) (k : Nat) (y z : W) : Option Sto :=
  match S[k]? with
  | some (.dk kws) => (keyW y).map fun key => S.set k (.dk (putW kws key z))
  | some (.dt kws) => match y with
    | .tup ws => (keysW ws).map fun key => S.set k (.dt (putW kws key z))
    | _ => none
  | _ => none
def dlenW (S : Sto) (k : Nat) : Nat := match S[k]? with
  | some (.dk kws) => kws.length
  | some (.dt kws) => kws.length
  | _ => 0
theorem dput_vw {M : Lay} {H : Hp} {S S' : Sto} (r : Rep M H S) {y z : W} {v u t : V} {k : Nat} (a1 : VW M H v (.ref k)) (a2 : VW M H u y) (a3 : VW M H t z) (hl : dlenW S k ≤ 100000) (h : dputW S k y z = some S') :
    ∃ p H', v = .ref p ∧ DPut H p u t H' ∧ Rep M H' S' ∧ Step M H M H' := by
  have hsz : ∀ n : Nat, n ≤ 100000 → n < sizeLine := fun n q => Nat.lt_of_le_of_lt q (by decide)
  cases a1 with
  | @ref p _ hm =>
    unfold dputW at h
    unfold dlenW at hl
    split at h
    · rename_i kws hk
      rw [hk] at hl
      obtain ⟨q, ho, h1, h2, b⟩ := r.at' hk
      rw [hm] at h1; cases h1
      cases b with
      | dk b =>
        cases e : keyW y with
        | none => rw [e] at h; cases h
        | some key =>
          rw [e] at h
          cases h
          rw [key_vw a2 e]
          exact ⟨p, _, rfl, DPut.k h2 (by rw [b.length]; exact hsz _ hl), r.set hm (.dk (PVW.step (step_set r hm) (put_vw b a3))), step_set r hm⟩
    · rename_i kws hk
      rw [hk] at hl
      obtain ⟨q, ho, h1, h2, b⟩ := r.at' hk
      rw [hm] at h1; cases h1
      cases b with
      | dt b =>
        split at h
        · rename_i ws
          cases e : keysW ws with
          | none => rw [e] at h; cases h
          | some key =>
            rw [e] at h
            cases h
            cases a2 with
            | tup q a =>
              exact ⟨p, _, rfl, DPut.t h2 (by rw [q.1, keys_vw a e]) (by rw [b.length]; exact hsz _ hl), r.set hm (.dt (PVW.step (step_set r hm) (put_vw b a3))), step_set r hm⟩
        · cases h
    · cases h
abbrev gSetD : W → W → W → Sto → (Sto → Prop) → Prop := fun x y z S Φ => ∃ k S', x = .ref k ∧ dlenW S k ≤ 100000 ∧ dputW S k y z = some S' ∧ Φ S'
theorem wG_sub {t : TSet} {g : W → W → W → Sto → (Sto → Prop) → Prop} (hs : PSet X t) (hw : SetW X t g) (h : wE X Ψ o E S fun x S1 => wE X Ψ a E S1 fun y S2 => g x y w S2 fun S3 => ΦE E S3)
    (ha : ∀ v, assign (.Subscript o a pos) X.env v = (do
      let ov ← holding [v] (eval o X.env)
      let iv ← holding [v, ov] (eval a X.env)
      standAt pos
      holding [v, ov, iv] (setItem ov iv v)
      release [v, ov, iv] []) := by intro _; rfl) : wG X Ψ (.Subscript o a pos) w E S ΦE :=
  wG.of (pg_sub pe_sem pe_sem hs ha) fun M σ H v r ev x av Q q => h.run M σ H r ev x _ fun vo x1 M1 S1 H1 p1 r1 a1 s1 => p1.run M1 σ H1 r1 (ev.step s1) (x.step s1) _ fun vi y M2 S2 H2 p2 r2 a2 s2 =>
    hw M2 H2 S2 vo vi v x1 y w _ r2 (VW.step s2 _ _ a1) a2 (VW.step s2 _ _ (VW.step s1 _ _ av)) p2 _ fun M3 S3 H3 p3 r3 s3 => q σ E M3 S3 H3 p3 r3 (((ev.step s1).step s2).step s3) ((s1.trans s2).trans s3)
/-- a field's value: in its place, or at the end -/
def putFW (f : Str) (w : W) : List (Str × W) → List (Str × W)
  | [] => [(f, w)]
  | (g, u) :: r => if g = f then (g, w) :: r else (g, u) :: putFW f w r
theorem putF_vw {M : Lay} {H : Hp} {f : Str} {v : V} {w : W} (a : VW M H v w) : ∀ {fs : List (Str × V)} {ws : List (Str × W)}, PVW M H fs ws → PVW M H (putF f v fs) (putFW f w ws)
  | _, _, .nil => .cons ⟨rfl, a⟩ .nil
  | _, _, .cons (a := p) (b := q) r t => by
    obtain ⟨k, x⟩ := p
    obtain ⟨k', y⟩ := q
    have e : k = k' := r.1
    subst e
    unfold putF putFW
    by_cases h : k = f
    · rw [if_pos h, if_pos h]
      exact .cons ⟨rfl, a⟩ t
    · rw [if_neg h, if_neg h]
      exact .cons r (putF_vw a t)
/-- the store behind o.f = w -/
def fputW (S : Sto) (k : Nat) (f : Str) (w : W) : Option (Addr × Sto) := match S[k]? with
  | some (.ins C ws) => if ws.length < 1000 then some (C, S.set k (.ins C (putFW f w ws))) else none
  | _ => none
theorem fput_vw {M : Lay} {H : Hp} {S S' : Sto} (r : Rep M H S) {w : W} {v t : V} {k : Nat} {C : Addr} {f : Str} (a1 : VW M H v (.ref k)) (a3 : VW M H t w) (h : fputW S k f w = some (C, S')) :
    ∃ p dx fs, v = .ref p ∧ H p = some (.ins C dx fs) ∧ fs.length < 1000 ∧ Rep M (upd H p (.ins C dx (putF f t fs))) S' ∧ Step M H M (upd H p (.ins C dx (putF f t fs))) := by
  cases a1 with
  | @ref p _ hm =>
    unfold fputW at h
    split at h
    · rename_i C' ws hk
      split at h
      · rename_i hl
        cases h
        obtain ⟨q, dx, fs, h1, h2, b⟩ := r.inst hk
        rw [hm] at h1; cases h1
        exact ⟨p, dx, fs, rfl, h2, by rw [PVW.length b]; exact hl, r.set hm (.ins (PVW.step (step_set r hm) (putF_vw a3 b))), step_set r hm⟩
      · cases h
    · cases h
def gFld (K : PySem.W.Frag) (to : TE) (f : Str) : TG := fun v σ H Q => to σ H fun x H2 => ∃ a C dx fs, x = .ref a ∧ H2 a = some (.ins C dx fs) ∧ Cls K C ∧ NoAttr K C f ∧ fs.length < 1000 ∧ Q σ (upd H2 a (.ins C dx (putF f v fs)))
theorem pg_fld {f : Str} {to : TE} (ho : PE X o to) : PG X (.Attribute o f pos) (gFld X.K to f) := by
  refine ⟨fun pins s σ H v u Q I r h => ?_⟩
  refine PySem.W.kas_attr (thn (ho.run pins s σ H _ I h) fun ov s1 ⟨x, H1, I1, rx, a, C, dx, fs, ex, ea, c, n, l, q⟩ => ?_)
  subst ex
  obtain rfl : ov = Value.ref a := rx
  exact setattr_ok I1 ea c n l r fun s3 I3 => ⟨σ, _, I3, q⟩
theorem wG_fld {f : Str} (h : wE X Ψ o E S fun x S1 => ∃ k C S2, x = .ref k ∧ fputW S1 k f w = some (C, S2) ∧ Cls X.K C ∧ NoAttr X.K C f ∧ ΦE E S2) : wG X Ψ (.Attribute o f pos) w E S ΦE :=
  wG.of (pg_fld pe_sem) fun M σ H v r ev x av Q q => h.run M σ H r ev x _ fun vo x1 M1 S1 H1 ⟨k, C, S2, e1, hf, hc, hn, p⟩ r1 a1 s1 => by
    subst e1
    obtain ⟨ad, dx, fs, rfl, h1, hl, r2, s2⟩ := fput_vw r1 a1 (VW.step s1 _ _ av) hf
    exact ⟨ad, C, dx, fs, rfl, h1, hc, hn, hl, q σ E M1 S2 _ p r2 ((ev.step s1).step s2) (s1.trans s2)⟩

/-! ### what is walked -/
structure ItW (J : It) (vs : List V) (ys ws : List W) (still : Sto → Prop) : Prop where
  go : ∀ M H S i, VWs M H vs ys → Rep M H S → still S → i < ws.length → J.go i H
  yld : ∀ M H S i x H', VWs M H vs ys → Rep M H S → still S → J.yld i H x H' → i < ws.length → ∃ w, ws[i]? = some w ∧ VW M H' x w ∧ Rep M H' S ∧ Step M H M H'
  stop : ∀ M H S i, VWs M H vs ys → Rep M H S → still S → ws.length ≤ i → J.stop i H
def semI (X : Cx) (tg iter : Expr) : TI := fun σ H R => ∀ pins s, Inv X pins σ H s → wpAny (model X.prog X.w) X.A (eval iter X.env) (fun v s1 => wpAny (model X.prog X.w) X.A (pyIter v) (PIE X pins σ tg R) X.xe s1) X.xe s
theorem pi_sem : PI X tg iter (semI X tg iter) := ⟨fun pins s _ _ _ I h => h pins s I⟩
def GotI (M : Lay) (H : Hp) (Φ : List W → (Sto → Prop) → Sto → Prop) (R : It → Hp → Prop) : Prop :=
  ∀ J vs ys ws still M2 S2 H2, Φ ws still S2 → still S2 → Rep M2 H2 S2 → Step M H M2 H2 → VWs M2 H2 vs ys → ItW J vs ys ws still → R J H2
structure wI (X : Cx) (Ψ : AX) (tg iter : Expr) (E : AEnv) (S : Sto) (Φ : List W → (Sto → Prop) → Sto → Prop) : Prop where
  run : ∀ M σ H, Rep M H S → EvOk M H σ E → ExcOk X M H Ψ → ∀ R, GotI M H Φ R → semI X tg iter σ H R
variable {ΦI : List W → (Sto → Prop) → Sto → Prop}
theorem wI.of {t : TI} (h : PI X tg iter t) (g : ∀ M σ H, Rep M H S → EvOk M H σ E → ExcOk X M H Ψ → ∀ R, GotI M H ΦI R → t σ H R) : wI X Ψ tg iter E S ΦI :=
  ⟨fun M σ H r ev x R q pins s I => h.run pins s σ H R I (g M σ H r ev x R q)⟩
/-- how a list that is walked stands still -/
def stillW : W → List W → Sto → Prop
  | .ref k, ws, S => S[k]? = some (.lst ws)
  | _, _, _ => True
theorem vws_one {M : Lay} {H : Hp} {v : V} {y : W} (h : VWs M H [v] [y]) : VW M H v y := by
  cases h with
  | cons a b => exact a
theorem itw_list {K : PySem.W.Frag} {u : Addr} {y : W} {ws : List W} (nt : ∀ z, y ≠ .tup z) (hi : ∃ S, itemsW S y = some ws) : ItW (Itl K u) [.ref u] [y] ws (stillW y ws) := by
  have key : ∀ M' H' S', VWs M' H' [.ref u] [y] → Rep M' H' S' → stillW y ws S' → ∃ xs, SqL K H' u xs ∧ VWs M' H' xs ws := by
    intro M' H' S' a r' hs
    obtain ⟨S, hi⟩ := hi
    have hi' : itemsW S' y = some ws := by
      cases y with
      | ref k =>
        show (match S'[k]? with
          | some (.lst ws) => some ws
          | _ => none) = some ws
        rw [show S'[k]? = some (.lst ws) from hs]
      | lst z => exact hi
      | tup z => exact absurd rfl (nt z)
      | _ => cases hi
    obtain ⟨p, xs, e, rv, k⟩ := seq_of (K := K) r' (vws_one a) hi'
    cases e
    rcases k with ⟨k, _⟩ | ⟨_, z, k⟩
    · exact ⟨xs, k, rv⟩
    · exact absurd k (nt z)
  refine ⟨fun M' H' S' i a r' hs hl => ?_, fun M' H' S' i x H2 a r' hs hy hl => ?_, fun M' H' S' i a r' hs hl => ?_⟩
  · obtain ⟨xs, k, rv⟩ := key M' H' S' a r' hs
    obtain ⟨v, h1, _⟩ := rv.get (List.getElem?_eq_getElem hl)
    exact ⟨xs, v, k, h1⟩
  · obtain ⟨xs, k, rv⟩ := key M' H' S' a r' hs
    obtain ⟨e, h⟩ := hy
    subst e
    obtain ⟨v, h1, h2⟩ := rv.get (List.getElem?_eq_getElem hl)
    have e := h xs k
    rw [h1] at e; cases e
    exact ⟨_, List.getElem?_eq_getElem hl, h2, r', Step.refl _ _⟩
  · obtain ⟨xs, k, rv⟩ := key M' H' S' a r' hs
    exact ⟨xs, k, by rw [rv.length]; exact hl⟩
theorem itw_tup {K : PySem.W.Frag} {u : Addr} {ws : List W} : ItW (Itt K u) [.ref u] [.tup ws] ws (fun _ => True) := by
  have key : ∀ M' H' , VWs M' H' [.ref u] [.tup ws] → ∃ xs, SqT K H' u xs ∧ VWs M' H' xs ws := by
    intro M' H' a
    cases vws_one a with
    | tup q a => exact ⟨_, q.sq, a⟩
  refine ⟨fun M' H' S' i a r' hs hl => ?_, fun M' H' S' i x H2 a r' hs hy hl => ?_, fun M' H' S' i a r' hs hl => ?_⟩
  · obtain ⟨xs, k, rv⟩ := key M' H' a
    obtain ⟨v, h1, _⟩ := rv.get (List.getElem?_eq_getElem hl)
    exact ⟨xs, v, k, h1⟩
  · obtain ⟨xs, k, rv⟩ := key M' H' a
    obtain ⟨e, h⟩ := hy
    subst e
    obtain ⟨v, h1, h2⟩ := rv.get (List.getElem?_eq_getElem hl)
    have e := h xs k
    rw [h1] at e; cases e
    exact ⟨_, List.getElem?_eq_getElem hl, h2, r', Step.refl _ _⟩
  · obtain ⟨xs, k, rv⟩ := key M' H' a
    exact ⟨xs, k, by rw [rv.length]; exact hl⟩
/-- the ints lo, lo + 1, .. -/
def rangeW (lo : Int) (n : Nat) : List W := (List.range n).map fun i => W.int (lo + (i : Nat))
theorem range_get {lo : Int} {n i : Nat} (h : i < n) : (rangeW lo n)[i]? = some (.int (lo + i)) := by
  unfold rangeW
  rw [List.getElem?_map, List.getElem?_range h]
  rfl
theorem range_len {lo : Int} {n : Nat} : (rangeW lo n).length = n := by simp [rangeW]
theorem itw_range {lo : Int} {n : Nat} : ItW (Itr lo n) [] [] (rangeW lo n) (fun _ => True) := by
  refine ⟨fun M' H' S' i st r' hs hl => ?_, fun M' H' S' i x H2 st r' hs hy hl => ?_, fun M' H' S' i st r' hs hl => ?_⟩
  · rw [range_len] at hl
    exact hl
  · rw [range_len] at hl
    obtain ⟨e, h⟩ := hy
    subst e
    subst h
    exact ⟨_, range_get hl, .int _, r', Step.refl _ _⟩
  · rw [range_len] at hl
    exact hl
theorem wI_list (h : wE X Ψ iter E S fun y S1 => ∃ ws, itemsW S1 y = some ws ∧ (∀ z, y ≠ .tup z) ∧ ΦI ws (stillW y ws) S1) : wI X Ψ tg iter E S ΦI :=
  wI.of (pi_list pe_sem) fun M σ H r ev x R q => h.run M σ H r ev x _ fun v y M1 S1 H1 ⟨ws, hi, nt, p⟩ r1 a1 s1 => by
    obtain ⟨ad, xs, rfl, rv, k⟩ := seq_of (K := X.K) r1 a1 hi
    rcases k with ⟨k, _⟩ | ⟨_, z, k⟩
    · refine ⟨ad, rfl, ⟨xs, k⟩, q _ _ _ ws _ M1 S1 H1 p ?_ r1 s1 (.cons a1 .nil) (itw_list nt ⟨S1, hi⟩)⟩
      cases y with
      | ref k => exact items_ref hi
      | _ => trivial
    · exact absurd k (nt z)
theorem wI_tup (h : wE X Ψ iter E S fun y S1 => ∃ ws, y = .tup ws ∧ ΦI ws (fun _ => True) S1) : wI X Ψ tg iter E S ΦI :=
  wI.of (pi_tup pe_sem) fun M σ H r ev x R q => h.run M σ H r ev x _ fun v y M1 S1 H1 ⟨ws, e, p⟩ r1 a1 s1 => by
    subst e
    cases id a1 with
    | @tup ad xs _ k a => exact ⟨ad, rfl, ⟨xs, k.sq⟩, q _ _ _ ws _ M1 S1 H1 p True.intro r1 s1 (.cons a1 .nil) itw_tup⟩
theorem wI_range1 {p : Pos} (hm : X.mg "range" = none) (h : wE X Ψ a E S fun y S1 => ∃ j, y = .int j ∧ -(2 ^ 62) ≤ j ∧ j < 2 ^ 62 ∧ ΦI (rangeW 0 j.toNat) (fun _ => True) S1) (hg : Gl X "range" := by rfl) (hs : starEach [a] X.env = [(false, eval a X.env)] := by rfl) : wI X Ψ tg (.Call (.Name "range" p) [a] [] pos) E S ΦI :=
  wI.of (pi_range1 hg hm (pa_cons pe_sem pa_nil hs) hs) fun M σ H r ev x R q => h.run M σ H r ev x _ fun v y M1 S1 H1 ⟨j, e, h1, h2, p⟩ r1 a1 s1 => by
    subst e
    cases a1
    exact ⟨j, rfl, h1, h2, q _ _ _ _ _ M1 S1 H1 p True.intro r1 s1 .nil itw_range⟩
theorem wI_range2 {p : Pos} (hm : X.mg "range" = none) (h : wE X Ψ a E S fun x S1 => wE X Ψ b E S1 fun y S2 => ∃ i j, x = .int i ∧ y = .int j ∧ (-(2 ^ 62) ≤ i ∧ i < 2 ^ 62 ∧ -(2 ^ 62) ≤ j ∧ j < 2 ^ 62) ∧ ΦI (rangeW i (j - i).toNat) (fun _ => True) S2) (hg : Gl X "range" := by rfl) (hs : starEach [a, b] X.env = [(false, eval a X.env), (false, eval b X.env)] := by rfl) (hs2 : starEach [b] X.env = [(false, eval b X.env)] := by rfl)
    (hs3 : starEach [a, b] X.env = (false, eval a X.env) :: starEach [b] X.env := by rfl) : wI X Ψ tg (.Call (.Name "range" p) [a, b] [] pos) E S ΦI :=
  wI.of (pi_range2 hg hm (pa_cons pe_sem (pa_cons pe_sem pa_nil hs2) hs3) hs hs2) fun M σ H r ev x R q => h.run M σ H r ev x _ fun v w1 M1 S1 H1 p1 r1 a1 s1 => p1.run M1 σ H1 r1 (ev.step s1) (x.step s1) _ fun u w2 M2 S2 H2 ⟨i, j, e1, e2, hb, p⟩ r2 a2 s2 => by
    subst e1; subst e2
    cases a1; cases a2
    exact ⟨i, j, rfl, hb, q _ _ _ _ _ M2 S2 H2 p True.intro r2 (s1.trans s2) .nil itw_range⟩
/-- enumerate(list) -/
def enumW (n : Nat) : List W → List W
  | [] => []
  | w :: ws => .tup [.int n, w] :: enumW (n + 1) ws
theorem enum_get : ∀ {ws : List W} {n i : Nat} {w : W}, ws[i]? = some w → (enumW n ws)[i]? = some (.tup [.int (n + i : Nat), w])
  | [], _, _, _, h => by simp at h
  | w :: ws, n, 0, x, h => by simp at h; subst h; rfl
  | w :: ws, n, i + 1, x, h => by
    have ih := enum_get (n := n + 1) (i := i) (show ws[i]? = some x by simpa using h)
    show (enumW (n + 1) ws)[i]? = _
    rw [ih]
    congr 4
    omega
theorem enum_len : ∀ {ws : List W} {n : Nat}, (enumW n ws).length = ws.length
  | [], _ => rfl
  | w :: ws, n => by simp [enumW, enum_len]
theorem itw_enum {K : PySem.W.Frag} {u : Addr} {y : W} {ws : List W} (nt : ∀ z, y ≠ .tup z) (hi : ∃ S, itemsW S y = some ws) : ItW (Ite K u) [.ref u] [y] (enumW 0 ws) (stillW y ws) := by
  have base := itw_list (K := K) (u := u) nt hi
  refine ⟨fun M' H' S' i a r' hs hl => ?_, fun M' H' S' i x H2 a r' hs hy hl => ?_, fun M' H' S' i a r' hs hl => ?_⟩
  · rw [enum_len] at hl
    exact base.go M' H' S' i a r' hs hl
  · rw [enum_len] at hl
    obtain ⟨T, z, e1, hT, e2, h⟩ := hy
    subst e1; subst e2
    obtain ⟨w, h1, h2, _⟩ := base.yld M' H' S' i z H' a r' hs ⟨rfl, h⟩ hl
    refine ⟨_, enum_get h1, ?_, r'.tmp hT, step_tmp r' hT⟩
    exact tq_new r' hT (.cons (by rw [Nat.zero_add]; exact .int _) (.cons h2 .nil))
  · rw [enum_len] at hl
    exact base.stop M' H' S' i a r' hs hl
theorem wI_enum {p tpos : Pos} {elts : List Expr} {kk : Nat} (hm : X.mg "enumerate" = none) (h : wE X Ψ a E S fun y S1 => ∃ ws, itemsW S1 y = some ws ∧ (∀ z, y ≠ .tup z) ∧ ΦI (enumW 0 ws) (stillW y ws) S1) (hg : Gl X "enumerate" := by rfl) (hs : starEach [a] X.env = [(false, eval a X.env)] := by rfl) : wI X Ψ (.Tuple elts kk tpos) (.Call (.Name "enumerate" p) [a] [] pos) E S ΦI :=
  wI.of (pi_enum hg hm (pa_cons pe_sem pa_nil hs) hs) fun M σ H r ev x R q => h.run M σ H r ev x _ fun v y M1 S1 H1 ⟨ws, hi, nt, p⟩ r1 a1 s1 => by
    obtain ⟨ad, xs, rfl, rv, k⟩ := seq_of (K := X.K) r1 a1 hi
    rcases k with ⟨k, _⟩ | ⟨_, z, k⟩
    · refine ⟨ad, xs, rfl, k, q _ _ _ _ _ M1 S1 H1 p ?_ r1 s1 (.cons a1 .nil) (itw_enum nt ⟨S1, hi⟩)⟩
      cases y with
      | ref k => exact items_ref hi
      | _ => trivial
    · exact absurd k (nt z)
end

-- AM6

/-! ### references below a number; what is dropped -/
mutual
def W.rlt (n : Nat) : W → Bool
  | .ref k => decide (k < n) | .tup ws => W.rlts n ws | .lst ws => W.rlts n ws | _ => true
def W.rlts (n : Nat) : List W → Bool
  | [] => true
  | w :: ws => w.rlt n && W.rlts n ws
end
def O.rlt (n : Nat) : O → Bool
  | .lst ws => W.rlts n ws | .dk kvs => kvs.all fun p => p.2.rlt n | .dt kvs => kvs.all fun p => p.2.rlt n | .ins _ fs => fs.all fun p => p.2.rlt n | _ => true
def Lay.cut (M : Lay) (n : Nat) : Lay := ⟨M.m.take n, M.h⟩
section
variable {M : Lay} {H : Hp}
theorem cut_out {n : Nat} {a : Addr} (h : M.out a) : (M.cut n).out a := ⟨fun z => h.1 (List.mem_of_mem_take z), h.2⟩
theorem sq_cut {K : PySem.W.Frag} {n : Nat} {a : Addr} {ns : List Int} (h : SQ K M H a ns) : SQ K (M.cut n) H a ns := by
  rcases h with ⟨h, o⟩ | h
  · exact .inl ⟨h, cut_out o⟩
  · exact .inr h
mutual
theorem vw_cut {n : Nat} : ∀ (w : W) {v : V}, VW M H v w → w.rlt n = true → VW (M.cut n) H v w
  | .non, _, h, _ => by cases h; exact .non
  | .bl _, _, h, _ => by cases h; exact .bl _
  | .int _, _, h, _ => by cases h; exact .int _
  | .str _, _, h, _ => by cases h; exact .str _
  | .tup ws, _, h, r => by
    cases h with
    | tup q a => exact .tup ⟨q.1, cut_out q.2⟩ (vws_cut ws a (by simpa [W.rlt] using r))
  | .lst ws, _, h, r => by
    cases h with
    | lst q a => exact .lst ⟨q.1, cut_out q.2⟩ (vws_cut ws a (by simpa [W.rlt] using r))
  | .ref k, _, h, r => by
    cases h with
    | ref q => exact .ref (by
        have hk : k < n := by simpa [W.rlt] using r
        show (M.m.take n)[k]? = _
        rw [List.getElem?_take_of_lt hk]; exact q)
  | .raw _, _, h, _ => by cases h; exact .raw _
  | .scr _ _, _, h, _ => by
    cases h with
    | scr q => exact .scr (sq_cut q)
  | .xi _ _ _ _, _, h, _ => by
    cases h with
    | xi q1 q2 => exact .xi (cut_out q1) q2
  | .thg _ _, _, h, _ => by
    cases h with
    | thg q => exact .thg fun z hz => ⟨cut_out (q z hz).1, (q z hz).2⟩
theorem vws_cut {n : Nat} : ∀ (ws : List W) {vs : List V}, VWs M H vs ws → W.rlts n ws = true → VWs (M.cut n) H vs ws
  | [], _, h, _ => by cases h; exact .nil
  | w :: ws, _, h, r => by
    cases h with
    | cons a b =>
      simp only [W.rlts, Bool.and_eq_true] at r
      exact .cons (vw_cut w a r.1) (vws_cut ws b r.2)
end
theorem pvw_cut {κ : Type} {n : Nat} : ∀ {fs : List (κ × V)} {ws : List (κ × W)}, PVW M H fs ws → (ws.all fun p => p.2.rlt n) = true → PVW (M.cut n) H fs ws
  | _, _, .nil, _ => .nil
  | _, _, .cons (b := q) a t, r => by
    simp only [List.all_cons, Bool.and_eq_true] at r
    exact .cons ⟨a.1, vw_cut _ a.2 r.1⟩ (pvw_cut t r.2)
theorem ob_cut {n : Nat} {ho : HO} {o : O} (b : Ob M H ho o) (r : o.rlt n = true) : Ob (M.cut n) H ho o := by
  cases b with
  | lst a => exact .lst (vws_cut _ a r)
  | dk a => exact .dk (pvw_cut a r)
  | dt a => exact .dt (pvw_cut a r)
  | ins a => exact .ins (pvw_cut a r)
  | row a =>
    obtain ⟨v, ns, i, z, e, a, q⟩ := a
    exact .row ⟨v, ns, i, z, e, vw_cut _ a rfl, q⟩
  | any m n => exact .any m n
  | tab t q =>
    refine .tab t fun pos cv e => ?_
    obtain ⟨c, h1, h2, h3⟩ := q pos cv e
    exact ⟨c, h1, cut_out h2, h3⟩
theorem Rep.cut {S T : Sto} (r : Rep M H (S ++ T)) (hr : ∀ o, o ∈ S → o.rlt S.length = true) : Rep (M.cut S.length) H S where
  nd := r.nd.sublist (List.take_sublist _ _)
  len := by
    show (M.m.take S.length).length = S.length
    rw [List.length_take, r.len, List.length_append]
    omega
  at_ := fun k p o h1 h2 => by
    have hk : k < S.length := (List.getElem?_eq_some_iff.mp h2).1
    have h1 : (M.m.take S.length)[k]? = some p := h1
    rw [List.getElem?_take_of_lt hk] at h1
    obtain ⟨ho, e, b⟩ := r.at_ k p o h1 (by rw [List.getElem?_append_left hk]; exact h2)
    exact ⟨ho, e, ob_cut b (hr o (List.mem_of_getElem? h2))⟩
  hid := fun p hp => ⟨(r.hid p hp).1, fun z => (r.hid p hp).2 (List.mem_of_mem_take z)⟩
  tb := fun k P q e => by
    have hk : k < S.length := (List.getElem?_eq_some_iff.mp e).1
    show (M.m.take S.length)[k]? = some P
    rw [List.getElem?_take_of_lt hk]
    exact r.tb k P q (by rw [List.getElem?_append_left hk]; exact e)
theorem step_cut {M0 : Lay} {H0 : Hp} {n : Nat} (s : Step M0 H0 M H) (hn : M0.m.length ≤ n) : Step M0 H0 (M.cut n) H where
  pre := by
    obtain ⟨t, e⟩ := s.pre
    refine ⟨t.take (n - M0.m.length), ?_⟩
    show _ = M.m.take n
    rw [← e, List.take_append, List.take_of_length_le hn]
  new := fun p h q => s.new p (fun z => h (cut_out z)) q
  keep := s.keep
  tbl := s.tbl
  there := s.there
  old := fun a m => s.old a (List.mem_of_mem_take m)
  hold := s.hold
/- all references of what stands in a state are below its length -/
mutual
theorem vw_rlt {v : V} : ∀ {w : W}, VW M H v w → w.rlt M.m.length = true
  | .non, _ => rfl
  | .bl _, _ => rfl
  | .int _, _ => rfl
  | .str _, _ => rfl
  | .tup ws, h => by
    cases h with
    | tup q a => exact vws_rlt a
  | .lst ws, h => by
    cases h with
    | lst q a => exact vws_rlt a
  | .ref k, h => by
    cases h with
    | ref q => exact decide_eq_true (List.getElem?_eq_some_iff.mp q).1
  | .raw _, _ => rfl
  | .scr _ _, _ => rfl
  | .xi _ _ _ _, _ => rfl
  | .thg _ _, _ => rfl
theorem vws_rlt : ∀ {ws : List W} {vs : List V}, VWs M H vs ws → W.rlts M.m.length ws = true
  | [], _, _ => rfl
  | w :: ws, _, h => by
    cases h with
    | cons a b => simp only [W.rlts, Bool.and_eq_true]; exact ⟨vw_rlt a, vws_rlt b⟩
end
theorem pvw_rlt {κ : Type} : ∀ {fs : List (κ × V)} {ws : List (κ × W)}, PVW M H fs ws → (ws.all fun p => p.2.rlt M.m.length) = true
  | _, _, .nil => rfl
  | _, _, .cons a t => by
    simp only [List.all_cons, Bool.and_eq_true]
    exact ⟨vw_rlt a.2, pvw_rlt t⟩
def Srl (S : Sto) : Prop := ∀ o, o ∈ S → o.rlt S.length = true
theorem Rep.srl {S : Sto} (r : Rep M H S) : Srl S := fun o ho => by
  obtain ⟨k, hk, e⟩ := List.mem_iff_getElem.mp ho
  obtain ⟨p, q, h1, h2, b⟩ := r.at' (o := o) (by rw [List.getElem?_eq_getElem hk, e])
  rw [← r.len]
  cases b with
  | lst a => exact vws_rlt a
  | dk a => exact pvw_rlt a
  | dt a => exact pvw_rlt a
  | ins a => exact pvw_rlt a
  | row a => rfl
  | any m n => rfl
  | tab t q => rfl
/- what a result becomes when the objects from n on are forgotten: lists of theirs are lists that nobody changes -/
mutual
inductive Fz (S : Sto) (n : Nat) : W → W → Prop
  | non : Fz S n .non .non
  | bl (b : Bool) : Fz S n (.bl b) (.bl b)
  | int (i : Int) : Fz S n (.int i) (.int i)
  | str (x : Str) : Fz S n (.str x) (.str x)
  | raw (v : V) : Fz S n (.raw v) (.raw v)
  | scr (K : PySem.W.Frag) (v : List Int) : Fz S n (.scr K v) (.scr K v)
  | xi (a d : Addr) (f : Str) (i : Int) : Fz S n (.xi a d f i) (.xi a d f i)
  | thg (a : Addr) (fs : List (Addr × HO)) : Fz S n (.thg a fs) (.thg a fs)
  | tup {ws us} : Fzs S n ws us → Fz S n (.tup ws) (.tup us)
  | lst {ws us} : Fzs S n ws us → Fz S n (.lst ws) (.lst us)
  | old {k} : k < n → Fz S n (.ref k) (.ref k)
  | new {k ws us} : n ≤ k → S[k]? = some (.lst ws) → Fzs S n ws us → Fz S n (.ref k) (.lst us)
inductive Fzs (S : Sto) (n : Nat) : List W → List W → Prop
  | nil : Fzs S n [] []
  | cons {w ws u us} : Fz S n w u → Fzs S n ws us → Fzs S n (w :: ws) (u :: us)
end
theorem cut_new {S : Sto} {n k : Nat} {p : Addr} (r : Rep M H S) (h : M.m[k]? = some p) (hn : n ≤ k) : (M.cut n).out p := by
  refine ⟨fun z => ?_, fun z => (r.hid p z).2 (List.mem_of_getElem? h)⟩
  obtain ⟨j, hj, e⟩ := List.mem_iff_getElem.mp z
  have hj' : j < n := by
    have : j < (M.m.take n).length := hj
    rw [List.length_take] at this
    omega
  have q : (M.m.take n)[j]? = some p := by rw [← e]; exact List.getElem?_eq_getElem hj
  rw [List.getElem?_take_of_lt hj'] at q
  exact absurd (nd_at r.nd q h) (by omega)
mutual
theorem vw_fz {S : Sto} {n : Nat} (r : Rep M H S) : ∀ (u : W) {w : W} {v : V}, VW M H v w → Fz S n w u → VW (M.cut n) H v u
  | .non, _, _, h, f => by cases f; cases h; exact .non
  | .bl _, _, _, h, f => by cases f; cases h; exact .bl _
  | .int _, _, _, h, f => by cases f; cases h; exact .int _
  | .str _, _, _, h, f => by cases f; cases h; exact .str _
  | .raw _, _, _, h, f => by cases f; cases h; exact .raw _
  | .scr _ _, _, _, h, f => by
    cases f
    cases h with
    | scr q => exact .scr (sq_cut q)
  | .xi _ _ _ _, _, _, h, f => by
    cases f
    cases h with
    | xi q1 q2 => exact .xi (cut_out q1) q2
  | .thg _ _, _, _, h, f => by
    cases f
    cases h with
    | thg q => exact .thg fun z hz => ⟨cut_out (q z hz).1, (q z hz).2⟩
  | .tup us, _, _, h, f => by
    cases f with
    | tup f => cases h with
      | tup q a => exact .tup ⟨q.1, cut_out q.2⟩ (vws_fz r us a f)
  | .lst us, _, _, h, f => by
    cases f with
    | lst f => cases h with
      | lst q a => exact .lst ⟨q.1, cut_out q.2⟩ (vws_fz r us a f)
    | new hn hk f => cases h with
      | ref hm =>
        obtain ⟨p, xs, h1, h2, h3⟩ := r.lst hk
        rw [hm] at h1; cases h1
        exact .lst ⟨h2, cut_new r hm hn⟩ (vws_fz r us h3 f)
  | .ref k, _, _, h, f => by
    cases f with
    | old hk => cases h with
      | ref hm => exact .ref (by
          show (M.m.take n)[k]? = _
          rw [List.getElem?_take_of_lt hk]; exact hm)
theorem vws_fz {S : Sto} {n : Nat} (r : Rep M H S) : ∀ (us : List W) {ws : List W} {vs : List V}, VWs M H vs ws → Fzs S n ws us → VWs (M.cut n) H vs us
  | [], _, _, h, f => by cases f; cases h; exact .nil
  | u :: us, _, _, h, f => by
    cases f with
    | cons f1 f2 => cases h with
      | cons a b => exact .cons (vw_fz r u a f1) (vws_fz r us b f2)
end
end
/-- a store told less -/
def Imp (S S1 : Sto) : Prop := ∀ M H, Rep M H S → Rep M H S1
theorem Imp.refl (S : Sto) : Imp S S := fun _ _ r => r
theorem Imp.trans {S S1 S2 : Sto} (a : Imp S S1) (b : Imp S1 S2) : Imp S S2 := fun M H r => b M H (a M H r)
/-- a def's end: as it is, told less, its own objects forgotten -/
def fin (n : Nat) (Φ : W → Sto → Prop) : W → Sto → Prop := fun w S' => ∃ S1, Imp S' S1 ∧ (Φ w S1 ∨ ∃ S2 T u, S1 = S2 ++ T ∧ n ≤ S2.length ∧ Srl S2 ∧ Fz S1 S2.length w u ∧ Φ u S2)
theorem fin.as {n : Nat} {Φ : W → Sto → Prop} {w : W} {S : Sto} (h : Φ w S) : fin n Φ w S := ⟨S, Imp.refl S, .inl h⟩
theorem fin.less {n : Nat} {Φ : W → Sto → Prop} {w : W} {S S1 : Sto} (i : Imp S S1) (h : fin n Φ w S1) : fin n Φ w S := by
  obtain ⟨S2, j, h⟩ := h
  exact ⟨S2, i.trans j, h⟩
theorem fin.drop {n : Nat} {Φ : W → Sto → Prop} {w u : W} {S2 T : Sto} (hn : n ≤ S2.length) (hr : Srl S2) (f : Fz (S2 ++ T) S2.length w u) (h : Φ u S2) : fin n Φ w (S2 ++ T) := ⟨_, Imp.refl _, .inr ⟨S2, T, u, rfl, hn, hr, f, h⟩⟩
theorem Got.fin {M : Lay} {H : Hp} {S : Sto} (r : Rep M H S) {Φ : W → Sto → Prop} {Q : VK} (g : Got M H Φ Q) : Got M H (fin S.length Φ) Q := fun v w M2 S2 H2 p r2 a2 s2 => by
  obtain ⟨S1, i, p⟩ := p
  have r2 := i _ _ r2
  rcases p with p | ⟨S3, T, u, e, hn, hr, f, p⟩
  · exact g v w M2 S1 H2 p r2 a2 s2
  · subst e
    exact g v u (M2.cut S3.length) S3 H2 p (r2.cut hr) (vw_fz r2 u a2 f) (step_cut s2 (by rw [r.len]; exact hn))

/-! ### defs -/
/-- a def's promise: its arguments, the store, what is wanted of its result, of an exception -/
abbrev ASp := List W → Sto → (W → Sto → Prop) → (Value → List (Str × W) → Sto → Prop) → Prop
def conc (n : Nat) (asp : ASp) : Sp := fun vs H Q XE => vs.length = n ∧ ∃ M S ws Φ Ψ, Rep M H S ∧ VWs M H vs ws ∧ asp ws S Φ Ψ ∧ Got M H Φ Q ∧
  ∀ cls fs d M2 S2 H2, Ψ cls fs S2 → Rep M2 H2 S2 → Xd M2 H2 d fs → Step M H M2 H2 → XE cls d H2
/-- a def of the module that keeps a promise -/
structure CFn (P : Program) (w : World) (K : PySem.W.Frag) (mg : Str → Option Value) (base : Heap) (name : Str) (k n : Nat) (asp : ASp) : Prop where
  ex : ∃ f fd ps, mg name = some (.ref f) ∧ PySem.W.keepIn K (.ref f) = true ∧ Binds K fd ps [] ∧ ps.length = n ∧ FnOk P w K mg base (L2.CX P w) k f fd ps (conc n asp)
/-- .. of a class -/
structure CMeth (P : Program) (w : World) (K : PySem.W.Frag) (mg : Str → Option Value) (base : Heap) (C : Addr) (m : Str) (k n : Nat) (asp : ASp) : Prop where
  ex : ∃ f fd ps, Meth K C m f ∧ Binds K fd ps [] ∧ ps.length = n ∧ FnOk P w K mg base (L2.CX P w) k f fd ps (conc n asp)
structure CMake (P : Program) (w : World) (K : PySem.W.Frag) (mg : Str → Option Value) (base : Heap) (name : Str) (C : Addr) (k n : Nat) (asp : ASp) : Prop where
  ex : ∃ f fd ps, mg name = some (.ref C) ∧ Mk K C f ∧ Binds K fd ps [] ∧ ps.length = n ∧ FnOk P w K mg base (L2.CX P w) k f fd ps (conc n asp)
def startW (n : Nat) (ws : List W) : AEnv := ws.map some ++ List.replicate (n - ws.length) none
theorem evok_start {M : Lay} {H : Hp} {N : List Str} {vs : List V} {ws : List W} (r : VWs M H vs ws) (hl : vs.length ≤ N.length) : EvOk M H (L2.start N vs) (startW N.length ws) := by
  refine ⟨by simp [L2.start, startW, r.length], fun i w h => ?_⟩
  unfold startW at h
  unfold L2.start
  by_cases hi : i < ws.length
  · rw [List.getElem?_append_left (by simpa using hi), List.getElem?_map] at h
    cases e : ws[i]? with
    | none => rw [e] at h; cases h
    | some u =>
      rw [e] at h; cases h
      obtain ⟨v, h1, h2⟩ := r.get e
      refine ⟨v, ?_, h2⟩
      rw [List.getElem?_append_left (by rw [List.length_map, r.length]; exact hi), List.getElem?_map, h1]
      rfl
  · rw [List.getElem?_append_right (by simpa using hi), List.getElem?_replicate] at h
    split at h <;> cases h
/-- THE RULE: a def by its body -/
theorem fn_ok {P : Program} {w : World} {K : PySem.W.Frag} {mg : Str → Option Value} {base : Heap} {x qual : Str} {st : Stmt} {f : Addr} {fd : FuncData} {N ps : List Str} {k : Nat} {asp : ASp} (F : Fun K x qual st f fd) (sc : FnScope N ps (defScope st))
    (hbody : ∀ (cdv : Value) (A : Around) (outer : List Env) (s : Shared) (H : Hp) (E : XK), Room k (A.deeper (envOfC qual (defScope st) s.heap.objs.size f cdv)) → ∀ ws S Φ Ψ, ws.length = ps.length → Srl S → asp ws S Φ Ψ →
      wB (cxOf (L2.CX P w) P w K mg base N qual (defScope st) f cdv A outer s H E) (fun cls fs _ S2 => Ψ cls fs S2) (defBody st) (startW N.length ws) S ⟨fun _ S2 => fin S.length Φ .non S2, fin S.length Φ, fun _ _ => False, fun _ _ => False⟩) :
    FnOk P w K mg base (L2.CX P w) (k + 1) f fd ps (conc ps.length asp) := by
  refine F.okX sc (fun vs H Q E h => h.1) fun cdv A outer s H vs Q E hr h => ?_
  obtain ⟨hl, M, S, ws, Φ, Ψ, r, a, hsp, g, hx⟩ := h
  have hpl : ps.length ≤ N.length := by
    have e := congrArg List.length sc.pre
    rw [List.length_take] at e
    omega
  refine ⟨semB _ _, pss_sem, ?_⟩
  refine (hbody cdv A outer s H E hr ws S Φ Ψ (by rw [← a.length]; exact hl) r.srl hsp).run M (L2.start N vs) H r (evok_start a (by omega)) ?_ _ ?_
  · exact ⟨fun cls d _ H2 => E cls d H2, takes_of rfl rfl rfl rfl, fun cls fs E2 S2 M2 H2 d σ2 p r2 _ xd s2 => hx cls fs d M2 S2 H2 p r2 xd s2⟩
  · exact ⟨fun σ E2 M2 S2 H2 p r2 _ s2 => (g.fin r) _ _ M2 S2 H2 p r2 .non s2, g.fin r, fun _ _ _ _ _ p => p.elim, fun _ _ _ _ _ p => p.elim⟩
section
variable {X : Cx} {Ψ : AX} {a b c e o tg iter : Expr} {es rest : List Expr} {E : AEnv} {S : Sto} {Φ : W → Sto → Prop} {ΦE : AEnv → Sto → Prop} {ΦT : Bool → Sto → Prop} {ΦS : List W → Sto → Prop} {pos : Pos} {k n : Nat} {asp : ASp}
/-- what is wanted of a call's exception, where the call stands -/
theorem run_conc {M : Lay} {H : Hp} {vs : List V} {ws : List W} {σ : L2.St} {Q : VK} {Wx : WX} (r : Rep M H S) (ev : EvOk M H σ E) (hx : ∀ cls fs E2 S2 M2 H2 d σ2, Ψ cls fs E2 S2 → Rep M2 H2 S2 → EvOk M2 H2 σ2 E2 → Xd M2 H2 d fs → Step M H M2 H2 → Wx cls d σ2 H2)
    (a : VWs M H vs ws) (hl : ws.length = n) (h : asp ws S Φ fun cls fs S2 => Ψ cls fs E S2) (q : Got M H Φ Q) : conc n asp vs H Q fun cls d H2 => Wx cls d σ H2 :=
  ⟨by rw [a.length]; exact hl, M, S, ws, Φ, _, r, a, h, q, fun cls fs d M2 S2 H2 p r2 xd s2 => hx cls fs E S2 M2 H2 d σ p r2 (ev.step s2) xd s2⟩
theorem run_fn' {CX : CXT} {f : Addr} {fd : FuncData} {ps : List Str} {sp : Sp} {ds : List Value} {dvs : List V} {XEx : XK} {pins : List (Addr × Obj)} {σ : L2.St} {H : Hp} {s : Shared} {Q : VK} {us : List Value} {vs : List V} (F : FnOk X.prog X.w X.K X.mg X.base CX k f fd ps sp) (hr : Room k X.A) (hb : Binds X.K fd ps ds) (hd : Vals dvs ds)
    (hx : ∀ e s', CX X.stack H s XEx e s' → X.xe e s') (I : Inv X pins σ H s) (r : Vals vs us) (h : sp (vs ++ dvs) H Q XEx) : wpAny (model X.prog X.w) X.A (call (.ref f) us) (EP X pins σ Q) X.xe s := by
  have r2 : Vals (vs ++ dvs) (us ++ ds) := r.append hd
  have hl : (us ++ ds).length = ps.length := by rw [← r2.length]; exact F.len _ _ _ _ h
  refine wpAny_call (codeAny_mono (F.run X.A X.stack s H ⟨us, []⟩ (us ++ ds) (vs ++ dvs) Q XEx hr I.env0 (hb s us I.kIn hl) r2 h) fun r s' hq => ?_)
  cases r with
  | error e => exact hx e s' hq
  | ok fl =>
    cases fl with
    | ret u => exact I.after hq
    | next => exact False.elim hq
    | brk => exact False.elim hq
    | cont => exact False.elim hq
/-- a call of a def that keeps its promise, from abstract arguments -/
theorem run_abs {f : Addr} {fd : FuncData} {ps : List Str} {M : Lay} {H : Hp} {vs : List V} {us : List Value} {ws : List W} {σ : L2.St} {s : Shared} {pins : List (Addr × Obj)} {Q : VK} (F : FnOk X.prog X.w X.K X.mg X.base (L2.CX X.prog X.w) k f fd ps (conc n asp)) (hr : Room k X.A) (hb : Binds X.K fd ps [])
    (r : Rep M H S) (ev : EvOk M H σ E) (x : ExcOk X M H Ψ) (I : Inv X pins σ H s) (rv : Vals vs us) (a : VWs M H vs ws) (hl : ws.length = n) (h : asp ws S Φ fun cls fs S2 => Ψ cls fs E S2) (q : Got M H Φ Q) :
    wpAny (model X.prog X.w) X.A (call (.ref f) us) (EP X pins σ Q) X.xe s := by
  obtain ⟨Wx, tk, hx⟩ := x
  refine run_fn' (XEx := fun cls d H2 => Wx cls d σ H2) (dvs := []) (ds := []) F hr hb .nil (fun e s' c => tk e s' (XE.of_call I (fun _ _ _ z => z) c)) I rv ?_
  rw [List.append_nil]
  exact run_conc r ev hx a hl h q
theorem wE_call {x : Str} {p : Pos} (F : CFn X.prog X.w X.K X.mg X.base x k n asp) (hr : Room k X.A) (h : wA X Ψ (e :: es) E S fun ws S1 => ws.length = n ∧ asp ws S1 Φ fun cls fs S2 => Ψ cls fs E S2) (hg : Gl X x := by rfl)
    (hdb : (x == ("__debug__" : Str)) = false := by decide) (he : starEach (e :: es) X.env = (false, eval e X.env) :: starEach es X.env := by rfl) (hpl : (backTo pos (starEach es X.env)).any (·.1) = false := by rfl) : wE X Ψ (.Call (.Name x p) (e :: es) [] pos) E S Φ := by
  obtain ⟨f, fd, ps, hm, hk, hb, hl, F⟩ := F.ex
  refine ⟨fun M σ H r ev xo Q q pins s I => ?_⟩
  refine wpAny_Call_Name_kw (ld_glob I hg hm ?_ hdb)
  refine PySem.W.callWith_K (h₀ := X.base) I.ok.mod.kin hk (thn ((h.run M σ H r ev xo (fun vs H1 => ∀ us s1, Inv X pins σ H1 s1 → Vals vs us → wpAny (model X.prog X.w) X.A (call (.ref f) us) (EP X pins σ Q) X.xe s1) fun vs ws M1 S1 H1 p r1 a1 s1 us s1' I1 rv => ?_) pos pins s I) fun us s1 ⟨vs, H1, I1, rv, q1⟩ => ⟨I1.kIn, q1 us s1 I1 rv⟩) he hpl
  exact run_abs F hr hb r1 (ev.step s1) (xo.step s1) I1 rv a1 p.1 p.2 (q.step s1)
theorem wE_meth {pl : Sem Bool} {m : Str} {C : Addr} {apos : Pos} (hc : Cls X.K C) (F : CMeth X.prog X.w X.K X.mg X.base C m k n asp) (hr : Room k X.A)
    (h : wE X Ψ o E S fun x S1 => ∃ j fs, x = .ref j ∧ S1[j]? = some (.ins C fs) ∧ fs.lookup m = none ∧ wA X Ψ (e :: es) E S1 fun ws S2 => ws.length + 1 = n ∧ asp (.ref j :: ws) S2 Φ fun cls fs S3 => Ψ cls fs E S3)
    (hst : starEach (e :: es) X.env = (false, eval e X.env) :: starEach es X.env := by rfl) (hpl : (backTo pos (starEach es X.env)).any (·.1) = false := by rfl)
    (ht : eval (.Call (.Attribute o m apos) (e :: es) [] pos) X.env = (do
      let ov ← eval o X.env
      standAt apos.atName
      let (f, first) ← holding [ov] (getMethod ov m pl)
      callWith pos f first (backTo pos (starEach (e :: es) X.env)) (backToKw pos (keywordEach [] X.env))) := by rfl) : wE X Ψ (.Call (.Attribute o m apos) (e :: es) [] pos) E S Φ := by
  obtain ⟨f, fd, ps, hm, hb, hl, F⟩ := F.ex
  refine ⟨fun M σ H r ev xo Q q pins s I => ?_⟩
  refine PySem.W.methodCall_KW (pl := pl) (thn ((h.run M σ H r ev xo (fun v H1 => ∃ a dx fs, v = .ref a ∧ H1 a = some (.ins C dx fs) ∧ fs.lookup m = none ∧ ∀ pins s1, Inv X pins σ H1 s1 → wpAny (model X.prog X.w) X.A (spliced (backTo pos (starEach (e :: es) X.env))) (fun us s2 => X.K.In s2.heap ∧ wpAny (model X.prog X.w) X.A (call (.ref f) (.ref a :: us)) (EP X pins σ Q) X.xe s2) X.xe s1) fun v w M1 S1 H1 p r1 a1 s1 => ?_) pins s I) fun u s1 hh => ?_) ht
  · obtain ⟨j, fs, rfl, hj, hn, p⟩ := p
    cases id a1 with
    | @ref ad _ hm1 =>
      obtain ⟨q1, dx, fv, h1, h2, h3⟩ := r1.inst hj
      rw [hm1] at h1; cases h1
      refine ⟨_, dx, fv, rfl, h2, (look_vw h3).2 hn, fun pins s1' I1 => ?_⟩
      refine thn ((p.run M1 σ H1 r1 (ev.step s1) (xo.step s1) (fun vs H2 => ∀ us s2, Inv X pins σ H2 s2 → Vals vs us → wpAny (model X.prog X.w) X.A (call (.ref f) (.ref _ :: us)) (EP X pins σ Q) X.xe s2) fun vs ws M2 S2 H2 p2 r2 a2 s2 us s2' I2 rv => ?_) pos pins s1' I1) fun us s2 ⟨vs, H2, I2, rv, q2⟩ => ⟨I2.kIn, q2 us s2 I2 rv⟩
      exact run_abs (ws := .ref j :: ws) (vs := .ref _ :: vs) F hr hb r2 ((ev.step s1).step s2) ((xo.step s1).step s2) I2 (.cons rfl rv) (.cons (VW.step s2 _ _ a1) a2) p2.1 p2.2 (q.step (s1.trans s2))
  · obtain ⟨x, H1, I1, rx, a, dx, fs, ex, ea, l, q1⟩ := hh
    subst ex
    obtain rfl : u = Value.ref a := rx
    refine getmeth_ok I1 ea hc hm l ?_
    exact PySem.W.callWith_K (first := [.ref a]) (h₀ := X.base) I.ok.mod.kin hm.kp (q1 pins s1 I1) hst hpl
end

-- AM7

section
variable {X : Cx} {Ψ : AX} {a b c e o tg iter : Expr} {es rest : List Expr} {E : AEnv} {S : Sto} {Φ : W → Sto → Prop} {ΦE : AEnv → Sto → Prop} {ΦT : Bool → Sto → Prop} {ΦS : List W → Sto → Prop} {pos : Pos} {k n : Nat} {asp : ASp} {st : Stmt} {sts body orelse : List Stmt} {A : AE}

/-! ### new instances -/
theorem run_make' {C f : Addr} {fd : FuncData} {ps : List Str} {M : Lay} {H : Hp} {vs : List V} {us : List Value} {ws : List W} {σ : L2.St} {s : Shared} {pins : List (Addr × Obj)} {Q : VK} (Mk' : Mk X.K C f) (F : FnOk X.prog X.w X.K X.mg X.base (L2.CX X.prog X.w) k f fd ps (conc n asp)) (hr : Room (k + 1) X.A) (hb : Binds X.K fd ps [])
    (r : Rep M H S) (ev : EvOk M H σ E) (xo : ExcOk X M H Ψ) (I : Inv X pins σ H s) (rv : Vals vs us) (a : VWs M H vs ws) (hl : ws.length + 1 = n)
    (h : asp (.ref S.length :: ws) (S ++ [.ins C []]) (fun w S2 => w = .non ∧ Φ (.ref S.length) S2) fun cls fs S2 => Ψ cls fs E S2) (q : Got M H Φ Q) :
    wpAny (model X.prog X.w) X.A (call (.ref C) us) (EP X pins σ Q) X.xe s := by
  obtain ⟨Wx, tk, hx⟩ := xo
  have fx : H (s.heap.objs.size + 1) = none := I.hok.fresh (Nat.le_succ _)
  have fd' : H s.heap.objs.size = none := I.hok.fresh (Nat.le_refl _)
  have nx : s.heap.objs.size ≠ s.heap.objs.size + 1 := Nat.ne_of_lt (Nat.lt_succ_self _)
  have I2 := Inv.made (C := C) I
  have r1 := r.tmp (ho := .own (s.heap.objs.size + 1)) fd'
  have s1 := step_tmp r (ho := .own (s.heap.objs.size + 1)) fd'
  have fx1 : (upd H s.heap.objs.size (.own (s.heap.objs.size + 1))) (s.heap.objs.size + 1) = none := by rw [upd_ne nx.symm]; exact fx
  have r2 := r1.new (o := .ins C []) (ho := .ins C s.heap.objs.size []) fx1 (.ins .nil)
  have s2 := s1.trans (step_new r1 (ho := .ins C s.heap.objs.size []) fx1)
  have a2 := VWs.step s2 _ _ a
  have ar : VW (M.add (s.heap.objs.size + 1)) (upd (upd H s.heap.objs.size (.own (s.heap.objs.size + 1))) (s.heap.objs.size + 1) (.ins C s.heap.objs.size [])) (.ref (s.heap.objs.size + 1)) (.ref S.length) :=
    .ref (by show (M.m ++ [s.heap.objs.size + 1])[S.length]? = _; rw [← r.len, List.getElem?_append_right (Nat.le_refl _)]; simp)
  have hq : conc n asp (.ref (s.heap.objs.size + 1) :: vs) (upd (upd H s.heap.objs.size (.own (s.heap.objs.size + 1))) (s.heap.objs.size + 1) (.ins C s.heap.objs.size [])) (fun v H2 => v = .non ∧ Q (.ref (s.heap.objs.size + 1)) H2) (fun cls d H2 => Wx cls d σ H2) := by
    refine run_conc (E := E) (Ψ := Ψ) r2 (ev.step s2) (fun cls fs E2 S2 M2 H2 d σ2 p r e xd s => hx cls fs E2 S2 M2 H2 d σ2 p r e xd (s2.trans s)) (.cons ar a2) hl h fun v w M3 S3 H3 p r3 a3 s3 => ?_
    obtain ⟨e, p⟩ := p
    subst e
    cases a3
    exact ⟨rfl, q _ _ M3 S3 H3 p r3 (VW.step s3 _ _ ar) (s2.trans s3)⟩
  have rr : Vals (V.ref (s.heap.objs.size + 1) :: vs) (Value.ref (s.heap.objs.size + 1) :: us) := .cons rfl rv
  have hlen : (Value.ref (s.heap.objs.size + 1) :: us ++ []).length = ps.length := by
    have e := rr.length
    rw [F.len _ _ _ _ hq] at e
    rw [List.append_nil]
    exact e.symm
  have hbt := hb _ (Value.ref (s.heap.objs.size + 1) :: us) I2.kIn hlen
  rw [List.append_nil] at hbt
  refine wpAny_call (make_map (f := f) I.kIn Mk'.makes Mk'.init (beq_iff_eq.mp Mk'.fn) (codeAny_mono (F.run _ X.stack _ _ ⟨Value.ref (s.heap.objs.size + 1) :: us, []⟩ (Value.ref (s.heap.objs.size + 1) :: us) _ _ (fun cls d H2 => Wx cls d σ H2) (hr.make C us [])
    (I2.env0.make C us []) hbt rr hq) fun r s' hq' => ?_))
  cases r with
  | error e => exact tk e s' (XE.of_call I2 (fun _ _ _ z => z) hq')
  | ok fl =>
    cases fl with
    | ret u =>
      obtain ⟨v, H', I3, rv, ev, q3⟩ := I2.after hq'
      subst ev
      exact ⟨rv, ⟨V.ref (s.heap.objs.size + 1), H', I3, rfl, q3⟩⟩
    | next => exact False.elim hq'
    | brk => exact False.elim hq'
    | cont => exact False.elim hq'
theorem wE_make {x : Str} {C : Addr} {p : Pos} (F : CMake X.prog X.w X.K X.mg X.base x C k n asp) (hr : Room (k + 1) X.A)
    (h : wA X Ψ (e :: es) E S fun ws S1 => ws.length + 1 = n ∧ asp (.ref S1.length :: ws) (S1 ++ [.ins C []]) (fun w S2 => w = .non ∧ Φ (.ref S1.length) S2) fun cls fs S2 => Ψ cls fs E S2) (hg : Gl X x := by rfl)
    (hdb : (x == ("__debug__" : Str)) = false := by decide) (he : starEach (e :: es) X.env = (false, eval e X.env) :: starEach es X.env := by rfl) (hpl : (backTo pos (starEach es X.env)).any (·.1) = false := by rfl) : wE X Ψ (.Call (.Name x p) (e :: es) [] pos) E S Φ := by
  obtain ⟨f, fd, ps, hm, mk, hb, hl, F⟩ := F.ex
  refine ⟨fun M σ H r ev xo Q q pins s I => ?_⟩
  refine wpAny_Call_Name_kw (ld_glob I hg hm ?_ hdb)
  refine PySem.W.callWith_K (h₀ := X.base) I.ok.mod.kin mk.kp (thn ((h.run M σ H r ev xo (fun vs H1 => ∀ us s1, Inv X pins σ H1 s1 → Vals vs us → wpAny (model X.prog X.w) X.A (call (.ref C) us) (EP X pins σ Q) X.xe s1) fun vs ws M1 S1 H1 p r1 a1 s1 us s1' I1 rv => ?_) pos pins s I) fun us s1 ⟨vs, H1, I1, rv, q1⟩ => ⟨I1.kIn, q1 us s1 I1 rv⟩) he hpl
  exact run_make' mk F hr hb r1 (ev.step s1) (xo.step s1) I1 rv a1 p.1 p.2 (q.step s1)
theorem wE_make0 {x : Str} {C : Addr} {p : Pos} (F : CMake X.prog X.w X.K X.mg X.base x C k 1 asp) (hr : Room (k + 1) X.A)
    (h : asp [.ref S.length] (S ++ [.ins C []]) (fun w S2 => w = .non ∧ Φ (.ref S.length) S2) fun cls fs S2 => Ψ cls fs E S2) (hg : Gl X x := by rfl) (hdb : (x == ("__debug__" : Str)) = false := by decide) : wE X Ψ (.Call (.Name x p) [] [] pos) E S Φ := by
  obtain ⟨f, fd, ps, hm, mk, hb, hl, F⟩ := F.ex
  refine ⟨fun M σ H r ev xo Q q pins s I => ?_⟩
  refine wpAny_Call_Name_kw (ld_glob I hg hm ?_ hdb)
  exact PySem.W.callWith_K0 I.kIn mk.kp (run_make' (us := []) mk F hr hb r ev xo I .nil .nil rfl h q)

/-! ### blocks, small statements -/
theorem wB_nil (h : A.nx E S) : wB X Ψ [] E S A := wB.of pss_nil fun M σ H r ev _ D q => q.nx σ E M S H h r ev (Step.refl M H)
theorem wB_cons (h : wS X Ψ st E S { A with nx := fun E2 S2 => wB X Ψ sts E2 S2 A }) : wB X Ψ (st :: sts) E S A :=
  wB.of (pss_cons ps_sem pss_sem) fun M σ H r ev x D q => h.run M σ H r ev x _ ⟨fun σ2 E2 M2 S2 H2 p r2 ev2 s2 => p.run M2 σ2 H2 r2 ev2 (x.step s2) D (q.step s2), q.rt, q.bk, q.ct⟩
theorem wB_one (h : wS X Ψ st E S A) : wB X Ψ [st] E S A := wB.of (pss_one ps_sem) fun M σ H r ev x D q => h.run M σ H r ev x D q
theorem wS_pass (h : A.nx E S) : wS X Ψ (.Pass pos) E S A := wS.of ps_pass fun M σ H r ev _ D q => q.nx σ E M S H h r ev (Step.refl M H)
theorem wS_break (h : A.bk E S) : wS X Ψ (.Break pos) E S A := wS.of ps_break fun M σ H r ev _ D q => q.bk σ E M S H h r ev (Step.refl M H)
theorem wS_cont (h : A.ct E S) : wS X Ψ (.Continue pos) E S A := wS.of ps_continue fun M σ H r ev _ D q => q.ct σ E M S H h r ev (Step.refl M H)
theorem wS_expr (h : wE X Ψ e E S fun _ S1 => A.nx E S1) (hs : swapsWith e none pos.line X.env = pure false := by rfl) : wS X Ψ (.Expr e pos) E S A :=
  wS.of (ps_expr pe_sem hs) fun M σ H r ev x D q => h.run M σ H r ev x _ fun v w M1 S1 H1 p r1 a1 s1 => q.nx σ E M1 S1 H1 p r1 (ev.step s1) s1
theorem wS_ret (h : wE X Ψ e E S A.rt) : wS X Ψ (.Return (some e) pos) E S A := wS.of (ps_ret pe_sem) fun M σ H r ev x D q => h.run M σ H r ev x _ q.rt
theorem wS_retN (h : A.rt .non S) : wS X Ψ (.Return none pos) E S A := wS.of ps_retN fun M σ H r ev x D q => q.rt _ _ M S H h r .non (Step.refl M H)
theorem wS_if (h : wT X Ψ c E S fun k S1 => if k = true then wB X Ψ sts E S1 A else wB X Ψ orelse E S1 A) : wS X Ψ (.If c sts orelse pos) E S A :=
  wS.of (ps_if pt_sem pss_sem pss_sem) fun M σ H r ev x D q => h.run M σ H r ev x _ fun k M1 S1 H1 p r1 s1 => by
    cases k with
    | true => exact iteT ((show wB X Ψ sts E S1 A from p).run M1 σ H1 r1 (ev.step s1) (x.step s1) D (q.step s1))
    | false => exact iteF ((show wB X Ψ orelse E S1 A from p).run M1 σ H1 r1 (ev.step s1) (x.step s1) D (q.step s1))
/-- target = value -/
theorem wS_asg (h : wE X Ψ e E S fun w S1 => wG X Ψ tg w E S1 A.nx) (hs : swapsWithSole [tg] e pos.line X.env = pure false := by rfl) (hw : swappedStores [tg] e X.env = pure none := by rfl)
    (h1 : (assignEach [tg] X.env).map (·.2) = [assign tg X.env] := by rfl) : wS X Ψ (.Assign [tg] e pos) E S A :=
  wS.of (ps_asg pe_sem pg_sem hs hw h1) fun M σ H r ev x D q => h.run M σ H r ev x _ fun v w M1 S1 H1 p r1 a1 s1 => p.run M1 σ H1 v r1 (ev.step s1) (x.step s1) a1 _ fun σ2 E2 M2 S2 H2 p2 r2 ev2 s2 => q.nx σ2 E2 M2 S2 H2 p2 r2 ev2 (s1.trans s2)
/-- name = value -/
theorem wS_set {y : Str} {pos' : Pos} (i : Nat) (hN : X.N.Nodup) (h : wE X Ψ e E S fun w S1 => A.nx (E.set i (some w)) S1) (hi : X.N[i]? = some y := by rfl) (hx : Loc X.env.scope y := by first | exact Or.inl rfl | exact Or.inr rfl) (hs : swapsWith e (some (.Name y pos')) pos.line X.env = pure false := by rfl) (hf : X.fn y = true ∨ X.env.scope.names.lookup y = some .local := by first | exact .inl rfl | exact .inr rfl) :
    wS X Ψ (.Assign [.Name y pos'] e pos) E S A :=
  wS.of (ps_set hN hi hx pe_sem hs hf) fun M σ H r ev x D q => h.run M σ H r ev x _ fun v w M1 S1 H1 p r1 a1 s1 => q.nx _ _ M1 S1 H1 p r1 ((ev.step s1).set a1 i) s1
/-- a, b = x, y, plain local names -/
theorem wS_par {y z : Str} {px py pt : Pos} {kt k2 pt2} (i j : Nat) (hc : X.calm = true) (hN : X.N.Nodup) (h : wE X Ψ a E S fun w S1 => wE X Ψ b E S1 fun u S2 => A.nx ((E.set i (some w)).set j (some u)) S2) (hi : X.N[i]? = some y := by rfl) (hj : X.N[j]? = some z := by rfl) (hij : i ≠ j := by decide)
    (hx : X.env.scope.names.lookup y = some .local := by rfl) (hy : X.env.scope.names.lookup z = some .local := by rfl) (hw : swappedStores [.Tuple [.Name y px, .Name z py] kt pt] (.Tuple [a, b] k2 pt2) X.env = pure (some [y, z]) := by rfl)
    (hs : swapsWithSole [.Tuple [.Name y px, .Name z py] kt pt] (.Tuple [a, b] k2 pt2) pos.line X.env = pure false := by rfl) (h1 : starEach [a, b] X.env = (false, eval a X.env) :: starEach [b] X.env := by rfl) (h2 : starEach [b] X.env = (false, eval b X.env) :: starEach [] X.env := by rfl) :
    wS X Ψ (.Assign [.Tuple [.Name y px, .Name z py] kt pt] (.Tuple [a, b] k2 pt2) pos) E S A :=
  wS.of (ps_par hc hN hi hj hij hx hy (pa_cons pe_sem (pa_cons pe_sem pa_nil h2) h1) hw hs) fun M σ H r ev x D q => h.run M σ H r ev x _ fun v w M1 S1 H1 p1 r1 a1 s1 => p1.run M1 σ H1 r1 (ev.step s1) (x.step s1) _ fun u w2 M2 S2 H2 p2 r2 a2 s2 =>
    ⟨v, u, rfl, q.nx _ _ M2 S2 H2 p2 r2 ((((ev.step s1).step s2).set (VW.step s2 _ _ a1) i).set a2 j) (s1.trans s2)⟩
/-- o.f = value -/
theorem wS_fld {f : Str} {pos' : Pos} (h : wE X Ψ e E S fun w S1 => wE X Ψ o E S1 fun x S2 => ∃ k C S3, x = .ref k ∧ fputW S2 k f w = some (C, S3) ∧ Cls X.K C ∧ NoAttr X.K C f ∧ A.nx E S3) (hs : swapsWith e (some (.Attribute o f pos')) pos.line X.env = pure false := by rfl) : wS X Ψ (.Assign [.Attribute o f pos'] e pos) E S A :=
  wS.of (ps_fld pe_sem pe_sem hs) fun M σ H r ev x D q => h.run M σ H r ev x _ fun v w M1 S1 H1 p1 r1 a1 s1 => p1.run M1 σ H1 r1 (ev.step s1) (x.step s1) _ fun vo x1 M2 S2 H2 ⟨k, C, S3, e1, hf, hc, hn, p⟩ r2 a2 s2 => by
    subst e1
    obtain ⟨ad, dx, fs, rfl, h1, hl, r3, s3⟩ := fput_vw r2 a2 (VW.step s2 _ _ a1) hf
    exact ⟨ad, C, dx, fs, rfl, h1, hc, hn, hl, q.nx σ E M2 S3 _ p r3 (((ev.step s1).step s2).step s3) ((s1.trans s2).trans s3)⟩
/-- d[y] = value -/
theorem wS_dput {pos' : Pos} (hu : X.A.units + 65 < cLine) (h : wE X Ψ e E S fun w S1 => wE X Ψ o E S1 fun x S2 => wE X Ψ a E S2 fun y S3 => ∃ k S4, x = .ref k ∧ dlenW S3 k ≤ 100000 ∧ dputW S3 k y w = some S4 ∧ A.nx E S4) (hs : swapsWith e (some (.Subscript o a pos')) pos.line X.env = pure false := by rfl) : wS X Ψ (.Assign [.Subscript o a pos'] e pos) E S A :=
  wS.of (ps_dput (by omega) pe_sem pe_sem pe_sem hs) fun M σ H r ev x D q => h.run M σ H r ev x _ fun v w M1 S1 H1 p1 r1 a1 s1 => p1.run M1 σ H1 r1 (ev.step s1) (x.step s1) _ fun vo x1 M2 S2 H2 p2 r2 a2 s2 => p2.run M2 σ H2 r2 ((ev.step s1).step s2) ((x.step s1).step s2) _ fun vy y M3 S3 H3 ⟨k, S4, e1, hl, hd, p⟩ r3 a3 s3 => by
    subst e1
    obtain ⟨ad, H', rfl, g, r', s'⟩ := dput_vw r3 (VW.step s3 _ _ a2) a3 (VW.step s3 _ _ (VW.step s2 _ _ a1)) hl hd
    exact ⟨ad, H', rfl, g, q.nx σ E M3 S4 _ p r' ((((ev.step s1).step s2).step s3).step s') (((s1.trans s2).trans s3).trans s')⟩

/-! ### loops -/
/-- a turn's end: told less; as it is, or objects from some number on forgotten -/
def dropTo (n : Nat) (I : AEnv → Sto → Prop) : AEnv → Sto → Prop := fun E' S' => ∃ S1, Imp S' S1 ∧ (I E' S1 ∨
  ∃ E2 S2 T, S1 = S2 ++ T ∧ n ≤ S2.length ∧ Srl S2 ∧ E2.length = E'.length ∧ (∀ (i : Nat) w, E2[i]? = some (some w) → E'[i]? = some (some w) ∧ w.rlt S2.length = true) ∧ I E2 S2)
theorem dropTo.as {n : Nat} {I : AEnv → Sto → Prop} {E : AEnv} {S : Sto} (h : I E S) : dropTo n I E S := ⟨S, Imp.refl S, .inl h⟩
theorem dropTo.less {n : Nat} {I : AEnv → Sto → Prop} {E : AEnv} {S S1 : Sto} (i : Imp S S1) (h : dropTo n I E S1) : dropTo n I E S := by
  obtain ⟨S2, j, h⟩ := h
  exact ⟨S2, i.trans j, h⟩
/-- the slots whose values speak of dropped ones are forgotten -/
def dropE (n : Nat) (E : AEnv) : AEnv := E.map fun o => match o with
  | some w => if w.rlt n = true then some w else none
  | none => none
theorem dropE_at {n : Nat} {E : AEnv} {i : Nat} {w : W} (e : (dropE n E)[i]? = some (some w)) : E[i]? = some (some w) ∧ w.rlt n = true := by
  unfold dropE at e
  rw [List.getElem?_map] at e
  cases q : E[i]? with
  | none => rw [q] at e; cases e
  | some o =>
    rw [q] at e
    cases o with
    | none => cases e
    | some u =>
      have e : (if u.rlt n = true then some u else none) = some w := Option.some.inj e
      by_cases hu : u.rlt n = true
      · rw [if_pos hu] at e
        cases e
        exact ⟨rfl, hu⟩
      · rw [if_neg hu] at e
        cases e
theorem dropTo.drop {n : Nat} {I : AEnv → Sto → Prop} {E : AEnv} {S2 T : Sto} (hn : n ≤ S2.length) (hr : Srl S2) (h : I (dropE S2.length E) S2) : dropTo n I E (S2 ++ T) :=
  ⟨_, Imp.refl _, .inr ⟨dropE S2.length E, S2, T, rfl, hn, hr, by simp [dropE], fun i w e => dropE_at e, h⟩⟩
theorem drop_ok {M0 M : Lay} {H0 H : Hp} {S0 : Sto} {I : AEnv → Sto → Prop} {σ : L2.St} {E' : AEnv} {S' : Sto} (r0 : Rep M0 H0 S0) (h : dropTo S0.length I E' S') (r : Rep M H S') (ev : EvOk M H σ E') (s : Step M0 H0 M H) : ∃ M2 E2 S2, I E2 S2 ∧ Rep M2 H S2 ∧ EvOk M2 H σ E2 ∧ Step M0 H0 M2 H := by
  obtain ⟨S1, i, h⟩ := h
  have r := i _ _ r
  rcases h with h | ⟨E2, S2, T, e, hn, hr, hl, hE, p⟩
  · exact ⟨M, E', S1, h, r, ev, s⟩
  · subst e
    refine ⟨M.cut S2.length, E2, S2, p, r.cut hr, ⟨by rw [ev.1, hl], fun i w h => ?_⟩, step_cut s (by rw [r0.len]; exact hn)⟩
    obtain ⟨h1, h2⟩ := hE i w h
    obtain ⟨v, h3, h4⟩ := ev.2 i w h1
    exact ⟨v, h3, vw_cut _ h4 h2⟩
theorem wS_for (hp : PassesOwn (model X.prog X.w) X.A X.env X.xe) (hc : X.calm = true)
    (h : wI X Ψ tg iter E S fun ws still S1 => ∃ I : Nat → AEnv → Sto → Prop, I 0 E S1 ∧ (∀ i E' S', I i E' S' → still S') ∧
      (∀ i w E' S', ws[i]? = some w → I i E' S' → wG X Ψ tg w E' S' fun E2 S2 => wB X Ψ body E2 S2 ⟨dropTo S1.length (I (i + 1)), A.rt, A.nx, dropTo S1.length (I (i + 1))⟩) ∧ ∀ E' S', I ws.length E' S' → A.nx E' S')
    (hs : ∀ x, foldedSetIterable iter X.env x = pure x := by intro _; rfl) : wS X Ψ (.For tg iter body [] pos) E S A :=
  wS.of (ps_for hp hc pi_sem pg_sem pss_sem hs) fun M σ H r ev x D q => h.run M σ H r ev x _ fun J vs ys ws still M1 S1 H1 ⟨I, h0, hst, hturn, hd⟩ hs1 r1 s1 ay it => by
    refine ⟨fun i m σ' H' => m = ws.length - i ∧ i ≤ ws.length ∧ ∃ M' E' S', I i E' S' ∧ Rep M' H' S' ∧ EvOk M' H' σ' E' ∧ Step M1 H1 M' H', ⟨_, rfl, Nat.zero_le _, M1, E, S1, h0, r1, ev.step s1, Step.refl _ _⟩, ?_⟩
    rintro i m σ' H' ⟨rfl, hi, M', E', S', hI, r', ev', s'⟩
    by_cases hlt : i < ws.length
    · refine .inr ⟨it.go M' H' S' i (VWs.step s' _ _ ay) r' (hst _ _ _ hI) hlt, fun σ2 H2 => ∃ M2 E2 S2, I (i + 1) E2 S2 ∧ Rep M2 H2 S2 ∧ EvOk M2 H2 σ2 E2 ∧ Step M1 H1 M2 H2, fun σ2 H2 hh => ⟨ws.length - (i + 1), by omega, rfl, hlt, hh⟩, fun v H2 hy => ?_⟩
      obtain ⟨w, hw, aw, r2, s2⟩ := it.yld M' H' S' i v H2 (VWs.step s' _ _ ay) r' (hst _ _ _ hI) hy hlt
      have s12 := s'.trans s2
      have sx := s1.trans s12
      refine (hturn i w E' S' hw hI).run M' σ' H2 v r2 (ev'.step s2) (x.step sx) aw _ fun σ3 E3 M3 S3 H3 p r3 ev3 s3 => ?_
      refine p.run M3 σ3 H3 r3 ev3 ((x.step sx).step s3) _ ⟨fun σ4 E4 M4 S4 H4 p4 r4 ev4 s4 => ?_, q.rt.step (sx.trans s3), fun σ4 E4 M4 S4 H4 p4 r4 ev4 s4 => q.nx σ4 E4 M4 S4 H4 p4 r4 ev4 ((sx.trans s3).trans s4), fun σ4 E4 M4 S4 H4 p4 r4 ev4 s4 => ?_⟩
      · exact drop_ok r1 p4 r4 ev4 ((s12.trans s3).trans s4)
      · exact drop_ok r1 p4 r4 ev4 ((s12.trans s3).trans s4)
    · have e : i = ws.length := by omega
      subst e
      exact .inl ⟨it.stop M' H' S' _ (VWs.step s' _ _ ay) r' (hst _ _ _ hI) (Nat.le_refl _), q.nx σ' E' M' S' H' (hd _ _ hI) r' ev' (s1.trans s')⟩
theorem wS_while (hp : PassesOwn (model X.prog X.w) X.A X.env X.xe)
    (h : ∃ I : Nat → AEnv → Sto → Prop, (∃ m, I m E S) ∧ ∀ m E' S', I m E' S' → wT X Ψ c E' S' fun k S2 => if k = true then wB X Ψ body E' S2 ⟨dropTo S.length fun E3 S3 => ∃ m', m' < m ∧ I m' E3 S3, A.rt, A.nx, dropTo S.length fun E3 S3 => ∃ m', m' < m ∧ I m' E3 S3⟩ else A.nx E' S2) :
    wS X Ψ (.While c body [] pos) E S A :=
  wS.of (ps_while hp pt_sem pss_sem) fun M σ H r ev x D q => by
    obtain ⟨I, ⟨m0, h0⟩, hturn⟩ := h
    refine ⟨fun m σ' H' => ∃ M' E' S', I m E' S' ∧ Rep M' H' S' ∧ EvOk M' H' σ' E' ∧ Step M H M' H', ⟨m0, M, E, S, h0, r, ev, Step.refl _ _⟩, ?_⟩
    rintro m σ' H' ⟨M', E', S', hI, r', ev', s'⟩
    refine (hturn m E' S' hI).run M' σ' H' r' ev' (x.step s') _ fun k M2 S2 H2 p r2 s2 => ?_
    have sx := s'.trans s2
    cases k with
    | true =>
      refine iteT ⟨fun σ3 H3 => ∃ m', m' < m ∧ ∃ M3 E3 S3, I m' E3 S3 ∧ Rep M3 H3 S3 ∧ EvOk M3 H3 σ3 E3 ∧ Step M H M3 H3, fun σ3 H3 ⟨m', hm, hh⟩ => ⟨m', hm, hh⟩, ?_⟩
      refine (show wB X Ψ body E' S2 _ from p).run M2 σ' H2 r2 (ev'.step s2) (x.step sx) _ ⟨fun σ4 E4 M4 S4 H4 p4 r4 ev4 s4 => ?_, q.rt.step sx, fun σ4 E4 M4 S4 H4 p4 r4 ev4 s4 => q.nx σ4 E4 M4 S4 H4 p4 r4 ev4 (sx.trans s4), fun σ4 E4 M4 S4 H4 p4 r4 ev4 s4 => ?_⟩
      · obtain ⟨M5, E5, S5, ⟨m', hm, p5⟩, r5, ev5, s5⟩ := drop_ok (I := fun E3 S3 => ∃ m', m' < m ∧ I m' E3 S3) r p4 r4 ev4 (sx.trans s4)
        exact ⟨m', hm, M5, E5, S5, p5, r5, ev5, s5⟩
      · obtain ⟨M5, E5, S5, ⟨m', hm, p5⟩, r5, ev5, s5⟩ := drop_ok (I := fun E3 S3 => ∃ m', m' < m ∧ I m' E3 S3) r p4 r4 ev4 (sx.trans s4)
        exact ⟨m', hm, M5, E5, S5, p5, r5, ev5, s5⟩
    | false => exact iteF (q.nx σ' E' M2 S2 H2 p r2 (ev'.step s2) sx)
end

-- AM8

section
variable {X : Cx} {Ψ : AX} {a b c e elt iter : Expr} {es rest : List Expr} {E : AEnv} {S : Sto} {Φ : W → Sto → Prop} {ΦE : AEnv → Sto → Prop} {ΦT : Bool → Sto → Prop} {ΦS : List W → Sto → Prop} {pos : Pos} {k n : Nat} {asp : ASp} {A : AE}
/-! ### list comprehensions, one name walked -/
abbrev Cx.bk (X : Cx) (scope : Scope) (s : Shared) (H : Hp) (C : Addr) (cl : List (Str × Addr)) (fp : List Addr) : Cx := X.blk s H scope (compEnvC scope cl C X.env) fp
def semBk (X : Cx) (scope : Scope) (e : Expr) : TE := fun σ H Q => ∀ s H0 C cl fp, sem (Cx.bk X scope s H0 C cl fp) e σ H Q
def semTBk (X : Cx) (scope : Scope) (e : Expr) : TT := fun σ H Q => ∀ s H0 C cl fp, semT (Cx.bk X scope s H0 C cl fp) e σ H Q
theorem pe_bk {scope : Scope} (s : Shared) (H : Hp) (C : Addr) (cl : List (Str × Addr)) (fp : List Addr) : PE (X.blk s H scope (compEnvC scope cl C X.env) fp) e (semBk X scope e) := ⟨fun pins s1 _ _ _ I h => h s H C cl fp pins s1 I⟩
theorem pt_bk {scope : Scope} (s : Shared) (H : Hp) (C : Addr) (cl : List (Str × Addr)) (fp : List Addr) : PT (X.blk s H scope (compEnvC scope cl C X.env) fp) e (semTBk X scope e) := ⟨fun pins s1 _ _ _ I h => h s H C cl fp pins s1 I⟩
theorem evok_wipe {M : Lay} {H : Hp} {σ : L2.St} (ev : EvOk M H σ E) (j : Nat) : EvOk M H (σ.set j none) (E.set j none) :=
  ⟨by simp [ev.1], fun i w h => by
    by_cases q : i = j
    · subst q
      by_cases hl : i < E.length
      · rw [List.getElem?_set_self hl] at h; cases h
      · rw [List.getElem?_eq_none (by simpa using hl)] at h; cases h
    · rw [List.getElem?_set_ne (fun z => q z.symm)] at h
      obtain ⟨v, h1, h2⟩ := ev.2 i w h
      exact ⟨v, by rw [List.getElem?_set_ne (fun z => q z.symm)]; exact h1, h2⟩⟩
/-- one turn's test -/
inductive IfK
  | no | one (c : Expr)
def IfK.exs : IfK → List Expr
  | .no => []
  | .one c => [c]
def IfK.tt (X : Cx) (scope : Scope) : IfK → TT
  | .no => tYes
  | .one c => semTBk X scope c
theorem pts_bk {scope : Scope} (f : IfK) (s : Shared) (H : Hp) (C : Addr) (cl : List (Str × Addr)) (fp : List Addr) : PTs (X.blk s H scope (compEnvC scope cl C X.env) fp) f.exs (f.tt X scope) := by
  cases f with
  | no => exact pts_nil
  | one c => exact pts_one (pt_bk s H C cl fp)
/-- what a turn asks -/
def Turn1 (X : Cx) (scope : Scope) (f : IfK) (elt : Expr) (E2 : AEnv) (S' : Sto) (yes : W → Sto → Prop) (no : Sto → Prop) : Prop := match f with
  | .no => ∀ s H0 C cl fp, wE (Cx.bk X scope s H0 C cl fp) nox elt E2 S' yes
  | .one c => ∀ s H0 C cl fp, wT (Cx.bk X scope s H0 C cl fp) nox c E2 S' fun k S3 => if k = true then ∀ s H0 C cl fp, wE (Cx.bk X scope s H0 C cl fp) nox elt E2 S3 yes else no S3
structure LcInv (M1 : Lay) (H1 : Hp) (D : Addr) (σ : L2.St) (E : AEnv) (vs : List V) (ys : List W) (I : Nat → List W → Sto → Prop) (i : Nat) (H' : Hp) : Prop where
  ex : ∃ m2 S' accV acc, Step M1 H1 ⟨m2, M1.h⟩ H' ∧ Rep ⟨m2, D :: M1.h⟩ H' S' ∧ H' D = some (.lst accV) ∧ VWs ⟨m2, D :: M1.h⟩ H' accV acc ∧ I i acc S' ∧ VWs ⟨m2, D :: M1.h⟩ H' vs ys ∧ EvOk ⟨m2, D :: M1.h⟩ H' σ E
theorem vws_over {M : Lay} {H : Hp} {S : Sto} (r : Rep M H S) {p : Addr} {u ho : HO} (hp : p ∈ M.h) (hu : H p = some u) (nt : (∀ ps, u ≠ .tbl ps) ∧ ∀ f, u ≠ .ext f) : ∀ {ws : List W} {vs : List V}, VWs M H vs ws → VWs M (upd H p ho) vs ws := by
  intro ws
  induction ws with
  | nil => intro vs h; cases h; exact .nil
  | cons w ws ih =>
    intro vs h
    cases h with
    | cons a b => exact .cons ((step_over r hp hu nt).1 _ _ a) (ih b)
theorem evok_over {M : Lay} {H : Hp} {S : Sto} (r : Rep M H S) {p : Addr} {u ho : HO} (hp : p ∈ M.h) (hu : H p = some u) (nt : (∀ ps, u ≠ .tbl ps) ∧ ∀ f, u ≠ .ext f) {σ : L2.St} {E : AEnv} (ev : EvOk M H σ E) : EvOk M (upd H p ho) σ E :=
  ⟨ev.1, fun i w h => by
    obtain ⟨v, h1, h2⟩ := ev.2 i w h
    exact ⟨v, h1, (step_over r hp hu nt).1 _ _ h2⟩⟩
theorem exc_nox {X : Cx} {M : Lay} {H : Hp} : ExcOk X M H nox := ExcOk.none
theorem lc_abs {x : Str} {px : Pos} {scope : Scope} {j : Nat} {f : IfK} {M : Lay} {σ : L2.St} {H : Hp} (r : Rep M H S) (ev : EvOk M H σ E) (xo : ExcOk X M H Ψ) {Q : VK}
    (h : wI X Ψ (.Name x px) iter E S fun ws still S1 => ∃ I : Nat → List W → Sto → Prop, I 0 [] S1 ∧ (∀ i acc S', I i acc S' → still S' ∧ acc.length ≤ 100000) ∧
      (∀ i w acc S', ws[i]? = some w → I i acc S' → Turn1 X scope f elt ((E.set j none).set j (some w)) S' (fun y S4 => I (i + 1) (acc ++ [y]) S4) fun S3 => I (i + 1) acc S3) ∧ ∀ acc S', I ws.length acc S' → ΦS acc S')
    (q : ∀ D M1 H1 m2 S' accV acc H', H1 D = none → D ∉ M1.h → Step M H M1 H1 → Step M1 H1 ⟨m2, M1.h⟩ H' → Rep ⟨m2, D :: M1.h⟩ H' S' → H' D = some (.lst accV) → VWs ⟨m2, D :: M1.h⟩ H' accV acc → ΦS acc S' → Q (.ref D) H') :
    tLc (semI X (.Name x px) iter) (gName j) (f.tt X scope) (semBk X scope elt) [j] σ H Q := by
  refine h.run M σ H r ev xo _ fun J vs ys ws still M1 S1 H1 ⟨I, h0, hst, hturn, hd⟩ hs1 r1 s1 ay it => ?_
  intro D hD
  have wp : ∀ (s : L2.St) (v : V), wipe ((wipe s [j]).set j (some v)) [j] = wipe s [j] := fun s v => by simp [wipe, List.set_set]
  have r1h : Rep (M1.hid D) (upd H1 D (.lst [])) S1 := r1.hide hD
  have ev1 := evok_wipe (ev.step s1) j
  have evh : EvOk (M1.hid D) (upd H1 D (.lst [])) (σ.set j none) (E.set j none) := ⟨ev1.1, fun i w h => by
    obtain ⟨v, h1, h2⟩ := ev1.2 i w h
    exact ⟨v, h1, hid_vw r1 hD h2⟩⟩
  refine ⟨fun i m H' => m = ws.length - i ∧ i ≤ ws.length ∧ LcInv M1 H1 D (σ.set j none) (E.set j none) vs ys I i H', ⟨_, rfl, Nat.zero_le _, ⟨M1.m, S1, [], [], step_free (Step.refl _ _) hD, r1h, upd_same, .nil, h0, hid_vws r1 hD ay, evh⟩⟩, ?_⟩
  rintro i m H' ⟨rfl, hi, ⟨m2, S', accV, acc, s', r', hDl, aacc, hI, ay', ev'⟩⟩
  obtain ⟨hst1, hacc⟩ := hst i acc S' hI
  by_cases hlt : i < ws.length
  · refine .inr ⟨it.go _ H' S' i ay' r' hst1 hlt, fun H2 => LcInv M1 H1 D (σ.set j none) (E.set j none) vs ys I (i + 1) H2, fun H2 hh => ⟨ws.length - (i + 1), by omega, rfl, hlt, hh⟩, fun v H2 hy => ?_⟩
    obtain ⟨w, hw, aw, r2, s2⟩ := it.yld _ H' S' i v H2 ay' r' hst1 hy hlt
    have ev2 : EvOk ⟨m2, D :: M1.h⟩ H2 ((wipe σ [j]).set j (some v)) ((E.set j none).set j (some w)) := (ev'.step s2).set aw j
    have t := hturn i w acc S' hw hI
    have hD2 : H2 D = some (.lst accV) := s2.keep D _ hDl (fun ps z => nomatch z) (r'.hid D List.mem_cons_self).2
    have fin : ∀ (M3 : Lay) (S3 : Sto) (H3 : Hp), I (i + 1) acc S3 → Rep M3 H3 S3 → Step ⟨m2, D :: M1.h⟩ H2 M3 H3 → LcInv M1 H1 D (σ.set j none) (E.set j none) vs ys I (i + 1) H3 := by
      intro M3 S3 H3 p r3 s3
      have e : M3 = ⟨M3.m, D :: M1.h⟩ := by
        have z := s3.hold
        cases M3
        simp only at z
        rw [z]
      have s23 := s2.trans s3
      rw [e] at r3 s23
      exact ⟨M3.m, S3, accV, acc, step_behind s' hD (by rw [e]; exact s23), r3, s3.keep D _ hD2 (fun ps z => nomatch z) (r2.hid D List.mem_cons_self).2, VWs.step s23 _ _ aacc, p, VWs.step s23 _ _ ay', ev'.step s23⟩
    have finY : ∀ (M3 : Lay) (S3 : Sto) (H3 : Hp) y yw, I (i + 1) (acc ++ [yw]) S3 → Rep M3 H3 S3 → VW M3 H3 y yw → Step ⟨m2, D :: M1.h⟩ H2 M3 H3 → ∃ acc, H3 D = some (.lst acc) ∧ acc.length < sizeLine ∧ LcInv M1 H1 D (σ.set j none) (E.set j none) vs ys I (i + 1) (upd H3 D (.lst (acc ++ [y]))) := by
      intro M3 S3 H3 y yw p r3 ayw s3
      have e : M3 = ⟨M3.m, D :: M1.h⟩ := by
        have z := s3.hold
        cases M3
        simp only at z
        rw [z]
      have s23 := s2.trans s3
      have sb := step_behind s' hD s23
      rw [e] at r3 s23 ayw
      have hD3 : H3 D = some (.lst accV) := s3.keep D _ hD2 (fun ps z => nomatch z) (r2.hid D List.mem_cons_self).2
      have mD : D ∈ (⟨M3.m, D :: M1.h⟩ : Lay).h := List.mem_cons_self
      have nt : (∀ ps, HO.lst accV ≠ .tbl ps) ∧ ∀ f, HO.lst accV ≠ .ext f := ⟨fun ps z => (nomatch z), fun f z => (nomatch z)⟩
      refine ⟨accV, hD3, Nat.lt_of_le_of_lt (by rw [aacc.length]; exact hacc) (by decide), ⟨M3.m, S3, _, acc ++ [yw], step_free sb hD, (step_over r3 mD hD3 nt).2, upd_same, ?_, p, vws_over r3 mD hD3 nt (VWs.step s23 _ _ ay'), evok_over r3 mD hD3 nt (ev'.step s23)⟩⟩
      exact (vws_over r3 mD hD3 nt (VWs.step s23 _ _ aacc)).append (.cons ((step_over r3 mD hD3 nt).1 _ _ ayw) .nil)
    show wipe ((wipe σ [j]).set j (some v)) [j] = wipe σ [j] ∧ _
    refine ⟨wp σ v, ?_⟩
    cases f with
    | no =>
      refine fun s H0 C cl fp => ?_
      exact ((show ∀ s H0 C cl fp, wE (Cx.bk X scope s H0 C cl fp) nox elt _ S' _ from t) s H0 C cl fp).run _ _ H2 r2 ev2 exc_nox _ fun y yw M3 S3 H3 p r3 ayw s3 => finY M3 S3 H3 y yw p r3 ayw s3
    | one c =>
      intro s H0 C cl fp
      refine ((show ∀ s H0 C cl fp, wT (Cx.bk X scope s H0 C cl fp) nox c _ S' _ from t) s H0 C cl fp).run _ _ H2 r2 ev2 exc_nox _ fun b M3 S3 H3 p r3 s3 => ?_
      cases b with
      | true =>
        refine iteT fun s H0 C cl fp => ?_
        exact ((show ∀ s H0 C cl fp, wE (Cx.bk X scope s H0 C cl fp) nox elt _ S3 _ from p) s H0 C cl fp).run _ _ H3 r3 (ev2.step s3) exc_nox _ fun y yw M4 S4 H4 p r4 ayw s4 => finY M4 S4 H4 y yw p r4 ayw (s3.trans s4)
      | false => exact iteF (fin M3 S3 H3 p r3 s3)
  · have e : i = ws.length := by omega
    subst e
    exact .inl ⟨it.stop _ H' S' _ ay' r' hst1 (Nat.le_refl _), q D M1 H1 m2 S' accV acc H' hD (r1.free hD).2 s1 s' r' hDl aacc (hd acc S' hI)⟩
/-- .. to a list that nobody changes -/
theorem got_lc {M : Lay} {H : Hp} {Q : VK} (q : Got M H Φ Q) : ∀ D M1 H1 m2 S' accV acc H', H1 D = none → D ∉ M1.h → Step M H M1 H1 → Step M1 H1 ⟨m2, M1.h⟩ H' → Rep ⟨m2, D :: M1.h⟩ H' S' → H' D = some (.lst accV) → VWs ⟨m2, D :: M1.h⟩ H' accV acc → Φ (.lst acc) S' → Q (.ref D) H' := by
  intro D M1 H1 m2 S' accV acc H' hD hDh s1 s' r' hDl a p
  have rs : Rep ⟨m2, M1.h⟩ H' S' := Rep.show (M := ⟨m2, M1.h⟩) (p := D) r'
  exact q _ _ ⟨m2, M1.h⟩ S' H' p rs (.lst ⟨hDl, (r'.hid D List.mem_cons_self).2, hDh⟩ (vws_show (M := ⟨m2, M1.h⟩) (p := D) a)) (s1.trans s')
theorem wE_lcF {x : Str} {px : Pos} {scope : Scope} (j : Nat) (f : IfK) (hc : X.calm = true) (hN : X.N.Nodup) (ok : BlkOk X.N X.env.scope scope [(x, j)])
    (h : wI X Ψ (.Name x px) iter E S fun ws still S1 => ∃ I : Nat → List W → Sto → Prop, I 0 [] S1 ∧ (∀ i acc S', I i acc S' → still S' ∧ acc.length ≤ 100000) ∧
      (∀ i w acc S', ws[i]? = some w → I i acc S' → Turn1 X scope f elt ((E.set j none).set j (some w)) S' (fun y S4 => I (i + 1) (acc ++ [y]) S4) fun S3 => I (i + 1) acc S3) ∧ ∀ acc S', I ws.length acc S' → Φ (.lst acc) S')
    (hx : ∀ (s : Shared) (H : Hp) (C : Addr) (cl : List (Str × Addr)) (fp : List Addr), Loc (Cx.bk X scope s H C cl fp).env.scope x ∧ ((Cx.bk X scope s H C cl fp).fn x = true ∨ (Cx.bk X scope s H C cl fp).env.scope.names.lookup x = some .local) := by intros; exact ⟨by first | exact Or.inl rfl | exact Or.inr rfl, by first | exact Or.inl rfl | exact Or.inr rfl⟩)
    (hs : ∀ x, foldedSetIterable iter X.env x = pure x := by intro _; rfl) : wE X Ψ (.ListComp elt [⟨.Name x px, iter, f.exs, 0⟩] scope pos) E S Φ :=
  wE.of (pe_lc (own := [(x, j)]) (g := gName j) hc hN pi_sem ok (fun s H C cl fp => pg_name hN (ok.ix (x, j) (by simp)) (hx s H C cl fp).1 (hx s H C cl fp).2) (pts_bk f) (fun s H C cl fp => pe_bk s H C cl fp) hs) fun M σ H r ev xo Q q => lc_abs (ΦS := fun acc S' => Φ (.lst acc) S') r ev xo h (got_lc q)
/-- name = [..] -/
theorem wS_setLcF {x y : Str} {px py : Pos} {scope : Scope} (i j : Nat) (f : IfK) (hc : X.calm = true) (hN : X.N.Nodup) (ok : BlkOk X.N X.env.scope scope [(x, j)])
    (h : wI X Ψ (.Name x px) iter E S fun ws still S1 => ∃ I : Nat → List W → Sto → Prop, I 0 [] S1 ∧ (∀ i acc S', I i acc S' → still S' ∧ acc.length ≤ 100000) ∧
      (∀ i w acc S', ws[i]? = some w → I i acc S' → Turn1 X scope f elt ((E.set j none).set j (some w)) S' (fun y S4 => I (i + 1) (acc ++ [y]) S4) fun S3 => I (i + 1) acc S3) ∧ ∀ acc S', I ws.length acc S' → A.nx (E.set i (some (.lst acc))) S')
    {epos spos : Pos} (hsw : swapsWith (.ListComp elt [⟨.Name x px, iter, f.exs, 0⟩] scope epos) (some (.Name y py)) spos.line X.env = pure true) (hy : X.N[i]? = some y := by rfl) (hyl : X.env.scope.names.lookup y = some .local := by rfl)
    (hx : ∀ (s : Shared) (H : Hp) (C : Addr) (cl : List (Str × Addr)) (fp : List Addr), Loc (Cx.bk X scope s H C cl fp).env.scope x ∧ ((Cx.bk X scope s H C cl fp).fn x = true ∨ (Cx.bk X scope s H C cl fp).env.scope.names.lookup x = some .local) := by intros; exact ⟨by first | exact Or.inl rfl | exact Or.inr rfl, by first | exact Or.inl rfl | exact Or.inr rfl⟩)
    (hs : ∀ x, foldedSetIterable iter X.env x = pure x := by intro _; rfl) : wS X Ψ (.Assign [.Name y py] (.ListComp elt [⟨.Name x px, iter, f.exs, 0⟩] scope epos) spos) E S A :=
  wS.of (ps_setLc (own := [(x, j)]) (g := gName j) hc hN hy hyl hsw pi_sem ok (fun s H C cl fp => pg_name hN (ok.ix (x, j) (by simp)) (hx s H C cl fp).1 (hx s H C cl fp).2) (pts_bk f) (fun s H C cl fp => pe_bk s H C cl fp) hs) fun M σ H r ev xo D q =>
    lc_abs (ΦS := fun acc S' => A.nx (E.set i (some (.lst acc))) S') r ev xo h (got_lc (Φ := fun w S' => A.nx (E.set i (some w)) S') (Q := fun v H1 => gName i v σ H1 D.nx) fun v w M2 S2 H2 p r2 a2 s2 => q.nx _ _ M2 S2 H2 p r2 ((ev.step s2).set a2 i) s2)
end

-- AM9

section
variable {X : Cx} {Ψ : AX} {a b c e o : Expr} {es rest : List Expr} {E : AEnv} {S : Sto} {Φ : W → Sto → Prop} {ΦE : AEnv → Sto → Prop} {ΦT : Bool → Sto → Prop} {ΦS : List W → Sto → Prop} {pos : Pos} {k n : Nat} {asp : ASp} {A : AE}
/-- a call of a built-in on abstract values -/
abbrev G1 := List W → Sto → (W → Sto → Prop) → Prop
def CallW (r : List V → Hp → VK → Prop) (g : G1) : Prop := ∀ M H S vs ws Φ, Rep M H S → VWs M H vs ws → g ws S Φ → ∀ Q, Got M H Φ Q → r vs H Q
theorem wE_callB {x : Str} {id : String} {p : Pos} {r : List V → Hp → VK → Prop} {g : G1} (hcr : CallR X (.builtin id) r) (cw : CallW r g) (hm : X.mg x = none) (hv : bootBuiltins x = some (.builtin id)) (h : wA X Ψ (e :: es) E S fun ws S1 => g ws S1 Φ) (hg : Gl X x := by rfl)
    (hn : x ≠ "__name__" := by decide) (hdb : (x == ("__debug__" : Str)) = false := by decide) (he : starEach (e :: es) X.env = (false, eval e X.env) :: starEach es X.env := by rfl) (hpl : (backTo pos (starEach es X.env)).any (·.1) = false := by rfl) : wE X Ψ (.Call (.Name x p) (e :: es) [] pos) E S Φ :=
  wE.of (pe_callB hcr hg hm hv pa_sem hn hdb he hpl) fun M σ H r ev xo Q q => h.run M σ H r ev xo _ fun vs ws M1 S1 H1 p1 r1 a1 s1 => cw M1 H1 S1 vs ws Φ r1 a1 p1 Q (q.step s1)
theorem wE_callTy {x : Str} {T : String} {p : Pos} {r : List V → Hp → VK → Prop} {g : G1} (hcr : CallR X (.type T) r) (cw : CallW r g) (hm : X.mg x = none) (hv : bootBuiltins x = some (.type T)) (h : wA X Ψ (e :: es) E S fun ws S1 => g ws S1 Φ) (hg : Gl X x := by rfl)
    (hn : x ≠ "__name__" := by decide) (hdb : (x == ("__debug__" : Str)) = false := by decide) (he : starEach (e :: es) X.env = (false, eval e X.env) :: starEach es X.env := by rfl) (hpl : (backTo pos (starEach es X.env)).any (·.1) = false := by rfl) : wE X Ψ (.Call (.Name x p) (e :: es) [] pos) E S Φ :=
  wE.of (pe_callTy hcr hg hm hv pa_sem hn hdb he hpl) fun M σ H r ev xo Q q => h.run M σ H r ev xo _ fun vs ws M1 S1 H1 p1 r1 a1 s1 => cw M1 H1 S1 vs ws Φ r1 a1 p1 Q (q.step s1)
theorem callw_one {r : List V → Hp → VK → Prop} {g : G1} (h : ∀ M H S v w Φ, Rep M H S → VW M H v w → g [w] S Φ → ∀ Q, Got M H Φ Q → r [v] H Q) (hl : ∀ ws S Φ, g ws S Φ → ∃ w, ws = [w]) : CallW r g := fun M H S vs ws Φ rr a p Q q => by
  obtain ⟨w, rfl⟩ := hl _ _ _ p
  cases a with
  | cons a1 a2 => cases a2; exact h M H S _ w Φ rr a1 p Q q
/-! len -/
def lenW (S : Sto) : W → Option Nat
  | .scr _ ns => some ns.length
  | w => (itemsW S w).map List.length
abbrev gLen : G1 := fun ws S Φ => ∃ w n, ws = [w] ∧ lenW S w = some n ∧ Φ (.int n) S
abbrev gLenK (K : PySem.W.Frag) : G1 := fun ws S Φ => ∃ w n, ws = [w] ∧ (∀ K' ns, w = .scr K' ns → K' = K) ∧ lenW S w = some n ∧ Φ (.int n) S
theorem callw_len : CallW (fun xs H Q => ∃ p ys, xs = [.ref p] ∧ (SqL X.K H p ys ∨ SqT X.K H p ys) ∧ Q (.int ys.length) H) (gLenK X.K) := callw_one (fun M H S v w Φ r a ⟨w', n, e, hK, hl, p⟩ Q q => by
  cases e
  cases w with
  | scr K' ns =>
    obtain rfl := hK K' ns rfl
    cases hl
    cases a with
    | scr s => exact ⟨_, _, rfl, .inl s.sq, by rw [List.length_map]; exact q _ _ M S H p r (.int _) (Step.refl _ _)⟩
  | _ =>
    unfold lenW at hl
    first
      | (cases hl; done)
      | (obtain ⟨ws', h1, h2⟩ := Option.map_eq_some_iff.mp hl
         obtain ⟨ad, xs, rfl, rv, kk⟩ := seq_of (K := X.K) r a h1
         refine ⟨ad, xs, rfl, ?_, by rw [rv.length, h2]; exact q _ _ M S H p r (.int _) (Step.refl _ _)⟩
         rcases kk with ⟨kk, _⟩ | ⟨kk, _⟩
         · exact .inl kk
         · exact .inr kk)) fun ws S Φ ⟨w, n, e, _⟩ => ⟨w, e⟩
theorem wE_len {p : Pos} (hm : X.mg "len" = none) (h : wE X Ψ e E S fun w S1 => ∃ n, (∀ K' ns, w = .scr K' ns → K' = X.K) ∧ lenW S1 w = some n ∧ Φ (.int n) S1) (hg : Gl X "len" := by rfl) (he : starEach [e] X.env = (false, eval e X.env) :: starEach [] X.env := by rfl) (hpl : (backTo pos (starEach [] X.env)).any (·.1) = false := by rfl) : wE X Ψ (.Call (.Name "len" p) [e] [] pos) E S Φ :=
  wE_callB call_len_seq callw_len hm PySem.boot_len (wA_cons (h.imp fun w S1 ⟨n, hK, h1, p⟩ => wA_nil ⟨w, n, rfl, hK, h1, p⟩) he) hg (by decide) (by decide) he hpl
/-! isinstance -/
inductive Ty | non | bl | int | str | tup | lst | dict
  deriving DecidableEq
def Ty.nm : Ty → String
  | .non => "NoneType" | .bl => "bool" | .int => "int" | .str => "str" | .tup => "tuple" | .lst => "list" | .dict => "dict"
def Ty.isa (t c : Ty) : Bool := decide (t = c) || (match t, c with | .bl, .int => true | _, _ => false)
def Ty.all : List Ty := [.non, .bl, .int, .str, .tup, .lst, .dict]
theorem kit_tab : ([Ty.bl, .int, .str, .tup, .lst].all fun c => Ty.all.all fun t => decide (kitB t.nm c.nm = some (t.isa c))) = true := by decide +kernel
theorem kit_isa (t c : Ty) (hc : c ≠ .non ∧ c ≠ .dict) : kitB t.nm c.nm = some (t.isa c) := by
  have h := kit_tab
  rw [List.all_eq_true] at h
  have h1 := h c (by cases c <;> simp at hc ⊢)
  rw [List.all_eq_true] at h1
  have h2 := h1 t (by cases t <;> simp [Ty.all])
  exact of_decide_eq_true h2
def tyW (S : Sto) : W → Option Ty
  | .non => some .non | .bl _ => some .bl | .int _ => some .int | .str _ => some .str | .tup _ => some .tup | .lst _ => some .lst
  | .ref k => match S[k]? with
    | some (.lst _) => some .lst
    | some (.dk _) => some .dict
    | some (.dt _) => some .dict
    | _ => none
  | _ => none
theorem ty_vw {M : Lay} {H : Hp} {w : W} {v : V} {t : Ty} (r : Rep M H S) (a : VW M H v w) (h : tyW S w = some t) : TyX X.K H v (.type t.nm) := by
  cases w with
  | non => cases h; cases a; exact .base .non
  | bl _ => cases h; cases a; exact .base (.bl _)
  | int _ => cases h; cases a; exact .base (.int _)
  | str _ => cases h; cases a; exact .base (.str _)
  | tup ws =>
    cases h
    cases a with
    | tup q _ => exact .base (.tup q.1)
  | lst ws =>
    cases h
    cases a with
    | lst q _ => exact .base (.lst q.1)
  | ref k =>
    cases a with
    | ref hm =>
      have e : tyW S (.ref k) = (match S[k]? with
        | some (.lst _) => some .lst
        | some (.dk _) => some .dict
        | some (.dt _) => some .dict
        | _ => none) := rfl
      rw [e] at h
      split at h
      · rename_i hk
        cases h
        obtain ⟨p, ho, h1, h2, b⟩ := r.at' hk
        rw [hm] at h1; cases h1
        cases b; exact .base (.lst h2)
      · rename_i hk
        cases h
        obtain ⟨p, ho, h1, h2, b⟩ := r.at' hk
        rw [hm] at h1; cases h1
        cases b; exact .base (.dK h2)
      · rename_i hk
        cases h
        obtain ⟨p, ho, h1, h2, b⟩ := r.at' hk
        rw [hm] at h1; cases h1
        cases b; exact .base (.dT h2)
      · cases h
  | raw v => cases h
  | scr _ ns => cases h
  | xi _ _ _ _ => cases h
  | thg _ _ => cases h
theorem wE_isi {x : Str} {p p1 : Pos} (c : Ty) (hm : X.mg "isinstance" = none) (hx : X.mg x = none) (hv : bootBuiltins x = some (.type c.nm)) (h : wE X Ψ e E S fun w S1 => ∃ t, tyW S1 w = some t ∧ Φ (.bl (t.isa c)) S1) (hc : c ≠ .non ∧ c ≠ .dict := by decide) (hg : Gl X "isinstance" := by rfl) (hgx : Gl X x := by rfl) (hn : x ≠ "__name__" := by decide) (hd : (x == ("__debug__" : Str)) = false := by decide)
    (he : starEach [e, .Name x p1] X.env = (false, eval e X.env) :: starEach [.Name x p1] X.env := by rfl) (he2 : starEach [.Name x p1] X.env = (false, eval (.Name x p1) X.env) :: starEach [] X.env := by rfl) (hpl : (backTo pos (starEach [.Name x p1] X.env)).any (·.1) = false := by rfl) : wE X Ψ (.Call (.Name "isinstance" p) [e, .Name x p1] [] pos) E S Φ :=
  wE_callB (g := fun ws S Φ => ∃ w t, ws = [w, .raw (.ty c.nm)] ∧ tyW S w = some t ∧ Φ (.bl (t.isa c)) S) call_isi (fun M H S vs ws Φ r a ⟨w, t, e, ht, p⟩ Q q => by
    subst e
    cases a with
    | cons a1 a2 => cases a2 with
      | cons a2 a3 =>
        cases a3; cases a2
        exact ⟨_, .ty c.nm, _, _, t.isa c, rfl, .ty _, ty_vw (X := X) r a1 ht, kit_ty (kit_isa t c hc), q _ _ M S H p r (.bl _) (Step.refl _ _)⟩) hm PyProof.Rows.boot_isinstance
    (wA_cons (h.imp fun w S1 ⟨t, h1, p⟩ => wA_cons (wE_bltn (v := .ty c.nm) hx hv rfl (wA_nil ⟨w, t, rfl, h1, p⟩) hgx hn hd) he2) he) hg (by decide) (by decide) he hpl
/-! int, str, tuple, list, sorted -/
theorem wE_intB {p : Pos} (hm : X.mg "int" = none) (h : wE X Ψ e E S fun w S1 => ∃ k, w = .bl k ∧ Φ (.int (if k then 1 else 0)) S1) (hg : Gl X "int" := by rfl) (he : starEach [e] X.env = (false, eval e X.env) :: starEach [] X.env := by rfl) (hpl : (backTo pos (starEach [] X.env)).any (·.1) = false := by rfl) : wE X Ψ (.Call (.Name "int" p) [e] [] pos) E S Φ :=
  wE_callTy (g := fun ws S Φ => ∃ k, ws = [.bl k] ∧ Φ (.int (if k then 1 else 0)) S) call_int1 (callw_one (fun M H S v w Φ r a ⟨k, e, p⟩ Q q => by
    cases e; cases a
    exact .inr ⟨k, rfl, q _ _ M S H p r (.int _) (Step.refl _ _)⟩) fun ws S Φ ⟨z, e, _⟩ => ⟨_, e⟩) hm PyProof.Rows.boot_int (wA_cons (h.imp fun w S1 ⟨k, h1, p⟩ => wA_nil ⟨k, by rw [h1], p⟩) he) hg (by decide) (by decide) he hpl
/-- tuple(list or tuple) -/
theorem wE_tuple {p : Pos} (hm : X.mg "tuple" = none) (h : wE X Ψ e E S fun w S1 => ∃ ws, itemsW S1 w = some ws ∧ Φ (.tup ws) S1) (hg : Gl X "tuple" := by rfl) (he : starEach [e] X.env = (false, eval e X.env) :: starEach [] X.env := by rfl) (hpl : (backTo pos (starEach [] X.env)).any (·.1) = false := by rfl) : wE X Ψ (.Call (.Name "tuple" p) [e] [] pos) E S Φ :=
  wE_callTy (g := fun us S Φ => ∃ w ws, us = [w] ∧ itemsW S w = some ws ∧ Φ (.tup ws) S) call_tuple_of (callw_one (fun M H S v w Φ r a ⟨w', ws, e, hi, p⟩ Q q => by
    cases e
    obtain ⟨ad, xs, rfl, rv, kk⟩ := seq_of (K := X.K) r a hi
    rcases kk with ⟨kk, _⟩ | ⟨kk, z, ez⟩
    · exact ⟨ad, xs, rfl, .inl ⟨kk, fun l hl => q _ _ M S _ p (r.tmp hl) (tq_new r hl rv) (step_tmp r hl)⟩⟩
    · subst ez
      cases hi
      exact ⟨ad, xs, rfl, .inr ⟨kk, q _ _ M S H p r a (Step.refl _ _)⟩⟩) fun ws S Φ ⟨w, z, e, _⟩ => ⟨_, e⟩) hm PyProof.Rows.boot_tuple (wA_cons (h.imp fun w S1 ⟨ws, h1, p⟩ => wA_nil ⟨w, ws, rfl, h1, p⟩) he) hg (by decide) (by decide) he hpl
/-- list(..): one that nobody changes; one's own -/
theorem wE_list {p : Pos} (hm : X.mg "list" = none) (h : wE X Ψ e E S fun w S1 => ∃ ws, itemsW S1 w = some ws ∧ Φ (.lst ws) S1) (hg : Gl X "list" := by rfl) (he : starEach [e] X.env = (false, eval e X.env) :: starEach [] X.env := by rfl) (hpl : (backTo pos (starEach [] X.env)).any (·.1) = false := by rfl) : wE X Ψ (.Call (.Name "list" p) [e] [] pos) E S Φ :=
  wE_callTy (g := fun us S Φ => ∃ w ws, us = [w] ∧ itemsW S w = some ws ∧ Φ (.lst ws) S) call_list_of (callw_one (fun M H S v w Φ r a ⟨w', ws, e, hi, p⟩ Q q => by
    cases e
    obtain ⟨ad, xs, rfl, rv, kk⟩ := seq_of (K := X.K) r a hi
    refine ⟨ad, xs, rfl, ?_, fun l hl => q _ _ M S _ p (r.tmp hl) (lq_new r hl rv) (step_tmp r hl)⟩
    rcases kk with ⟨kk, _⟩ | ⟨kk, _⟩
    · exact .inl kk
    · exact .inr kk) fun ws S Φ ⟨w, z, e, _⟩ => ⟨_, e⟩) hm PyProof.Rows.boot_list (wA_cons (h.imp fun w S1 ⟨ws, h1, p⟩ => wA_nil ⟨w, ws, rfl, h1, p⟩) he) hg (by decide) (by decide) he hpl
theorem wE_listN {p : Pos} (hm : X.mg "list" = none) (h : wE X Ψ e E S fun w S1 => ∃ ws, itemsW S1 w = some ws ∧ Φ (.ref S1.length) (S1 ++ [.lst ws])) (hg : Gl X "list" := by rfl) (he : starEach [e] X.env = (false, eval e X.env) :: starEach [] X.env := by rfl) (hpl : (backTo pos (starEach [] X.env)).any (·.1) = false := by rfl) : wE X Ψ (.Call (.Name "list" p) [e] [] pos) E S Φ :=
  wE_callTy (g := fun us S Φ => ∃ w ws, us = [w] ∧ itemsW S w = some ws ∧ Φ (.ref S.length) (S ++ [.lst ws])) call_list_of (callw_one (fun M H S v w Φ r a ⟨w', ws, e, hi, p⟩ Q q => by
    cases e
    obtain ⟨ad, xs, rfl, rv, kk⟩ := seq_of (K := X.K) r a hi
    refine ⟨ad, xs, rfl, ?_, fun l hl => q _ _ _ _ _ p (lst_new r hl rv).1 (lst_new r hl rv).2 (step_new r hl)⟩
    rcases kk with ⟨kk, _⟩ | ⟨kk, _⟩
    · exact .inl kk
    · exact .inr kk) fun ws S Φ ⟨w, z, e, _⟩ => ⟨_, e⟩) hm PyProof.Rows.boot_list (wA_cons (h.imp fun w S1 ⟨ws, h1, p⟩ => wA_nil ⟨w, ws, rfl, h1, p⟩) he) hg (by decide) (by decide) he hpl
/-! methods of built-in types -/
def MtW (r : V → List V → Hp → VK → Prop) (g : W → G1) : Prop := ∀ M H S v w vs ws Φ, Rep M H S → VW M H v w → VWs M H vs ws → g w ws S Φ → ∀ Q, Got M H Φ Q → r v vs H Q
def tyMW (S : Sto) (T : String) : W → Prop
  | .str _ => T = "str" | .int _ => T = "int"
  | .lst _ => T = "list"
  | .ref k => (T = "list" ∧ ∃ ws, S[k]? = some (.lst ws)) ∨ (T = "dict" ∧ ((∃ kvs, S[k]? = some (.dk kvs)) ∨ ∃ kvs, S[k]? = some (.dt kvs)))
  | _ => False
theorem tyM_vw {M : Lay} {H : Hp} {w : W} {v : V} {T : String} (r : Rep M H S) (a : VW M H v w) (h : tyMW S T w) : tyV X.K T v H := by
  cases w with
  | str _ => cases a; exact h
  | int _ => cases a; exact h
  | lst _ =>
    cases a with
    | lst q _ => exact .inl ⟨h, _, q.sq⟩
  | ref k =>
    cases a with
    | ref hm =>
      rcases h with ⟨rfl, ws, hk⟩ | ⟨rfl, ⟨kvs, hk⟩ | ⟨kvs, hk⟩⟩
      · obtain ⟨p, xs, h1, h2, h3⟩ := r.lst hk
        rw [hm] at h1; cases h1
        exact .inl ⟨rfl, _, SqL.of h2⟩
      · obtain ⟨p, ho, h1, h2, b⟩ := r.at' hk
        rw [hm] at h1; cases h1
        cases b
        exact .inr (.inr (.inl ⟨rfl, .inl ⟨_, h2⟩⟩))
      · obtain ⟨p, ho, h1, h2, b⟩ := r.at' hk
        rw [hm] at h1; cases h1
        cases b
        exact .inr (.inr (.inl ⟨rfl, .inr ⟨_, h2⟩⟩))
  | _ => exact h.elim
theorem wE_bm {T id : String} {name : Str} {apos cpos : Pos} {r : V → List V → Hp → VK → Prop} {g : W → G1} (pa : PlainAttrs T) (slot : Slot T name id) (hty : typeOf (.builtin id) = pure (.type "method_descriptor")) (hmt : MtR X id r) (mw : MtW r g)
    (h : wE X Ψ o E S fun w S1 => tyMW S1 T w ∧ wA X Ψ (e :: es) E S1 fun ws S2 => g w ws S2 Φ)
    (hbase : attributeBase o name X.env (eval o X.env) = eval o X.env := by rfl)
    (hfew : ((backTo cpos (starEach (e :: es) X.env)).all (fun x => !x.1) && (backToKw cpos (keywordEach [] X.env)).all (fun x => x.1.isSome)
      && decide ((e :: es).length + ([] : List Keyword).length + (if ([] : List Keyword).isEmpty then 0 else 1) < 30)) = true := by rfl)
    (hline : (apos.endLine == cpos.line) = true := by rfl) (hs : starEach (e :: es) X.env = (false, eval e X.env) :: starEach es X.env := by rfl) (hplain : (backTo cpos (starEach es X.env)).any (·.1) = false := by rfl) : wE X Ψ (.Call (.Attribute o name apos) (e :: es) [] cpos) E S Φ :=
  wE.of (pe_bm pa slot hty hmt pe_sem pa_sem hbase hfew hline hs hplain) fun M σ H r ev xo Q q => h.run M σ H r ev xo _ fun v w M1 S1 H1 p1 r1 a1 s1 => ⟨tyM_vw r1 a1 p1.1, p1.2.run M1 σ H1 r1 (ev.step s1) (xo.step s1) _ fun vs ws M2 S2 H2 p2 r2 a2 s2 => mw M2 H2 S2 v w vs ws Φ r2 (VW.step s2 _ _ a1) a2 p2 Q (q.step (s1.trans s2))⟩
theorem wE_append {apos cpos : Pos} (h : wE X Ψ o E S fun x S1 => (∃ k ws, x = .ref k ∧ S1[k]? = some (.lst ws)) ∧ wE X Ψ e E S1 fun w S2 => ∃ k ws, x = .ref k ∧ S2[k]? = some (.lst ws) ∧ ws.length ≤ 100000 ∧ Φ .non (S2.set k (.lst (ws ++ [w]))))
    (hbase : attributeBase o "append" X.env (eval o X.env) = eval o X.env := by rfl)
    (hfew : ((backTo cpos (starEach [e] X.env)).all (fun x => !x.1) && (backToKw cpos (keywordEach [] X.env)).all (fun x => x.1.isSome)
      && decide (([e] : List Expr).length + ([] : List Keyword).length + (if ([] : List Keyword).isEmpty then 0 else 1) < 30)) = true := by rfl)
    (hline : (apos.endLine == cpos.line) = true := by rfl) (hs : starEach [e] X.env = (false, eval e X.env) :: starEach [] X.env := by rfl) (hplain : (backTo cpos (starEach [] X.env)).any (·.1) = false := by rfl) : wE X Ψ (.Call (.Attribute o "append" apos) [e] [] cpos) E S Φ :=
  wE_bm (g := fun x us S Φ => ∃ w k ws, us = [w] ∧ x = .ref k ∧ S[k]? = some (.lst ws) ∧ ws.length ≤ 100000 ∧ Φ .non (S.set k (.lst (ws ++ [w])))) PySem.F.plainAttrs_list PySem.F.slot_list_append PySem.F.type_list_append mt_append
    (fun M H S v w vs ws Φ r a av ⟨u, k, us, e1, e2, hk, hl, p⟩ Q q => by
      subst e1; subst e2
      cases a with
      | ref hm =>
        obtain ⟨ad, xs, h1, h2, h3⟩ := r.lst hk
        rw [hm] at h1; cases h1
        cases av with
        | cons b1 b2 =>
          cases b2
          have rr := set_lst r hm (h3.append (.cons b1 .nil))
          exact ⟨_, xs, _, rfl, rfl, h2, Nat.lt_of_le_of_lt (by rw [h3.length]; exact hl) (by decide), q _ _ M _ _ p rr.1 .non rr.2⟩)
    (h.imp fun x S1 ⟨⟨k, ws, e1, hk⟩, h⟩ => ⟨by subst e1; exact .inl ⟨rfl, ws, hk⟩, wA_cons (h.imp fun w S2 ⟨k, ws, e1, hk, hl, p⟩ => wA_nil ⟨w, k, ws, rfl, e1, hk, hl, p⟩) hs⟩) hbase hfew hline hs hplain
end

-- AM10

section
variable {X : Cx} {Ψ : AX} {a b c e o : Expr} {es rest : List Expr} {E : AEnv} {S : Sto} {Φ : W → Sto → Prop} {ΦE : AEnv → Sto → Prop} {ΦT : Bool → Sto → Prop} {ΦS : List W → Sto → Prop} {pos : Pos} {k n : Nat} {asp : ASp} {A : AE} {st : List Stmt}
theorem wB.less {S1 : Sto} (i : Imp S S1) (h : wB X Ψ st E S1 A) : wB X Ψ st E S A := ⟨fun M σ H r ev x D q => h.run M σ H (i _ _ r) ev x D q⟩
theorem wE.less {S1 : Sto} (i : Imp S S1) (h : wE X Ψ e E S1 Φ) : wE X Ψ e E S Φ := ⟨fun M σ H r ev x D q => h.run M σ H (i _ _ r) ev x D q⟩

/-! ### the row of draws -/
def rowL (K : PySem.W.Frag) (ns : List Int) (i z : Int) : O := .lst [.scr K ns, .int i, .int z]
def rowG (ns : List Int) (i z : Int) : Prop := ns.length ≤ 63 ∧ 0 ≤ i ∧ 0 ≤ z ∧ z < 2147483647
theorem Rep.same {M : Lay} {H : Hp} (r : Rep M H S) {k : Nat} {o : O} (h : ∀ p ho, M.m[k]? = some p → H p = some ho → ∀ o', S[k]? = some o' → Ob M H ho o' → Ob M H ho o) (nt9 : ∀ P q, o ≠ O.tab P q := by intro _ _ z; cases z) : Rep M H (S.set k o) :=
  ⟨r.nd, by simp [r.len], fun j q u h1 h2 => by
    by_cases e : j = k
    · subst e
      have hk : j < S.length := by
        have z := (List.getElem?_eq_some_iff.mp h2).1
        simpa using z
      rw [List.getElem?_set_self hk] at h2; cases h2
      obtain ⟨ho, e1, b⟩ := r.at_ j q S[j] h1 (List.getElem?_eq_getElem hk)
      exact ⟨ho, e1, h q ho h1 e1 _ (List.getElem?_eq_getElem hk) b⟩
    · rw [List.getElem?_set_ne (fun z => e z.symm)] at h2
      exact r.at_ j q u h1 h2, r.hid, fun j P q e => by
    by_cases z : k = j
    · subst z
      have hk : k < S.length := by
        have z := (List.getElem?_eq_some_iff.mp e).1
        simpa using z
      rw [List.getElem?_set_self hk] at e
      exact absurd (Option.some.inj e) (nt9 P q)
    · rw [List.getElem?_set_ne z] at e
      exact r.tb j P q e⟩
theorem imp_fold {K : PySem.W.Frag} {r : Nat} {ns : List Int} {i z : Int} (h : S[r]? = some (rowL K ns i z)) (g : rowG ns i z) : Imp S (S.set r (.row K)) := fun M H rr => rr.same fun p ho h1 h2 o' h3 b => by
  rw [h] at h3; cases h3
  cases b with
  | lst a =>
    cases a with
    | cons a1 a2 => cases a2 with
      | cons a2 a3 => cases a3 with
        | cons a3 a4 =>
          cases a4; cases a2; cases a3
          exact .row ⟨_, ns, i, z, rfl, a1, g.1, g.2.1, g.2.2⟩
theorem wB_row {K : PySem.W.Frag} {r : Nat} (h : S[r]? = some (.row K)) (q : ∀ ns i z, rowG ns i z → wB X Ψ st E (S.set r (rowL K ns i z)) A) : wB X Ψ st E S A :=
  ⟨fun M σ H rr ev x D d => by
    obtain ⟨p, ho, h1, h2, b⟩ := rr.at' h
    cases b with
    | row a =>
      obtain ⟨v, ns, i, z, e, a, g1, g2, g3⟩ := a
      refine (q ns i z ⟨g1, g2, g3⟩).run M σ H (rr.same fun p' ho' h1' h2' o' h3 b => ?_) ev x D d
      rw [h1] at h1'; cases h1'
      rw [h2] at h2'; cases h2'
      subst e
      exact .lst (.cons a (.cons (.int _) (.cons (.int _) .nil)))⟩
/-- the script's item -/
theorem wE_ixScr (h : wE X Ψ a E S fun x S1 => wE X Ψ b E S1 fun y S2 => ∃ ns i m, x = .scr X.K ns ∧ y = .int i ∧ atI ns i = some m ∧ Φ (.int m) S2) (hs : PlainIx b := by exact fun _ _ => rfl) : wE X Ψ (.Subscript a b pos) E S Φ :=
  wE.of (pe_ix ix_list pe_sem pe_sem hs) fun M σ H r ev x Q q => two (r := rIxL X.K) (g := fun x y S Φ => ∃ ns i m, x = .scr X.K ns ∧ y = .int i ∧ atI ns i = some m ∧ Φ (.int m) S)
    (opw_pure (X := X) fun M H S v u x y Φ r a1 a2 ⟨ns, i, m, h1, h2, h3, p⟩ Q q => by
      subst h1; subst h2
      cases a2
      cases a1 with
      | scr s =>
        refine ⟨_, _, i, .int m, rfl, rfl, s.sq, ?_, q _ _ p (.int _)⟩
        unfold atI at h3 ⊢
        rw [List.length_map]
        cases e : ixN ns.length i with
        | none => rw [e] at h3; cases h3
        | some j =>
          rw [e] at h3
          show (ns.map V.int)[j]? = _
          rw [List.getElem?_map, show ns[j]? = some m from h3]
          rfl) h r ev x q
/-! ### and, or, if whose parts change nothing: one way behind them -/
end

-- AM11
section
variable {X : Cx} {Ψ : AX} {a b c e o : Expr} {es rest : List Expr} {E : AEnv} {S : Sto} {Φ : W → Sto → Prop} {ΦE : AEnv → Sto → Prop} {ΦT : Bool → Sto → Prop} {ΦS : List W → Sto → Prop} {pos : Pos} {k n : Nat} {asp : ASp} {A : AE} {st : List Stmt}
/-! ### names by search -/
inductive Idx (x : Str) : List Str → Nat → Prop
  | here {N : List Str} : Idx x (x :: N) 0
  | there {y : Str} {N : List Str} {i : Nat} (h : Idx x N i) : Idx x (y :: N) (i + 1)
theorem Idx.get {x : Str} {N : List Str} {i : Nat} (h : Idx x N i) : N[i]? = some x := by
  induction h with
  | here => rfl
  | there h ih => simpa using ih
theorem xE_name {x : Str} {w : W} {i : Nat} (hN : Idx x X.N i) (he : E[i]? = some (some w)) (h : Φ w S) (hv : Vis X.env.scope x := by first | exact Or.inl rfl | exact Or.inr (Or.inl rfl) | exact Or.inr (Or.inr rfl))
    (hd : (x == ("__debug__" : Str)) = false := by decide +kernel) (hcd : (x == ("__classdict__" : Str)) = false := by decide +kernel) : wE X Ψ (.Name x pos) E S Φ :=
  wE_name i he h hN.get hv hd hcd
theorem xS_set {y : Str} {pos' : Pos} {spos : Pos} {i : Nat} (hi : Idx y X.N i) (hN : X.N.Nodup) (h : wE X Ψ e E S fun w S1 => A.nx (E.set i (some w)) S1) (hx : Loc X.env.scope y := by first | exact Or.inl rfl | exact Or.inr rfl) (hs : swapsWith e (some (.Name y pos')) spos.line X.env = pure false := by rfl) (hf : X.fn y = true ∨ X.env.scope.names.lookup y = some .local := by first | exact .inl rfl | exact .inr rfl) :
    wS X Ψ (.Assign [.Name y pos'] e spos) E S A := wS_set i hN h hi.get hx hs hf
theorem xG_name {x : Str} {w : W} {i : Nat} (hi : Idx x X.N i) (hN : X.N.Nodup) (h : ΦE (E.set i (some w)) S) (hx : Loc X.env.scope x := by first | exact Or.inl rfl | exact Or.inr rfl) (hf : X.fn x = true ∨ X.env.scope.names.lookup x = some .local := by first | exact .inl rfl | exact .inr rfl) : wG X Ψ (.Name x pos) w E S ΦE :=
  wG_name i hN h hi.get hx hf
theorem xS_par {y z : Str} {px py pt spos : Pos} {kt k2 pt2} {i j : Nat} (hi : Idx y X.N i) (hj : Idx z X.N j) (hc : X.calm = true) (hN : X.N.Nodup) (h : wE X Ψ a E S fun w S1 => wE X Ψ b E S1 fun u S2 => A.nx ((E.set i (some w)).set j (some u)) S2) (hij : i ≠ j := by decide)
    (hx : X.env.scope.names.lookup y = some .local := by rfl) (hy : X.env.scope.names.lookup z = some .local := by rfl) (hw : swappedStores [.Tuple [.Name y px, .Name z py] kt pt] (.Tuple [a, b] k2 pt2) X.env = pure (some [y, z]) := by rfl)
    (hs : swapsWithSole [.Tuple [.Name y px, .Name z py] kt pt] (.Tuple [a, b] k2 pt2) spos.line X.env = pure false := by rfl) (h1 : starEach [a, b] X.env = (false, eval a X.env) :: starEach [b] X.env := by rfl) (h2 : starEach [b] X.env = (false, eval b X.env) :: starEach [] X.env := by rfl) :
    wS X Ψ (.Assign [.Tuple [.Name y px, .Name z py] kt pt] (.Tuple [a, b] k2 pt2) spos) E S A := wS_par i j hc hN h hi.get hj.get hij hx hy hw hs h1 h2
/-! ### sides: what is asked of values, by name -/
def sB (w : W) (S : Sto) (Φ : Bool → Sto → Prop) : Prop := ∃ k, w = .bl k ∧ Φ k S
theorem sB_i {k : Bool} (h : ΦT k S) : sB (.bl k) S ΦT := ⟨k, rfl, h⟩
def sII (C : Int → Int → Prop) (f : Int → Int → W) (x y : W) (S : Sto) (Φ : W → Sto → Prop) : Prop := ∃ i j, x = .int i ∧ y = .int j ∧ C i j ∧ Φ (f i j) S
theorem sII_i {C : Int → Int → Prop} {f : Int → Int → W} {i j : Int} (hc : C i j) (h : Φ (f i j) S) : sII C f (.int i) (.int j) S Φ := ⟨i, j, rfl, rfl, hc, h⟩
def sEq (neg : Bool) (x y : W) (S : Sto) (Φ : W → Sto → Prop) : Prop := x.ok 60 = true ∧ y.ok 60 = true ∧ Φ (.bl (if neg then !eqW x y else eqW x y)) S
theorem sEq_i {x y : W} {k : Bool} (h1 : x.ok 60 = true) (h2 : y.ok 60 = true) (e : eqW x y = k) (h : Φ (.bl k) S) : sEq false x y S Φ := ⟨h1, h2, by rw [e]; exact h⟩
theorem sNe_i {x y : W} {k : Bool} (h1 : x.ok 60 = true) (h2 : y.ok 60 = true) (e : eqW x y = k) (h : Φ (.bl (!k)) S) : sEq true x y S Φ := ⟨h1, h2, by rw [e]; exact h⟩
def sIn (neg : Bool) (x y : W) (S : Sto) (Φ : W → Sto → Prop) : Prop := ∃ ws, itemsW S y = some ws ∧ x.ok 59 = true ∧ W.oks ws 59 = true ∧ Φ (.bl (if neg then !inW x ws else inW x ws)) S
theorem sIn_i {neg : Bool} {x y : W} {ws : List W} {k : Bool} (hi : itemsW S y = some ws) (h1 : x.ok 59 = true) (h2 : W.oks ws 59 = true) (e : inW x ws = k) (h : Φ (.bl (if neg then !k else k)) S) : sIn neg x y S Φ := ⟨ws, hi, h1, h2, by rw [e]; exact h⟩
def sDin (neg : Bool) (y x : W) (S : Sto) (Φ : W → Sto → Prop) : Prop := ∃ k o, x = .ref k ∧ dgetW S k y = some o ∧ Φ (.bl (if neg then !o.isSome else o.isSome)) S
theorem sDin_i {neg : Bool} {y : W} {k : Nat} {o : Option W} (hd : dgetW S k y = some o) (h : Φ (.bl (if neg then !o.isSome else o.isSome)) S) : sDin neg y (.ref k) S Φ := ⟨k, o, rfl, hd, h⟩
def sNon (neg : Bool) (x : W) (S : Sto) (Φ : W → Sto → Prop) : Prop := ∃ k, isNonW x = some k ∧ Φ (.bl (if neg then !k else k)) S
theorem sNon_i {neg : Bool} {x : W} {k : Bool} (e : isNonW x = some k) (h : Φ (.bl (if neg then !k else k)) S) : sNon neg x S Φ := ⟨k, e, h⟩
def sIx (x y : W) (S : Sto) (Φ : W → Sto → Prop) : Prop := ∃ ws i w, itemsW S x = some ws ∧ y = .int i ∧ atI ws i = some w ∧ Φ w S
theorem sIx_i {x w : W} {ws : List W} {i : Int} (hi : itemsW S x = some ws) (e : atI ws i = some w) (h : Φ w S) : sIx x (.int i) S Φ := ⟨ws, i, w, hi, rfl, e, h⟩
def sDget (x y : W) (S : Sto) (Φ : W → Sto → Prop) : Prop := ∃ k w, x = .ref k ∧ dgetW S k y = some (some w) ∧ Φ w S
theorem sDget_i {y w : W} {k : Nat} (hd : dgetW S k y = some (some w)) (h : Φ w S) : sDget (.ref k) y S Φ := ⟨k, w, rfl, hd, h⟩
def sFld (X : Cx) (f : Str) (x : W) (S : Sto) (Φ : W → Sto → Prop) : Prop := ∃ k C ws w, x = .ref k ∧ S[k]? = some (.ins C ws) ∧ Cls X.K C ∧ NoAttr X.K C f ∧ ws.lookup f = some w ∧ Φ w S
theorem sFld_i {f : Str} {k : Nat} {C : Addr} {ws : List (Str × W)} {w : W} (hs : S[k]? = some (.ins C ws)) (hl : ws.lookup f = some w) (hc : Cls X.K C) (hn : NoAttr X.K C f) (h : Φ w S) : sFld X f (.ref k) S Φ := ⟨k, C, ws, w, rfl, hs, hc, hn, hl, h⟩
def sTup (ws : List W) (S : Sto) (Φ : W → Sto → Prop) : Prop := ws.length ≤ 100000 ∧ Φ (.tup ws) S
theorem sTup_i {ws : List W} (hl : ws.length ≤ 100000) (h : Φ (.tup ws) S) : sTup ws S Φ := ⟨hl, h⟩
def sLst (ws : List W) (S : Sto) (Φ : W → Sto → Prop) : Prop := ws.length ≤ 100000 ∧ Φ (.lst ws) S
theorem sLst_i {ws : List W} (hl : ws.length ≤ 100000) (h : Φ (.lst ws) S) : sLst ws S Φ := ⟨hl, h⟩
def sLstN (ws : List W) (S : Sto) (Φ : W → Sto → Prop) : Prop := ws.length ≤ 100000 ∧ Φ (.ref S.length) (S ++ [.lst ws])
theorem sLstN_i {ws : List W} (hl : ws.length ≤ 100000) (h : Φ (.ref S.length) (S ++ [.lst ws])) : sLstN ws S Φ := ⟨hl, h⟩
def sLen (X : Cx) (w : W) (S : Sto) (Φ : W → Sto → Prop) : Prop := ∃ n : Nat, (∀ K' ns, w = .scr K' ns → K' = X.K) ∧ lenW S w = some n ∧ Φ (.int n) S
theorem sLen_i {w : W} {ws : List W} (hi : itemsW S w = some ws) (h : Φ (.int ws.length) S) : sLen X w S Φ := by
  refine ⟨ws.length, fun K' ns e => ?_, ?_, h⟩
  · subst e
    cases hi
  · cases w with
    | scr K' ns => cases hi
    | _ => exact congrArg (Option.map List.length) hi
theorem sLen_scr {ns : List Int} (h : Φ (.int ns.length) S) : sLen X (.scr X.K ns) S Φ := ⟨ns.length, fun K' ms e => by cases e; rfl, rfl, h⟩
def sTy (t : Ty → Bool) (w : W) (S : Sto) (Φ : W → Sto → Prop) : Prop := ∃ ty, tyW S w = some ty ∧ Φ (.bl (t ty)) S
theorem sTy_i {t : Ty → Bool} {w : W} {ty : Ty} (e : tyW S w = some ty) (h : Φ (.bl (t ty)) S) : sTy t w S Φ := ⟨ty, e, h⟩
def sItems (f : List W → W) (w : W) (S : Sto) (Φ : W → Sto → Prop) : Prop := ∃ ws, itemsW S w = some ws ∧ Φ (f ws) S
theorem sItems_i {f : List W → W} {w : W} {ws : List W} (e : itemsW S w = some ws) (h : Φ (f ws) S) : sItems f w S Φ := ⟨ws, e, h⟩
def sItemsN (w : W) (S : Sto) (Φ : W → Sto → Prop) : Prop := ∃ ws, itemsW S w = some ws ∧ Φ (.ref S.length) (S ++ [.lst ws])
theorem sItemsN_i {w : W} {ws : List W} (e : itemsW S w = some ws) (h : Φ (.ref S.length) (S ++ [.lst ws])) : sItemsN w S Φ := ⟨ws, e, h⟩
def sBI (w : W) (S : Sto) (Φ : W → Sto → Prop) : Prop := ∃ k, w = .bl k ∧ Φ (.int (if k then 1 else 0)) S
theorem sBI_i {k : Bool} (h : Φ (.int (if k then 1 else 0)) S) : sBI (.bl k) S Φ := ⟨k, rfl, h⟩
def sI (f : Option Int → Sto → Prop) (w : W) (S : Sto) : Prop := ∃ i, w = .int i ∧ f (some i) S
theorem sI_i {f : Option Int → Sto → Prop} {i : Int} (h : f (some i) S) : sI f (.int i) S := ⟨i, rfl, h⟩
def sCut (x : W) (l u : Option Int) (S : Sto) (Φ : W → Sto → Prop) : Prop := ∃ ws, itemsW S x = some ws ∧ (∀ y, x ≠ .tup y) ∧ Φ (.lst (cutW ws l u)) S
def sCutT (x : W) (l u : Option Int) (S : Sto) (Φ : W → Sto → Prop) : Prop := ∃ ws, x = .tup ws ∧ Φ (.tup (cutW ws l u)) S
theorem sCutT_i {ws : List W} {l u : Option Int} (h : Φ (.tup (cutW ws l u)) S) : sCutT (.tup ws) l u S Φ := ⟨ws, rfl, h⟩
theorem sCut_l {ws : List W} {l u : Option Int} (h : Φ (.lst (cutW ws l u)) S) : sCut (.lst ws) l u S Φ := ⟨ws, rfl, fun _ e => (nomatch e), h⟩
/-- a call of a def: n arguments, its promise -/
def sCall (n : Nat) (asp : ASp) (ws : List W) (S : Sto) (Φ : W → Sto → Prop) (Ψ : Value → List (Str × W) → Sto → Prop) : Prop := ws.length = n ∧ asp ws S Φ Ψ
theorem sCall_i {n : Nat} {asp : ASp} {ws : List W} {Ψ : Value → List (Str × W) → Sto → Prop} (hl : ws.length = n) (h : asp ws S Φ Ψ) : sCall n asp ws S Φ Ψ := ⟨hl, h⟩
/-! ### if -/
def sIte (k : Bool) (p q : Prop) : Prop := if k = true then p else q
theorem sIte_t {k : Bool} {p q : Prop} (e : k = true) (h : p) : sIte k p q := by unfold sIte; rw [if_pos e]; exact h
theorem sIte_f {k : Bool} {p q : Prop} (e : k = false) (h : q) : sIte k p q := by unfold sIte; rw [e]; exact h
theorem sIte_s {k : Bool} {p q : Prop} (h1 : k = true → p) (h2 : k = false → q) : sIte k p q := by
  cases k with
  | true => exact sIte_t rfl (h1 rfl)
  | false => exact sIte_f rfl (h2 rfl)
def sAnd (w : W) (S : Sto) (go : (W → Sto → Prop) → Prop) (Φ : W → Sto → Prop) : Prop := ∃ ka, w = .bl ka ∧ (if ka = true then go Φ else Φ (.bl false) S)
theorem sAnd_f {k : Bool} {go} (e : k = false) (h : Φ (.bl false) S) : sAnd (.bl k) S go Φ := ⟨k, rfl, by rw [e]; exact h⟩
theorem sAnd_t {k : Bool} {go} (e : k = true) (h : go Φ) : sAnd (.bl k) S go Φ := ⟨k, rfl, by rw [e]; exact h⟩
def sOr (w : W) (S : Sto) (go : (W → Sto → Prop) → Prop) (Φ : W → Sto → Prop) : Prop := ∃ ka, w = .bl ka ∧ (if ka = true then Φ (.bl true) S else go Φ)
theorem sOr_t {k : Bool} {go} (e : k = true) (h : Φ (.bl true) S) : sOr (.bl k) S go Φ := ⟨k, rfl, by rw [e]; exact h⟩
theorem sOr_f {k : Bool} {go} (e : k = false) (h : go Φ) : sOr (.bl k) S go Φ := ⟨k, rfl, by rw [e]; exact h⟩
theorem sAnd_p {ka : Bool} (kb : Bool) (h1 : ka = true → wE X Ψ e E S fun w S2 => w = .bl kb ∧ S2 = S) (h : Φ (.bl (ka && kb)) S) : sAnd (.bl ka) S (wE X Ψ e E S) Φ := by
  cases ka with
  | true => exact sAnd_t rfl ((h1 rfl).imp fun w S' ⟨e1, e2⟩ => by rw [e1, e2]; exact h)
  | false => exact sAnd_f rfl h
theorem sOr_p {ka : Bool} (kb : Bool) (h1 : ka = false → wE X Ψ e E S fun w S2 => w = .bl kb ∧ S2 = S) (h : Φ (.bl (ka || kb)) S) : sOr (.bl ka) S (wE X Ψ e E S) Φ := by
  cases ka with
  | true => exact sOr_t rfl h
  | false => exact sOr_f rfl ((h1 rfl).imp fun w S' ⟨e1, e2⟩ => by rw [e1, e2]; exact h)
/-! ### rules with sides -/
theorem xE_sub (h : wE X Ψ a E S fun x S1 => wE X Ψ b E S1 fun y S2 => sII (fun _ _ => True) (fun i j => .int (i - j)) x y S2 Φ) : wE X Ψ (.BinOp a .Sub b pos) E S Φ := wE_sub h
theorem xE_mod (h : wE X Ψ a E S fun x S1 => wE X Ψ b E S1 fun y S2 => sII (fun _ j => 0 < j) (fun i j => .int (i % j)) x y S2 Φ) : wE X Ψ (.BinOp a .Mod b pos) E S Φ := wE_mod h
theorem xE_fdiv (h : wE X Ψ a E S fun x S1 => wE X Ψ b E S1 fun y S2 => sII CDiv (fun i j => .int (i / j)) x y S2 Φ) : wE X Ψ (.BinOp a .FloorDiv b pos) E S Φ := wE_fdiv h
theorem xE_eq (hu : X.A.units + 65 < cLine) (h : wE X Ψ a E S fun x S1 => wE X Ψ b E S1 fun y S2 => sEq false x y S2 Φ) : wE X Ψ (.Compare a [.Eq] [b] pos) E S Φ := wE_cmpEq hu (h.imp fun x S1 h => h.imp fun y S2 h => h)
theorem xE_ne (hu : X.A.units + 65 < cLine) (h : wE X Ψ a E S fun x S1 => wE X Ψ b E S1 fun y S2 => sEq true x y S2 Φ) : wE X Ψ (.Compare a [.NotEq] [b] pos) E S Φ := wE_cmpNe hu (h.imp fun x S1 h => h.imp fun y S2 h => h)
theorem xT_eq (hu : X.A.units + 65 < cLine) (h : wE X Ψ a E S fun x S1 => wE X Ψ b E S1 fun y S2 => sEq false x y S2 fun w S => sB w S ΦT) : wT X Ψ (.Compare a [.Eq] [b] pos) E S ΦT := wT_cmpEq hu (h.imp fun x S1 h => h.imp fun y S2 ⟨h1, h2, k, e, p⟩ => ⟨h1, h2, by cases e; exact p⟩)
theorem xT_ne (hu : X.A.units + 65 < cLine) (h : wE X Ψ a E S fun x S1 => wE X Ψ b E S1 fun y S2 => sEq true x y S2 fun w S => sB w S ΦT) : wT X Ψ (.Compare a [.NotEq] [b] pos) E S ΦT := wT_cmpNe hu (h.imp fun x S1 h => h.imp fun y S2 ⟨h1, h2, k, e, p⟩ => ⟨h1, h2, by cases e; exact p⟩)
theorem xE_cmpI {op : CmpOp} {f : Int → Int → Bool} (ho : OpR X (compareOp op) (rI0 fun i j => .bl (f i j))) (h : wE X Ψ a E S fun x S1 => wE X Ψ b E S1 fun y S2 => sII (fun _ _ => True) (fun i j => .bl (f i j)) x y S2 Φ) (hm : behindInMarks op b = false := by first | exact nomark _ | rfl) : wE X Ψ (.Compare a [op] [b] pos) E S Φ :=
  wE_cmpI ho (h.imp fun x S1 h => h.imp fun y S2 ⟨i, j, e1, e2, _, p⟩ => ⟨i, j, e1, e2, p⟩) hm
theorem xT_cmpI {op : CmpOp} {f : Int → Int → Bool} (ho : OpR X (compareOp op) (rI0 fun i j => .bl (f i j))) (h : wE X Ψ a E S fun x S1 => wE X Ψ b E S1 fun y S2 => sII (fun _ _ => True) (fun i j => .bl (f i j)) x y S2 fun w S => sB w S ΦT) (hm : behindInMarks op b = false := by first | exact nomark _ | rfl) : wT X Ψ (.Compare a [op] [b] pos) E S ΦT :=
  wT_cmpI ho (h.imp fun x S1 h => h.imp fun y S2 ⟨i, j, e1, e2, _, k, e, p⟩ => ⟨i, j, e1, e2, by cases e; exact p⟩) hm
theorem xE_in (hu : X.A.units + 65 < cLine) (h : wE X Ψ a E S fun x S1 => wE X Ψ b E S1 fun y S2 => sIn false x y S2 Φ) (hm : behindInMarks .In b = false := by rfl) : wE X Ψ (.Compare a [.In] [b] pos) E S Φ := wE_in hu (h.imp fun x S1 h => h.imp fun y S2 h => h) hm
theorem xE_notIn (hu : X.A.units + 65 < cLine) (h : wE X Ψ a E S fun x S1 => wE X Ψ b E S1 fun y S2 => sIn true x y S2 Φ) (hm : behindInMarks .NotIn b = false := by rfl) : wE X Ψ (.Compare a [.NotIn] [b] pos) E S Φ := wE_notIn hu (h.imp fun x S1 h => h.imp fun y S2 h => h) hm
theorem xT_in (hu : X.A.units + 65 < cLine) (h : wE X Ψ a E S fun x S1 => wE X Ψ b E S1 fun y S2 => sIn false x y S2 fun w S => sB w S ΦT) (hm : behindInMarks .In b = false := by rfl) : wT X Ψ (.Compare a [.In] [b] pos) E S ΦT := wT_in hu (h.imp fun x S1 h => h.imp fun y S2 ⟨ws, h1, h2, h3, k, e, p⟩ => ⟨ws, h1, h2, h3, by cases e; exact p⟩) hm
theorem xT_notIn (hu : X.A.units + 65 < cLine) (h : wE X Ψ a E S fun x S1 => wE X Ψ b E S1 fun y S2 => sIn true x y S2 fun w S => sB w S ΦT) (hm : behindInMarks .NotIn b = false := by rfl) : wT X Ψ (.Compare a [.NotIn] [b] pos) E S ΦT := wT_notIn hu (h.imp fun x S1 h => h.imp fun y S2 ⟨ws, h1, h2, h3, k, e, p⟩ => ⟨ws, h1, h2, h3, by cases e; exact p⟩) hm
theorem xE_din (hu : X.A.units + 65 < cLine) (h : wE X Ψ a E S fun y S1 => wE X Ψ b E S1 fun x S2 => sDin false y x S2 Φ) (hm : behindInMarks .In b = false := by rfl) : wE X Ψ (.Compare a [.In] [b] pos) E S Φ := wE_din hu (h.imp fun x S1 h => h.imp fun y S2 h => h) hm
theorem xT_din (hu : X.A.units + 65 < cLine) (h : wE X Ψ a E S fun y S1 => wE X Ψ b E S1 fun x S2 => sDin false y x S2 fun w S => sB w S ΦT) (hm : behindInMarks .In b = false := by rfl) : wT X Ψ (.Compare a [.In] [b] pos) E S ΦT := wT_din hu (h.imp fun x S1 h => h.imp fun y S2 ⟨k, o, h1, h2, kk, e, p⟩ => ⟨k, o, h1, h2, by cases e; exact p⟩) hm
theorem xE_isN (h : wE X Ψ a E S fun x S1 => sNon false x S1 Φ) {j pos'} : wE X Ψ (.Compare a [.Is] [.Constant .none j pos'] pos) E S Φ := wE_isN (h.imp fun x S1 h => h)
theorem xE_notN (h : wE X Ψ a E S fun x S1 => sNon true x S1 Φ) {j pos'} : wE X Ψ (.Compare a [.IsNot] [.Constant .none j pos'] pos) E S Φ := wE_notN (h.imp fun x S1 h => h)
theorem xT_isN (h : wE X Ψ a E S fun x S1 => sNon false x S1 fun w S => sB w S ΦT) {j pos'} : wT X Ψ (.Compare a [.Is] [.Constant .none j pos'] pos) E S ΦT := wT_isN (h.imp fun x S1 ⟨k, h1, kk, e, p⟩ => ⟨k, h1, by cases e; exact p⟩)
theorem xT_notN (h : wE X Ψ a E S fun x S1 => sNon true x S1 fun w S => sB w S ΦT) {j pos'} : wT X Ψ (.Compare a [.IsNot] [.Constant .none j pos'] pos) E S ΦT := wT_notN (h.imp fun x S1 ⟨k, h1, kk, e, p⟩ => ⟨k, h1, by cases e; exact p⟩)
theorem xT_val (h : wE X Ψ e E S fun w S1 => sB w S1 ΦT) (he : ∀ whole, isTrue e X.env whole = (do let v ← whole; standAt e.pos; holding [v] (truthy v)) := by intro _; rfl) : wT X Ψ e E S ΦT := wT_val h he
theorem xE_not (h : wE X Ψ a E S fun w S1 => sB w S1 fun k S2 => Φ (.bl (!k)) S2) : wE X Ψ (.UnaryOp .Not a pos) E S Φ := wE_not h
theorem xE_and (h : wE X Ψ a E S fun w S1 => sAnd w S1 (wE X Ψ (.BoolOp .And (b :: rest) pos) E S1) Φ) : wE X Ψ (.BoolOp .And (a :: b :: rest) pos) E S Φ := wE_and h
theorem xE_or (h : wE X Ψ a E S fun w S1 => sOr w S1 (wE X Ψ (.BoolOp .Or (b :: rest) pos) E S1) Φ) : wE X Ψ (.BoolOp .Or (a :: b :: rest) pos) E S Φ := wE_or h
theorem xE_if (h : wT X Ψ c E S fun k S1 => sIte k (wE X Ψ a E S1 Φ) (wE X Ψ b E S1 Φ)) : wE X Ψ (.IfExp c a b pos) E S Φ := wE_if h
theorem xS_if {spos : Pos} {sts orelse : List Stmt} (h : wT X Ψ c E S fun k S1 => sIte k (wB X Ψ sts E S1 A) (wB X Ψ orelse E S1 A)) : wS X Ψ (.If c sts orelse spos) E S A := wS_if h
theorem xE_ix (h : wE X Ψ a E S fun x S1 => wE X Ψ b E S1 fun y S2 => sIx x y S2 Φ) (hs : PlainIx b := by exact fun _ _ => rfl) : wE X Ψ (.Subscript a b pos) E S Φ := wE_ix h hs
theorem xE_dget (hu : X.A.units + 65 < cLine) (h : wE X Ψ a E S fun x S1 => wE X Ψ b E S1 fun y S2 => sDget x y S2 Φ) (hs : NoSl b := by exact fun _ _ => rfl) : wE X Ψ (.Subscript a b pos) E S Φ := wE_dget hu h hs
theorem xE_fld {f : Str} (h : wE X Ψ a E S fun x S1 => sFld X f x S1 Φ) (hb : attributeBase a f X.env (eval a X.env) = eval a X.env := by rfl) : wE X Ψ (.Attribute a f pos) E S Φ := wE_fld h hb
theorem xE_tup {x1} (h : wA X Ψ es E S fun ws S1 => sTup ws S1 Φ) : wE X Ψ (.Tuple es x1 pos) E S Φ := wE_tup h
theorem xE_lst (h : wA X Ψ es E S fun ws S1 => sLst ws S1 Φ) : wE X Ψ (.List es pos) E S Φ := wE_lst h
theorem xE_lstN (h : wA X Ψ es E S fun ws S1 => sLstN ws S1 Φ) : wE X Ψ (.List es pos) E S Φ := wE_lstN h
theorem xE_len {p : Pos} (hm : X.mg "len" = none) (h : wE X Ψ e E S fun w S1 => sLen X w S1 Φ) (hg : Gl X "len" := by rfl) (he : starEach [e] X.env = (false, eval e X.env) :: starEach [] X.env := by rfl) (hpl : (backTo pos (starEach [] X.env)).any (·.1) = false := by rfl) : wE X Ψ (.Call (.Name "len" p) [e] [] pos) E S Φ := wE_len hm h hg he hpl
theorem xE_tuple {p : Pos} (hm : X.mg "tuple" = none) (h : wE X Ψ e E S fun w S1 => sItems .tup w S1 Φ) (hg : Gl X "tuple" := by rfl) (he : starEach [e] X.env = (false, eval e X.env) :: starEach [] X.env := by rfl) (hpl : (backTo pos (starEach [] X.env)).any (·.1) = false := by rfl) : wE X Ψ (.Call (.Name "tuple" p) [e] [] pos) E S Φ := wE_tuple hm h hg he hpl
theorem xE_list {p : Pos} (hm : X.mg "list" = none) (h : wE X Ψ e E S fun w S1 => sItems .lst w S1 Φ) (hg : Gl X "list" := by rfl) (he : starEach [e] X.env = (false, eval e X.env) :: starEach [] X.env := by rfl) (hpl : (backTo pos (starEach [] X.env)).any (·.1) = false := by rfl) : wE X Ψ (.Call (.Name "list" p) [e] [] pos) E S Φ := wE_list hm h hg he hpl
theorem xE_intB {p : Pos} (hm : X.mg "int" = none) (h : wE X Ψ e E S fun w S1 => sBI w S1 Φ) (hg : Gl X "int" := by rfl) (he : starEach [e] X.env = (false, eval e X.env) :: starEach [] X.env := by rfl) (hpl : (backTo pos (starEach [] X.env)).any (·.1) = false := by rfl) : wE X Ψ (.Call (.Name "int" p) [e] [] pos) E S Φ := wE_intB hm h hg he hpl
theorem xE_isi {x : Str} {p p1 : Pos} (c : Ty) (hm : X.mg "isinstance" = none) (hx : X.mg x = none) (hv : bootBuiltins x = some (.type c.nm)) (h : wE X Ψ e E S fun w S1 => sTy (fun t => t.isa c) w S1 Φ) (hc : c ≠ .non ∧ c ≠ .dict := by decide) (hg : Gl X "isinstance" := by rfl) (hgx : Gl X x := by rfl) (hn : x ≠ "__name__" := by decide +kernel) (hd : (x == ("__debug__" : Str)) = false := by decide +kernel)
    (he : starEach [e, .Name x p1] X.env = (false, eval e X.env) :: starEach [.Name x p1] X.env := by rfl) (he2 : starEach [.Name x p1] X.env = (false, eval (.Name x p1) X.env) :: starEach [] X.env := by rfl) (hpl : (backTo pos (starEach [.Name x p1] X.env)).any (·.1) = false := by rfl) : wE X Ψ (.Call (.Name "isinstance" p) [e, .Name x p1] [] pos) E S Φ := wE_isi c hm hx hv h hc hg hgx hn hd he he2 hpl
theorem wO_none {Φ : Option Int → Sto → Prop} (h : Φ none S) : wO X Ψ none E S Φ := h
theorem wO_some {Φ : Option Int → Sto → Prop} (h : wE X Ψ e E S fun w S1 => sI Φ w S1) : wO X Ψ (some e) E S Φ := h
theorem xE_slT {lo hi : Option Expr} {p2 : Pos} (h : wE X Ψ a E S fun x S1 => wO X Ψ lo E S1 fun l S2 => wO X Ψ hi E S2 fun u S3 => sCutT x l u S3 Φ) : wE X Ψ (.Subscript a (.Slice lo hi none p2) pos) E S Φ := wE_slT h
theorem xE_slL {lo hi : Option Expr} {p2 : Pos} (h : wE X Ψ a E S fun x S1 => wO X Ψ lo E S1 fun l S2 => wO X Ψ hi E S2 fun u S3 => sCut x l u S3 Φ) : wE X Ψ (.Subscript a (.Slice lo hi none p2) pos) E S Φ := wE_slL h
theorem xE_call {x : Str} {p : Pos} (F : CFn X.prog X.w X.K X.mg X.base x k n asp) (hr : Room k X.A) (h : wA X Ψ (e :: es) E S fun ws S1 => sCall n asp ws S1 Φ fun cls fs S2 => Ψ cls fs E S2) (hg : Gl X x := by rfl)
    (hdb : (x == ("__debug__" : Str)) = false := by decide +kernel) (he : starEach (e :: es) X.env = (false, eval e X.env) :: starEach es X.env := by rfl) (hpl : (backTo pos (starEach es X.env)).any (·.1) = false := by rfl) : wE X Ψ (.Call (.Name x p) (e :: es) [] pos) E S Φ := wE_call F hr h hg hdb he hpl
def sMeth (C : Addr) (m : Str) (x : W) (S : Sto) (go : Nat → Prop) : Prop := ∃ j fs, x = .ref j ∧ S[j]? = some (.ins C fs) ∧ fs.lookup m = none ∧ go j
theorem sMeth_i {C : Addr} {m : Str} {go : Nat → Prop} {j : Nat} {fs : List (Str × W)} (h1 : S[j]? = some (.ins C fs)) (h2 : fs.lookup m = none) (h : go j) : sMeth C m (.ref j) S go := ⟨j, fs, rfl, h1, h2, h⟩
def sCallM (n : Nat) (asp : ASp) (j : Nat) (ws : List W) (S : Sto) (Φ : W → Sto → Prop) (Ψ : Value → List (Str × W) → Sto → Prop) : Prop := ws.length + 1 = n ∧ asp (.ref j :: ws) S Φ Ψ
theorem sCallM_i {n : Nat} {asp : ASp} {j : Nat} {ws : List W} {Ψ : Value → List (Str × W) → Sto → Prop} (hl : ws.length + 1 = n) (h : asp (.ref j :: ws) S Φ Ψ) : sCallM n asp j ws S Φ Ψ := ⟨hl, h⟩
theorem xE_meth {pl : Sem Bool} {m : Str} {C : Addr} {apos : Pos} (hc : Cls X.K C) (F : CMeth X.prog X.w X.K X.mg X.base C m k n asp) (hr : Room k X.A)
    (h : wE X Ψ o E S fun x S1 => sMeth C m x S1 fun j => wA X Ψ (e :: es) E S1 fun ws S2 => sCallM n asp j ws S2 Φ fun cls fs S3 => Ψ cls fs E S3)
    (hst : starEach (e :: es) X.env = (false, eval e X.env) :: starEach es X.env := by rfl) (hpl : (backTo pos (starEach es X.env)).any (·.1) = false := by rfl)
    (ht : eval (.Call (.Attribute o m apos) (e :: es) [] pos) X.env = (do
      let ov ← eval o X.env
      standAt apos.atName
      let (f, first) ← holding [ov] (getMethod ov m pl)
      callWith pos f first (backTo pos (starEach (e :: es) X.env)) (backToKw pos (keywordEach [] X.env))) := by rfl) : wE X Ψ (.Call (.Attribute o m apos) (e :: es) [] pos) E S Φ := wE_meth hc F hr h hst hpl ht
theorem xE_make {x : Str} {C : Addr} {p : Pos} (F : CMake X.prog X.w X.K X.mg X.base x C k n asp) (hr : Room (k + 1) X.A)
    (h : wA X Ψ (e :: es) E S fun ws S1 => sCallM n asp S1.length ws (S1 ++ [.ins C []]) (fun w S2 => w = .non ∧ Φ (.ref S1.length) S2) fun cls fs S2 => Ψ cls fs E S2) (hg : Gl X x := by rfl)
    (hdb : (x == ("__debug__" : Str)) = false := by decide +kernel) (he : starEach (e :: es) X.env = (false, eval e X.env) :: starEach es X.env := by rfl) (hpl : (backTo pos (starEach es X.env)).any (·.1) = false := by rfl) : wE X Ψ (.Call (.Name x p) (e :: es) [] pos) E S Φ := wE_make F hr h hg hdb he hpl
def sApp (x w : W) (S : Sto) (Φ : W → Sto → Prop) : Prop := ∃ k ws, x = .ref k ∧ S[k]? = some (.lst ws) ∧ ws.length ≤ 100000 ∧ Φ .non (S.set k (.lst (ws ++ [w])))
theorem sApp_i {w : W} {k : Nat} {ws : List W} (h1 : S[k]? = some (.lst ws)) (h2 : ws.length ≤ 100000) (h : Φ .non (S.set k (.lst (ws ++ [w])))) : sApp (.ref k) w S Φ := ⟨k, ws, rfl, h1, h2, h⟩
def sAppO (x : W) (S : Sto) (go : Prop) : Prop := (∃ k ws, x = .ref k ∧ S[k]? = some (.lst ws)) ∧ go
theorem sAppO_i {go : Prop} {k : Nat} {ws : List W} (h1 : S[k]? = some (.lst ws)) (h : go) : sAppO (.ref k) S go := ⟨⟨k, ws, rfl, h1⟩, h⟩
theorem xE_append {apos cpos : Pos} (h : wE X Ψ o E S fun x S1 => sAppO x S1 (wE X Ψ e E S1 fun w S2 => sApp x w S2 Φ))
    (hbase : attributeBase o "append" X.env (eval o X.env) = eval o X.env := by rfl)
    (hfew : ((backTo cpos (starEach [e] X.env)).all (fun x => !x.1) && (backToKw cpos (keywordEach [] X.env)).all (fun x => x.1.isSome)
      && decide (([e] : List Expr).length + ([] : List Keyword).length + (if ([] : List Keyword).isEmpty then 0 else 1) < 30)) = true := by rfl)
    (hline : (apos.endLine == cpos.line) = true := by rfl) (hs : starEach [e] X.env = (false, eval e X.env) :: starEach [] X.env := by rfl) (hplain : (backTo cpos (starEach [] X.env)).any (·.1) = false := by rfl) : wE X Ψ (.Call (.Attribute o "append" apos) [e] [] cpos) E S Φ := wE_append h hbase hfew hline hs hplain
/-! ### + -/
def sAdd (x y : W) (S : Sto) (Φ : W → Sto → Prop) : Prop := sII (fun _ _ => True) (fun i j => .int (i + j)) x y S Φ ∨ (∃ i j : Str, x = .str i ∧ y = .str j ∧ i.length + j.length ≤ sizeLine ∧ Φ (.str (i ++ j)) S)
theorem sAdd_I {i j : Int} (h : Φ (.int (i + j)) S) : sAdd (.int i) (.int j) S Φ := .inl (sII_i trivial h)
theorem sAdd_S {i j : Str} (hl : i.length + j.length ≤ sizeLine) (h : Φ (.str (i ++ j)) S) : sAdd (.str i) (.str j) S Φ := .inr ⟨i, j, rfl, rfl, hl, h⟩
theorem xE_add (h : wE X Ψ a E S fun x S1 => wE X Ψ b E S1 fun y S2 => sAdd x y S2 Φ) : wE X Ψ (.BinOp a .Add b pos) E S Φ :=
  wE_op (g := sAdd) (OpR.or op_add op_add_str) (fun M H S v u x y Φ r a1 a2 g Q q => by
    rcases g with ⟨i, j, e1, e2, _, p⟩ | ⟨i, j, e1, e2, hl, p⟩
    · subst e1; subst e2; cases a1; cases a2
      exact .inl ⟨i, j, rfl, rfl, q _ _ M S H p r (.int _) (Step.refl _ _)⟩
    · subst e1; subst e2; cases a1; cases a2
      exact .inr ⟨i, j, rfl, rfl, hl, q _ _ M S H p r (.str _) (Step.refl _ _)⟩) h
def sCat (x y : W) (S : Sto) (Φ : W → Sto → Prop) : Prop := ∃ xs ys, itemsW S x = some xs ∧ itemsW S y = some ys ∧ (∀ z, x ≠ .tup z) ∧ (∀ z, y ≠ .tup z) ∧ xs.length + ys.length ≤ 100000 ∧ Φ (.lst (xs ++ ys)) S
theorem sCat_i {xs ys : List W} (hl : xs.length + ys.length ≤ 100000) (h : Φ (.lst (xs ++ ys)) S) : sCat (.lst xs) (.lst ys) S Φ := ⟨xs, ys, rfl, rfl, fun _ e => (nomatch e), fun _ e => (nomatch e), hl, h⟩
theorem xE_cat (h : wE X Ψ a E S fun x S1 => wE X Ψ b E S1 fun y S2 => sCat x y S2 Φ) : wE X Ψ (.BinOp a .Add b pos) E S Φ :=
  wE_op (g := sCat) op_cat (fun M H S v u x y Φ r a1 a2 ⟨xs, ys, i1, i2, n1, n2, hl, p⟩ Q q => by
    obtain ⟨p1, v1, rfl, rv1, k1⟩ := seq_of (K := X.K) r a1 i1
    obtain ⟨p2, v2, rfl, rv2, k2⟩ := seq_of (K := X.K) r a2 i2
    rcases k1 with ⟨_, h1⟩ | ⟨_, z, ez⟩
    · rcases k2 with ⟨_, h2⟩ | ⟨_, z, ez⟩
      · refine ⟨p1, p2, v1, v2, rfl, rfl, h1, h2, Nat.le_trans (by rw [rv1.length, rv2.length]; exact hl) (by decide), fun l hl => ?_⟩
        exact q _ _ M S _ p (r.tmp hl) (lq_new r hl (rv1.append rv2)) (step_tmp r hl)
      · exact absurd ez (n2 z)
    · exact absurd ez (n1 z)) h
def sRep (x y : W) (S : Sto) (Φ : W → Sto → Prop) : Prop := ∃ xs k, itemsW S x = some xs ∧ (∀ z, x ≠ .tup z) ∧ y = .int k ∧ 0 ≤ k ∧ k ≤ 1000 ∧ xs.length ≤ 1000 ∧ Φ (.lst (List.replicate k.toNat xs).flatten) S
theorem sRep_i {xs : List W} {k : Int} (h0 : 0 ≤ k) (h1 : k ≤ 1000) (hl : xs.length ≤ 1000) (h : Φ (.lst (List.replicate k.toNat xs).flatten) S) : sRep (.lst xs) (.int k) S Φ := ⟨xs, k, rfl, fun _ e => (nomatch e), rfl, h0, h1, hl, h⟩
theorem vws_rep {M : Lay} {H : Hp} {vs : List V} {ws : List W} (h : VWs M H vs ws) : ∀ n : Nat, VWs M H (List.replicate n vs).flatten (List.replicate n ws).flatten
  | 0 => .nil
  | n + 1 => by
    rw [List.replicate_succ, List.replicate_succ, List.flatten_cons, List.flatten_cons]
    exact h.append (vws_rep h n)
theorem xE_rep (h : wE X Ψ a E S fun x S1 => wE X Ψ b E S1 fun y S2 => sRep x y S2 Φ) : wE X Ψ (.BinOp a .Mult b pos) E S Φ :=
  wE_op (g := sRep) op_rep (fun M H S v u x y Φ r a1 a2 ⟨xs, k, i1, n1, e, k0, k1, hl, p⟩ Q q => by
    subst e; cases a2
    obtain ⟨p1, v1, rfl, rv1, kk⟩ := seq_of (K := X.K) r a1 i1
    rcases kk with ⟨_, h1⟩ | ⟨_, z, ez⟩
    · refine ⟨p1, k, v1, rfl, rfl, h1, by omega, by omega, ?_, fun l hl => ?_⟩
      · rw [rv1.length]
        have : k.toNat ≤ 1000 := by omega
        calc xs.length * k.toNat ≤ 1000 * 1000 := Nat.mul_le_mul hl this
          _ ≤ sizeLine := by decide
      · exact q _ _ M S _ p (r.tmp hl) (lq_new r hl (vws_rep rv1 _)) (step_tmp r hl)
    · exact absurd ez (n1 z)) h
/-! ### fields put, lists of objects -/
def sPut (X : Cx) (f : Str) (x w : W) (S : Sto) (Φ : Sto → Prop) : Prop := ∃ k C S3, x = .ref k ∧ fputW S k f w = some (C, S3) ∧ Cls X.K C ∧ NoAttr X.K C f ∧ Φ S3
theorem sPut_i {f : Str} {k : Nat} {C : Addr} {ws : List (Str × W)} {w : W} {Φ : Sto → Prop} (hs : S[k]? = some (.ins C ws)) (hl : ws.length < 1000) (hc : Cls X.K C) (hn : NoAttr X.K C f) (h : Φ (S.set k (.ins C (putFW f w ws)))) : sPut X f (.ref k) w S Φ :=
  ⟨k, C, _, rfl, by unfold fputW; rw [hs]; exact if_pos hl, hc, hn, h⟩
theorem xS_fld {f : Str} {pos' spos : Pos} (h : wE X Ψ e E S fun w S1 => wE X Ψ o E S1 fun x S2 => sPut X f x w S2 fun S3 => A.nx E S3) (hs : swapsWith e (some (.Attribute o f pos')) spos.line X.env = pure false := by rfl) : wS X Ψ (.Assign [.Attribute o f pos'] e spos) E S A := wS_fld h hs
theorem xG_fld {f : Str} {w : W} (h : wE X Ψ o E S fun x S1 => sPut X f x w S1 fun S2 => ΦE E S2) : wG X Ψ (.Attribute o f pos) w E S ΦE := wG_fld h
def sDput (x y w : W) (S : Sto) (Φ : Sto → Prop) : Prop := ∃ k S4, x = .ref k ∧ dlenW S k ≤ 100000 ∧ dputW S k y w = some S4 ∧ Φ S4
theorem sDput_i {y w : W} {k : Nat} {S4 : Sto} {Φ : Sto → Prop} (h1 : dlenW S k ≤ 100000) (h2 : dputW S k y w = some S4) (h : Φ S4) : sDput (.ref k) y w S Φ := ⟨k, S4, rfl, h1, h2, h⟩
theorem xS_dput {pos' spos : Pos} (hu : X.A.units + 65 < cLine) (h : wE X Ψ e E S fun w S1 => wE X Ψ o E S1 fun x S2 => wE X Ψ a E S2 fun y S3 => sDput x y w S3 fun S4 => A.nx E S4) (hs : swapsWith e (some (.Subscript o a pos')) spos.line X.env = pure false := by rfl) : wS X Ψ (.Assign [.Subscript o a pos'] e spos) E S A := wS_dput hu h hs
theorem nth_new {S T : Sto} {i : Nat} : (S ++ T)[S.length + i]? = T[i]? := by
  rw [List.getElem?_append_right (Nat.le_add_right _ _), Nat.add_sub_cancel_left]
theorem nth_new0 {S T : Sto} : (S ++ T)[S.length]? = T[0]? := nth_new (i := 0)
theorem set_new {S T : Sto} {i : Nat} {o : O} : (S ++ T).set (S.length + i) o = S ++ T.set i o := by
  rw [List.set_append_right _ _ (Nat.le_add_right _ _), Nat.add_sub_cancel_left]
theorem set_new0 {S T : Sto} {o : O} : (S ++ T).set S.length o = S ++ T.set 0 o := set_new (i := 0)
/-! ### list comprehensions that change nothing -/
/-- one turn, its test, its value -/
def TurnP (X : Cx) (scope : Scope) (f : IfK) (elt : Expr) (E2 : AEnv) (S : Sto) (p : Bool) (y : W) : Prop := match f with
  | .no => p = true ∧ ∀ s H0 C cl fp, wE (Cx.bk X scope s H0 C cl fp) nox elt E2 S fun w S3 => w = y ∧ S3 = S
  | .one c => (∀ s H0 C cl fp, wT (Cx.bk X scope s H0 C cl fp) nox c E2 S fun k S3 => k = p ∧ S3 = S) ∧ (p = true → ∀ s H0 C cl fp, wE (Cx.bk X scope s H0 C cl fp) nox elt E2 S fun w S3 => w = y ∧ S3 = S)
def sLc (X : Cx) (scope : Scope) (f : IfK) (elt : Expr) (j : Nat) (E : AEnv) (ws : List W) (still : Sto → Prop) (S : Sto) (Φ : List W → Sto → Prop) : Prop :=
  still S ∧ ws.length ≤ 100000 ∧ ∃ ts : List (Bool × W), ts.length = ws.length ∧ (∀ (i : Nat) (w : W) (t : Bool × W), ws[i]? = some w → ts[i]? = some t → TurnP X scope f elt ((E.set j none).set j (some w)) S t.1 t.2) ∧ Φ ((ts.filter (·.1)).map (·.2)) S
theorem sLc_run {scope : Scope} {f : IfK} {elt : Expr} {j : Nat} {ws : List W} {still : Sto → Prop} {Φ : List W → Sto → Prop} (h : sLc X scope f elt j E ws still S Φ) :
    ∃ I : Nat → List W → Sto → Prop, I 0 [] S ∧ (∀ i acc S', I i acc S' → still S' ∧ acc.length ≤ 100000) ∧
      (∀ i w acc S', ws[i]? = some w → I i acc S' → Turn1 X scope f elt ((E.set j none).set j (some w)) S' (fun y S4 => I (i + 1) (acc ++ [y]) S4) fun S3 => I (i + 1) acc S3) ∧ ∀ acc S', I ws.length acc S' → Φ acc S' := by
  obtain ⟨h1, h2, ts, hl, ht, hd⟩ := h
  refine ⟨fun i acc S' => S' = S ∧ acc = ((ts.take i).filter (·.1)).map (·.2), ⟨rfl, rfl⟩, ?_, ?_, ?_⟩
  · rintro i acc S' ⟨rfl, rfl⟩
    refine ⟨h1, ?_⟩
    rw [List.length_map]
    exact Nat.le_trans (List.length_filter_le _ _) (by rw [List.length_take]; omega)
  · rintro i w acc S' hw ⟨rfl, rfl⟩
    have hi : i < ts.length := by
      rw [hl]
      exact (List.getElem?_eq_some_iff.mp hw).1
    obtain ⟨t, hts⟩ : ∃ t, ts[i]? = some t := ⟨_, List.getElem?_eq_getElem hi⟩
    have tk : ts.take (i + 1) = ts.take i ++ [t] := by
      rw [List.take_add_one, hts]
      rfl
    have t' := ht i w t hw hts
    have yes : t.1 = true → S' = S' ∧ ((ts.take i).filter (·.1)).map (·.2) ++ [t.2] = ((ts.take (i + 1)).filter (·.1)).map (·.2) := fun hp => by
      refine ⟨rfl, ?_⟩
      rw [tk, List.filter_append, List.map_append]
      congr 1
      rw [List.filter_cons_of_pos (by exact hp)]
      rfl
    have no : t.1 = false → S' = S' ∧ ((ts.take i).filter (·.1)).map (·.2) = ((ts.take (i + 1)).filter (·.1)).map (·.2) := fun hp => by
      refine ⟨rfl, ?_⟩
      rw [tk, List.filter_append, List.filter_cons_of_neg (by rw [hp]; exact Bool.false_ne_true)]
      simp
    cases f with
    | no =>
      obtain ⟨hp, t'⟩ := t'
      exact fun s H0 C cl fp => (t' s H0 C cl fp).imp fun y S4 ⟨e1, e2⟩ => by subst e1; subst e2; exact yes hp
    | one c =>
      obtain ⟨t1, t2⟩ := t'
      refine fun s H0 C cl fp => (t1 s H0 C cl fp).imp fun k S4 ⟨e1, e2⟩ => ?_
      subst e2
      cases hk : k with
      | true =>
        rw [if_pos rfl]
        exact fun s H0 C cl fp => (t2 (by rw [← e1]; exact hk) s H0 C cl fp).imp fun y S4 ⟨e3, e4⟩ => by subst e3; subst e4; exact yes (by rw [← e1]; exact hk)
      | false =>
        rw [if_neg Bool.false_ne_true]
        exact no (by rw [← e1]; exact hk)
  · rintro acc S' ⟨rfl, rfl⟩
    rw [← hl, List.take_length]
    exact hd
theorem sLc_i {α : Type} {scope : Scope} {f : IfK} {elt : Expr} {j : Nat} {still : Sto → Prop} {ΦL : List W → Sto → Prop} {xs : List α} {enc : α → W} {p : α → Bool} {g : α → W} (hs : still S) (hl : xs.length ≤ 100000)
    (turn : ∀ x, x ∈ xs → TurnP X scope f elt ((E.set j none).set j (some (enc x))) S (p x) (g x)) (h : ΦL ((xs.filter p).map g) S) : sLc X scope f elt j E (xs.map enc) still S ΦL := by
  refine ⟨hs, by rw [List.length_map]; exact hl, xs.map fun x => (p x, g x), by simp, fun i w t h1 h2 => ?_, ?_⟩
  · rw [List.getElem?_map] at h1 h2
    cases e : xs[i]? with
    | none => rw [e] at h1; cases h1
    | some x =>
      rw [e] at h1 h2
      cases h1; cases h2
      exact turn x (List.mem_of_getElem? e)
  · have e : ((xs.map fun x => (p x, g x)).filter (·.1)).map (·.2) = (xs.filter p).map g := by
      rw [List.filter_map, List.map_map]
      rfl
    rw [e]
    exact h
theorem TurnP.one_i {scope : Scope} {elt : Expr} {E2 : AEnv} {p : Bool} {y : W} (h1 : ∀ s H0 C cl fp, wT (Cx.bk X scope s H0 C cl fp) nox c E2 S fun k S3 => k = p ∧ S3 = S) (h2 : p = true → ∀ s H0 C cl fp, wE (Cx.bk X scope s H0 C cl fp) nox elt E2 S fun w S3 => w = y ∧ S3 = S) : TurnP X scope (.one c) elt E2 S p y := ⟨h1, h2⟩
theorem TurnP.no_i {scope : Scope} {elt : Expr} {E2 : AEnv} {y : W} (h2 : ∀ s H0 C cl fp, wE (Cx.bk X scope s H0 C cl fp) nox elt E2 S fun w S3 => w = y ∧ S3 = S) : TurnP X scope .no elt E2 S true y := ⟨rfl, h2⟩
/-! ### what is walked -/
variable {tg iter : Expr} {ΦI : List W → (Sto → Prop) → Sto → Prop}
def sR1 (y : W) (S : Sto) (Φ : List W → (Sto → Prop) → Sto → Prop) : Prop := ∃ j : Int, y = .int j ∧ -(2 ^ 62) ≤ j ∧ j < 2 ^ 62 ∧ Φ (rangeW 0 j.toNat) (fun _ => True) S
theorem sR1_i {j : Int} (h1 : -100000 ≤ j) (h2 : j ≤ 100000) (h : ΦI (rangeW 0 j.toNat) (fun _ => True) S) : sR1 (.int j) S ΦI := ⟨j, rfl, by omega, by omega, h⟩
def sR2 (x y : W) (S : Sto) (Φ : List W → (Sto → Prop) → Sto → Prop) : Prop := ∃ i j : Int, x = .int i ∧ y = .int j ∧ (-(2 ^ 62) ≤ i ∧ i < 2 ^ 62 ∧ -(2 ^ 62) ≤ j ∧ j < 2 ^ 62) ∧ Φ (rangeW i (j - i).toNat) (fun _ => True) S
theorem sR2_i {i j : Int} (h1 : -100000 ≤ i) (h2 : i ≤ 100000) (h3 : -100000 ≤ j) (h4 : j ≤ 100000) (h : ΦI (rangeW i (j - i).toNat) (fun _ => True) S) : sR2 (.int i) (.int j) S ΦI := ⟨i, j, rfl, rfl, ⟨by omega, by omega, by omega, by omega⟩, h⟩
def sWT (y : W) (S : Sto) (Φ : List W → (Sto → Prop) → Sto → Prop) : Prop := ∃ ws, y = .tup ws ∧ Φ ws (fun _ => True) S
theorem sWT_i {ws : List W} (h : ΦI ws (fun _ => True) S) : sWT (.tup ws) S ΦI := ⟨ws, rfl, h⟩
def sWL (y : W) (S : Sto) (Φ : List W → (Sto → Prop) → Sto → Prop) : Prop := ∃ ws, itemsW S y = some ws ∧ (∀ z, y ≠ .tup z) ∧ Φ ws (stillW y ws) S
theorem sWL_l {ws : List W} (h : ΦI ws (fun _ => True) S) : sWL (.lst ws) S ΦI := ⟨ws, rfl, fun _ e => (nomatch e), h⟩
theorem sWL_r {k : Nat} {ws : List W} (e : S[k]? = some (.lst ws)) (h : ΦI ws (stillW (.ref k) ws) S) : sWL (.ref k) S ΦI := ⟨ws, by show (match S[k]? with | some (.lst ws) => some ws | _ => none) = some ws; rw [e], fun _ e => (nomatch e), h⟩
theorem xI_list (h : wE X Ψ iter E S fun y S1 => sWL y S1 ΦI) : wI X Ψ tg iter E S ΦI := wI_list h
theorem xI_tup (h : wE X Ψ iter E S fun y S1 => sWT y S1 ΦI) : wI X Ψ tg iter E S ΦI := wI_tup h
theorem xI_range1 {p : Pos} (hm : X.mg "range" = none) (h : wE X Ψ a E S fun y S1 => sR1 y S1 ΦI) (hg : Gl X "range" := by rfl) (hs : starEach [a] X.env = [(false, eval a X.env)] := by rfl) : wI X Ψ tg (.Call (.Name "range" p) [a] [] pos) E S ΦI := wI_range1 hm h hg hs
theorem xI_range2 {p : Pos} (hm : X.mg "range" = none) (h : wE X Ψ a E S fun x S1 => wE X Ψ b E S1 fun y S2 => sR2 x y S2 ΦI) (hg : Gl X "range" := by rfl) (hs : starEach [a, b] X.env = [(false, eval a X.env), (false, eval b X.env)] := by rfl) (hs2 : starEach [b] X.env = [(false, eval b X.env)] := by rfl)
    (hs3 : starEach [a, b] X.env = (false, eval a X.env) :: starEach [b] X.env := by rfl) : wI X Ψ tg (.Call (.Name "range" p) [a, b] [] pos) E S ΦI := wI_range2 hm h hg hs hs2 hs3
def sWE (y : W) (S : Sto) (Φ : List W → (Sto → Prop) → Sto → Prop) : Prop := ∃ ws, itemsW S y = some ws ∧ (∀ z, y ≠ .tup z) ∧ Φ (enumW 0 ws) (stillW y ws) S
theorem sWE_l {ws : List W} (h : ΦI (enumW 0 ws) (fun _ => True) S) : sWE (.lst ws) S ΦI := ⟨ws, rfl, fun _ e => (nomatch e), h⟩
theorem xI_enum {p tpos : Pos} {elts : List Expr} {kk : Nat} (hm : X.mg "enumerate" = none) (h : wE X Ψ a E S fun y S1 => sWE y S1 ΦI) (hg : Gl X "enumerate" := by rfl) (hs : starEach [a] X.env = [(false, eval a X.env)] := by rfl) : wI X Ψ (.Tuple elts kk tpos) (.Call (.Name "enumerate" p) [a] [] pos) E S ΦI := wI_enum hm h hg hs
theorem xE_lc {x : Str} {px : Pos} {scope : Scope} {elt iter : Expr} {j : Nat} (f : IfK) (hj : Idx x X.N j) (hc : X.calm = true) (hN : X.N.Nodup) (ok : BlkOk X.N X.env.scope scope [(x, j)])
    (h : wI X Ψ (.Name x px) iter E S fun ws still S1 => sLc X scope f elt j E ws still S1 fun acc S' => Φ (.lst acc) S')
    (hx : ∀ (s : Shared) (H : Hp) (C : Addr) (cl : List (Str × Addr)) (fp : List Addr), Loc (Cx.bk X scope s H C cl fp).env.scope x ∧ ((Cx.bk X scope s H C cl fp).fn x = true ∨ (Cx.bk X scope s H C cl fp).env.scope.names.lookup x = some .local) := by intros; exact ⟨by first | exact Or.inl rfl | exact Or.inr rfl, by first | exact Or.inl rfl | exact Or.inr rfl⟩)
    (hs : ∀ x, foldedSetIterable iter X.env x = pure x := by intro _; rfl) : wE X Ψ (.ListComp elt [⟨.Name x px, iter, f.exs, 0⟩] scope pos) E S Φ :=
  wE_lcF j f hc hN ok ⟨fun M σ H r ev xo R g => h.run M σ H r ev xo R fun J vs ys ws still M2 S2 H2 q => g J vs ys ws still M2 S2 H2 (sLc_run q)⟩ hx hs
theorem xS_lc {x y : Str} {px py : Pos} {scope : Scope} {elt iter : Expr} {i j : Nat} (f : IfK) (hy : Idx y X.N i) (hj : Idx x X.N j) (hc : X.calm = true) (hN : X.N.Nodup) (ok : BlkOk X.N X.env.scope scope [(x, j)])
    (h : wI X Ψ (.Name x px) iter E S fun ws still S1 => sLc X scope f elt j E ws still S1 fun acc S' => A.nx (E.set i (some (.lst acc))) S')
    {epos spos : Pos} (hsw : swapsWith (.ListComp elt [⟨.Name x px, iter, f.exs, 0⟩] scope epos) (some (.Name y py)) spos.line X.env = pure true) (hyl : X.env.scope.names.lookup y = some .local := by rfl)
    (hx : ∀ (s : Shared) (H : Hp) (C : Addr) (cl : List (Str × Addr)) (fp : List Addr), Loc (Cx.bk X scope s H C cl fp).env.scope x ∧ ((Cx.bk X scope s H C cl fp).fn x = true ∨ (Cx.bk X scope s H C cl fp).env.scope.names.lookup x = some .local) := by intros; exact ⟨by first | exact Or.inl rfl | exact Or.inr rfl, by first | exact Or.inl rfl | exact Or.inr rfl⟩)
    (hs : ∀ x, foldedSetIterable iter X.env x = pure x := by intro _; rfl) : wS X Ψ (.Assign [.Name y py] (.ListComp elt [⟨.Name x px, iter, f.exs, 0⟩] scope epos) spos) E S A :=
  wS_setLcF i j f hc hN ok ⟨fun M σ H r ev xo R g => h.run M σ H r ev xo R fun J vs ys ws still M2 S2 H2 q => g J vs ys ws still M2 S2 H2 (sLc_run q)⟩ hsw hy.get hyl hx hs
theorem Room.u65 {k : Nat} {A : Around} (r : Room k A) : A.units + 65 < cLine := by
  have := r.un
  omega
def sAndW (k : Bool) (go : (Bool → Sto → Prop) → Prop) (S : Sto) (Φ : Bool → Sto → Prop) : Prop := if k = true then go Φ else Φ false S
theorem sAndW_f {k : Bool} {go} (e : k = false) (h : ΦT false S) : sAndW k go S ΦT := by
  unfold sAndW
  rw [e]
  exact h
theorem sAndW_t {k : Bool} {go} (e : k = true) (h : go ΦT) : sAndW k go S ΦT := by
  unfold sAndW
  rw [e]
  exact h
theorem wW.imp {Φ' : Bool → Sto → Prop} (h : wW X Ψ e E S ΦT) (g : ∀ w S', ΦT w S' → Φ' w S') : wW X Ψ e E S Φ' :=
  ⟨fun M σ H r ev x Q q => h.run M σ H r ev x Q fun k M2 S2 H2 p r2 s2 => q k M2 S2 H2 (g _ _ p) r2 s2⟩
theorem sAndW_p {ka : Bool} (kb : Bool) (h1 : ka = true → wW X Ψ e E S fun w S2 => w = kb ∧ S2 = S) (h : ΦT (ka && kb) S) : sAndW ka (wW X Ψ e E S) S ΦT := by
  cases ka with
  | true => exact sAndW_t rfl ((h1 rfl).imp fun w S' ⟨e1, e2⟩ => by rw [e1, e2]; exact h)
  | false => exact sAndW_f rfl h
def sOrW (k : Bool) (go : (Bool → Sto → Prop) → Prop) (S : Sto) (Φ : Bool → Sto → Prop) : Prop := if k = true then Φ true S else go Φ
theorem sOrW_t {k : Bool} {go} (e : k = true) (h : ΦT true S) : sOrW k go S ΦT := by
  unfold sOrW
  rw [e]
  exact h
theorem sOrW_f {k : Bool} {go} (e : k = false) (h : go ΦT) : sOrW k go S ΦT := by
  unfold sOrW
  rw [e]
  exact h
theorem sOrW_p {ka : Bool} (kb : Bool) (h1 : ka = false → wW X Ψ e E S fun w S2 => w = kb ∧ S2 = S) (h : ΦT (ka || kb) S) : sOrW ka (wW X Ψ e E S) S ΦT := by
  cases ka with
  | true => exact sOrW_t rfl h
  | false => exact sOrW_f rfl ((h1 rfl).imp fun w S' ⟨e1, e2⟩ => by rw [e1, e2]; exact h)
theorem xW_and (h : wT X Ψ a E S fun k S1 => sAndW k (wW X Ψ (.BoolOp .And (b :: rest) pos) E S1) S1 ΦT) : wW X Ψ (.BoolOp .And (a :: b :: rest) pos) E S ΦT := wW_and h
theorem xW_or (h : wT X Ψ a E S fun k S1 => sOrW k (wW X Ψ (.BoolOp .Or (b :: rest) pos) E S1) S1 ΦT) : wW X Ψ (.BoolOp .Or (a :: b :: rest) pos) E S ΦT := wW_or h
/-- a <= b <= c -/
def sChain (g : Int → Int → Bool) (go : (W → Sto → Prop) → Prop) (f : Int → Int → Bool) (x y : W) (S : Sto) (Φ : W → Sto → Prop) : Prop := ∃ i j, x = .int i ∧ y = .int j ∧ if f i j = true then go (fun z S3 => ∃ k, z = .int k ∧ Φ (.bl (g j k)) S3) else Φ (.bl false) S
theorem sChain_p {f g : Int → Int → Bool} {i j : Int} (k : Int) (h1 : wE X Ψ c E S fun z S3 => z = .int k ∧ S3 = S) (h : Φ (.bl (f i j && g j k)) S) : sChain g (wE X Ψ c E S) f (.int i) (.int j) S Φ := by
  refine ⟨i, j, rfl, rfl, ?_⟩
  cases e : f i j with
  | true =>
    rw [e] at h
    rw [if_pos rfl]
    exact h1.imp fun z S3 ⟨e1, e2⟩ => ⟨k, e1, by rw [e2]; exact h⟩
  | false =>
    rw [e] at h
    rw [if_neg Bool.false_ne_true]
    exact h
theorem xE_chain {op op' : CmpOp} {f g : Int → Int → Bool} (ho : OpR X (compareOp op) (rI0 fun i j => .bl (f i j))) (ho' : OpR X (compareOp op') (rI0 fun i j => .bl (g i j)))
    (h : wE X Ψ a E S fun x S1 => wE X Ψ b E S1 fun y S2 => sChain g (wE X Ψ c E S2) f x y S2 Φ) (hm : lastMarks [op, op'] [b, c] = false := by with_unfolding_all rfl) : wE X Ψ (.Compare a [op, op'] [b, c] pos) E S Φ := wE_chainI ho ho' h hm
/-! ### the module's numbers and texts -/
def MgI (mg : Str → Option Value) (x : Str) (i : Int) : Prop := ∃ t, mg x = some (.int i t)
def MgS (mg : Str → Option Value) (x : Str) (i : Str) : Prop := ∃ t, mg x = some (.str i t)
theorem xE_globI {x : Str} {i : Int} (m : MgI X.mg x i) (h : Φ (.int i) S) (hg : Gl X x := by rfl) (hd : (x == ("__debug__" : Str)) = false := by decide +kernel) : wE X Ψ (.Name x pos) E S Φ := by
  obtain ⟨t, m⟩ := m
  exact wE_glob (v := .int i) m ⟨t, rfl⟩ rfl h hg hd
theorem xE_globS {x : Str} {i : Str} (m : MgS X.mg x i) (h : Φ (.str i) S) (hg : Gl X x := by rfl) (hd : (x == ("__debug__" : Str)) = false := by decide +kernel) : wE X Ψ (.Name x pos) E S Φ := by
  obtain ⟨t, m⟩ := m
  exact wE_glob (v := .str i) m ⟨t, rfl⟩ rfl h hg hd
end

-- AM12
/-- a def of the module as the top has made it -/
structure DefAt (K : PySem.W.Frag) (mg : Str → Option Value) (x qual : Str) (st : Stmt) (ps : List Str) : Prop where
  ex : ∃ f fd, mg x = some (.ref f) ∧ PySem.W.keepIn K (.ref f) = true ∧ Fun K x qual st f fd ∧ Binds K fd ps []
structure MethAt (K : PySem.W.Frag) (C : Addr) (m qual : Str) (st : Stmt) (ps : List Str) : Prop where
  ex : ∃ f fd, Meth K C m f ∧ Fun K m qual st f fd ∧ Binds K fd ps []
structure MakeAt (K : PySem.W.Frag) (mg : Str → Option Value) (C : Addr) (x qual : Str) (st : Stmt) (ps : List Str) : Prop where
  ex : ∃ f fd, mg x = some (.ref C) ∧ Mk K C f ∧ Fun K "__init__" qual st f fd ∧ Binds K fd ps []
section
variable {P : Program} {w : World} {K : PySem.W.Frag} {mg : Str → Option Value} {base : Heap} {x qual m : Str} {st : Stmt} {ps N : List Str} {C : Addr} {k : Nat} {asp : ASp}
theorem DefAt.fn (D : DefAt K mg x qual st ps) (sc : FnScope N ps (defScope st))
    (hbody : ∀ (f : Addr) (cdv : Value) (A : Around) (outer : List Env) (s : Shared) (H : Hp) (E : XK), Room k (A.deeper (envOfC qual (defScope st) s.heap.objs.size f cdv)) → ∀ ws S Φ Ψ, ws.length = ps.length → Srl S → asp ws S Φ Ψ →
      wB (cxOf (L2.CX P w) P w K mg base N qual (defScope st) f cdv A outer s H E) (fun cls fs _ S2 => Ψ cls fs S2) (defBody st) (startW N.length ws) S ⟨fun _ S2 => fin S.length Φ .non S2, fin S.length Φ, fun _ _ => False, fun _ _ => False⟩) : CFn P w K mg base x (k + 1) ps.length asp := by
  obtain ⟨f, fd, h1, h2, F, B⟩ := D.ex
  exact ⟨f, fd, ps, h1, h2, B, rfl, fn_ok F sc (hbody f)⟩
theorem MethAt.fn (D : MethAt K C m qual st ps) (sc : FnScope N ps (defScope st))
    (hbody : ∀ (f : Addr) (cdv : Value) (A : Around) (outer : List Env) (s : Shared) (H : Hp) (E : XK), Room k (A.deeper (envOfC qual (defScope st) s.heap.objs.size f cdv)) → ∀ ws S Φ Ψ, ws.length = ps.length → Srl S → asp ws S Φ Ψ →
      wB (cxOf (L2.CX P w) P w K mg base N qual (defScope st) f cdv A outer s H E) (fun cls fs _ S2 => Ψ cls fs S2) (defBody st) (startW N.length ws) S ⟨fun _ S2 => fin S.length Φ .non S2, fin S.length Φ, fun _ _ => False, fun _ _ => False⟩) : CMeth P w K mg base C m (k + 1) ps.length asp := by
  obtain ⟨f, fd, h1, F, B⟩ := D.ex
  exact ⟨f, fd, ps, h1, B, rfl, fn_ok F sc (hbody f)⟩
theorem MakeAt.fn (D : MakeAt K mg C x qual st ps) (sc : FnScope N ps (defScope st))
    (hbody : ∀ (f : Addr) (cdv : Value) (A : Around) (outer : List Env) (s : Shared) (H : Hp) (E : XK), Room k (A.deeper (envOfC qual (defScope st) s.heap.objs.size f cdv)) → ∀ ws S Φ Ψ, ws.length = ps.length → Srl S → asp ws S Φ Ψ →
      wB (cxOf (L2.CX P w) P w K mg base N qual (defScope st) f cdv A outer s H E) (fun cls fs _ S2 => Ψ cls fs S2) (defBody st) (startW N.length ws) S ⟨fun _ S2 => fin S.length Φ .non S2, fin S.length Φ, fun _ _ => False, fun _ _ => False⟩) : CMake P w K mg base x C (k + 1) ps.length asp := by
  obtain ⟨f, fd, h1, h2, F, B⟩ := D.ex
  exact ⟨f, fd, ps, h1, h2, B, rfl, fn_ok F sc (hbody f)⟩
theorem CFn.more {j n : Nat} (F : CFn P w K mg base x k n asp) (h : k = j) : CFn P w K mg base x j n asp := by rw [← h]; exact F
/-- what k_is shows of a def -/
def RawDef (K : PySem.W.Frag) (x qual : Str) (st : Stmt) : Prop :=
  ∃ (f : Addr) (od an : Option Addr) (sl : Array (Option Value)) (oc kV dc pm cd ct : Value), PySem.W.nsIn K mainGlobals x = some (some (.ref f)) ∧
    K.lookup f = some ⟨oc, od, .func (PySem.W.fnOf x qual (defArgs st) (defBody st) (defScope st) .none kV dc pm an cd ct), sl⟩ ∧ PySem.W.codeIn K cd qual = true ∧ PySem.W.keepIn K (.ref f) = true
def RawMeth (K : PySem.W.Frag) (C : Addr) (m qual : Str) (st : Stmt) : Prop :=
  ∃ (f : Addr) (od an : Option Addr) (sl : Array (Option Value)) (oc kV dc pm cd ct : Value), PySem.W.findIn K (.ref C) m = some (some (.ref f)) ∧
    K.lookup f = some ⟨oc, od, .func (PySem.W.fnOf m qual (defArgs st) (defBody st) (defScope st) .none kV dc pm an cd ct), sl⟩ ∧ PySem.W.codeIn K cd qual = true ∧ PySem.W.keepIn K (.ref f) = true ∧ PySem.W.isFn K (.ref f) = true
theorem RawDef.at {h : Heap} (R : RawDef K x qual st) (X : K.In h) (G : h.Ns mainGlobals mg)
    (hb : ∀ (kV doc pm : Value) (an : Option Addr) (cdv ct : Value) (us : List Value), us.length = ps.length → bindArgs (PySem.W.fnOf x qual (defArgs st) (defBody st) (defScope st) .none kV doc pm an cdv ct) ⟨us, []⟩ = pure (ps.zip us)) : DefAt K mg x qual st ps := by
  obtain ⟨f, od, an, sl, oc, kV, dc, pm, cd, ct, h1, h2, h3, h4⟩ := R
  exact ⟨f, _, PySem.W.mg_of X G h1, h4, fun_mk h2 h3 h4, .all (hb kV dc pm an cd ct)⟩
theorem RawMeth.at (R : RawMeth K C m qual st)
    (hb : ∀ (kV doc pm : Value) (an : Option Addr) (cdv ct : Value) (us : List Value), us.length = ps.length → bindArgs (PySem.W.fnOf m qual (defArgs st) (defBody st) (defScope st) .none kV doc pm an cdv ct) ⟨us, []⟩ = pure (ps.zip us)) : MethAt K C m qual st ps := by
  obtain ⟨f, od, an, sl, oc, kV, dc, pm, cd, ct, h1, h2, h3, h4, h5⟩ := R
  exact ⟨f, _, ⟨h1, h5, h4⟩, fun_mk h2 h3 h4, .all (hb kV dc pm an cd ct)⟩
theorem RawMeth.make {h : Heap} (R : RawMeth K C "__init__" qual st) (X : K.In h) (G : h.Ns mainGlobals mg) (hn : PySem.W.nsIn K mainGlobals x = some (some (.ref C))) (hm : PySem.W.makesIn K C = true) (hk : PySem.W.keepIn K (.ref C) = true)
    (hb : ∀ (kV doc pm : Value) (an : Option Addr) (cdv ct : Value) (us : List Value), us.length = ps.length → bindArgs (PySem.W.fnOf "__init__" qual (defArgs st) (defBody st) (defScope st) .none kV doc pm an cdv ct) ⟨us, []⟩ = pure (ps.zip us)) : MakeAt K mg C x qual st ps := by
  obtain ⟨f, od, an, sl, oc, kV, dc, pm, cd, ct, h1, h2, h3, h4, h5⟩ := R
  exact ⟨f, _, PySem.W.mg_of X G hn, ⟨hm, h1, h5, hk⟩, fun_mk h2 h3 h4, .all (hb kV dc pm an cd ct)⟩
theorem mgI_of {h : Heap} {i : Int} (X : K.In h) (G : h.Ns mainGlobals mg) (e : ∃ t, PySem.W.nsIn K mainGlobals x = some (some (.int i t))) : MgI mg x i := by
  obtain ⟨t, e⟩ := e
  exact ⟨t, PySem.W.mg_of X G e⟩
theorem mgS_of {h : Heap} {i : Str} (X : K.In h) (G : h.Ns mainGlobals mg) (e : ∃ t, PySem.W.nsIn K mainGlobals x = some (some (.str i t))) : MgS mg x i := by
  obtain ⟨t, e⟩ := e
  exact ⟨t, PySem.W.mg_of X G e⟩
end

-- AM13
section
variable {X : Cx} {Ψ : AX} {a b c e o elt iter tg : Expr} {es rest : List Expr} {E : AEnv} {S : Sto} {Φ : W → Sto → Prop} {ΦT : Bool → Sto → Prop} {ΦE : AEnv → Sto → Prop} {pos : Pos} {scope : Scope} {A : AE}
/-! ### a tuple of texts of the module -/
def KTup (K : PySem.W.Frag) (mg : Str → Option Value) (x : Str) (ss : List Str) : Prop := ∃ p, mg x = some (.ref p) ∧ ∀ H, SqT K H p (ss.map V.str)
theorem dp_strs {K : PySem.W.Frag} {H : Hp} : ∀ ss : List Str, DpAll K H (ss.map V.str) (W.ds (ss.map W.str))
  | [] => .nil
  | s :: ss => .cons (.str s) (dp_strs ss)
theorem ktup_rule {neg : Bool} {p : Addr} {ss : List Str} (hs : ∀ H, SqT X.K H p (ss.map V.str)) (hk : W.oks (ss.map W.str) 59 = true) :
    OpW X (rInTD X.K neg) fun x y S Φ => x.ok 59 = true ∧ y = .raw (.ref p) ∧ Φ (.bl (if neg then !inW x (ss.map W.str) else inW x (ss.map W.str))) S :=
  opw_pure fun M H S v u x y Φ r a1 a2 ⟨h1, h2, q0⟩ Q q => by
    subst h2
    cases a2
    have dx := VW.dp (K := X.K) r _ _ _ a1 (Den.of x _ h1)
    refine ⟨x.d, W.ds (ss.map W.str), dx, .tup (hs H) (dp_strs ss), W.shaped h1 (by decide), W.shaped (w := .tup (ss.map W.str)) (n := 60) hk (Nat.le_refl _), ?_⟩
    rw [any_ds]
    cases neg with
    | true => exact q _ _ q0 (.bl _)
    | false => exact q _ _ q0 (.bl _)
def sInK (neg : Bool) (ss : List Str) (x : W) (S : Sto) (Φ : W → Sto → Prop) : Prop := x.ok 59 = true ∧ Φ (.bl (if neg then !inW x (ss.map W.str) else inW x (ss.map W.str))) S
theorem sInK_i {neg : Bool} {ss : List Str} {x : W} {k : Bool} (h1 : x.ok 59 = true) (e : inW x (ss.map W.str) = k) (h : Φ (.bl (if neg then !k else k)) S) : sInK neg ss x S Φ := ⟨h1, by rw [e]; exact h⟩
theorem xT_notInK {x : Str} {ss : List Str} {p2 : Pos} (hu : X.A.units + 65 < cLine) (m : KTup X.K X.mg x ss) (hk : W.oks (ss.map W.str) 59 = true) (h : wE X Ψ a E S fun w S1 => sInK true ss w S1 fun w S2 => sB w S2 ΦT) (hg : Gl X x := by rfl) (hd : (x == ("__debug__" : Str)) = false := by decide +kernel)
    (hm : behindInMarks .NotIn (.Name x p2) = false := by rfl) : wT X Ψ (.Compare a [.NotIn] [.Name x p2] pos) E S ΦT := by
  obtain ⟨p, m, hs⟩ := m
  exact wT_cmp (op_notInTD hu) (ktup_rule hs hk) (h.imp fun w S1 ⟨h1, k, e, q⟩ => wE_glob (v := .ref p) m rfl rfl ⟨h1, rfl, k, e, q⟩ hg hd) hm
/-! ### dicts made -/
theorem dt_new {M : Lay} {H : Hp} {S : Sto} (r : Rep M H S) {p : Addr} (hp : H p = none) : Rep (M.add p) (upd H p (.dT [])) (S ++ [.dt []]) ∧ VW (M.add p) (upd H p (.dT [])) (.ref p) (.ref S.length) :=
  ⟨r.new hp (.dt .nil), .ref (by show (M.m ++ [p])[S.length]? = some p; rw [← r.len, List.getElem?_append_right (Nat.le_refl _)]; simp)⟩
/-- {}, its keys will be tuples -/
theorem wE_newT (h : Φ (.ref S.length) (S ++ [.dt []])) : wE X Ψ (.Dict [] [] pos) E S Φ :=
  wE.of pe_dnewT fun M σ H r ev x Q q => fun p hp => q _ _ _ _ _ h (dt_new r hp).1 (dt_new r hp).2 (step_new r hp)
/-! ### dicts read, written -/
theorem dget_t {k : Nat} {kws : List (List Key × W)} {ws : List W} {ks : List Key} (h : S[k]? = some (.dt kws)) (e : keysW ws = some ks) : dgetW S k (.tup ws) = some (valW kws ks) := by
  unfold dgetW
  rw [h]
  show (keysW ws).map _ = _
  rw [e]
  rfl
theorem dget_k {k : Nat} {kws : List (Key × W)} {y : W} {key : Key} (h : S[k]? = some (.dk kws)) (e : keyW y = some key) : dgetW S k y = some (valW kws key) := by
  unfold dgetW
  rw [h]
  show (keyW y).map _ = _
  rw [e]
  rfl
theorem dput_t {k : Nat} {kws : List (List Key × W)} {ws : List W} {ks : List Key} {z : W} (h : S[k]? = some (.dt kws)) (e : keysW ws = some ks) : dputW S k (.tup ws) z = some (S.set k (.dt (putW kws ks z))) := by
  unfold dputW
  rw [h]
  show (keysW ws).map _ = _
  rw [e]
  rfl
theorem dput_k {k : Nat} {kws : List (Key × W)} {y z : W} {key : Key} (h : S[k]? = some (.dk kws)) (e : keyW y = some key) : dputW S k y z = some (S.set k (.dk (putW kws key z))) := by
  unfold dputW
  rw [h]
  show (keyW y).map _ = _
  rw [e]
  rfl
theorem dlen_t {k : Nat} {kws : List (List Key × W)} (h : S[k]? = some (.dt kws)) (hl : kws.length ≤ 100000) : dlenW S k ≤ 100000 := by
  unfold dlenW
  rw [h]
  exact hl
theorem dlen_k {k : Nat} {kws : List (Key × W)} (h : S[k]? = some (.dk kws)) (hl : kws.length ≤ 100000) : dlenW S k ≤ 100000 := by
  unfold dlenW
  rw [h]
  exact hl
/-! ### targets of several names -/
def sGs (X : Cx) (Ψ : AX) (ts : List Expr) (w : W) (E : AEnv) (S : Sto) (Φ : AEnv → Sto → Prop) : Prop := ∃ ws, w = .tup ws ∧ ws.length = ts.length ∧ wGs X Ψ ts ws E S Φ
theorem xG_tup {k : Nat} (hc : X.calm = true) (he : Each X es) {w : W} (h2 : sGs X Ψ es w E S ΦE) (hn : (assignEach es X.env).length = es.length := by rfl) (hst : (assignEach es X.env).findIdx? (·.1) = none := by rfl) : wG X Ψ (.Tuple es k pos) w E S ΦE := wG_tup hc he h2 hn hst
theorem sGs_2 {t u : Expr} {x y : W} (h : wG X Ψ t x E S fun E2 S2 => wG X Ψ u y E2 S2 ΦE) : sGs X Ψ [t, u] (.tup [x, y]) E S ΦE := ⟨_, rfl, rfl, h⟩
theorem sGs_3 {t u v : Expr} {x y z : W} (h : wG X Ψ t x E S fun E2 S2 => wG X Ψ u y E2 S2 fun E3 S3 => wG X Ψ v z E3 S3 ΦE) : sGs X Ψ [t, u, v] (.tup [x, y, z]) E S ΦE := ⟨_, rfl, rfl, h⟩
theorem xS_asg {spos : Pos} (h : wE X Ψ e E S fun w S1 => wG X Ψ tg w E S1 A.nx) (hs : swapsWithSole [tg] e spos.line X.env = pure false := by rfl) (hw : swappedStores [tg] e X.env = pure none := by rfl)
    (h1 : (assignEach [tg] X.env).map (·.2) = [assign tg X.env] := by rfl) : wS X Ψ (.Assign [tg] e spos) E S A := wS_asg h hs hw h1
theorem enum_inv {ws : List W} {n i : Nat} {w : W} (h : (enumW n ws)[i]? = some w) : ∃ u, ws[i]? = some u ∧ w = .tup [.int ((n + i : Nat) : Int), u] := by
  cases e : ws[i]? with
  | none =>
    have hl : ws.length ≤ i := List.getElem?_eq_none_iff.mp e
    rw [List.getElem?_eq_none (by rw [enum_len]; exact hl)] at h
    cases h
  | some u =>
    rw [enum_get e] at h
    exact ⟨u, rfl, (Option.some.inj h).symm⟩
theorem map_inv {α : Type} {f : α → W} {xs : List α} {i : Nat} {w : W} (h : (xs.map f)[i]? = some w) : ∃ x, xs[i]? = some x ∧ w = f x := by
  rw [List.getElem?_map] at h
  cases e : xs[i]? with
  | none => rw [e] at h; cases h
  | some x => rw [e] at h; exact ⟨x, rfl, (Option.some.inj h).symm⟩
theorem ktup_of {K : PySem.W.Frag} {mg : Str → Option Value} {h : Heap} {x : Str} {ss : List Str} {its : Array Value} (X : K.In h) (G : h.Ns mainGlobals mg) (hz : its.size ≤ sizeLine) (hv : Vals (ss.map V.str) its.toList)
    (e : ∃ p od n sl, PySem.W.nsIn K mainGlobals x = some (some (.ref p)) ∧ K.lookup p = some ⟨.type "tuple", od, .seq its n, sl⟩) : KTup K mg x ss := by
  obtain ⟨p, od, n, sl, h1, h2⟩ := e
  exact ⟨p, PySem.W.mg_of X G h1, fun H => .inr ⟨_, its, n, h2, rfl, rfl, hz, hv⟩⟩
theorem ktup2_of {K : PySem.W.Frag} {mg : Str → Option Value} {h : Heap} {x a b : Str} (X : K.In h) (G : h.Ns mainGlobals mg)
    (e : ∃ p od n sl t u, PySem.W.nsIn K mainGlobals x = some (some (.ref p)) ∧ K.lookup p = some ⟨.type "tuple", od, .seq #[.str a t, .str b u] n, sl⟩) : KTup K mg x [a, b] := by
  obtain ⟨p, od, n, sl, t, u, h1, h2⟩ := e
  exact ktup_of (its := #[.str a t, .str b u]) X G (show 2 ≤ sizeLine by decide) (.cons ⟨t, rfl⟩ (.cons ⟨u, rfl⟩ .nil)) ⟨p, od, n, sl, h1, h2⟩
end

-- AM14
section
variable {X : Cx} {Ψ : AX} {a b c e o elt iter tg : Expr} {es rest : List Expr} {E : AEnv} {S : Sto} {Φ : W → Sto → Prop} {ΦT : Bool → Sto → Prop} {ΦE : AEnv → Sto → Prop} {pos : Pos} {scope : Scope} {A : AE}
def sLset (x y w : W) (S : Sto) (Φ : Sto → Prop) : Prop := ∃ k ws i j, x = .ref k ∧ S[k]? = some (.lst ws) ∧ y = .int i ∧ ixN ws.length i = some j ∧ Φ (S.set k (.lst (ws.set j w)))
theorem sLset_i {w : W} {k : Nat} {ws : List W} {i : Int} {j : Nat} {Φ : Sto → Prop} (h1 : S[k]? = some (.lst ws)) (h2 : ixN ws.length i = some j) (h : Φ (S.set k (.lst (ws.set j w)))) : sLset (.ref k) (.int i) w S Φ := ⟨k, ws, i, j, rfl, h1, rfl, h2, h⟩
theorem xG_lset {w : W} (h : wE X Ψ o E S fun x S1 => wE X Ψ a E S1 fun y S2 => sLset x y w S2 fun S3 => ΦE E S3) (ha : ∀ v, assign (.Subscript o a pos) X.env v = (do
      let ov ← holding [v] (eval o X.env)
      let iv ← holding [v, ov] (eval a X.env)
      standAt pos
      holding [v, ov, iv] (setItem ov iv v)
      release [v, ov, iv] []) := by intro _; rfl) : wG X Ψ (.Subscript o a pos) w E S ΦE := wG_sub set_list setw_list (h.imp fun x S1 h => h.imp fun y S2 h => h) ha
def sIxScr (K : PySem.W.Frag) (x y : W) (S : Sto) (Φ : W → Sto → Prop) : Prop := ∃ ns i m, x = .scr K ns ∧ y = .int i ∧ atI ns i = some m ∧ Φ (.int m) S
theorem sIxScr_i {K : PySem.W.Frag} {ns : List Int} {i m : Int} (e : atI ns i = some m) (h : Φ (.int m) S) : sIxScr K (.scr K ns) (.int i) S Φ := ⟨ns, i, m, rfl, rfl, e, h⟩
theorem xE_ixScr (h : wE X Ψ a E S fun x S1 => wE X Ψ b E S1 fun y S2 => sIxScr X.K x y S2 Φ) (hs : PlainIx b := by exact fun _ _ => rfl) : wE X Ψ (.Subscript a b pos) E S Φ := wE_ixScr h hs
theorem xE_mulI (h : wE X Ψ a E S fun x S1 => wE X Ψ b E S1 fun y S2 => sII CMul (fun i j => .int (i * j)) x y S2 Φ) : wE X Ψ (.BinOp a .Mult b pos) E S Φ := wE_mul h
theorem atI_scr {ns : List Int} {i : Int} (h0 : 0 ≤ i) (h1 : i < ns.length) : ∃ m, atI ns i = some m := by
  unfold atI ixN
  rw [if_pos h0, if_pos h1]
  exact ⟨_, List.getElem?_eq_getElem (by omega)⟩
/-- a draw, told as any number below the bound -/
def asp_taken (K : PySem.W.Frag) : ASp := fun ws S Φ _ => ∃ r m, ws = [.ref r, .int m] ∧ S[r]? = some (.row K) ∧ 0 < m ∧ m ≤ 2147483647 ∧ ∀ v : Int, 0 ≤ v → v < m → Φ (.int v) S
end

-- AM15
section
variable {X : Cx} {pins : List (Addr × Obj)} {σ : L2.St} {H : Hp} {s : Shared}
end
def mergeW (kws more : List (Key × W)) : List (Key × W) := more.foldl (fun acc kv => putW acc kv.1 kv.2) kws
theorem merge_vw {M : Lay} {H : Hp} {more : List (Key × V)} {mw : List (Key × W)} (h : PVW M H more mw) : ∀ {kvs : List (Key × V)} {kws : List (Key × W)}, PVW M H kvs kws → PVW M H (mergeK kvs more) (mergeW kws mw) := by
  induction h with
  | nil => intro kvs kws r; exact r
  | @cons p q more mw e t ih =>
    intro kvs kws r
    obtain ⟨k, v⟩ := p
    obtain ⟨k', w⟩ := q
    obtain ⟨e1, a⟩ := e
    have e1 : k = k' := e1
    subst e1
    exact ih (kvs := putK kvs k v) (kws := putW kws k w) (put_vw r a)
section
variable {X : Cx} {Ψ : AX} {a b c e o : Expr} {es : List Expr} {E : AEnv} {S : Sto} {Φ : W → Sto → Prop} {pos : Pos}
end

-- AM16
section
variable {M : Lay} {H : Hp} {p : Addr}
/-- the hidden one becomes the next mutable object -/
theorem vw_mv : ∀ {w v}, VW (M.hid p) H v w → VW (M.add p) H v w := by
  intro w v h
  have o : ∀ {a : Addr}, (M.hid p).out a → (M.add p).out a := fun z => ⟨fun m => by
    rcases List.mem_append.mp m with m | m
    · exact z.1 m
    · exact z.2 (by rw [List.mem_singleton.mp m]; exact List.mem_cons_self), fun m => z.2 (List.mem_cons_of_mem _ m)⟩
  refine VW.rec (motive_1 := fun v w _ => VW (M.add p) H v w) (motive_2 := fun v w _ => VWs (M.add p) H v w) .non .bl .int .str ?_ ?_ ?_ .raw ?_ ?_ ?_ .nil ?_ h
  · intro a xs ws q _ ih
    exact .tup ⟨q.1, o q.2⟩ ih
  · intro a xs ws q _ ih
    exact .lst ⟨q.1, o q.2⟩ ih
  · intro a k q
    exact .ref (by
      show (M.m ++ [p])[k]? = _
      have q : M.m[k]? = some _ := q
      rw [List.getElem?_append_left (List.getElem?_eq_some_iff.mp q).1]
      exact q)
  · intro K a ns q
    refine .scr ?_
    rcases q with ⟨q, qo⟩ | q
    · exact .inl ⟨q, o qo⟩
    · exact .inr q
  · intro a d f i q1 q2
    exact .xi (o q1) q2
  · intro a fs q
    exact .thg fun z hz => ⟨o (q z hz).1, (q z hz).2⟩
  · intro v vs w ws _ _ i1 i2
    exact .cons i1 i2
theorem vws_mv : ∀ {ws vs}, VWs (M.hid p) H vs ws → VWs (M.add p) H vs ws := by
  intro ws
  induction ws with
  | nil => intro vs h; cases h; exact .nil
  | cons w ws ih =>
    intro vs h
    cases h with
    | cons a b => exact .cons (vw_mv a) (ih b)
theorem pvw_mv {κ : Type} {xs : List (κ × V)} {ws : List (κ × W)} (h : PVW (M.hid p) H xs ws) : PVW (M.add p) H xs ws := Paired.mapP h fun _ _ r => ⟨r.1, vw_mv r.2⟩
theorem Rep.adopt {S : Sto} (pn : p ∉ M.h) (r : Rep (M.hid p) H S) {u ho : HO} {o : O} (hu : H p = some u) (nt : (∀ ps, u ≠ .tbl ps) ∧ ∀ f, u ≠ .ext f) (b : Ob (M.add p) (upd H p ho) ho o) (nh : ∀ f, ho ≠ .ext f := by intro _ z; cases z) (nt9 : ∀ P q, o ≠ O.tab P q := by intro _ _ z; cases z) : Rep (M.add p) (upd H p ho) (S ++ [o]) := by
  obtain ⟨f, r2⟩ := step_over r (ho := ho) List.mem_cons_self hu nt
  have pm : p ∉ M.m := (r.hid p List.mem_cons_self).2
  refine ⟨?_, by simp [r.len], fun k q x h1 h2 => ?_, fun q hq => ?_, fun k P q e => ?_⟩
  · refine List.nodup_append.mpr ⟨r.nd, by simp, fun a ha b hb e => ?_⟩
    rw [List.mem_singleton.mp hb] at e
    subst e
    exact pm ha
  · have h1 : (M.m ++ [p])[k]? = some q := h1
    have hl : M.m.length = S.length := r.len
    by_cases hk : k < M.m.length
    · rw [List.getElem?_append_left hk] at h1
      rw [List.getElem?_append_left (by rw [← hl]; exact hk)] at h2
      obtain ⟨hq, e, b'⟩ := r2.at_ k q x h1 h2
      refine ⟨hq, e, ?_⟩
      cases b' with
      | lst a => exact .lst (vws_mv a)
      | dk a => exact .dk (pvw_mv a)
      | dt a => exact .dt (pvw_mv a)
      | ins a => exact .ins (pvw_mv a)
      | row a =>
        obtain ⟨v, ns, i, z, e, a, q⟩ := a
        exact .row ⟨v, ns, i, z, e, vw_mv a, q⟩
      | any m n => exact .any m n
      | tab t q =>
        refine .tab t fun pos cv e => ?_
        obtain ⟨c, h1, h2, h3⟩ := q pos cv e
        refine ⟨c, h1, ⟨fun z => ?_, fun m => h2.2 (List.mem_cons_of_mem _ m)⟩, h3⟩
        rcases List.mem_append.mp z with z | z
        · exact h2.1 z
        · exact h2.2 (by rw [List.mem_singleton.mp z]; exact List.mem_cons_self)
    · rw [List.getElem?_append_right (by omega)] at h1
      rw [List.getElem?_append_right (by rw [← hl]; omega)] at h2
      have e0 : k - M.m.length = 0 := by
        have q := (List.getElem?_eq_some_iff.mp h1).1
        simp at q; omega
      have e1 : k - S.length = 0 := by rw [← hl]; exact e0
      rw [e0] at h1; rw [e1] at h2
      simp at h1 h2
      subst h1; subst h2
      exact ⟨ho, upd_same, b⟩
  · obtain ⟨h1, h2⟩ := r2.hid q (List.mem_cons_of_mem _ hq)
    refine ⟨h1, fun m => ?_⟩
    rcases List.mem_append.mp m with m | m
    · exact h2 m
    · rw [List.mem_singleton.mp m] at hq
      exact pn hq
  · by_cases hk : k < S.length
    · rw [List.getElem?_append_left hk] at e
      exact (List.getElem?_append_left (by have h9 : M.m.length = S.length := r.len; omega)).trans (r.tb k P q e)
    · rw [List.getElem?_append_right (by omega)] at e
      exact absurd (List.mem_singleton.mp (List.mem_of_getElem? e)).symm (nt9 P q)
theorem step_adopt {M1 : Lay} {H1 : Hp} {S1 : Sto} {m2 : List Addr} {H2 : Hp} {ho : HO} (r1 : Rep M1 H1 S1) (hD : H1 p = none) (s : Step M1 H1 ⟨m2, M1.h⟩ H2) : Step M1 H1 ⟨m2 ++ [p], M1.h⟩ (upd H2 p ho) where
  pre := List.IsPrefix.trans s.pre (List.prefix_append _ _)
  new := fun q h n => by
    by_cases e : q = p
    · rw [e]; exact hD
    · exact s.new q (fun z => h ⟨fun m => by
        rcases List.mem_append.mp m with m | m
        · exact z.1 m
        · exact e (List.mem_singleton.mp m), z.2⟩) n
  keep := fun a o h nt m => by rw [upd_ne (ne_of_none h hD)]; exact s.keep a o h nt m
  tbl := fun a ps m h => by rw [upd_ne (ne_of_none h hD)]; exact s.tbl a ps m h
  there := fun a m h => by
    have n : a ≠ p := fun e => h (by rw [e]; exact hD)
    rw [upd_ne n]
    exact s.there a m h
  old := fun a m h => by
    rcases List.mem_append.mp m with m | m
    · exact s.old a m h
    · rw [List.mem_singleton.mp m] at h
      exact absurd hD (r1.hid p h).1
  hold := rfl
end
section
variable {X : Cx} {Ψ : AX} {a b c e o : Expr} {es : List Expr} {E : AEnv} {S : Sto} {Φ : W → Sto → Prop} {pos : Pos}
/-- {"x": .., ..}: the keys are texts written out -/
inductive KeysAre : List (Option Expr) → List Str → Prop
  | nil : KeysAre [] []
  | cons {x : Str} {j : Nat} {p : Pos} {ks xs} (h : KeysAre ks xs) : KeysAre (some (.Constant (.str x) j p) :: ks) (x :: xs)
def wVs (X : Cx) (Ψ : AX) : List Expr → AEnv → Sto → (List W → Sto → Prop) → Prop
  | [], _, S, Φ => Φ [] S
  | v :: vs, E, S, Φ => wE X Ψ v E S fun w S1 => wVs X Ψ vs E S1 fun ws S2 => Φ (w :: ws) S2
def trsOf (X : Cx) : List (Option Expr) → List Expr → List (TE × TE)
  | some k :: ks, v :: vs => (sem X k, sem X v) :: trsOf X ks vs
  | _, _ => []
theorem pps_of : ∀ {keys : List (Option Expr)} {xs : List Str}, KeysAre keys xs → ∀ {vs : List Expr}, keys.length = vs.length → PPs X pos keys vs (trsOf X keys vs)
  | _, _, .nil, [], _ => pps_nil
  | _, _, .cons h, v :: vs, hl => pps_cons pe_sem pe_sem (pps_of h (by simpa using hl))
theorem pairs_run : ∀ {keys : List (Option Expr)} {xs : List Str}, KeysAre keys xs → ∀ {vs : List Expr} {S : Sto} {Φ : List W → Sto → Prop}, keys.length = vs.length → wVs X Ψ vs E S Φ → ∀ {M : Lay} {σ : L2.St} {H : Hp}, Rep M H S → EvOk M H σ E → ExcOk X M H Ψ → ∀ {Q : List (V × V) → Hp → Prop},
    (∀ us ws M2 S2 H2, Φ ws S2 → Rep M2 H2 S2 → VWs M2 H2 us ws → us.length = xs.length → Step M H M2 H2 → Q ((xs.zip us).map fun p => (V.str p.1, p.2)) H2) → tPairs (trsOf X keys vs) σ H Q
  | _, _, .nil, [], S, Φ, _, h, M, σ, H, r, ev, xo, Q, q => q [] [] M S H h r .nil rfl (Step.refl _ _)
  | _, _, .cons (x := x) (j := j) (p := pp) hk, v :: vs, S, Φ, hl, h, M, σ, H, r, ev, xo, Q, q => by
    show sem X (.Constant (.str x) j pp) σ H _
    refine (wE_str (X := X) (Ψ := Ψ) (E := E) (S := S) (Φ := fun w S' => w = .str x ∧ S' = S) ⟨rfl, rfl⟩).run M σ H r ev xo _ fun u w M1 S1 H1 p r1 a1 s1 => ?_
    obtain ⟨e1, e2⟩ := p
    subst e1; subst e2
    cases a1
    refine (show wE X Ψ v E S1 _ from h).run M1 σ H1 r1 (ev.step s1) (xo.step s1) _ fun u w M2 S2 H2 p r2 a2 s2 => ?_
    refine pairs_run hk (by simpa using hl) p r2 ((ev.step s1).step s2) ((xo.step s1).step s2) fun us ws M3 S3 H3 p3 r3 a3 l3 s3 => ?_
    exact q (u :: us) (w :: ws) M3 S3 H3 p3 r3 (.cons (VW.step s3 _ _ a2) a3) (by simp [l3]) ((s1.trans s2).trans s3)
theorem zip_kv {xs : List Str} {us : List V} : (xs.zip us).map (fun p => (V.str p.1, p.2)) = ((xs.map (Sum.inr : Str → Key)).zip us).map fun kv => (kV kv.1, kv.2) := by
  induction xs generalizing us with
  | nil => rfl
  | cons x xs ih =>
    cases us with
    | nil => rfl
    | cons u us =>
      simp only [List.zip_cons_cons, List.map_cons]
      rw [ih]
      rfl
theorem pvw_zip {M : Lay} {H : Hp} {ks : List Key} : ∀ {us : List V} {ws : List W}, VWs M H us ws → PVW M H (ks.zip us) (ks.zip ws) := by
  induction ks with
  | nil => intro us ws _; exact .nil
  | cons k ks ih =>
    intro us ws h
    cases h with
    | nil => exact .nil
    | cons a b => exact .cons ⟨rfl, a⟩ (ih b)
theorem keys_all : ∀ {keys : List (Option Expr)} {xs : List Str}, KeysAre keys xs → keys.all (·.isSome) = true ∧ keys.length = xs.length
  | _, _, .nil => ⟨rfl, rfl⟩
  | _, _, .cons h => by
    obtain ⟨h1, h2⟩ := keys_all h
    exact ⟨by simp [h1], by simp [h2]⟩
theorem wE_disp {keys : List (Option Expr)} {values : List Expr} {xs : List Str} (hk : KeysAre keys xs) (hl : keys.length = values.length) (h0 : keys ≠ []) (h15 : keys.length ≤ 15)
    (h : wVs X nox values E S fun ws S1 => Φ (.ref S1.length) (S1 ++ [.dk (mergeW [] ((xs.map Sum.inr).zip ws))])) : wE X Ψ (.Dict keys values pos) E S Φ := by
  obtain ⟨ka, kl⟩ := keys_all hk
  refine wE.of (pe_disp (pps_of hk hl) ka hl h0 h15) fun M σ H r ev x Q q => fun p hp => ?_
  have pn : p ∉ M.h := fun z => (r.hid p z).1 hp
  have evh : EvOk (M.hid p) (upd H p (.dK [])) σ E := ⟨ev.1, fun i w h => by
    obtain ⟨v, h1, h2⟩ := ev.2 i w h
    exact ⟨v, h1, hid_vw r hp h2⟩⟩
  refine pairs_run hk hl h (r.hide hp) evh ExcOk.none fun us ws M2 S2 H2 pf r2 a2 l2 s2 => ?_
  have e : M2 = ⟨M2.m, p :: M.h⟩ := by
    have z := s2.hold
    cases M2
    simp only at z
    rw [z]
  have pm : p ∉ M.m := (r.hide (ho := .dK []) hp).hid p List.mem_cons_self |>.2
  have h2 : H2 p = some (.dK []) := s2.keep p _ upd_same (fun ps z => (nomatch z)) pm
  refine ⟨h2, (xs.map Sum.inr).zip us, zip_kv, ?_, ?_⟩
  · rw [List.length_zip, List.length_map]
    omega
  · rw [e] at r2 a2 s2
    have r2' : Rep ((⟨M2.m, M.h⟩ : Lay).hid p) H2 S2 := r2
    have sb := step_behind (step_free (ho := .dK []) (Step.refl M H) hp) hp s2
    have st := step_adopt (ho := .dK (mergeK [] ((xs.map Sum.inr).zip us))) r hp sb
    obtain ⟨fo, _⟩ := step_over r2' (ho := .dK (mergeK [] ((xs.map Sum.inr).zip us))) List.mem_cons_self h2 ⟨fun ps z => (nomatch z), fun f z => (nomatch z)⟩
    have pv : PVW ((⟨M2.m, M.h⟩ : Lay).add p) (upd H2 p (.dK (mergeK [] ((xs.map Sum.inr).zip us)))) (mergeK [] ((xs.map Sum.inr).zip us)) (mergeW [] ((xs.map Sum.inr).zip ws)) :=
      pvw_mv (Paired.mapP (merge_vw (pvw_zip a2) .nil) fun _ _ z => ⟨z.1, fo _ _ z.2⟩)
    have ra := Rep.adopt (M := ⟨M2.m, M.h⟩) pn r2' (ho := .dK (mergeK [] ((xs.map Sum.inr).zip us))) (o := .dk (mergeW [] ((xs.map Sum.inr).zip ws))) h2 ⟨fun ps z => (nomatch z), fun f z => (nomatch z)⟩ (.dk pv)
    refine q _ _ _ _ _ pf ra (.ref ?_) st
    show (M2.m ++ [p])[S2.length]? = some p
    rw [← show M2.m.length = S2.length from r2.len, List.getElem?_append_right (Nat.le_refl _)]
    simp
end

-- AM17
section
variable {X : Cx} {Ψ : AX} {a : Expr} {E : AEnv} {S : Sto} {Φ : W → Sto → Prop} {pos : Pos}
theorem ints_vw {M : Lay} {H : Hp} : ∀ l : List Int, VWs M H (l.map V.int) (l.map W.int)
  | [] => .nil
  | i :: l => .cons (.int i) (ints_vw l)
end

-- AM18
section
variable {X : Cx} {Ψ : AX} {a o e : Expr} {E : AEnv} {S : Sto} {Φ : W → Sto → Prop} {pos : Pos}
theorem vws_ints {M : Lay} {H : Hp} : ∀ {xs : List V} (l : List Int), VWs M H xs (l.map W.int) → xs = l.map V.int
  | _, [], .nil => rfl
  | _, i :: l, .cons (.int _) b => by rw [vws_ints l b]; rfl
theorem vws_get {M : Lay} {H : Hp} : ∀ {xs : List V} {ws : List W} {k : Nat} {y : W}, VWs M H xs ws → ws[k]? = some y → ∃ v, xs[k]? = some v ∧ VW M H v y
  | _, _, 0, _, .cons a b, e => by cases e; exact ⟨_, rfl, a⟩
  | _, _, k + 1, _, .cons a b, e => vws_get b (k := k) (by simpa using e)
theorem vws_erase {M : Lay} {H : Hp} : ∀ {xs : List V} {ws : List W} {k : Nat}, VWs M H xs ws → VWs M H (xs.eraseIdx k) (ws.eraseIdx k)
  | _, _, _, .nil => .nil
  | _, _, 0, .cons a b => b
  | _, _, k + 1, .cons a b => .cons a (vws_erase b)
theorem VW.step' {M M2 : Lay} {H H2 : Hp} {v : V} {w : W} (s : Step M H M2 H2) (a : VW M H v w) : VW M2 H2 v w := VW.step s _ _ a
/-- -1, as it is written -/
theorem xE_neg {i : Int} {kk : Nat} {p1 p2 : Pos} (h : Φ (.int (-i)) S) : wE X Ψ (.UnaryOp .USub (.Constant (.int i) kk p1) p2) E S Φ :=
  wE.of (pe_un un_neg pe_int) fun M σ H r ev x Q q => ⟨_, rfl, q _ _ M S H h r (.int _) (Step.refl _ _)⟩
end

-- AM19
/-! ### a tuple told once, or not at all -/
section
variable {X : Cx} {Ψ : AX} {a b o e : Expr} {E : AEnv} {S : Sto} {Φ : W → Sto → Prop} {ΦT : Bool → Sto → Prop} {pos : Pos}
/-- a tuple and a tuple -/
def sCatT (x y : W) (S : Sto) (Φ : W → Sto → Prop) : Prop := ∃ xs ys, x = .tup xs ∧ y = .tup ys ∧ xs.length + ys.length ≤ 100000 ∧ Φ (.tup (xs ++ ys)) S
theorem sCatT_i {xs ys : List W} (hl : xs.length + ys.length ≤ 100000) (h : Φ (.tup (xs ++ ys)) S) : sCatT (.tup xs) (.tup ys) S Φ := ⟨xs, ys, rfl, rfl, hl, h⟩
theorem xE_catT (h : wE X Ψ a E S fun x S1 => wE X Ψ b E S1 fun y S2 => sCatT x y S2 Φ) : wE X Ψ (.BinOp a .Add b pos) E S Φ :=
  wE_op (g := sCatT) op_catA (fun M H S v u x y Φ r a1 a2 ⟨xs, ys, e1, e2, hl, p⟩ Q q => by
    subst e1; subst e2
    cases a1 with
    | tup k1 k2 =>
      cases a2 with
      | tup k3 k4 =>
        refine ⟨_, _, _, _, rfl, rfl, k1.sq, k3.sq, Nat.le_trans (by rw [k2.length, k4.length]; exact hl) (by decide), fun e => ?_, fun e1 e => ?_, fun e1 e2 p' hp => q _ _ M S _ p (r.tmp hp) (tq_new r hp (k2.append k4)) (step_tmp r hp)⟩
        · subst e
          cases k2
          exact q _ _ M S H p r (.tup k3 k4) (Step.refl _ _)
        · subst e
          cases k4
          rw [List.append_nil] at p
          exact q _ _ M S H p r (.tup k1 k2) (Step.refl _ _)) h
/-! ### texts -/
/-! ### str, int -/
theorem callr_or {f : Value} {r1 r2 : List V → Hp → VK → Prop} (h1 : CallR X f r1) (h2 : CallR X f r2) : CallR X f (fun xs H Q => r1 xs H Q ∨ r2 xs H Q) := fun pins s σ H xs us Q I r h => h.elim (h1 pins s σ H xs us Q I r) (h2 pins s σ H xs us Q I r)
def sStrOf (x : W) (S : Sto) (Φ : W → Sto → Prop) : Prop := (∃ i : Int, x = .int i ∧ i.natAbs.log2 < 1920 ∧ Φ (.str (toString i)) S) ∨ ∃ a : Str, x = .str a ∧ Φ (.str a) S
theorem sStrOf_I {i : Int} (h1 : i.natAbs.log2 < 1920) (h : Φ (.str (toString i)) S) : sStrOf (.int i) S Φ := .inl ⟨i, rfl, h1, h⟩
theorem xE_str {p : Pos} (hm : X.mg "str" = none) (h : wE X Ψ e E S fun w S1 => sStrOf w S1 Φ) (hg : Gl X "str" := by rfl) (he : starEach [e] X.env = (false, eval e X.env) :: starEach [] X.env := by rfl) (hpl : (backTo pos (starEach [] X.env)).any (·.1) = false := by rfl) : wE X Ψ (.Call (.Name "str" p) [e] [] pos) E S Φ :=
  wE_callTy (g := fun us S Φ => ∃ w, us = [w] ∧ sStrOf w S Φ) (callr_or call_str_int SkE.call_str_str) (callw_one (fun M H S v w Φ r a ⟨w', e, p⟩ Q q => by
    cases e
    rcases p with ⟨i, e1, h1, p⟩ | ⟨x, e1, p⟩
    · subst e1
      cases a
      exact .inl ⟨i, rfl, h1, q _ _ M S H p r (.str _) (Step.refl _ _)⟩
    · subst e1
      cases a
      exact .inr ⟨x, rfl, q _ _ M S H p r (.str _) (Step.refl _ _)⟩) fun ws S Φ ⟨w, e, _⟩ => ⟨_, e⟩) hm PyProof.Rows.boot_str (wA_cons (h.imp fun w S1 p => wA_nil ⟨w, rfl, p⟩) he) hg (by decide) (by decide) he hpl
/-! ### a dict of the module with text keys, its values ints -/
structure KTab (K : PySem.W.Frag) (w : World) (mg : Str → Option Value) (x : Str) (kvs : List (Str × Int)) : Prop where
  ex : ∃ d es n, mg x = some (.ref d) ∧ KDict K w d es n ∧ ∀ kv ∈ kvs, ∃ t, PySem.W.nsIn K d kv.1 = some (some (.int kv.2 t))
end

-- AM20
section
variable {X : Cx} {Ψ : AX} {a b o e : Expr} {E : AEnv} {S : Sto} {Φ : W → Sto → Prop} {ΦT : Bool → Sto → Prop} {pos : Pos}
/-! ### sorted of told data -/
def encB (b : V × W) : PyData := b.2.d
def rSortedW (X : Cx) : List V → Hp → VK → Prop := fun vs H Q => ∃ (a : Addr) (bs : List (V × W)), vs = [V.ref a] ∧ SqL X.K H a (bs.map (·.1)) ∧ (∀ b ∈ bs, Dp X.K H b.1 b.2.d) ∧ PySem.W.AllAlike (bs.map encB) ∧ PySem.W.Sortable (bs.map encB) ∧ (∀ b ∈ bs, X.A.units + 2 + (encB b).depth < cLine) ∧
  ∀ p, H p = none → Q (.ref p) (upd H p (.lst ((bs.mergeSort (PySem.W.dataLe false encB)).map (·.1))))
theorem each_vals {s : Shared} : ∀ {bs : List (V × W)} {its : List Value}, Vals (bs.map (·.1)) its → PySem.W.EachIs (fun v (b : V × W) => RelV b.1 v) its bs
  | [], _, .nil => .nil
  | b :: bs, _, .cons r t => .cons r (each_vals (s := s) t)
theorem vals_each : ∀ {bs : List (V × W)} {its : List Value}, PySem.W.EachIs (fun v (b : V × W) => RelV b.1 v) its bs → Vals (bs.map (·.1)) its
  | [], _, .nil => .nil
  | b :: bs, _, .cons r t => .cons r (vals_each t)
theorem each_reads {pins : List (Addr × Obj)} {σ : L2.St} {H : Hp} {s : Shared} (I : Inv X pins σ H s) : ∀ {bs : List (V × W)} {its : List Value}, (∀ b ∈ bs, Dp X.K H b.1 b.2.d) → Vals (bs.map (·.1)) its → PySem.W.EachIs (fun v (b : V × W) => ∃ as, Reads s.heap v (encB b) as) its bs
  | [], _, _, .nil => .nil
  | b :: bs, _, h, .cons r t => .cons (Dp.reads I _ _ _ (h b List.mem_cons_self) r) (each_reads I (fun z hz => h z (List.mem_cons_of_mem _ hz)) t)
theorem cr_sortedW : CallR X (.builtin "sorted") (rSortedW X) := by
  intro pins s σ H vs us Q I r h
  obtain ⟨a, bs, rfl, hs, hdp, hal, hk, hu, q⟩ := h
  obtain ⟨its, rv, hl, hz⟩ := I.list hs
  obtain ⟨u, rfl, ru⟩ := vals1 r
  obtain rfl : u = Value.ref a := ru
  rw [List.length_map] at hz
  refine PySem.W.sorted_data (enc := encB) hl.isList (each_vals (s := s) rv) (each_reads I hdp rv) hal hk hz hu fun out ho eo => ?_
  obtain ⟨n, hn⟩ := sortedAll_at s.heap its out.toArray
  have hlen : ((bs.mergeSort (PySem.W.dataLe false encB)).map (·.1)).length ≤ sizeLine := by rw [List.length_map, List.length_mergeSort]; exact hz
  exact ⟨.ref (s.heap.objs.size + 1), upd H (s.heap.objs.size + 1) (.lst ((bs.mergeSort (PySem.W.dataLe false encB)).map (·.1))), I.laid (t' := s.toks) (fun b ob q => sortedAll_old q) (Nat.le_succ _) ⟨hlen, out, n, vals_each eo, hn⟩, rfl, q _ (I.hok.fresh (Nat.le_succ _))⟩
def sortW (ws : List W) : List W := ws.mergeSort (PySem.W.dataLe false W.d)
theorem vws_zip {M : Lay} {H : Hp} : ∀ {vs : List V} {ws : List W}, VWs M H vs ws → ((vs.zip ws).map (·.1) = vs ∧ (vs.zip ws).map (·.2) = ws) ∧ ∀ b ∈ vs.zip ws, VW M H b.1 b.2
  | _, _, .nil => ⟨⟨rfl, rfl⟩, fun b hb => by cases hb⟩
  | _, _, .cons a r => by
    obtain ⟨⟨h1, h2⟩, h3⟩ := vws_zip r
    refine ⟨⟨by rw [List.zip_cons_cons, List.map_cons, h1], by rw [List.zip_cons_cons, List.map_cons, h2]⟩, fun b hb => ?_⟩
    rw [List.zip_cons_cons] at hb
    rcases List.mem_cons.mp hb with rfl | hb
    · exact a
    · exact h3 b hb
theorem zip_vws {M : Lay} {H : Hp} : ∀ {bs : List (V × W)}, (∀ b ∈ bs, VW M H b.1 b.2) → VWs M H (bs.map (·.1)) (bs.map (·.2))
  | [], _ => .nil
  | b :: bs, h => .cons (h b List.mem_cons_self) (zip_vws fun z hz => h z (List.mem_cons_of_mem _ hz))
theorem W.depth_ok {w : W} (h : w.ok 59 = true) : w.d.depth ≤ 60 := (W.lay w 59 h).2
/-! ### zip(xs, ys) of two lists that nobody changes -/
/-! ### xs.extend(ys), xs.remove(k) -/
def sRem (x w : W) (S : Sto) (Φ : W → Sto → Prop) : Prop := ∃ (j : Nat) (ns : List Int) (k : Int), x = .ref j ∧ w = .int k ∧ S[j]? = some (.lst (ns.map W.int)) ∧ k ∈ ns ∧ Φ .non (S.set j (.lst ((ns.erase k).map W.int)))
theorem sRem_i {j : Nat} {ns : List Int} {k : Int} (h1 : S[j]? = some (.lst (ns.map W.int))) (h2 : k ∈ ns) (h : Φ .non (S.set j (.lst ((ns.erase k).map W.int)))) : sRem (.ref j) (.int k) S Φ := ⟨j, ns, k, rfl, rfl, h1, h2, h⟩
theorem xE_remove {apos cpos : Pos} (hc : X.calm = true) (h : wE X Ψ o E S fun x S1 => sAppO x S1 (wE X Ψ e E S1 fun w S2 => sRem x w S2 Φ))
    (hbase : attributeBase o "remove" X.env (eval o X.env) = eval o X.env := by rfl)
    (hfew : ((backTo cpos (starEach [e] X.env)).all (fun x => !x.1) && (backToKw cpos (keywordEach [] X.env)).all (fun x => x.1.isSome)
      && decide (([e] : List Expr).length + ([] : List Keyword).length + (if ([] : List Keyword).isEmpty then 0 else 1) < 30)) = true := by rfl)
    (hline : (apos.endLine == cpos.line) = true := by rfl) (hs : starEach [e] X.env = (false, eval e X.env) :: starEach [] X.env := by rfl) (hplain : (backTo cpos (starEach [] X.env)).any (·.1) = false := by rfl) : wE X Ψ (.Call (.Attribute o "remove" apos) [e] [] cpos) E S Φ :=
  wE.of (pe_remX hc takes0 pe_sem pe_sem hbase hfew hline hs hplain) fun M σ H r ev xo Q q => h.run M σ H r ev xo _ fun v w M1 S1 H1 ⟨⟨kk, wz, e1, hk⟩, h⟩ r1 a1 s1 => ⟨tyM_vw r1 a1 (by subst e1; exact .inl ⟨rfl, wz, hk⟩), h.run M1 σ H1 r1 (ev.step s1) (xo.step s1) _ fun u w2 M2 S2 H2 ⟨j, ns, k, e2, e3, hj, hm, p⟩ r2 a2 s2 => by
    subst e2; subst e3
    have b1 := VW.step' s2 a1
    cases a2
    cases b1 with
    | ref hmm =>
      obtain ⟨ad, xs, h1', h2, h3⟩ := r2.lst hj
      rw [hmm] at h1'; cases h1'
      have ex := vws_ints ns h3
      subst ex
      have rr := set_lst r2 hmm (ints_vw (ns.erase k))
      exact ⟨_, ns, k, rfl, rfl, h2, fun _ => q _ _ M2 _ _ p rr.1 .non ((s1.trans s2).trans rr.2), fun z => absurd hm z⟩⟩
end

-- AM21
section
variable {X : Cx} {Ψ : AX} {a b : Expr} {E : AEnv} {S : Sto} {Φ : W → Sto → Prop} {pos : Pos}
end

-- AM22
section
variable {X : Cx} {Ψ : AX} {a b o e : Expr} {E : AEnv} {S : Sto} {Φ : W → Sto → Prop} {ΦT : Bool → Sto → Prop} {pos : Pos}
/-! ### x is False, x is True -/
def isBoW (k : Bool) : W → Option Bool
  | .non => some false
  | .bl c => some (decide (c = k))
  | _ => none
abbrev gIsB : G2 := fun x y S Φ => ∃ k, y = .bl k ∧ ∃ c, isBoW k x = some c ∧ Φ (.bl c) S
/-! ### a list of three, walked on or back -/
/-! ### the truth of a thing that may be None -/
end

-- WI
theorem fin.eq {n : Nat} {Φ : W → Sto → Prop} {w w' : W} {S : Sto} (h : Φ w' S) (e : w = w') : fin n Φ w S := by rw [e]; exact fin.as h
/-! ### == between values -/
theorem eqW_int {i j : Int} : eqW (.int i) (.int j) = decide (i = j) := by
  show (i == j) = decide (i = j)
  by_cases h : i = j <;> simp [h]
theorem eqW_str {i j : Str} : eqW (.str i) (.str j) = decide (i = j) := by
  show (i == j) = decide (i = j)
  by_cases h : i = j <;> simp [h]
theorem eqW_bl {i j : Bool} : eqW (.bl i) (.bl j) = decide (i = j) := by
  show (i == j) = decide (i = j)
  by_cases h : i = j <;> simp [h]
theorem eqW_non : eqW .non .non = true := by simp [eqW, W.d, PyData.eqv]
theorem eqW_tt {x y : W} {xs ys : List W} : eqW (.tup (x :: xs)) (.tup (y :: ys)) = (eqW x y && eqW (.tup xs) (.tup ys)) := by
  simp only [eqW, W.d, W.ds, PyData.eqv, PyData.eqvAll]
theorem eqW_t0 : eqW (.tup []) (.tup []) = true := by simp [eqW, W.d, W.ds, PyData.eqv, PyData.eqvAll]
theorem eqW_t1 {x : W} {xs : List W} : eqW (.tup (x :: xs)) (.tup []) = false := by simp [eqW, W.d, W.ds, PyData.eqv, PyData.eqvAll]
theorem eqW_t2 {x : W} {xs : List W} : eqW (.tup []) (.tup (x :: xs)) = false := by simp [eqW, W.d, W.ds, PyData.eqv, PyData.eqvAll]
theorem eqW_ll {x y : W} {xs ys : List W} : eqW (.lst (x :: xs)) (.lst (y :: ys)) = (eqW x y && eqW (.lst xs) (.lst ys)) := by
  simp only [eqW, W.d, W.ds, PyData.eqv, PyData.eqvAll]
theorem eqW_l0 : eqW (.lst []) (.lst []) = true := by simp [eqW, W.d, W.ds, PyData.eqv, PyData.eqvAll]
theorem eqW_l1 {x : W} {xs : List W} : eqW (.lst (x :: xs)) (.lst []) = false := by simp [eqW, W.d, W.ds, PyData.eqv, PyData.eqvAll]
theorem eqW_l2 {x : W} {xs : List W} : eqW (.lst []) (.lst (x :: xs)) = false := by simp [eqW, W.d, W.ds, PyData.eqv, PyData.eqvAll]
theorem eqW_ni {i : Int} : eqW .non (.int i) = false := by simp [eqW, W.d, PyData.eqv]
theorem eqW_in {i : Int} : eqW (.int i) .non = false := by simp [eqW, W.d, PyData.eqv]
theorem eqW_it {i : Int} {xs : List W} : eqW (.int i) (.tup xs) = false := by simp [eqW, W.d, PyData.eqv]
theorem eqW_ti {i : Int} {xs : List W} : eqW (.tup xs) (.int i) = false := by simp [eqW, W.d, PyData.eqv]
theorem eqW_is {i : Int} {z : Str} : eqW (.int i) (.str z) = false := by simp [eqW, W.d, PyData.eqv]
theorem eqW_si {i : Int} {z : Str} : eqW (.str z) (.int i) = false := by simp [eqW, W.d, PyData.eqv]
theorem eqW_tn {xs : List W} : eqW (.tup xs) .non = false := by simp [eqW, W.d, PyData.eqv]
theorem eqW_nt {xs : List W} : eqW .non (.tup xs) = false := by simp [eqW, W.d, PyData.eqv]
theorem eqW_nil {xs : List W} : eqW (.lst xs) (.lst []) = xs.isEmpty := by
  cases xs with
  | nil => rw [eqW_l0]; rfl
  | cons x xs => rw [eqW_l1]; rfl
theorem eqW_nilT {xs : List W} : eqW (.tup xs) (.tup []) = xs.isEmpty := by
  cases xs with
  | nil => rw [eqW_t0]; rfl
  | cons x xs => rw [eqW_t1]; rfl
theorem eqW_mapT {α : Type} [DecidableEq α] {f : α → W} (h : ∀ a b, eqW (f a) (f b) = decide (a = b)) : ∀ xs ys : List α, eqW (.tup (xs.map f)) (.tup (ys.map f)) = decide (xs = ys)
  | [], [] => by rw [List.map_nil, eqW_t0]; rfl
  | [], y :: ys => by rw [List.map_nil, List.map_cons, eqW_t2]; simp
  | x :: xs, [] => by rw [List.map_nil, List.map_cons, eqW_t1]; simp
  | x :: xs, y :: ys => by
    rw [List.map_cons, List.map_cons, eqW_tt, h, eqW_mapT h xs ys]
    by_cases e : x = y <;> by_cases e2 : xs = ys <;> simp [e, e2]
theorem inW_map {α : Type} [DecidableEq α] {f : α → W} (h : ∀ a b, eqW (f a) (f b) = decide (a = b)) (x : α) (xs : List α) : inW (f x) (xs.map f) = decide (x ∈ xs) := by
  induction xs with
  | nil => rfl
  | cons y ys ih =>
    show (eqW (f y) (f x) || inW (f x) (ys.map f)) = _
    rw [ih, h]
    by_cases e : y = x
    · subst e; simp
    · have e' : ¬ x = y := fun z => e z.symm
      by_cases e2 : x ∈ ys <;> simp [e, e', e2]
theorem oks_map {α : Type} {f : α → W} {n : Nat} (h : ∀ a, (f a).ok n = true) (xs : List α) : W.oks (xs.map f) n = true := by
  rw [W.oks_all]
  simp [h]
theorem atI_map {α : Type} [Inhabited α] {f : α → W} {xs : List α} {i : Int} (h0 : 0 ≤ i) (h1 : i < xs.length) : atI (xs.map f) i = some (f (xs.getD i.toNat default)) := by
  unfold atI ixN
  rw [List.length_map, if_pos h0, if_pos h1]
  show (xs.map f)[i.toNat]? = _
  have hl : i.toNat < xs.length := by omega
  rw [List.getElem?_map, List.getElem?_eq_getElem hl, List.getD_eq_getElem?_getD, List.getElem?_eq_getElem hl]
  rfl
/-! ### wishes -/
inductive Wish
  | all (p g : Int) | busy (p g : Int) | late (p g t : Int) | wait (p : Int) | still (p : Int) | bar (p o : Int) | group (g : Int) (ms : List Int)
  deriving DecidableEq
def intsW (l : List Int) : List W := l.map W.int
def Wish.w : Wish → W
  | .all p g => .tup [.str "all", .int p, .int g]
  | .busy p g => .tup [.str "busy", .int p, .int g]
  | .late p g t => .tup [.str "late", .int p, .int g, .int t]
  | .wait p => .tup [.str "wait", .int p]
  | .still p => .tup [.str "still", .int p]
  | .bar p o => .tup [.str "bar", .int p, .int o]
  | .group g ms => .tup [.str "group", .int g, .tup (intsW ms)]
def Wish.key : Wish → List Key
  | .all p g => [.inr "all", .inl p]
  | .busy p g => [.inr "busy", .inl p]
  | .late p g t => [.inr "late", .inl p]
  | .wait p => [.inr "wait", .inl p]
  | .still p => [.inr "still", .inl p]
  | .bar p o => [.inr "bar", .inl p, .inl o]
  | .group g ms => [.inr "group", .inl g]
def keyW1 : Key → W
  | .inl i => .int i
  | .inr x => .str x
theorem keysW_map : ∀ ks : List Key, keysW (ks.map keyW1) = some ks
  | [] => rfl
  | .inl i :: ks => by rw [List.map_cons]; show (match keyW (.int i), keysW (ks.map keyW1) with | some k, some ks => some (k :: ks) | _, _ => none) = _; rw [keysW_map ks]; rfl
  | .inr x :: ks => by rw [List.map_cons]; show (match keyW (.str x), keysW (ks.map keyW1) with | some k, some ks => some (k :: ks) | _, _ => none) = _; rw [keysW_map ks]; rfl
/-- phones, rising, none twice -/
def msOk (ms : List Int) : Prop := ms ≠ [] ∧ ms.length ≤ 6 ∧ (∀ m ∈ ms, 0 ≤ m ∧ m ≤ 5) ∧ ∀ (k : Nat) (a b : Int), ms[k]? = some a → ms[k + 1]? = some b → a < b
def Wish.ok : Wish → Prop
  | .all p g => 0 ≤ p ∧ p ≤ 5 ∧ 0 ≤ g ∧ g ≤ 7 ∧ g ≠ p
  | .busy p g => 0 ≤ p ∧ p ≤ 5 ∧ 0 ≤ g ∧ g ≤ 7 ∧ g ≠ p
  | .late p g t => 0 ≤ p ∧ p ≤ 5 ∧ 0 ≤ g ∧ g ≤ 7 ∧ g ≠ p ∧ 1 ≤ t ∧ t ≤ 9
  | .wait p => 0 ≤ p ∧ p ≤ 5
  | .still p => 0 ≤ p ∧ p ≤ 5
  | .bar p o => 0 ≤ p ∧ p ≤ 5 ∧ 0 ≤ o ∧ o ≤ 5 ∧ o ≠ p
  | .group g ms => 6 ≤ g ∧ g ≤ 7 ∧ msOk ms
@[simp] theorem len_ints {l : List Int} : (intsW l).length = l.length := List.length_map _
theorem atI_ints {l : List Int} {i : Int} (h0 : 0 ≤ i) (h1 : i < l.length) : atI (intsW l) i = some (.int (l.getD i.toNat 0)) := atI_map h0 h1
theorem oks_ints {l : List Int} {n : Nat} : W.oks (intsW l) n = true := oks_map (fun _ => rfl) l
theorem Wish.wok2 (x : Wish) : x.w.ok 2 = true := by
  cases x with
  | group g ms =>
    show (W.oks [.str "group", .int g, .tup (intsW ms)] 1) = true
    simp only [W.oks, W.ok, oks_ints, Bool.and_true, Bool.true_and]
    decide +kernel
  | _ =>
    simp only [Wish.w, W.ok, W.oks, Bool.and_true]
    decide +kernel
theorem Wish.wok (x : Wish) {n : Nat} (h : 2 ≤ n := by decide) : x.w.ok n = true := W.ok_mono _ h x.wok2
theorem wishes_ok (xs : List Wish) {n : Nat} (h : 2 ≤ n := by decide) : W.oks (xs.map Wish.w) n = true := oks_map (fun x => x.wok h) xs
theorem eqW_ints (a b : List Int) : eqW (.tup (intsW a)) (.tup (intsW b)) = decide (a = b) := eqW_mapT (fun _ _ => eqW_int) a b
theorem wish_eq (a b : Wish) : eqW a.w b.w = decide (a = b) := by
  cases a <;> cases b <;> simp only [Wish.w, eqW_tt, eqW_t0, eqW_t1, eqW_t2, eqW_str, eqW_int, eqW_ints, eqW_it, eqW_ti, Bool.and_true, Bool.and_false] <;>
    first
      | (simp; done)
      | (simp only [show decide (("all" : Str) = "busy") = false from by decide +kernel, show decide (("all" : Str) = "late") = false from by decide +kernel, show decide (("all" : Str) = "bar") = false from by decide +kernel, show decide (("all" : Str) = "group") = false from by decide +kernel,
          show decide (("busy" : Str) = "all") = false from by decide +kernel, show decide (("busy" : Str) = "late") = false from by decide +kernel, show decide (("busy" : Str) = "bar") = false from by decide +kernel, show decide (("busy" : Str) = "group") = false from by decide +kernel,
          show decide (("late" : Str) = "all") = false from by decide +kernel, show decide (("late" : Str) = "busy") = false from by decide +kernel, show decide (("late" : Str) = "bar") = false from by decide +kernel, show decide (("late" : Str) = "group") = false from by decide +kernel,
          show decide (("bar" : Str) = "all") = false from by decide +kernel, show decide (("bar" : Str) = "busy") = false from by decide +kernel, show decide (("bar" : Str) = "late") = false from by decide +kernel, show decide (("bar" : Str) = "group") = false from by decide +kernel,
          show decide (("group" : Str) = "all") = false from by decide +kernel, show decide (("group" : Str) = "busy") = false from by decide +kernel, show decide (("group" : Str) = "late") = false from by decide +kernel, show decide (("group" : Str) = "bar") = false from by decide +kernel,
          show decide (("wait" : Str) = "still") = false from by decide +kernel, show decide (("still" : Str) = "wait") = false from by decide +kernel, Bool.false_and]; simp; done)
/-- states: is it busy -/
def stW (b : Bool) : W := .str (if b = true then "busy" else "free")
theorem stW_ok {b : Bool} {n : Nat} : (stW b).ok n = true := by cases b <;> (show PyData.strOk _ = true; decide +kernel)
theorem sts_ok {st : List Bool} {n : Nat} : W.oks (st.map stW) n = true := oks_map (fun _ => stW_ok) st
theorem st_in (b : Bool) : inW (stW b) ([("free" : Str), "busy"].map W.str) = true := by
  show (eqW (.str "free") (stW b) || (eqW (.str "busy") (stW b) || false)) = true
  cases b with
  | true => rw [show eqW (.str "busy") (stW true) = true from eqW_str.trans (decide_eq_true rfl)]; simp
  | false => rw [show eqW (.str "free") (stW false) = true from eqW_str.trans (decide_eq_true rfl)]; simp
def getB (ws : List Wish) (k : List Key) : Option Wish := ws.find? fun x => decide (x.key = k)
def bookD (ws : List Wish) : List (List Key × W) := ws.map fun x => (x.key, x.w)
theorem val_book (ws : List Wish) (k : List Key) : valW (bookD ws) k = (getB ws k).map Wish.w := by
  unfold valW getB bookD
  rw [List.find?_map, Option.map_map]
  rfl
theorem put_book {ws : List Wish} {x : Wish} (h : x.key ∉ ws.map Wish.key) : putW (bookD ws) x.key x.w = bookD (ws ++ [x]) := by
  unfold putW
  rw [if_neg]
  · simp [bookD]
  · intro e
    rw [List.any_eq_true] at e
    obtain ⟨y, hy, e⟩ := e
    unfold bookD at hy
    obtain ⟨z, hz, rfl⟩ := List.mem_map.mp hy
    exact h (List.mem_map.mpr ⟨z, hz, of_decide_eq_true e⟩)
/-- the keys of the wishes ahead -/
def knownD (xs : List Wish) : List (List Key × W) := xs.map fun x => (x.key, .bl true)
@[simp] theorem len_known {xs : List Wish} : (knownD xs).length = xs.length := List.length_map _
@[simp] theorem len_book {xs : List Wish} : (bookD xs).length = xs.length := List.length_map _
theorem known_none {xs : List Wish} {k : List Key} (h : k ∉ xs.map Wish.key) : valW (knownD xs) k = none := by
  unfold valW knownD
  rw [List.find?_map, Option.map_map, Option.map_eq_none_iff, List.find?_eq_none]
  intro x hx e
  exact h (List.mem_map.mpr ⟨x, hx, of_decide_eq_true e⟩)
theorem known_put {xs : List Wish} {x : Wish} (h : x.key ∉ xs.map Wish.key) : putW (knownD xs) x.key (.bl true) = knownD (xs ++ [x]) := by
  unfold putW
  rw [if_neg]
  · simp [knownD]
  · intro e
    rw [List.any_eq_true] at e
    obtain ⟨y, hy, e⟩ := e
    unfold knownD at hy
    obtain ⟨z, hz, rfl⟩ := List.mem_map.mp hy
    exact h (List.mem_map.mpr ⟨z, hz, of_decide_eq_true e⟩)
theorem take_succ {α : Type} {xs : List α} {i : Nat} {x : α} (h : xs[i]? = some x) : xs.take (i + 1) = xs.take i ++ [x] := by
  rw [List.take_add_one, h]
  rfl
/-- of distinct keys the next one is new -/
theorem key_new {xs : List Wish} (hn : (xs.map Wish.key).Nodup) {i : Nat} {x : Wish} (h : xs[i]? = some x) : x.key ∉ (xs.take i).map Wish.key := by
  intro e
  obtain ⟨y, hy, e⟩ := List.mem_map.mp e
  obtain ⟨j, hj, rfl⟩ := List.mem_iff_getElem.mp hy
  have hj' : j < i ∧ j < xs.length := by
    have := hj
    rw [List.length_take] at this
    omega
  have h1 : (xs.map Wish.key)[j]? = some x.key := by
    rw [List.getElem?_map, List.getElem?_eq_getElem hj'.2, ← e, List.getElem_take]
    rfl
  have h2 : (xs.map Wish.key)[i]? = some x.key := by
    rw [List.getElem?_map, h]
    rfl
  have e2 : j = i := by
    have hi : i < (xs.map Wish.key).length := (List.getElem?_eq_some_iff.mp h2).1
    have hjl : j < (xs.map Wish.key).length := by omega
    exact (List.getElem_inj hn).mp ((List.getElem?_eq_some_iff.mp h1).2.trans (List.getElem?_eq_some_iff.mp h2).2.symm)
  omega
/-! ### books -/
def BookAt (C : Addr) (S : Sto) (j : Nat) (xs : List Wish) : Prop := ∃ d, S[j]? = some (.ins C [("wanted", .ref d)]) ∧ S[d]? = some (.dt (bookD xs))
def hasB (xs : List Wish) (k : List Key) : Bool := (getB xs k).isSome
def barsF (xs : List Wish) (p c : Int) : Bool := hasB xs [.inr "bar", .inl p, .inl c]
def goalF (xs : List Wish) (word : Str) (p : Int) : Option Int := match getB xs [.inr word, .inl p] with
  | some (.all _ g) => some g
  | some (.busy _ g) => some g
  | _ => none
def membersF (xs : List Wish) (g : Int) : List Int := match getB xs [.inr "group", .inl g] with
  | some (.group _ ms) => ms
  | _ => []
theorem getB_key {xs : List Wish} {k : List Key} {x : Wish} (h : getB xs k = some x) : x.key = k ∧ x ∈ xs := by
  unfold getB at h
  have q := List.find?_some h
  exact ⟨of_decide_eq_true q, List.mem_of_find?_eq_some h⟩
theorem key_group {x : Wish} {g : Int} (h : x.key = [.inr "group", .inl g]) : ∃ ms, x = .group g ms := by
  cases x with
  | group g' ms =>
    simp only [Wish.key, List.cons.injEq, Sum.inl.injEq, and_true, true_and] at h
    exact ⟨ms, by rw [h]⟩
  | bar p o => simp [Wish.key] at h
  | _ =>
    simp only [Wish.key, List.cons.injEq, Sum.inr.injEq] at h
    exact absurd h.1 (by decide +kernel)
theorem key_all {x : Wish} {p : Int} (h : x.key = [.inr "all", .inl p]) : ∃ g, x = .all p g := by
  cases x with
  | all q g =>
    simp only [Wish.key, List.cons.injEq, Sum.inl.injEq, and_true, true_and] at h
    exact ⟨g, by rw [h]⟩
  | bar p o => simp [Wish.key] at h
  | _ =>
    simp only [Wish.key, List.cons.injEq, Sum.inr.injEq] at h
    exact absurd h.1 (by decide +kernel)
theorem key_busy {x : Wish} {p : Int} (h : x.key = [.inr "busy", .inl p]) : ∃ g, x = .busy p g := by
  cases x with
  | busy q g =>
    simp only [Wish.key, List.cons.injEq, Sum.inl.injEq, and_true, true_and] at h
    exact ⟨g, by rw [h]⟩
  | bar p o => simp [Wish.key] at h
  | _ =>
    simp only [Wish.key, List.cons.injEq, Sum.inr.injEq] at h
    exact absurd h.1 (by decide +kernel)
theorem goal_all {xs : List Wish} {p g : Int} (h : goalF xs "all" p = some g) : getB xs [.inr "all", .inl p] = some (.all p g) := by
  unfold goalF at h
  cases e : getB xs [.inr "all", .inl p] with
  | none => rw [e] at h; cases h
  | some x =>
    obtain ⟨g', rfl⟩ := key_all (getB_key e).1
    rw [e] at h
    cases h
    rfl
theorem goal_busy {xs : List Wish} {p g : Int} (h : goalF xs "busy" p = some g) : getB xs [.inr "busy", .inl p] = some (.busy p g) := by
  unfold goalF at h
  cases e : getB xs [.inr "busy", .inl p] with
  | none => rw [e] at h; cases h
  | some x =>
    obtain ⟨g', rfl⟩ := key_busy (getB_key e).1
    rw [e] at h
    cases h
    rfl
theorem has_all {xs : List Wish} {p : Int} : hasB xs [.inr "all", .inl p] = (goalF xs "all" p).isSome := by
  unfold hasB goalF
  cases e : getB xs [.inr "all", .inl p] with
  | none => rfl
  | some x =>
    obtain ⟨g', rfl⟩ := key_all (getB_key e).1
    rfl
theorem has_busy {xs : List Wish} {p : Int} : hasB xs [.inr "busy", .inl p] = (goalF xs "busy" p).isSome := by
  unfold hasB goalF
  cases e : getB xs [.inr "busy", .inl p] with
  | none => rfl
  | some x =>
    obtain ⟨g', rfl⟩ := key_busy (getB_key e).1
    rfl
theorem val_has {xs : List Wish} {k : List Key} : (valW (bookD xs) k).isSome = hasB xs k := by
  rw [val_book, Option.isSome_map]
  rfl
theorem members_yes {xs : List Wish} {g : Int} (h : hasB xs [.inr "group", .inl g] = true) : getB xs [.inr "group", .inl g] = some (.group g (membersF xs g)) := by
  unfold hasB at h
  unfold membersF
  cases e : getB xs [.inr "group", .inl g] with
  | none => rw [e] at h; cases h
  | some x =>
    obtain ⟨ms, rfl⟩ := key_group (getB_key e).1
    rfl
theorem members_no {xs : List Wish} {g : Int} (h : hasB xs [.inr "group", .inl g] = false) : membersF xs g = [] := by
  unfold hasB at h
  unfold membersF
  cases e : getB xs [.inr "group", .inl g] with
  | none => rfl
  | some x => rw [e] at h; cases h
theorem get_set_self {S : Sto} {j : Nat} {o o0 : O} (h : S[j]? = some o0) : (S.set j o)[j]? = some o := List.getElem?_set_self (List.getElem?_eq_some_iff.mp h).1
theorem get_set_ne {S : Sto} {j k : Nat} {o o' : O} (n : j ≠ k) (h : S[k]? = some o') : (S.set j o)[k]? = some o' := by rw [List.getElem?_set_ne n]; exact h
def busyF (st : List Bool) (p : Int) : Bool := st.getD p.toNat default
theorem eqW_st {b : Bool} : eqW (stW b) (.str "busy") = b := by
  cases b <;> (rw [stW, eqW_str]; decide +kernel)
def stillF (xs : List Wish) (p : Int) : Bool := hasB xs [.inr "still", .inl p]
def waitF (xs : List Wish) (p : Int) : Bool := hasB xs [.inr "wait", .inl p]
def ringsOk (xs : List Wish) (c : Int) (st : List Bool) (p : Int) : Bool := !decide (p = c) && (!barsF xs p c && !stillF xs p) && !busyF st p
/-- who rings by a group -/
def ringsF (xs : List Wish) (c g : Int) (st : List Bool) : List Int := (membersF xs g).filter (ringsOk xs c st)
/-- where a call goes on from a phone, or how it ends there -/
def nextF (xs : List Wish) (c p : Int) (st kn : List Bool) : Int ⊕ (Str × List Int) :=
  if barsF xs p c = true then .inr ("barred", []) else
  match goalF xs "all" p with
  | some g => .inl g
  | none =>
    if stillF xs p = true then .inr ("still", []) else
    if (!decide (p = c) && !busyF st p) = true then .inr ("rings", [p]) else
    if (!decide (p = c) && (waitF xs p && kn.getD p.toNat default)) = true then .inr ("knocks", [p]) else
    match goalF xs "busy" p with
    | some g => .inl g
    | none => .inr ("busy", [])
def nextW : Int ⊕ (Str × List Int) → W
  | .inl g => .int g
  | .inr (w, l) => .tup [.str w, .tup (intsW l)]
theorem members_ok {xs : List Wish} (h : ∀ x ∈ xs, x.ok) {g m : Int} (hm : m ∈ membersF xs g) : 0 ≤ m ∧ m ≤ 5 := by
  unfold membersF at hm
  split at hm
  · rename_i g' ms e
    exact (h _ (getB_key e).2).2.2.2.2.1 m hm
  · cases hm
theorem members_len {xs : List Wish} (h : ∀ x ∈ xs, x.ok) {g : Int} : (membersF xs g).length ≤ 6 := by
  unfold membersF
  split
  · rename_i g' ms e
    exact (h _ (getB_key e).2).2.2.2.1
  · exact Nat.zero_le _

-- WA
/-! ### refs into what stays -/
theorem get_app {S T : Sto} {j : Nat} {o : O} (h : S[j]? = some o) : (S ++ T)[j]? = some o := by rw [List.getElem?_append_left (List.getElem?_eq_some_iff.mp h).1]; exact h
theorem items_of {S : Sto} {k : Nat} {ws : List W} (h : S[k]? = some (.lst ws)) : itemsW S (.ref k) = some ws := by
  show (match S[k]? with | some (.lst ws) => some ws | _ => none) = some ws
  rw [h]
mutual
theorem fz_self {S : Sto} {n : Nat} : ∀ (w : W), w.rlt n = true → Fz S n w w
  | .non, _ => .non
  | .bl _, _ => .bl _
  | .int _, _ => .int _
  | .str _, _ => .str _
  | .tup ws, h => .tup (fzs_self ws (by simpa [W.rlt] using h))
  | .lst ws, h => .lst (fzs_self ws (by simpa [W.rlt] using h))
  | .ref k, h => .old (by simpa [W.rlt] using h)
  | .raw _, _ => .raw _
  | .scr _ _, _ => .scr _ _
  | .xi _ _ _ _, _ => .xi _ _ _ _
  | .thg _ _, _ => .thg _ _
theorem fzs_self {S : Sto} {n : Nat} : ∀ (ws : List W), W.rlts n ws = true → Fzs S n ws ws
  | [], _ => .nil
  | w :: ws, h => by
    simp only [W.rlts, Bool.and_eq_true] at h
    exact .cons (fz_self w h.1) (fzs_self ws h.2)
end
theorem rlts_map {α : Type} {f : α → W} {n : Nat} (h : ∀ a, (f a).rlt n = true) : ∀ xs : List α, W.rlts n (xs.map f) = true
  | [] => rfl
  | x :: xs => by simp [W.rlts, h, rlts_map h xs]
theorem fz_ints {S : Sto} {n : Nat} {l : List Int} : Fz S n (.tup (intsW l)) (.tup (intsW l)) := fz_self _ (by simpa [W.rlt, intsW] using rlts_map (fun _ => rfl) l)
theorem fz_intsL {S : Sto} {n : Nat} {l : List Int} : Fz S n (.lst (intsW l)) (.lst (intsW l)) := fz_self _ (by simpa [W.rlt, intsW] using rlts_map (fun _ => rfl) l)
/-! ### ways -/
structure Wy where
  chain : List Int
  leads : List (Int × Int)
  group : Option Int
  word : Str
  ears : List Int
def Wy.new : Wy := ⟨[], [], none, "nobody", []⟩
def optW : Option Int → W
  | none => .non
  | some i => .int i
def pairW (p : Int × Int) : W := .tup [.int p.1, .int p.2]
def wayFs (jb : Nat) (c : Int) (ch ld : Nat) (y : Wy) : List (Str × W) := [("book", .ref jb), ("caller", .int c), ("chain", .ref ch), ("leads", .ref ld), ("group", optW y.group), ("word", .str y.word), ("ears", .tup (intsW y.ears))]
structure WayAt (C : Addr) (S : Sto) (j ch ld jb : Nat) (c : Int) (y : Wy) : Prop where
  ob : S[j]? = some (.ins C (wayFs jb c ch ld y))
  chain : S[ch]? = some (.lst (intsW y.chain))
  leads : S[ld]? = some (.lst (y.leads.map pairW))
  ne : ch ≠ ld
/-- one step of a way: told on, or ended -/
def stepF (xs : List Wish) (c : Int) (st kn : List Bool) (y : Wy) (n : Int) : Wy × Option Int :=
  if 6 ≤ n then
    let r := ringsF xs c n st
    ({ y with group := some n, ears := r, word := if r = [] then "nobody" else "rings" }, none)
  else if n ∈ y.chain then ({ y with word := "round", ears := [] }, none)
  else match nextF xs c n st kn with
    | .inl g => ({ y with chain := y.chain ++ [n], leads := y.leads ++ [(n, g)] }, some g)
    | .inr (w, l) => ({ y with chain := y.chain ++ [n], word := w, ears := l }, none)
def goF (xs : List Wish) (c : Int) (st kn : List Bool) : Nat → Wy → Int → Wy
  | 0, y, _ => y
  | f + 1, y, n => match stepF xs c st kn y n with
    | (y', none) => y'
    | (y', some g) => goF xs c st kn f y' g
def wayF (xs : List Wish) (c n : Int) (st kn : List Bool) : Wy := goF xs c st kn 8 Wy.new n
theorem fin.eqS {n : Nat} {Φ : W → Sto → Prop} {w : W} {S S2 : Sto} (h : Φ w S2) (e : S = S2) : fin n Φ w S := by rw [e]; exact fin.as h
theorem set_same {S : Sto} {k : Nat} {o : O} (h : S[k]? = some o) : S.set k o = S := by
  obtain ⟨hl, e⟩ := List.getElem?_eq_some_iff.mp h
  rw [← e]
  exact List.set_getElem_self hl
theorem inW_ints {n : Int} {l : List Int} : inW (.int n) (intsW l) = decide (n ∈ l) := inW_map (fun _ _ => eqW_int) n l
/-- the store, a way's objects changed -/
def putWay (C : Addr) (S : Sto) (j ch ld jb : Nat) (c : Int) (y : Wy) : Sto := ((S.set j (.ins C (wayFs jb c ch ld y))).set ch (.lst (intsW y.chain))).set ld (.lst (y.leads.map pairW))
theorem WayAt.nj {C : Addr} {S : Sto} {j ch ld jb : Nat} {c : Int} {y : Wy} (h : WayAt C S j ch ld jb c y) : j ≠ ch ∧ j ≠ ld := by
  constructor
  · intro e
    have q := h.ob
    rw [e, h.chain] at q
    cases q
  · intro e
    have q := h.ob
    rw [e, h.leads] at q
    cases q
theorem WayAt.put {C : Addr} {S : Sto} {j ch ld jb : Nat} {c : Int} {y : Wy} (h : WayAt C S j ch ld jb c y) (y' : Wy) : WayAt C (putWay C S j ch ld jb c y') j ch ld jb c y' := by
  obtain ⟨n1, n2⟩ := h.nj
  unfold putWay
  exact ⟨get_set_ne n2.symm (get_set_ne n1.symm (get_set_self h.ob)), get_set_ne h.ne.symm (get_set_self (get_set_ne n1 h.chain)), get_set_self (get_set_ne h.ne (get_set_ne n2 h.leads)), h.ne⟩
theorem WayAt.same {C : Addr} {S : Sto} {j ch ld jb : Nat} {c : Int} {y : Wy} (h : WayAt C S j ch ld jb c y) : putWay C S j ch ld jb c y = S := by
  unfold putWay
  rw [set_same h.ob, set_same h.chain, set_same h.leads]
theorem put_put {C : Addr} {S : Sto} {j ch ld jb : Nat} {c : Int} {y y' : Wy} (n1 : j ≠ ch) (n2 : j ≠ ld) (n3 : ch ≠ ld) : putWay C (putWay C S j ch ld jb c y) j ch ld jb c y' = putWay C S j ch ld jb c y' := by
  unfold putWay
  rw [List.set_comm _ _ n2.symm, List.set_comm _ _ n1.symm, List.set_set, List.set_comm _ _ n3.symm, List.set_set, List.set_set]
/-- a book stands apart from a way -/
theorem BookAt.off {C C2 : Addr} {S : Sto} {j ch ld jb jb2 : Nat} {c : Int} {y : Wy} {xs : List Wish} (b : BookAt C S jb xs) (h : WayAt C2 S j ch ld jb2 c y) : ∃ d, S[jb]? = some (.ins C [("wanted", .ref d)]) ∧ S[d]? = some (.dt (bookD xs)) ∧ jb ≠ j ∧ jb ≠ ch ∧ jb ≠ ld ∧ d ≠ j ∧ d ≠ ch ∧ d ≠ ld := by
  obtain ⟨d, b1, b2⟩ := b
  refine ⟨d, b1, b2, ?_, ?_, ?_, ?_, ?_, ?_⟩
  · intro e
    have q := h.ob
    rw [← e, b1] at q
    have q := O.ins.inj (Option.some.inj q)
    have := congrArg List.length q.2
    simp [wayFs] at this
  · intro e
    rw [e, h.chain] at b1
    cases b1
  · intro e
    rw [e, h.leads] at b1
    cases b1
  · intro e
    rw [e, h.ob] at b2
    cases b2
  · intro e
    rw [e, h.chain] at b2
    cases b2
  · intro e
    rw [e, h.leads] at b2
    cases b2
theorem BookAt.put {C C2 : Addr} {S : Sto} {j ch ld jb jb2 : Nat} {c : Int} {y y' : Wy} {xs : List Wish} (b : BookAt C S jb xs) (h : WayAt C2 S j ch ld jb2 c y) : BookAt C (putWay C2 S j ch ld jb2 c y') jb xs := by
  obtain ⟨d, b1, b2, n1, n2, n3, n4, n5, n6⟩ := b.off h
  unfold putWay
  exact ⟨d, get_set_ne n3.symm (get_set_ne n2.symm (get_set_ne n1.symm b1)), get_set_ne n6.symm (get_set_ne n5.symm (get_set_ne n4.symm b2))⟩
/-! ### a way ends -/
theorem small_len : ∀ (n : Nat) (l : List Nat), l.Nodup → (∀ p ∈ l, p < n) → l.length ≤ n
  | 0, l, _, h => by
    cases l with
    | nil => exact Nat.le_refl _
    | cons a _ => exact absurd (h a List.mem_cons_self) (Nat.not_lt_zero _)
  | n + 1, l, hn, h => by
    by_cases hm : n ∈ l
    · have h1 := List.length_erase_of_mem hm
      have h2 := small_len n (l.erase n) (hn.erase n) fun p hp => by
        have hp' := (List.Nodup.mem_erase_iff hn).mp hp
        have := h p hp'.2
        omega
      omega
    · have := small_len n l hn fun p hp => by
        have h1 := h p hp
        have h2 : p ≠ n := fun e => hm (e ▸ hp)
        omega
      omega
theorem phones_len {l : List Int} (hn : l.Nodup) (h : ∀ p ∈ l, 0 ≤ p ∧ p ≤ 5) : l.length ≤ 6 := by
  have q := small_len 6 (l.map Int.toNat) (by
    rw [List.nodup_iff_pairwise_ne] at *
    rw [List.pairwise_map]
    refine hn.imp_of_mem ?_
    intro a b ha hb hab e
    have h1 := h a ha
    have h2 := h b hb
    omega) fun p hp => by
    obtain ⟨x, hx, rfl⟩ := List.mem_map.mp hp
    have := h x hx
    omega
  rw [List.length_map] at q
  exact q
theorem goal_ok {xs : List Wish} (ho : ∀ x ∈ xs, x.ok) {w : Str} {p g : Int} (h : goalF xs w p = some g) : 0 ≤ g ∧ g ≤ 7 := by
  unfold goalF at h
  split at h
  · rename_i p' g' e
    cases h
    have q := ho _ (getB_key e).2
    exact ⟨q.2.2.1, q.2.2.2.1⟩
  · rename_i p' g' e
    cases h
    have q := ho _ (getB_key e).2
    exact ⟨q.2.2.1, q.2.2.2.1⟩
  · cases h
theorem next_ok {xs : List Wish} (ho : ∀ x ∈ xs, x.ok) {c p g : Int} {st kn : List Bool} (h : nextF xs c p st kn = .inl g) : 0 ≤ g ∧ g ≤ 7 := by
  unfold nextF at h
  split at h
  · cases h
  · split at h
    · rename_i g' e
      cases h
      exact goal_ok ho e
    · split at h
      · cases h
      · split at h
        · cases h
        · split at h
          · cases h
          · split at h
            · rename_i g' e
              cases h
              exact goal_ok ho e
            · cases h
theorem step_on {xs : List Wish} {c n g : Int} {st kn : List Bool} {y y' : Wy} (h : stepF xs c st kn y n = (y', some g)) : n < 6 ∧ n ∉ y.chain ∧ nextF xs c n st kn = .inl g ∧ y'.chain = y.chain ++ [n] ∧ y'.leads = y.leads ++ [(n, g)] := by
  unfold stepF at h
  split at h
  · cases h
  · split at h
    · cases h
    · rename_i h1 h2
      split at h
      · rename_i g' e
        cases h
        exact ⟨by omega, h2, e, rfl, rfl⟩
      · cases h
section
variable {C : Addr} {S : Sto} {j ch ld jb : Nat} {c : Int} {y y' : Wy} {fs : List (Str × W)} {ws us : List W}
theorem put_eq1 (h : WayAt C S j ch ld jb c y) (hf : fs = wayFs jb c ch ld y') (hc : y'.chain = y.chain) (hl : y'.leads = y.leads) : S.set j (.ins C fs) = putWay C S j ch ld jb c y' := by
  obtain ⟨n1, n2⟩ := h.nj
  unfold putWay
  rw [hc, hl, ← hf, set_same (get_set_ne n1 h.chain), set_same (get_set_ne n2 h.leads)]
theorem put_eq2 (h : WayAt C S j ch ld jb c y) (hw : ws = intsW y'.chain) (hu : us = y'.leads.map pairW) (hf : wayFs jb c ch ld y' = wayFs jb c ch ld y) : (S.set ch (.lst ws)).set ld (.lst us) = putWay C S j ch ld jb c y' := by
  unfold putWay
  rw [hf, set_same h.ob, hw, hu]
theorem put_eq3 (h : WayAt C S j ch ld jb c y) (hw : ws = intsW y'.chain) (hf : fs = wayFs jb c ch ld y') (hl : y'.leads = y.leads) : (S.set ch (.lst ws)).set j (.ins C fs) = putWay C S j ch ld jb c y' := by
  obtain ⟨n1, n2⟩ := h.nj
  unfold putWay
  rw [hl, hw, hf, set_same (get_set_ne h.ne (get_set_ne n2 h.leads)), List.set_comm _ _ n1.symm]
end
/-! ### what a wish wants -/
def obW : Option Bool → W
  | none => .non
  | some b => .bl b
theorem eqW_opt {o : Option Int} {g : Int} : eqW (optW o) (.int g) = decide (o = some g) := by
  cases o with
  | none => rw [optW, eqW_ni]; rfl
  | some i => rw [optW, eqW_int]; by_cases h : i = g <;> simp [h]
theorem eqW_intsM {a b : List Int} : eqW (.tup (intsW a)) (.tup (b.map fun x => W.int x)) = decide (a = b) := eqW_ints a b
theorem eqW_one {a : List Int} {p : Int} : eqW (.tup (intsW a)) (.tup [.int p]) = decide (a = [p]) := eqW_ints a [p]
theorem pair_eq (a b : Int × Int) : eqW (pairW a) (pairW b) = decide (a = b) := by
  simp only [pairW, eqW_tt, eqW_t0, eqW_int, Bool.and_true]
  by_cases h : a = b
  · subst h; simp
  · rw [decide_eq_false h]
    rw [Bool.and_eq_false_iff]
    by_cases h1 : a.1 = b.1
    · right
      exact decide_eq_false fun h2 => h (Prod.ext h1 h2)
    · exact .inl (decide_eq_false h1)
theorem inW_leads {p g : Int} {l : List (Int × Int)} : inW (.tup [.int p, .int g]) (l.map pairW) = decide ((p, g) ∈ l) := (inW_map pair_eq (p, g) l).trans (decide_eq_decide.mpr Iff.rfl)
theorem opt_ok {o : Option Int} {n : Nat} : (optW o).ok n = true := by cases o <;> rfl
theorem inW_wish {x : Wish} {xs : List Wish} : inW x.w (xs.map Wish.w) = decide (x ∈ xs) := (inW_map wish_eq x xs).trans (decide_eq_decide.mpr Iff.rfl)

-- WB
/-- the walker waits here -/
def Stop (p : Prop) : Prop := p
theorem stop_i {p : Prop} (h : Stop p) : p := h
theorem eqW_key (a b : Key) : eqW (keyW1 a) (keyW1 b) = decide (a = b) := by
  cases a <;> cases b <;> simp [keyW1, eqW_int, eqW_str, eqW_is, eqW_si]
def keyT (x : Wish) : W := .tup (x.key.map keyW1)
theorem eqW_keys (a b : List Key) : eqW (.tup (a.map keyW1)) (.tup (b.map keyW1)) = decide (a = b) := eqW_mapT eqW_key a b
def keyIn (k : List Key) (xs : List Wish) : Bool := xs.any fun y => decide (y.key = k)
theorem inW_keys {x : Wish} {xs : List Wish} : inW (.tup (x.key.map keyW1)) (xs.map keyT) = keyIn x.key xs := by
  show (xs.map keyT).any (fun z => eqW z (.tup (x.key.map keyW1))) = _
  rw [List.any_map]
  unfold keyIn
  congr 1
  funext y
  exact eqW_keys y.key x.key
theorem keyIn_no {k : List Key} {xs : List Wish} (h : keyIn k xs = false) : k ∉ xs.map Wish.key := by
  intro e
  obtain ⟨y, hy, e⟩ := List.mem_map.mp e
  unfold keyIn at h
  rw [List.any_eq_false] at h
  exact h y hy (decide_eq_true e)
theorem keyT_ok {x : Wish} {n : Nat} (h : 1 ≤ n) : (W.tup (x.key.map keyW1)).ok n = true := by
  refine W.ok_mono _ h ?_
  cases x <;> (simp only [Wish.key, List.map, keyW1, W.ok, W.oks, Bool.and_true, Bool.true_and]; decide +kernel)
theorem keysT_ok {xs : List Wish} {n : Nat} (h : 1 ≤ n) : W.oks (xs.map keyT) n = true := oks_map (fun _ => keyT_ok h) xs
theorem fz_new {S T : Sto} {ws us : List W} (h : T[0]? = some (.lst ws)) (hf : Fzs (S ++ T) S.length ws us) : Fz (S ++ T) S.length (.ref S.length) (.lst us) := .new (Nat.le_refl _) (by rw [nth_new0]; exact h) hf
theorem rlt_wish {n : Nat} (x : Wish) : x.w.rlt n = true := by
  cases x with
  | group g ms =>
    simp only [Wish.w, W.rlt, W.rlts, Bool.and_true, Bool.true_and]
    exact rlts_map (fun _ => rfl) ms
  | _ => rfl
theorem fzs_wishes {S : Sto} {n : Nat} {xs : List Wish} : Fzs S n (xs.map Wish.w) (xs.map Wish.w) := fzs_self _ (rlts_map rlt_wish xs)

-- WC
/-! ### calls with at most two phones busy -/
section
open TL
/-! ### deeds -/
inductive Deed
  | lift (p : Int) | drop (p : Int) | hold (p : Int) | swap (p : Int) | take (p : Int) | join (p : Int) | dial (p g : Int) | beat
  deriving DecidableEq
def Deed.word : Deed → Str
  | .lift _ => "lift" | .drop _ => "drop" | .hold _ => "hold" | .swap _ => "swap" | .take _ => "take" | .join _ => "join" | .dial _ _ => "dial" | .beat => "beat"
def Deed.nums : Deed → List Int
  | .lift p => [p] | .drop p => [p] | .hold p => [p] | .swap p => [p] | .take p => [p] | .join p => [p] | .dial p g => [p, g] | .beat => []
def Deed.w (d : Deed) : W := .tup (.str d.word :: intsW d.nums)
def Deed.ok (d : Deed) : Prop := match d with
  | .dial p g => 0 ≤ p ∧ p ≤ 5 ∧ 0 ≤ g ∧ g ≤ 7
  | .beat => True
  | .lift p => 0 ≤ p ∧ p ≤ 5
  | .drop p => 0 ≤ p ∧ p ≤ 5
  | .hold p => 0 ≤ p ∧ p ≤ 5
  | .swap p => 0 ≤ p ∧ p ≤ 5
  | .take p => 0 ≤ p ∧ p ≤ 5
  | .join p => 0 ≤ p ∧ p ≤ 5
theorem Deed.wok2 (d : Deed) : d.w.ok 2 = true := by
  cases d <;> (simp only [Deed.w, Deed.word, Deed.nums, intsW, List.map_cons, List.map_nil, W.ok, W.oks, Bool.and_true]; decide +kernel)
theorem Deed.wok (d : Deed) {n : Nat} (h : 2 ≤ n := by decide) : d.w.ok n = true := W.ok_mono _ h d.wok2
/-! ### figures -/
def dg (i : Int) : Str := toString i
/-! ### words, rows -/
def digits (l : List Int) : Prop := ∀ m ∈ l, 0 ≤ m ∧ m ≤ 9
def Wish.word : Wish → Str
  | .all _ _ => "all" | .busy _ _ => "busy" | .late _ _ _ => "late" | .wait _ => "wait" | .still _ => "still" | .bar _ _ => "bar" | .group _ _ => "group"
def Wish.nums : Wish → List Int
  | .all p g => [p, g] | .busy p g => [p, g] | .late p g t => [p, g, t] | .wait p => [p] | .still p => [p] | .bar p o => [p, o] | .group g ms => g :: ms
theorem Wish.dig {x : Wish} (h : x.ok) : digits x.nums ∧ x.nums.length ≤ 7 := by
  cases x with
  | group g ms =>
    obtain ⟨h1, h2, h3, h4, h5, _⟩ := h
    refine ⟨fun m hm => ?_, by simp only [Wish.nums, List.length_cons]; omega⟩
    rcases List.mem_cons.mp hm with rfl | hm
    · omega
    · have := h5 m hm
      omega
  | _ =>
    simp only [Wish.ok] at h
    refine ⟨fun m hm => ?_, by simp [Wish.nums]⟩
    simp only [Wish.nums, List.mem_cons, List.not_mem_nil, or_false] at hm
    omega
theorem Deed.dig {d : Deed} (h : d.ok) : digits d.nums ∧ d.nums.length ≤ 2 := by
  cases d <;>
    (simp only [Deed.ok] at h
     refine ⟨fun m hm => ?_, by simp [Deed.nums]⟩
     simp only [Deed.nums, List.mem_cons, List.not_mem_nil, or_false] at hm
     try omega)
/-! ### signs -/
theorem dg_log {i : Int} (h0 : 0 ≤ i) (h9 : i ≤ 9) : i.natAbs.log2 < 1920 := by
  obtain ⟨n, rfl⟩ : ∃ n : Nat, i = n := ⟨i.toNat, by omega⟩
  have hn : n < 10 := by omega
  match n, hn with
  | 0, _ => decide +kernel
  | 1, _ => decide +kernel
  | 2, _ => decide +kernel
  | 3, _ => decide +kernel
  | 4, _ => decide +kernel
  | 5, _ => decide +kernel
  | 6, _ => decide +kernel
  | 7, _ => decide +kernel
  | 8, _ => decide +kernel
  | 9, _ => decide +kernel
end
-- AM23
end AM
namespace AMX
open PySem PySem.Spec PyProof.Rows PySem.SeqAt
section
variable {M : Model} {prog : Program} {w : World} {A : Around} {E : Value → Shared → Prop} {s : Shared} {K : PySem.W.Frag} {x y C : Addr} {ox oy : Obj} {od oe : Option Obj}
theorem entry_other (hxy : x ≠ y) (hx : s.heap.get? x = some ox) (hy : s.heap.get? y = some oy) (hnt : ox.cls ≠ .type "tuple") {Q : Fin → Shared → Prop} (hq : Q (.done (.ret .notImplemented)) s) : wpAny M A (Builtin.«object.__eq__» ⟨[.ref x, .ref y], []⟩) Q E s := by
  unfold Builtin.«object.__eq__»
  repeat (first | with_reducible refine wpAny_isSame_ref_other hxy hx hy hnt ?_ | wp_step)
  exact hq
theorem entry_self {Q : Fin → Shared → Prop} (hq : Q (.done (.ret (.bool true))) s) : wpAny M A (Builtin.«object.__eq__» ⟨[.ref x, .ref x], []⟩) Q E s := by
  unfold Builtin.«object.__eq__»
  repeat (first | with_reducible refine wpAny_isSame_ref_self ?_ | wp_step)
  exact hq
theorem call_other (X : K.In s.heap) (I : PySem.W.InstAt s.heap x ox C od) (hm : PySem.W.mroIn K C (.type "object") = some true) (hxy : x ≠ y) (hx : s.heap.get? x = some ox) (hy : s.heap.get? y = some oy) (hnt : ox.cls ≠ .type "tuple") {Q : Value → Shared → Prop} (hq : Q .notImplemented s) :
    wpAny (model prog w) A (call (.builtin "object.__eq__") [.ref x, .ref y]) Q E s :=
  wpAny_call (codeAny_call_builtin F.cmp_object.eq.plain F.cmpEntry_eq (PySem.W.check_slot F.cmpKind_eq F.cmpSplit_eq (I.type.andThen (PySem.W.looks_mroIn X hm)) (F.cmpArgs_eq _ _) (entry_other hxy hx hy hnt hq)))
theorem call_self (X : K.In s.heap) (I : PySem.W.InstAt s.heap x ox C od) (hm : PySem.W.mroIn K C (.type "object") = some true) {Q : Value → Shared → Prop} (hq : Q (.bool true) s) :
    wpAny (model prog w) A (call (.builtin "object.__eq__") [.ref x, .ref x]) Q E s :=
  wpAny_call (codeAny_call_builtin F.cmp_object.eq.plain F.cmpEntry_eq (PySem.W.check_slot F.cmpKind_eq F.cmpSplit_eq (I.type.andThen (PySem.W.looks_mroIn X hm)) (F.cmpArgs_eq _ _) (entry_self hq)))
theorem rc_other (hu : A.units < cLine) (X : K.In s.heap) (I : PySem.W.InstAt s.heap x ox C od) (J : PySem.W.InstAt s.heap y oy C oe) (hm : PySem.W.mroIn K C (.type "object") = some true) (hs : PySem.W.findIn K (.ref C) "__eq__" = some (some (.builtin "object.__eq__")))
    (hxy : x ≠ y) (hx : s.heap.get? x = some ox) (hy : s.heap.get? y = some oy) (hnt : ox.cls ≠ .type "tuple") (hnu : oy.cls ≠ .type "tuple") : RcAt A s (.ref x) (.ref y) false := fun prog w E Q h => by
  have one : wpAny (model prog w) A (tryCompare (.ref x) "__eq__" (.ref y)) (fun r s' => r = none ∧ s' = s) E s := by
    unfold tryCompare
    exact wpAny_bind (HN.ifBound_objEq X I hs (call_other X I hm hxy hx hy hnt (wpAny_pure ⟨rfl, rfl⟩)))
  have two : wpAny (model prog w) A (tryCompare (.ref y) "__eq__" (.ref x)) (fun r s' => r = none ∧ s' = s) E s := by
    unfold tryCompare
    exact wpAny_bind (HN.ifBound_objEq X J hs (call_other X J hm (Ne.symm hxy) hy hx hnu (wpAny_pure ⟨rfl, rfl⟩)))
  simp only [richCompare, cmpInfo_Eq, oneThing_ref]
  refine wpAny_holding (wpAny_bind (wpAny_cRoomFor hu ?_))
  refine wpAny_bind (I.type.here ?_)
  refine wpAny_bind (J.type.here ?_)
  split
  · rename_i q
    exact absurd q (by simp)
  · refine wpAny_bind (wpAny_pure ?_)
    simp only [Bool.false_eq_true, if_false, Bool.not_false, if_true]
    refine wpAny_bind (m := tryCompare (.ref x) _ (.ref y)) (wpAny_mono one (fun r s1 z => ?_) fun _ _ e => e)
    obtain ⟨z1, z2⟩ := z
    subst z1
    subst z2
    refine wpAny_bind (m := tryCompare (.ref y) _ (.ref x)) (wpAny_mono two (fun r s2 z => ?_) fun _ _ e => e)
    obtain ⟨z1, z2⟩ := z
    subst z1
    subst z2
    exact wpAny_bind (wpAny_rule (wpAny_bind (wpAny_isSame_ref_other hxy hx hy hnt (wpAny_pure h))))
theorem rc_self (hu : A.units < cLine) (X : K.In s.heap) (I : PySem.W.InstAt s.heap x ox C od) (hm : PySem.W.mroIn K C (.type "object") = some true) (hs : PySem.W.findIn K (.ref C) "__eq__" = some (some (.builtin "object.__eq__"))) : RcAt A s (.ref x) (.ref x) true := fun prog w E Q h => by
  have one : wpAny (model prog w) A (tryCompare (.ref x) "__eq__" (.ref x)) (fun r s' => r = some (.bool true) ∧ s' = s) E s := by
    unfold tryCompare
    exact wpAny_bind (HN.ifBound_objEq X I hs (call_self X I hm (wpAny_pure ⟨rfl, rfl⟩)))
  simp only [richCompare, cmpInfo_Eq, oneThing_ref]
  refine wpAny_holding (wpAny_bind (wpAny_cRoomFor hu ?_))
  refine wpAny_bind (I.type.here ?_)
  refine wpAny_bind (I.type.here ?_)
  split
  · rename_i q
    exact absurd q (by simp)
  · refine wpAny_bind (wpAny_pure ?_)
    simp only [Bool.false_eq_true, if_false, Bool.not_false, if_true]
    refine wpAny_bind (m := tryCompare (.ref x) _ (.ref x)) (wpAny_mono one (fun r s1 z => ?_) fun _ _ e => e)
    obtain ⟨z1, z2⟩ := z
    subst z1
    subst z2
    exact wpAny_pure h
end
end AMX
namespace AM
open PySem PySem.Spec PyProof.Rows L2

-- AM24
/-! ### instances that are equal to themselves alone -/
structure PlainEq (K : PySem.W.Frag) (C : Addr) : Prop where
  mro : PySem.W.mroIn K C (.type "object") = some true
  eq : PySem.W.findIn K (.ref C) "__eq__" = some (some (.builtin "object.__eq__"))
  nn : PySem.W.subIn K (.ref C) (.type "NoneType") = some false
end AM
namespace AMX
open PySem PySem.Spec PyProof.Rows PySem.SeqAt
theorem rc_none' {A : Around} {s : Shared} {K : PySem.W.Frag} {x C : Addr} {ox : Obj} {od : Option Obj} (hu : A.units < cLine) (X : K.In s.heap) (I : PySem.W.InstAt s.heap x ox C od) (P : AM.PlainEq K C) : RcAt A s .none (.ref x) false := fun prog w E Q h => by
  have one : wpAny (model prog w) A (tryCompare (.ref x) "__eq__" .none) (fun r s' => r = none ∧ s' = s) E s := by
    unfold tryCompare
    exact wpAny_bind (HN.ifBound_objEq X I P.eq (HN.call_objEq X I P.mro (wpAny_pure ⟨rfl, rfl⟩)))
  have two : wpAny (model prog w) A (tryCompare .none "__eq__" (.ref x)) (fun r s' => r = none ∧ s' = s) E s :=
    wpAny_tryCompare_declines (show s.TypeIs .none "NoneType" from rfl) F.slot_NoneType_eq_refl (call_gives F.slot_NoneType_eq_refl rfl F.entry_NoneType_eq (F.args_NoneType_eq_2 _ _) (NoneType___eq___none_ref_0 x) ⟨rfl, rfl, rfl⟩)
  simp only [richCompare, cmpInfo_Eq, (rfl : oneThing? .Eq Value.none (.ref x) = none)]
  refine wpAny_holding (wpAny_bind (wpAny_cRoomFor hu ?_))
  refine wpAny_bind (wpAny_typeOf (show s.TypeIs .none "NoneType" from rfl) ?_)
  refine wpAny_bind (I.type.here ?_)
  split
  · refine wpAny_bind ((PySem.W.looks_subIn X P.nn).here ?_)
    simp only [Bool.false_eq_true, if_false, Bool.not_false, if_true]
    refine wpAny_bind (m := tryCompare .none _ (.ref x)) (wpAny_mono two (fun r s1 z => ?_) fun _ _ e => e)
    obtain ⟨z1, z2⟩ := z
    subst z1
    subst z2
    refine wpAny_bind (m := tryCompare (.ref x) _ .none) (wpAny_mono one (fun r s2 z => ?_) fun _ _ e => e)
    obtain ⟨z1, z2⟩ := z
    subst z1
    subst z2
    exact wpAny_bind (wpAny_rule (wpAny_bind (wpAny_of_eq (rfl : isSame .none (.ref x) = pure false) (wpAny_pure h))))
  · rename_i q
    exact absurd (by simp) q
end AMX
namespace AM
open PySem PySem.Spec PyProof.Rows L2
def InsV (H : Hp) (C : Addr) (z : V) : Prop := z = .non ∨ ∃ a dx fs, z = .ref a ∧ H a = some (.ins C dx fs)
def rEqI (K : PySem.W.Frag) (C : Addr) : R2 := fun x y H Q => PlainEq K C ∧ InsV H C x ∧ InsV H C y ∧ Q (.bl (decide (x = y))) H
section
variable {X : Cx} {A : Around} {pins : List (Addr × Obj)} {σ : L2.St} {H : Hp} {s : Shared} {C : Addr}
theorem ins_rc (I : Inv X pins σ H s) (hu : A.units < cLine) (P : PlainEq X.K C) {a b : Addr} {dx dy : Addr} {fs gs : List (Str × V)} (ha : H a = some (.ins C dx fs)) (hb : H b = some (.ins C dy gs)) : SeqAt.RcAt A s (.ref a) (.ref b) (decide (a = b)) := by
  obtain ⟨mA, O, _⟩ := ins_get I.hok ha
  obtain ⟨mB, O', _⟩ := ins_get I.hok hb
  obtain ⟨od, J, _⟩ := O.look
  obtain ⟨oe, J', _⟩ := O'.look
  by_cases e : a = b
  · subst e
    rw [decide_eq_true rfl]
    exact AMX.rc_self hu I.kIn J P.mro P.eq
  · rw [decide_eq_false e]
    exact AMX.rc_other hu I.kIn J J' P.mro P.eq e O.obj O'.obj (fun z => nomatch z) (fun z => nomatch z)
theorem ins_eqAt (I : Inv X pins σ H s) (hu : A.units < cLine) (P : PlainEq X.K C) {a b : Addr} {dx dy : Addr} {fs gs : List (Str × V)} (ha : H a = some (.ins C dx fs)) (hb : H b = some (.ins C dy gs)) : SeqAt.EqAt A s (.ref a) (.ref b) (decide (a = b)) := by
  by_cases e : a = b
  · subst e
    rw [decide_eq_true rfl]
    exact SeqAt.EqAt.same _
  · intro prog w E Q h
    exact GQ.eqBool_refG e (ins_rc I hu P ha hb prog w E _ ⟨_, rfl, h⟩)
end
section
variable {X : Cx} {C : Addr}
theorem op_eqI (hu : X.A.units + 65 < cLine) : OpR X (compareOp .Eq) (rEqI X.K C) := by
  intro pins s σ H x y v u Q I rx ry h
  obtain ⟨P, ix, iy, q⟩ := h
  rcases ix with rfl | ⟨a, dx, fs, rfl, ha⟩
  · rcases iy with rfl | ⟨b, dy, gs, rfl, hb⟩
    · exact op_eqD (by omega) pins s σ H .non .non v u Q I rx ry ⟨.none, .none, .non, .non, rfl, rfl, q⟩
    · cases rx
      cases ry
      obtain ⟨mB, O', _⟩ := ins_get I.hok hb
      obtain ⟨oe, J', _⟩ := O'.look
      exact AMX.rc_none' (by omega) I.kIn J' P X.prog X.w X.xe _ ⟨.bl _, H, I, rfl, q⟩
  · rcases iy with rfl | ⟨b, dy, gs, rfl, hb⟩
    · cases rx
      cases ry
      obtain ⟨mB, O', _⟩ := ins_get I.hok ha
      obtain ⟨oe, J', _⟩ := O'.look
      exact HN.rc_none (by omega) I.kIn J' P.mro P.eq X.prog X.w X.xe _ ⟨.bl _, H, I, rfl, q⟩
    · cases rx
      cases ry
      refine ins_rc I (by omega) P ha hb X.prog X.w X.xe _ ⟨.bl _, H, I, rfl, ?_⟩
      have e : decide (a = b) = decide ((V.ref a) = V.ref b) := by
        by_cases z : a = b
        · subst z; rw [decide_eq_true rfl, decide_eq_true rfl]
        · rw [decide_eq_false z, decide_eq_false (fun w => z (V.ref.inj w))]
      rw [e]
      exact q
end
/-! on told values -/
def insW (S : Sto) (C : Addr) : W → Prop
  | .non => True
  | .ref k => ∃ fs, S[k]? = some (.ins C fs)
  | _ => False
def sameW : W → W → Bool
  | .non, .non => true
  | .ref i, .ref j => decide (i = j)
  | _, _ => false
theorem Rep.insA {M : Lay} {H : Hp} {S : Sto} (r : Rep M H S) {k : Nat} {C : Addr} {fs : List (Str × W)} (h : S[k]? = some (.ins C fs)) : ∃ p dx vs, M.m[k]? = some p ∧ H p = some (.ins C dx vs) := by
  obtain ⟨p, ho, h1, h2, b⟩ := r.at' h
  cases b with
  | ins a => exact ⟨p, _, _, h1, h2⟩
theorem insW_vw {M : Lay} {H : Hp} {S : Sto} {C : Addr} (r : Rep M H S) {x : W} {v : V} (a : VW M H v x) (h : insW S C x) : InsV H C v := by
  cases x with
  | non => cases a; exact .inl rfl
  | ref k =>
    obtain ⟨fs, h⟩ := h
    obtain ⟨p, dx, vs, h1, h2⟩ := r.insA h
    cases a with
    | ref q =>
      rw [q] at h1; cases h1
      exact .inr ⟨_, _, _, rfl, h2⟩
  | _ => cases h
theorem same_vw {M : Lay} {H : Hp} {S : Sto} {C : Addr} (r : Rep M H S) {x y : W} {v u : V} (a : VW M H v x) (b : VW M H u y) (hx : insW S C x) (hy : insW S C y) : decide (v = u) = sameW x y := by
  cases x with
  | non =>
    cases a
    cases y with
    | non => cases b; exact decide_eq_true rfl
    | ref k => cases b; exact decide_eq_false fun z => nomatch z
    | _ => cases hy
  | ref i =>
    cases a with
    | ref q =>
      cases y with
      | non => cases b; exact decide_eq_false fun z => nomatch z
      | ref j =>
        cases b with
        | ref q' =>
          show _ = decide (i = j)
          by_cases e : i = j
          · subst e
            rw [q] at q'; cases q'
            rw [decide_eq_true rfl, decide_eq_true rfl]
          · rw [decide_eq_false e]
            refine decide_eq_false fun z => e ?_
            cases z
            exact nd_at r.nd q q'
      | _ => cases hy
  | _ => cases hx
section
variable {X : Cx} {Ψ : AX} {a b o e : Expr} {E : AEnv} {S : Sto} {Φ : W → Sto → Prop} {ΦT : Bool → Sto → Prop} {pos : Pos}
def sEqI (X : Cx) (x y : W) (S : Sto) (Φ : W → Sto → Prop) : Prop := ∃ C, PlainEq X.K C ∧ insW S C x ∧ insW S C y ∧ Φ (.bl (sameW x y)) S
theorem sEqI_i {x y : W} {C : Addr} {k : Bool} (p : PlainEq X.K C) (h1 : insW S C x) (h2 : insW S C y) (e : sameW x y = k) (h : Φ (.bl k) S) : sEqI X x y S Φ := ⟨C, p, h1, h2, by rw [e]; exact h⟩
theorem xE_eqI (hu : X.A.units + 65 < cLine) (h : wE X Ψ a E S fun x S1 => wE X Ψ b E S1 fun y S2 => sEqI X x y S2 Φ) : wE X Ψ (.Compare a [.Eq] [b] pos) E S Φ :=
  wE_cmp (r := fun x y H Q => ∃ C, rEqI X.K C x y H Q) (g := fun x y S Φ => sEqI X x y S Φ) (fun pins s σ H x y v u Q I rx ry ⟨C, h⟩ => op_eqI hu pins s σ H x y v u Q I rx ry h)
    (opw_pure fun M H S v u x y Φ r a1 a2 ⟨C, p, h1, h2, h⟩ Q q => ⟨C, p, insW_vw r a1 h1, insW_vw r a2 h2, by
      rw [same_vw r a1 a2 h1 h2]
      exact q _ _ h (.bl _)⟩) h
theorem xT_eqI (hu : X.A.units + 65 < cLine) (h : wE X Ψ a E S fun x S1 => wE X Ψ b E S1 fun y S2 => sEqI X x y S2 fun w S => sB w S ΦT) : wT X Ψ (.Compare a [.Eq] [b] pos) E S ΦT :=
  wT_cmp (r := fun x y H Q => ∃ C, rEqI X.K C x y H Q) (g := fun x y S Φ => sEqI X x y S Φ) (fun pins s σ H x y v u Q I rx ry ⟨C, h⟩ => op_eqI hu pins s σ H x y v u Q I rx ry h)
    (opw_pure fun M H S v u x y Φ r a1 a2 ⟨C, p, h1, h2, h⟩ Q q => ⟨C, p, insW_vw r a1 h1, insW_vw r a2 h2, by
      rw [same_vw r a1 a2 h1 h2]
      exact q _ _ h (.bl _)⟩) h
end

-- AM25
/-! ### lists of instances: in, remove -/
def InsA (H : Hp) (C : Addr) (z : V) : Prop := ∃ a dx fs, z = .ref a ∧ H a = some (.ins C dx fs)
def isRefV (a : Addr) : Value → Bool
  | .ref b => decide (b = a)
  | _ => false
section
variable {X : Cx} {pins : List (Addr × Obj)} {σ : L2.St} {H : Hp} {s : Shared} {C : Addr} {A : Around}
theorem insA_eqAt (I : Inv X pins σ H s) (hu : A.units < cLine) (P : PlainEq X.K C) {a dx : Addr} {fs : List (Str × V)} (ha : H a = some (.ins C dx fs)) : ∀ {xs : List V} {us : List Value}, Vals xs us → (∀ z ∈ xs, InsA H C z) → ∀ u ∈ us, SeqAt.EqAt A s u (.ref a) (isRefV a u)
  | _, _, .nil, _ => fun u hu' => by cases hu'
  | y :: xs, u :: us, .cons r t, f => fun u' hu' => by
    rcases List.mem_cons.mp hu' with e | hu'
    · subst e
      obtain ⟨b, dy, gs, rfl, hb⟩ := f y (List.mem_cons_self ..)
      cases r
      exact ins_eqAt I hu P hb ha
    · exact insA_eqAt I hu P ha t (fun z hz => f z (List.mem_cons_of_mem _ hz)) u' hu'
theorem any_ref {H : Hp} {a : Addr} : ∀ {xs : List V} {us : List Value}, Vals xs us → (∀ z ∈ xs, InsA H C z) → us.any (isRefV a) = xs.any fun z => decide (z = V.ref a)
  | _, _, .nil, _ => rfl
  | y :: xs, u :: us, .cons r t, f => by
    rw [List.any_cons, List.any_cons, any_ref t fun z hz => f z (List.mem_cons_of_mem _ hz)]
    congr 1
    obtain ⟨b, dy, gs, rfl, hb⟩ := f y (List.mem_cons_self ..)
    cases r
    show decide (b = a) = decide (V.ref b = V.ref a)
    by_cases e : b = a
    · subst e; rw [decide_eq_true rfl, decide_eq_true rfl]
    · rw [decide_eq_false e, decide_eq_false fun z => e (V.ref.inj z)]
end
section
variable {X : Cx} {C : Addr}
def rInI (K : PySem.W.Frag) : R2 := fun x y H Q => ∃ C p xs a dx fs, PlainEq K C ∧ x = .ref a ∧ H a = some (.ins C dx fs) ∧ y = .ref p ∧ SqL K H p xs ∧ (∀ z ∈ xs, InsA H C z) ∧ Q (.bl (xs.any fun z => decide (z = V.ref a))) H
theorem op_inI (hu : X.A.units + 64 < cLine) : OpR X (compareOp .In) (rInI X.K) := by
  intro pins s σ H x y v u Q I rx ry h
  obtain ⟨C, p, xs, a, dx, fs, P, rfl, ha, rfl, hq, f, q⟩ := h
  cases rx
  cases ry
  obtain ⟨its, rv, hl, _⟩ := I.list hq
  have hu1 : X.A.in1.units < cLine := by show X.A.units + 1 < cLine; omega
  refine SeqAt.in_listAt (isRefV a) hl.isList (fun z hz => insA_eqAt I hu1 P ha rv f z (by simpa using hz)) ⟨.bl _, H, I, rfl, ?_⟩
  rw [show its.toArray.any (isRefV a) = its.any (isRefV a) by simp, any_ref rv f]
  exact q
end
section
variable {M : Lay} {H : Hp} {S : Sto} {C : Addr}
theorem vws_refs (r : Rep M H S) : ∀ {ks : List Nat} {xs : List V}, VWs M H xs (ks.map W.ref) → (∀ k ∈ ks, ∃ fs, S[k]? = some (.ins C fs)) → (∀ z ∈ xs, InsA H C z) ∧ ∀ (j : Nat) (a : Addr), M.m[j]? = some a → (xs.any fun z => decide (z = V.ref a)) = decide (j ∈ ks)
  | [], _, h, _ => by
    cases h
    exact ⟨(fun z hz => by cases hz), fun j a _ => by simp⟩
  | k :: ks, _, h, hk => by
    cases h with
    | cons a t =>
      rename_i v vs
      have ih := vws_refs r t fun k' hk' => hk k' (List.mem_cons_of_mem _ hk')
      obtain ⟨fs, e⟩ := hk k (List.mem_cons_self ..)
      obtain ⟨p, dx, gs, h1, h2⟩ := r.insA e
      cases a with
      | ref q =>
        rw [q] at h1; cases h1
        refine ⟨fun z hz => ?_, fun j b hb => ?_⟩
        · rcases List.mem_cons.mp hz with rfl | hz
          · exact ⟨_, _, _, rfl, h2⟩
          · exact ih.1 z hz
        · rw [List.any_cons, ih.2 j b hb]
          have e : decide (V.ref p = V.ref b) = decide (j = k) := by
            by_cases z : j = k
            · subst z
              rw [q] at hb; cases hb
              rw [decide_eq_true rfl, decide_eq_true rfl]
            · rw [decide_eq_false z]
              refine decide_eq_false fun w => z ?_
              cases w
              exact nd_at r.nd hb q
          rw [e]
          by_cases z : j = k
          · simp [z]
          · simp [z]
end
section
variable {X : Cx} {Ψ : AX} {a b o e : Expr} {E : AEnv} {S : Sto} {Φ : W → Sto → Prop} {ΦT : Bool → Sto → Prop} {pos : Pos}
def sInI (X : Cx) (x y : W) (S : Sto) (Φ : W → Sto → Prop) : Prop := ∃ (C : Addr) (j : Nat) (ks : List Nat), PlainEq X.K C ∧ x = .ref j ∧ (∃ fs, S[j]? = some (.ins C fs)) ∧ itemsW S y = some (ks.map W.ref) ∧ (∀ z, y ≠ .tup z) ∧ (∀ k ∈ ks, ∃ fs, S[k]? = some (.ins C fs)) ∧ Φ (.bl (decide (j ∈ ks))) S
theorem xT_inI (hu : X.A.units + 65 < cLine) (h : wE X Ψ a E S fun x S1 => wE X Ψ b E S1 fun y S2 => sInI X x y S2 fun w S => sB w S ΦT) (hm : behindInMarks .In b = false := by rfl) : wT X Ψ (.Compare a [.In] [b] pos) E S ΦT :=
  wT_cmp (g := fun x y S Φ => sInI X x y S Φ) (op_inI (by omega))
    (opw_pure fun M H S v u x y Φ r a1 a2 ⟨C, j, ks, p, e1, ⟨fs, hj⟩, hi, nt, hk, h⟩ Q q => by
      subst e1
      obtain ⟨ad, xs, rfl, rv, kk⟩ := seq_of (K := X.K) r a2 hi
      obtain ⟨z1, z2⟩ := vws_refs r rv hk
      obtain ⟨pa, dx, gs, h1, h2⟩ := r.insA hj
      cases a1 with
      | ref qm =>
        rw [qm] at h1; cases h1
        refine ⟨C, ad, xs, _, _, _, p, rfl, h2, rfl, by rcases kk with ⟨k, _⟩ | ⟨_, y, ey⟩; exact k; exact absurd ey (nt y), z1, ?_⟩
        rw [z2 j _ qm]
        exact q _ _ h (.bl _)) h hm
end
/-! xs.remove(an instance) -/
def tRemI (K : PySem.W.Frag) (to te : TE) : TE := fun σ H Q => to σ H fun x H1 => tyV K "list" x H1 ∧ te σ H1 fun y H2 => ∃ (C l a dx : Addr) (fs : List (Str × V)) (xs : List V) (j : Nat), PlainEq K C ∧ x = .ref l ∧ y = .ref a ∧ H2 a = some (.ins C dx fs) ∧ H2 l = some (.lst xs) ∧ (∀ z ∈ xs, InsA H2 C z) ∧
  xs[j]? = some (.ref a) ∧ (∀ i, i < j → xs[i]? ≠ some (.ref a)) ∧ Q .non (upd H2 l (.lst (xs.eraseIdx j)))
theorem vals_get : ∀ {xs : List V} {us : List Value} {i : Nat} {u : Value}, Vals xs us → us[i]? = some u → ∃ x, xs[i]? = some x ∧ RelV x u
  | _, _, _, _, .nil, h => by simp at h
  | _, _, 0, _, .cons r t, h => by simp at h; subst h; exact ⟨_, rfl, r⟩
  | _, _, i + 1, _, .cons r t, h => vals_get (i := i) t (by simpa using h)
section
variable {X : Cx} {o e : Expr} {to te : TE} {apos cpos : Pos}
theorem pe_remI (hu : X.A.units + 65 < cLine) (ho : PE X o to) (he : PE X e te) (hbase : attributeBase o "remove" X.env (eval o X.env) = eval o X.env := by rfl)
    (hfew : ((backTo cpos (starEach [e] X.env)).all (fun x => !x.1) && (backToKw cpos (keywordEach [] X.env)).all (fun x => x.1.isSome)
      && decide (([e] : List Expr).length + ([] : List Keyword).length + (if ([] : List Keyword).isEmpty then 0 else 1) < 30)) = true := by rfl)
    (hline : (apos.endLine == cpos.line) = true := by rfl) (hs : starEach [e] X.env = (false, eval e X.env) :: starEach [] X.env := by rfl) (hplain : (backTo cpos (starEach [] X.env)).any (·.1) = false := by rfl) :
    PE X (.Call (.Attribute o "remove" apos) [e] [] cpos) (tRemI X.K to te) := by
  refine ⟨fun pins s σ H Q I h => ?_⟩
  refine wpAny_Call_method_late hbase hfew hline rfl (thn (ho.run pins s σ H _ I h) fun v s1 ⟨x, H1, I1, r1, ty, q1⟩ => ?_)
  obtain ⟨h1, h2⟩ := tyV_is I1 r1 ty
  refine ⟨"list", _, PySem.F.plainAttrs_list, PySem.F.slot_list_remove, PySem.F.type_list_remove, h1, h2, ?_⟩
  rw [hs]
  refine Calls.callWith_builtin (by show (false || (backTo cpos (starEach [] X.env)).any (·.1)) = false; rw [hplain] <;> rfl) (Calls.evalArgs_plain ?_)
  show wpAny _ _ (spliced ((false, eval e X.env) :: backTo cpos (starEach [] X.env))) _ _ s1
  refine Calls.spliced_cons (thn (he.run pins s1 σ H1 _ I1 q1) fun u s2 ⟨y, H2, I2, ry, q2⟩ => ?_)
  refine Calls.spliced_nil ?_
  obtain ⟨C, l, a, dx, fs, xs, j, P, ex, ey, ha, hH, hz, hj, hno, q⟩ := q2
  subst ex
  subst ey
  cases (show v = Value.ref l from r1)
  cases (show u = Value.ref a from ry)
  obtain ⟨z, its, n, r, hl, e0⟩ := I2.lstM hH
  have hjx : j < xs.length := (List.getElem?_eq_some_iff.mp hj).1
  have hji : j < its.length := by omega
  have hsz : its.toArray.size ≤ sizeLine := by rw [List.size_toArray, ← hl]; exact z
  have at_ : ∀ (i : Nat) (hi : i < its.length), isRefV a its[i] = true ↔ xs[i]? = some (.ref a) := by
    intro i hi
    obtain ⟨x', hx', rx'⟩ := vals_get r (List.getElem?_eq_getElem hi)
    obtain ⟨b, dy, gs, rfl, hb⟩ := hz x' (List.mem_of_getElem? hx')
    have e1 : its[i] = Value.ref b := rx'
    rw [e1, hx']
    show decide (b = a) = true ↔ _
    rw [decide_eq_true_iff]
    constructor
    · intro w; rw [w]
    · intro w; cases w; rfl
  refine call_meets PySem.F.slot_list_remove ⟨_, e0, rfl⟩ PySem.F.entry_list_remove (PySem.F.args_list_remove_2 _ _)
    (PySem.SeqAt.list_removeAt l its.toArray n none #[] (.ref a) (isRefV a) j (by rw [List.size_toArray]; exact hji) ?hit (fun i hi2 hlt => ?hno) hsz) ⟨e0, ?heq, ?_⟩
  case hit => exact (at_ j hji).mpr hj
  case hno =>
    have hi3 : i < its.length := by rw [List.size_toArray] at hi2; exact hi2
    show isRefV a its[i] = false
    rw [Bool.eq_false_iff]
    intro w
    exact hno i hlt ((at_ i hi3).mp w)
  case heq =>
    intro y hy
    exact insA_eqAt I2 (by show X.A.units + 1 < cLine; omega) P ha r hz y (by simpa using hy)
  have r2 : Vals (xs.eraseIdx j) (its.eraseIdx j) := r.eraseIdx j
  refine ⟨.non, _, I2.lset (its' := its.eraseIdx j) hH e0 ?_ r2 ?_, rfl, q⟩
  · show its.toArray.eraseIdxIfInBounds j = (its.eraseIdx j).toArray
    rw [List.eraseIdxIfInBounds_toArray]
  · have := List.length_eraseIdx_le xs j
    omega
end
section
variable {X : Cx} {Ψ : AX} {a b o e : Expr} {E : AEnv} {S : Sto} {Φ : W → Sto → Prop} {pos : Pos}
def sRemI (X : Cx) (x w : W) (S : Sto) (Φ : W → Sto → Prop) : Prop := ∃ (C : Addr) (l j : Nat) (ks : List Nat), PlainEq X.K C ∧ x = .ref l ∧ w = .ref j ∧ S[l]? = some (.lst (ks.map W.ref)) ∧ (∀ k ∈ ks, ∃ fs, S[k]? = some (.ins C fs)) ∧ j ∈ ks ∧ Φ .non (S.set l (.lst ((ks.erase j).map W.ref)))
theorem firstN_at : ∀ {ns : List Nat} {k : Nat}, k ∈ ns → ∃ j, ns[j]? = some k ∧ (∀ i, i < j → ns[i]? ≠ some k) ∧ ns.eraseIdx j = ns.erase k
  | [], k, h => absurd h (by simp)
  | a :: r, k, h => by
    by_cases e : a = k
    · refine ⟨0, by rw [e] <;> rfl, fun i hi => absurd hi (Nat.not_lt_zero _), ?_⟩
      rw [e, List.erase_cons_head] <;> rfl
    · have hr : k ∈ r := by
        rcases List.mem_cons.mp h with z | z
        · exact absurd z.symm e
        · exact z
      obtain ⟨j, h2, h3, h4⟩ := firstN_at hr
      refine ⟨j + 1, h2, fun i hi => ?_, ?_⟩
      · cases i with
        | zero =>
          intro z
          exact e (Option.some.inj z)
        | succ i => exact h3 i (Nat.lt_of_succ_lt_succ hi)
      · rw [List.erase_cons_tail (by rw [beq_iff_eq]; exact e), ← h4] <;> rfl
theorem map_erIdx : ∀ (ks : List Nat) (i : Nat), (ks.eraseIdx i).map W.ref = (ks.map W.ref).eraseIdx i
  | [], _ => rfl
  | _ :: _, 0 => rfl
  | k :: ks, i + 1 => by
    show W.ref k :: _ = W.ref k :: _
    rw [map_erIdx ks i]
theorem xE_remI {apos cpos : Pos} (hu : X.A.units + 65 < cLine) (h : wE X Ψ o E S fun x S1 => sAppO x S1 (wE X Ψ e E S1 fun w S2 => sRemI X x w S2 Φ))
    (hbase : attributeBase o "remove" X.env (eval o X.env) = eval o X.env := by rfl)
    (hfew : ((backTo cpos (starEach [e] X.env)).all (fun x => !x.1) && (backToKw cpos (keywordEach [] X.env)).all (fun x => x.1.isSome)
      && decide (([e] : List Expr).length + ([] : List Keyword).length + (if ([] : List Keyword).isEmpty then 0 else 1) < 30)) = true := by rfl)
    (hline : (apos.endLine == cpos.line) = true := by rfl) (hs : starEach [e] X.env = (false, eval e X.env) :: starEach [] X.env := by rfl) (hplain : (backTo cpos (starEach [] X.env)).any (·.1) = false := by rfl) : wE X Ψ (.Call (.Attribute o "remove" apos) [e] [] cpos) E S Φ :=
  wE.of (pe_remI hu pe_sem pe_sem hbase hfew hline hs hplain) fun M σ H r ev xo Q q => h.run M σ H r ev xo _ fun v w M1 S1 H1 ⟨⟨kk, wz, e1, hk⟩, h⟩ r1 a1 s1 => ⟨tyM_vw r1 a1 (by subst e1; exact .inl ⟨rfl, wz, hk⟩), h.run M1 σ H1 r1 (ev.step s1) (xo.step s1) _ fun u w2 M2 S2 H2 ⟨C, l, j, ks, P, e2, e3, hl, hks, hm, p⟩ r2 a2 s2 => by
    subst e2; subst e3
    have b1 := VW.step' s2 a1
    cases b1 with
    | ref hmm =>
      obtain ⟨ad, xs, h1', h2, h3⟩ := r2.lst hl
      rw [hmm] at h1'; cases h1'
      obtain ⟨fs, hj⟩ := hks j hm
      obtain ⟨pa, dx, gs, h4, h5⟩ := r2.insA hj
      cases a2 with
      | ref qm =>
        rw [qm] at h4; cases h4
        obtain ⟨i, i1, i2, i3⟩ := firstN_at hm
        have ind : ∀ (i' k' : Nat), ks[i']? = some k' → ∃ b, xs[i']? = some (.ref b) ∧ M2.m[k']? = some b := by
          intro i' k' hk'
          obtain ⟨v', e', a'⟩ := vws_get (k := i') (y := .ref k') h3 (by rw [List.getElem?_map, hk']; rfl)
          cases a' with
          | ref q' => exact ⟨_, e', q'⟩
        obtain ⟨z1, z2⟩ := vws_refs r2 h3 hks
        have rr := set_lst r2 hmm (show VWs M2 H2 (xs.eraseIdx i) ((ks.erase j).map W.ref) from by
          have := vws_erase (k := i) h3
          rw [← i3]
          rw [show (ks.eraseIdx i).map W.ref = (ks.map W.ref).eraseIdx i from map_erIdx ks i]
          exact this)
        refine ⟨C, _, _, dx, gs, xs, i, P, rfl, rfl, h5, h2, z1, ?_, fun i' hi' w => ?_, q _ _ M2 _ _ p rr.1 .non ((s1.trans s2).trans rr.2)⟩
        · obtain ⟨b, w1, w2⟩ := ind i j i1
          rw [qm] at w2; cases w2
          exact w1
        · have hlt : i' < ks.length := by
            have := (List.getElem?_eq_some_iff.mp i1).1
            omega
          obtain ⟨b, w1, w2⟩ := ind i' ks[i'] (List.getElem?_eq_getElem hlt)
          rw [w] at w1; cases w1
          exact i2 i' hi' (by rw [List.getElem?_eq_getElem hlt, nd_at r2.nd w2 qm])⟩
end

-- AM26
section
variable {X : Cx} {Ψ : AX} {a b c e o elt iter : Expr} {E : AEnv} {S : Sto} {Φ : W → Sto → Prop} {pos : Pos} {A : AE}
/-! ### a comprehension's list that will be changed -/
/-! ### xs + ys that will be changed -/
/-! ### sorted, a list that nobody changes -/
def sSortedT (x : W) (S : Sto) (Φ : W → Sto → Prop) : Prop := ∃ ws, itemsW S x = some ws ∧ (∀ z, x ≠ .tup z) ∧ W.oks ws 59 = true ∧ PySem.W.AllAlike (ws.map W.d) ∧ PySem.W.Sortable (ws.map W.d) ∧ Φ (.lst (sortW ws)) S
theorem xE_sortedT {p : Pos} (hm : X.mg "sorted" = none) (hu : X.A.units + 65 < cLine) (h : wE X Ψ e E S fun w S1 => sSortedT w S1 Φ) (hg : Gl X "sorted" := by rfl) (he : starEach [e] X.env = (false, eval e X.env) :: starEach [] X.env := by rfl) (hpl : (backTo pos (starEach [] X.env)).any (·.1) = false := by rfl) : wE X Ψ (.Call (.Name "sorted" p) [e] [] pos) E S Φ :=
  wE_callB (g := fun us S Φ => ∃ w, us = [w] ∧ sSortedT w S Φ) cr_sortedW (callw_one (fun M H S v w Φ r a ⟨w', e, ws, hi, nt, hok, hal, hk, p⟩ Q q => by
    cases e
    obtain ⟨ad, xs, rfl, rv, kk⟩ := seq_of (K := X.K) r a hi
    obtain ⟨⟨z1, z2⟩, z3⟩ := vws_zip rv
    have hd : ∀ b ∈ xs.zip ws, b.2.ok 59 = true := fun b hb => by
      have : b.2 ∈ ws := by rw [← z2]; exact List.mem_map.mpr ⟨b, hb, rfl⟩
      rw [W.oks_all] at hok
      exact List.all_eq_true.mp hok _ this
    have ze : (xs.zip ws).map encB = ws.map W.d := by
      conv => rhs; rw [← z2]
      rw [List.map_map]
      rfl
    refine ⟨ad, xs.zip ws, rfl, by rw [z1]; rcases kk with ⟨k, _⟩ | ⟨_, y, ey⟩; exact k; exact absurd ey (nt y), fun b hb => VW.dp r _ _ _ (z3 b hb) (Den.of _ 59 (hd b hb)), by rw [ze]; exact hal, by rw [ze]; exact hk, fun b hb => ?_, fun l hl => ?_⟩
    · have := W.depth_ok (hd b hb)
      show X.A.units + 2 + b.2.d.depth < cLine
      omega
    · have hv : VWs M H (((xs.zip ws).mergeSort (PySem.W.dataLe false encB)).map (·.1)) (sortW ws) := by
        have e2 : ((xs.zip ws).mergeSort (PySem.W.dataLe false encB)).map (·.2) = sortW ws := by
          have q := List.map_mergeSort (r := PySem.W.dataLe false encB) (s := PySem.W.dataLe false W.d) (f := Prod.snd) (l := xs.zip ws) (fun _ _ _ _ => rfl)
          rw [q, z2]
          rfl
        rw [← e2]
        exact zip_vws fun b hb => z3 b ((List.mergeSort_perm _ _).mem_iff.mp hb)
      exact q _ _ M S _ p (r.tmp hl) (lq_new r hl hv) (step_tmp r hl)) fun ws S Φ ⟨w, e, _⟩ => ⟨_, e⟩) hm PyProof.Rows.boot_sorted (wA_cons (h.imp fun w S1 p => wA_nil ⟨w, rfl, p⟩) he) hg (by decide) (by decide) he hpl
end

-- AM27
section
variable {X : Cx} {Ψ : AX} {a b o e : Expr} {E : AEnv} {S : Sto} {Φ : W → Sto → Prop} {ΦT : Bool → Sto → Prop} {pos : Pos}
end

-- AM28
section
variable {X : Cx} {Ψ : AX} {a b o e : Expr} {E : AEnv} {S : Sto} {Φ : W → Sto → Prop} {ΦT : Bool → Sto → Prop} {pos : Pos}
end

-- AM29
end AM
namespace AMX
open PySem PySem.Spec PyProof.Rows
section
variable {prog : Program} {w : World} {A : Around} {E : Value → Shared → Prop} {s : Shared}
end
end AMX
namespace AM
open PySem PySem.Spec PyProof.Rows L2
section
variable {X : Cx} {Ψ : AX} {a b o e : Expr} {E : AEnv} {S : Sto} {Φ : W → Sto → Prop} {ΦT : Bool → Sto → Prop} {pos : Pos}
end

-- AM30
section
variable {X : Cx} {Ψ : AX} {a b o e : Expr} {E : AEnv} {S : Sto} {Φ : W → Sto → Prop} {ΦT : Bool → Sto → Prop} {pos : Pos}
end
section
variable {X : Cx} {Ψ : AX} {a b o e : Expr} {E : AEnv} {S : Sto} {Φ : W → Sto → Prop} {ΦT : Bool → Sto → Prop} {pos : Pos}
/-! ### a list, walked on or back -/
theorem VWs.reverse {M : Lay} {H : Hp} : ∀ {ws : List W} {vs : List V}, VWs M H vs ws → VWs M H vs.reverse ws.reverse
  | [], _, h => by cases h; exact .nil
  | w :: ws, _, h => by
    cases h with
    | cons a b =>
      rw [List.reverse_cons, List.reverse_cons]
      exact VWs.append (VWs.reverse b) (.cons a .nil)
end

-- AM32
section
variable {X : Cx} {Ψ : AX} {a b o e : Expr} {E : AEnv} {S : Sto} {Φ : W → Sto → Prop} {ΦT : Bool → Sto → Prop} {pos : Pos}
/-! ### where a number stands in a list of numbers -/
end

-- AM33
/-! ### a lambda handed to a def that tries it -/
section
variable {M : Lay} {H H1 : Hp} {S : Sto}
end
/-- the heap when a lambda was made at a def's table: its code object is there, or new -/
theorem step_tmp' {M : Lay} {H : Hp} {p d : Addr} {u ho : HO} (nd : H d = none) (ne : p ≠ d) (nm : d ∉ M.m) : Step M (upd H p u) M (upd (upd H p u) d ho) where
  pre := List.prefix_refl _
  new := fun _ h n => absurd n h
  keep := fun a o h _ _ => by
    have nd : (upd H p u) d = none := by rw [upd_ne ne.symm]; exact nd
    rw [upd_ne (ne_of_none h nd)]; exact h
  tbl := fun a ps _ h => by
    have nd : (upd H p u) d = none := by rw [upd_ne ne.symm]; exact nd
    exact ⟨ps, by rw [upd_ne (ne_of_none h nd)]; exact h⟩
  there := fun a _ h => by
    by_cases e : a = d
    · subst e; rw [upd_same]; exact fun z => nomatch z
    · rw [upd_ne e]; exact h
  old := fun _ h _ => h
  hold := rfl
def Made (H : Hp) (P : Addr) (q : Str) (ps : Array Value) (d : Addr) (H1 : Hp) : Prop :=
  (H1 = H ∧ H d = some (LamX.CodeO d q) ∧ ∃ pos : Pos, codeAmong pos ps.toList = some (.ref d)) ∨ ∃ pos : Pos, H d = none ∧ H1 = upd (upd H P (.tbl (ps ++ #[rawInt pos.line, rawInt pos.col, .ref d]))) d (LamX.CodeO d q)
section
variable {X : Cx} {pins : List (Addr × Obj)} {σ : L2.St} {H : Hp} {s : Shared}
end
section
variable {M : Lay} {H H1 : Hp} {S : Sto}
theorem made_step (r : Rep M H S) {k : Nat} {P d : Addr} {q : Str} {ps : Array Value} (hk : S[k]? = some (.tab P q)) (eP : H P = some (.tbl ps)) (tr : TriplesOk ps.toList)
    (co : ∀ (pos : Pos) (cv : Value), codeAmong pos ps.toList = some cv → ∃ c, cv = .ref c ∧ M.out c ∧ H c = some (LamX.CodeO c q)) (h : Made H P q ps d H1) : Step M H M H1 ∧ Rep M H1 S ∧ H1 d = some (LamX.CodeO d q) ∧ M.out d := by
  rcases h with ⟨rfl, hd, po, hp⟩ | ⟨po, nd, rfl⟩
  · obtain ⟨c, e1, e2, _⟩ := co po _ hp
    cases e1
    exact ⟨Step.refl M _, r, hd, e2⟩
  · have mP := r.tb k P q hk
    have nP : P ≠ d := fun z => by rw [z, nd] at eP; cases eP
    have nm : d ∉ M.m := fun m => r.alive (fun z => z.1 m) nd
    have b1 : Ob M (upd (upd H P (.tbl (ps ++ #[rawInt po.line, rawInt po.col, .ref d]))) d (LamX.CodeO d q)) (.tbl (ps ++ #[rawInt po.line, rawInt po.col, .ref d])) (.tab P q) := by
      have eL : (ps ++ #[rawInt po.line, rawInt po.col, .ref d]).toList = ps.toList ++ [rawInt po.line, rawInt po.col, .ref d] := by simp
      refine .tab (by rw [eL]; exact PySem.TriplesOk_snoc _ _ _ _ tr) fun pos cv e => ?_
      rw [eL] at e
      rcases LamX.among_app _ tr e with z | z
      · obtain ⟨c, e1, e2, e3⟩ := co pos cv z
        have n1 : c ≠ d := fun w => by rw [w, nd] at e3; cases e3
        have n2 : c ≠ P := fun w => by
          rw [w, eP] at e3
          exact LamX.codeO_ne ps (Option.some.inj e3).symm
        exact ⟨c, e1, e2, by rw [upd_ne n1, upd_ne n2]; exact e3⟩
      · exact ⟨d, z, r.free nd, upd_same⟩
    have st : Step M H M (upd (upd H P (.tbl (ps ++ #[rawInt po.line, rawInt po.col, .ref d]))) d (LamX.CodeO d q)) := (step_set r mP).trans (step_tmp' nd nP nm)
    have at_ : ∀ a, a ≠ P → a ≠ d → (upd (upd H P (.tbl (ps ++ #[rawInt po.line, rawInt po.col, .ref d]))) d (LamX.CodeO d q)) a = H a := fun a h1 h2 => by rw [upd_ne h2, upd_ne h1]
    refine ⟨st, ⟨r.nd, r.len, fun j p o h1 h2 => ?_, fun p hp => ⟨st.alive (r.hid p hp).1, (r.hid p hp).2⟩, r.tb⟩, upd_same, r.free nd⟩
    by_cases e : j = k
    · subst e
      rw [hk] at h2
      cases h2
      rw [mP] at h1
      cases h1
      exact ⟨_, by rw [upd_ne nP, upd_same], b1⟩
    · obtain ⟨ho, e1, b⟩ := r.at_ j p o h1 h2
      have n1 : p ≠ P := fun z => e (nd_at r.nd h1 (by rw [z]; exact mP))
      have n2 : p ≠ d := fun z => by rw [z, nd] at e1; cases e1
      exact ⟨ho, by rw [at_ p n1 n2]; exact e1, b.step st⟩
end

-- AM34
/-- the context of the def that got a lambda -/
abbrev zCx (X : Cx) (Ng : List Str) (x : Str) (st : Stmt) (g : Addr) (cdv : Value) (s1 : Shared) (H1 : Hp) : Cx := (cxOf C8.CX0 X.prog X.w X.K X.mg X.base Ng x (defScope st) g cdv X.A X.stack s1 H1 C8.E0).nox
/-- what the lambda's body reads, told of the slots of its maker -/
def tLm (X : Cx) (sc : Scope) (bd : Expr) (k : Nat) (f d : Addr) (σ : L2.St) (Ech : XK) : Hp → VK → Prop := fun HZ Q =>
  ∀ (A : Around) (outer : List Env) (s0 : Shared) (H0 : Hp), Room k (A.deeper (LamX.lamEnv X sc s0.heap.objs.size f d)) → sem (LamX.lamCx X A outer s0 H0 Ech sc f d) bd σ HZ Q
/-- the caught error as the suite's name has it -/
def exW (aE : Addr) (dd : Option Addr) : List (Str × W) → W
  | [(f, .int k)] => match dd with
    | some d => .xi aE d f k
    | none => .raw (.ref aE)
  | _ => .raw (.ref aE)
theorem exw_vw {M : Lay} {H : Hp} {aE : Addr} {dd : Option Addr} {fs : List (Str × W)} (h : Xd M H dd fs) : VW M H (.ref aE) (exW aE dd fs) := by
  unfold exW
  split
  · rename_i f k
    cases dd with
    | none => exact .raw _
    | some d =>
      obtain ⟨_, o, kvs, h1, h2⟩ := h
      cases h2 with
      | @cons p q _ _ a b =>
        cases b
        obtain ⟨x, v⟩ := p
        obtain ⟨e1, a⟩ := a
        have e1 : x = f := e1
        have a : VW M H v (.int k) := a
        cases a
        subst e1
        exact .xi o h1
  · exact .raw _
section
variable {X : Cx} {Ψ Ψ1 : AX} {E : AEnv} {S : Sto} {Φ Φ1 : W → Sto → Prop}
end

-- AM35
/-! ### raising, telling of a caught one -/
/-- an error's own class without an own __init__ -/
structure ExK (K : PySem.W.Frag) (mg : Str → Option Value) (x : Str) (C : Addr) : Prop where
  gl : mg x = some (.ref C)
  ex : PySem.W.excIn K C [.type "ValueError", .type "Exception", .type "BaseException", .type "object"] "ValueError.__new__" = true
  kp : PySem.W.keepIn K (.ref C) = true
  sb : PySem.W.subIn K (.ref C) (.type "BaseException") = some true
  ty : PySem.W.typeIn K (.ref C) = some (.type "type")
section
variable {X : Cx} {Ψ : AX} {e e2 : Expr} {E : AEnv} {S : Sto} {Φ : W → Sto → Prop} {A : AE}
theorem wS_raise {x m : Str} {C : Addr} {j : Nat} {p p2 pos pos' : Pos} (K : ExK X.K X.mg x C) (h : Ψ (.ref C) [] E S) (hc : X.calm = true := by rfl) (hg : Gl X x := by rfl) (hdb : (x == ("__debug__" : Str)) = false := by decide) :
    wS X Ψ (.Raise (some (.Call (.Name x p) [.Constant (.str m) j p2] [] pos)) none pos') E S A :=
  ⟨fun M σ H r ev xo D q pins s I => by
    obtain ⟨Wx, tk, hx⟩ := xo
    have pr := ps_raise (pos := pos') hc tk (pmk_own (m := m) (j := j) (p := p) (p2 := p2) (pos := pos) PySem.F.excBase_ValueError K.ex K.gl K.kp (raises_own K.sb K.ty) hg hdb)
    exact pr.run pins s σ H D I (hx _ _ E S M H none σ h r ev rfl (Step.refl M H))⟩
/-- isinstance(e, C) of the caught one -/
theorem wE_isE {a D C : Addr} {oe : Obj} {pn : List (Addr × Obj)} {p p1 p2 pos : Pos} {n y : Str} {b : Bool} (ec : L2.ExcC X.K D) (hz : Zc (.ref D) none oe) (hf : ∃ vs, oe.data = .fields vs) (hm : X.mg "isinstance" = none)
    (hk : PySem.W.kitOne X.K (.ref D) (.ref C) = some b)
    (h : wE (X.suite a ((a, oe) :: pn)) Ψ (.Name n p1) E S fun w S1 => wE (X.suite a ((a, oe) :: pn)) Ψ (.Name y p2) E S1 fun u S2 => w = .raw (.ref a) ∧ u = .raw (.ref C) ∧ Φ (.bl b) S2) (hg : Gl X "isinstance" := by rfl) :
    wE (X.suite a ((a, oe) :: pn)) Ψ (.Call (.Name "isinstance" p) [.Name n p1, .Name y p2] [] pos) E S Φ :=
  wE_callB (X := X.suite a ((a, oe) :: pn)) (L2.call_isE ec hz hf) (g := fun ws S Φ => ws = [.raw (.ref a), .raw (.ref C)] ∧ Φ (.bl b) S)
    (fun M H S vs ws Φ r av ⟨e1, p⟩ Q q => by
      subst e1
      cases av with
      | cons a1 a2 =>
        cases a2 with
        | cons a2 a3 =>
          cases a3
          cases a1
          cases a2
          exact ⟨.ref C, .ref C, b, rfl, fun u z => z, hk, q _ _ M S H p r (.bl _) (Step.refl _ _)⟩) hm PyProof.Rows.boot_isinstance
    (wA_cons (h.imp fun w S1 q => wA_cons (q.imp fun u S2 ⟨e1, e2, p⟩ => wA_nil ⟨by rw [e1, e2], p⟩) (by rfl)) (by rfl)) hg
end

-- AM36
/-! ### defs that make lambdas: their code objects, the end with their tables -/
def TabD (q : Program) (mg : Str → Option Value) (h : Heap) : Prop :=
  ∀ d ∈ recsOf q, ∃ a o fd c P, mg d.name = some (.ref a) ∧ h.get? a = some o ∧ o.data = .func fd ∧ fd.code = .ref c ∧ h.IsCode c P #[] ∧ h.TableAt c P #[]
/-- the code object of a def -/
def CodeAt (K : PySem.W.Frag) (mg : Str → Option Value) (x : Str) (c : Addr) : Prop :=
  ∀ (f : Addr) (fd : FuncData) (oc : Value) (od : Option Addr) (sl : Array (Option Value)), mg x = some (.ref f) → K.lookup f = some ⟨oc, od, .func fd, sl⟩ → fd.code = .ref c
def noTab (K : PySem.W.Frag) : Bool := K.all fun q => match q.2.data with
  | .fields vs => !vs.isEmpty
  | _ => true
theorem look_mem {a : Addr} {o : Obj} : ∀ {K : PySem.W.Frag}, K.lookup a = some o → ∃ b, (b, o) ∈ K
  | [], e => by cases e
  | (b, o') :: K, e => by
    have e : (match a == b with | true => some o' | false => List.lookup a K) = some o := e
    cases z : a == b with
    | true =>
      rw [z] at e
      cases e
      exact ⟨b, List.mem_cons_self⟩
    | false =>
      rw [z] at e
      obtain ⟨b', m⟩ := look_mem (K := K) e
      exact ⟨b', List.mem_cons_of_mem _ m⟩
theorem TabD.at {q : Program} {mg : Str → Option Value} {h : Heap} {K : PySem.W.Frag} (T : TabD q mg h) (X : K.In h) (ne : noTab K = true) {x : Str} (hx : ∃ d ∈ recsOf q, d.name = x) :
    ∃ c P, CodeAt K mg x c ∧ K.lookup P = none ∧ h.get? P = some { cls := .none, data := .fields #[] } ∧ PySem.W.CodeHd h c P := by
  obtain ⟨d, hd, rfl⟩ := hx
  obtain ⟨a, o, fd, c, P, h1, h2, h3, h4, h5, h6⟩ := T d hd
  refine ⟨c, P, fun f fd' oc od sl e1 e2 => ?_, ?_, h6.2, PySem.W.CodeHd.of h5 h6⟩
  · rw [h1] at e1
    cases e1
    have e3 := X _ _ e2
    rw [h2] at e3
    cases e3
    cases h3
    exact h4
  · cases e : K.lookup P with
    | none => rfl
    | some o' =>
      exfalso
      have e3 := X _ _ e
      have e4 : h.get? P = some { cls := .none, data := .fields #[] } := h6.2
      rw [e4] at e3
      cases e3
      obtain ⟨b, m⟩ := look_mem e
      have := List.all_eq_true.mp ne _ m
      cases this
section
variable {P : Program} {w : World} {K : PySem.W.Frag} {mg : Str → Option Value} {base : Heap} {x qual : Str} {st : Stmt} {f c : Addr} {fd : FuncData} {N ps : List Str} {k : Nat} {asp : ASp}
theorem fn_okC (F : Fun K x qual st f fd) (hc : fd.code = .ref c) (sc : FnScope N ps (defScope st))
    (hbody : ∀ (A : Around) (outer : List Env) (s : Shared) (H : Hp) (E : XK), Room k (A.deeper (envOfC qual (defScope st) s.heap.objs.size f (.ref c))) → ∀ ws S Φ Ψ, ws.length = ps.length → Srl S → asp ws S Φ Ψ →
      wB (cxOf (L2.CX P w) P w K mg base N qual (defScope st) f (.ref c) A outer s H E) (fun cls fs _ S2 => Ψ cls fs S2) (defBody st) (startW N.length ws) S ⟨fun _ S2 => fin S.length Φ .non S2, fin S.length Φ, fun _ _ => False, fun _ _ => False⟩) :
    FnOk P w K mg base (L2.CX P w) (k + 1) f fd ps (conc ps.length asp) := by
  obtain ⟨oc, od, kV, doc, pm, an, cdv, ct, osl, rfl, lk, hcd⟩ := F.ex
  have e : cdv = .ref c := hc
  subst e
  refine fn_of lk hcd sc (fun vs H Q E h => h.1) fun A outer s H vs Q E hr h => ?_
  obtain ⟨hl, M, S, ws, Φ, Ψ, r, a, hsp, g, hx⟩ := h
  have hpl : ps.length ≤ N.length := by
    have e := congrArg List.length sc.pre
    rw [List.length_take] at e
    omega
  refine ⟨semB _ _, pss_sem, ?_⟩
  refine (hbody A outer s H E hr ws S Φ Ψ (by rw [← a.length]; exact hl) r.srl hsp).run M (L2.start N vs) H r (evok_start a (by omega)) ?_ _ ?_
  · exact ⟨fun cls d _ H2 => E cls d H2, takes_of rfl rfl rfl rfl, fun cls fs E2 S2 M2 H2 d σ2 p r2 _ xd s2 => hx cls fs d M2 S2 H2 p r2 xd s2⟩
  · exact ⟨fun σ E2 M2 S2 H2 p r2 _ s2 => (g.fin r) _ _ M2 S2 H2 p r2 .non s2, g.fin r, fun _ _ _ _ _ p => p.elim, fun _ _ _ _ _ p => p.elim⟩
theorem DefAt.fnC (D : DefAt K mg x qual st ps) (hc : CodeAt K mg x c) (sc : FnScope N ps (defScope st))
    (hbody : ∀ (f : Addr) (A : Around) (outer : List Env) (s : Shared) (H : Hp) (E : XK), Room k (A.deeper (envOfC qual (defScope st) s.heap.objs.size f (.ref c))) → ∀ ws S Φ Ψ, ws.length = ps.length → Srl S → asp ws S Φ Ψ →
      wB (cxOf (L2.CX P w) P w K mg base N qual (defScope st) f (.ref c) A outer s H E) (fun cls fs _ S2 => Ψ cls fs S2) (defBody st) (startW N.length ws) S ⟨fun _ S2 => fin S.length Φ .non S2, fin S.length Φ, fun _ _ => False, fun _ _ => False⟩) : CFn P w K mg base x (k + 1) ps.length asp := by
  obtain ⟨f, fd, h1, h2, F, B⟩ := D.ex
  have hc' : fd.code = .ref c := by
    obtain ⟨oc, od, kV, doc, pm, an, cdv, ct, osl, e, lk, _⟩ := F.ex
    exact hc f fd oc od osl h1 lk
  exact ⟨f, fd, ps, h1, h2, B, rfl, fn_okC F hc' sc (hbody f)⟩
end
theorem walkT {l : PySem.W.OpenLaw} {n k : Nat} {q : Program} {loose : List Str} {XP : (Str → Option Value) → Heap → Prop} {YP : World → Heap → Prop} {d : DefRec} {K : Params → PySem.W.Frag} {CX : World → CXT} {x : Str}
    (hn : l.most = some n) (hn2 : n ≤ sizeLine) (hdf : d.params.defaults = []) (hr : Room k callerA) (hY : ∀ (w : World) (h : Heap), YP w h → (K w.params).In h)
    (F : ∀ (w : World) (mg : Str → Option Value) (fa : Addr) (h : Heap), (K w.params).In h → h.Ns mainGlobals mg → mg d.name = some (.ref fa) → TabD q mg h → LamX.LawAtS l w (K w.params) (CX w) k n x mg fa h)
    (hCX : ∀ (w : World) (H : Hp) (s : Shared) (e : Value) (s' : Shared), CX w [] H s (fun _ _ _ => False) e s' → False) :
    PySem.W.WalkO q loose XP YP l.row.toRowW d [] (fun f vs => PySem.call f vs) := by
  refine Att.attach_callB hn hdf ?_
  intro w s0 s1 mg mb fa o pm cd doc a vs ns G Y ho hd hcd hmg hobj hints hlen hbits hg
  obtain ⟨fd, cs, sp, hT, nT, C, hb, hsp, hF⟩ := F w mg fa _ (hY w _ Y) G.T.g hmg G.T.tab
  exact LamX.law_callTs (hY w _ Y) G.T.g G.T.b G.T.builtins G.T.nolimit hg hT nT C G.T.bmain hobj hints (Nat.le_trans hlen hn2) hr hF hb (fun H2 t2 q2 => hsp H2 a ns hlen hbits t2 q2) fun H2 e s' => hCX w H2 s1 e s'

-- AM37
/-! ### count and index in a list of truth values; isinstance of a class of Python's own -/
section
variable {X : Cx}
theorem bools_get : ∀ {bs : List Bool} {its : List Value}, Vals (bs.map V.bl) its → its = bs.map Value.bool
  | [], _, r => by cases r; rfl
  | b :: bs, _, r => by
    cases r with
    | cons r1 r2 =>
      have e := bools_get r2
      subst e
      have e1 : _ = Value.bool b := r1
      rw [e1]
      rfl
def rCntB (K : PySem.W.Frag) : V → List V → Hp → VK → Prop := fun x xs H Q => ∃ (p : Addr) (bs : List Bool) (k : Bool), x = .ref p ∧ xs = [.bl k] ∧ SqL K H p (bs.map V.bl) ∧ Q (.int (bs.countP (· == k) : Nat)) H
theorem mt_countB : MtR X "list.count" (rCntB X.K) := by
  intro pins s σ H x xs v us Q I rx rxs h
  obtain ⟨p, bs, k, rfl, rfl, hs, q⟩ := h
  cases rx
  obtain ⟨u, rfl, ru⟩ := rxs.one
  have ru : u = .bool k := ru
  subst ru
  obtain ⟨its, rv, ⟨⟨cls, dd, data, sl⟩, n, ho, hc, hdn, hd⟩, hlen⟩ := I.list hs
  simp only at hc hd
  subst hc hd
  have hi := bools_get rv
  subst hi
  refine call_meets PySem.F.slot_list_count ⟨_, ho, rfl⟩ PySem.F.entry_list_count (PySem.F.args_list_count_2 _ _)
    (SeqAt.list_countAt p (bs.map Value.bool).toArray n dd sl (.bool k) (isBoolOf k)) ⟨ho, fun y hy => by
      have hy : y ∈ bs.map Value.bool := by simpa using hy
      obtain ⟨b, _, rfl⟩ := List.mem_map.mp hy
      exact SeqAt.EqAt.bool_bool b k, ?_⟩
  have ec : ((bs.map Value.bool).toArray.toList).countP (isBoolOf k) = bs.countP (· == k) := by
    show (bs.map Value.bool).countP (isBoolOf k) = _
    rw [List.countP_map]
    rfl
  refine ⟨.int (bs.countP (· == k) : Nat), H, I.tok _, ⟨s.toks, ?_⟩, q⟩
  show Value.int (((bs.map Value.bool).toArray.toList.countP (isBoolOf k) : Nat) : Int) s.toks = Value.int ((bs.countP (· == k) : Nat) : Int) s.toks
  rw [ec]
end
section
variable {X : Cx} {Ψ : AX} {a b o e : Expr} {E : AEnv} {S : Sto} {Φ : W → Sto → Prop} {ΦT : Bool → Sto → Prop} {pos : Pos}
theorem vws_bls {M : Lay} {H : Hp} : ∀ {xs : List V} (l : List Bool), VWs M H xs (l.map W.bl) → xs = l.map V.bl
  | _, [], .nil => rfl
  | _, i :: l, .cons (.bl _) b => by rw [vws_bls l b]; rfl
def sCntB (x w : W) (S : Sto) (Φ : W → Sto → Prop) : Prop := ∃ (l : List Bool) (k : Bool), x = .lst (l.map W.bl) ∧ w = .bl k ∧ Φ (.int (l.countP (· == k) : Nat)) S
theorem xE_countB {apos cpos : Pos} (h : wE X Ψ o E S fun x S1 => (∃ ws, x = .lst ws) ∧ wE X Ψ e E S1 fun w S2 => sCntB x w S2 Φ)
    (hbase : attributeBase o "count" X.env (eval o X.env) = eval o X.env := by rfl)
    (hfew : ((backTo cpos (starEach [e] X.env)).all (fun x => !x.1) && (backToKw cpos (keywordEach [] X.env)).all (fun x => x.1.isSome)
      && decide (([e] : List Expr).length + ([] : List Keyword).length + (if ([] : List Keyword).isEmpty then 0 else 1) < 30)) = true := by rfl)
    (hline : (apos.endLine == cpos.line) = true := by rfl) (hs : starEach [e] X.env = (false, eval e X.env) :: starEach [] X.env := by rfl) (hplain : (backTo cpos (starEach [] X.env)).any (·.1) = false := by rfl) : wE X Ψ (.Call (.Attribute o "count" apos) [e] [] cpos) E S Φ :=
  wE_bm (g := fun x us S Φ => ∃ w, us = [w] ∧ sCntB x w S Φ) PySem.F.plainAttrs_list PySem.F.slot_list_count PySem.F.type_list_count mt_countB
    (fun M H S v w vs ws Φ r a av ⟨u, e1, l, k, e2, e3, p⟩ Q q => by
      subst e1; subst e2; subst e3
      cases a with
      | lst kk v1 =>
        cases av with
        | cons b1 b2 =>
          cases b2
          cases b1
          have ex := vws_bls l v1
          subst ex
          exact ⟨_, _, k, rfl, rfl, kk.sq, q _ _ M _ _ p r (.int _) (Step.refl M H)⟩)
    (h.imp fun x S1 ⟨⟨ws, e1⟩, h⟩ => ⟨by subst e1; exact rfl, wA_cons (h.imp fun w S2 p => wA_nil ⟨w, rfl, p⟩) hs⟩) hbase hfew hline hs hplain
def sIdxB (x w : W) (S : Sto) (Φ : W → Sto → Prop) : Prop := ∃ (l : List Bool) (j : Nat) (k : Bool), x = .lst (l.map W.bl) ∧ w = .bl k ∧ l[j]? = some k ∧ (∀ m, m < j → l[m]? ≠ some k) ∧ Φ (.int (j : Nat)) S
theorem xE_indexB {apos cpos : Pos} (h : wE X Ψ o E S fun x S1 => (∃ ws, x = .lst ws) ∧ wE X Ψ e E S1 fun w S2 => sIdxB x w S2 Φ)
    (hbase : attributeBase o "index" X.env (eval o X.env) = eval o X.env := by rfl)
    (hfew : ((backTo cpos (starEach [e] X.env)).all (fun x => !x.1) && (backToKw cpos (keywordEach [] X.env)).all (fun x => x.1.isSome)
      && decide (([e] : List Expr).length + ([] : List Keyword).length + (if ([] : List Keyword).isEmpty then 0 else 1) < 30)) = true := by rfl)
    (hline : (apos.endLine == cpos.line) = true := by rfl) (hs : starEach [e] X.env = (false, eval e X.env) :: starEach [] X.env := by rfl) (hplain : (backTo cpos (starEach [] X.env)).any (·.1) = false := by rfl) : wE X Ψ (.Call (.Attribute o "index" apos) [e] [] cpos) E S Φ :=
  wE_bm (g := fun x us S Φ => ∃ w, us = [w] ∧ sIdxB x w S Φ) PySem.F.plainAttrs_list PySem.F.slot_list_index PySem.F.type_list_index mt_index
    (fun M H S v w vs ws Φ r a av ⟨u, e1, l, j, k, e2, e3, hj, hno, p⟩ Q q => by
      subst e1; subst e2; subst e3
      cases a with
      | lst kk v1 =>
        cases av with
        | cons b1 b2 =>
          cases b2
          cases b1
          have ex := vws_bls l v1
          subst ex
          refine ⟨_, _, .bl k, j, .bl k, rfl, rfl, kk.sq, rfl, ?_, by rw [List.getElem?_map, hj]; rfl, by simp [eqV], fun m z' hm hz => ?_, q _ _ M _ _ p r (.int _) (Step.refl M H)⟩
          · rw [List.all_map, List.all_eq_true]; intro _ _; rfl
          · rw [List.getElem?_map] at hz
            cases hl : l[m]? with
            | none => rw [hl] at hz; cases hz
            | some i =>
              rw [hl] at hz
              cases hz
              have : i ≠ k := fun z => hno m hm (by rw [hl, z])
              simp [eqV, this])
    (h.imp fun x S1 ⟨⟨ws, e1⟩, h⟩ => ⟨by subst e1; exact rfl, wA_cons (h.imp fun w S2 p => wA_nil ⟨w, rfl, p⟩) hs⟩) hbase hfew hline hs hplain
/-- isinstance(e, C) of the caught one, C a class of Python's own -/
theorem wE_isEB {a D : Addr} {T : String} {oe : Obj} {pn : List (Addr × Obj)} {p p1 p2 pos : Pos} {n y : Str} {b : Bool} (ec : L2.ExcC X.K D) (hz : Zc (.ref D) none oe) (hf : ∃ vs, oe.data = .fields vs) (hm : X.mg "isinstance" = none)
    (hk : PySem.W.kitOne X.K (.ref D) (.type T) = some b)
    (h : wE (X.suite a ((a, oe) :: pn)) Ψ (.Name n p1) E S fun w S1 => wE (X.suite a ((a, oe) :: pn)) Ψ (.Name y p2) E S1 fun u S2 => w = .raw (.ref a) ∧ u = .raw (.ty T) ∧ Φ (.bl b) S2) (hg : Gl X "isinstance" := by rfl) :
    wE (X.suite a ((a, oe) :: pn)) Ψ (.Call (.Name "isinstance" p) [.Name n p1, .Name y p2] [] pos) E S Φ :=
  wE_callB (X := X.suite a ((a, oe) :: pn)) (L2.call_isE ec hz hf) (g := fun ws S Φ => ws = [.raw (.ref a), .raw (.ty T)] ∧ Φ (.bl b) S)
    (fun M H S vs ws Φ r av ⟨e1, p⟩ Q q => by
      subst e1
      cases av with
      | cons a1 a2 =>
        cases a2 with
        | cons a2 a3 =>
          cases a3
          cases a1
          cases a2
          exact ⟨.ty T, .type T, b, rfl, fun u z => z, hk, q _ _ M S H p r (.bl _) (Step.refl _ _)⟩) hm PyProof.Rows.boot_isinstance
    (wA_cons (h.imp fun w S1 q => wA_cons (q.imp fun u S2 ⟨e1, e2, p⟩ => wA_nil ⟨by rw [e1, e2], p⟩) (by rfl)) (by rfl)) hg
theorem xE_cls {x : Str} {C : Addr} {pos : Pos} (hm : X.mg x = some (.ref C)) (h : Φ (.raw (.ref C)) S) (hg : Gl X x := by rfl) (hd : (x == ("__debug__" : Str)) = false := by decide) : wE X Ψ (.Name x pos) E S Φ := wE_glob (v := .ref C) hm rfl rfl h hg hd
end

-- AM38
section
variable {X : Cx} {Ψ : AX} {a b c e o : Expr} {es : List Expr} {E : AEnv} {S : Sto} {Φ : W → Sto → Prop} {ΦT : Bool → Sto → Prop} {ΦE : AEnv → Sto → Prop} {pos : Pos}
/-! ### (word, ears, a list of the store) != y -/
/-! ### a, b, .. = a list -/
/-! ### {k1: v1, k2: v2}, the keys numbers -/
end

-- AM39
/-! ### own errors with a field: made by an __init__ that tells a text of it -/
section
variable {X : Cx} {o e : Expr} {es : List Expr} {ta : TA} {p1 p2 pos : Pos}
/-- PhoneError.__init__(self, ..), the class an own one without an own __init__ -/
theorem pe_phinit {x : Str} {CP : Addr} {pl : Sem Bool} (hg : Gl X x) (hm : X.mg x = some (.ref CP)) (hga : PySem.W.specialIn X.K (.ref CP) "__getattribute__" = some (some (.builtin "type.__getattribute__"))) (hrd : PySem.W.readsIn X.K CP (.type "type") = true)
    (vV : PySem.W.findCls X.K (.ref CP) (.type "type") "__init__" = some (.val (.builtin "ValueError.__init__"))) (ha : PA X (e :: es) ta) (hdb : (x == ("__debug__" : Str)) = false := by decide)
    (hc : eval (.Call (.Attribute (.Name x p1) "__init__" p2) (e :: es) [] pos) X.env = (do
      let ov ← eval (.Name x p1) X.env
      standAt p2.atName
      let (f, first) ← holding [ov] (getMethod ov "__init__" pl)
      callWith pos f first (backTo pos (starEach (e :: es) X.env)) (backToKw pos (keywordEach [] X.env))) := by rfl)
    (he : starEach (e :: es) X.env = (false, eval e X.env) :: starEach es X.env := by rfl) (hpl : (backTo pos (starEach es X.env)).any (·.1) = false := by rfl) :
    PE X (.Call (.Attribute (.Name x p1) "__init__" p2) (e :: es) [] pos) (tVeI X.K ta) := by
  refine ⟨fun pins s σ H Q I h => ?_⟩
  refine PySem.W.methodCall_KW (ld_glob I hg hm ?_ hdb) hc
  refine PySem.W.method_cls I.kIn hga (PySem.W.cls_value I.kIn hrd vV (by decide +kernel) ?_)
  show wpAny _ _ (callWith pos (Value.builtin "ValueError.__init__") [] (backTo pos (starEach (e :: es) X.env)) []) _ _ _
  refine PyProof.Rows.callWith_method1 (thn (ha.run pos pins _ σ H _ (I.tok _) h) fun us s1 ⟨vs, H1, I1, r1, a, C, ws, ev, hl, T, ea, q⟩ => ?_) he hpl
  subst ev
  cases r1 with
  | @cons _ u0 _ ur ra rw' =>
    obtain rfl : u0 = Value.ref a := ra
    have hlen : ur.length ≤ sizeLine := by
      rw [← Paired.length rw', sizeLine_eq]
      omega
    exact oinit_ok T I1 ea hlen fun s' J => ⟨.non, H1, J, rfl, q⟩
end
theorem str_len {a b : Str} : (a ++ b).length = a.length + b.length := by
  show (a.cps ++ b.cps).size = a.cps.size + b.cps.size
  exact Array.size_append
/-- the promise of such an __init__ -/
def spBX (K : PySem.W.Frag) (C : Addr) (fld : Str) : Sp := fun vs H Q _ => ∃ (a : Addr) (i : Int), vs = [.ref a, .int i] ∧ i.natAbs.log2 < 1920 ∧ (Str.ofString (toString i)).length ≤ 1000 ∧ H a = some (exo a C none) ∧ ∀ d, H d = none → d ≠ a → Q .non (upd (upd H d (exd d [(fld, .int i)])) a (exo a C (some d)))
section
variable {P : Program} {w : World} {K : PySem.W.Frag} {mg : Str → Option Value} {base : Heap}
theorem oex_init {x qual xp fld t : Str} {st : Stmt} {f C CP : Addr} {fd : FuncData} {j : Nat} {q1 q2 q3 q4 q5 q6 q7 q8 q9 q10 q11 q12 q13 : Pos} (F : Fun K x qual st f fd) (sc : FnScope ["self", fld] ["self", fld] (defScope st))
    (hb : defBody st = [.Expr (.Call (.Attribute (.Name xp q1) "__init__" q2) [.Name "self" q3, .JoinedStr [.Constant (.str t) j q4, .FormattedValue (.Name fld q5) (-1) none q6] q7] [] q8) q9, .Assign [.Attribute (.Name "self" q10) fld q11] (.Name fld q12) q13])
    (hc : ∀ env : Env, ∃ pl : Sem Bool, eval (.Call (.Attribute (.Name xp q1) "__init__" q2) [.Name "self" q3, .JoinedStr [.Constant (.str t) j q4, .FormattedValue (.Name fld q5) (-1) none q6] q7] [] q8) env = (do
      let ov ← eval (.Name xp q1) env
      standAt q2.atName
      let (f, first) ← holding [ov] (getMethod ov "__init__" pl)
      callWith q8 f first (backTo q8 (starEach [.Name "self" q3, .JoinedStr [.Constant (.str t) j q4, .FormattedValue (.Name fld q5) (-1) none q6] q7] env)) (backToKw q8 (keywordEach [] env))))
    (ht : t.length ≤ 1000) (hg : (defScope st).names.lookup xp = some .globalImplicit) (hm : mg xp = some (.ref CP)) (hga : PySem.W.specialIn K (.ref CP) "__getattribute__" = some (some (.builtin "type.__getattribute__"))) (hrd : PySem.W.readsIn K CP (.type "type") = true)
    (vV : PySem.W.findCls K (.ref CP) (.type "type") "__init__" = some (.val (.builtin "ValueError.__init__"))) (T : OexC K C) (hno : PySem.W.findIn K (.ref C) fld = some none)
    (hs : (defScope st).names.lookup ("self" : Str) = some .local) (hf : (defScope st).names.lookup fld = some .local) (hdb : (xp == ("__debug__" : Str)) = false) (hdf : (fld == ("__debug__" : Str)) = false) (hcf : (fld == ("__classdict__" : Str)) = false) :
    FnOk P w K mg base CX0 1 f fd ["self", fld] (spBX K C fld) := by
  refine F.ok sc (fun vs H Q E h => by obtain ⟨a, i, rfl, _⟩ := h; rfl) fun cdv A outer s H vs Q E hr h => ?_
  obtain ⟨a, i, rfl, hi, hil, ha, hQ⟩ := h
  have z0 : Vis (cxOf CX0 P w K mg base ["self", fld] qual (defScope st) f cdv A outer s H E).nox.env.scope ("self" : Str) := .inl hs
  have z1 : Vis (cxOf CX0 P w K mg base ["self", fld] qual (defScope st) f cdv A outer s H E).nox.env.scope fld := .inl hf
  obtain ⟨pl, hc⟩ := hc (cxOf CX0 P w K mg base ["self", fld] qual (defScope st) f cdv A outer s H E).nox.env
  rw [hb]
  refine ⟨_, pss_cons (ps_expr (pe_phinit (X := (cxOf CX0 P w K mg base ["self", fld] qual (defScope st) f cdv A outer s H E).nox) hg hm hga hrd vV (pa_cons (pe_var (i := 0) rfl z0) (pa_cons (pe_joined (.cons pe_str (.cons (pe_fmt (pe_var (i := 1) rfl z1 hdf hcf)) .nil))) pa_nil)) hdb hc)) (pss_one (ps_ost (pe_var (i := 0) rfl z0) (pe_var (i := 1) rfl z1 hdf hcf))), ?_⟩
  have l1 : (Str.empty ++ t).length ≤ sizeLine := by
    have e : (Str.empty ++ t).length = t.length := by rw [str_len]; exact Nat.zero_add _
    rw [e]
    exact Nat.le_trans ht (by decide)
  have l2 : (Str.empty ++ t ++ (toString i : Str)).length ≤ sizeLine := by
    have e : (Str.empty ++ t ++ (toString i : Str)).length = t.length + (toString i : Str).length := by rw [str_len, str_len]; congr 1; exact Nat.zero_add _
    rw [e]
    exact Nat.le_trans (Nat.add_le_add ht hil) (by decide)
  exact ⟨V.ref a, rfl, t, rfl, l1, V.int i, rfl, .inr ⟨i, rfl, hi, toString i, rfl, l2, a, C, [.str _], rfl, Nat.le_of_ble_eq_true rfl, T, ha, V.int i, rfl, V.ref a, rfl, a, C, rfl, T, hno, .inl ⟨ha, fun dx h1 h2 => hQ dx h1 h2⟩⟩⟩
end
section
variable {X : Cx} {Ψ : AX} {e : Expr} {E : AEnv} {S : Sto} {Φ : W → Sto → Prop} {A : AE}
/-- what raises such an error: its class, its __init__ -/
structure ExN (K : PySem.W.Frag) (P : Program) (w : World) (mg : Str → Option Value) (base : Heap) (x fld : Str) (C : Addr) : Prop where
  gl : mg x = some (.ref C)
  oex : OexC K C
  ini : ∃ fI fd, PySem.W.findIn K (.ref C) "__init__" = some (some (.ref fI)) ∧ PySem.W.typeIn K (.ref fI) = some (.type "function") ∧ FnOk P w K mg base CX0 1 fI fd ["self", fld] (spBX K C fld) ∧ Binds K fd ["self", fld] []
theorem wS_raiseX {x fld : Str} {C : Addr} {p pos pos' : Pos} (T : ExN X.K X.prog X.w X.mg X.base x fld C) (hr : Room 2 X.A)
    (h : wE X Ψ e E S fun w S1 => ∃ i, w = .int i ∧ i.natAbs.log2 < 1920 ∧ (Str.ofString (toString i)).length ≤ 1000 ∧ Ψ (.ref C) [(fld, .int i)] E S1) (hc : X.calm = true := by rfl) (hg : Gl X x := by rfl) (hdb : (x == ("__debug__" : Str)) = false := by decide)
    (he : starEach [e] X.env = (false, eval e X.env) :: starEach [] X.env := by rfl) (hpl : (backTo pos (starEach [] X.env)).any (·.1) = false := by rfl) :
    wS X Ψ (.Raise (some (.Call (.Name x p) [e] [] pos)) none pos') E S A :=
  ⟨fun M σ H r ev xo D q pins s I => by
    have xo' := xo
    obtain ⟨Wx, tk, hx⟩ := xo
    obtain ⟨fI, fd, iC, tI, F1, hb⟩ := T.ini
    have pr := ps_raise (pos := pos') hc tk (pmk_oex (p := p) (pos := pos) (ds := []) (dvs := []) T.oex iC tI F1 hr hb .nil pass0 hg T.gl (pa_cons (pe_sem (e := e)) pa_nil he) hdb he hpl)
    refine pr.run pins s σ H D I ?_
    refine h.run M σ H r ev xo' _ fun v w M1 S1 H1 ⟨i, e1, b1, b2, pf⟩ r1 a1 s1 => ?_
    subst e1
    cases a1
    refine ⟨Nat.le_of_ble_eq_true rfl, fun a ha => ⟨a, i, rfl, b1, b2, upd_same, fun d hd hne => ⟨rfl, d, [(fld, .int i)], upd_same, ?_, ?_, ?_⟩⟩⟩
    · rw [upd_ne hne, upd_same]
    · rw [upd_ne hne] at hd
      exact hd
    · rw [upd_ne hne] at hd
      have eH : upd (del (upd (upd (upd H1 a (exo a C none)) d (exd d [(fld, V.int i)])) a (exo a C (some d))) a) d (.xd [(fld, .int i)]) = upd H1 d (.xd [(fld, .int i)]) := by
        funext b
        by_cases z : b = d
        · rw [z, upd_same, upd_same]
        · rw [upd_ne z, upd_ne z]
          by_cases y : b = a
          · rw [y, del_same, ha]
          · rw [del_ne y, upd_ne y, upd_ne z, upd_ne y]
      rw [eH]
      exact hx _ _ E S1 M1 _ (some d) σ pf (r1.tmp hd) ((ev.step s1).step (step_tmp r1 hd)) ⟨fun z => (nomatch z), r1.free hd, _, upd_same, .cons ⟨rfl, .int i⟩ .nil⟩ (s1.trans (step_tmp r1 hd))⟩
/-- e.f of the caught one -/
theorem wE_exf {a C d : Addr} {oe : Obj} {cls : Value} {dd : Option Addr} {pn : List (Addr × Obj)} {n : Str} {pos : Pos} (T : XfC X.K C) (hno : PySem.W.findIn X.K (.ref C) n = some none) (hz : Zc cls dd oe) (hf : ∃ vs, oe.data = .fields vs) (hcl : cls = .ref C) (hd : dd = some d)
    (h : wE (X.suite a ((a, oe) :: pn)) Ψ e E S fun u S1 => ∃ k, u = .xi a d n k ∧ Φ (.int k) S1) (hb : attributeBase e n X.env (eval e X.env) = eval e X.env := by rfl) :
    wE (X.suite a ((a, oe) :: pn)) Ψ (.Attribute e n pos) E S Φ :=
  wE.of (X := X.suite a ((a, oe) :: pn)) (pe_xf T hno hz hf (pe_sem (X := X.suite a ((a, oe) :: pn))) hb) fun M σ H r ev xo Q q => h.run M σ H r ev xo _ fun v u M1 S1 H1 ⟨k, e1, p⟩ r1 a1 s1 => by
    subst e1
    cases a1 with
    | xi q1 q2 => exact ⟨rfl, hcl, d, _, .int k, hd, q2, by simp [List.lookup], q _ _ M1 _ H1 p r1 (.int k) s1⟩
end

-- AM40
/-! ### isinstance of a caught error that has a field -/
/-- isinstance(e, c), the caught one has the dict at d -/
def rIsX (K : PySem.W.Frag) (D a d : Addr) : List V → Hp → VK → Prop := fun xs H Q => ∃ (c : V) (cv : Value) (b : Bool) (kvs : List (Str × V)), xs = [.ref a, c] ∧ (∀ u, RelV c u → u = cv) ∧ PySem.W.kitOne K (.ref D) cv = some b ∧ H d = some (.xd kvs) ∧ Q (.bl b) H
theorem call_isX {X : Cx} {a D d : Addr} {oe : Obj} {pn : List (Addr × Obj)} (C : L2.ExcC X.K D) (ic : (PySem.W.clsIn X.K D).isSome = true) (hz : Zc (.ref D) (some d) oe) (hf : ∃ vs, oe.data = .fields vs) : CallR (X.suite a ((a, oe) :: pn)) (.builtin "isinstance") (rIsX X.K D a d) := by
  rintro pins s σ H xs us Q I r ⟨c, cv, b, kvs, rfl, hcv, ek, hd, q⟩
  match us, r with
  | [x, y], .cons rx (.cons ry .nil) =>
    obtain rfl : x = Value.ref a := rx
    obtain rfl := hcv _ ry
    have at_ := (I.pin (a, oe) (List.mem_append_left _ List.mem_cons_self)).1
    have od0 : ObjOk X.prog X.w H s.heap d (.xd kvs) := I.hok d _ hd
    obtain ⟨mA, hns, _⟩ := od0
    obtain ⟨od, ho, _⟩ := lookIn_ns hns
    obtain ⟨fv, ef⟩ := hf
    have J : PySem.W.InstAt s.heap a oe D (some od) := ⟨at_, hz.1, by unfold PySem.W.notCls; rw [ef], by rw [hz.2]; exact ho⟩
    exact PySem.W.kia_one (PySem.W.kitx_exc ic C.hg C.hk C.hs C.ha C.hn C.ht C.hm) I.kIn J ek (fun z => nomatch z) fun tk => ⟨V.bl b, H, I.tok tk, rfl, q⟩
section
variable {X : Cx} {Ψ : AX} {E : AEnv} {S : Sto} {Φ : W → Sto → Prop}
theorem wE_isX {a D C d : Addr} {oe : Obj} {pn : List (Addr × Obj)} {p p1 p2 pos : Pos} {n y : Str} {b : Bool} (ec : L2.ExcC X.K D) (ic : (PySem.W.clsIn X.K D).isSome = true) (hz : Zc (.ref D) (some d) oe) (hf : ∃ vs, oe.data = .fields vs) (hm : X.mg "isinstance" = none)
    (hk : PySem.W.kitOne X.K (.ref D) (.ref C) = some b)
    (h : wE (X.suite a ((a, oe) :: pn)) Ψ (.Name n p1) E S fun w S1 => wE (X.suite a ((a, oe) :: pn)) Ψ (.Name y p2) E S1 fun u S2 => (∃ f i, w = .xi a d f i) ∧ u = .raw (.ref C) ∧ Φ (.bl b) S2) (hg : Gl X "isinstance" := by rfl) :
    wE (X.suite a ((a, oe) :: pn)) Ψ (.Call (.Name "isinstance" p) [.Name n p1, .Name y p2] [] pos) E S Φ :=
  wE_callB (X := X.suite a ((a, oe) :: pn)) (call_isX ec ic hz hf) (g := fun ws S Φ => ∃ f i, ws = [.xi a d f i, .raw (.ref C)] ∧ Φ (.bl b) S)
    (fun M H S vs ws Φ r av ⟨f, i, e1, p⟩ Q q => by
      subst e1
      cases av with
      | cons w1 w2 => cases w2 with
        | cons w2 w3 =>
          cases w3
          cases w2
          cases w1 with
          | xi q1 q2 => exact ⟨.ref C, .ref C, b, _, rfl, fun u z => z, hk, q2, q _ _ M S H p r (.bl _) (Step.refl _ _)⟩) hm PyProof.Rows.boot_isinstance
    (wA_cons (h.imp fun w S1 q => wA_cons (q.imp fun u S2 ⟨⟨f, i, e1⟩, e2, p⟩ => wA_nil ⟨f, i, by rw [e1, e2], p⟩) (by rfl)) (by rfl)) hg
/-- .. of a built-in class -/
theorem wE_isXB {a D d : Addr} {oe : Obj} {pn : List (Addr × Obj)} {p p1 p2 pos : Pos} {n y : Str} {T : String} {b : Bool} (ec : L2.ExcC X.K D) (ic : (PySem.W.clsIn X.K D).isSome = true) (hz : Zc (.ref D) (some d) oe) (hf : ∃ vs, oe.data = .fields vs) (hm : X.mg "isinstance" = none)
    (hk : PySem.W.kitOne X.K (.ref D) (.type T) = some b)
    (h : wE (X.suite a ((a, oe) :: pn)) Ψ (.Name n p1) E S fun w S1 => wE (X.suite a ((a, oe) :: pn)) Ψ (.Name y p2) E S1 fun u S2 => (∃ f i, w = .xi a d f i) ∧ u = .raw (.ty T) ∧ Φ (.bl b) S2) (hg : Gl X "isinstance" := by rfl) :
    wE (X.suite a ((a, oe) :: pn)) Ψ (.Call (.Name "isinstance" p) [.Name n p1, .Name y p2] [] pos) E S Φ :=
  wE_callB (X := X.suite a ((a, oe) :: pn)) (call_isX ec ic hz hf) (g := fun ws S Φ => ∃ f i, ws = [.xi a d f i, .raw (.ty T)] ∧ Φ (.bl b) S)
    (fun M H S vs ws Φ r av ⟨f, i, e1, p⟩ Q q => by
      subst e1
      cases av with
      | cons w1 w2 => cases w2 with
        | cons w2 w3 =>
          cases w3
          cases w2
          cases w1 with
          | xi q1 q2 => exact ⟨.ty T, .type T, b, _, rfl, fun u z => z, hk, q2, q _ _ M S H p r (.bl _) (Step.refl _ _)⟩) hm PyProof.Rows.boot_isinstance
    (wA_cons (h.imp fun w S1 q => wA_cons (q.imp fun u S2 ⟨⟨f, i, e1⟩, e2, p⟩ => wA_nil ⟨f, i, by rw [e1, e2], p⟩) (by rfl)) (by rfl)) hg
end

-- AM41
/-! ### lambdas as values, also with a default -/
/-- a lambda's names: no cell of its own, its own ones are no names of its maker -/
structure LamV (N : List Str) (sc scope : Scope) : Prop where
  kind : scope.kind = .function
  co : scope.isCoroutine = false
  gen : scope.isGenerator = false
  own : ∀ y ∈ scope.names, y.2 ≠ .cell ∧ (y.2 = .local → y.1 ∉ N)
  free : ∀ y ∈ scope.names, y.2 = .free → sc.names.lookup y.1 = some .cell ∨ sc.names.lookup y.1 = some .free
def lamVB (N : List Str) (sc scope : Scope) : Bool :=
  decide (scope.kind = .function) && !scope.isCoroutine && !scope.isGenerator && scope.names.all fun y => !decide (y.2 = .cell) && (!decide (y.2 = .local) || !N.contains y.1) && (!decide (y.2 = .free) || decide (sc.names.lookup y.1 = some .cell) || decide (sc.names.lookup y.1 = some .free))
theorem lamV_by {N : List Str} {sc scope : Scope} (h : lamVB N sc scope = true) : LamV N sc scope := by
  unfold lamVB at h
  simp only [Bool.and_eq_true, Bool.or_eq_true, Bool.not_eq_true', decide_eq_true_eq, decide_eq_false_iff_not, List.all_eq_true] at h
  obtain ⟨⟨⟨h1, h2⟩, h3⟩, h4⟩ := h
  refine ⟨h1, h2, h3, fun y hy => ⟨(h4 y hy).1.1, fun e m => ?_⟩, fun y hy e => ?_⟩
  · rcases (h4 y hy).1.2 with z | z
    · exact z e
    · rw [List.contains_iff_mem.mpr m] at z
      cases z
  · rcases (h4 y hy).2 with (z | z) | z
    · exact absurd e z
    · exact .inl z
    · exact .inr z
/-- the function object of a lambda -/
def FunO (a : Addr) (q : Str) (pr : Arguments) (bd : Expr) (sc : Scope) (cl : List (Str × Addr)) (dV : Value) (d : Addr) : HO :=
  .ext fun h => ∃ (doc pm ctv : Value), h.get? a = some (PySem.W.kdv_obj "<lambda>" q pr (.expr bd) sc cl dV doc pm d ctv)
/-- the defaults: none, or a tuple of one number -/
def dvV : Option (Addr × Int) → Value
  | none => .none
  | some (t, _) => .ref t
def lamFs (f d : Addr) (q : Str) (pr : Arguments) (bd : Expr) (sc : Scope) (cl : List (Str × Addr)) (dv : Option (Addr × Int)) : List (Addr × HO) :=
  (f, FunO f q pr bd sc cl (dvV dv) d) :: (d, LamX.CodeO d q) :: (match dv with
    | none => []
    | some (t, i) => [(t, .tup [.int i])])
theorem funO_ok {P : Program} {w : World} {H : Hp} {h : Heap} {a d : Addr} {q : Str} {pr : Arguments} {bd : Expr} {sc : Scope} {cl : List (Str × Addr)} {dV doc pm ctv : Value} (e : h.get? a = some (PySem.W.kdv_obj "<lambda>" q pr (.expr bd) sc cl dV doc pm d ctv)) : ObjOk P w H h a (FunO a q pr bd sc cl dV d) :=
  ⟨⟨doc, pm, ctv, e⟩, ⟨_, e⟩, fun h1 h2 ⟨x, y, z, e1⟩ st => ⟨x, y, z, st _ e1⟩⟩
theorem funO_nt {a d : Addr} {q : Str} {pr : Arguments} {bd : Expr} {sc : Scope} {cl : List (Str × Addr)} {dV : Value} (ps : Array Value) : FunO a q pr bd sc cl dV d ≠ .tbl ps := fun z => by
  unfold FunO at z
  cases z
section
variable {X : Cx} {pins : List (Addr × Obj)} {σ : L2.St} {H : Hp} {s : Shared}
theorem LamV.has {scope : Scope} (L : LamV X.N X.env.scope scope) (ok : X.Ok) : ∀ y ∈ scope.names, y.2 = .free → ∃ c, X.env.cells.lookup y.1 = some c := fun y hy e => by
  rcases L.free y hy e with k | k
  · exact ok.has _ (.inl k)
  · exact ok.has _ (.inr k)
/-- a lambda is made, its defaults dV are -/
theorem lam_mkT {c P : Addr} {ps : Array Value} {pr : Arguments} {bd : Expr} {sc : Scope} {po : Pos} {fl : Nat} {dV : Value} {EE QQ : Value → Shared → Prop} (I : Inv X pins σ H s) (tb : LamX.TabB X.base X.mg c P) (ec : X.env.code = .ref c) (eP : H P = some (.tbl ps))
    (tr : TriplesOk ps.toList) (co : ∀ (p : Pos) (cv : Value), codeAmong p ps.toList = some cv → ∃ d, cv = .ref d ∧ H d = some (LamX.CodeO d (X.env.qual ++ "<lambda>")))
    (fre : ∀ y ∈ sc.names, y.2 = .free → ∃ c, X.env.cells.lookup y.1 = some c)
    (go : ∀ (f d : Addr) (H1 : Hp) (s1 : Shared), Made H P (X.env.qual ++ "<lambda>") ps d H1 → H1 f = none →
      Inv X pins σ (upd H1 f (FunO f (X.env.qual ++ "<lambda>") pr bd sc (cloFrom X.env.cells sc.names []) dV d)) s1 → QQ (.ref f) s1) :
    wpAny (model X.prog X.w) X.A (makeTail "<lambda>" (X.env.qual ++ "<lambda>") pr (.expr bd) sc X.env dV .none none po fl) QQ EE s := by
  have gP := I.hok P _ eP
  have bP := tb.bm.keeps I.bk
  cases q : codeAmong po ps.toList with
  | some cv =>
    obtain ⟨d, rfl, hd⟩ := co po cv q
    refine PySem.W.kdv_makeTailHit (ps := ps) (closure_ok fre) I.ok.glob (I.mod.glob.keeps I.bk) ec (tb.code.keeps I.bk) gP tr q bP fun ctv doc h1 tk kp le => ?_
    refine go _ d H _ (.inl ⟨rfl, hd, po, q⟩) (I.hok.fresh le) ?_
    exact I.laid (fun b o e => Heap.get?_push_of_some _ (kp b o e)) le (funO_ok (Heap.get?_push_size _ rfl))
  | none =>
    refine PySem.W.kdv_makeTail (c := c) (P := P) (ps := ps) (closure_ok fre) I.ok.glob (I.mod.glob.keeps I.bk) ec (tb.code.keeps I.bk) gP tr q tb.gP bP fun d ctv doc h1 tk xb le lt rec_ new => ?_
    obtain ⟨d2, oc, vs, t, e2, oce, dat, nm⟩ := rec_
    cases e2
    have nd := I.hok.fresh le
    have J := LamX.inv_table (t' := tk) (more := #[rawInt po.line, rawInt po.col, .ref d]) (h' := h1) I eP xb new le ⟨oc, vs, t, oce, dat, nm⟩
    have le1 : s.heap.objs.size ≤ h1.objs.size := by omega
    have nf : (upd (upd H P (.tbl (ps ++ #[rawInt po.line, rawInt po.col, .ref d]))) d (LamX.CodeO d (X.env.qual ++ "<lambda>"))) h1.objs.size = none := J.hok.fresh (Nat.le_refl _)
    refine go h1.objs.size d _ _ (.inr ⟨po, nd, rfl⟩) nf ?_
    exact J.laid (h' := h1.push _) (t' := tk) (fun b o e => Heap.get?_push_of_some _ e) (Nat.le_refl _) (funO_ok (Heap.get?_push_size _ rfl))
end
section
variable {X : Cx} {Ψ : AX} {E : AEnv} {S : Sto} {Φ : W → Sto → Prop}
theorem lam_vw {M : Lay} {H1 : Hp} {f d : Addr} {q : Str} {pr : Arguments} {bd : Expr} {sc : Scope} {cl : List (Str × Addr)} {dv : Option (Addr × Int)} (r1 : Rep M H1 S) (nf : H1 f = none) (hd : H1 d = some (LamX.CodeO d q)) (od : M.out d)
    (ht : ∀ t i, dv = some (t, i) → H1 t = some (.tup [.int i]) ∧ M.out t) : VW M (upd H1 f (FunO f q pr bd sc cl (dvV dv) d)) (.ref f) (.thg f (lamFs f d q pr bd sc cl dv)) := by
  have nd : d ≠ f := ne_of_none hd nf
  refine .thg fun p hp => ?_
  unfold lamFs at hp
  rcases List.mem_cons.mp hp with e | hp
  · subst e
    exact ⟨r1.free nf, upd_same, funO_nt⟩
  · rcases List.mem_cons.mp hp with e | hp
    · subst e
      exact ⟨od, by rw [upd_ne nd]; exact hd, LamX.codeO_ne⟩
    · cases dv with
      | none => cases hp
      | some ti =>
        obtain ⟨t, i⟩ := ti
        have hp : p = (t, .tup [.int i]) := List.mem_singleton.mp hp
        subst hp
        obtain ⟨h1, h2⟩ := ht t i rfl
        exact ⟨h2, by rw [upd_ne (ne_of_none h1 nf)]; exact h1, fun ps z => nomatch z⟩
/-- lambda: body -/
theorem wE_lam {kt : Nat} {c P : Addr} {pr : Arguments} {bd : Expr} {sc : Scope} {po : Pos} (TB : LamX.TabB X.base X.mg c P) (hcode : X.env.code = .ref c) (hS : S[kt]? = some (.tab P (X.env.qual ++ "<lambda>")))
    (L : LamV X.N X.env.scope sc)
    (h : ∀ f d, Φ (.thg f (lamFs f d (X.env.qual ++ "<lambda>") pr bd sc (cloFrom X.env.cells sc.names []) none)) S) (hdef : defaultsOf pr X.env = ([], []) := by rfl) :
    wE X Ψ (.Lambda pr bd sc po) E S Φ := by
  refine ⟨fun M σ H r ev xo Q qq pins s I => ?_⟩
  obtain ⟨ho, eP, b⟩ := r.at_ kt P _ (r.tb kt P _ hS) hS
  cases b with
  | @tab ps _ _ tr co =>
  have co' : ∀ (p : Pos) (cv : Value), codeAmong p ps.toList = some cv → ∃ d, cv = .ref d ∧ H d = some (LamX.CodeO d (X.env.qual ++ "<lambda>")) := fun p cv e => by
    obtain ⟨d, e1, _, e2⟩ := co p cv e
    exact ⟨d, e1, e2⟩
  refine PySem.W.kla_eval hdef ?_
  rw [makeFunction_eq]
  simp only [List.zip_nil_right, List.filterMap_nil, List.isEmpty_nil, if_true, pure_bind]
  refine lam_mkT I TB hcode eP tr co' (L.has I.ok) fun f d H1 s1 md nf I1 => ?_
  obtain ⟨st1, r1, hco, od⟩ := made_step r hS eP tr co md
  exact ⟨.ref f, _, I1, rfl, qq _ _ M S _ (h f d) (r1.tmp nf) (lam_vw (dv := none) r1 nf hco od (fun _ _ z => nomatch z)) (st1.trans (step_tmp r1 nf))⟩
/-- lambda a=i: body -/
theorem wE_lamD {kt : Nat} {c P : Addr} {pr : Arguments} {bd e0 : Expr} {sc : Scope} {po : Pos} (TB : LamX.TabB X.base X.mg c P) (hcode : X.env.code = .ref c)
    (L : LamV X.N X.env.scope sc) (hdef : pr.defaults = [e0])
    (h : wE X Ψ e0 E S fun w S1 => ∃ i, w = .int i ∧ S1[kt]? = some (.tab P (X.env.qual ++ "<lambda>")) ∧ ∀ f d t, Φ (.thg f (lamFs f d (X.env.qual ++ "<lambda>") pr bd sc (cloFrom X.env.cells sc.names []) (some (t, i)))) S1) (hkd : pr.kw_defaults = [] := by rfl) :
    wE X Ψ (.Lambda pr bd sc po) E S Φ := by
  refine ⟨fun M σ H r ev xo Q qq pins s I => ?_⟩
  refine PySem.W.kdv_lam (by rw [hdef]; rfl) hkd ?_
  rw [hdef]
  refine PySem.W.kdv_all1 (wpAny_mono (h.run M σ H r ev xo (fun v H' => ∃ M2 S2 i, v = .int i ∧ Rep M2 H' S2 ∧ Step M H M2 H' ∧ S2[kt]? = some (.tab P (X.env.qual ++ "<lambda>")) ∧ ∀ f d t, Φ (.thg f (lamFs f d (X.env.qual ++ "<lambda>") pr bd sc (cloFrom X.env.cells sc.names []) (some (t, i)))) S2) (fun v w M2 S2 H2 ⟨i, e1, p1, p2⟩ r2 a2 s2 => ?_) pins s I) (fun u s2 hu => ?_) fun _ _ z => z)
  · subst e1
    cases a2
    exact ⟨M2, S2, i, rfl, r2, s2, p1, p2⟩
  · obtain ⟨v, H2, I2, rv, M2, S2, i, rfl, r2, st2, hS, hΦ⟩ := hu
    refine PySem.W.kdv_all0 ?_
    rw [makeFunction_eq]
    simp only [List.zip_nil_right, List.filterMap_nil, List.isEmpty_nil, if_true, pure_bind, List.isEmpty_cons, Bool.false_eq_true, if_false]
    refine wpAny_bind (wpAny_newTextTuple ?_)
    have nt : H2 s2.heap.objs.size = none := I2.hok.fresh (Nat.le_refl _)
    have I3 : Inv X pins σ (upd H2 s2.heap.objs.size (.tup [.int i])) { s2 with heap := s2.heap.push (PySem.W.kdv_tup [u]), toks := s2.toks } := I2.laid (fun b o e => Heap.get?_push_of_some _ e) (Nat.le_refl _) ⟨Nat.le_of_ble_eq_true rfl, [u], .cons rv .nil, _, Heap.get?_push_size _ rfl, rfl, _, rfl⟩
    have r3 := r2.tmp (ho := .tup [.int i]) nt
    have st3 := step_tmp r2 (ho := .tup [.int i]) nt
    obtain ⟨ho, eP, b⟩ := r3.at_ kt P _ (r3.tb kt P _ hS) hS
    cases b with
    | @tab ps _ _ tr co =>
    have co' : ∀ (p : Pos) (cv : Value), codeAmong p ps.toList = some cv → ∃ d, cv = .ref d ∧ (upd H2 s2.heap.objs.size (.tup [.int i])) d = some (LamX.CodeO d (X.env.qual ++ "<lambda>")) := fun p cv e => by
      obtain ⟨d, e1, _, e2⟩ := co p cv e
      exact ⟨d, e1, e2⟩
    refine lam_mkT I3 TB hcode eP tr co' (L.has I3.ok) fun f d H1 s1 md nf I1 => ?_
    obtain ⟨st1, r1, hco, od⟩ := made_step r3 hS eP tr co md
    refine ⟨.ref f, _, I1, rfl, qq _ _ M2 S2 _ (hΦ f d s2.heap.objs.size) (r1.tmp nf) (lam_vw (dv := some (s2.heap.objs.size, i)) r1 nf hco od fun t j e => ?_) (((st2.trans st3).trans st1).trans (step_tmp r1 nf))⟩
    cases e
    have ot := r2.free nt
    exact ⟨st1.keep _ _ upd_same (fun ps z => nomatch z) ot.1, ot⟩
end

-- AM42
/-! ### calling a lambda that is a value -/
/-- what calling it binds -/
def LamB (pr : Arguments) (bd : Expr) (sc : Scope) : Option (Addr × Int) → Prop
  | none => ∀ (q : Str) (cl : List (Str × Addr)) (doc pm cdv ctv : Value), bindArgs (PySem.W.kdv_fn "<lambda>" q pr (.expr bd) sc cl .none doc pm cdv ctv) ⟨[], []⟩ = pure []
  | some (t, _) => ∃ pa, sc.names.lookup pa = some .local ∧ ∀ (q : Str) (cl : List (Str × Addr)) (doc pm cdv ctv : Value), ∃ k, bindArgs (PySem.W.kdv_fn "<lambda>" q pr (.expr bd) sc cl (.ref t) doc pm cdv ctv) ⟨[], []⟩ = seqItems? (.ref t) >>= k ∧ ∀ u, k (some #[u]) = pure [(pa, u)]
section
variable {X : Cx} {pins : List (Addr × Obj)} {σ : L2.St} {H HZ : Hp} {s s1 : Shared}
end
section
variable {X : Cx} {Ψ : AX} {E : AEnv} {S : Sto} {Φ : W → Sto → Prop}
end

-- AM43
section
variable {X : Cx} {Ψ : AX} {a b : Expr} {E : AEnv} {S : Sto} {Φ : W → Sto → Prop} {pos : Pos}
theorem xE_pow (h : wE X Ψ a E S fun x S1 => wE X Ψ b E S1 fun y S2 => sII CPow (fun i j => .int (i ^ j.toNat)) x y S2 Φ) : wE X Ψ (.BinOp a .Pow b pos) E S Φ := wE_op op_pow opw_I h
/-- a product of small numbers -/
theorem xE_mulS (h : wE X Ψ a E S fun x S1 => wE X Ψ b E S1 fun y S2 => ∃ i j : Int, x = .int i ∧ y = .int j ∧ (0 ≤ i ∧ i < 2147483647) ∧ (0 ≤ j ∧ j < 2147483647) ∧ Φ (.int (i * j)) S2) : wE X Ψ (.BinOp a .Mult b pos) E S Φ :=
  xE_mulI (h.imp fun x S1 h => h.imp fun y S2 ⟨i, j, e1, e2, h1, h2, p⟩ => ⟨i, j, e1, e2, by unfold CMul; omega, p⟩)
end

-- AM44
/-! ### a comprehension whose turns know the state of the def around -/
section
variable {X : Cx} {scope : Scope} {C : Addr} {cl : List (Str × Addr)} {fp : List Addr} {pins pinsB : List (Addr × Obj)} {s3 s : Shared} {H3 H : Hp} {σ0 σ : L2.St}
end
/-- the tests of a block -/
def IfK.ttM (B : Cx) : IfK → TT
  | .no => tYes
  | .one c => semT B c
section
variable {X : Cx}
end

-- AM45
section
/-- within a turn: (M0, H0) is the turn's start -/
def wEM (B : Cx) (M0 : Lay) (H0 : Hp) (e : Expr) (E : AEnv) (S : Sto) (Φ : W → Sto → Prop) : Prop := ∀ M σ H, Step M0 H0 M H → Rep M H S → EvOk M H σ E → ∀ Q : VK, Got M H Φ Q → sem B e σ H Q
def wTM (B : Cx) (M0 : Lay) (H0 : Hp) (e : Expr) (E : AEnv) (S : Sto) (Φ : Bool → Sto → Prop) : Prop := ∀ M σ H, Step M0 H0 M H → Rep M H S → EvOk M H σ E → ∀ Q, GotT M H Φ Q → semT B e σ H Q
/-- the def around, its state, its names -/
structure Mk (X B : Cx) (σ0 : L2.St) (M0 : Lay) (H0 : Hp) (E0 : AEnv) : Prop where
  now : ∃ pins, ∀ (pinsB : List (Addr × Obj)) (σ : L2.St) (H : Hp) (s : Shared), L2.Inv B pinsB σ H s → L2.Inv X pins σ0 H s
  ev : EvOk M0 H0 σ0 E0
variable {X B : Cx} {M0 : Lay} {H0 : Hp} {σ0 : L2.St} {E0 E : AEnv} {S : Sto} {Φ : W → Sto → Prop} {ΦT : Bool → Sto → Prop} {a e : Expr} {pos : Pos}
theorem wEM.of (h : wE B nox e E S Φ) : wEM B M0 H0 e E S Φ := fun M σ H _ r ev Q q => h.run M σ H r ev ExcOk.none Q q
theorem wTM.of (h : wT B nox e E S ΦT) : wTM B M0 H0 e E S ΦT := fun M σ H _ r ev Q q => h.run M σ H r ev ExcOk.none Q q
end
section
variable {X : Cx} {scope : Scope} {s3 : Shared} {H3 : Hp} {C : Addr} {cl : List (Str × Addr)} {fp : List Addr} {M0 : Lay} {H0 : Hp} {σ0 : L2.St} {E0 E : AEnv} {S : Sto} {Φ : W → Sto → Prop}
end
structure LcInvM (M1 : Lay) (H1 : Hp) (D : Addr) (σ : L2.St) (E : AEnv) (j : Nat) (vs : List V) (ys : List W) (I : Nat → List W → Sto → Prop) (i : Nat) (H' : Hp) : Prop where
  ex : ∃ m2 S' accV acc, Step M1 H1 ⟨m2, M1.h⟩ H' ∧ Rep ⟨m2, D :: M1.h⟩ H' S' ∧ H' D = some (.lst accV) ∧ VWs ⟨m2, D :: M1.h⟩ H' accV acc ∧ I i acc S' ∧ VWs ⟨m2, D :: M1.h⟩ H' vs ys ∧ EvOk ⟨m2, D :: M1.h⟩ H' σ E
section
variable {X : Cx} {Ψ : AX} {elt iter : Expr} {E : AEnv} {S : Sto} {Φ : W → Sto → Prop} {ΦS : List W → Sto → Prop} {pos : Pos}
end
section
variable {X : Cx} {Ψ : AX} {E : AEnv} {S : Sto} {Φ : W → Sto → Prop}
/-- lambda a=3: body -/
theorem wE_lamC {kt : Nat} {c P : Addr} {pr : Arguments} {bd : Expr} {sc : Scope} {po p0 : Pos} {i : Int} {j0 : Nat} (TB : LamX.TabB X.base X.mg c P) (hcode : X.env.code = .ref c) (hS : S[kt]? = some (.tab P (X.env.qual ++ "<lambda>")))
    (L : LamV X.N X.env.scope sc) (hdef : pr.defaults = [.Constant (.int i) j0 p0])
    (h : ∀ f d t, Φ (.thg f (lamFs f d (X.env.qual ++ "<lambda>") pr bd sc (cloFrom X.env.cells sc.names []) (some (t, i)))) S) (hkd : pr.kw_defaults = [] := by rfl) :
    wE X Ψ (.Lambda pr bd sc po) E S Φ := wE_lamD (kt := kt) TB hcode L hdef (wE_int ⟨i, rfl, hS, h⟩) hkd
end
section
variable {X : Cx} {Ψ : AX} {elt iter c : Expr} {E : AEnv} {S : Sto} {Φ : W → Sto → Prop} {pos : Pos}
end

-- AM46
/-! ### a comprehension whose element may raise -/
/-- another wish about exceptions -/
abbrev cxd (X : Cx) (xe : Value → Shared → Prop) : Cx := X.tr X.pn xe
section
variable {X : Cx} {pins : List (Addr × Obj)} {σ : L2.St} {H : Hp} {s : Shared} {xe : Value → Shared → Prop}
end
/-- the block of a comprehension whose element may raise -/
abbrev Cx.bkx (X : Cx) (scope : Scope) (s : Shared) (H : Hp) (C : Addr) (cl : List (Str × Addr)) (fp : List Addr) : Cx :=
  cxd (Cx.bk X scope s H C cl fp) (notedBy (model X.prog X.w) X.A (compEnvC scope cl C X.env) (CompFails (model X.prog X.w) X.A X.xe (compEnvC scope cl C X.env)))
section
variable {X : Cx} {scope : Scope} {C : Addr} {cl : List (Str × Addr)} {fp : List Addr} {pins : List (Addr × Obj)} {s3 : Shared} {H3 : Hp} {σ0 : L2.St}
end
section
variable {X : Cx}
end

-- AM47
/-! ### a comprehension whose element may raise: the abstract rules -/
section
variable {X : Cx} {Ψ : AX} {elt iter : Expr} {E : AEnv} {S : Sto} {Φ : W → Sto → Prop} {ΦS : List W → Sto → Prop} {A : AE} {pos : Pos}
end

-- AM48
/-! ### a dict of the module with text keys, its values ints; and some keys that it has not -/
structure KTabN (K : PySem.W.Frag) (w : World) (mg : Str → Option Value) (x : Str) (kvs : List (Str × Int)) (nos : List Str) : Prop where
  ex : ∃ d es n, mg x = some (.ref d) ∧ KDict K w d es n ∧ (∀ kv ∈ kvs, ∃ t, PySem.W.nsIn K d kv.1 = some (some (.int kv.2 t))) ∧ ∀ z ∈ nos, PySem.W.nsIn K d z = some none
theorem KTabN.tab {K : PySem.W.Frag} {w : World} {mg : Str → Option Value} {x : Str} {kvs : List (Str × Int)} {nos : List Str} (T : KTabN K w mg x kvs nos) : KTab K w mg x kvs := by
  obtain ⟨d, es, n, h1, h2, h3, _⟩ := T.ex
  exact ⟨d, es, n, h1, h2, h3⟩
section
variable {X : Cx} {Ψ : AX} {a : Expr} {E : AEnv} {S : Sto} {ΦT : Bool → Sto → Prop} {pos : Pos}
end

-- AM50
/-! ### a dict of the module with text keys, its values ints: any text asked -/
structure KTabA (K : PySem.W.Frag) (w : World) (mg : Str → Option Value) (x : Str) (kvs : List (Str × Int)) : Prop where
  ex : ∃ d es n, mg x = some (.ref d) ∧ KDict K w d es n ∧ (∀ kv ∈ kvs, ∃ t, PySem.W.nsIn K d kv.1 = some (some (.int kv.2 t))) ∧ ∀ z, z ∉ kvs.map Prod.fst → PySem.W.nsIn K d z = some none
theorem KTabA.tab {K : PySem.W.Frag} {w : World} {mg : Str → Option Value} {x : Str} {kvs : List (Str × Int)} (T : KTabA K w mg x kvs) : KTab K w mg x kvs := by
  obtain ⟨d, es, n, h1, h2, h3, _⟩ := T.ex
  exact ⟨d, es, n, h1, h2, h3⟩
section
variable {X : Cx} {Ψ : AX} {a : Expr} {E : AEnv} {S : Sto} {ΦT : Bool → Sto → Prop} {pos : Pos}
end

-- AM51
/-! ### set(x), x a list of ints: with the order's facts -/
abbrev set0 (w : World) : Obj := { cls := .type "set", dict := none, data := .set #[] 0 (.fresh 0 0 (!w.params.followText "set-order")) }
section
variable {P : Program} {w : World} {A : Around} {E : Value → Shared → Prop} {s : Shared} {l : Addr} {its : Array Value} {ns : List Int}
set_option maxHeartbeats 8000000 in
set_option maxHeartbeats 8000000 in
end
section
variable {X : Cx} {Ψ : AX} {a : Expr} {E : AEnv} {S : Sto} {Φ : W → Sto → Prop} {pos : Pos}
end

-- AM52
section
variable {X : Cx} {Ψ : AX} {a b c o e : Expr} {E : AEnv} {S : Sto} {Φ : W → Sto → Prop} {pos : Pos}
/-! ### max of a list of ints; d.get(k, x) -/
def isDW (S : Sto) (x : W) : Prop := ∃ k, x = .ref k ∧ ((∃ kw, S[k]? = some (.dk kw)) ∨ ∃ kw, S[k]? = some (.dt kw))
def sGet2 (x y z : W) (S : Sto) (Φ : W → Sto → Prop) : Prop := ∃ k o, x = .ref k ∧ dgetW S k y = some o ∧ Φ (o.getD z) S
theorem sGet2_i {k : Nat} {o : Option W} {y z : W} (h1 : dgetW S k y = some o) (h : Φ (o.getD z) S) : sGet2 (.ref k) y z S Φ := ⟨k, o, rfl, h1, h⟩
theorem xE_dget2 {apos : Pos} (hu : X.A.units + 1 < cLine) (m : M2 X o "get" apos a b pos) (h : wE X Ψ o E S fun x S1 => isDW S1 x ∧ wE X Ψ a E S1 fun y S2 => wE X Ψ b E S2 fun z S3 => sGet2 x y z S3 Φ) : wE X Ψ (.Call (.Attribute o "get" apos) [a, b] [] pos) E S Φ :=
  wE.of (pe_dget2 hu pe_sem pe_sem pe_sem m) fun M σ H r ev xo Q q => h.run M σ H r ev xo _ fun v x M1 S1 H1 ⟨hd, h1⟩ r1 a1 s1 => by
    obtain ⟨k, rfl, hk⟩ := hd
    obtain ⟨p, hp⟩ : ∃ p, v = V.ref p ∧ IsD H1 p := by
      rcases hk with ⟨kw, hk⟩ | ⟨kw, hk⟩
      · obtain ⟨p, ho, e1, e2, bo⟩ := r1.at' hk
        cases a1 with
        | ref em =>
          rw [em] at e1
          cases e1
          cases bo with
          | dk _ => exact ⟨_, rfl, .inl ⟨_, .inl e2⟩⟩
      · obtain ⟨p, ho, e1, e2, bo⟩ := r1.at' hk
        cases a1 with
        | ref em =>
          rw [em] at e1
          cases e1
          cases bo with
          | dt _ => exact ⟨_, rfl, .inr ⟨_, .inl e2⟩⟩
    obtain ⟨rfl, isd⟩ := hp
    refine ⟨p, rfl, isd, h1.run M1 σ H1 r1 (ev.step s1) (xo.step s1) _ fun y yw M2 S2 H2 h2 r2 a2 s2 => ?_⟩
    refine h2.run M2 σ H2 r2 ((ev.step s1).step s2) ((xo.step s1).step s2) _ fun z zw M3 S3 H3 h3 r3 a3 s3 => ?_
    obtain ⟨k', o, e, hg, pf⟩ := h3
    cases e
    obtain ⟨p', o', ep, dg, hs, hn⟩ := dget_vw (x := .non) r3 (VW.step s3 _ _ (VW.step s2 _ _ a1)) (VW.step s3 _ _ a2) hg
    cases ep
    refine ⟨o', dg, ?_⟩
    cases o with
    | none =>
      rw [hn rfl]
      exact q _ _ M3 S3 H3 pf r3 a3 ((s1.trans s2).trans s3)
    | some u =>
      obtain ⟨z', ez, az⟩ := hs u rfl
      rw [ez]
      exact q _ _ M3 S3 H3 pf r3 az ((s1.trans s2).trans s3)
/-! ### list of a text -/
end

-- AM53
section
variable {X : Cx} {Ψ : AX} {elt iter a b o e : Expr} {E : AEnv} {S : Sto} {Φ : W → Sto → Prop} {ΦS : List W → Sto → Prop} {pos : Pos}
/-! ### list comprehensions over pairs -/
end

-- AM54
section
variable {X : Cx} {Ψ : AX} {a b : Expr} {E : AEnv} {S : Sto} {Φ : W → Sto → Prop} {pos : Pos}
/-! ### slices of texts; a list times an int -/
def sSlS (x : W) (l u : Option Int) (S : Sto) (Φ : W → Sto → Prop) : Prop := ∃ z : Str, x = .str z ∧ z.length ≤ sizeLine ∧ Φ (.str (cutS z l u)) S
theorem sSlS_i {z : Str} {l u : Option Int} (hl : z.length ≤ sizeLine) (h : Φ (.str (cutS z l u)) S) : sSlS (.str z) l u S Φ := ⟨z, rfl, hl, h⟩
theorem xE_slS {lo hi : Option Expr} {p2 : Pos} (h : wE X Ψ a E S fun x S1 => wO X Ψ lo E S1 fun l S2 => wO X Ψ hi E S2 fun u S3 => sSlS x l u S3 Φ) : wE X Ψ (.Subscript a (.Slice lo hi none p2) pos) E S Φ :=
  wE_slice (g := sSlS) sl_str (fun M H S v x l u Φ r a1 ⟨z, e1, hl, p⟩ Q q => by
    subst e1
    cases a1
    exact ⟨z, rfl, hl, q _ _ M S H p r (.str _) (Step.refl _ _)⟩) h
end

-- AM55
/-! ### lambdas that outlive their maker: its cell becomes a known object -/
def CellO (c : Addr) (u : Value) : HO := .ext fun h => h.IsCell c (some u)
section
variable {P : Program} {w : World} {M : Lay} {H : Hp} {h : Heap} {c : Addr} {u : Value}
theorem cellO_ok (e : h.IsCell c (some u)) : ObjOk P w H h c (CellO c u) :=
  ⟨e, ⟨e.choose, e.choose_spec.1⟩, fun h1 h2 ⟨o, ho, hd⟩ st => ⟨o, st _ ho, hd⟩⟩
theorem cellO_nt (ps : Array Value) : CellO c u ≠ .tbl ps := fun z => by
  unfold CellO at z
  cases z
/-- objects by which a told value is known -/
def Told (objs : List (Addr × HO)) (v : V) (w : W) : Prop := ∀ (M : Lay) (H : Hp), (∀ q ∈ objs, M.out q.1 ∧ H q.1 = some q.2) → VW M H v w
def Known (M : Lay) (H : Hp) (objs : List (Addr × HO)) : Prop := ∀ q ∈ objs, M.out q.1 ∧ H q.1 = some q.2 ∧ ∀ ps, q.2 ≠ .tbl ps
theorem Known.app {a b : List (Addr × HO)} (h1 : Known M H a) (h2 : Known M H b) : Known M H (a ++ b) := fun q hq => (List.mem_append.mp hq).elim (h1 q) (h2 q)
theorem Known.cons {a : Addr × HO} {b : List (Addr × HO)} (h1 : M.out a.1 ∧ H a.1 = some a.2 ∧ ∀ ps, a.2 ≠ .tbl ps) (h2 : Known M H b) : Known M H (a :: b) := fun q hq => by
  rcases List.mem_cons.mp hq with e | hq
  · subst e; exact h1
  · exact h2 q hq
mutual
theorem told_of : ∀ (w : W) (n : Nat) (v : V), w.ok n = true → VW M H v w → ∃ objs, Known M H objs ∧ Told objs v w
  | .non, _, _, _, h => by cases h; exact ⟨[], fun _ z => (nomatch z), fun _ _ _ => .non⟩
  | .bl b, _, _, _, h => by cases h; exact ⟨[], fun _ z => (nomatch z), fun _ _ _ => .bl b⟩
  | .int i, _, _, _, h => by cases h; exact ⟨[], fun _ z => (nomatch z), fun _ _ _ => .int i⟩
  | .str x, _, _, _, h => by cases h; exact ⟨[], fun _ z => (nomatch z), fun _ _ _ => .str x⟩
  | .tup ws, n, _, q, h => by
    cases n with
    | zero => simp [W.ok] at q
    | succ n =>
      cases h with
      | @tup a xs _ t r =>
        obtain ⟨objs, k, tl⟩ := tolds_of ws n xs (by simpa [W.ok] using q) r
        exact ⟨(a, .tup xs) :: objs, k.cons ⟨t.2, t.1, fun ps z => nomatch z⟩, fun M2 H2 hq => .tup ⟨(hq _ List.mem_cons_self).2, (hq _ List.mem_cons_self).1⟩ (tl M2 H2 fun q hm => hq q (List.mem_cons_of_mem _ hm))⟩
  | .lst ws, n, _, q, h => by
    cases n with
    | zero => simp [W.ok] at q
    | succ n =>
      cases h with
      | @lst a xs _ t r =>
        obtain ⟨objs, k, tl⟩ := tolds_of ws n xs (by simpa [W.ok] using q) r
        exact ⟨(a, .lst xs) :: objs, k.cons ⟨t.2, t.1, fun ps z => nomatch z⟩, fun M2 H2 hq => .lst ⟨(hq _ List.mem_cons_self).2, (hq _ List.mem_cons_self).1⟩ (tl M2 H2 fun q hm => hq q (List.mem_cons_of_mem _ hm))⟩
  | .ref _, _, _, q, _ => by simp [W.ok] at q
  | .raw _, _, _, q, _ => by simp [W.ok] at q
  | .scr _ _, _, _, q, _ => by simp [W.ok] at q
  | .xi _ _ _ _, _, _, q, _ => by simp [W.ok] at q
  | .thg _ _, _, _, q, _ => by simp [W.ok] at q
theorem tolds_of : ∀ (ws : List W) (n : Nat) (vs : List V), W.oks ws n = true → VWs M H vs ws → ∃ objs, Known M H objs ∧ ∀ (M2 : Lay) (H2 : Hp), (∀ q ∈ objs, M2.out q.1 ∧ H2 q.1 = some q.2) → VWs M2 H2 vs ws
  | [], _, _, _, h => by cases h; exact ⟨[], fun _ z => (nomatch z), fun _ _ _ => .nil⟩
  | w :: ws, n, _, q, h => by
    simp only [W.oks, Bool.and_eq_true] at q
    cases h with
    | cons a b =>
      obtain ⟨o1, k1, t1⟩ := told_of w n _ q.1 a
      obtain ⟨o2, k2, t2⟩ := tolds_of ws n _ q.2 b
      exact ⟨o1 ++ o2, k1.app k2, fun M2 H2 hq => .cons (t1 M2 H2 fun q hm => hq q (List.mem_append_left _ hm)) (t2 M2 H2 fun q hm => hq q (List.mem_append_right _ hm))⟩
end
/-- a thing; the same with more known -/
def thgW (t : Addr × List (Addr × HO)) : W := .thg t.1 t.2
def moreT (ex : List (Addr × HO)) (t : Addr × List (Addr × HO)) : W := .thg t.1 (t.2 ++ ex)
theorem vws_more {M2 : Lay} {H2 : Hp} {ex : List (Addr × HO)} (st : Step M H M2 H2) (k : Known M2 H2 ex) : ∀ {ts : List (Addr × List (Addr × HO))} {vs : List V}, VWs M H vs (ts.map thgW) → VWs M2 H2 vs (ts.map (moreT ex))
  | [], _, h => by cases h; exact .nil
  | t :: ts, _, h => by
    cases h with
    | cons a b =>
      have a2 := VW.step st _ _ a
      cases a2 with
      | thg q => exact .cons (.thg fun z hz => (List.mem_append.mp hz).elim (q z) (k z)) (vws_more st k b)
theorem hok_more (x : HOk P w H h) {o : HO} (hn : H c = none) (new : ObjOk P w (upd H c o) h c o) : HOk P w (upd H c o) h := fun b u e => by
  by_cases hb : b = c
  · subst hb; rw [upd_same] at e; cases e; exact new
  · rw [upd_ne hb] at e
    exact (x b u e).stay (fun _ _ _ q => q) (fun _ q => by rw [upd_ne (ne_of_none q hn)]; exact q) fun _ xs q => by rw [upd_ne (ne_of_none q hn)]; exact q
end
/-- a def by its body, told at the body's own end -/
theorem fn_ofW {CX : CXT} {P : Program} {w : World} {K : PySem.W.Frag} {mg : Str → Option Value} {base : Heap} {k : Nat} {f : Addr} {name qual : Str} {params : Arguments} {body : List Stmt} {scope : Scope} {dV kV doc pm cdv ct oc : Value} {an od : Option Addr}
    {osl : Array (Option Value)} {N ps : List Str} {sp : Sp} (lk : K.lookup f = some ⟨oc, od, .func (PySem.W.fnOf name qual params body scope dV kV doc pm an cdv ct), osl⟩) (hcd : PySem.W.codeIn K cdv qual = true) (S : FnScope N ps scope)
    (len : ∀ vs H Q E, sp vs H Q E → vs.length = ps.length)
    (hbody : ∀ (A : Around) (outer : List Env) (s : Shared) (H : Hp) (vs : List V) (Q : VK) (E : XK) (s1 : Shared), Room k (A.deeper (envOfC qual scope s.heap.objs.size f cdv)) → sp vs H Q E → Inv (cxOf CX P w K mg base N qual scope f cdv A outer s H E) [] (start N vs) H s1 →
      wpAny (model P w) (A.deeper (envOfC qual scope s.heap.objs.size f cdv)) (execs body (envOfC qual scope s.heap.objs.size f cdv)) (fun fl s' => match fl with | .ret u => CE outer P w H s Q u s' | _ => False) (cxOf CX P w K mg base N qual scope f cdv A outer s H E).xe s1) :
    FnOk P w K mg base CX (k + 1) f (PySem.W.fnOf name qual params body scope dV kV doc pm an cdv ct) ps sp := by
  refine ⟨len, fun A outer s H args us vs Q E hr e0 hb r hsp => ?_⟩
  have hl := len _ _ _ _ hsp
  have KX : K.In s.heap := e0.mod.kin.keeps fun b o e => (e0.bs b o e).1
  have lim : s.heap.NoLimit := e0.mod.nolimit.keeps fun b o e => (e0.bs b o e).1
  have hkind : ∀ y ∈ ps.zip us, scope.names.lookup y.1 = some .local ∨ (scope.names.lookup y.1 = some .cell ∧ ((cellsFrom (s.heap.objs.size + 1) scope.names []).lookup y.1).isSome = true) := fun ⟨n, v⟩ hy => by
    rcases S.par n (List.of_mem_zip hy).1 with q | q
    · exact .inl q
    · exact .inr ⟨q, PySem.W.cellsFrom_some _ _ _ (.inl q)⟩
  refine codeAny_call_function hr.depth (KX _ _ lk) rfl S.co S.gen rfl (PySem.W.codeRec_of KX hcd) (hb _ _ _ _ ?_)
  refine wpAny_newFunctionEnv_cells S.kind hkind fun env he s1 x => ?_
  subst he
  refine ⟨lim.keeps x.toInCall.keep, codeAny_func ?_⟩
  have I : Inv (cxOf CX P w K mg base N qual scope f cdv A outer s H E) [] (start N vs) H s1 := inv_start S hr.hd e0 hl r x
  refine wpAny_mono (hbody A outer s H vs Q E s1 (hr.deeper _) hsp I) (fun fl s' hs => ?_) fun e s' hs => hs
  cases fl with
  | ret u => exact hs
  | next => exact False.elim hs
  | brk => exact False.elim hs
  | cont => exact False.elim hs

-- AM56
/-! ### a def of three statements whose result is a list of lambdas over its one argument, a told list -/
def asp_makes (pre : Sto → Prop) (R : Addr → List (Addr × List (Addr × HO)) → Prop) : ASp := fun ws S Φ _ => ∃ wl, ws = [.lst wl] ∧ W.oks wl 59 = true ∧ pre S ∧
  ∀ (c a : Addr) (objs : List (Addr × HO)) (ts : List (Addr × List (Addr × HO))), R c ts → Told objs (.ref a) (.lst wl) → (∀ q ∈ objs, q.1 ≠ c) → Φ (.lst (ts.map (moreT ((c, CellO c (.ref a)) :: objs)))) S
theorem fn_okR {P : Program} {w : World} {K : PySem.W.Frag} {mg : Str → Option Value} {base : Heap} {x qual nm : Str} {st s1 s2 : Stmt} {e : Expr} {pos : Pos} {f c0 : Addr} {fd : FuncData} {N : List Str} {k : Nat} {pre : Sto → Prop} {R : Addr → List (Addr × List (Addr × HO)) → Prop}
    (F : Fun K x qual st f fd) (hcode : fd.code = .ref c0) (sc : FnScope N [nm] (defScope st)) (hb : defBody st = [s1, s2, .Return (some e) pos]) (hcell : (defScope st).names.lookup nm = some .cell)
    (hbody : ∀ (A : Around) (outer : List Env) (s : Shared) (H : Hp) (E : XK), Room k (A.deeper (envOfC qual (defScope st) s.heap.objs.size f (.ref c0))) → ∀ c, (envOfC qual (defScope st) s.heap.objs.size f (.ref c0)).cells.lookup nm = some c → ∀ (wl : List W) (S : Sto), pre S →
      wS (cxOf (L2.CX P w) P w K mg base N qual (defScope st) f (.ref c0) A outer s H E) nox s1 (startW N.length [.lst wl]) S ⟨fun E1 S1 => wS (cxOf (L2.CX P w) P w K mg base N qual (defScope st) f (.ref c0) A outer s H E) nox s2 E1 S1 ⟨fun E2 S2 => E2[0]? = some (some (.lst wl)) ∧
        wE (cxOf (L2.CX P w) P w K mg base N qual (defScope st) f (.ref c0) A outer s H E) nox e E2 S2 fun w S3 => S3 = S ∧ ∃ ts, w = .lst (ts.map thgW) ∧ R c ts, fun _ _ => False, fun _ _ => False, fun _ _ => False⟩, fun _ _ => False, fun _ _ => False, fun _ _ => False⟩) :
    FnOk P w K mg base (L2.CX P w) (k + 1) f fd [nm] (conc 1 (asp_makes pre R)) := by
  obtain ⟨oc, od, kV, doc, pm, an, cdv, ct, osl, rfl, lk, hcd⟩ := F.ex
  have ecd : cdv = .ref c0 := hcode
  subst ecd
  refine fn_ofW lk hcd sc (fun vs H Q E h => h.1) fun A outer s H vs Q E s3 hr h I => ?_
  obtain ⟨hl, M, S, ws, Φ, Ψ, r, a, hsp, g, hx⟩ := h
  obtain ⟨wl, rfl, hok, hpre, hΦ⟩ := hsp
  have hpl : 1 ≤ N.length := by
    have e := congrArg List.length sc.pre
    rw [List.length_take] at e
    simp only [List.length_cons, List.length_nil] at e
    omega
  have hN : N[0]? = some nm := by
    have e := sc.pre
    cases N with
    | nil => cases e
    | cons n N =>
      have e : (n :: N).take 1 = [nm] := e
      simp at e
      rw [e]; rfl
  obtain ⟨c, hc⟩ := I.ok.has nm (.inl hcell)
  have hB := hbody A outer s H E hr c hc wl S hpre
  rw [hb]
  refine wpAny_execs_cons (thn (hB.run M _ H r (evok_start a (by rw [hl]; exact hpl)) ExcOk.none ⟨fun σ1 H1 => ∃ M1 E1 S1, Rep M1 H1 S1 ∧ EvOk M1 H1 σ1 E1 ∧ Step M H M1 H1 ∧ _, fun _ _ => False, fun _ _ => False, fun _ _ => False⟩ ⟨fun σ1 E1 M1 S1 H1 p r1 e1 t1 => ⟨M1, E1, S1, r1, e1, t1, p⟩, fun _ _ _ _ _ p => p.elim, fun _ _ _ _ _ p => p.elim, fun _ _ _ _ _ p => p.elim⟩ [] s3 I) fun fl s4 q => ?_)
  cases fl with
  | ret u => obtain ⟨_, _, _, _, _, q⟩ := q; exact False.elim q
  | brk => obtain ⟨_, _, _, q⟩ := q; exact False.elim q
  | cont => obtain ⟨_, _, _, q⟩ := q; exact False.elim q
  | next =>
    obtain ⟨σ1, H1, I1, M1, E1, S1, r1, e1, t1, p1⟩ := q
    refine wpAny_execs_cons (thn (p1.run M1 σ1 H1 r1 e1 ExcOk.none ⟨fun σ2 H2 => ∃ M2 E2 S2, Rep M2 H2 S2 ∧ EvOk M2 H2 σ2 E2 ∧ Step M1 H1 M2 H2 ∧ _, fun _ _ => False, fun _ _ => False, fun _ _ => False⟩ ⟨fun σ2 E2 M2 S2 H2 p r2 e2 t2 => ⟨M2, E2, S2, r2, e2, t2, p⟩, fun _ _ _ _ _ p => p.elim, fun _ _ _ _ _ p => p.elim, fun _ _ _ _ _ p => p.elim⟩ [] s4 I1) fun fl s5 q => ?_)
    cases fl with
    | ret u => obtain ⟨_, _, _, _, _, q⟩ := q; exact False.elim q
    | brk => obtain ⟨_, _, _, q⟩ := q; exact False.elim q
    | cont => obtain ⟨_, _, _, q⟩ := q; exact False.elim q
    | next =>
      obtain ⟨σ2, H2, I2, M2, E2, S2, r2, e2, t2, h0, p2⟩ := q
      refine wpAny_execs_cons (wpAny_Return_some (thn (p2.run M2 σ2 H2 r2 e2 ExcOk.none (fun v H3 => ∃ M3 S3 w, Rep M3 H3 S3 ∧ VW M3 H3 v w ∧ Step M2 H2 M3 H3 ∧ S3 = S ∧ ∃ ts, w = .lst (ts.map thgW) ∧ R c ts) (fun v w M3 S3 H3 p r3 a3 t3 => ⟨M3, S3, w, r3, a3, t3, p⟩) [] s5 I2) fun u s6 q => ?_))
      obtain ⟨v, H3, J, rv, M3, S3, wv, r3, a3, t3, hT, ts, rfl, hR⟩ := q
      have e3 := e2.step t3
      obtain ⟨v0, hv0, a0⟩ := e3.2 0 _ h0
      obtain ⟨a, rfl⟩ : ∃ a, v0 = .ref a := by
        cases a0
        exact ⟨_, rfl⟩
      have nc : H3 c = none := J.freeC nm c hc
      obtain ⟨m, hm, hlook⟩ := J.loc
      obtain ⟨u0, ru0, hlk⟩ := hlook 0 nm (.ref a) hN hv0 (.inr (.inl hcell))
      obtain rfl : u0 = Value.ref a := ru0
      have hcl : s6.heap.IsCell c (some (.ref a)) := by
        rcases hlk with ⟨k1, _⟩ | ⟨_, c2, h2, h3⟩
        · have k1 : (defScope st).names.lookup nm = some .local := k1
          rw [hcell] at k1
          cases k1
        · rw [hc] at h2
          cases h2
          exact h3
      have hok0 : (W.lst wl).ok 60 = true := by simpa [W.ok] using hok
      obtain ⟨objs, kn, tl⟩ := told_of (.lst wl) 60 (.ref a) hok0 a0
      have st4 := step_tmp r3 (ho := CellO c (.ref a)) nc
      have kc : Known M3 (upd H3 c (CellO c (.ref a))) ((c, CellO c (.ref a)) :: objs) := Known.cons ⟨r3.free nc, upd_same, cellO_nt⟩ fun q hq => ⟨(kn q hq).1, by rw [upd_ne (ne_of_none (kn q hq).2.1 nc)]; exact (kn q hq).2.1, (kn q hq).2.2⟩
      obtain ⟨b, vs2, rfl, hl2, a4⟩ : ∃ b vs2, v = .ref b ∧ LQ M3 H3 b vs2 ∧ VWs M3 H3 vs2 (ts.map thgW) := by
        cases a3 with
        | lst q1 q2 => exact ⟨_, _, rfl, q1, q2⟩
      have a5 : VW M3 (upd H3 c (CellO c (.ref a))) (.ref b) (.lst (ts.map (moreT ((c, CellO c (.ref a)) :: objs)))) := .lst (hl2.step st4) (vws_more st4 kc a4)
      have J' : Un (frs outer) [] H H3 s.heap s6.heap := J.base
      have hcb : ∀ b o, s.heap.get? b = some o → b ≠ c := fun b o e z => by
        have h1 := J.ok.cab nm c rfl hc
        have h2 := Heap.lt_size e
        rw [z] at h2
        exact absurd (Nat.lt_of_lt_of_le h2 h1) (Nat.lt_irrefl _)
      refine ⟨.ref b, upd H3 c (CellO c (.ref a)), J.os, J.bare, ⟨J'.keep, J'.slot, fun b o e n hx => ?_, J'.there, fun b xs e => ?_, fun b o u e => ?_, fun b ps e => ?_⟩, hok_more J.hok nc (cellO_ok hcl), rv, ?_⟩
      · rw [upd_ne (hcb b o e)]; exact J'.free b o e n hx
      · have z := J'.tups b xs e
        rw [upd_ne (ne_of_none z nc)]; exact z
      · have z := J'.frzs b o u e
        rw [upd_ne (ne_of_none z nc)]; exact z
      · obtain ⟨more, z⟩ := J'.tbls b ps e
        exact ⟨more, by rw [upd_ne (ne_of_none z nc)]; exact z⟩
      · refine g _ _ M3 S3 _ ?_ (r3.tmp nc) a5 (t1.trans (t2.trans (t3.trans st4)))
        rw [hT]
        exact hΦ c a objs ts hR tl fun q hq => ne_of_none (kn q hq).2.1 nc
theorem DefAt.fnR {P : Program} {w : World} {K : PySem.W.Frag} {mg : Str → Option Value} {base : Heap} {x qual nm : Str} {st s1 s2 : Stmt} {e : Expr} {pos : Pos} {c0 : Addr} {N : List Str} {k : Nat} {pre : Sto → Prop} {R : Addr → List (Addr × List (Addr × HO)) → Prop}
    (D : DefAt K mg x qual st [nm]) (hc : CodeAt K mg x c0) (sc : FnScope N [nm] (defScope st)) (hb : defBody st = [s1, s2, .Return (some e) pos]) (hcell : (defScope st).names.lookup nm = some .cell)
    (hbody : ∀ (f : Addr) (A : Around) (outer : List Env) (s : Shared) (H : Hp) (E : XK), Room k (A.deeper (envOfC qual (defScope st) s.heap.objs.size f (.ref c0))) → ∀ c, (envOfC qual (defScope st) s.heap.objs.size f (.ref c0)).cells.lookup nm = some c → ∀ (wl : List W) (S : Sto), pre S →
      wS (cxOf (L2.CX P w) P w K mg base N qual (defScope st) f (.ref c0) A outer s H E) nox s1 (startW N.length [.lst wl]) S ⟨fun E1 S1 => wS (cxOf (L2.CX P w) P w K mg base N qual (defScope st) f (.ref c0) A outer s H E) nox s2 E1 S1 ⟨fun E2 S2 => E2[0]? = some (some (.lst wl)) ∧
        wE (cxOf (L2.CX P w) P w K mg base N qual (defScope st) f (.ref c0) A outer s H E) nox e E2 S2 fun w S3 => S3 = S ∧ ∃ ts, w = .lst (ts.map thgW) ∧ R c ts, fun _ _ => False, fun _ _ => False, fun _ _ => False⟩, fun _ _ => False, fun _ _ => False, fun _ _ => False⟩) :
    CFn P w K mg base x (k + 1) 1 (asp_makes pre R) := by
  obtain ⟨f, fd, h1, h2, F, B⟩ := D.ex
  have hc' : fd.code = .ref c0 := by
    obtain ⟨oc, od, kV, doc, pm, an, cdv, ct, osl, e, lk, _⟩ := F.ex
    exact hc f fd oc od osl h1 lk
  exact ⟨f, fd, [nm], h1, h2, B, rfl, fn_okR F hc' sc hb hcell (hbody f)⟩

-- AM57
/-! ### calling a lambda whose maker is gone -/
def rmv (H : Hp) (c : Addr) : Hp := fun b => if b = c then none else H b
section
variable {P : Program} {w : World} {M M2 : Lay} {H H2 HZ : Hp} {h : Heap} {b c : Addr} {u : Value} {o : HO}
theorem rmv_same : rmv H c c = none := if_pos rfl
theorem rmv_ne (h : b ≠ c) : rmv H c b = H b := if_neg h
theorem rmv_some (e : rmv H c b = some o) : H b = some o ∧ b ≠ c := by
  by_cases z : b = c
  · rw [z, rmv_same] at e; cases e
  · exact ⟨(rmv_ne z).symm.trans e, z⟩
theorem rmv_none (e : H b = none) : rmv H c b = none := by
  by_cases z : b = c
  · rw [z]; exact rmv_same
  · rw [rmv_ne z]; exact e
theorem ne_cell (hc : H c = some (CellO c u)) (e : H b = some o) (n : ∀ φ, o ≠ .ext φ) : b ≠ c := fun z => by
  subst z
  rw [hc] at e
  exact n _ (Option.some.inj e).symm
theorem hok_rmv (x : HOk P w H h) (hc : H c = some (CellO c u)) : HOk P w (rmv H c) h := fun b v e => by
  obtain ⟨e, hb⟩ := rmv_some e
  exact (x b v e).stay (fun _ _ _ q => q) (fun d q => by rw [rmv_ne (ne_cell hc q fun _ z => nomatch z)]; exact q) fun d xs q => by rw [rmv_ne (ne_cell hc q fun _ z => nomatch z)]; exact q
theorem env0_rmv {K : PySem.W.Frag} {mg : Str → Option Value} {base : Heap} {A : Around} {outer : List Env} {s : Shared} (e0 : Env0 P w K mg base A outer s H) (hc : H c = some (CellO c u)) : Env0 P w K mg base A outer s (rmv H c) :=
  ⟨e0.frames, e0.mod, fun b o e => ⟨(e0.bs b o e).1, rmv_none (e0.bs b o e).2⟩, e0.bsz, e0.funs, fun b hb => rmv_none (e0.frf b hb), hok_rmv e0.hok hc, e0.bare⟩
theorem ce_back {outer : List Env} {s s' : Shared} {Q Q' : VK} {v : Value} (hc : HZ c = some (CellO c u)) (hok : HOk P w HZ s.heap) (hfr : ∀ b ∈ frs outer, HZ b = none) (h : CE outer P w (rmv HZ c) s Q' v s')
    (hQ : ∀ v H', H' c = none → Q' v H' → Q v (upd H' c (CellO c u))) : CE outer P w HZ s Q v s' := by
  obtain ⟨x, H', os, bare, un, hk, rv, q⟩ := h
  obtain ⟨⟨oc, ho, hd⟩, _, _⟩ := hok c _ hc
  have nc : H' c = none := un.free c oc ho rmv_same (by simp)
  have ho' := un.keep c oc ho rmv_same (fun m => by rw [hfr c m] at hc; cases hc) (by simp)
  refine ⟨x, upd H' c (CellO c u), os, bare, ⟨fun b o e n => un.keep b o e (rmv_none n), fun b o e n => un.slot b o e (rmv_none n), fun b o e n hx => ?_, un.there, fun b xs e => ?_, fun b o v e => ?_, fun b ps e => ?_⟩, hok_more hk nc (cellO_ok ⟨oc, ho', hd⟩), rv, hQ x H' nc q⟩
  · have z : b ≠ c := fun z => by rw [z, hc] at n; cases n
    rw [upd_ne z]; exact un.free b o e (rmv_none n) hx
  · have z := ne_cell hc e fun _ z => nomatch z
    rw [upd_ne z]; exact un.tups b xs (by rw [rmv_ne z]; exact e)
  · have z := ne_cell hc e fun _ z => nomatch z
    rw [upd_ne z]; exact un.frzs b o v (by rw [rmv_ne z]; exact e)
  · have z := ne_cell hc e fun _ z => nomatch z
    obtain ⟨more, m⟩ := un.tbls b ps (by rw [rmv_ne z]; exact e)
    exact ⟨more, by rw [upd_ne z]; exact m⟩
theorem cx_back {outer : List Env} {s s' : Shared} {E E' : XK} {v : Value} (hc : HZ c = some (CellO c u)) (hok : HOk P w HZ s.heap) (hfr : ∀ b ∈ frs outer, HZ b = none) (h : L2.CX P w outer (rmv HZ c) s E' v s')
    (hE : ∀ cls d H', H' c = none → E' cls d H' → E cls d (upd H' c (CellO c u))) : L2.CX P w outer HZ s E v s' := by
  obtain ⟨a, B, H', cls, d, rfl, fl, hk, ub, na, os, bare, q⟩ := h
  obtain ⟨⟨oc, ho, hd⟩, _, _⟩ := hok c _ hc
  have nc : H' c = none := ub.free c oc ho rmv_same
  have ho' := ub.keep c oc ho rmv_same fun m => by rw [hfr c m] at hc; cases hc
  have hac : a ≠ c := fun z => by
    have z2 := fl.2.1
    rw [z, ho'] at z2
    cases z2
  refine ⟨a, B, upd H' c (CellO c u), cls, d, rfl, fl, hok_more hk nc (cellO_ok ⟨oc, ho', hd⟩), ⟨fun b o e n => ub.keep b o e (rmv_none n), ub.slot, fun b o e n => ?_, ub.there, fun b xs e => ?_, fun b o v e => ?_, fun b ps e => ?_⟩, by rw [upd_ne hac]; exact na, os, bare, hE cls d H' nc q⟩
  · have z : b ≠ c := fun z => by rw [z, hc] at n; cases n
    rw [upd_ne z]; exact ub.free b o e (rmv_none n)
  · have z := ne_cell hc e fun _ z => nomatch z
    rw [upd_ne z]; exact ub.tups b xs (by rw [rmv_ne z]; exact e)
  · have z := ne_cell hc e fun _ z => nomatch z
    rw [upd_ne z]; exact ub.frzs b o v (by rw [rmv_ne z]; exact e)
  · have z := ne_cell hc e fun _ z => nomatch z
    obtain ⟨more, m⟩ := ub.tbls b ps (by rw [rmv_ne z]; exact e)
    exact ⟨more, by rw [upd_ne z]; exact m⟩
/-! the abstract store without the cell -/
mutual
def W.nt : W → Bool
  | .tup ws => W.nts ws | .lst ws => W.nts ws | .thg _ _ => false | .xi _ _ _ _ => false | _ => true
def W.nts : List W → Bool
  | [] => true
  | w :: ws => w.nt && W.nts ws
end
def O.nt : O → Bool
  | .lst ws => W.nts ws | .dk kvs => kvs.all fun p => p.2.nt | .dt kvs => kvs.all fun p => p.2.nt | .ins _ fs => fs.all fun p => p.2.nt | _ => true
def Snt (S : Sto) : Prop := ∀ o ∈ S, o.nt = true
mutual
theorem vw_rmv (hc : H c = some (CellO c u)) : ∀ (w : W) (v : V), w.nt = true → VW M H v w → VW M (rmv H c) v w
  | .non, _, _, h => by cases h; exact .non
  | .bl b, _, _, h => by cases h; exact .bl b
  | .int i, _, _, h => by cases h; exact .int i
  | .str x, _, _, h => by cases h; exact .str x
  | .tup ws, _, n, h => by
    cases h with
    | tup q r => exact .tup ⟨by rw [rmv_ne (ne_cell hc q.1 fun _ z => nomatch z)]; exact q.1, q.2⟩ (vws_rmv hc ws _ (by simpa [W.nt] using n) r)
  | .lst ws, _, n, h => by
    cases h with
    | lst q r => exact .lst ⟨by rw [rmv_ne (ne_cell hc q.1 fun _ z => nomatch z)]; exact q.1, q.2⟩ (vws_rmv hc ws _ (by simpa [W.nt] using n) r)
  | .ref k, _, _, h => by
    cases h with
    | ref q => exact .ref q
  | .raw v, _, _, h => by cases h; exact .raw v
  | .scr _ ns, _, _, h => by
    cases h with
    | scr q =>
      refine .scr ?_
      rcases q with ⟨q, o⟩ | q
      · refine .inl ⟨?_, o⟩
        rcases q with q | ⟨ob, q⟩
        · exact .inl (by rw [rmv_ne (ne_cell hc q fun _ z => nomatch z)]; exact q)
        · exact .inr ⟨ob, by rw [rmv_ne (ne_cell hc q fun _ z => nomatch z)]; exact q⟩
      · exact .inr q
  | .xi _ _ _ _, _, n, _ => by simp [W.nt] at n
  | .thg _ _, _, n, _ => by simp [W.nt] at n
theorem vws_rmv (hc : H c = some (CellO c u)) : ∀ (ws : List W) (vs : List V), W.nts ws = true → VWs M H vs ws → VWs M (rmv H c) vs ws
  | [], _, _, h => by cases h; exact .nil
  | w :: ws, _, n, h => by
    simp only [W.nts, Bool.and_eq_true] at n
    cases h with
    | cons a b => exact .cons (vw_rmv hc w _ n.1 a) (vws_rmv hc ws _ n.2 b)
end
theorem pvw_rmv {κ : Type} (hc : H c = some (CellO c u)) : ∀ {ws : List (κ × W)} {vs : List (κ × V)}, (ws.all fun p => p.2.nt) = true → PVW M H vs ws → PVW M (rmv H c) vs ws
  | _, _, _, .nil => .nil
  | q :: ws, p :: vs, n, .cons r t => by
    rw [List.all_cons, Bool.and_eq_true] at n
    exact .cons ⟨r.1, vw_rmv hc _ _ n.1 r.2⟩ (pvw_rmv hc n.2 t)
theorem code_ne {s : Heap} {q : Str} {d : Addr} (hok : HOk P w H s) (hc : H c = some (CellO c u)) (hd : H d = some (LamX.CodeO d q)) : d ≠ c := fun z => by
  subst z
  obtain ⟨⟨o1, e1, d1⟩, _, _⟩ := hok d _ hc
  obtain ⟨⟨o2, vs, t, e2, d2, _⟩, _, _⟩ := hok d _ hd
  rw [e1] at e2
  cases e2
  rw [d1] at d2
  cases d2
theorem rep_rmv {S : Sto} {s : Heap} (r : Rep M H S) (hok : HOk P w H s) (hc : H c = some (CellO c u)) (mo : M.out c) (nt : Snt S) : Rep M (rmv H c) S := by
  refine ⟨r.nd, r.len, fun k p o h1 h2 => ?_, fun p hp => ⟨?_, (r.hid p hp).2⟩, r.tb⟩
  · obtain ⟨ho, e, b⟩ := r.at_ k p o h1 h2
    have n := nt o (List.mem_of_getElem? h2)
    have pc : p ≠ c := fun z => mo.1 (by rw [← z]; exact List.mem_of_getElem? h1)
    refine ⟨ho, by rw [rmv_ne pc]; exact e, ?_⟩
    cases b with
    | lst a => exact .lst (vws_rmv hc _ _ n a)
    | dk a => exact .dk (pvw_rmv hc n a)
    | dt a => exact .dt (pvw_rmv hc n a)
    | ins a => exact .ins (pvw_rmv hc n a)
    | row a =>
      obtain ⟨v, ns, i, z, e, a, q⟩ := a
      exact .row ⟨v, ns, i, z, e, vw_rmv hc _ _ rfl a, q⟩
    | any m n2 => exact .any m n2
    | tab t q =>
      refine .tab t fun pos cv e => ?_
      obtain ⟨d, h1, h2, h3⟩ := q pos cv e
      exact ⟨d, h1, h2, by rw [rmv_ne (code_ne hok hc h3)]; exact h3⟩
  · have pc : p ≠ c := fun z => mo.2 (by rw [← z]; exact hp)
    rw [rmv_ne pc]; exact (r.hid p hp).1
theorem step_back {S2 : Sto} (s : Step M (rmv H c) M2 H2) (r2 : Rep M2 H2 S2) (hc : H c = some (CellO c u)) (nc : H2 c = none) : Step M H M2 (upd H2 c (CellO c u)) where
  pre := s.pre
  new := fun p h n => by
    by_cases z : p = c
    · subst z; exact absurd nc (r2.alive h)
    · have := s.new p h n
      rw [rmv_ne z] at this; exact this
  keep := fun a o h nt m => by
    by_cases z : a = c
    · subst z; rw [upd_same, ← hc]; exact h
    · rw [upd_ne z]; exact s.keep a o (by rw [rmv_ne z]; exact h) nt m
  tbl := fun a ps m h => by
    have z := ne_cell hc h fun _ z => nomatch z
    rw [upd_ne z]; exact s.tbl a ps m (by rw [rmv_ne z]; exact h)
  there := fun a m h => by
    by_cases z : a = c
    · subst z; rw [upd_same]; exact fun z => nomatch z
    · rw [upd_ne z]; exact s.there a m (by rw [rmv_ne z]; exact h)
  old := s.old
  hold := s.hold
end
/-! the body's context -/
def cloSc (nm : Str) : Scope := { kind := .function, names := [(nm, .cell)], isGenerator := false, isCoroutine := false }
def cloCx (X : Cx) (q nm : Str) (c : Addr) : Cx := { X with N := [nm], env := { X.env with scope := cloSc nm, cells := [(nm, c)], qual := q } }
section
variable {X : Cx}
theorem clo_start {q nm : Str} {c f c' : Addr} {u : Value} {v : V} {A : Around} {outer : List Env} {E : XK} {scope : Scope} {h₁ : Heap} {tk : Nat} {binds : List (Str × Value)} {s1 : Shared} {HZ : Hp} (L : LamV [nm] (cloSc nm) scope) (e0 : Env0 X.prog X.w X.K X.mg X.base A outer s1 HZ) (hd : A.handled = none)
    (hc : HZ c = some (CellO c u)) (rv : RelV v u) (hns : h₁.Ns s1.heap.objs.size fun y => binds.reverse.lookup y) (kp : ∀ b o, s1.heap.get? b = some o → h₁.get? b = some o) :
    Inv (LamX.lamCx (cloCx X q nm c) A outer s1 (rmv HZ c) E scope f c') [] [some v] (rmv HZ c) { s1 with heap := h₁, toks := tk } := by
  have one : ∀ {y k}, (cloSc nm).names.lookup y = some k → y = nm := fun {y k} e => by
    have e : ([(nm, NameKind.cell)] : List (Str × NameKind)).lookup y = some k := e
    have m := PySem.mem_of_lookup e
    have := List.mem_singleton.mp m
    exact congrArg Prod.fst this
  have cm : ∀ {y c1}, (cloFrom ([(nm, c)] : List (Str × Addr)) scope.names []).lookup y = some c1 → y = nm ∧ c1 = c := fun {y c1} e => by
    rcases cloFrom_mem (PySem.mem_of_lookup e) with hm | ⟨h1, h2⟩
    · cases hm
    · have hy : y = nm := (L.free _ h1 rfl).elim one one
      refine ⟨hy, ?_⟩
      rw [hy] at h2
      rw [h2]
      show (([(nm, c)] : List (Str × Addr)).lookup nm).getD 0 = c
      rw [List.lookup_cons_self]; rfl
  have look : ∀ {y}, scope.names.lookup y = some .free → ∃ c1, (cloFrom ([(nm, c)] : List (Str × Addr)) scope.names []).lookup y = some c1 := fun {y} hl => by
    have hy : (y, NameKind.free) ∈ scope.names := PySem.mem_of_lookup hl
    exact mem_lookup (cloFrom_has (cells := [(nm, c)]) (acc := []) hy)
  obtain ⟨ic, _, _⟩ := e0.hok c _ hc
  have ic1 : h₁.IsCell c (some u) := by
    obtain ⟨o, ho, hdt⟩ := ic
    exact ⟨o, kp _ _ ho, hdt⟩
  have e1 := env0_rmv e0 hc
  have noA : ∀ b : Addr, b ∉ (LamX.lamCx (cloCx X q nm c) A outer s1 (rmv HZ c) E scope f c').ex := fun b z => absurd (show b ∈ ([] : List Addr) from z) (by simp)
  refine ⟨⟨e1.mod, L.kind, rfl, rfl, Nat.le_refl _, fun y z c1 h1 h2 => (cm h1).1.trans (cm h2).1.symm, fun y hy => ?_, fun y c z _ => ?_, fun _ => hd, Around.frames_deeper e1.frames, .inr ⟨rfl, rfl⟩, fun b z => absurd z (noA b), e1.bs, e1.bsz, fun b _ _ => noA b,
      fun b z => absurd z (noA b), e1.funs, e1.frf⟩,
    rfl, e1.bare, Un.kept kp, ⟨_, hns, fun i y v' k1 k2 k3 => ?_⟩, fun y c1 e => ?_, e1.hok.fresh (Nat.le_refl _), fun y c1 e => ?_, fun q hq => absurd (show q ∈ ([] : List (Addr × Obj)) ++ [] from hq) (by simp), e1.hok.kept kp, rfl⟩
  · have hy : scope.names.lookup y = some .cell ∨ scope.names.lookup y = some .free := hy
    rcases hy with hy | hy
    · exact absurd rfl (L.own _ (PySem.mem_of_lookup hy)).1
    · exact look hy
  · have z : false = true := z
    cases z
  · have k3 : Vis scope y := k3
    have k1 : ([nm] : List Str)[i]? = some y := k1
    have hy : y = nm := by
      have := List.mem_of_getElem? k1
      exact List.mem_singleton.mp this
    have hi : i = 0 := by
      have := (List.getElem?_eq_some_iff.mp k1).1
      simp at this; exact this
    subst hi
    have k2 : some (some v) = some (some v') := k2
    cases k2
    rcases k3 with k | k | k
    · exact absurd (List.mem_of_getElem? k1) ((L.own _ (PySem.mem_of_lookup k)).2 rfl)
    · exact absurd rfl (L.own _ (PySem.mem_of_lookup k)).1
    · obtain ⟨c2, h2⟩ := look k
      obtain ⟨_, rfl⟩ := cm h2
      exact ⟨u, rv, .inr ⟨.inr k, c2, h2, ic1⟩⟩
  · obtain ⟨_, rfl⟩ := cm e
    exact ⟨_, ic1⟩
  · obtain ⟨_, rfl⟩ := cm e
    exact rmv_same
/-- x(), in the def that got the lambda -/
theorem pe_actG {CXg : CXT} {Eg : XK} {Ng : List Str} {qg q nm : Str} {sg : Scope} {g f c c' : Addr} {u : Value} {v : V} {cdg : Value} {params : Arguments} {body : Expr} {scope : Scope} {k i : Nat} {a : Str} {pn : List (Addr × Obj)} {xe : Value → Shared → Prop} {W : WX} {E : XK} {tb : TE} {p1 p2 : Pos} {dv : Option (Addr × Int)} {s : Shared} {H : Hp}
    (L : LamV [nm] (cloSc nm) scope) (hbind : LamB params body scope dv) (rv : RelV v u)
    (tk : Takes ((cxOf CXg X.prog X.w X.K X.mg X.base Ng qg sg g cdg X.A X.stack s H Eg).tr pn xe) W) (hW : ∀ cls d σ' H', E cls d H' → W cls d σ' H') (hr : Room (k + 1) (X.A.deeper (envOfC qg sg s.heap.objs.size g cdg)))
    (hbody : ∀ (A : Around) (outer : List Env) (s0 : Shared) (H0 : Hp), Room k (A.deeper (LamX.lamEnv (cloCx X q nm c) scope s0.heap.objs.size f c')) → PE (LamX.lamCx (cloCx X q nm c) A outer s0 H0 (fun cls d H' => H' c = none → E cls d (upd H' c (CellO c u))) scope f c') body tb)
    (hN : Ng[i]? = some a) (hv : Vis sg a) (hd : (a == ("__debug__" : Str)) = false := by decide) (hcd : (a == ("__classdict__" : Str)) = false := by decide) :
    PE ((cxOf CXg X.prog X.w X.K X.mg X.base Ng qg sg g cdg X.A X.stack s H Eg).tr pn xe) (.Call (.Name a p1) [] [] p2)
      (fun σZ HZ Q => σZ[i]? = some (some (.ref f)) ∧ HZ f = some (FunO f (q ++ "<lambda>") params body scope (cloFrom [(nm, c)] scope.names []) (dvV dv) c') ∧ HZ c' = some (LamX.CodeO c' (q ++ "<lambda>")) ∧ (∀ t j, dv = some (t, j) → HZ t = some (.tup [.int j])) ∧ HZ c = some (CellO c u) ∧ tb [some v] (rmv HZ c) fun v' H' => H' c = none → Q v' (upd H' c (CellO c u))) := by
  refine ⟨fun pinsZ sZ σZ HZ Q IZ h => ?_⟩
  obtain ⟨hs, hf, hc', hdv, hc, ht⟩ := h
  refine wpAny_Call_Name_kw (thn ((pe_var (pos := p1) (i := i) hN hv hd hcd).run pinsZ sZ σZ HZ (fun v H1 => v = .ref f ∧ H1 = HZ) IZ ⟨.ref f, hs, rfl, rfl⟩) fun uf s1 ⟨vf, H1, I1, r1, q1⟩ => ?_)
  obtain ⟨ev, eH⟩ := q1
  subst ev
  rw [eH] at I1
  obtain rfl : uf = Value.ref f := r1
  obtain ⟨⟨doc, pm, ctv, of1⟩, _, _⟩ := I1.hok f _ hf
  refine PySem.W.callWith_F0 ⟨_, _, _, _, of1⟩ ?_
  obtain ⟨⟨oc, vs, t, hoc, hdc, hvc⟩, _, _⟩ := I1.hok c' _ hc'
  obtain ⟨binds, hb, hbl⟩ : ∃ binds, BindsTo s1 (PySem.W.kdv_fn "<lambda>" (q ++ "<lambda>") params (.expr body) scope (cloFrom [(nm, c)] scope.names []) (dvV dv) doc pm (.ref c') ctv) ⟨[], []⟩ binds ∧ ∀ y ∈ binds, scope.names.lookup y.1 = some .local := by
    cases dv with
    | none => exact ⟨[], BindsTo.of_eq (hbind _ _ _ _ _ _), fun y hy => absurd hy (by simp)⟩
    | some ti =>
      obtain ⟨t, j⟩ := ti
      obtain ⟨pa, hl, hk⟩ := hbind
      obtain ⟨kk, e1, e2⟩ := hk (q ++ "<lambda>") (cloFrom [(nm, c)] scope.names []) doc pm (.ref c') ctv
      obtain ⟨_, its, rvs, o, ho, hcl, n, hdat⟩ := I1.hok t _ (hdv t j rfl)
      obtain ⟨u, rfl, ru⟩ := rvs.one
      refine ⟨[(pa, u)], BindsTo.of_defaults (T := t) rfl ho hdat e1 (e2 u), fun y hy => ?_⟩
      rw [List.mem_singleton.mp hy]
      exact hl
  have rc0 : codeAny (model X.prog X.w) (X.A.deeper (envOfC qg sg s.heap.objs.size g cdg)) (.call (.ref f) ⟨[], []⟩) (CR (L2.CX X.prog X.w) (envOfC qg sg s.heap.objs.size g cdg :: X.stack) X.prog X.w (rmv HZ c) s1 (fun v' H' => H' c = none → Q v' (upd H' c (CellO c u))) (fun cls d H' => H' c = none → E cls d (upd H' c (CellO c u)))) s1 := by
    refine PySem.W.kla_callFunE hr.depth of1 rfl L.co L.gen rfl ⟨c', oc, vs, t, rfl, hoc, hdc, hvc⟩ (hb _ _ _ _ ?_)
    refine wpAny_newFunctionEnv (fun y hy => (L.own y hy).1) hbl (fun h₁ hns hsb => ⟨I1.nolimit.fresh _ hsb, ?_⟩) L.kind
    show codeAny _ _ (.expr body (LamX.lamEnv (cloCx X q nm c) scope s1.heap.objs.size f c')) _ _
    have kp : ∀ b o, s1.heap.get? b = some o → h₁.get? b = some o := fun b o e => hsb.extBut b o (Nat.ne_of_lt (Heap.lt_size e)) (Heap.get?_push_of_some _ e)
    have J : Inv (LamX.lamCx (cloCx X q nm c) (X.A.deeper (envOfC qg sg s.heap.objs.size g cdg)) (envOfC qg sg s.heap.objs.size g cdg :: X.stack) s1 (rmv HZ c) (fun cls d H' => H' c = none → E cls d (upd H' c (CellO c u))) scope f c') [] [some v] (rmv HZ c) { s1 with heap := h₁, toks := s1.toks + binds.length } :=
      clo_start L I1.env0 hr.hd hc rv hns kp
    refine PySem.W.kla_codeExpr (wpAny_mono ((hbody _ _ s1 (rmv HZ c) (hr.deeper _)).run [] _ _ (rmv HZ c) (fun v' H' => H' c = none → Q v' (upd H' c (CellO c u))) J ht) (fun v s' hq => ?_) fun e s' hq => hq)
    obtain ⟨w', H', J', rv, q⟩ := hq
    exact ⟨w', H', J'.os, J'.bare, J'.base, J'.hok, rv, q⟩
  have rc : codeAny (model X.prog X.w) (X.A.deeper (envOfC qg sg s.heap.objs.size g cdg)) (.call (.ref f) ⟨[], []⟩) (CR (L2.CX X.prog X.w) (envOfC qg sg s.heap.objs.size g cdg :: X.stack) X.prog X.w HZ s1 Q E) s1 := by
    refine codeAny_mono rc0 fun r s' hq => ?_
    cases r with
    | error e => exact cx_back hc I1.hok I1.env0.frf hq fun _ _ _ n z => z n
    | ok fl =>
      cases fl with
      | ret u => exact ce_back hc I1.hok I1.env0.frf hq fun _ _ n z => z n
      | next => exact False.elim hq
      | brk => exact False.elim hq
      | cont => exact False.elim hq
  have hx : Passes (L2.CX X.prog X.w) ((cxOf CXg X.prog X.w X.K X.mg X.base Ng qg sg g cdg X.A X.stack s H Eg).tr pn xe) E := passes_call tk hW
  refine wpAny_call (codeAny_mono rc fun r s' hq => ?_)
  cases r with
  | error e => exact hx pinsZ σZ HZ s1 e s' I1 hq
  | ok fl =>
    cases fl with
    | ret u => exact I1.after hq
    | next => exact False.elim hq
    | brk => exact False.elim hq
    | cont => exact False.elim hq
end

-- AM58
section
variable {X : Cx} {Ψ : AX} {E : AEnv} {S : Sto} {Φ : W → Sto → Prop}
/-- the value of a lambda whose maker is gone -/
def cloFs (f d c a : Addr) (q nm : Str) (pr : Arguments) (bd : Expr) (sc : Scope) (dv : Option (Addr × Int)) (objs : List (Addr × HO)) : List (Addr × HO) :=
  lamFs f d (q ++ "<lambda>") pr bd sc (cloFrom [(nm, c)] sc.names []) dv ++ ((c, CellO c (.ref a)) :: objs)
/-- the lambda w, what it does, what the def x makes of it -/
def sLamG (X : Cx) (k i : Nat) (x : Str) (st b0 : Stmt) (Ng : List Str) (suite rest : List Stmt) (cE : Value) (w : W) (S : Sto) (Φ : W → Sto → Prop) : Prop :=
  ∃ (f d c a : Addr) (dv : Option (Addr × Int)) (pr : Arguments) (bd : Expr) (sc : Scope) (q nm : Str) (objs : List (Addr × HO)) (wl : W) (Ψ1 : AX) (Φ1 : W → Sto → Prop),
    w = .thg f (cloFs f d c a q nm pr bd sc dv objs) ∧ LamV [nm] (cloSc nm) sc ∧ LamB pr bd sc dv ∧ Told objs (.ref a) wl ∧ (∀ z ∈ objs, z.1 ≠ c) ∧ Snt S ∧
    (∀ (A : Around) (outer : List Env) (s0 : Shared) (H0 : Hp) (Ech : XK), Room k (A.deeper (LamX.lamEnv (cloCx X q nm c) sc s0.heap.objs.size f d)) → wE (LamX.lamCx (cloCx X q nm c) A outer s0 H0 Ech sc f d) Ψ1 bd [some wl] S Φ1) ∧
    (∀ (g : Addr) (cdv : Value) (s1 : Shared) (H1 : Hp) (w : W) (S2 : Sto), Room (k + 1) (X.A.deeper (envOfC x (defScope st) s1.heap.objs.size g cdv)) → Φ1 w S2 →
      wB (zCx X Ng x st g cdv s1 H1) nox rest (startW Ng.length [.raw (.ref f)]) S2 ⟨fun _ S3 => Φ .non S3, Φ, fun _ _ => False, fun _ _ => False⟩) ∧
    (∀ (cls : Value) (fs : List (Str × W)) (E2 : AEnv) (S2 : Sto), Ψ1 cls fs E2 S2 → PySem.W.exmOne X.K cls cE = some true ∧
      ∀ (g : Addr) (cdv : Value) (s1 : Shared) (H1 : Hp) (aE : Addr) (oe : Obj) (dd : Option Addr) (pn : List (Addr × Obj)), Room (k + 1) (X.A.deeper (envOfC x (defScope st) s1.heap.objs.size g cdv)) → Zc cls dd oe → (∃ vs, oe.data = .fields vs) → (fs = [] → dd = none) → (fs ≠ [] → ∃ d, dd = some d) →
        wB ((zCx X Ng x st g cdv s1 H1).suite aE ((aE, oe) :: pn)) nox (b0 :: suite) ((List.replicate Ng.length none).set i (some (exW aE dd fs))) S2 ⟨fun _ _ => False, Φ, fun _ _ => False, fun _ _ => False⟩)
theorem xd_more {M : Lay} {H : Hp} {S : Sto} {c : Addr} {o : HO} (r : Rep M H S) (nc : H c = none) {dd : Option Addr} {fs : List (Str × W)} (xd : Xd M H dd fs) : Xd M (upd H c o) dd fs := by
  cases dd with
  | none => exact xd
  | some d =>
    obtain ⟨h1, h2, kvs, h3, h4⟩ := xd
    exact ⟨h1, h2, kvs, by rw [upd_ne (ne_of_none h3 nc)]; exact h3, PVW.step (step_tmp r nc) h4⟩
theorem word_codeG {k i : Nat} {x a xn en : Str} {st b0 : Stmt} {Ng : List Str} {suite rest : List Stmt} {cE : Value} {q1 q2 q3 q4 q5 np : Pos}
    (hbg : defBody st = .Try [.Expr (.Call (.Name a q1) [] [] q2) q3] [.ExceptHandler (some (.Name xn np)) (some en) (b0 :: suite) q4] [] [] q5 :: rest)
    (scg : FnScope Ng [a] (defScope st)) (hNa : Ng[0]? = some a) (hva : Vis (defScope st) a) (hNe : Ng[i]? = some en) (hi : i < Ng.length) (hke : (defScope st).names.lookup en = some .local)
    (gxn : (defScope st).names.lookup xn = some .globalImplicit) (hxn : X.mg xn = some cE) (dxn : (xn == ("__debug__" : Str)) = false) (hr : Room (k + 2) X.A)
    {g f : Addr} {oc kV doc pm cdv ct : Value} {od an : Option Addr} {osl : Array (Option Value)} (lk : X.K.lookup g = some ⟨oc, od, .func (PySem.W.fnOf x x (defArgs st) (defBody st) (defScope st) .none kV doc pm an cdv ct), osl⟩) (hcd : PySem.W.codeIn X.K cdv x = true)
    (hb : L2.Binds X.K (PySem.W.fnOf x x (defArgs st) (defBody st) (defScope st) .none kV doc pm an cdv ct) [a] []) {M1 : Lay} {H1 : Hp} {σ : L2.St} {s1 : Shared} {S1 : Sto} {pins : List (Addr × Obj)} {Q : VK}
    (I1 : L2.Inv X pins σ H1 s1) (r1 : Rep M1 H1 S1) (qq : Got M1 H1 Φ Q) (w : W) (hL : sLamG X k i x st b0 Ng suite rest cE w S1 Φ) (a1 : VW M1 H1 (.ref f) w)
    (hda : (a == ("__debug__" : Str)) = false := by decide) (hca : (a == ("__classdict__" : Str)) = false := by decide) :
    codeAny (model X.prog X.w) X.A (.call (.ref g) ⟨[.ref f], []⟩) (CR C8.CX0 X.stack X.prog X.w H1 s1 Q C8.E0) s1 := by
  obtain ⟨f', d, c, al, dv, pr, bd, sc, q, nm, objs, wl, Ψ1, Φ1, rfl, L, hbind, tl, nq, hnt, hbody, hok, hexc⟩ := hL
  cases a1 with
  | thg fsOk =>
  have hfo : H1 f = some (FunO f (q ++ "<lambda>") pr bd sc (cloFrom [(nm, c)] sc.names []) (dvV dv) d) := (fsOk _ List.mem_cons_self).2.1
  have hco : H1 d = some (LamX.CodeO d (q ++ "<lambda>")) := (fsOk _ (List.mem_cons_of_mem _ List.mem_cons_self)).2.1
  have htu : ∀ t j, dv = some (t, j) → H1 t = some (.tup [.int j]) := fun t j e => by
    subst e
    exact (fsOk (t, .tup [.int j]) (List.mem_cons_of_mem _ (List.mem_cons_of_mem _ List.mem_cons_self))).2.1
  have hcl := fsOk (c, CellO c (.ref al)) (List.mem_append_right _ List.mem_cons_self)
  have hc : H1 c = some (CellO c (.ref al)) := hcl.2.1
  have hobj : ∀ z ∈ objs, M1.out z.1 ∧ rmv H1 c z.1 = some z.2 := fun z hz => by
    have := fsOk z (List.mem_append_right _ (List.mem_cons_of_mem _ hz))
    exact ⟨this.1, by rw [rmv_ne (nq z hz)]; exact this.2.1⟩
  have aL : VW M1 (rmv H1 c) (.ref al) wl := tl M1 (rmv H1 c) hobj
  have evL : EvOk M1 (rmv H1 c) [some (.ref al)] [some wl] := ⟨rfl, fun j w hj => by
    match j, hj with
    | 0, hj => cases hj; exact ⟨_, rfl, aL⟩⟩
  have rL : Rep M1 (rmv H1 c) S1 := rep_rmv r1 I1.hok hc hcl.1 hnt
  refine LamX.run_ofS (N := Ng) (ps := [a]) (us := [.ref f]) (vs := [.ref f]) lk hcd scg hr I1.env0 (hb s1 [.ref f] I1.kIn rfl) (.cons rfl .nil) rfl fun hr' => ?_
  have hgl : Gl (zCx X Ng x st g cdv s1 H1) xn := gxn
  have ptry := ps_try_as (X := zCx X Ng x st g cdv s1 H1) (x := xn) (n := en) (c := cE) (i := i) (np := np) (pos := q5) (pos' := q4) (b₀ := b0) (suite := suite) (body := [.Expr (.Call (.Name a q1) [] [] q2) q3])
    (tb := fun W D σZ HZ => ∃ Ech : XK, (∀ cls dd σ' H', Ech cls dd H' → W cls dd σ' H') ∧ σZ[0]? = some (some (.ref f)) ∧ HZ f = some (FunO f (q ++ "<lambda>") pr bd sc (cloFrom [(nm, c)] sc.names []) (dvV dv) d) ∧ HZ d = some (LamX.CodeO d (q ++ "<lambda>")) ∧ (∀ t j, dv = some (t, j) → HZ t = some (.tup [.int j])) ∧ HZ c = some (CellO c (.ref al)) ∧
      tLm (cloCx X q nm c) sc bd k f d [some (.ref al)] (fun cls dd H' => H' c = none → Ech cls dd (upd H' c (CellO c (.ref al)))) (rmv HZ c) fun _ H' => H' c = none → D.nx σZ (upd H' c (CellO c (.ref al))))
    (ts := fun aE cls dd D σZ HZ => ∀ (oe : Obj) (pn : List (Addr × Obj)), Zc cls dd oe → (∃ vs, oe.data = .fields vs) → semB ((zCx X Ng x st g cdv s1 H1).suite aE ((aE, oe) :: pn)) (b0 :: suite) D σZ HZ)
    rfl rfl scg.nd hNe hke ⟨hgl, dxn, .inl hxn⟩ takes0 (fun W pn xe tk _ => by
      refine ⟨fun pins s' σZ HZ D I2 h' => ?_⟩
      obtain ⟨Ech, hW, z1, z2, z3, z4, z5, z6⟩ := h'
      have hp := pe_actG (CXg := C8.CX0) (Eg := C8.E0) (Ng := Ng) (qg := x) (sg := defScope st) (g := g) (cdg := cdv) (v := .ref al) (tb := fun σ' H' Q' => tLm (cloCx X q nm c) sc bd k f d σ' (fun cls dd H' => H' c = none → Ech cls dd (upd H' c (CellO c (.ref al)))) H' Q') (p1 := q1) (p2 := q2) (i := 0) (pn := pn) (xe := xe) L hbind rfl tk hW hr' (fun A outer s0 H0 hr2 => ⟨fun pins s2 σ2 H2 Q2 I3 h3 => h3 A outer s0 H0 hr2 pins s2 I3⟩) hNa hva hda hca
      exact (pss_one (ps_expr hp)).run pins s' σZ HZ D I2 ⟨z1, z2, z3, z4, z5, z6⟩)
    (fun aE oe cls dd pn hz hf2 => ⟨fun pins s' σZ HZ D I2 h' => h' oe pn hz hf2 pins s' I2⟩)
  rw [hbg]
  have len1 : 1 ≤ Ng.length := by
    have := (List.getElem?_eq_some_iff.mp hNa).1
    omega
  have evs : ∀ {M2 : Lay} {H2 : Hp}, EvOk M2 H2 (L2.start Ng [.ref f]) (startW Ng.length [.raw (.ref f)]) := evok_start (.cons (.raw _) .nil) len1
  refine ⟨_, (pss_cons ptry (pss_sem (sts := rest))).nox, fun cls dd H' => ∃ (fs : List (Str × W)) (S2 : Sto) (M2 : Lay), (∃ E2, Ψ1 cls fs E2 S2) ∧ Rep M2 H' S2 ∧ Xd M2 H' dd fs ∧ Step M1 H1 M2 H', ?_, ?_, hfo, hco, htu, hc, ?_⟩
  · rintro cls dd σ' H' ⟨fs, S2, M2, ⟨E2, p2⟩, r2, xd, s2⟩
    obtain ⟨ex, hx⟩ := hexc cls fs E2 S2 p2
    refine ⟨true, ex, fun _ aE ha oe pn hz hf2 pins3 s3 I3 => ?_, fun z => nomatch z⟩
    have hdd : fs = [] → dd = none := fun e => by
      cases dd with
      | none => rfl
      | some z => exact absurd e xd.1
    have hds : fs ≠ [] → ∃ d, dd = some d := fun e => by
      cases dd with
      | none => exact absurd xd e
      | some z => exact ⟨z, rfl⟩
    have ln : (σ'.set i (some (V.ref aE))).length = Ng.length := I3.len
    have evh : EvOk M2 H' (σ'.set i (some (V.ref aE))) ((List.replicate Ng.length none).set i (some (exW aE dd fs))) := by
      refine ⟨by rw [ln, List.length_set, List.length_replicate], fun j w hj => ?_⟩
      by_cases e : i = j
      · subst e
        rw [List.getElem?_set_self (by rw [List.length_replicate]; exact hi)] at hj
        cases hj
        refine ⟨_, List.getElem?_set_self ?_, exw_vw xd⟩
        rw [List.length_set] at ln
        omega
      · rw [List.getElem?_set_ne e, List.getElem?_replicate] at hj
        split at hj <;> cases hj
    exact (hx g cdv s1 H1 aE oe dd pn hr' hz hf2 hdd hds).run M2 _ H' r2 evh ExcOk.none _ ⟨fun _ _ _ _ _ z => z.elim, qq.step s2, fun _ _ _ _ _ z => z.elim, fun _ _ _ _ _ z => z.elim⟩ pins3 s3 I3
  · obtain ⟨v, h1, h2⟩ := (evs (M2 := M1) (H2 := H1)).2 0 (.raw (.ref f)) (by unfold startW; rfl)
    cases h2
    exact h1
  · intro A outer s0 H0 hrL
    refine (hbody A outer s0 H0 _ hrL).run M1 _ (rmv H1 c) rL evL ?_ _ ?_
    · exact ⟨fun cls dd _ H' => H' c = none → ∃ (fs : List (Str × W)) (S2 : Sto) (M2 : Lay), (∃ E2, Ψ1 cls fs E2 S2) ∧ Rep M2 (upd H' c (CellO c (.ref al))) S2 ∧ Xd M2 (upd H' c (CellO c (.ref al))) dd fs ∧ Step M1 H1 M2 (upd H' c (CellO c (.ref al))), takes_of rfl rfl rfl rfl, fun cls fs E2 S2 M2 H2 dd σ2 p2 r2 _ xd s2 nc => ⟨fs, S2, M2, ⟨E2, p2⟩, r2.tmp nc, xd_more r2 nc xd, step_back s2 r2 hc nc⟩⟩
    intro v w M2 S2 H2 p2 r2 _ s2 nc
    have sb := step_back s2 r2 hc nc
    exact (hok g cdv s1 H1 w S2 hr' p2).run M2 _ _ (r2.tmp nc) evs ExcOk.none _ ⟨fun σ3 E3 M3 S3 H3 p3 r3 _ s3 => qq _ _ M3 S3 H3 p3 r3 .non (sb.trans s3), qq.step sb, fun _ _ _ _ _ z => z.elim, fun _ _ _ _ _ z => z.elim⟩
theorem wE_wordG {k i : Nat} {x a xn en : Str} {st b0 : Stmt} {Ng : List Str} {suite rest : List Stmt} {cE : Value} {ea : Expr} {p pos q1 q2 q3 q4 q5 np : Pos}
    (D : DefAt X.K X.mg x x st [a]) (hbg : defBody st = .Try [.Expr (.Call (.Name a q1) [] [] q2) q3] [.ExceptHandler (some (.Name xn np)) (some en) (b0 :: suite) q4] [] [] q5 :: rest)
    (scg : FnScope Ng [a] (defScope st)) (hNa : Ng[0]? = some a) (hva : Vis (defScope st) a) (hNe : Ng[i]? = some en) (hi : i < Ng.length) (hke : (defScope st).names.lookup en = some .local)
    (gxn : (defScope st).names.lookup xn = some .globalImplicit) (hxn : X.mg xn = some cE) (dxn : (xn == ("__debug__" : Str)) = false)
    (hg : Gl X x) (hr : Room (k + 2) X.A) (h : wE X Ψ ea E S fun w S1 => Srl S1 → sLamG X k i x st b0 Ng suite rest cE w S1 (fin S1.length Φ))
    (hes : starEach [ea] X.env = (false, eval ea X.env) :: starEach [] X.env := by rfl)
    (hdb : (x == ("__debug__" : Str)) = false := by decide) (hda : (a == ("__debug__" : Str)) = false := by decide) (hca : (a == ("__classdict__" : Str)) = false := by decide) :
    wE X Ψ (.Call (.Name x p) [ea] [] pos) E S Φ := by
  refine ⟨fun M σ H r ev xo Q qq pins s I => ?_⟩
  obtain ⟨g, fd, hm, hk, F, hb⟩ := D.ex
  obtain ⟨oc, od, kV, doc, pm, an, cdv, ct, osl, rfl, lk, hcd⟩ := F.ex
  refine wpAny_Call_Name_kw (ld_glob I hg hm ?_ hdb)
  refine PySem.W.callWith_K (h₀ := X.base) I.ok.mod.kin hk ?_ hes (by rfl)
  rw [hes]
  show wpAny _ _ (spliced ((false, eval ea X.env) :: backTo pos (starEach [] X.env))) _ _ _
  refine Calls.spliced_cons (wpAny_mono (h.run M σ H r ev xo (fun v H2 => ∃ w M2 S2, sLamG X k i x st b0 Ng suite rest cE w S2 (fin S2.length Φ) ∧ Rep M2 H2 S2 ∧ VW M2 H2 v w ∧ Step M H M2 H2) (fun v w M2 S2 H2 p r2 a2 s2 => ⟨w, M2, S2, p r2.srl, r2, a2, s2⟩) pins _ I) (fun u s1 hu => ?_) fun _ _ z => z)
  obtain ⟨v, H1, I1, rv, w, M1, S1, hL, r1, a1, st1⟩ := hu
  obtain ⟨f, rfl⟩ : ∃ f, v = .ref f := by
    obtain ⟨f, d, c, al, dv, pr, bd, sc, q, nm, objs, wl, Ψ1, Φ1, rfl, _⟩ := hL
    cases a1
    exact ⟨_, rfl⟩
  obtain rfl : u = Value.ref f := rv
  refine Calls.spliced_nil ⟨I1.kIn, ?_⟩
  have rc := word_codeG hbg scg hNa hva hNe hi hke gxn hxn dxn hr lk hcd hb I1 r1 ((qq.step st1).fin r1) w hL a1 hda hca
  refine wpAny_call (codeAny_mono rc ?_)
  rintro (eE | fl) s9 h9
  · exact (show False from h9).elim
  · cases fl with
    | ret u => exact I1.after h9
    | next => exact (show False from h9).elim
    | brk => exact (show False from h9).elim
    | cont => exact (show False from h9).elim
end

-- AM59
section
variable {X : Cx} {Ψ : AX} {o : Expr} {E : AEnv} {S : Sto} {Φ : W → Sto → Prop}
def sUp (x : W) (S : Sto) (Φ : W → Sto → Prop) : Prop := ∃ a : Str, x = .str a ∧ a.length ≤ 5592405 ∧ Φ (.str (Txt.upper a)) S
theorem sUp_i {a : Str} (h1 : a.length ≤ 5592405) (h : Φ (.str (Txt.upper a)) S) : sUp (.str a) S Φ := ⟨a, rfl, h1, h⟩
theorem xE_upper {apos cpos : Pos} (h : wE X Ψ o E S fun x S1 => sUp x S1 Φ) (hbase : attributeBase o "upper" X.env (eval o X.env) = eval o X.env := by rfl) (hline : (apos.endLine == cpos.line) = true := by rfl) : wE X Ψ (.Call (.Attribute o "upper" apos) [] [] cpos) E S Φ :=
  wE.of (pe_upper pe_sem hbase hline) fun M σ H r ev xo Q q => h.run M σ H r ev xo _ fun v w M1 S1 H1 ⟨a, e, hl, p⟩ r1 a1 s1 => by
    subst e
    cases a1
    exact ⟨⟨a, rfl⟩, a, rfl, rfl, hl, q _ _ M1 S1 H1 p r1 (.str _) s1⟩
end

-- HP
/-! ### a hall, plainly -/
structure Ca where
  c : Int
  y : Wy
  ppl : List Int
  age : Int
  talk : Bool
structure Ph where
  up : Bool
  now : Option Nat
  kept : Option Nat
  bell : Option Nat
  tone : Str
structure Hl where
  ph : Int → Ph
  ca : Nat → Ca
  n : Nat
  op : List Nat
def Ph.new : Ph := ⟨false, none, none, none, "quiet"⟩
def Ca.new (p : Int) : Ca := ⟨p, Wy.new, [p], 0, false⟩
def Hl.new : Hl := ⟨fun _ => Ph.new, fun _ => Ca.new 0, 0, []⟩
def Hl.setCa (σ : Hl) (k : Nat) (c : Ca) : Hl := { σ with ca := fun j => if j = k then c else σ.ca j }
def Hl.setPh (σ : Hl) (p : Int) (q : Ph) : Hl := { σ with ph := fun r => if r = p then q else σ.ph r }
def Hl.mapPh (σ : Hl) (f : Int → Ph → Ph) : Hl := { σ with ph := fun r => f r (σ.ph r) }
def Ph.sil (k : Nat) (q : Ph) : Ph := if q.bell = some k then { q with bell := none } else q
def Wy.noEars (y : Wy) : Wy := { y with ears := [] }
def Ca.noEars (c : Ca) : Ca := { c with y := c.y.noEars }
def silF (σ : Hl) (k : Nat) : Hl := (σ.mapPh fun _ => Ph.sil k).setCa k (σ.ca k).noEars
def Ph.ov1 (k : Nat) (q : Ph) : Ph := if q.now = some k then { q with now := none, tone := "busy" } else q
def Ph.ov2 (k : Nat) (q : Ph) : Ph := if q.kept = some k then { q with kept := none } else q
def overF (σ : Hl) (k : Nat) : Hl := { (silF σ k).mapPh (fun _ q => (q.ov1 k).ov2 k) with op := σ.op.erase k }
def ansF (σ : Hl) (k : Nat) (p : Int) : Hl :=
  ((silF σ k).setCa k { (σ.ca k).noEars with talk := true, ppl := (σ.ca k).ppl ++ [p] }).setPh p { (σ.ph p).sil k with now := some k }
def leaveF (σ : Hl) (o : Option Nat) (p : Int) : Hl := match o with
  | none => σ
  | some k =>
    let s := σ.setCa k { σ.ca k with ppl := (σ.ca k).ppl.erase p }
    if ((σ.ca k).ppl.erase p).length < 2 then overF s k else s
def inTalk (σ : Hl) (p : Int) : Bool := match (σ.ph p).now with
  | none => false
  | some k => (σ.ca k).talk
def mayF (σ : Hl) (p : Int) : Bool := inTalk σ p && (σ.ph p).kept.isNone && (σ.ph p).bell.isNone
def busyP (q : Ph) : Bool := q.up || q.bell.isSome
def stF (σ : Hl) : List Bool := (List.range 6).map fun i : Nat => busyP (σ.ph i)
def knF (σ : Hl) : List Bool := (List.range 6).map fun i : Nat => mayF σ i
/-- a call goes to a number -/
def onY (σ : Hl) (xs : List Wish) (k : Nat) (g : Int) : Wy := goF xs (σ.ca k).c (stF σ) (knF σ) (8 - (σ.ca k).y.chain.length) (σ.ca k).y g
def ringF (σ : Hl) (k : Nat) (y : Wy) : Hl := (σ.setCa k { σ.ca k with y := y, age := 0 }).mapPh fun p q => if p ∈ y.ears then { q with bell := some k } else q
def onF (σ : Hl) (xs : List Wish) (k : Nat) (g : Int) : Hl :=
  let y := onY σ xs k g
  if y.ears = [] then overF (ringF σ k y) k else ringF σ k y
def Ph.jn1 (c o : Nat) (q : Ph) : Ph := if q.now = some o then { q with now := some c } else q
def Ph.jn2 (c o : Nat) (q : Ph) : Ph := if q.kept = some o then { q with kept := some c } else q
def Ph.jn3 (q : Ph) : Ph := if q.kept = q.now then { q with kept := none } else q
def Ph.jn (c o : Nat) (q : Ph) : Ph := ((q.jn1 c o).jn2 c o).jn3
/-- late: (beats, whereto) -/
def lateB (xs : List Wish) (p : Int) : Option (Int × Int) := match getB xs [.inr "late", .inl p] with
  | some (.late _ g t) => some (t, g)
  | _ => none
def lateOf (xs : List Wish) (c : Ca) : Option (Int × Int × Int) := match c.y.group, c.y.chain.getLast? with
  | none, some p => (lateB xs p).map fun r => (p, r.1, r.2)
  | _, _ => none
def late0 (σ : Hl) (k : Nat) (p g : Int) : Hl := (silF σ k).setCa k { (σ.ca k).noEars with y := { (σ.ca k).y.noEars with leads := (σ.ca k).y.leads ++ [(p, g)] } }
def lateF (σ : Hl) (xs : List Wish) (k : Nat) : Hl := match lateOf xs (σ.ca k) with
  | some (p, t, g) => if t = (σ.ca k).age then onF (late0 σ k p g) xs k g else if (σ.ca k).age = 12 then overF σ k else σ
  | none => if (σ.ca k).age = 12 then overF σ k else σ
/-! ### a hall in the store -/
inductive Cell
  | hall | calls | book | dict | ph (p : Int) | ca (k : Nat) | way (k : Nat) | chain (k : Nat) | leads (k : Nat) | ppl (k : Nat)
  deriving DecidableEq
def okC (n : Nat) : Cell → Prop
  | .ph p => 0 ≤ p ∧ p ≤ 5
  | .ca k => k < n | .way k => k < n | .chain k => k < n | .leads k => k < n | .ppl k => k < n
  | _ => True
structure Cs where
  CB : Addr
  CW : Addr
  CC : Addr
  CP : Addr
  CH : Addr
abbrev Pl := Cell → Nat
def rfW (loc : Pl) : Option Nat → W
  | none => .non
  | some k => .ref (loc (.ca k))
def phFs (loc : Pl) (q : Ph) : List (Str × W) := [("is_up", .bl q.up), ("now", rfW loc q.now), ("kept", rfW loc q.kept), ("bell", rfW loc q.bell), ("tone", .str q.tone)]
def caFs (loc : Pl) (k : Nat) (c : Ca) : List (Str × W) := [("way", .ref (loc (.way k))), ("people", .ref (loc (.ppl k))), ("age", .int c.age), ("is_talk", .bl c.talk)]
def hallFs (loc : Pl) : List (Str × W) := [("book", .ref (loc .book)), ("phones", .lst ((List.range 6).map fun i : Nat => W.ref (loc (.ph (i : Int))))), ("calls", .ref (loc .calls))]
def objC (C : Cs) (loc : Pl) (xs : List Wish) (σ : Hl) : Cell → O
  | .hall => .ins C.CH (hallFs loc)
  | .calls => .lst ((σ.op.map fun k => loc (.ca k)).map W.ref)
  | .book => .ins C.CB [("wanted", .ref (loc .dict))]
  | .dict => .dt (bookD xs)
  | .ph p => .ins C.CP (phFs loc (σ.ph p))
  | .ca k => .ins C.CC (caFs loc k (σ.ca k))
  | .way k => .ins C.CW (wayFs (loc .book) (σ.ca k).c (loc (.chain k)) (loc (.leads k)) (σ.ca k).y)
  | .chain k => .lst (intsW (σ.ca k).y.chain)
  | .leads k => .lst ((σ.ca k).y.leads.map pairW)
  | .ppl k => .lst (intsW (σ.ca k).ppl)
/-- calls that are spoken of have been made -/
def Ph.vd (n : Nat) (q : Ph) : Prop := (∀ k, q.now = some k → k < n) ∧ (∀ k, q.kept = some k → k < n) ∧ ∀ k, q.bell = some k → k < n
structure Vd (σ : Hl) : Prop where
  op : ∀ k ∈ σ.op, k < σ.n
  ph : ∀ p, 0 ≤ p → p ≤ 5 → (σ.ph p).vd σ.n
structure HallAt (C : Cs) (S : Sto) (loc : Pl) (xs : List Wish) (σ : Hl) : Prop where
  at_ : ∀ c, okC σ.n c → S[loc c]? = some (objC C loc xs σ c)
  inj : ∀ c d, okC σ.n c → okC σ.n d → loc c = loc d → c = d
  vd : Vd σ
/-- halls that are the same where it counts -/
structure Eqv (σ τ : Hl) : Prop where
  n : τ.n = σ.n
  op : τ.op = σ.op
  ph : ∀ p, 0 ≤ p → p ≤ 5 → τ.ph p = σ.ph p
  ca : ∀ k, k < σ.n → τ.ca k = σ.ca k
theorem Eqv.refl (σ : Hl) : Eqv σ σ := ⟨rfl, rfl, fun _ _ _ => rfl, fun _ _ => rfl⟩
theorem Eqv.symm {σ τ : Hl} (h : Eqv σ τ) : Eqv τ σ := ⟨h.n.symm, h.op.symm, fun p a b => (h.ph p a b).symm, fun k a => (h.ca k (by rw [← h.n]; exact a)).symm⟩
theorem Eqv.trans {σ τ υ : Hl} (h : Eqv σ τ) (g : Eqv τ υ) : Eqv σ υ := ⟨g.n.trans h.n, g.op.trans h.op, fun p a b => (g.ph p a b).trans (h.ph p a b), fun k a => (g.ca k (by rw [h.n]; exact a)).trans (h.ca k a)⟩
theorem Vd.eqv {σ τ : Hl} (v : Vd σ) (h : Eqv σ τ) : Vd τ := ⟨fun k hk => by rw [h.n]; exact v.op k (by rw [← h.op]; exact hk), fun p a b => by rw [h.ph p a b, h.n]; exact v.ph p a b⟩
section
variable {C : Cs} {S : Sto} {loc : Pl} {xs : List Wish} {σ τ : Hl}
theorem objC_eqv (e : Eqv σ τ) (c : Cell) (hc : okC σ.n c) : objC C loc xs τ c = objC C loc xs σ c := by
  cases c with
  | calls => show O.lst _ = O.lst _; rw [e.op]
  | ph p => show O.ins _ _ = O.ins _ _; rw [e.ph p hc.1 hc.2]
  | ca k => show O.ins _ _ = O.ins _ _; rw [e.ca k hc]
  | way k => show O.ins _ _ = O.ins _ _; rw [e.ca k hc]
  | chain k => show O.lst _ = O.lst _; rw [e.ca k hc]
  | leads k => show O.lst _ = O.lst _; rw [e.ca k hc]
  | ppl k => show O.lst _ = O.lst _; rw [e.ca k hc]
  | _ => rfl
theorem HallAt.eqv (h : HallAt C S loc xs σ) (e : Eqv σ τ) : HallAt C S loc xs τ :=
  ⟨fun c hc => by
    rw [e.n] at hc
    rw [objC_eqv e c hc]
    exact h.at_ c hc, fun c d hc hd => by
    rw [e.n] at hc hd
    exact h.inj c d hc hd, h.vd.eqv e⟩
theorem HallAt.hall (h : HallAt C S loc xs σ) : S[loc .hall]? = some (.ins C.CH (hallFs loc)) := h.at_ .hall trivial
theorem HallAt.calls (h : HallAt C S loc xs σ) : S[loc .calls]? = some (.lst ((σ.op.map fun k => loc (.ca k)).map W.ref)) := h.at_ .calls trivial
theorem HallAt.bk (h : HallAt C S loc xs σ) : BookAt C.CB S (loc .book) xs := ⟨_, h.at_ .book trivial, h.at_ .dict trivial⟩
theorem HallAt.ph (h : HallAt C S loc xs σ) {p : Int} (h0 : 0 ≤ p) (h5 : p ≤ 5) : S[loc (.ph p)]? = some (.ins C.CP (phFs loc (σ.ph p))) := h.at_ (.ph p) ⟨h0, h5⟩
theorem HallAt.ca (h : HallAt C S loc xs σ) {k : Nat} (hk : k < σ.n) : S[loc (.ca k)]? = some (.ins C.CC (caFs loc k (σ.ca k))) := h.at_ (.ca k) hk
theorem HallAt.way (h : HallAt C S loc xs σ) {k : Nat} (hk : k < σ.n) : S[loc (.way k)]? = some (.ins C.CW (wayFs (loc .book) (σ.ca k).c (loc (.chain k)) (loc (.leads k)) (σ.ca k).y)) := h.at_ (.way k) hk
theorem HallAt.chain (h : HallAt C S loc xs σ) {k : Nat} (hk : k < σ.n) : S[loc (.chain k)]? = some (.lst (intsW (σ.ca k).y.chain)) := h.at_ (.chain k) hk
theorem HallAt.leads (h : HallAt C S loc xs σ) {k : Nat} (hk : k < σ.n) : S[loc (.leads k)]? = some (.lst ((σ.ca k).y.leads.map pairW)) := h.at_ (.leads k) hk
theorem HallAt.ppl (h : HallAt C S loc xs σ) {k : Nat} (hk : k < σ.n) : S[loc (.ppl k)]? = some (.lst (intsW (σ.ca k).ppl)) := h.at_ (.ppl k) hk
theorem HallAt.wy (h : HallAt C S loc xs σ) {k : Nat} (hk : k < σ.n) : WayAt C.CW S (loc (.way k)) (loc (.chain k)) (loc (.leads k)) (loc .book) (σ.ca k).c (σ.ca k).y :=
  ⟨h.way hk, h.chain hk, h.leads hk, fun e => by cases h.inj (.chain k) (.leads k) hk hk e⟩
/-! what is compared -/
theorem insW_rf (h : HallAt C S loc xs σ) {o : Option Nat} (ho : ∀ k, o = some k → k < σ.n) : insW S C.CC (rfW loc o) := by
  cases o with
  | none => trivial
  | some k => exact ⟨_, h.ca (ho k rfl)⟩
theorem same_rf (h : HallAt C S loc xs σ) {o u : Option Nat} (ho : ∀ k, o = some k → k < σ.n) (hu : ∀ k, u = some k → k < σ.n) : sameW (rfW loc o) (rfW loc u) = decide (o = u) := by
  cases o with
  | none =>
    cases u with
    | none => rfl
    | some k => rfl
  | some j =>
    cases u with
    | none => rfl
    | some k =>
      show decide (loc (.ca j) = loc (.ca k)) = _
      by_cases e : j = k
      · subst e
        rw [decide_eq_true rfl, decide_eq_true rfl]
      · rw [decide_eq_false (fun z => e (by cases h.inj (.ca j) (.ca k) (ho j rfl) (hu k rfl) z; rfl)), decide_eq_false (fun z => e (Option.some.inj z))]
theorem sEqI_rf {X : Cx} {Φ : W → Sto → Prop} {o u : Option Nat} (h : HallAt C S loc xs σ) (p : PlainEq X.K C.CC) (ho : ∀ k, o = some k → k < σ.n) (hu : ∀ k, u = some k → k < σ.n) (q : Φ (.bl (decide (o = u))) S) : sEqI X (rfW loc o) (rfW loc u) S Φ :=
  sEqI_i p (insW_rf h ho) (insW_rf h hu) (same_rf h ho hu) q
theorem sEqI_r1 {X : Cx} {Φ : W → Sto → Prop} {o : Option Nat} {k : Nat} (h : HallAt C S loc xs σ) (p : PlainEq X.K C.CC) (ho : ∀ k, o = some k → k < σ.n) (hk : k < σ.n) (q : Φ (.bl (decide (o = some k))) S) : sEqI X (rfW loc o) (.ref (loc (.ca k))) S Φ :=
  sEqI_rf (u := some k) h p ho (fun j e => by cases e; exact hk) q
theorem isNon_rf {o : Option Nat} : isNonW (rfW loc o) = some o.isNone := by cases o <;> rfl
/-! ### one cell is written -/
theorem HallAt.put (h : HallAt C S loc xs σ) (c0 : Cell) (v0 : okC σ.n c0) {o : O} (hn : τ.n = σ.n) (vd : Vd τ) (e1 : objC C loc xs τ c0 = o) (e2 : ∀ c, okC σ.n c → c ≠ c0 → objC C loc xs τ c = objC C loc xs σ c) : HallAt C (S.set (loc c0) o) loc xs τ :=
  ⟨fun c hc => by
    rw [hn] at hc
    by_cases e : c = c0
    · subst e
      rw [e1]
      exact get_set_self (h.at_ c hc)
    · rw [e2 c hc e]
      exact get_set_ne (fun z => e (h.inj c c0 hc v0 z.symm)) (h.at_ c hc), fun c d hc hd => by
    rw [hn] at hc hd
    exact h.inj c d hc hd, vd⟩
theorem Vd.setPh (v : Vd σ) {p : Int} {q : Ph} (hq : q.vd σ.n) : Vd (σ.setPh p q) := ⟨v.op, fun r h0 h5 => by
  show (if r = p then q else σ.ph r).vd σ.n
  by_cases e : r = p
  · rw [if_pos e]; exact hq
  · rw [if_neg e]; exact v.ph r h0 h5⟩
theorem Vd.setCa (v : Vd σ) {k : Nat} {c : Ca} : Vd (σ.setCa k c) := ⟨v.op, v.ph⟩
theorem HallAt.putPh (h : HallAt C S loc xs σ) {p : Int} (h0 : 0 ≤ p) (h5 : p ≤ 5) {q : Ph} (hq : q.vd σ.n) : HallAt C (S.set (loc (.ph p)) (.ins C.CP (phFs loc q))) loc xs (σ.setPh p q) := by
  refine h.put (.ph p) ⟨h0, h5⟩ rfl (h.vd.setPh hq) ?_ fun c hc ne => ?_
  · show O.ins _ (phFs loc (if p = p then q else σ.ph p)) = _
    rw [if_pos rfl]
  · cases c with
    | ph r =>
      show O.ins _ (phFs loc (if r = p then q else σ.ph r)) = _
      rw [if_neg (fun z => ne (by rw [z]))]
      rfl
    | _ => rfl
theorem HallAt.putCa (h : HallAt C S loc xs σ) {k : Nat} (hk : k < σ.n) {c : Ca} (e1 : c.c = (σ.ca k).c) (e2 : c.y = (σ.ca k).y) (e3 : c.ppl = (σ.ca k).ppl) : HallAt C (S.set (loc (.ca k)) (.ins C.CC (caFs loc k c))) loc xs (σ.setCa k c) := by
  have key : ∀ j, (σ.setCa k c).ca j = if j = k then c else σ.ca j := fun _ => rfl
  have kc : ∀ j, ((σ.setCa k c).ca j).c = (σ.ca j).c := fun j => by rw [key]; by_cases z : j = k; rw [if_pos z, z, e1]; rw [if_neg z]
  have ky : ∀ j, ((σ.setCa k c).ca j).y = (σ.ca j).y := fun j => by rw [key]; by_cases z : j = k; rw [if_pos z, z, e2]; rw [if_neg z]
  have kp : ∀ j, ((σ.setCa k c).ca j).ppl = (σ.ca j).ppl := fun j => by rw [key]; by_cases z : j = k; rw [if_pos z, z, e3]; rw [if_neg z]
  refine h.put (.ca k) hk rfl h.vd.setCa ?_ fun d hd ne => ?_
  · show O.ins _ (caFs loc k (if k = k then c else σ.ca k)) = _
    rw [if_pos rfl]
  · cases d with
    | ca j =>
      show O.ins _ (caFs loc j (if j = k then c else σ.ca j)) = _
      rw [if_neg (fun z => ne (by rw [z]))]
      rfl
    | way j => show O.ins _ (wayFs _ ((σ.setCa k c).ca j).c _ _ ((σ.setCa k c).ca j).y) = O.ins _ _; rw [kc, ky]
    | chain j => show O.lst (intsW ((σ.setCa k c).ca j).y.chain) = O.lst _; rw [ky]
    | leads j => show O.lst (((σ.setCa k c).ca j).y.leads.map pairW) = O.lst _; rw [ky]
    | ppl j => show O.lst (intsW ((σ.setCa k c).ca j).ppl) = O.lst _; rw [kp]
    | _ => rfl
theorem HallAt.putWay (h : HallAt C S loc xs σ) {k : Nat} (hk : k < σ.n) {y : Wy} (e1 : y.chain = (σ.ca k).y.chain) (e2 : y.leads = (σ.ca k).y.leads) : HallAt C (S.set (loc (.way k)) (.ins C.CW (wayFs (loc .book) (σ.ca k).c (loc (.chain k)) (loc (.leads k)) y))) loc xs (σ.setCa k { σ.ca k with y := y }) := by
  have key : ∀ j, (σ.setCa k { σ.ca k with y := y }).ca j = if j = k then { σ.ca k with y := y } else σ.ca j := fun _ => rfl
  refine h.put (.way k) hk rfl h.vd.setCa ?_ fun d hd ne => ?_
  · show O.ins _ (wayFs _ (if k = k then { σ.ca k with y := y } else σ.ca k).c _ _ (if k = k then { σ.ca k with y := y } else σ.ca k).y) = _
    rw [if_pos rfl]
  · cases d with
    | ca j =>
      show O.ins _ (caFs loc j (if j = k then { σ.ca k with y := y } else σ.ca j)) = O.ins _ (caFs loc j (σ.ca j))
      by_cases z : j = k
      · rw [if_pos z, z]; rfl
      · rw [if_neg z]
    | way j =>
      show O.ins _ (wayFs _ (if j = k then { σ.ca k with y := y } else σ.ca j).c _ _ (if j = k then { σ.ca k with y := y } else σ.ca j).y) = O.ins _ _
      rw [if_neg (fun z => ne (by rw [z]))]
    | chain j =>
      show O.lst (intsW (if j = k then { σ.ca k with y := y } else σ.ca j).y.chain) = O.lst (intsW (σ.ca j).y.chain)
      by_cases z : j = k
      · rw [if_pos z, z]; show O.lst (intsW y.chain) = _; rw [e1]
      · rw [if_neg z]
    | leads j =>
      show O.lst ((if j = k then { σ.ca k with y := y } else σ.ca j).y.leads.map pairW) = O.lst ((σ.ca j).y.leads.map pairW)
      by_cases z : j = k
      · rw [if_pos z, z]; show O.lst (y.leads.map pairW) = _; rw [e2]
      · rw [if_neg z]
    | ppl j =>
      show O.lst (intsW (if j = k then { σ.ca k with y := y } else σ.ca j).ppl) = O.lst (intsW (σ.ca j).ppl)
      by_cases z : j = k
      · rw [if_pos z, z]
      · rw [if_neg z]
    | _ => rfl
theorem HallAt.putPpl (h : HallAt C S loc xs σ) {k : Nat} (hk : k < σ.n) {l : List Int} : HallAt C (S.set (loc (.ppl k)) (.lst (intsW l))) loc xs (σ.setCa k { σ.ca k with ppl := l }) := by
  refine h.put (.ppl k) hk rfl h.vd.setCa ?_ fun d hd ne => ?_
  · show O.lst (intsW (if k = k then { σ.ca k with ppl := l } else σ.ca k).ppl) = _
    rw [if_pos rfl]
  · cases d with
    | ca j =>
      show O.ins _ (caFs loc j (if j = k then { σ.ca k with ppl := l } else σ.ca j)) = O.ins _ (caFs loc j (σ.ca j))
      by_cases z : j = k
      · rw [if_pos z, z]; rfl
      · rw [if_neg z]
    | way j =>
      show O.ins _ (wayFs _ (if j = k then { σ.ca k with ppl := l } else σ.ca j).c _ _ (if j = k then { σ.ca k with ppl := l } else σ.ca j).y) = O.ins _ (wayFs _ (σ.ca j).c _ _ (σ.ca j).y)
      by_cases z : j = k
      · rw [if_pos z, z]
      · rw [if_neg z]
    | chain j =>
      show O.lst (intsW (if j = k then { σ.ca k with ppl := l } else σ.ca j).y.chain) = O.lst (intsW (σ.ca j).y.chain)
      by_cases z : j = k
      · rw [if_pos z, z]
      · rw [if_neg z]
    | leads j =>
      show O.lst ((if j = k then { σ.ca k with ppl := l } else σ.ca j).y.leads.map pairW) = O.lst ((σ.ca j).y.leads.map pairW)
      by_cases z : j = k
      · rw [if_pos z, z]
      · rw [if_neg z]
    | ppl j =>
      show O.lst (intsW (if j = k then { σ.ca k with ppl := l } else σ.ca j).ppl) = O.lst (intsW (σ.ca j).ppl)
      rw [if_neg (fun z => ne (by rw [z]))]
    | _ => rfl
theorem HallAt.putLeads (h : HallAt C S loc xs σ) {k : Nat} (hk : k < σ.n) {l : List (Int × Int)} : HallAt C (S.set (loc (.leads k)) (.lst (l.map pairW))) loc xs (σ.setCa k { σ.ca k with y := { (σ.ca k).y with leads := l } }) := by
  refine h.put (.leads k) hk rfl h.vd.setCa ?_ fun d hd ne => ?_
  · show O.lst ((if k = k then { σ.ca k with y := { (σ.ca k).y with leads := l } } else σ.ca k).y.leads.map pairW) = _
    rw [if_pos rfl]
  · cases d with
    | ca j =>
      show O.ins _ (caFs loc j (if j = k then { σ.ca k with y := { (σ.ca k).y with leads := l } } else σ.ca j)) = O.ins _ (caFs loc j (σ.ca j))
      by_cases z : j = k
      · rw [if_pos z, z]; rfl
      · rw [if_neg z]
    | way j =>
      show O.ins _ (wayFs _ (if j = k then { σ.ca k with y := { (σ.ca k).y with leads := l } } else σ.ca j).c _ _ (if j = k then { σ.ca k with y := { (σ.ca k).y with leads := l } } else σ.ca j).y) = O.ins _ (wayFs _ (σ.ca j).c _ _ (σ.ca j).y)
      by_cases z : j = k
      · rw [if_pos z, z]; rfl
      · rw [if_neg z]
    | chain j =>
      show O.lst (intsW (if j = k then { σ.ca k with y := { (σ.ca k).y with leads := l } } else σ.ca j).y.chain) = O.lst (intsW (σ.ca j).y.chain)
      by_cases z : j = k
      · rw [if_pos z, z]
      · rw [if_neg z]
    | leads j =>
      show O.lst ((if j = k then { σ.ca k with y := { (σ.ca k).y with leads := l } } else σ.ca j).y.leads.map pairW) = O.lst ((σ.ca j).y.leads.map pairW)
      rw [if_neg (fun z => ne (by rw [z]))]
    | ppl j =>
      show O.lst (intsW (if j = k then { σ.ca k with y := { (σ.ca k).y with leads := l } } else σ.ca j).ppl) = O.lst (intsW (σ.ca j).ppl)
      by_cases z : j = k
      · rw [if_pos z, z]
      · rw [if_neg z]
    | _ => rfl
theorem HallAt.putOp (h : HallAt C S loc xs σ) {l : List Nat} (hl : ∀ k ∈ l, k < σ.n) : HallAt C (S.set (loc .calls) (.lst ((l.map fun k => loc (.ca k)).map W.ref))) loc xs { σ with op := l } := by
  refine h.put .calls trivial rfl ⟨hl, h.vd.ph⟩ rfl fun d hd ne => ?_
  cases d with
  | calls => exact absurd rfl ne
  | _ => rfl
end
/-! ### what stands beside a hall stays -/
structure Fr (loc : Pl) (n : Nat) (S S' : Sto) : Prop where
  len : S'.length = S.length
  off : ∀ i, (∀ c, okC n c → loc c ≠ i) → S'[i]? = S[i]?
theorem Fr.refl {loc : Pl} {n : Nat} (S : Sto) : Fr loc n S S := ⟨rfl, fun _ _ => rfl⟩
theorem Fr.trans {loc : Pl} {n : Nat} {S T U : Sto} (h : Fr loc n S T) (g : Fr loc n T U) : Fr loc n S U := ⟨g.len.trans h.len, fun i hi => (g.off i hi).trans (h.off i hi)⟩
theorem Fr.set {loc : Pl} {n : Nat} {S T : Sto} (h : Fr loc n S T) {c : Cell} (hc : okC n c) {o : O} : Fr loc n S (T.set (loc c) o) :=
  ⟨by rw [List.length_set]; exact h.len, fun i hi => by
    rw [List.getElem?_set_ne (hi c hc)]
    exact h.off i hi⟩
/-- .. which may grow -/
structure Nx (loc loc' : Pl) (n n' : Nat) (S S' : Sto) : Prop where
  len : S.length ≤ S'.length
  le : n ≤ n'
  same : ∀ c, okC n c → loc' c = loc c
  new : ∀ c, okC n' c → ¬ okC n c → S.length ≤ loc' c
  off : ∀ i, i < S.length → (∀ c, okC n c → loc c ≠ i) → S'[i]? = S[i]?
theorem okC.mono {n m : Nat} (h : n ≤ m) {c : Cell} (hc : okC n c) : okC m c := by
  cases c with
  | ca k => exact Nat.lt_of_lt_of_le hc h
  | way k => exact Nat.lt_of_lt_of_le hc h
  | chain k => exact Nat.lt_of_lt_of_le hc h
  | leads k => exact Nat.lt_of_lt_of_le hc h
  | ppl k => exact Nat.lt_of_lt_of_le hc h
  | _ => exact hc
theorem Fr.nx {loc : Pl} {n : Nat} {S S' : Sto} (h : Fr loc n S S') : Nx loc loc n n S S' := ⟨Nat.le_of_eq h.len.symm, Nat.le_refl _, fun _ _ => rfl, fun _ a b => absurd a b, fun i _ hi => h.off i hi⟩
theorem Nx.refl {loc : Pl} {n : Nat} {S : Sto} : Nx loc loc n n S S := (Fr.refl S).nx
theorem Nx.trans {l1 l2 l3 : Pl} {n1 n2 n3 : Nat} {S1 S2 S3 : Sto} (h : Nx l1 l2 n1 n2 S1 S2) (g : Nx l2 l3 n2 n3 S2 S3) : Nx l1 l3 n1 n3 S1 S3 where
  len := Nat.le_trans h.len g.len
  le := Nat.le_trans h.le g.le
  same := fun c hc => (g.same c (hc.mono h.le)).trans (h.same c hc)
  new := fun c hc hn => by
    by_cases e : okC n2 c
    · rw [g.same c e]
      exact h.new c e hn
    · exact Nat.le_trans h.len (g.new c hc e)
  off := fun i hi hc => by
    have hi2 : i < S2.length := Nat.lt_of_lt_of_le hi h.len
    refine (g.off i hi2 fun c h2 => ?_).trans (h.off i hi hc)
    by_cases e : okC n1 c
    · rw [h.same c e]
      exact hc c e
    · intro z
      have := h.new c h2 e
      omega
/-! ### phones one after another -/
def mapI (σ : Hl) (f : Int → Ph → Ph) (i : Nat) : Hl := σ.mapPh fun p q => if p < (i : Int) then f p q else q
theorem mapI_0 (σ : Hl) (f : Int → Ph → Ph) : Eqv σ (mapI σ f 0) := ⟨rfl, rfl, fun p h0 _ => by
  show (if p < ((0 : Nat) : Int) then _ else _) = _
  rw [if_neg (by omega)], fun _ _ => rfl⟩
theorem mapI_6 (σ : Hl) (f : Int → Ph → Ph) : Eqv (mapI σ f 6) (σ.mapPh f) := ⟨rfl, rfl, fun p _ h5 => by
  show _ = (if p < ((6 : Nat) : Int) then _ else _)
  rw [if_pos (by omega)]
  rfl, fun _ _ => rfl⟩
theorem mapI_at (σ : Hl) (f : Int → Ph → Ph) (i : Nat) : (mapI σ f i).ph (i : Int) = σ.ph (i : Int) := by
  show (if ((i : Nat) : Int) < ((i : Nat) : Int) then _ else _) = _
  rw [if_neg (by omega)]
theorem mapI_set (σ : Hl) (f : Int → Ph → Ph) (i : Nat) : Eqv ((mapI σ f i).setPh (i : Int) (f (i : Int) (σ.ph (i : Int)))) (mapI σ f (i + 1)) := ⟨rfl, rfl, fun p _ _ => by
  show (if p < ((i + 1 : Nat) : Int) then _ else _) = (if p = (i : Int) then _ else (if p < ((i : Nat) : Int) then _ else _))
  by_cases e : p = (i : Int)
  · subst e
    rw [if_pos (by omega), if_pos rfl]
  · rw [if_neg e]
    by_cases l : p < (i : Int)
    · rw [if_pos l, if_pos (by omega)]
    · rw [if_neg l, if_neg (by omega)], fun _ _ => rfl⟩
theorem mapI_skip (σ : Hl) (f : Int → Ph → Ph) (i : Nat) (h : f (i : Int) (σ.ph (i : Int)) = σ.ph (i : Int)) : Eqv (mapI σ f i) (mapI σ f (i + 1)) := ⟨rfl, rfl, fun p _ _ => by
  show (if p < ((i + 1 : Nat) : Int) then _ else _) = (if p < ((i : Nat) : Int) then _ else _)
  by_cases e : p = (i : Int)
  · subst e
    rw [if_pos (by omega), if_neg (by omega)]
    exact h
  · by_cases l : p < (i : Int)
    · rw [if_pos l, if_pos (by omega)]
    · rw [if_neg l, if_neg (by omega)], fun _ _ => rfl⟩
theorem HallAt.turn {C : Cs} {S : Sto} {loc : Pl} {xs : List Wish} {σ : Hl} {f : Int → Ph → Ph} {i : Nat} (h : HallAt C S loc xs (mapI σ f i)) (hi : i < 6) (hq : (f (i : Int) (σ.ph (i : Int))).vd σ.n) : HallAt C (S.set (loc (.ph (i : Int))) (.ins C.CP (phFs loc (f (i : Int) (σ.ph (i : Int)))))) loc xs (mapI σ f (i + 1)) :=
  (h.putPh (by omega) (by omega) hq).eqv (mapI_set σ f i)
theorem HallAt.skip {C : Cs} {S : Sto} {loc : Pl} {xs : List Wish} {σ : Hl} {f : Int → Ph → Ph} {i : Nat} (h : HallAt C S loc xs (mapI σ f i)) (e : f (i : Int) (σ.ph (i : Int)) = σ.ph (i : Int)) : HallAt C S loc xs (mapI σ f (i + 1)) := h.eqv (mapI_skip σ f i e)
theorem HallAt.at6 {C : Cs} {S : Sto} {loc : Pl} {xs : List Wish} {σ : Hl} {f : Int → Ph → Ph} {i : Nat} (h : HallAt C S loc xs (mapI σ f i)) (hi : i = 6) : HallAt C S loc xs (σ.mapPh f) := by
  subst hi
  exact h.eqv (mapI_6 σ f)
theorem HallAt.phI {C : Cs} {S : Sto} {loc : Pl} {xs : List Wish} {σ : Hl} {f : Int → Ph → Ph} {i : Nat} (h : HallAt C S loc xs (mapI σ f i)) (hi : i < 6) : S[loc (.ph (i : Int))]? = some (.ins C.CP (phFs loc (σ.ph (i : Int)))) := by
  have := h.ph (p := (i : Int)) (by omega) (by omega)
  rw [mapI_at] at this
  exact this
theorem ph_idx {i p : Nat} (h : (List.range 6)[i]? = some p) : p = i ∧ i < 6 := by
  have hi : i < 6 := by
    have := (List.getElem?_eq_some_iff.mp h).1
    rw [List.length_range] at this
    exact this
  rw [List.getElem?_range hi] at h
  exact ⟨(Option.some.inj h).symm, hi⟩
theorem Ph.vd.sil {n k : Nat} {q : Ph} (h : q.vd n) : (q.sil k).vd n := by
  unfold Ph.sil
  by_cases e : q.bell = some k
  · rw [if_pos e]
    exact ⟨h.1, h.2.1, fun j hj => nomatch hj⟩
  · rw [if_neg e]
    exact h
theorem sil_yes {k : Nat} {q : Ph} (e : q.bell = some k) : ({ q with bell := none } : Ph) = q.sil k := by
  unfold Ph.sil
  rw [if_pos e]
theorem sil_no {k : Nat} {q : Ph} (e : ¬ q.bell = some k) : q.sil k = q := by
  unfold Ph.sil
  rw [if_neg e]
theorem HallAt.phS {C : Cs} {S : Sto} {loc : Pl} {xs : List Wish} {σ : Hl} {p : Int} {q : Ph} (h : HallAt C S loc xs (σ.setPh p q)) (h0 : 0 ≤ p) (h5 : p ≤ 5) : S[loc (.ph p)]? = some (.ins C.CP (phFs loc q)) := by
  have := h.ph h0 h5
  rw [show (σ.setPh p q).ph p = q from if_pos rfl] at this
  exact this
theorem Ph.vd.ov1 {n k : Nat} {q : Ph} (h : q.vd n) : (q.ov1 k).vd n := by
  unfold Ph.ov1
  by_cases e : q.now = some k
  · rw [if_pos e]
    exact ⟨fun j hj => (nomatch hj), h.2.1, h.2.2⟩
  · rw [if_neg e]
    exact h
theorem Ph.vd.ov2 {n k : Nat} {q : Ph} (h : q.vd n) : (q.ov2 k).vd n := by
  unfold Ph.ov2
  by_cases e : q.kept = some k
  · rw [if_pos e]
    exact ⟨h.1, fun j hj => (nomatch hj), h.2.2⟩
  · rw [if_neg e]
    exact h
theorem erase_loc {f : Nat → Nat} {n : Nat} (hf : ∀ a b, a < n → b < n → f a = f b → a = b) {k : Nat} (hk : k < n) : ∀ {l : List Nat}, (∀ a ∈ l, a < n) → (l.map f).erase (f k) = (l.erase k).map f
  | [], _ => rfl
  | a :: l, h => by
    have ha := h a List.mem_cons_self
    rw [List.map_cons, List.erase_cons, List.erase_cons]
    by_cases e : a = k
    · subst e
      simp
    · have e2 : ¬ f a = f k := fun z => e (hf a k ha hk z)
      simp [e, e2, erase_loc hf hk fun b hb => h b (List.mem_cons_of_mem _ hb)]
theorem mem_loc {f : Nat → Nat} {n : Nat} (hf : ∀ a b, a < n → b < n → f a = f b → a = b) {k : Nat} (hk : k < n) {l : List Nat} (h : ∀ a ∈ l, a < n) : decide (f k ∈ l.map f) = decide (k ∈ l) := by
  rw [decide_eq_decide]
  constructor
  · intro m
    obtain ⟨a, ha, e⟩ := List.mem_map.mp m
    rw [← hf a k (h a ha) hk e]
    exact ha
  · intro m
    exact List.mem_map.mpr ⟨k, m, rfl⟩
theorem HallAt.injC {C : Cs} {S : Sto} {loc : Pl} {xs : List Wish} {σ : Hl} (h : HallAt C S loc xs σ) : ∀ a b, a < σ.n → b < σ.n → loc (.ca a) = loc (.ca b) → a = b := fun a b ha hb e => by
  cases h.inj (.ca a) (.ca b) ha hb e
  rfl
theorem HallAt.calls_ins {C : Cs} {S : Sto} {loc : Pl} {xs : List Wish} {σ : Hl} (h : HallAt C S loc xs σ) : ∀ j ∈ σ.op.map fun k => loc (.ca k), ∃ fs, S[j]? = some (.ins C.CC fs) := fun j hj => by
  obtain ⟨k, hk, rfl⟩ := List.mem_map.mp hj
  exact ⟨_, h.ca (h.vd.op k hk)⟩
theorem sInI_r {X : Cx} {Φ : W → Sto → Prop} {C : Cs} {S : Sto} {loc : Pl} {xs : List Wish} {σ : Hl} {k : Nat} (h : HallAt C S loc xs σ) (p : PlainEq X.K C.CC) (hk : k < σ.n) (q : Φ (.bl (decide (k ∈ σ.op))) S) : sInI X (.ref (loc (.ca k))) (.ref (loc .calls)) S Φ :=
  ⟨C.CC, loc (.ca k), σ.op.map (fun k => loc (.ca k)), p, rfl, ⟨_, h.ca hk⟩, items_of h.calls, (fun _ z => nomatch z), h.calls_ins, by rw [mem_loc h.injC hk h.vd.op]; exact q⟩
theorem sRemI_r {X : Cx} {Φ : W → Sto → Prop} {C : Cs} {S : Sto} {loc : Pl} {xs : List Wish} {σ : Hl} {k : Nat} (h : HallAt C S loc xs σ) (p : PlainEq X.K C.CC) (hk : k < σ.n) (hm : k ∈ σ.op) (q : Φ .non (S.set (loc .calls) (.lst (((σ.op.erase k).map fun k => loc (.ca k)).map W.ref)))) : sRemI X (.ref (loc .calls)) (.ref (loc (.ca k))) S Φ :=
  ⟨C.CC, _, _, _, p, rfl, rfl, h.calls, h.calls_ins, List.mem_map.mpr ⟨k, hm, rfl⟩, by rw [erase_loc h.injC hk h.vd.op]; exact q⟩
theorem setCa_self {σ : Hl} {k : Nat} {c : Ca} : (σ.setCa k c).ca k = c := if_pos rfl
theorem setCa_ne {σ : Hl} {j k : Nat} {c : Ca} (h : j ≠ k) : (σ.setCa k c).ca j = σ.ca j := if_neg h
theorem setPh_self {σ : Hl} {p : Int} {q : Ph} : (σ.setPh p q).ph p = q := if_pos rfl
theorem setPh_ne {σ : Hl} {r p : Int} {q : Ph} (h : r ≠ p) : (σ.setPh p q).ph r = σ.ph r := if_neg h
theorem silF_ca {σ : Hl} {k : Nat} : (silF σ k).ca k = (σ.ca k).noEars := if_pos rfl
theorem ints_snoc {l : List Int} {p : Int} : intsW l ++ [W.int p] = intsW (l ++ [p]) := by simp [intsW]
/-- the same call written twice -/
theorem setCa2 {σ : Hl} {k : Nat} {a b : Ca} : (σ.setCa k a).setCa k b = σ.setCa k b := by
  unfold Hl.setCa
  congr 1
  funext j
  by_cases e : j = k
  · simp [e]
  · simp [e]
theorem HallAt.putWy {C : Cs} {S : Sto} {loc : Pl} {xs : List Wish} {σ : Hl} (h : HallAt C S loc xs σ) {k : Nat} (hk : k < σ.n) (y : Wy) : HallAt C (_root_.AM.putWay C.CW S (loc (.way k)) (loc (.chain k)) (loc (.leads k)) (loc .book) (σ.ca k).c y) loc xs (σ.setCa k { σ.ca k with y := y }) := by
  have w := h.wy hk
  have w2 := w.put y
  refine ⟨fun c hc => ?_, h.inj, h.vd.setCa⟩
  have hc : okC σ.n c := hc
  by_cases e1 : c = .way k
  · subst e1
    show _ = some (O.ins _ (wayFs _ ((σ.setCa k { σ.ca k with y := y }).ca k).c _ _ ((σ.setCa k { σ.ca k with y := y }).ca k).y))
    rw [setCa_self]
    exact w2.ob
  by_cases e2 : c = .chain k
  · subst e2
    show _ = some (O.lst (intsW ((σ.setCa k { σ.ca k with y := y }).ca k).y.chain))
    rw [setCa_self]
    exact w2.chain
  by_cases e3 : c = .leads k
  · subst e3
    show _ = some (O.lst (((σ.setCa k { σ.ca k with y := y }).ca k).y.leads.map pairW))
    rw [setCa_self]
    exact w2.leads
  have n1 : loc (.way k) ≠ loc c := fun z => e1 (h.inj _ _ hc (by exact hk) z.symm)
  have n2 : loc (.chain k) ≠ loc c := fun z => e2 (h.inj _ _ hc (by exact hk) z.symm)
  have n3 : loc (.leads k) ≠ loc c := fun z => e3 (h.inj _ _ hc (by exact hk) z.symm)
  unfold _root_.AM.putWay
  rw [List.getElem?_set_ne n3, List.getElem?_set_ne n2, List.getElem?_set_ne n1, h.at_ c hc]
  congr 1
  cases c with
  | ca j =>
    show O.ins _ (caFs loc j (σ.ca j)) = O.ins _ (caFs loc j ((σ.setCa k { σ.ca k with y := y }).ca j))
    by_cases z : j = k
    · subst z; rw [setCa_self]; rfl
    · rw [setCa_ne z]
  | way j =>
    show O.ins _ (wayFs _ (σ.ca j).c _ _ (σ.ca j).y) = O.ins _ (wayFs _ ((σ.setCa k { σ.ca k with y := y }).ca j).c _ _ ((σ.setCa k { σ.ca k with y := y }).ca j).y)
    rw [setCa_ne (fun z => e1 (by rw [z]))]
  | chain j =>
    show O.lst (intsW (σ.ca j).y.chain) = O.lst (intsW ((σ.setCa k { σ.ca k with y := y }).ca j).y.chain)
    rw [setCa_ne (fun z => e2 (by rw [z]))]
  | leads j =>
    show O.lst ((σ.ca j).y.leads.map pairW) = O.lst (((σ.setCa k { σ.ca k with y := y }).ca j).y.leads.map pairW)
    rw [setCa_ne (fun z => e3 (by rw [z]))]
  | ppl j =>
    show O.lst (intsW (σ.ca j).ppl) = O.lst (intsW ((σ.setCa k { σ.ca k with y := y }).ca j).ppl)
    by_cases z : j = k
    · subst z; rw [setCa_self]
    · rw [setCa_ne z]
  | _ => rfl
theorem Fr.putWy {loc : Pl} {n : Nat} {S T : Sto} (h : Fr loc n S T) {k : Nat} (hk : k < n) {CW : Addr} {jb : Nat} {c : Int} {y : Wy} : Fr loc n S (putWay CW T (loc (.way k)) (loc (.chain k)) (loc (.leads k)) jb c y) := by
  unfold putWay
  exact ((h.set (c := .way k) hk).set (c := .chain k) hk).set (c := .leads k) hk
/-- a call's five objects are laid behind all others -/
def newLoc (loc : Pl) (n m : Nat) : Pl := fun c => match c with
  | .way k => if k = n then m else loc c
  | .chain k => if k = n then m + 1 else loc c
  | .leads k => if k = n then m + 2 else loc c
  | .ca k => if k = n then m + 3 else loc c
  | .ppl k => if k = n then m + 4 else loc c
  | _ => loc c
theorem newLoc_old {loc : Pl} {n m : Nat} {c : Cell} (h : okC n c) : newLoc loc n m c = loc c := by
  cases c with
  | way k => exact if_neg (Nat.ne_of_lt h)
  | chain k => exact if_neg (Nat.ne_of_lt h)
  | leads k => exact if_neg (Nat.ne_of_lt h)
  | ca k => exact if_neg (Nat.ne_of_lt h)
  | ppl k => exact if_neg (Nat.ne_of_lt h)
  | _ => rfl
theorem newLoc_new {loc : Pl} {n m : Nat} {c : Cell} (h : okC (n + 1) c) (h2 : ¬ okC n c) : (c = .way n ∧ newLoc loc n m c = m) ∨ (c = .chain n ∧ newLoc loc n m c = m + 1) ∨ (c = .leads n ∧ newLoc loc n m c = m + 2) ∨ (c = .ca n ∧ newLoc loc n m c = m + 3) ∨ (c = .ppl n ∧ newLoc loc n m c = m + 4) := by
  cases c with
  | way k =>
    have e : k = n := by have h : k < n + 1 := h; have h2 : ¬ k < n := h2; omega
    subst e
    exact .inl ⟨rfl, if_pos rfl⟩
  | chain k =>
    have e : k = n := by have h : k < n + 1 := h; have h2 : ¬ k < n := h2; omega
    subst e
    exact .inr (.inl ⟨rfl, if_pos rfl⟩)
  | leads k =>
    have e : k = n := by have h : k < n + 1 := h; have h2 : ¬ k < n := h2; omega
    subst e
    exact .inr (.inr (.inl ⟨rfl, if_pos rfl⟩))
  | ca k =>
    have e : k = n := by have h : k < n + 1 := h; have h2 : ¬ k < n := h2; omega
    subst e
    exact .inr (.inr (.inr (.inl ⟨rfl, if_pos rfl⟩)))
  | ppl k =>
    have e : k = n := by have h : k < n + 1 := h; have h2 : ¬ k < n := h2; omega
    subst e
    exact .inr (.inr (.inr (.inr ⟨rfl, if_pos rfl⟩)))
  | ph p => exact absurd h h2
  | hall => exact absurd trivial h2
  | calls => exact absurd trivial h2
  | book => exact absurd trivial h2
  | dict => exact absurd trivial h2
theorem HallAt.lt {C : Cs} {S : Sto} {loc : Pl} {xs : List Wish} {σ : Hl} (h : HallAt C S loc xs σ) {c : Cell} (hc : okC σ.n c) : loc c < S.length := (List.getElem?_eq_some_iff.mp (h.at_ c hc)).1
def moreO (C : Cs) (jb m : Nat) (p : Int) : Sto := [.ins C.CW (wayFs jb p (m + 1) (m + 2) Wy.new), .lst [], .lst [], .ins C.CC [("way", .ref m), ("people", .ref (m + 4)), ("age", .int 0), ("is_talk", .bl false)], .lst [.int p]]
def grown (σ : Hl) (p : Int) : Hl := { (σ.setCa σ.n (Ca.new p)) with n := σ.n + 1 }
theorem rf_new {loc : Pl} {n m : Nat} {o : Option Nat} (h : ∀ k, o = some k → k < n) : rfW (newLoc loc n m) o = rfW loc o := by
  cases o with
  | none => rfl
  | some k =>
    show W.ref (newLoc loc n m (.ca k)) = W.ref (loc (.ca k))
    rw [newLoc_old (c := .ca k) (h k rfl)]
theorem HallAt.grow {C : Cs} {S : Sto} {loc : Pl} {xs : List Wish} {σ : Hl} (h : HallAt C S loc xs σ) (p : Int) : HallAt C (S ++ moreO C (loc .book) S.length p) (newLoc loc σ.n S.length) xs (grown σ p) := by
  have old : ∀ c, okC σ.n c → objC C (newLoc loc σ.n S.length) xs (grown σ p) c = objC C loc xs σ c := by
    intro c hc
    have hne : ∀ k, k < σ.n → (grown σ p).ca k = σ.ca k := fun k hk => if_neg (Nat.ne_of_lt hk)
    cases c with
    | hall =>
      show O.ins _ [("book", .ref (loc .book)), ("phones", .lst ((List.range 6).map fun i : Nat => W.ref (loc (.ph (i : Int))))), ("calls", .ref (loc .calls))] = _
      rfl
    | calls =>
      show O.lst ((σ.op.map fun k => newLoc loc σ.n S.length (.ca k)).map W.ref) = O.lst ((σ.op.map fun k => loc (.ca k)).map W.ref)
      congr 2
      exact List.map_congr_left fun k hk => newLoc_old (c := .ca k) (h.vd.op k hk)
    | ph r =>
      have v := h.vd.ph r hc.1 hc.2
      show O.ins _ (phFs _ (σ.ph r)) = O.ins _ (phFs _ (σ.ph r))
      unfold phFs
      rw [rf_new v.1, rf_new v.2.1, rf_new v.2.2]
    | ca k =>
      have hk : k < σ.n := hc
      show O.ins _ (caFs _ k ((grown σ p).ca k)) = O.ins _ (caFs loc k (σ.ca k))
      rw [hne k hk]
      unfold caFs
      rw [newLoc_old (c := .way k) hk, newLoc_old (c := .ppl k) hk]
    | way k =>
      have hk : k < σ.n := hc
      show O.ins _ (wayFs _ ((grown σ p).ca k).c _ _ ((grown σ p).ca k).y) = O.ins _ (wayFs _ (σ.ca k).c _ _ (σ.ca k).y)
      rw [hne k hk, newLoc_old (c := .chain k) hk, newLoc_old (c := .leads k) hk]
      rfl
    | chain k =>
      show O.lst (intsW ((grown σ p).ca k).y.chain) = O.lst (intsW (σ.ca k).y.chain)
      rw [hne k hc]
    | leads k =>
      show O.lst (((grown σ p).ca k).y.leads.map pairW) = O.lst ((σ.ca k).y.leads.map pairW)
      rw [hne k hc]
    | ppl k =>
      show O.lst (intsW ((grown σ p).ca k).ppl) = O.lst (intsW (σ.ca k).ppl)
      rw [hne k hc]
    | book => rfl
    | dict => rfl
  have hs : (grown σ p).ca σ.n = Ca.new p := if_pos rfl
  refine ⟨fun c hc => ?_, fun c d hc hd e => ?_, ?_⟩
  · have hc : okC (σ.n + 1) c := hc
    by_cases ho : okC σ.n c
    · rw [newLoc_old ho, old c ho]
      exact get_app (h.at_ c ho)
    · rcases newLoc_new (loc := loc) (m := S.length) hc ho with ⟨rfl, e⟩ | ⟨rfl, e⟩ | ⟨rfl, e⟩ | ⟨rfl, e⟩ | ⟨rfl, e⟩
      · rw [e]
        show _ = some (O.ins _ (wayFs _ ((grown σ p).ca σ.n).c (newLoc loc σ.n S.length (.chain σ.n)) (newLoc loc σ.n S.length (.leads σ.n)) ((grown σ p).ca σ.n).y))
        rw [hs, show newLoc loc σ.n S.length (.chain σ.n) = S.length + 1 from if_pos rfl, show newLoc loc σ.n S.length (.leads σ.n) = S.length + 2 from if_pos rfl]
        exact nth_new0
      · rw [e]
        show _ = some (O.lst (intsW ((grown σ p).ca σ.n).y.chain))
        rw [hs]
        exact nth_new (i := 1)
      · rw [e]
        show _ = some (O.lst (((grown σ p).ca σ.n).y.leads.map pairW))
        rw [hs]
        exact nth_new (i := 2)
      · rw [e]
        show _ = some (O.ins _ (caFs _ σ.n ((grown σ p).ca σ.n)))
        rw [hs]
        unfold caFs
        rw [show newLoc loc σ.n S.length (.way σ.n) = S.length from if_pos rfl, show newLoc loc σ.n S.length (.ppl σ.n) = S.length + 4 from if_pos rfl]
        exact nth_new (i := 3)
      · rw [e]
        show _ = some (O.lst (intsW ((grown σ p).ca σ.n).ppl))
        rw [hs]
        exact nth_new (i := 4)
  · have hc : okC (σ.n + 1) c := hc
    have hd : okC (σ.n + 1) d := hd
    by_cases ho : okC σ.n c
    · by_cases hp : okC σ.n d
      · rw [newLoc_old ho, newLoc_old hp] at e
        exact h.inj c d ho hp e
      · have l := h.lt ho
        rw [newLoc_old ho] at e
        rcases newLoc_new (loc := loc) (m := S.length) hd hp with ⟨_, z⟩ | ⟨_, z⟩ | ⟨_, z⟩ | ⟨_, z⟩ | ⟨_, z⟩ <;> (rw [z] at e; omega)
    · by_cases hp : okC σ.n d
      · have l := h.lt hp
        rw [newLoc_old hp] at e
        rcases newLoc_new (loc := loc) (m := S.length) hc ho with ⟨_, z⟩ | ⟨_, z⟩ | ⟨_, z⟩ | ⟨_, z⟩ | ⟨_, z⟩ <;> (rw [z] at e; omega)
      · rcases newLoc_new (loc := loc) (m := S.length) hc ho with ⟨z1, z⟩ | ⟨z1, z⟩ | ⟨z1, z⟩ | ⟨z1, z⟩ | ⟨z1, z⟩ <;> rcases newLoc_new (loc := loc) (m := S.length) hd hp with ⟨y1, y⟩ | ⟨y1, y⟩ | ⟨y1, y⟩ | ⟨y1, y⟩ | ⟨y1, y⟩ <;> (rw [z, y] at e; first | omega | rw [z1, y1])
  · exact ⟨fun k hk => Nat.lt_succ_of_lt (h.vd.op k hk), fun r h0 h5 => by
      have v := h.vd.ph r h0 h5
      exact ⟨fun k e => Nat.lt_succ_of_lt (v.1 k e), fun k e => Nat.lt_succ_of_lt (v.2.1 k e), fun k e => Nat.lt_succ_of_lt (v.2.2 k e)⟩⟩
theorem at_phs {loc : Pl} {p : Int} (h0 : 0 ≤ p) (h5 : p ≤ 5) : atI ((List.range 6).map fun i : Nat => W.ref (loc (.ph (i : Int)))) p = some (.ref (loc (.ph p))) := by
  obtain ⟨n, rfl⟩ : ∃ n : Nat, p = n := ⟨p.toNat, by omega⟩
  have hn : n < 6 := by omega
  unfold atI ixN
  rw [if_pos h0, List.length_map, List.length_range, if_pos (by omega)]
  show ((List.range 6).map fun i : Nat => W.ref (loc (.ph (i : Int))))[((n : Int)).toNat]? = _
  rw [Int.toNat_natCast, List.getElem?_map, List.getElem?_range hn]
  rfl
theorem wS.imp {X : Cx} {Ψ : AX} {E : AEnv} {S : Sto} {st : Stmt} {A A' : AE} (h : wS X Ψ st E S A) (g1 : ∀ w S', A.nx w S' → A'.nx w S') (g2 : ∀ w S', A.rt w S' → A'.rt w S') (g3 : ∀ w S', A.bk w S' → A'.bk w S') (g4 : ∀ w S', A.ct w S' → A'.ct w S') : wS X Ψ st E S A' :=
  ⟨fun M σ H r ev x D q => h.run M σ H r ev x D ⟨fun σ E M2 S2 H2 p => q.nx σ E M2 S2 H2 (g1 _ _ p), fun v w M2 S2 H2 p => q.rt v w M2 S2 H2 (g2 _ _ p), fun σ E M2 S2 H2 p => q.bk σ E M2 S2 H2 (g3 _ _ p), fun σ E M2 S2 H2 p => q.ct σ E M2 S2 H2 (g4 _ _ p)⟩⟩
theorem wS_cut {X : Cx} {Ψ : AX} {E : AEnv} {S : Sto} {st : Stmt} {A : AE} (I : AEnv → Sto → Prop) (h : wS X Ψ st E S { A with nx := I }) (q : ∀ E1 S1, I E1 S1 → A.nx E1 S1) : wS X Ψ st E S A := h.imp q (fun _ _ z => z) (fun _ _ z => z) fun _ _ z => z
theorem wS.less {X : Cx} {Ψ : AX} {E : AEnv} {S S1 : Sto} {st : Stmt} {A : AE} (i : Imp S S1) (h : wS X Ψ st E S1 A) : wS X Ψ st E S A := ⟨fun M σ H r ev x D q => h.run M σ H (i _ _ r) ev x D q⟩
/-! ### fields put -/
theorem fpB0 {loc : Pl} {q : Ph} : putFW "bell" .non (phFs loc q) = phFs loc { q with bell := none } := by kernel_rfl
theorem fpN0 {loc : Pl} {q : Ph} : putFW "now" .non (phFs loc q) = phFs loc { q with now := none } := by kernel_rfl
theorem fpK0 {loc : Pl} {q : Ph} : putFW "kept" .non (phFs loc q) = phFs loc { q with kept := none } := by kernel_rfl
theorem fpN1 {loc : Pl} {q : Ph} {k : Nat} : putFW "now" (.ref (loc (.ca k))) (phFs loc q) = phFs loc { q with now := some k } := by kernel_rfl
theorem fpB1 {loc : Pl} {q : Ph} {k : Nat} : putFW "bell" (.ref (loc (.ca k))) (phFs loc q) = phFs loc { q with bell := some k } := by kernel_rfl
theorem ov_tt {q : Ph} {k : Nat} (h1 : q.now = some k) (h2 : q.kept = some k) : (⟨q.up, none, none, q.bell, "busy"⟩ : Ph) = (q.ov1 k).ov2 k := by
  unfold Ph.ov1
  rw [if_pos h1]
  unfold Ph.ov2
  rw [if_pos (show q.kept = some k from h2)]
theorem ov_tf {q : Ph} {k : Nat} (h1 : q.now = some k) (h2 : ¬ q.kept = some k) : (⟨q.up, none, q.kept, q.bell, "busy"⟩ : Ph) = (q.ov1 k).ov2 k := by
  unfold Ph.ov1
  rw [if_pos h1]
  unfold Ph.ov2
  rw [if_neg (show ¬ q.kept = some k from h2)]
theorem ov_ft {q : Ph} {k : Nat} (h1 : ¬ q.now = some k) (h2 : q.kept = some k) : (⟨q.up, q.now, none, q.bell, q.tone⟩ : Ph) = (q.ov1 k).ov2 k := by
  unfold Ph.ov1
  rw [if_neg h1]
  unfold Ph.ov2
  rw [if_pos h2]
theorem ov_ff {q : Ph} {k : Nat} (h1 : ¬ q.now = some k) (h2 : ¬ q.kept = some k) : (q.ov1 k).ov2 k = q := by
  unfold Ph.ov1
  rw [if_neg h1]
  unfold Ph.ov2
  rw [if_neg h2]
theorem fpB {loc : Pl} {q : Ph} {o : Option Nat} : putFW "bell" (rfW loc o) (phFs loc q) = phFs loc { q with bell := o } := by kernel_rfl
theorem fpN {loc : Pl} {q : Ph} {o : Option Nat} : putFW "now" (rfW loc o) (phFs loc q) = phFs loc { q with now := o } := by kernel_rfl
theorem fpK {loc : Pl} {q : Ph} {o : Option Nat} : putFW "kept" (rfW loc o) (phFs loc q) = phFs loc { q with kept := o } := by kernel_rfl
theorem fpU {loc : Pl} {q : Ph} {b : Bool} : putFW "is_up" (.bl b) (phFs loc q) = phFs loc { q with up := b } := by kernel_rfl
theorem fpT {loc : Pl} {q : Ph} {t : Str} : putFW "tone" (.str t) (phFs loc q) = phFs loc { q with tone := t } := by kernel_rfl
theorem fcA {loc : Pl} {k : Nat} {c : Ca} {a : Int} : putFW "age" (.int a) (caFs loc k c) = caFs loc k { c with age := a } := by kernel_rfl
theorem fcT {loc : Pl} {k : Nat} {c : Ca} {b : Bool} : putFW "is_talk" (.bl b) (caFs loc k c) = caFs loc k { c with talk := b } := by kernel_rfl
theorem fwE0 {jb : Nat} {c : Int} {ch ld : Nat} {y : Wy} : putFW "ears" (.tup []) (wayFs jb c ch ld y) = wayFs jb c ch ld y.noEars := by kernel_rfl
theorem fwE {jb : Nat} {c : Int} {ch ld : Nat} {y : Wy} {l : List Int} : putFW "ears" (.tup (intsW l)) (wayFs jb c ch ld y) = wayFs jb c ch ld { y with ears := l } := by kernel_rfl

-- HH2
theorem HallAt.app {C : Cs} {S T : Sto} {loc : Pl} {xs : List Wish} {σ : Hl} (h : HallAt C S loc xs σ) : HallAt C (S ++ T) loc xs σ := ⟨fun c hc => get_app (h.at_ c hc), h.inj, h.vd⟩
theorem Nx.app {loc loc' : Pl} {n n' : Nat} {S S' T : Sto} (h : Nx loc loc' n n' S S') : Nx loc loc' n n' S (S' ++ T) where
  len := by rw [List.length_append]; have := h.len; omega
  le := h.le
  same := h.same
  new := h.new
  off := fun i hi hc => by
    have := h.len
    rw [List.getElem?_append_left (by omega)]
    exact h.off i hi hc
theorem Fr.grow {C : Cs} {S S' : Sto} {loc : Pl} {n : Nat} {p : Int} {jb : Nat} (fr : Fr (newLoc loc n S.length) (n + 1) (S ++ moreO C jb S.length p) S') : Nx loc (newLoc loc n S.length) n (n + 1) S S' where
  len := by rw [fr.len, List.length_append]; omega
  le := Nat.le_succ n
  same := fun c hc => newLoc_old hc
  new := fun c hc hn => by
    rcases newLoc_new (loc := loc) (m := S.length) hc hn with ⟨_, z⟩ | ⟨_, z⟩ | ⟨_, z⟩ | ⟨_, z⟩ | ⟨_, z⟩ <;> (rw [z]; omega)
  off := fun i hi hc => by
    rw [fr.off i fun c h2 => ?_, List.getElem?_append_left hi]
    by_cases e : okC n c
    · rw [newLoc_old e]
      exact hc c e
    · rcases newLoc_new (loc := loc) (m := S.length) h2 e with ⟨_, z⟩ | ⟨_, z⟩ | ⟨_, z⟩ | ⟨_, z⟩ | ⟨_, z⟩ <;> (rw [z]; omega)

-- HH3
/-! ### a hall that is new -/
def iniLoc (m : Nat) : Pl := fun c => match c with
  | .hall => m
  | .book => m + 1
  | .dict => m + 2
  | .ph p => m + 3 + p.toNat
  | .calls => m + 9
  | _ => m
def iniO (C : Cs) (m : Nat) (xs : List Wish) : Sto :=
  [.ins C.CH [("book", .ref (m + 1)), ("phones", .lst ((List.range 6).map fun i : Nat => W.ref (m + 3 + i))), ("calls", .ref (m + 9))], .ins C.CB [("wanted", .ref (m + 2))], .dt (bookD xs)] ++
  (List.replicate 6 (.ins C.CP [("is_up", .bl false), ("now", .non), ("kept", .non), ("bell", .non), ("tone", .str "quiet")]) ++ [.lst []])
theorem HallAt.ini {C : Cs} {S : Sto} {xs : List Wish} : HallAt C (S ++ iniO C S.length xs) (iniLoc S.length) xs Hl.new := by
  have at' : ∀ i, (S ++ iniO C S.length xs)[S.length + i]? = (iniO C S.length xs)[i]? := fun i => by
    rw [List.getElem?_append_right (by omega)]
    congr 1
    omega
  refine ⟨fun c hc => ?_, fun c d hc hd e => ?_, ⟨fun k hk => (by cases hk), fun p _ _ => ⟨fun k z => (by cases z), fun k z => (by cases z), fun k z => (by cases z)⟩⟩⟩
  · cases c with
    | hall => exact (at' 0).trans rfl
    | book => exact (at' 1).trans rfl
    | dict => exact (at' 2).trans rfl
    | calls => exact (at' 9).trans rfl
    | ph p =>
      obtain ⟨h0, h5⟩ : 0 ≤ p ∧ p ≤ 5 := hc
      have h : p = 0 ∨ p = 1 ∨ p = 2 ∨ p = 3 ∨ p = 4 ∨ p = 5 := by omega
      rcases h with rfl | rfl | rfl | rfl | rfl | rfl
      · exact (at' 3).trans rfl
      · exact (at' 4).trans rfl
      · exact (at' 5).trans rfl
      · exact (at' 6).trans rfl
      · exact (at' 7).trans rfl
      · exact (at' 8).trans rfl
    | ca k => exact absurd hc (Nat.not_lt_zero k)
    | way k => exact absurd hc (Nat.not_lt_zero k)
    | chain k => exact absurd hc (Nat.not_lt_zero k)
    | leads k => exact absurd hc (Nat.not_lt_zero k)
    | ppl k => exact absurd hc (Nat.not_lt_zero k)
  · have nk : ∀ k : Nat, ¬ k < (Hl.new).n := fun k => Nat.not_lt_zero k
    cases c <;> cases d <;> first
      | rfl
      | exact absurd hc (nk _)
      | exact absurd hd (nk _)
      | (exfalso; simp only [iniLoc] at e; simp only [okC] at hc hd; omega)
      | (simp only [iniLoc] at e; simp only [okC] at hc hd; congr 1; omega)
/-! ### ways that go on -/
/-- how far a way may be when a call goes on -/
structure WyOk (y : Wy) : Prop where
  nd : y.chain.Nodup
  ph : ∀ p ∈ y.chain, 0 ≤ p ∧ p ≤ 5
  ld : y.leads.length ≤ y.chain.length
theorem WyOk.len {y : Wy} (h : WyOk y) : y.chain.length ≤ 6 := phones_len h.nd h.ph
theorem pair_nodup {l : List Int} (h : l.Pairwise (· < ·)) : l.Nodup := h.imp fun h => Int.ne_of_lt h
theorem ms_pairwise : ∀ {l : List Int}, (∀ (k : Nat) (a b : Int), l[k]? = some a → l[k + 1]? = some b → a < b) → l.Pairwise (· < ·)
  | [], _ => .nil
  | [a], _ => by simp
  | a :: b :: l, h => by
    have ih := ms_pairwise (l := b :: l) fun k x y h1 h2 => h (k + 1) x y (by simpa using h1) (by simpa using h2)
    have hab : a < b := h 0 a b rfl rfl
    refine List.pairwise_cons.mpr ⟨fun x hx => ?_, ih⟩
    rcases List.mem_cons.mp hx with rfl | hx
    · exact hab
    · exact Int.lt_trans hab ((List.pairwise_cons.mp ih).1 x hx)
theorem members_nodup {xs : List Wish} (ho : ∀ x ∈ xs, x.ok) {g : Int} : (membersF xs g).Nodup := by
  unfold membersF
  cases e : getB xs [.inr "group", .inl g] with
  | none => exact List.nodup_nil
  | some x =>
    cases x with
    | group g' ms =>
      have := ho _ (getB_key e).2
      exact pair_nodup (ms_pairwise this.2.2.2.2.2)
    | _ => exact List.nodup_nil
/-- who may ring, or be knocked at -/
def mayRing (st kn : List Bool) (e : Int) : Prop := 0 ≤ e ∧ e ≤ 5 ∧ (busyF st e = false ∨ kn.getD e.toNat default = true)
structure GoOk (st kn : List Bool) (y' : Wy) : Prop where
  wy : WyOk y'
  er : ∀ e ∈ y'.ears, mayRing st kn e
  nd : y'.ears.Nodup
  ld : y'.ears ≠ [] → y'.group = none → y'.leads.length < y'.chain.length
theorem next_ears {xs : List Wish} {c p : Int} {st kn : List Bool} {w : Str} {l : List Int} (h0 : 0 ≤ p) (h5 : p ≤ 5) (h : nextF xs c p st kn = .inr (w, l)) : (∀ e ∈ l, mayRing st kn e) ∧ l.Nodup := by
  unfold nextF at h
  split at h
  · cases h; exact ⟨fun e he => (by cases he), List.nodup_nil⟩
  · split at h
    · cases h
    · split at h
      · cases h; exact ⟨fun e he => (by cases he), List.nodup_nil⟩
      · split at h
        · rename_i hb
          cases h
          refine ⟨fun e he => ?_, by simp⟩
          rw [List.mem_singleton.mp he]
          simp only [Bool.and_eq_true, Bool.not_eq_true'] at hb
          exact ⟨h0, h5, .inl hb.2⟩
        · split at h
          · rename_i hb
            cases h
            refine ⟨fun e he => ?_, by simp⟩
            rw [List.mem_singleton.mp he]
            simp only [Bool.and_eq_true] at hb
            exact ⟨h0, h5, .inr hb.2.2⟩
          · split at h
            · cases h
            · cases h; exact ⟨fun e he => (by cases he), List.nodup_nil⟩
theorem snoc_ok {y : Wy} (hy : WyOk y) {n : Int} (h0 : 0 ≤ n) (h5 : n ≤ 5) (hn : n ∉ y.chain) : (y.chain ++ [n]).Nodup ∧ ∀ p ∈ y.chain ++ [n], 0 ≤ p ∧ p ≤ 5 := by
  refine ⟨List.nodup_append.mpr ⟨hy.nd, by simp, fun a ha b hb => ?_⟩, fun p hp => ?_⟩
  · rw [List.mem_singleton.mp hb]
    intro z
    exact hn (z ▸ ha)
  · rcases List.mem_append.mp hp with hp | hp
    · exact hy.ph p hp
    · rw [List.mem_singleton.mp hp]
      exact ⟨h0, h5⟩
theorem go_ok {xs : List Wish} (ho : ∀ x ∈ xs, x.ok) {c : Int} {st kn : List Bool} : ∀ (f : Nat) (y : Wy) (n : Int), WyOk y → y.ears = [] → y.group = none → 0 ≤ n → n ≤ 7 → GoOk st kn (goF xs c st kn f y n)
  | 0, y, n, hy, he, hg, _, _ => ⟨hy, fun e h => (by rw [goF, he] at h; cases h), by rw [goF, he]; exact List.nodup_nil, fun h => absurd he h⟩
  | f + 1, y, n, hy, he, hg, h0, h7 => by
    rw [goF]
    unfold stepF
    by_cases h6 : 6 ≤ n
    · rw [if_pos h6]
      refine ⟨⟨hy.nd, hy.ph, hy.ld⟩, fun e hm => ?_, ?_, fun _ h => nomatch h⟩
      · have hm : e ∈ ringsF xs c n st := hm
        unfold ringsF at hm
        obtain ⟨h1, h2⟩ := List.mem_filter.mp hm
        have := members_ok ho h1
        unfold ringsOk at h2
        simp only [Bool.and_eq_true, Bool.not_eq_true'] at h2
        exact ⟨this.1, this.2, .inl h2.2⟩
      · show (ringsF xs c n st).Nodup
        unfold ringsF
        exact (members_nodup ho).filter _
    · rw [if_neg h6]
      by_cases hn : n ∈ y.chain
      · rw [if_pos hn]
        exact ⟨⟨hy.nd, hy.ph, hy.ld⟩, fun e hm => (by cases hm), List.nodup_nil, fun h => absurd rfl h⟩
      · rw [if_neg hn]
        have h5 : n ≤ 5 := by omega
        obtain ⟨s1, s2⟩ := snoc_ok hy h0 h5 hn
        cases e : nextF xs c n st kn with
        | inl g =>
          have hq := next_ok ho e
          refine go_ok ho f _ g ⟨s1, s2, ?_⟩ he hg hq.1 hq.2
          show (y.leads ++ [(n, g)]).length ≤ (y.chain ++ [n]).length
          have := hy.ld
          simp only [List.length_append, List.length_singleton]
          omega
        | inr r =>
          obtain ⟨w, l⟩ := r
          obtain ⟨q1, q2⟩ := next_ears h0 h5 e
          refine ⟨⟨s1, s2, ?_⟩, q1, q2, fun _ _ => ?_⟩
          · show y.leads.length ≤ (y.chain ++ [n]).length
            have := hy.ld
            simp only [List.length_append, List.length_singleton]
            omega
          · show y.leads.length < (y.chain ++ [n]).length
            have := hy.ld
            simp only [List.length_append, List.length_singleton]
            omega
/-! ### what holds of a hall -/
structure CaOk (E : Int → Nat → Prop) (L : Nat → Prop) (σ : Hl) (k : Nat) : Prop where
  ppn : (σ.ca k).ppl.Nodup
  pph : ∀ p ∈ (σ.ca k).ppl, 0 ≤ p ∧ p ≤ 5 ∧ ((σ.ph p).now = some k ∨ (σ.ph p).kept = some k ∨ E p k)
  ern : (σ.ca k).y.ears.Nodup
  erh : ∀ p ∈ (σ.ca k).y.ears, 0 ≤ p ∧ p ≤ 5 ∧ (σ.ph p).bell = some k
  tk : (σ.ca k).talk = true → (σ.ca k).y.ears = [] ∧ 2 ≤ (σ.ca k).ppl.length
  nt : (σ.ca k).talk = false → (σ.ca k).ppl = [(σ.ca k).c] ∧ ((σ.ph (σ.ca k).c).now = some k ∨ E (σ.ca k).c k) ∧ WyOk (σ.ca k).y ∧ ((σ.ca k).y.group = none → (σ.ca k).y.leads.length < (σ.ca k).y.chain.length ∨ L k) ∧ ((σ.ca k).y.ears = [] → L k)
structure InvG (E : Int → Nat → Prop) (L : Nat → Prop) (σ : Hl) : Prop where
  opn : σ.op.Nodup
  opl : ∀ k ∈ σ.op, k < σ.n
  now : ∀ p k, 0 ≤ p → p ≤ 5 → (σ.ph p).now = some k → k ∈ σ.op ∧ p ∈ (σ.ca k).ppl
  kept : ∀ p k, 0 ≤ p → p ≤ 5 → (σ.ph p).kept = some k → k ∈ σ.op ∧ p ∈ (σ.ca k).ppl ∧ (σ.ca k).talk = true
  bell : ∀ p k, 0 ≤ p → p ≤ 5 → (σ.ph p).bell = some k → k ∈ σ.op ∧ p ∈ (σ.ca k).y.ears
  nk : ∀ p k, 0 ≤ p → p ≤ 5 → (σ.ph p).now = some k → (σ.ph p).kept ≠ some k
  dn : ∀ p, 0 ≤ p → p ≤ 5 → (σ.ph p).up = false → (σ.ph p).now = none ∧ (σ.ph p).kept = none
  ca : ∀ k ∈ σ.op, CaOk E L σ k
abbrev noE : Int → Nat → Prop := fun _ _ => False
abbrev noL : Nat → Prop := fun _ => False
abbrev Inv (σ : Hl) : Prop := InvG noE noL σ
theorem sil_now {q : Ph} {k : Nat} : (q.sil k).now = q.now := by unfold Ph.sil; split <;> rfl
theorem sil_kept {q : Ph} {k : Nat} : (q.sil k).kept = q.kept := by unfold Ph.sil; split <;> rfl
theorem sil_up {q : Ph} {k : Nat} : (q.sil k).up = q.up := by unfold Ph.sil; split <;> rfl
theorem sil_bell {q : Ph} {k j : Nat} : (q.sil k).bell = some j ↔ q.bell = some j ∧ j ≠ k := by
  unfold Ph.sil
  split
  · rename_i h
    constructor
    · intro z; cases z
    · rintro ⟨z, ne⟩
      rw [h] at z
      cases z
      exact absurd rfl ne
  · rename_i h
    constructor
    · intro z
      exact ⟨z, fun e => h (by rw [z, e])⟩
    · exact fun z => z.1
/-- all but what concerns a call that is to be over -/
structure InvX (E : Int → Nat → Prop) (L : Nat → Prop) (σ : Hl) (k : Nat) : Prop where
  opn : σ.op.Nodup
  opl : ∀ j ∈ σ.op, j < σ.n
  now : ∀ p j, 0 ≤ p → p ≤ 5 → j ≠ k → (σ.ph p).now = some j → j ∈ σ.op ∧ p ∈ (σ.ca j).ppl
  kept : ∀ p j, 0 ≤ p → p ≤ 5 → j ≠ k → (σ.ph p).kept = some j → j ∈ σ.op ∧ p ∈ (σ.ca j).ppl ∧ (σ.ca j).talk = true
  bell : ∀ p j, 0 ≤ p → p ≤ 5 → j ≠ k → (σ.ph p).bell = some j → j ∈ σ.op ∧ p ∈ (σ.ca j).y.ears
  nk : ∀ p j, 0 ≤ p → p ≤ 5 → j ≠ k → (σ.ph p).now = some j → (σ.ph p).kept ≠ some j
  dn : ∀ p, 0 ≤ p → p ≤ 5 → (σ.ph p).up = false → (σ.ph p).now = none ∧ (σ.ph p).kept = none
  ca : ∀ j ∈ σ.op, j ≠ k → CaOk E L σ j
theorem InvG.x {E : Int → Nat → Prop} {L : Nat → Prop} {σ : Hl} (h : InvG E L σ) (k : Nat) : InvX E L σ k :=
  ⟨h.opn, h.opl, fun p j a b _ => h.now p j a b, fun p j a b _ => h.kept p j a b, fun p j a b _ => h.bell p j a b, fun p j a b _ => h.nk p j a b, h.dn, fun j hj _ => h.ca j hj⟩
/-! ### a call is taken -/
theorem CaOk.mk' {E : Int → Nat → Prop} {L : Nat → Prop} {σ : Hl} {k : Nat} {c : Ca} (e : σ.ca k = c) (ppn : c.ppl.Nodup) (pph : ∀ p ∈ c.ppl, 0 ≤ p ∧ p ≤ 5 ∧ ((σ.ph p).now = some k ∨ (σ.ph p).kept = some k ∨ E p k))
    (ern : c.y.ears.Nodup) (erh : ∀ p ∈ c.y.ears, 0 ≤ p ∧ p ≤ 5 ∧ (σ.ph p).bell = some k) (tk : c.talk = true → c.y.ears = [] ∧ 2 ≤ c.ppl.length)
    (nt : c.talk = false → c.ppl = [c.c] ∧ ((σ.ph c.c).now = some k ∨ E c.c k) ∧ WyOk c.y ∧ (c.y.group = none → c.y.leads.length < c.y.chain.length ∨ L k) ∧ (c.y.ears = [] → L k)) : CaOk E L σ k := by
  subst e
  exact ⟨ppn, pph, ern, erh, tk, nt⟩
/-! ### talks are one -/
/-! ### a call goes on -/
/-- what a call must be to go on -/
structure Limbo (σ : Hl) (k : Nat) : Prop where
  inv : InvG noE (· = k) σ
  mem : k ∈ σ.op
  tk : (σ.ca k).talk = false
  er : (σ.ca k).y.ears = []
  gr : (σ.ca k).y.group = none
theorem Limbo.wy {σ : Hl} {k : Nat} (h : Limbo σ k) : WyOk (σ.ca k).y := ((h.inv.ca k h.mem).nt h.tk).2.2.1
theorem Limbo.go {σ : Hl} {k : Nat} {xs : List Wish} {g : Int} (h : Limbo σ k) (ho : ∀ x ∈ xs, x.ok) (g0 : 0 ≤ g) (g7 : g ≤ 7) : GoOk (stF σ) (knF σ) (onY σ xs k g) :=
  go_ok ho _ _ _ h.wy h.er h.gr g0 g7
theorem late_ok {xs : List Wish} (ho : ∀ x ∈ xs, x.ok) {p t g : Int} (h : lateB xs p = some (t, g)) : 0 ≤ g ∧ g ≤ 7 := by
  unfold lateB at h
  split at h
  · rename_i q g' t' e
    cases h
    have := ho _ (getB_key e).2
    exact ⟨this.2.2.1, this.2.2.2.1⟩
  · cases h
theorem late_limbo {σ : Hl} {k : Nat} {p g : Int} (h : Inv σ) (hk : k ∈ σ.op) (ht : (σ.ca k).talk = false) (hg : (σ.ca k).y.group = none) : Limbo (late0 σ k p g) k := by
  have ek : (late0 σ k p g).ca k = { (σ.ca k).noEars with y := { (σ.ca k).y.noEars with leads := (σ.ca k).y.leads ++ [(p, g)] } } := if_pos rfl
  have ej : ∀ j, j ≠ k → (late0 σ k p g).ca j = σ.ca j := fun j ne => by
    show (if j = k then _ else (if j = k then _ else σ.ca j)) = _
    rw [if_neg ne, if_neg ne]
  have ep : ∀ r, (late0 σ k p g).ph r = (σ.ph r).sil k := fun r => rfl
  refine ⟨⟨h.opn, h.opl, fun r j r0 r5 e => ?_, fun r j r0 r5 e => ?_, fun r j r0 r5 e => ?_, fun r j r0 r5 e y => ?_, fun r r0 r5 e => ?_, fun j hj => ?_⟩, hk, by rw [ek]; exact ht, by rw [ek]; rfl, by rw [ek]; exact hg⟩
  · rw [ep, sil_now] at e
    obtain ⟨q1, q2⟩ := h.now r j r0 r5 e
    refine ⟨q1, ?_⟩
    by_cases ne : j = k
    · subst ne; rw [ek]; exact q2
    · rw [ej j ne]; exact q2
  · rw [ep, sil_kept] at e
    obtain ⟨q1, q2⟩ := h.kept r j r0 r5 e
    refine ⟨q1, ?_⟩
    by_cases ne : j = k
    · subst ne; rw [ek]; exact q2
    · rw [ej j ne]; exact q2
  · rw [ep, sil_bell] at e
    rw [ej j e.2]
    exact h.bell r j r0 r5 e.1
  · rw [ep, sil_now] at e
    rw [ep, sil_kept] at y
    exact h.nk r j r0 r5 e y
  · rw [ep, sil_up] at e
    rw [ep, sil_now, sil_kept]
    exact h.dn r r0 r5 e
  · have hj : j ∈ σ.op := hj
    have c := h.ca j hj
    by_cases ne : j = k
    · subst ne
      obtain ⟨z1, z2, z3, z4, z5⟩ := c.nt ht
      refine CaOk.mk' ek c.ppn (fun r hr => ?_) List.nodup_nil (fun r hr => nomatch hr) (fun z => ?_) (fun z => ?_)
      · rw [ep, sil_now, sil_kept]
        obtain ⟨r0, r5, z⟩ := c.pph r hr
        exact ⟨r0, r5, z.imp id fun z => z.imp id fun z => z.elim⟩
      · have z : (σ.ca j).talk = true := z
        rw [ht] at z
        cases z
      · refine ⟨z1, ?_, ⟨z3.nd, z3.ph, ?_⟩, fun _ => .inr rfl, fun _ => rfl⟩
        · rw [ep, sil_now]
          exact z2.imp id fun z => z.elim
        · have q := (z4 hg).elim id fun z => z.elim
          show ((σ.ca j).y.leads ++ [(p, g)]).length ≤ (σ.ca j).y.chain.length
          rw [List.length_append, List.length_singleton]
          exact q
    · refine CaOk.mk' (ej j ne) c.ppn (fun r hr => ?_) c.ern (fun r hr => ?_) c.tk (fun z => ?_)
      · rw [ep, sil_now, sil_kept]
        obtain ⟨r0, r5, z⟩ := c.pph r hr
        exact ⟨r0, r5, z.imp id fun z => z.imp id fun z => z.elim⟩
      · obtain ⟨r0, r5, z⟩ := c.erh r hr
        refine ⟨r0, r5, ?_⟩
        rw [ep, sil_bell]
        exact ⟨z, ne⟩
      · obtain ⟨z1, z2, z3, z4, z5⟩ := c.nt z
        refine ⟨z1, ?_, z3, fun w => (z4 w).imp id (fun x => x.elim), fun w => (z5 w).elim⟩
        rw [ep, sil_now]
        exact z2.imp id fun z => z.elim
def top (i : Nat) : Stmt := PySem.Challenge.pw_phonehall_k01_wishes_refused.main.body.getD i (.Pass ⟨0, 0, 0, 0⟩)
structure GL (mg : Str → Option Value) : Prop where
  b_isinstance : mg "isinstance" = none
  b_int : mg "int" = none
  b_bool : mg "bool" = none
  b_tuple : mg "tuple" = none
  b_str : mg "str" = none
  b_list : mg "list" = none
  b_len : mg "len" = none
  b_range : mg "range" = none
  b_enumerate : mg "enumerate" = none
  b_sorted : mg "sorted" = none
  c_PHONES : MgI mg "PHONES" 6
  c_NUMBERS : MgI mg "NUMBERS" 8
  c_MOST_LATE : MgI mg "MOST_LATE" 9
  c_MOST_WISHES : MgI mg "MOST_WISHES" 24
  c_ALL : MgS mg "ALL" "all"
  c_BUSY : MgS mg "BUSY" "busy"
  c_LATE : MgS mg "LATE" "late"
  c_WAIT : MgS mg "WAIT" "wait"
  c_STILL : MgS mg "STILL" "still"
  c_BAR : MgS mg "BAR" "bar"
  c_GROUP : MgS mg "GROUP" "group"
  c_FREE : MgS mg "FREE" "free"
  c_RINGS : MgS mg "RINGS" "rings"
  c_KNOCKS : MgS mg "KNOCKS" "knocks"
  c_BARRED : MgS mg "BARRED" "barred"
  c_ROUND : MgS mg "ROUND" "round"
  c_NOBODY : MgS mg "NOBODY" "nobody"
  c_QUIET : MgS mg "QUIET" "quiet"
  c_DIAL : MgS mg "DIAL" "dial"
  c_BELL : MgS mg "BELL" "bell"
  c_TALK : MgS mg "TALK" "talk"
  c_MUSIC : MgS mg "MUSIC" "music"
  c_MOST_AGE : MgI mg "MOST_AGE" 12
  c_MOST_DEEDS : MgI mg "MOST_DEEDS" 200
  c_WISH : MgS mg "WISH" "wish"
section
abbrev s_BadWish_init : Stmt := (inClass (top 3) 0)
theorem sc_BadWish_init : FnScope ["self", "number"] ["self", "number"] (defScope s_BadWish_init) := ⟨rfl, rfl, rfl, by decide +kernel, rfl, by decide +kernel, by decide +kernel⟩
abbrev s_BadDeed_init : Stmt := (inClass (top 8) 0)
theorem sc_BadDeed_init : FnScope ["self", "number"] ["self", "number"] (defScope s_BadDeed_init) := ⟨rfl, rfl, rfl, by decide +kernel, rfl, by decide +kernel, by decide +kernel⟩
abbrev s_BadText_init : Stmt := (inClass (top 9) 0)
theorem sc_BadText_init : FnScope ["self", "row"] ["self", "row"] (defScope s_BadText_init) := ⟨rfl, rfl, rfl, by decide +kernel, rfl, by decide +kernel, by decide +kernel⟩
abbrev s_is_number : Stmt := (top 24)
theorem sc_is_number : FnScope ["part", "low", "high"] ["part", "low", "high"] (defScope s_is_number) := ⟨rfl, rfl, rfl, by decide +kernel, rfl, by decide +kernel, by decide +kernel⟩
abbrev s_is_phone : Stmt := (top 25)
theorem sc_is_phone : FnScope ["part"] ["part"] (defScope s_is_phone) := ⟨rfl, rfl, rfl, by decide +kernel, rfl, by decide +kernel, by decide +kernel⟩
abbrev s_need_phone : Stmt := (top 26)
theorem sc_need_phone : FnScope ["phone"] ["phone"] (defScope s_need_phone) := ⟨rfl, rfl, rfl, by decide +kernel, rfl, by decide +kernel, by decide +kernel⟩
abbrev s_need_number : Stmt := (top 27)
theorem sc_need_number : FnScope ["number"] ["number"] (defScope s_need_number) := ⟨rfl, rfl, rfl, by decide +kernel, rfl, by decide +kernel, by decide +kernel⟩
abbrev s_need_states : Stmt := (top 28)
theorem sc_need_states : FnScope ["states", "state"] ["states"] (defScope s_need_states) := ⟨rfl, rfl, rfl, by decide +kernel, rfl, by decide +kernel, by decide +kernel⟩
abbrev s_are_members : Stmt := (top 29)
theorem sc_are_members : FnScope ["part", "one", "k"] ["part"] (defScope s_are_members) := ⟨rfl, rfl, rfl, by decide +kernel, rfl, by decide +kernel, by decide +kernel⟩
abbrev s_is_wish : Stmt := (top 30)
theorem sc_is_wish : FnScope ["wish", "word", "rest"] ["wish"] (defScope s_is_wish) := ⟨rfl, rfl, rfl, by decide +kernel, rfl, by decide +kernel, by decide +kernel⟩
abbrev s_key_of : Stmt := (top 31)
theorem sc_key_of : FnScope ["wish"] ["wish"] (defScope s_key_of) := ⟨rfl, rfl, rfl, by decide +kernel, rfl, by decide +kernel, by decide +kernel⟩
abbrev s_need_wishes : Stmt := (top 32)
theorem sc_need_wishes : FnScope ["wishes", "known", "number", "wish"] ["wishes"] (defScope s_need_wishes) := ⟨rfl, rfl, rfl, by decide +kernel, rfl, by decide +kernel, by decide +kernel⟩
abbrev s_Book_init : Stmt := (inClass (top 33) 0)
theorem sc_Book_init : FnScope ["self", "wishes", "wish"] ["self", "wishes"] (defScope s_Book_init) := ⟨rfl, rfl, rfl, by decide +kernel, rfl, by decide +kernel, by decide +kernel⟩
abbrev s_Book_has : Stmt := (inClass (top 33) 1)
theorem sc_Book_has : FnScope ["self", "word", "phone"] ["self", "word", "phone"] (defScope s_Book_has) := ⟨rfl, rfl, rfl, by decide +kernel, rfl, by decide +kernel, by decide +kernel⟩
abbrev s_Book_goal : Stmt := (inClass (top 33) 2)
theorem sc_Book_goal : FnScope ["self", "word", "phone"] ["self", "word", "phone"] (defScope s_Book_goal) := ⟨rfl, rfl, rfl, by decide +kernel, rfl, by decide +kernel, by decide +kernel⟩
abbrev s_Book_patience : Stmt := (inClass (top 33) 3)
theorem sc_Book_patience : FnScope ["self", "phone"] ["self", "phone"] (defScope s_Book_patience) := ⟨rfl, rfl, rfl, by decide +kernel, rfl, by decide +kernel, by decide +kernel⟩
abbrev s_Book_bars : Stmt := (inClass (top 33) 4)
theorem sc_Book_bars : FnScope ["self", "phone", "caller"] ["self", "phone", "caller"] (defScope s_Book_bars) := ⟨rfl, rfl, rfl, by decide +kernel, rfl, by decide +kernel, by decide +kernel⟩
abbrev s_Book_members : Stmt := (inClass (top 33) 5)
theorem sc_Book_members : FnScope ["self", "group"] ["self", "group"] (defScope s_Book_members) := ⟨rfl, rfl, rfl, by decide +kernel, rfl, by decide +kernel, by decide +kernel⟩
abbrev s_rings_at : Stmt := (top 40)
theorem sc_rings_at : FnScope ["book", "caller", "group", "states", "found", "phone", "may"] ["book", "caller", "group", "states"] (defScope s_rings_at) := ⟨rfl, rfl, rfl, by decide +kernel, rfl, by decide +kernel, by decide +kernel⟩
abbrev s_next_of : Stmt := (top 41)
theorem sc_next_of : FnScope ["book", "caller", "phone", "states", "knocks"] ["book", "caller", "phone", "states", "knocks"] (defScope s_next_of) := ⟨rfl, rfl, rfl, by decide +kernel, rfl, by decide +kernel, by decide +kernel⟩
abbrev s_Way_init : Stmt := (inClass (top 42) 0)
theorem sc_Way_init : FnScope ["self", "book", "caller"] ["self", "book", "caller"] (defScope s_Way_init) := ⟨rfl, rfl, rfl, by decide +kernel, rfl, by decide +kernel, by decide +kernel⟩
abbrev s_Way_go : Stmt := (inClass (top 42) 1)
theorem sc_Way_go : FnScope ["self", "number", "states", "knocks", "goal"] ["self", "number", "states", "knocks"] (defScope s_Way_go) := ⟨rfl, rfl, rfl, by decide +kernel, rfl, by decide +kernel, by decide +kernel⟩
abbrev s_Way_step : Stmt := (inClass (top 42) 2)
theorem sc_Way_step : FnScope ["self", "number", "states", "knocks", "found"] ["self", "number", "states", "knocks"] (defScope s_Way_step) := ⟨rfl, rfl, rfl, by decide +kernel, rfl, by decide +kernel, by decide +kernel⟩
abbrev s_led : Stmt := (top 43)
theorem sc_led : FnScope ["wishes", "caller", "number", "states", "way"] ["wishes", "caller", "number", "states"] (defScope s_led) := ⟨rfl, rfl, rfl, by decide +kernel, rfl, by decide +kernel, by decide +kernel⟩
abbrev s_way_of : Stmt := (top 45)
theorem sc_way_of : FnScope ["book", "call", "way"] ["book", "call"] (defScope s_way_of) := ⟨rfl, rfl, rfl, by decide +kernel, rfl, by decide +kernel, by decide +kernel⟩
abbrev s_had : Stmt := (top 46)
theorem sc_had : FnScope ["wish", "way", "call", "word", "phone", "wanted", "one"] ["wish", "way", "call"] (defScope s_had) := ⟨rfl, rfl, rfl, by decide +kernel, rfl, by decide +kernel, by decide +kernel⟩
abbrev s_wants : Stmt := (top 47)
theorem sc_wants : FnScope ["wishes", "wish", "caller", "number", "states", "call"] ["wishes", "wish", "caller", "number", "states"] (defScope s_wants) := ⟨rfl, rfl, rfl, by decide +kernel, rfl, by decide +kernel, by decide +kernel⟩
abbrev s_Call_init : Stmt := (inClass (top 55) 0)
theorem sc_Call_init : FnScope ["self", "way"] ["self", "way"] (defScope s_Call_init) := ⟨rfl, rfl, rfl, by decide +kernel, rfl, by decide +kernel, by decide +kernel⟩
abbrev s_Phone_init : Stmt := (inClass (top 56) 0)
theorem sc_Phone_init : FnScope ["self"] ["self"] (defScope s_Phone_init) := ⟨rfl, rfl, rfl, by decide +kernel, rfl, by decide +kernel, by decide +kernel⟩
abbrev s_Hall_init : Stmt := (inClass (top 57) 0)
theorem sc_Hall_init : FnScope ["self", "wishes", "number"] ["self", "wishes"] (defScope s_Hall_init) := ⟨rfl, rfl, rfl, by decide +kernel, rfl, by decide +kernel, by decide +kernel⟩
abbrev s_Hall_phone : Stmt := (inClass (top 57) 1)
theorem sc_Hall_phone : FnScope ["self", "number", "is_up", "found"] ["self", "number", "is_up"] (defScope s_Hall_phone) := ⟨rfl, rfl, rfl, by decide +kernel, rfl, by decide +kernel, by decide +kernel⟩
abbrev s_Hall_may_be_knocked_at : Stmt := (inClass (top 57) 2)
theorem sc_Hall_may_be_knocked_at : FnScope ["self", "number", "phone", "is_in_talk"] ["self", "number"] (defScope s_Hall_may_be_knocked_at) := ⟨rfl, rfl, rfl, by decide +kernel, rfl, by decide +kernel, by decide +kernel⟩
abbrev s_Hall_go_on : Stmt := (inClass (top 57) 3)
theorem sc_Hall_go_on : FnScope ["self", "call", "number", "states", "phone", "ear"] ["self", "call", "number"] (defScope s_Hall_go_on) := ⟨rfl, rfl, rfl, by decide +kernel, rfl, by decide +kernel, by decide +kernel⟩
abbrev s_Hall_knock_list : Stmt := (inClass (top 57) 4)
theorem sc_Hall_knock_list : FnScope ["self", "states", "number"] ["self", "states"] (defScope s_Hall_knock_list) := ⟨rfl, rfl, rfl, by decide +kernel, rfl, by decide +kernel, by decide +kernel⟩
abbrev s_Hall_silence : Stmt := (inClass (top 57) 5)
theorem sc_Hall_silence : FnScope ["self", "call", "phone"] ["self", "call"] (defScope s_Hall_silence) := ⟨rfl, rfl, rfl, by decide +kernel, rfl, by decide +kernel, by decide +kernel⟩
abbrev s_Hall_over : Stmt := (inClass (top 57) 6)
theorem sc_Hall_over : FnScope ["self", "call", "phone"] ["self", "call"] (defScope s_Hall_over) := ⟨rfl, rfl, rfl, by decide +kernel, rfl, by decide +kernel, by decide +kernel⟩
abbrev s_Hall_answer : Stmt := (inClass (top 57) 7)
theorem sc_Hall_answer : FnScope ["self", "call", "number"] ["self", "call", "number"] (defScope s_Hall_answer) := ⟨rfl, rfl, rfl, by decide +kernel, rfl, by decide +kernel, by decide +kernel⟩
abbrev s_Hall_leave : Stmt := (inClass (top 57) 8)
theorem sc_Hall_leave : FnScope ["self", "call", "number"] ["self", "call", "number"] (defScope s_Hall_leave) := ⟨rfl, rfl, rfl, by decide +kernel, rfl, by decide +kernel, by decide +kernel⟩
abbrev s_Hall_lift : Stmt := (inClass (top 57) 9)
theorem sc_Hall_lift : FnScope ["self", "number", "phone"] ["self", "number"] (defScope s_Hall_lift) := ⟨rfl, rfl, rfl, by decide +kernel, rfl, by decide +kernel, by decide +kernel⟩
abbrev s_Hall_dial : Stmt := (inClass (top 57) 10)
theorem sc_Hall_dial : FnScope ["self", "number", "goal", "phone", "call"] ["self", "number", "goal"] (defScope s_Hall_dial) := ⟨rfl, rfl, rfl, by decide +kernel, rfl, by decide +kernel, by decide +kernel⟩
abbrev s_Hall_drop : Stmt := (inClass (top 57) 11)
theorem sc_Hall_drop : FnScope ["self", "number", "phone", "now", "kept"] ["self", "number"] (defScope s_Hall_drop) := ⟨rfl, rfl, rfl, by decide +kernel, rfl, by decide +kernel, by decide +kernel⟩
abbrev s_Hall_need_talk : Stmt := (inClass (top 57) 12)
theorem sc_Hall_need_talk : FnScope ["self", "phone"] ["self", "phone"] (defScope s_Hall_need_talk) := ⟨rfl, rfl, rfl, by decide +kernel, rfl, by decide +kernel, by decide +kernel⟩
abbrev s_Hall_hold : Stmt := (inClass (top 57) 13)
theorem sc_Hall_hold : FnScope ["self", "number", "phone"] ["self", "number"] (defScope s_Hall_hold) := ⟨rfl, rfl, rfl, by decide +kernel, rfl, by decide +kernel, by decide +kernel⟩
abbrev s_Hall_swap : Stmt := (inClass (top 57) 14)
theorem sc_Hall_swap : FnScope ["self", "number", "phone"] ["self", "number"] (defScope s_Hall_swap) := ⟨rfl, rfl, rfl, by decide +kernel, rfl, by decide +kernel, by decide +kernel⟩
abbrev s_Hall_take : Stmt := (inClass (top 57) 15)
theorem sc_Hall_take : FnScope ["self", "number", "phone"] ["self", "number"] (defScope s_Hall_take) := ⟨rfl, rfl, rfl, by decide +kernel, rfl, by decide +kernel, by decide +kernel⟩
abbrev s_Hall_join : Stmt := (inClass (top 57) 16)
theorem sc_Hall_join : FnScope ["self", "number", "phone", "call", "other", "one"] ["self", "number"] (defScope s_Hall_join) := ⟨rfl, rfl, rfl, by decide +kernel, rfl, by decide +kernel, by decide +kernel⟩
abbrev s_Hall_beat : Stmt := (inClass (top 57) 17)
theorem sc_Hall_beat : FnScope ["self", "call"] ["self"] (defScope s_Hall_beat) := ⟨rfl, rfl, rfl, by decide +kernel, rfl, by decide +kernel, by decide +kernel⟩
abbrev s_Hall_late : Stmt := (inClass (top 57) 18)
theorem sc_Hall_late : FnScope ["self", "call", "way", "number", "goal"] ["self", "call"] (defScope s_Hall_late) := ⟨rfl, rfl, rfl, by decide +kernel, rfl, by decide +kernel, by decide +kernel⟩
abbrev s_Hall_hear : Stmt := (inClass (top 57) 19)
theorem sc_Hall_hear : FnScope ["self", "number", "phone", "people", "one"] ["self", "number"] (defScope s_Hall_hear) := ⟨rfl, rfl, rfl, by decide +kernel, rfl, by decide +kernel, by decide +kernel⟩
abbrev s_Hall_all_calls : Stmt := (inClass (top 57) 20)
theorem sc_Hall_all_calls : FnScope ["self"] ["self"] (defScope s_Hall_all_calls) := ⟨rfl, rfl, rfl, by decide +kernel, rfl, by decide +kernel, by decide +kernel⟩
abbrev s_is_deed : Stmt := (top 62)
theorem sc_is_deed : FnScope ["deed", "most", "k"] ["deed"] (defScope s_is_deed) := ⟨rfl, rfl, rfl, by decide +kernel, rfl, by decide +kernel, by decide +kernel⟩
abbrev s_need_deeds : Stmt := (top 63)
theorem sc_need_deeds : FnScope ["deeds", "number", "deed"] ["deeds"] (defScope s_need_deeds) := ⟨rfl, rfl, rfl, by decide +kernel, rfl, by decide +kernel, by decide +kernel⟩
abbrev s_do : Stmt := (top 64)
theorem sc_do : FnScope ["hall", "deed", "word"] ["hall", "deed"] (defScope s_do) := ⟨rfl, rfl, rfl, by decide +kernel, rfl, by decide +kernel, by decide +kernel⟩
abbrev s_played : Stmt := (top 65)
theorem sc_played : FnScope ["wishes", "deeds", "hall", "told", "deed", "phone"] ["wishes", "deeds"] (defScope s_played) := ⟨rfl, rfl, rfl, by decide +kernel, rfl, by decide +kernel, by decide +kernel⟩
abbrev s_words_of : Stmt := (top 66)
theorem sc_words_of : FnScope ["thing", "one", "part"] ["thing"] (defScope s_words_of) := ⟨rfl, rfl, rfl, by decide +kernel, rfl, by decide +kernel, by decide +kernel⟩
abbrev s_written : Stmt := (top 67)
theorem sc_written : FnScope ["wishes", "deeds", "wish", "deed"] ["wishes", "deeds"] (defScope s_written) := ⟨rfl, rfl, rfl, by decide +kernel, rfl, by decide +kernel, by decide +kernel⟩
abbrev s_law_taken : Stmt := (top 69)
theorem sc_law_taken : FnScope ["_law_row", "_law_many", "_law_cell"] ["_law_row", "_law_many"] (defScope s_law_taken) := ⟨rfl, rfl, rfl, by decide +kernel, rfl, by decide +kernel, by decide +kernel⟩
abbrev s_law_word : Stmt := (top 70)
theorem sc_law_word : FnScope ["_law_work", "_law_e", "_law_kinds", "_law_word_here"] ["_law_work"] (defScope s_law_word) := ⟨rfl, rfl, rfl, by decide +kernel, rfl, by decide +kernel, by decide +kernel⟩
abbrev s_law_goal : Stmt := (top 71)
theorem sc_law_goal : FnScope ["_law_row", "_law_phone", "_law_found"] ["_law_row", "_law_phone"] (defScope s_law_goal) := ⟨rfl, rfl, rfl, by decide +kernel, rfl, by decide +kernel, by decide +kernel⟩
abbrev s_law_wish : Stmt := (top 72)
theorem sc_law_wish : FnScope ["_law_row", "_law_word_here", "_law_phone", "_law_other", "_law_some", "_law_one"] ["_law_row"] (defScope s_law_wish) := ⟨rfl, rfl, rfl, by decide +kernel, rfl, by decide +kernel, by decide +kernel⟩
abbrev s_law_wishes : Stmt := (top 73)
theorem sc_law_wishes : FnScope ["_law_row", "_law_most", "_law_found", "_law_known", "_law_k", "_law_wish_here", "_law_key"] ["_law_row", "_law_most"] (defScope s_law_wishes) := ⟨rfl, rfl, rfl, by decide +kernel, rfl, by decide +kernel, by decide +kernel⟩
abbrev s_law_works : Stmt := (top 74)
theorem sc_law_works : FnScope ["_law_wishes_here", "_law_works_here"] ["_law_wishes_here"] (defScope s_law_works) := ⟨rfl, rfl, rfl, by decide +kernel, rfl, by decide +kernel, by decide +kernel⟩
abbrev s_law_odd : Stmt := (top 75)
theorem sc_law_odd : FnScope ["_law_row", "_law_wish_here", "_law_far", "_law_word_here", "_law_rest", "_law_way", "_law_some", "_law_at", "_law_most", "_law_bad"] ["_law_row", "_law_wish_here"] (defScope s_law_odd) := ⟨rfl, rfl, rfl, by decide +kernel, rfl, by decide +kernel, by decide +kernel⟩
abbrev s_law_again : Stmt := (top 76)
theorem sc_law_again : FnScope ["_law_row", "_law_wish_here"] ["_law_row", "_law_wish_here"] (defScope s_law_again) := ⟨rfl, rfl, rfl, by decide +kernel, rfl, by decide +kernel, by decide +kernel⟩
abbrev s_law_are : Stmt := (top 77)
theorem sc_law_are : FnScope ["_law_works_here", "_law_words", "_law_work"] ["_law_works_here", "_law_words"] (defScope s_law_are) := ⟨rfl, rfl, rfl, by decide +kernel, rfl, by decide +kernel, by decide +kernel⟩
abbrev s_law : Stmt := (top 78)
theorem sc_law : FnScope ["_law_script", "_law_row", "_law_turn", "_law_wishes_here", "_law_at", "_law_bad", "_law_more", "_law_spoilt", "_law_size", "_law_many", "_law_k"] ["_law_script"] (defScope s_law) := ⟨rfl, rfl, rfl, by decide +kernel, rfl, by decide +kernel, by decide +kernel⟩
structure DS (K : PySem.W.Frag) (mg : Str → Option Value) (C_Book C_Way C_Call C_Phone C_Hall : Addr) : Prop where
  d_is_number : DefAt K mg "is_number" "is_number" s_is_number ["part", "low", "high"]
  d_is_phone : DefAt K mg "is_phone" "is_phone" s_is_phone ["part"]
  d_need_phone : DefAt K mg "need_phone" "need_phone" s_need_phone ["phone"]
  d_need_number : DefAt K mg "need_number" "need_number" s_need_number ["number"]
  d_need_states : DefAt K mg "need_states" "need_states" s_need_states ["states"]
  d_are_members : DefAt K mg "are_members" "are_members" s_are_members ["part"]
  d_is_wish : DefAt K mg "is_wish" "is_wish" s_is_wish ["wish"]
  d_key_of : DefAt K mg "key_of" "key_of" s_key_of ["wish"]
  d_need_wishes : DefAt K mg "need_wishes" "need_wishes" s_need_wishes ["wishes"]
  d_Book_init : MakeAt K mg C_Book "Book" "Book.__init__" s_Book_init ["self", "wishes"]
  d_Book_has : MethAt K C_Book "has" "Book.has" s_Book_has ["self", "word", "phone"]
  d_Book_goal : MethAt K C_Book "goal" "Book.goal" s_Book_goal ["self", "word", "phone"]
  d_Book_patience : MethAt K C_Book "patience" "Book.patience" s_Book_patience ["self", "phone"]
  d_Book_bars : MethAt K C_Book "bars" "Book.bars" s_Book_bars ["self", "phone", "caller"]
  d_Book_members : MethAt K C_Book "members" "Book.members" s_Book_members ["self", "group"]
  d_rings_at : DefAt K mg "rings_at" "rings_at" s_rings_at ["book", "caller", "group", "states"]
  d_next_of : DefAt K mg "next_of" "next_of" s_next_of ["book", "caller", "phone", "states", "knocks"]
  d_Way_init : MakeAt K mg C_Way "Way" "Way.__init__" s_Way_init ["self", "book", "caller"]
  d_Way_go : MethAt K C_Way "go" "Way.go" s_Way_go ["self", "number", "states", "knocks"]
  d_Way_step : MethAt K C_Way "step" "Way.step" s_Way_step ["self", "number", "states", "knocks"]
  d_led : DefAt K mg "led" "led" s_led ["wishes", "caller", "number", "states"]
  d_way_of : DefAt K mg "way_of" "way_of" s_way_of ["book", "call"]
  d_had : DefAt K mg "had" "had" s_had ["wish", "way", "call"]
  d_wants : DefAt K mg "wants" "wants" s_wants ["wishes", "wish", "caller", "number", "states"]
  d_Call_init : MakeAt K mg C_Call "Call" "Call.__init__" s_Call_init ["self", "way"]
  d_Phone_init : MakeAt K mg C_Phone "Phone" "Phone.__init__" s_Phone_init ["self"]
  d_Hall_init : MakeAt K mg C_Hall "Hall" "Hall.__init__" s_Hall_init ["self", "wishes"]
  d_Hall_phone : MethAt K C_Hall "phone" "Hall.phone" s_Hall_phone ["self", "number", "is_up"]
  d_Hall_may_be_knocked_at : MethAt K C_Hall "may_be_knocked_at" "Hall.may_be_knocked_at" s_Hall_may_be_knocked_at ["self", "number"]
  d_Hall_go_on : MethAt K C_Hall "go_on" "Hall.go_on" s_Hall_go_on ["self", "call", "number"]
  d_Hall_knock_list : MethAt K C_Hall "knock_list" "Hall.knock_list" s_Hall_knock_list ["self", "states"]
  d_Hall_silence : MethAt K C_Hall "silence" "Hall.silence" s_Hall_silence ["self", "call"]
  d_Hall_over : MethAt K C_Hall "over" "Hall.over" s_Hall_over ["self", "call"]
  d_Hall_answer : MethAt K C_Hall "answer" "Hall.answer" s_Hall_answer ["self", "call", "number"]
  d_Hall_leave : MethAt K C_Hall "leave" "Hall.leave" s_Hall_leave ["self", "call", "number"]
  d_Hall_lift : MethAt K C_Hall "lift" "Hall.lift" s_Hall_lift ["self", "number"]
  d_Hall_dial : MethAt K C_Hall "dial" "Hall.dial" s_Hall_dial ["self", "number", "goal"]
  d_Hall_drop : MethAt K C_Hall "drop" "Hall.drop" s_Hall_drop ["self", "number"]
  d_Hall_need_talk : MethAt K C_Hall "need_talk" "Hall.need_talk" s_Hall_need_talk ["self", "phone"]
  d_Hall_hold : MethAt K C_Hall "hold" "Hall.hold" s_Hall_hold ["self", "number"]
  d_Hall_swap : MethAt K C_Hall "swap" "Hall.swap" s_Hall_swap ["self", "number"]
  d_Hall_take : MethAt K C_Hall "take" "Hall.take" s_Hall_take ["self", "number"]
  d_Hall_join : MethAt K C_Hall "join" "Hall.join" s_Hall_join ["self", "number"]
  d_Hall_beat : MethAt K C_Hall "beat" "Hall.beat" s_Hall_beat ["self"]
  d_Hall_late : MethAt K C_Hall "late" "Hall.late" s_Hall_late ["self", "call"]
  d_Hall_hear : MethAt K C_Hall "hear" "Hall.hear" s_Hall_hear ["self", "number"]
  d_Hall_all_calls : MethAt K C_Hall "all_calls" "Hall.all_calls" s_Hall_all_calls ["self"]
  d_is_deed : DefAt K mg "is_deed" "is_deed" s_is_deed ["deed"]
  d_need_deeds : DefAt K mg "need_deeds" "need_deeds" s_need_deeds ["deeds"]
  d_do : DefAt K mg "do" "do" s_do ["hall", "deed"]
  d_played : DefAt K mg "played" "played" s_played ["wishes", "deeds"]
  d_words_of : DefAt K mg "words_of" "words_of" s_words_of ["thing"]
  d_written : DefAt K mg "written" "written" s_written ["wishes", "deeds"]
  d_law_taken : DefAt K mg "_law_taken" "_law_taken" s_law_taken ["_law_row", "_law_many"]
  d_law_word : DefAt K mg "_law_word" "_law_word" s_law_word ["_law_work"]
  d_law_goal : DefAt K mg "_law_goal" "_law_goal" s_law_goal ["_law_row", "_law_phone"]
  d_law_wish : DefAt K mg "_law_wish" "_law_wish" s_law_wish ["_law_row"]
  d_law_wishes : DefAt K mg "_law_wishes" "_law_wishes" s_law_wishes ["_law_row", "_law_most"]
  d_law_works : DefAt K mg "_law_works" "_law_works" s_law_works ["_law_wishes_here"]
  d_law_odd : DefAt K mg "_law_odd" "_law_odd" s_law_odd ["_law_row", "_law_wish_here"]
  d_law_again : DefAt K mg "_law_again" "_law_again" s_law_again ["_law_row", "_law_wish_here"]
  d_law_are : DefAt K mg "_law_are" "_law_are" s_law_are ["_law_works_here", "_law_words"]
  d_law : DefAt K mg "law" "law" s_law ["_law_script"]
  k_STATES : KTup K mg "STATES" ["free", "busy"]
  cls_Book : Cls K C_Book
  na_Book_wanted : NoAttr K C_Book "wanted"
  cls_Way : Cls K C_Way
  na_Way_book : NoAttr K C_Way "book"
  na_Way_caller : NoAttr K C_Way "caller"
  na_Way_chain : NoAttr K C_Way "chain"
  na_Way_leads : NoAttr K C_Way "leads"
  na_Way_group : NoAttr K C_Way "group"
  na_Way_word : NoAttr K C_Way "word"
  na_Way_ears : NoAttr K C_Way "ears"
  cls_Call : Cls K C_Call
  na_Call_way : NoAttr K C_Call "way"
  na_Call_people : NoAttr K C_Call "people"
  na_Call_age : NoAttr K C_Call "age"
  na_Call_is_talk : NoAttr K C_Call "is_talk"
  cls_Phone : Cls K C_Phone
  na_Phone_is_up : NoAttr K C_Phone "is_up"
  na_Phone_now : NoAttr K C_Phone "now"
  na_Phone_kept : NoAttr K C_Phone "kept"
  na_Phone_bell : NoAttr K C_Phone "bell"
  na_Phone_tone : NoAttr K C_Phone "tone"
  cls_Hall : Cls K C_Hall
  na_Hall_book : NoAttr K C_Hall "book"
  na_Hall_phones : NoAttr K C_Hall "phones"
  na_Hall_calls : NoAttr K C_Hall "calls"
  pe_Call : PlainEq K C_Call
end

local macro_rules | `(tactic| specialize "idx") => `(tactic| (focus ((show Idx _ (List.cons _ _) _); (repeat (first | with_reducible exact Idx.here | with_reducible apply Idx.there)) <;> fail)))
local macro_rules | `(tactic| specialize "okl") => `(tactic| first | ((simp only [W.ok, W.oks, oks_ints, Bool.and_true, Bool.true_and]) <;> fail) | fail)
local macro_rules | `(tactic| specialize "okl") => `(tactic| first | exact oks_ints | fail)
local macro_rules | `(tactic| specialize "okl") => `(tactic| first | exact stW_ok | fail)
local macro_rules | `(tactic| specialize "okl") => `(tactic| first | exact Wish.wok _ | fail)
local macro_rules | `(tactic| specialize "okl") => `(tactic| first | rfl | fail)
local macro_rules | `(tactic| specialize "ok") => `(tactic| first | ((simp only [W.ok, W.oks, oks_ints, Bool.and_true, Bool.true_and]); decide +kernel) | fail)
local macro_rules | `(tactic| specialize "ok") => `(tactic| first | decide +kernel | fail)
local macro_rules | `(tactic| specialize "ok") => `(tactic| first | (refine oks_map ?_ _; intro _; specialize "okl") | fail)
local macro_rules | `(tactic| specialize "ok") => `(tactic| first | ((simp only [W.ok, W.oks, oks_ints, Bool.and_true, Bool.true_and]) <;> fail) | fail)
local macro_rules | `(tactic| specialize "ok") => `(tactic| first | (show PyData.strOk _ = true; assumption) | fail)
local macro_rules | `(tactic| specialize "ok") => `(tactic| first | exact keysT_ok (by decide) | fail)
local macro_rules | `(tactic| specialize "ok") => `(tactic| first | exact keyT_ok (by decide) | fail)
local macro_rules | `(tactic| specialize "ok") => `(tactic| first | exact opt_ok | fail)
local macro_rules | `(tactic| specialize "ok") => `(tactic| first | exact sts_ok | fail)
local macro_rules | `(tactic| specialize "ok") => `(tactic| first | exact stW_ok | fail)
local macro_rules | `(tactic| specialize "ok") => `(tactic| first | exact oks_ints | fail)
local macro_rules | `(tactic| specialize "ok") => `(tactic| first | exact wishes_ok _ | fail)
local macro_rules | `(tactic| specialize "ok") => `(tactic| first | exact Wish.wok _ | fail)
local macro_rules | `(tactic| specialize "ok") => `(tactic| first | assumption | fail)
local macro_rules | `(tactic| specialize "ok") => `(tactic| first | rfl | fail)
local macro_rules | `(tactic| specialize "ev") => `(tactic| ((try simp only [inW_keys, inW_wish, inW_leads, eqW_opt, eqW_intsM, eqW_one, inW_ints, eqW_st, st_in, eqW_nil, eqW_nilT, List.isEmpty_map, eqW_int, eqW_str, eqW_bl, eqW_non, eqW_tt, eqW_t0, eqW_t1, eqW_t2, eqW_ll, eqW_l0, eqW_l1, eqW_l2, eqW_ni, eqW_in, eqW_it, eqW_ti, eqW_is, eqW_si, eqW_tn, eqW_nt, eqW_ints, wish_eq]); exact rfl))
local macro_rules | `(tactic| specialize "tt") => `(tactic| first | (specialize "t2") | fail)
local macro_rules | `(tactic| specialize "tt") => `(tactic| first | decide +kernel | fail)
local macro_rules | `(tactic| specialize "tt") => `(tactic| first | assumption | fail)
local macro_rules | `(tactic| specialize "tt") => `(tactic| first | rfl | fail)
local macro_rules | `(tactic| specialize "nth") => `(tactic| first | ((with_reducible show (List.set _ _ _)[_]? = some _); first | (apply get_set_self; (specialize "nth")) | (refine get_set_ne ?_ ?_; (focus (specialize "ne")); (specialize "nth"))) | fail)
local macro_rules | `(tactic| specialize "nth") => `(tactic| first | ((with_reducible show (_ ++ _)[_]? = some _); refine get_app ?_; (specialize "nth")) | fail)
local macro_rules | `(tactic| specialize "nth") => `(tactic| first | exact nth_new | fail)
local macro_rules | `(tactic| specialize "nth") => `(tactic| first | exact nth_new0 | fail)
local macro_rules | `(tactic| specialize "nth") => `(tactic| first | assumption | fail)
local macro_rules | `(tactic| specialize "nth") => `(tactic| first | rfl | fail)
local macro_rules | `(tactic| specialize "ne") => `(tactic| first | omega | fail)
local macro_rules | `(tactic| specialize "ne") => `(tactic| first | exact Ne.symm (by assumption) | fail)
local macro_rules | `(tactic| specialize "ne") => `(tactic| first | assumption | fail)
local macro_rules | `(tactic| specialize "itm") => `(tactic| first | exact items_of (by (specialize "nth")) | fail)
local macro_rules | `(tactic| specialize "itm") => `(tactic| first | exact (‹∀ S : Sto, itemsW S _ = some _› _) | fail)
local macro_rules | `(tactic| specialize "itm") => `(tactic| first | rfl | fail)
local macro_rules | `(tactic| specialize "fz") => `(tactic| first | exact fz_intsL | fail)
local macro_rules | `(tactic| specialize "fz") => `(tactic| first | exact fz_ints | fail)
local macro_rules | `(tactic| specialize "fz") => `(tactic| first | exact .str _ | fail)
local macro_rules | `(tactic| specialize "fz") => `(tactic| first | exact .int _ | fail)
local macro_rules | `(tactic| specialize "fz") => `(tactic| first | exact .bl _ | fail)
local macro_rules | `(tactic| specialize "fz") => `(tactic| first | exact .non | fail)
local macro_rules | `(tactic| specialize "fd") => `(tactic| exact fin.drop (Nat.le_refl _) (by assumption) (by (specialize "fz")) (by assumption))
local macro_rules | `(tactic| specialize "ci") => `(tactic| first | exact ⟨by decide, by decide⟩ | fail)
local macro_rules | `(tactic| specialize "ci") => `(tactic| first | exact .inr ⟨by decide, by decide⟩ | fail)
local macro_rules | `(tactic| specialize "len") => `(tactic| first | (simp <;> omega) | fail)
local macro_rules | `(tactic| specialize "len") => `(tactic| first | ((with_reducible show dlenW _ _ ≤ _); first | exact dlen_t (by (specialize "nth")) (by (specialize "len")) | exact dlen_k (by (specialize "nth")) (by (specialize "len"))) | fail)
local macro_rules | `(tactic| specialize "len") => `(tactic| first | assumption | fail)
local macro_rules | `(tactic| specialize "len") => `(tactic| first | omega | fail)
local macro_rules | `(tactic| specialize "len") => `(tactic| first | decide | fail)
local macro_rules | `(tactic| specialize "ix") => `(tactic| first | exact atI_map (by (specialize "rng")) (by (specialize "rng")) | fail)
local macro_rules | `(tactic| specialize "ix") => `(tactic| first | exact atI_ints (by (specialize "rng")) (by (specialize "rng")) | fail)
local macro_rules | `(tactic| specialize "ix") => `(tactic| first | rfl | fail)
local macro_rules | `(tactic| specialize "rng") => `(tactic| first | (simp only [List.mem_range, len_ints] at *; omega) | fail)
local macro_rules | `(tactic| specialize "rng") => `(tactic| first | omega | fail)
local macro_rules | `(tactic| specialize "fi") => `(tactic| (first | refine fin.as (by assumption) | refine fin.eq (by assumption) (by first | rfl | (specialize "t2") | (congr 1; specialize "t2"))))
local macro_rules | `(tactic| specialize "dg") => `(tactic| first | exact dput_k (by (specialize "nth")) rfl | fail)
local macro_rules | `(tactic| specialize "dg") => `(tactic| first | exact dget_k (by (specialize "nth")) rfl | fail)
local macro_rules | `(tactic| specialize "dg") => `(tactic| first | exact dput_t (by (specialize "nth")) (keysW_map _) | fail)
local macro_rules | `(tactic| specialize "dg") => `(tactic| first | exact dput_t (by (specialize "nth")) rfl | fail)
local macro_rules | `(tactic| specialize "dg") => `(tactic| first | exact dget_t (by (specialize "nth")) (keysW_map _) | fail)
local macro_rules | `(tactic| specialize "dg") => `(tactic| first | exact dget_t (by (specialize "nth")) rfl | fail)
local macro_rules | `(tactic| specialize "dg") => `(tactic| first | assumption | fail)
local macro_rules | `(tactic| specialize "dg") => `(tactic| first | rfl | fail)
local macro_rules | `(tactic| specialize "gg") => `(tactic| first | ((with_reducible show wG _ _ (Expr.Attribute _ _ _) _ _ _ _); refine xG_fld ?_) | fail)
local macro_rules | `(tactic| specialize "gg") => `(tactic| first | ((with_reducible show wG _ _ (Expr.Tuple _ _ _) _ _ _ _); refine xG_tup rfl (by (repeat (first | exact Each.nil | refine Each.cons rfl ?_))) ?_) | fail)
local macro_rules | `(tactic| specialize "gg") => `(tactic| first | ((with_reducible show wG _ _ (Expr.Name _ _) _ _ _ _); refine' xG_name ?k1 (of_decide_eq_true (by kernel_rfl)) ?_; (case k1 => (specialize "idx"))) | fail)
local macro_rules | `(tactic| specialize "st") => `(tactic| first | ((with_reducible show wS _ _ (Stmt.Continue _) _ _ _); refine wS_cont ?_) | fail)
local macro_rules | `(tactic| specialize "st") => `(tactic| first | ((with_reducible show wS _ _ (Stmt.Break _) _ _ _); refine wS_break ?_) | fail)
local macro_rules | `(tactic| specialize "st") => `(tactic| first | ((with_reducible show wS _ _ (Stmt.Pass _) _ _ _); refine wS_pass ?_) | fail)
local macro_rules | `(tactic| specialize "st") => `(tactic| first | ((with_reducible show wS _ _ (Stmt.Return none _) _ _ _); refine wS_retN ?_) | fail)
local macro_rules | `(tactic| specialize "st") => `(tactic| first | ((with_reducible show wS _ _ (Stmt.Expr _ _) _ _ _); refine wS_expr ?_) | fail)
local macro_rules | `(tactic| specialize "st") => `(tactic| first | ((with_reducible show wS _ _ (Stmt.Assign [Expr.Subscript _ _ _] _ _) _ _ _); refine xS_dput (Room.u65 (by assumption)) ?_) | fail)
local macro_rules | `(tactic| specialize "st") => `(tactic| first | ((with_reducible show wS _ _ (Stmt.Assign [Expr.Tuple _ _ _] _ _) _ _ _); refine xS_asg ?_) | fail)
local macro_rules | `(tactic| specialize "st") => `(tactic| first | ((with_reducible show wS _ _ (Stmt.Assign [Expr.Attribute _ _ _] _ _) _ _ _); refine xS_fld ?_) | fail)
local macro_rules | `(tactic| specialize "st") => `(tactic| first | ((with_reducible show wS _ _ (Stmt.Assign [Expr.Tuple [Expr.Name _ _, Expr.Name _ _] _ _] (Expr.Tuple [_, _] _ _) _) _ _ _); refine' xS_par ?k1 ?k2 rfl (of_decide_eq_true (by kernel_rfl)) ?_ ?k3; (case k1 => (specialize "idx")); (case k2 => (specialize "idx")); (case k3 => decide)) | fail)
local macro_rules | `(tactic| specialize "st") => `(tactic| first | ((with_reducible show wS _ _ (Stmt.Assign [Expr.Name _ _] _ _) _ _ _); refine' xS_set ?k1 (of_decide_eq_true (by kernel_rfl)) ?_; (case k1 => (specialize "idx"))) | fail)
local macro_rules | `(tactic| specialize "st") => `(tactic| first | ((with_reducible show wS _ _ (Stmt.Assign [Expr.Attribute _ _ _] (Expr.List [] _) _) _ _ _); refine xS_fld ?_; refine xE_lstN ?_) | fail)
local macro_rules | `(tactic| specialize "st") => `(tactic| first | ((with_reducible show wS _ _ (Stmt.Assign [Expr.Name _ _] (Expr.List [] _) _) _ _ _); refine' xS_set ?k1 (of_decide_eq_true (by kernel_rfl)) ?_; (case k1 => (specialize "idx")); refine xE_lstN ?_) | fail)
local macro_rules | `(tactic| specialize "st") => `(tactic| first | ((with_reducible show wS _ _ (Stmt.Assign [Expr.Name _ _] (Expr.ListComp _ _ _ _) _) _ _ _); (specialize "lcS")) | fail)
local macro_rules | `(tactic| specialize "st") => `(tactic| first | ((with_reducible show wS _ _ (Stmt.If _ _ _ _) _ _ _); refine xS_if ?_) | fail)
local macro_rules | `(tactic| specialize "st") => `(tactic| first | ((with_reducible show wS _ _ (Stmt.Return (some _) _) _ _ _); refine wS_ret ?_) | fail)
local macro_rules | `(tactic| specialize "co") => `(tactic| first | ((with_reducible show wE _ _ (Expr.Constant Const.none _ _) _ _ _); refine wE_non ?_) | fail)
local macro_rules | `(tactic| specialize "co") => `(tactic| first | ((with_reducible show wE _ _ (Expr.Constant (Const.bool _) _ _) _ _ _); refine wE_bl ?_) | fail)
local macro_rules | `(tactic| specialize "co") => `(tactic| first | ((with_reducible show wE _ _ (Expr.Constant (Const.str _) _ _) _ _ _); refine wE_str ?_) | fail)
local macro_rules | `(tactic| specialize "co") => `(tactic| first | ((with_reducible show wE _ _ (Expr.Constant (Const.int _) _ _) _ _ _); refine wE_int ?_) | fail)
local macro_rules | `(tactic| specialize "cmp") => `(tactic| first | ((with_reducible show wE _ _ (Expr.Compare _ [CmpOp.LtE, CmpOp.LtE] _ _) _ _ _); refine xE_chain op_le op_le ?_) | fail)
local macro_rules | `(tactic| specialize "cmp") => `(tactic| first | ((with_reducible show wE _ _ (Expr.Compare _ [CmpOp.NotIn] _ _) _ _ _); refine xE_notIn (Room.u65 (by assumption)) ?_) | fail)
local macro_rules | `(tactic| specialize "cmp") => `(tactic| first | ((with_reducible show wE _ _ (Expr.Compare _ [CmpOp.In] _ _) _ _ _); refine xE_in (Room.u65 (by assumption)) ?_) | fail)
local macro_rules | `(tactic| specialize "cmp") => `(tactic| first | ((with_reducible show wE _ _ (Expr.Compare _ [CmpOp.In] [Expr.Name (Str.ofString "known") _] _) _ _ _); refine xE_din (Room.u65 (by assumption)) ?_) | fail)
local macro_rules | `(tactic| specialize "cmp") => `(tactic| first | ((with_reducible show wE _ _ (Expr.Compare _ [CmpOp.In] [Expr.Attribute _ (Str.ofString "wanted") _] _) _ _ _); refine xE_din (Room.u65 (by assumption)) ?_) | fail)
local macro_rules | `(tactic| specialize "cmp") => `(tactic| first | ((with_reducible show wE _ _ (Expr.Compare _ [CmpOp.IsNot] [Expr.Constant Const.none _ _] _) _ _ _); refine xE_notN ?_) | fail)
local macro_rules | `(tactic| specialize "cmp") => `(tactic| first | ((with_reducible show wE _ _ (Expr.Compare _ [CmpOp.Is] [Expr.Constant Const.none _ _] _) _ _ _); refine xE_isN ?_) | fail)
local macro_rules | `(tactic| specialize "cmp") => `(tactic| first | ((with_reducible show wE _ _ (Expr.Compare _ [CmpOp.GtE] _ _) _ _ _); refine xE_cmpI op_ge ?_) | fail)
local macro_rules | `(tactic| specialize "cmp") => `(tactic| first | ((with_reducible show wE _ _ (Expr.Compare _ [CmpOp.Gt] _ _) _ _ _); refine xE_cmpI op_gt ?_) | fail)
local macro_rules | `(tactic| specialize "cmp") => `(tactic| first | ((with_reducible show wE _ _ (Expr.Compare _ [CmpOp.LtE] _ _) _ _ _); refine xE_cmpI op_le ?_) | fail)
local macro_rules | `(tactic| specialize "cmp") => `(tactic| first | ((with_reducible show wE _ _ (Expr.Compare _ [CmpOp.Lt] _ _) _ _ _); refine xE_cmpI op_lt ?_) | fail)
local macro_rules | `(tactic| specialize "cmp") => `(tactic| first | ((with_reducible show wE _ _ (Expr.Compare _ [CmpOp.NotEq] _ _) _ _ _); refine xE_ne (Room.u65 (by assumption)) ?_) | fail)
local macro_rules | `(tactic| specialize "cmp") => `(tactic| first | ((with_reducible show wE _ _ (Expr.Compare _ [CmpOp.Eq] _ _) _ _ _); refine xE_eq (Room.u65 (by assumption)) ?_) | fail)
local macro_rules | `(tactic| specialize "cmT") => `(tactic| first | ((with_reducible show wT _ _ (Expr.Compare _ [CmpOp.NotIn] _ _) _ _ _); refine xT_notIn (Room.u65 (by assumption)) ?_) | fail)
local macro_rules | `(tactic| specialize "cmT") => `(tactic| first | ((with_reducible show wT _ _ (Expr.Compare _ [CmpOp.In] _ _) _ _ _); refine xT_in (Room.u65 (by assumption)) ?_) | fail)
local macro_rules | `(tactic| specialize "cmT") => `(tactic| first | ((with_reducible show wT _ _ (Expr.Compare _ [CmpOp.In] [Expr.Name (Str.ofString "known") _] _) _ _ _); refine xT_din (Room.u65 (by assumption)) ?_) | fail)
local macro_rules | `(tactic| specialize "cmT") => `(tactic| first | ((with_reducible show wT _ _ (Expr.Compare _ [CmpOp.In] [Expr.Attribute _ (Str.ofString "wanted") _] _) _ _ _); refine xT_din (Room.u65 (by assumption)) ?_) | fail)
local macro_rules | `(tactic| specialize "cmT") => `(tactic| first | ((with_reducible show wT _ _ (Expr.Compare _ [CmpOp.IsNot] [Expr.Constant Const.none _ _] _) _ _ _); refine xT_notN ?_) | fail)
local macro_rules | `(tactic| specialize "cmT") => `(tactic| first | ((with_reducible show wT _ _ (Expr.Compare _ [CmpOp.Is] [Expr.Constant Const.none _ _] _) _ _ _); refine xT_isN ?_) | fail)
local macro_rules | `(tactic| specialize "cmT") => `(tactic| first | ((with_reducible show wT _ _ (Expr.Compare _ [CmpOp.GtE] _ _) _ _ _); refine xT_cmpI op_ge ?_) | fail)
local macro_rules | `(tactic| specialize "cmT") => `(tactic| first | ((with_reducible show wT _ _ (Expr.Compare _ [CmpOp.Gt] _ _) _ _ _); refine xT_cmpI op_gt ?_) | fail)
local macro_rules | `(tactic| specialize "cmT") => `(tactic| first | ((with_reducible show wT _ _ (Expr.Compare _ [CmpOp.LtE] _ _) _ _ _); refine xT_cmpI op_le ?_) | fail)
local macro_rules | `(tactic| specialize "cmT") => `(tactic| first | ((with_reducible show wT _ _ (Expr.Compare _ [CmpOp.Lt] _ _) _ _ _); refine xT_cmpI op_lt ?_) | fail)
local macro_rules | `(tactic| specialize "cmT") => `(tactic| first | ((with_reducible show wT _ _ (Expr.Compare _ [CmpOp.NotEq] _ _) _ _ _); refine xT_ne (Room.u65 (by assumption)) ?_) | fail)
local macro_rules | `(tactic| specialize "cmT") => `(tactic| first | ((with_reducible show wT _ _ (Expr.Compare _ [CmpOp.Eq] _ _) _ _ _); refine xT_eq (Room.u65 (by assumption)) ?_) | fail)
local macro_rules | `(tactic| specialize "bo") => `(tactic| first | ((with_reducible show wE _ _ (Expr.BoolOp BoolOp.Or _ _) _ _ _); refine xE_or ?_) | fail)
local macro_rules | `(tactic| specialize "bo") => `(tactic| first | ((with_reducible show wE _ _ (Expr.BoolOp BoolOp.And _ _) _ _ _); refine xE_and ?_) | fail)
local macro_rules | `(tactic| specialize "bo") => `(tactic| first | ((with_reducible show wE _ _ (Expr.BoolOp BoolOp.Or [_] _) _ _ _); refine wE_one ?_) | fail)
local macro_rules | `(tactic| specialize "bo") => `(tactic| first | ((with_reducible show wE _ _ (Expr.BoolOp BoolOp.And [_] _) _ _ _); refine wE_one ?_) | fail)
local macro_rules | `(tactic| specialize "su") => `(tactic| first | ((with_reducible show wE _ _ (Expr.Subscript _ _ _) _ _ _); refine xE_ix ?_) | fail)
local macro_rules | `(tactic| specialize "su") => `(tactic| first | ((with_reducible show wE _ _ (Expr.Subscript _ (Expr.Constant (Const.str _) _ _) _) _ _ _); refine xE_dget (Room.u65 (by assumption)) ?_) | fail)
local macro_rules | `(tactic| specialize "su") => `(tactic| first | ((with_reducible show wE _ _ (Expr.Subscript (Expr.Attribute _ (Str.ofString "wanted") _) _ _) _ _ _); refine xE_dget (Room.u65 (by assumption)) ?_) | fail)
local macro_rules | `(tactic| specialize "su") => `(tactic| first | ((with_reducible show wE _ _ (Expr.Subscript _ (Expr.Slice _ _ none _) _) _ _ _); first | (specialize "slice") | refine xE_slT ?_) | fail)
local macro_rules | `(tactic| specialize "bi") => `(tactic| first | ((with_reducible show wE _ _ (Expr.BinOp _ Operator.Mult _ _) _ _ _); first | (specialize "times") | refine xE_rep ?_) | fail)
local macro_rules | `(tactic| specialize "bi") => `(tactic| first | ((with_reducible show wE _ _ (Expr.BinOp _ Operator.FloorDiv _ _) _ _ _); refine xE_fdiv ?_) | fail)
local macro_rules | `(tactic| specialize "bi") => `(tactic| first | ((with_reducible show wE _ _ (Expr.BinOp _ Operator.Mod _ _) _ _ _); refine xE_mod ?_) | fail)
local macro_rules | `(tactic| specialize "bi") => `(tactic| first | ((with_reducible show wE _ _ (Expr.BinOp _ Operator.Sub _ _) _ _ _); refine xE_sub ?_) | fail)
local macro_rules | `(tactic| specialize "bi") => `(tactic| first | ((with_reducible show wE _ _ (Expr.BinOp _ Operator.Add _ _) _ _ _); first | (specialize "plus") | refine xE_add ?_) | fail)
local macro_rules | `(tactic| specialize "ex") => `(tactic| first | ((with_reducible show wE _ _ (Expr.List _ _) _ _ _); first | (specialize "list") | refine xE_lst ?_) | fail)
local macro_rules | `(tactic| specialize "ex") => `(tactic| first | ((with_reducible show wE _ _ (Expr.Dict [] [] _) _ _ _); first | (specialize "dict") | refine wE_newT ?_) | fail)
local macro_rules | `(tactic| specialize "ex") => `(tactic| first | ((with_reducible show wE _ _ (Expr.IfExp _ _ _ _) _ _ _); refine xE_if ?_) | fail)
local macro_rules | `(tactic| specialize "ex") => `(tactic| first | ((with_reducible show wE _ _ (Expr.UnaryOp UnaryOp.Not _ _) _ _ _); refine xE_not ?_) | fail)
local macro_rules | `(tactic| specialize "ex") => `(tactic| first | ((with_reducible show wE _ _ (Expr.BinOp _ _ _ _) _ _ _); (specialize "bi")) | fail)
local macro_rules | `(tactic| specialize "ex") => `(tactic| first | ((with_reducible show wE _ _ (Expr.BoolOp _ _ _) _ _ _); (specialize "bo")) | fail)
local macro_rules | `(tactic| specialize "ex") => `(tactic| first | ((with_reducible show wE _ _ (Expr.ListComp _ _ _ _) _ _ _); (specialize "lc")) | fail)
local macro_rules | `(tactic| specialize "ex") => `(tactic| first | ((with_reducible show wE _ _ (Expr.Tuple _ _ _) _ _ _); refine xE_tup ?_) | fail)
local macro_rules | `(tactic| specialize "ex") => `(tactic| first | ((with_reducible show wE _ _ (Expr.Attribute _ _ _) _ _ _); refine xE_fld ?_) | fail)
local macro_rules | `(tactic| specialize "ex") => `(tactic| first | ((with_reducible show wE _ _ (Expr.Subscript _ _ _) _ _ _); (specialize "su")) | fail)
local macro_rules | `(tactic| specialize "ex") => `(tactic| first | ((with_reducible show wE _ _ (Expr.Call _ _ _ _) _ _ _); (specialize "fun")) | fail)
local macro_rules | `(tactic| specialize "ex") => `(tactic| first | ((with_reducible show wE _ _ (Expr.Call (Expr.Attribute _ (Str.ofString "append") _) _ _ _) _ _ _); refine xE_append ?_) | fail)
local macro_rules | `(tactic| specialize "ex") => `(tactic| first | ((with_reducible show wE _ _ (Expr.Compare _ _ _ _) _ _ _); (specialize "cmp")) | fail)
local macro_rules | `(tactic| specialize "ex") => `(tactic| first | ((with_reducible show wE _ _ (Expr.Constant _ _ _) _ _ _); (specialize "co")) | fail)
local macro_rules | `(tactic| specialize "ex") => `(tactic| first | ((with_reducible show wE _ _ (Expr.Name _ _) _ _ _); first | (refine' xE_name ?k1 ?k2 ?_; (case k1 => (specialize "idx")); (case k2 => exact rfl)) | (specialize "glob")) | fail)
local macro_rules | `(tactic| specialize "te") => `(tactic| first | ((with_reducible show wT _ _ (_) _ _ _); refine xT_val ?_) | fail)
local macro_rules | `(tactic| specialize "te") => `(tactic| first | ((with_reducible show wT _ _ (Expr.Compare _ _ _ _) _ _ _); (specialize "cmT")) | fail)
local macro_rules | `(tactic| specialize "te") => `(tactic| first | ((with_reducible show wT _ _ (Expr.UnaryOp UnaryOp.Not _ _) _ _ _); refine wT_not ?_) | fail)
local macro_rules | `(tactic| specialize "te") => `(tactic| first | ((with_reducible show wT _ _ (Expr.BoolOp _ _ _) _ _ _); refine wT_bool ?_) | fail)
local macro_rules | `(tactic| specialize "tw") => `(tactic| first | ((with_reducible show wW _ _ (Expr.BoolOp BoolOp.Or _ _) _ _ _); refine xW_or ?_) | fail)
local macro_rules | `(tactic| specialize "tw") => `(tactic| first | ((with_reducible show wW _ _ (Expr.BoolOp BoolOp.And _ _) _ _ _); refine xW_and ?_) | fail)
local macro_rules | `(tactic| specialize "tw") => `(tactic| first | ((with_reducible show wW _ _ (Expr.BoolOp BoolOp.Or [_] _) _ _ _); refine wW_or1 ?_) | fail)
local macro_rules | `(tactic| specialize "tw") => `(tactic| first | ((with_reducible show wW _ _ (Expr.BoolOp BoolOp.And [_] _) _ _ _); refine wW_and1 ?_) | fail)
local macro_rules | `(tactic| specialize "s1") => `(tactic| first | ((with_reducible show sFld _ _ _ _ _); refine sFld_i (by (specialize "nth")) rfl (by (specialize "cls")) (by (specialize "noa")) ?_) | fail)
local macro_rules | `(tactic| specialize "s1") => `(tactic| first | ((with_reducible show sIn _ _ _ _ _); refine sIn_i (by (specialize "itm")) (by (specialize "ok")) (by (specialize "ok")) (by (specialize "ev")) ?_) | fail)
local macro_rules | `(tactic| specialize "s1") => `(tactic| first | ((with_reducible show sAdd _ _ _ _); first | refine sAdd_I ?_ | refine sAdd_S (by first | omega | decide) ?_) | fail)
local macro_rules | `(tactic| specialize "s1") => `(tactic| first | ((with_reducible show sII _ _ _ _ _ _); refine sII_i (by first | trivial | omega | decide | (specialize "ci")) ?_) | fail)
local macro_rules | `(tactic| specialize "s1") => `(tactic| first | ((with_reducible show sOrW _ _ _ _); first | refine sOrW_t (by (specialize "tt")) ?_ | refine sOrW_f (by (specialize "tt")) ?_ | apply sOrW_p) | fail)
local macro_rules | `(tactic| specialize "s1") => `(tactic| first | ((with_reducible show sAndW _ _ _ _); first | refine sAndW_f (by (specialize "tt")) ?_ | refine sAndW_t (by (specialize "tt")) ?_ | apply sAndW_p) | fail)
local macro_rules | `(tactic| specialize "s1") => `(tactic| first | ((with_reducible show sOr _ _ _ _); first | refine sOr_t (by (specialize "tt")) ?_ | refine sOr_f (by (specialize "tt")) ?_ | apply sOr_p) | fail)
local macro_rules | `(tactic| specialize "s1") => `(tactic| first | ((with_reducible show sAnd _ _ _ _); first | refine sAnd_f (by (specialize "tt")) ?_ | refine sAnd_t (by (specialize "tt")) ?_ | apply sAnd_p) | fail)
local macro_rules | `(tactic| specialize "s1") => `(tactic| first | ((with_reducible show sIte _ _ _); first | refine sIte_t (by (specialize "tt")) ?_ | refine sIte_f (by (specialize "tt")) ?_) | fail)
local macro_rules | `(tactic| specialize "s1") => `(tactic| first | ((with_reducible show sEq true _ _ _ _); refine sNe_i (by (specialize "ok")) (by (specialize "ok")) (by (specialize "ev")) ?_) | fail)
local macro_rules | `(tactic| specialize "s1") => `(tactic| first | ((with_reducible show sEq false _ _ _ _); refine sEq_i (by (specialize "ok")) (by (specialize "ok")) (by (specialize "ev")) ?_) | fail)
local macro_rules | `(tactic| specialize "s1") => `(tactic| first | ((with_reducible show sIx _ _ _ _); refine sIx_i (by (specialize "itm")) (by (specialize "ix")) ?_) | fail)
local macro_rules | `(tactic| specialize "s1") => `(tactic| first | ((with_reducible show sCall _ _ _ _ _ _); refine sCall_i rfl ?_) | fail)
local macro_rules | `(tactic| specialize "s1") => `(tactic| first | ((with_reducible show sTup _ _ _); refine sTup_i (by first | exact Nat.le_of_ble_eq_true rfl | (specialize "len")) ?_) | fail)
local macro_rules | `(tactic| specialize "s1") => `(tactic| first | ((with_reducible show sB _ _ _); refine sB_i ?_) | fail)
local macro_rules | `(tactic| specialize "s2") => `(tactic| first | ((with_reducible show _ = _ → wW _ _ _ _ _ _); intro _) | fail)
local macro_rules | `(tactic| specialize "s2") => `(tactic| first | ((with_reducible show _ = _ → wE _ _ _ _ _ _); intro _) | fail)
local macro_rules | `(tactic| specialize "s2") => `(tactic| first | ((with_reducible show _ = _ ∧ _ = _); exact ⟨rfl, rfl⟩) | fail)
local macro_rules | `(tactic| specialize "s2") => `(tactic| first | ((with_reducible show sApp _ _ _ _); refine sApp_i (by (specialize "nth")) (by (specialize "len")) ?_) | fail)
local macro_rules | `(tactic| specialize "s2") => `(tactic| first | ((with_reducible show sAppO _ _ _); refine sAppO_i (by (specialize "nth")) ?_) | fail)
local macro_rules | `(tactic| specialize "s2") => `(tactic| first | ((with_reducible show sMeth _ _ _ _ _); refine sMeth_i (by (specialize "nth")) rfl ?_) | fail)
local macro_rules | `(tactic| specialize "s2") => `(tactic| first | ((with_reducible show sCallM _ _ _ _ _ _ _); refine sCallM_i rfl ?_) | fail)
local macro_rules | `(tactic| specialize "s2") => `(tactic| first | ((with_reducible show sDput _ _ _ _ _); refine sDput_i (by (specialize "len")) (by (specialize "dg")) ?_) | fail)
local macro_rules | `(tactic| specialize "s2") => `(tactic| first | ((with_reducible show sPut _ _ _ _ _ _); refine sPut_i (by (specialize "nth")) (Nat.le_of_ble_eq_true rfl) (by (specialize "cls")) (by (specialize "noa")) ?_) | fail)
local macro_rules | `(tactic| specialize "s2") => `(tactic| first | ((with_reducible show sRep _ _ _ _); refine sRep_i (by decide) (by decide) (by decide) ?_) | fail)
local macro_rules | `(tactic| specialize "s2") => `(tactic| first | ((with_reducible show sCat _ _ _ _); refine sCat_i (by first | exact Nat.le_of_ble_eq_true rfl | (specialize "len")) ?_) | fail)
local macro_rules | `(tactic| specialize "s2") => `(tactic| first | ((with_reducible show sChain _ _ _ _ _ _ _); apply sChain_p) | fail)
local macro_rules | `(tactic| specialize "s2") => `(tactic| first | ((with_reducible show sCut _ _ _ _ _); refine sCut_l ?_) | fail)
local macro_rules | `(tactic| specialize "s2") => `(tactic| first | ((with_reducible show sCutT _ _ _ _ _); refine sCutT_i ?_) | fail)
local macro_rules | `(tactic| specialize "s2") => `(tactic| first | ((with_reducible show sI _ _ _); refine sI_i ?_) | fail)
local macro_rules | `(tactic| specialize "s2") => `(tactic| first | ((with_reducible show sBI _ _ _); refine sBI_i ?_) | fail)
local macro_rules | `(tactic| specialize "s2") => `(tactic| first | ((with_reducible show sItemsN _ _ _); refine sItemsN_i (by (specialize "itm")) ?_) | fail)
local macro_rules | `(tactic| specialize "s2") => `(tactic| first | ((with_reducible show sItems _ _ _ _); refine sItems_i (by (specialize "itm")) ?_) | fail)
local macro_rules | `(tactic| specialize "s2") => `(tactic| first | ((with_reducible show sTy _ _ _ _); first | refine sTy_i rfl ?_ | refine sTy_i (by assumption) ?_) | fail)
local macro_rules | `(tactic| specialize "s2") => `(tactic| first | ((with_reducible show sLen _ _ _ _); first | refine sLen_i (by (specialize "itm")) ?_ | refine sLen_scr ?_) | fail)
local macro_rules | `(tactic| specialize "s2") => `(tactic| first | ((with_reducible show sLstN _ _ _); refine sLstN_i (by first | exact Nat.le_of_ble_eq_true rfl | (specialize "len")) ?_) | fail)
local macro_rules | `(tactic| specialize "s2") => `(tactic| first | ((with_reducible show sLst _ _ _); refine sLst_i (by first | exact Nat.le_of_ble_eq_true rfl | (specialize "len")) ?_) | fail)
local macro_rules | `(tactic| specialize "s2") => `(tactic| first | ((with_reducible show sDget _ _ _ _); refine sDget_i (by (specialize "dg")) ?_) | fail)
local macro_rules | `(tactic| specialize "s2") => `(tactic| first | ((with_reducible show sDin _ _ _ _ _); refine sDin_i (by (specialize "dg")) ?_) | fail)
local macro_rules | `(tactic| specialize "s2") => `(tactic| first | ((with_reducible show sNon _ _ _ _); refine sNon_i rfl ?_) | fail)
local macro_rules | `(tactic| specialize "lc") => `(tactic| first | (refine' xE_lc .no ?k1 rfl (of_decide_eq_true (by kernel_rfl)) ?k4 ?_; (case k1 => (specialize "idx")); (case k4 => exact blkOk_by (by kernel_rfl))) | fail)
local macro_rules | `(tactic| specialize "lc") => `(tactic| first | (refine' xE_lc (.one _) ?k1 rfl (of_decide_eq_true (by kernel_rfl)) ?k4 ?_; (case k1 => (specialize "idx")); (case k4 => exact blkOk_by (by kernel_rfl))) | fail)
local macro_rules | `(tactic| specialize "lcS") => `(tactic| first | (refine' xS_lc .no ?k1 ?k2 rfl (of_decide_eq_true (by kernel_rfl)) ?k4 ?_ ?k3; (case k1 => (specialize "idx")); (case k2 => (specialize "idx")); (case k3 => rfl); (case k4 => exact blkOk_by (by kernel_rfl))) | fail)
local macro_rules | `(tactic| specialize "lcS") => `(tactic| first | (refine' xS_lc (.one _) ?k1 ?k2 rfl (of_decide_eq_true (by kernel_rfl)) ?k4 ?_ ?k3; (case k1 => (specialize "idx")); (case k2 => (specialize "idx")); (case k3 => rfl); (case k4 => exact blkOk_by (by kernel_rfl))) | fail)
local macro_rules | `(tactic| specialize "wi") => `(tactic| first | (refine xI_list ?_; (repeat' (specialize "1")); (with_reducible show sWL _ _ _); first | refine sWL_l ?_ | refine sWL_r (by (specialize "nth")) ?_) | fail)
local macro_rules | `(tactic| specialize "wi") => `(tactic| first | (refine xI_tup ?_; (repeat' (specialize "1")); (with_reducible show sWT (W.tup _) _ _); refine sWT_i ?_) | fail)
local macro_rules | `(tactic| specialize "wi") => `(tactic| first | (specialize "it") | fail)
local macro_rules | `(tactic| specialize "s0") => `(tactic| first | ((with_reducible show _ = _ → ∀ _ _ _ _ _, wE _ _ _ _ _ _); intro _ _ _ _ _ _) | fail)
local macro_rules | `(tactic| specialize "s0") => `(tactic| first | ((with_reducible show ∀ _ _ _ _ _, wE _ _ _ _ _ _); intro _ _ _ _ _) | fail)
local macro_rules | `(tactic| specialize "s0") => `(tactic| first | ((with_reducible show ∀ _ _ _ _ _, wT _ _ _ _ _ _); intro _ _ _ _ _) | fail)
local macro_rules | `(tactic| specialize "s0") => `(tactic| first | ((with_reducible show TurnP _ _ IfK.no _ _ _ _ _); apply TurnP.no_i) | fail)
local macro_rules | `(tactic| specialize "s0") => `(tactic| first | ((with_reducible show TurnP _ _ (IfK.one _) _ _ _ _ _); apply TurnP.one_i) | fail)
local macro_rules | `(tactic| specialize "s0") => `(tactic| first | ((with_reducible show sWE _ _ _); refine sWE_l ?_) | fail)
local macro_rules | `(tactic| specialize "s0") => `(tactic| first | ((with_reducible show sR2 _ _ _ _); refine sR2_i (by first | decide | omega | (simp <;> omega)) (by first | decide | omega | (simp <;> omega)) (by first | decide | omega | (simp <;> omega)) (by first | decide | omega | (simp <;> omega)) ?_) | fail)
local macro_rules | `(tactic| specialize "s0") => `(tactic| first | ((with_reducible show sR1 _ _ _); refine sR1_i (by first | decide | omega | (simp <;> omega)) (by first | decide | omega | (simp <;> omega)) ?_) | fail)
local macro_rules | `(tactic| specialize "s0") => `(tactic| first | ((with_reducible show List.length _ ≤ 100000); (specialize "len")) | fail)
local macro_rules | `(tactic| specialize "s0") => `(tactic| first | exact trivial | fail)
local macro_rules | `(tactic| specialize "s0") => `(tactic| first | ((with_reducible show ∀ _, _ → TurnP _ _ _ _ _ _ _ _); intro _ _) | fail)
local macro_rules | `(tactic| specialize "s0") => `(tactic| first | ((with_reducible show sLc _ _ _ _ _ _ _ _ _ _); apply sLc_i) | fail)
local macro_rules | `(tactic| specialize "s0") => `(tactic| first | ((with_reducible show sInK _ _ _ _ _); refine sInK_i (by (specialize "ok")) (by (specialize "ev")) ?_) | fail)
local macro_rules | `(tactic| specialize "s0") => `(tactic| first | ((with_reducible show sGs _ _ _ _ _ _ _); first | refine sGs_2 ?_ | refine sGs_3 ?_) | fail)
local macro_rules | `(tactic| specialize "s0") => `(tactic| first | ((with_reducible show sLset _ _ _ _ _); refine sLset_i (by (specialize "nth")) rfl ?_) | fail)
local macro_rules | `(tactic| specialize "1") => `(tactic| first | (specialize "s3") | fail)
local macro_rules | `(tactic| specialize "1") => `(tactic| first | (specialize "s0") | fail)
local macro_rules | `(tactic| specialize "1") => `(tactic| first | (specialize "s2") | fail)
local macro_rules | `(tactic| specialize "1") => `(tactic| first | (specialize "s1") | fail)
local macro_rules | `(tactic| specialize "1") => `(tactic| first | ((with_reducible show wI _ _ _ _ _ _ _); (specialize "wi")) | fail)
local macro_rules | `(tactic| specialize "1") => `(tactic| first | ((with_reducible show wO _ _ _ _ _ _); first | refine wO_none ?_ | refine wO_some ?_) | fail)
local macro_rules | `(tactic| specialize "1") => `(tactic| first | ((with_reducible show wW _ _ _ _ _ _); (specialize "tw")) | fail)
local macro_rules | `(tactic| specialize "1") => `(tactic| first | ((with_reducible show wA _ _ _ _ _ _); first | refine wA_nil ?_ | refine wA_cons ?_) | fail)
local macro_rules | `(tactic| specialize "1") => `(tactic| first | ((with_reducible show wG _ _ _ _ _ _ _); (specialize "gg")) | fail)
local macro_rules | `(tactic| specialize "1") => `(tactic| first | ((with_reducible show wS _ _ _ _ _ _); (specialize "st")) | fail)
local macro_rules | `(tactic| specialize "1") => `(tactic| first | ((with_reducible show wB _ _ _ _ _ _); first | refine wB_one ?_ | refine wB_cons ?_ | refine wB_nil ?_) | fail)
local macro_rules | `(tactic| specialize "1") => `(tactic| first | ((with_reducible show wT _ _ _ _ _ _); (specialize "te")) | fail)
local macro_rules | `(tactic| specialize "1") => `(tactic| first | ((with_reducible show wE _ _ _ _ _ _); (specialize "ex")) | fail)
local macro_rules | `(tactic| specialize "go") => `(tactic| repeat' (specialize "1"))
local macro_rules | `(tactic| specialize "glob") => `(tactic| first | ((with_reducible show wE _ _ (Expr.Name (Str.ofString "WISH") _) _ _ _); refine xE_globS (GL.c_WISH (by assumption)) ?_) | fail)
local macro_rules | `(tactic| specialize "glob") => `(tactic| first | ((with_reducible show wE _ _ (Expr.Name (Str.ofString "MOST_DEEDS") _) _ _ _); refine xE_globI (GL.c_MOST_DEEDS (by assumption)) ?_) | fail)
local macro_rules | `(tactic| specialize "glob") => `(tactic| first | ((with_reducible show wE _ _ (Expr.Name (Str.ofString "MOST_AGE") _) _ _ _); refine xE_globI (GL.c_MOST_AGE (by assumption)) ?_) | fail)
local macro_rules | `(tactic| specialize "glob") => `(tactic| first | ((with_reducible show wE _ _ (Expr.Name (Str.ofString "MUSIC") _) _ _ _); refine xE_globS (GL.c_MUSIC (by assumption)) ?_) | fail)
local macro_rules | `(tactic| specialize "glob") => `(tactic| first | ((with_reducible show wE _ _ (Expr.Name (Str.ofString "TALK") _) _ _ _); refine xE_globS (GL.c_TALK (by assumption)) ?_) | fail)
local macro_rules | `(tactic| specialize "glob") => `(tactic| first | ((with_reducible show wE _ _ (Expr.Name (Str.ofString "BELL") _) _ _ _); refine xE_globS (GL.c_BELL (by assumption)) ?_) | fail)
local macro_rules | `(tactic| specialize "glob") => `(tactic| first | ((with_reducible show wE _ _ (Expr.Name (Str.ofString "DIAL") _) _ _ _); refine xE_globS (GL.c_DIAL (by assumption)) ?_) | fail)
local macro_rules | `(tactic| specialize "glob") => `(tactic| first | ((with_reducible show wE _ _ (Expr.Name (Str.ofString "QUIET") _) _ _ _); refine xE_globS (GL.c_QUIET (by assumption)) ?_) | fail)
local macro_rules | `(tactic| specialize "glob") => `(tactic| first | ((with_reducible show wE _ _ (Expr.Name (Str.ofString "NOBODY") _) _ _ _); refine xE_globS (GL.c_NOBODY (by assumption)) ?_) | fail)
local macro_rules | `(tactic| specialize "glob") => `(tactic| first | ((with_reducible show wE _ _ (Expr.Name (Str.ofString "ROUND") _) _ _ _); refine xE_globS (GL.c_ROUND (by assumption)) ?_) | fail)
local macro_rules | `(tactic| specialize "glob") => `(tactic| first | ((with_reducible show wE _ _ (Expr.Name (Str.ofString "BARRED") _) _ _ _); refine xE_globS (GL.c_BARRED (by assumption)) ?_) | fail)
local macro_rules | `(tactic| specialize "glob") => `(tactic| first | ((with_reducible show wE _ _ (Expr.Name (Str.ofString "KNOCKS") _) _ _ _); refine xE_globS (GL.c_KNOCKS (by assumption)) ?_) | fail)
local macro_rules | `(tactic| specialize "glob") => `(tactic| first | ((with_reducible show wE _ _ (Expr.Name (Str.ofString "RINGS") _) _ _ _); refine xE_globS (GL.c_RINGS (by assumption)) ?_) | fail)
local macro_rules | `(tactic| specialize "glob") => `(tactic| first | ((with_reducible show wE _ _ (Expr.Name (Str.ofString "FREE") _) _ _ _); refine xE_globS (GL.c_FREE (by assumption)) ?_) | fail)
local macro_rules | `(tactic| specialize "glob") => `(tactic| first | ((with_reducible show wE _ _ (Expr.Name (Str.ofString "GROUP") _) _ _ _); refine xE_globS (GL.c_GROUP (by assumption)) ?_) | fail)
local macro_rules | `(tactic| specialize "glob") => `(tactic| first | ((with_reducible show wE _ _ (Expr.Name (Str.ofString "BAR") _) _ _ _); refine xE_globS (GL.c_BAR (by assumption)) ?_) | fail)
local macro_rules | `(tactic| specialize "glob") => `(tactic| first | ((with_reducible show wE _ _ (Expr.Name (Str.ofString "STILL") _) _ _ _); refine xE_globS (GL.c_STILL (by assumption)) ?_) | fail)
local macro_rules | `(tactic| specialize "glob") => `(tactic| first | ((with_reducible show wE _ _ (Expr.Name (Str.ofString "WAIT") _) _ _ _); refine xE_globS (GL.c_WAIT (by assumption)) ?_) | fail)
local macro_rules | `(tactic| specialize "glob") => `(tactic| first | ((with_reducible show wE _ _ (Expr.Name (Str.ofString "LATE") _) _ _ _); refine xE_globS (GL.c_LATE (by assumption)) ?_) | fail)
local macro_rules | `(tactic| specialize "glob") => `(tactic| first | ((with_reducible show wE _ _ (Expr.Name (Str.ofString "BUSY") _) _ _ _); refine xE_globS (GL.c_BUSY (by assumption)) ?_) | fail)
local macro_rules | `(tactic| specialize "glob") => `(tactic| first | ((with_reducible show wE _ _ (Expr.Name (Str.ofString "ALL") _) _ _ _); refine xE_globS (GL.c_ALL (by assumption)) ?_) | fail)
local macro_rules | `(tactic| specialize "glob") => `(tactic| first | ((with_reducible show wE _ _ (Expr.Name (Str.ofString "MOST_WISHES") _) _ _ _); refine xE_globI (GL.c_MOST_WISHES (by assumption)) ?_) | fail)
local macro_rules | `(tactic| specialize "glob") => `(tactic| first | ((with_reducible show wE _ _ (Expr.Name (Str.ofString "MOST_LATE") _) _ _ _); refine xE_globI (GL.c_MOST_LATE (by assumption)) ?_) | fail)
local macro_rules | `(tactic| specialize "glob") => `(tactic| first | ((with_reducible show wE _ _ (Expr.Name (Str.ofString "NUMBERS") _) _ _ _); refine xE_globI (GL.c_NUMBERS (by assumption)) ?_) | fail)
local macro_rules | `(tactic| specialize "glob") => `(tactic| first | ((with_reducible show wE _ _ (Expr.Name (Str.ofString "PHONES") _) _ _ _); refine xE_globI (GL.c_PHONES (by assumption)) ?_) | fail)
local macro_rules | `(tactic| specialize "cmT") => `(tactic| first | ((with_reducible show wT _ _ (Expr.Compare _ [CmpOp.NotIn] [Expr.Name (Str.ofString "STATES") _] _) _ _ _); refine xT_notInK (Room.u65 (by assumption)) (DS.k_STATES (by assumption)) (by decide +kernel) ?_) | fail)
local macro_rules | `(tactic| specialize "fun") => `(tactic| first | ((with_reducible show wE _ _ (Expr.Call (Expr.Name (Str.ofString "int") _) _ _ _) _ _ _); refine xE_intB (GL.b_int (by assumption)) ?_) | fail)
local macro_rules | `(tactic| specialize "fun") => `(tactic| first | ((with_reducible show wE _ _ (Expr.Call (Expr.Name (Str.ofString "list") _) _ _ _) _ _ _); refine xE_list (GL.b_list (by assumption)) ?_) | fail)
local macro_rules | `(tactic| specialize "fun") => `(tactic| first | ((with_reducible show wE _ _ (Expr.Call (Expr.Name (Str.ofString "tuple") _) _ _ _) _ _ _); refine xE_tuple (GL.b_tuple (by assumption)) ?_) | fail)
local macro_rules | `(tactic| specialize "fun") => `(tactic| first | ((with_reducible show wE _ _ (Expr.Call (Expr.Name (Str.ofString "len") _) _ _ _) _ _ _); refine xE_len (GL.b_len (by assumption)) ?_) | fail)
local macro_rules | `(tactic| specialize "fun") => `(tactic| first | ((with_reducible show wE _ _ (Expr.Call (Expr.Name (Str.ofString "isinstance") _) [_, Expr.Name (Str.ofString "list") _] [] _) _ _ _); refine xE_isi .lst (GL.b_isinstance (by assumption)) (GL.b_list (by assumption)) PyProof.Rows.boot_list ?_) | fail)
local macro_rules | `(tactic| specialize "fun") => `(tactic| first | ((with_reducible show wE _ _ (Expr.Call (Expr.Name (Str.ofString "isinstance") _) [_, Expr.Name (Str.ofString "str") _] [] _) _ _ _); refine xE_isi .str (GL.b_isinstance (by assumption)) (GL.b_str (by assumption)) PyProof.Rows.boot_str ?_) | fail)
local macro_rules | `(tactic| specialize "fun") => `(tactic| first | ((with_reducible show wE _ _ (Expr.Call (Expr.Name (Str.ofString "isinstance") _) [_, Expr.Name (Str.ofString "tuple") _] [] _) _ _ _); refine xE_isi .tup (GL.b_isinstance (by assumption)) (GL.b_tuple (by assumption)) PyProof.Rows.boot_tuple ?_) | fail)
local macro_rules | `(tactic| specialize "fun") => `(tactic| first | ((with_reducible show wE _ _ (Expr.Call (Expr.Name (Str.ofString "isinstance") _) [_, Expr.Name (Str.ofString "bool") _] [] _) _ _ _); refine xE_isi .bl (GL.b_isinstance (by assumption)) (GL.b_bool (by assumption)) PyProof.Rows.boot_bool ?_) | fail)
local macro_rules | `(tactic| specialize "fun") => `(tactic| first | ((with_reducible show wE _ _ (Expr.Call (Expr.Name (Str.ofString "isinstance") _) [_, Expr.Name (Str.ofString "int") _] [] _) _ _ _); refine xE_isi .int (GL.b_isinstance (by assumption)) (GL.b_int (by assumption)) PyProof.Rows.boot_int ?_) | fail)
local macro_rules | `(tactic| specialize "it") => `(tactic| first | ((with_reducible show wI _ _ _ (Expr.Call (Expr.Name (Str.ofString "enumerate") _) [_] [] _) _ _ _); refine xI_enum (GL.b_enumerate (by assumption)) ?_) | fail)
local macro_rules | `(tactic| specialize "it") => `(tactic| first | ((with_reducible show wI _ _ _ (Expr.Call (Expr.Name (Str.ofString "range") _) [_, _] [] _) _ _ _); refine xI_range2 (GL.b_range (by assumption)) ?_) | fail)
local macro_rules | `(tactic| specialize "it") => `(tactic| first | ((with_reducible show wI _ _ _ (Expr.Call (Expr.Name (Str.ofString "range") _) [_] [] _) _ _ _); refine xI_range1 (GL.b_range (by assumption)) ?_) | fail)
local macro_rules | `(tactic| specialize "cls") => `(tactic| first | exact DS.cls_Hall (by assumption) | fail)
local macro_rules | `(tactic| specialize "cls") => `(tactic| first | exact DS.cls_Phone (by assumption) | fail)
local macro_rules | `(tactic| specialize "cls") => `(tactic| first | exact DS.cls_Call (by assumption) | fail)
local macro_rules | `(tactic| specialize "cls") => `(tactic| first | exact DS.cls_Way (by assumption) | fail)
local macro_rules | `(tactic| specialize "cls") => `(tactic| first | exact DS.cls_Book (by assumption) | fail)
local macro_rules | `(tactic| specialize "noa") => `(tactic| first | exact DS.na_Hall_calls (by assumption) | fail)
local macro_rules | `(tactic| specialize "noa") => `(tactic| first | exact DS.na_Hall_phones (by assumption) | fail)
local macro_rules | `(tactic| specialize "noa") => `(tactic| first | exact DS.na_Hall_book (by assumption) | fail)
local macro_rules | `(tactic| specialize "noa") => `(tactic| first | exact DS.na_Phone_tone (by assumption) | fail)
local macro_rules | `(tactic| specialize "noa") => `(tactic| first | exact DS.na_Phone_bell (by assumption) | fail)
local macro_rules | `(tactic| specialize "noa") => `(tactic| first | exact DS.na_Phone_kept (by assumption) | fail)
local macro_rules | `(tactic| specialize "noa") => `(tactic| first | exact DS.na_Phone_now (by assumption) | fail)
local macro_rules | `(tactic| specialize "noa") => `(tactic| first | exact DS.na_Phone_is_up (by assumption) | fail)
local macro_rules | `(tactic| specialize "noa") => `(tactic| first | exact DS.na_Call_is_talk (by assumption) | fail)
local macro_rules | `(tactic| specialize "noa") => `(tactic| first | exact DS.na_Call_age (by assumption) | fail)
local macro_rules | `(tactic| specialize "noa") => `(tactic| first | exact DS.na_Call_people (by assumption) | fail)
local macro_rules | `(tactic| specialize "noa") => `(tactic| first | exact DS.na_Call_way (by assumption) | fail)
local macro_rules | `(tactic| specialize "noa") => `(tactic| first | exact DS.na_Way_ears (by assumption) | fail)
local macro_rules | `(tactic| specialize "noa") => `(tactic| first | exact DS.na_Way_word (by assumption) | fail)
local macro_rules | `(tactic| specialize "noa") => `(tactic| first | exact DS.na_Way_group (by assumption) | fail)
local macro_rules | `(tactic| specialize "noa") => `(tactic| first | exact DS.na_Way_leads (by assumption) | fail)
local macro_rules | `(tactic| specialize "noa") => `(tactic| first | exact DS.na_Way_chain (by assumption) | fail)
local macro_rules | `(tactic| specialize "noa") => `(tactic| first | exact DS.na_Way_caller (by assumption) | fail)
local macro_rules | `(tactic| specialize "noa") => `(tactic| first | exact DS.na_Way_book (by assumption) | fail)
local macro_rules | `(tactic| specialize "noa") => `(tactic| first | exact DS.na_Book_wanted (by assumption) | fail)

-- P1H
section
variable {P : Program} {w : World} {K : PySem.W.Frag} {mg : Str → Option Value} {base : Heap} {C_Book C_Way C_Call C_Phone C_Hall : Addr}
def isNumW (w : W) (lo hi : Int) : Bool := match w with
  | .int i => decide (lo ≤ i) && decide (i ≤ hi)
  | _ => false
theorem ty_ref {S : Sto} {k : Nat} {t : Ty} (h : tyW S (.ref k) = some t) : t = .lst ∨ t = .dict := by
  unfold tyW at h
  dsimp only at h
  split at h
  · cases h; exact .inl rfl
  · cases h; exact .inr rfl
  · cases h; exact .inr rfl
  · cases h
def asp_is_number : ASp := fun ws S Φ _ => ∃ w lo hi t, ws = [w, .int lo, .int hi] ∧ tyW S w = some t ∧ Φ (.bl (isNumW w lo hi)) S
theorem cf_is_number (G : GL mg) (D : DS K mg C_Book C_Way C_Call C_Phone C_Hall) : CFn P w K mg base "is_number" 1 3 asp_is_number := by
  refine D.d_is_number.fn sc_is_number fun f cdv A outer s H E hr ws S Φ Ψ hl hS ha => ?_
  obtain ⟨w, lo, hi, t, rfl, ht, h⟩ := ha
  cases w with
  | ref k =>
    rcases ty_ref ht with e | e
    all_goals
      subst e
      specialize "go"
      exact fin.as h
  | raw v => cases ht
  | scr K' ns => cases ht
  | xi _ _ _ _ => cases ht
  | thg _ _ => cases ht
  | _ =>
    cases ht
    specialize "go"
    exact fin.as h
local macro_rules | `(tactic| specialize "fun") => `(tactic| ((with_reducible show wE _ _ (Expr.Call (Expr.Name (Str.ofString "is_number") _) _ _ _) _ _ _); refine xE_call (cf_is_number (by assumption) (by assumption)) (Room.mono (by assumption) (by decide)) ?_))
local macro_rules | `(tactic| specialize "s3") => `(tactic| ((with_reducible show asp_is_number _ _ _ _); refine ⟨_, _, _, _, rfl, (by first | rfl | assumption), ?_⟩))
local macro_rules | `(tactic| specialize "t2") => `(tactic| (simp [isNumW, *] <;> fail))
def asp_is_phone : ASp := fun ws S Φ _ => ∃ w t, ws = [w] ∧ tyW S w = some t ∧ Φ (.bl (isNumW w 0 5)) S
theorem cf_is_phone (G : GL mg) (D : DS K mg C_Book C_Way C_Call C_Phone C_Hall) : CFn P w K mg base "is_phone" 2 1 asp_is_phone := by
  refine D.d_is_phone.fn sc_is_phone fun f cdv A outer s H E hr ws S Φ Ψ hl hS ha => ?_
  obtain ⟨w, t, rfl, ht, h⟩ := ha
  specialize "go"
  exact fin.as h
local macro_rules | `(tactic| specialize "fun") => `(tactic| ((with_reducible show wE _ _ (Expr.Call (Expr.Name (Str.ofString "is_phone") _) _ _ _) _ _ _); refine xE_call (cf_is_phone (by assumption) (by assumption)) (Room.mono (by assumption) (by decide)) ?_))
local macro_rules | `(tactic| specialize "s3") => `(tactic| ((with_reducible show asp_is_phone _ _ _ _); refine ⟨_, _, rfl, (by first | rfl | assumption), ?_⟩))
/-- need_phone, need_number: of what is one -/
def asp_need_phone : ASp := fun ws S Φ _ => ∃ i : Int, ws = [.int i] ∧ 0 ≤ i ∧ i ≤ 5 ∧ Φ .non S
theorem num_yes {i lo hi : Int} (h1 : lo ≤ i) (h2 : i ≤ hi) : isNumW (.int i) lo hi = true := by
  show (decide (lo ≤ i) && decide (i ≤ hi)) = true
  rw [decide_eq_true h1, decide_eq_true h2]
  rfl
theorem cf_need_phone (G : GL mg) (D : DS K mg C_Book C_Way C_Call C_Phone C_Hall) : CFn P w K mg base "need_phone" 3 1 asp_need_phone := by
  refine D.d_need_phone.fn sc_need_phone fun f cdv A outer s H E hr ws S Φ Ψ hl hS ha => ?_
  obtain ⟨i, rfl, h1, h2, h⟩ := ha
  specialize "go"
  exact fin.as h
def asp_need_number : ASp := fun ws S Φ _ => ∃ i : Int, ws = [.int i] ∧ 0 ≤ i ∧ i ≤ 7 ∧ Φ .non S
theorem cf_need_number (G : GL mg) (D : DS K mg C_Book C_Way C_Call C_Phone C_Hall) : CFn P w K mg base "need_number" 3 1 asp_need_number := by
  refine D.d_need_number.fn sc_need_number fun f cdv A outer s H E hr ws S Φ Ψ hl hS ha => ?_
  obtain ⟨i, rfl, h1, h2, h⟩ := ha
  specialize "go"
  exact fin.as h
def asp_are_members : ASp := fun ws S Φ _ => ∃ ms : List Int, ws = [.tup (intsW ms)] ∧ msOk ms ∧ Φ (.bl true) S
theorem cf_are_members (G : GL mg) (D : DS K mg C_Book C_Way C_Call C_Phone C_Hall) : CFn P w K mg base "are_members" 3 1 asp_are_members := by
  refine D.d_are_members.fn sc_are_members fun f cdv A outer s H E hr ws S Φ Ψ hl hS ha => ?_
  obtain ⟨ms, rfl, h1, h⟩ := ha
  have hl6 := h1.2.1
  specialize "go"
  have e1 : (intsW ms).isEmpty = false := by
    cases ms with
    | nil => exact absurd rfl h1.1
    | cons a l => rfl
  have e2 : (List.filter (fun x => !isNumW (W.int x) 0 5) ms) = [] := by
    rw [List.filter_eq_nil_iff]
    intro x hx
    rw [num_yes (h1.2.2.1 x hx).1 (h1.2.2.1 x hx).2]
    exact Bool.false_ne_true
  refine sIte_f (by rw [e1, e2]; rfl) ?_
  specialize "go"
  refine fin.eq h ?_
  congr 1
  rw [List.isEmpty_iff, List.filter_eq_nil_iff]
  intro k hk
  rw [List.mem_range, len_ints] at hk
  have hk' : k + 1 < ms.length := by omega
  have e1 : (1 + (k : Int)).toNat = k + 1 := by omega
  have e2 : (1 + (k : Int) - 1).toNat = k := by omega
  have q := h1.2.2.2 k _ _ (List.getElem?_eq_getElem (by omega : k < ms.length)) (List.getElem?_eq_getElem hk')
  rw [e1, e2, List.getD_eq_getElem?_getD, List.getD_eq_getElem?_getD, List.getElem?_eq_getElem hk', List.getElem?_eq_getElem (by omega : k < ms.length)]
  simp only [Option.getD_some, decide_eq_true_eq]
  omega
local macro_rules | `(tactic| specialize "fun") => `(tactic| ((with_reducible show wE _ _ (Expr.Call (Expr.Name (Str.ofString "are_members") _) _ _ _) _ _ _); refine xE_call (cf_are_members (by assumption) (by assumption)) (Room.mono (by assumption) (by decide)) ?_))
local macro_rules | `(tactic| specialize "s3") => `(tactic| ((with_reducible show asp_are_members _ _ _ _); refine ⟨_, rfl, (by assumption), ?_⟩))
/-- is_wish of a wish -/
def asp_is_wish : ASp := fun ws S Φ _ => ∃ x : Wish, ws = [x.w] ∧ x.ok ∧ Φ (.bl true) S
theorem cf_is_wish (G : GL mg) (D : DS K mg C_Book C_Way C_Call C_Phone C_Hall) : CFn P w K mg base "is_wish" 4 1 asp_is_wish := by
  refine D.d_is_wish.fn sc_is_wish fun f cdv A outer s H E hr ws S Φ Ψ hl hS ha => ?_
  obtain ⟨x, rfl, hx, h⟩ := ha
  cases x with
  | group g ms =>
    obtain ⟨h1, h2, h3⟩ := hx
    specialize "go"
    specialize "fi"
  | wait p =>
    obtain ⟨h1, h2⟩ := hx
    specialize "go"
    specialize "fi"
  | still p =>
    obtain ⟨h1, h2⟩ := hx
    specialize "go"
    specialize "fi"
  | late p g t =>
    obtain ⟨h1, h2, h3, h4, h5, h6, h7⟩ := hx
    specialize "go"
    specialize "fi"
  | _ p g =>
    obtain ⟨h1, h2, h3, h4, h5⟩ := hx
    specialize "go"
    specialize "fi"
local macro_rules | `(tactic| specialize "fun") => `(tactic| ((with_reducible show wE _ _ (Expr.Call (Expr.Name (Str.ofString "is_wish") _) _ _ _) _ _ _); refine xE_call (cf_is_wish (by assumption) (by assumption)) (Room.mono (by assumption) (by decide)) ?_))
local macro_rules | `(tactic| specialize "s3") => `(tactic| ((with_reducible show asp_is_wish _ _ _ _); refine ⟨_, rfl, (by assumption), ?_⟩))
def asp_key_of : ASp := fun ws S Φ _ => ∃ x : Wish, ws = [x.w] ∧ Φ (.tup (x.key.map keyW1)) S
theorem cf_key_of (G : GL mg) (D : DS K mg C_Book C_Way C_Call C_Phone C_Hall) : CFn P w K mg base "key_of" 1 1 asp_key_of := by
  refine D.d_key_of.fn sc_key_of fun f cdv A outer s H E hr ws S Φ Ψ hl hS ha => ?_
  obtain ⟨x, rfl, h⟩ := ha
  cases x <;> (specialize "go") <;> (specialize "fi")
local macro_rules | `(tactic| specialize "fun") => `(tactic| ((with_reducible show wE _ _ (Expr.Call (Expr.Name (Str.ofString "key_of") _) _ _ _) _ _ _); refine xE_call (cf_key_of (by assumption) (by assumption)) (Room.mono (by assumption) (by decide)) ?_))
local macro_rules | `(tactic| specialize "s3") => `(tactic| ((with_reducible show asp_key_of _ _ _ _); refine ⟨_, rfl, ?_⟩))
end

local macro_rules | `(tactic| specialize "fun") => `(tactic| ((with_reducible show wE _ _ (Expr.Call (Expr.Name (Str.ofString "is_number") _) _ _ _) _ _ _); refine xE_call (cf_is_number (by assumption) (by assumption)) (Room.mono (by assumption) (by decide)) ?_))
local macro_rules | `(tactic| specialize "s3") => `(tactic| ((with_reducible show asp_is_number _ _ _ _); refine ⟨_, _, _, _, rfl, (by first | rfl | assumption), ?_⟩))
local macro_rules | `(tactic| specialize "t2") => `(tactic| (simp [isNumW, *] <;> fail))
local macro_rules | `(tactic| specialize "fun") => `(tactic| ((with_reducible show wE _ _ (Expr.Call (Expr.Name (Str.ofString "is_phone") _) _ _ _) _ _ _); refine xE_call (cf_is_phone (by assumption) (by assumption)) (Room.mono (by assumption) (by decide)) ?_))
local macro_rules | `(tactic| specialize "s3") => `(tactic| ((with_reducible show asp_is_phone _ _ _ _); refine ⟨_, _, rfl, (by first | rfl | assumption), ?_⟩))
local macro_rules | `(tactic| specialize "fun") => `(tactic| ((with_reducible show wE _ _ (Expr.Call (Expr.Name (Str.ofString "are_members") _) _ _ _) _ _ _); refine xE_call (cf_are_members (by assumption) (by assumption)) (Room.mono (by assumption) (by decide)) ?_))
local macro_rules | `(tactic| specialize "s3") => `(tactic| ((with_reducible show asp_are_members _ _ _ _); refine ⟨_, rfl, (by assumption), ?_⟩))
local macro_rules | `(tactic| specialize "fun") => `(tactic| ((with_reducible show wE _ _ (Expr.Call (Expr.Name (Str.ofString "is_wish") _) _ _ _) _ _ _); refine xE_call (cf_is_wish (by assumption) (by assumption)) (Room.mono (by assumption) (by decide)) ?_))
local macro_rules | `(tactic| specialize "s3") => `(tactic| ((with_reducible show asp_is_wish _ _ _ _); refine ⟨_, rfl, (by assumption), ?_⟩))
local macro_rules | `(tactic| specialize "fun") => `(tactic| ((with_reducible show wE _ _ (Expr.Call (Expr.Name (Str.ofString "key_of") _) _ _ _) _ _ _); refine xE_call (cf_key_of (by assumption) (by assumption)) (Room.mono (by assumption) (by decide)) ?_))
local macro_rules | `(tactic| specialize "s3") => `(tactic| ((with_reducible show asp_key_of _ _ _ _); refine ⟨_, rfl, ?_⟩))

section
-- P2H
section
variable {P : Program} {w : World} {K : PySem.W.Frag} {mg : Str → Option Value} {base : Heap} {C_Book C_Way C_Call C_Phone C_Hall : Addr}
def asp_need_wishes : ASp := fun ws S Φ _ => ∃ xs : List Wish, ws = [.lst (xs.map Wish.w)] ∧ xs.length ≤ 24 ∧ (∀ x ∈ xs, x.ok) ∧ (xs.map Wish.key).Nodup ∧ Φ .non S
theorem cf_need_wishes (G : GL mg) (D : DS K mg C_Book C_Way C_Call C_Phone C_Hall) : CFn P w K mg base "need_wishes" 5 1 asp_need_wishes := by
  refine D.d_need_wishes.fn sc_need_wishes fun f cdv A outer s H E hr ws S Φ Ψ hl hS ha => ?_
  obtain ⟨xs, rfl, h1, h2, h3, h⟩ := ha
  specialize "go"
  refine wS_for (passes_of rfl) rfl ?_
  specialize "go"
  refine ⟨fun i E' S' => i ≤ xs.length ∧ ∃ a b, E' = [some (.lst (xs.map Wish.w)), some (.ref S.length), a, b] ∧ S' = S ++ [.dt (knownD (xs.take i))], ⟨Nat.zero_le _, none, none, rfl, rfl⟩, fun _ _ _ _ => trivial, ?_, ?_⟩
  · rintro i w E' S' hw ⟨hi, a, b, rfl, rfl⟩
    obtain ⟨u, hu, rfl⟩ := enum_inv hw
    obtain ⟨x, hx, rfl⟩ := map_inv hu
    have hil : i < xs.length := (List.getElem?_eq_some_iff.mp hx).1
    have hxo := h2 x (List.mem_of_getElem? hx)
    have hkn := key_new h3 hx
    specialize "go"
    refine sIte_f (by rw [known_none hkn, decide_eq_false (by omega)]; rfl) ?_
    specialize "go"
    rw [known_put hkn, ← take_succ hx, set_new0]
    dsimp only
    refine dropTo.as (n := (S ++ [O.dt []]).length) ?_
    exact ⟨hil, _, _, rfl, rfl⟩
  · rintro E' S' ⟨hi, a, b, rfl, rfl⟩
    specialize "go"
    exact fin.drop (Nat.le_refl _) hS .non h
local macro_rules | `(tactic| specialize "fun") => `(tactic| ((with_reducible show wE _ _ (Expr.Call (Expr.Name (Str.ofString "need_wishes") _) _ _ _) _ _ _); refine xE_call (cf_need_wishes (by assumption) (by assumption)) (Room.mono (by assumption) (by decide)) ?_))
local macro_rules | `(tactic| specialize "s3") => `(tactic| ((with_reducible show asp_need_wishes _ _ _ _); refine ⟨_, rfl, (by assumption), (by assumption), (by assumption), ?_⟩))
local macro_rules | `(tactic| specialize "fun") => `(tactic| ((with_reducible show wE _ _ (Expr.Call (Expr.Name (Str.ofString "need_phone") _) _ _ _) _ _ _); refine xE_call (cf_need_phone (by assumption) (by assumption)) (Room.mono (by assumption) (by decide)) ?_))
local macro_rules | `(tactic| specialize "s3") => `(tactic| ((with_reducible show asp_need_phone _ _ _ _); refine ⟨_, rfl, (by assumption), (by assumption), ?_⟩))
local macro_rules | `(tactic| specialize "fun") => `(tactic| ((with_reducible show wE _ _ (Expr.Call (Expr.Name (Str.ofString "need_number") _) _ _ _) _ _ _); refine xE_call (cf_need_number (by assumption) (by assumption)) (Room.mono (by assumption) (by decide)) ?_))
local macro_rules | `(tactic| specialize "s3") => `(tactic| ((with_reducible show asp_need_number _ _ _ _); refine ⟨_, rfl, (by assumption), (by assumption), ?_⟩))
end

local macro_rules | `(tactic| specialize "fun") => `(tactic| ((with_reducible show wE _ _ (Expr.Call (Expr.Name (Str.ofString "need_wishes") _) _ _ _) _ _ _); refine xE_call (cf_need_wishes (by assumption) (by assumption)) (Room.mono (by assumption) (by decide)) ?_))
local macro_rules | `(tactic| specialize "s3") => `(tactic| ((with_reducible show asp_need_wishes _ _ _ _); refine ⟨_, rfl, (by assumption), (by assumption), (by assumption), ?_⟩))
local macro_rules | `(tactic| specialize "fun") => `(tactic| ((with_reducible show wE _ _ (Expr.Call (Expr.Name (Str.ofString "need_phone") _) _ _ _) _ _ _); refine xE_call (cf_need_phone (by assumption) (by assumption)) (Room.mono (by assumption) (by decide)) ?_))
local macro_rules | `(tactic| specialize "s3") => `(tactic| ((with_reducible show asp_need_phone _ _ _ _); refine ⟨_, rfl, (by assumption), (by assumption), ?_⟩))
local macro_rules | `(tactic| specialize "fun") => `(tactic| ((with_reducible show wE _ _ (Expr.Call (Expr.Name (Str.ofString "need_number") _) _ _ _) _ _ _); refine xE_call (cf_need_number (by assumption) (by assumption)) (Room.mono (by assumption) (by decide)) ?_))
local macro_rules | `(tactic| specialize "s3") => `(tactic| ((with_reducible show asp_need_number _ _ _ _); refine ⟨_, rfl, (by assumption), (by assumption), ?_⟩))

-- P3H
section
variable {P : Program} {w : World} {K : PySem.W.Frag} {mg : Str → Option Value} {base : Heap} {C_Book C_Way C_Call C_Phone C_Hall : Addr}
def asp_Book_init (C : Addr) : ASp := fun ws S Φ _ => ∃ S0 xs, ws = [.ref S0.length, .lst (xs.map Wish.w)] ∧ S = S0 ++ [.ins C []] ∧ xs.length ≤ 24 ∧ (xs.map Wish.key).Nodup ∧
  Φ .non (S0 ++ [.ins C [("wanted", .ref (S0.length + 1))], .dt (bookD xs)])
theorem cf_Book_init (G : GL mg) (D : DS K mg C_Book C_Way C_Call C_Phone C_Hall) : CMake P w K mg base "Book" C_Book 2 2 (asp_Book_init C_Book) := by
  refine D.d_Book_init.fn sc_Book_init fun f cdv A outer s H E hr ws S Φ Ψ hl hS ha => ?_
  obtain ⟨S0, xs, rfl, rfl, h1, h3, h⟩ := ha
  specialize "go"
  rw [List.append_assoc]
  specialize "go"
  rw [set_new0]
  refine wS_for (passes_of rfl) rfl ?_
  specialize "go"
  refine ⟨fun i E' S' => i ≤ xs.length ∧ ∃ a, E' = [some (.ref S0.length), some (.lst (xs.map Wish.w)), a] ∧ S' = S0 ++ [.ins C_Book [("wanted", .ref (S0.length + 1))], .dt (bookD (xs.take i))], ⟨Nat.zero_le _, none, rfl, by simp [putFW, bookD]⟩, fun _ _ _ _ => trivial, ?_, ?_⟩
  · rintro i w E' S' hw ⟨hi, a, rfl, rfl⟩
    obtain ⟨x, hx, rfl⟩ := map_inv hw
    have hil : i < xs.length := (List.getElem?_eq_some_iff.mp hx).1
    have hkn := key_new h3 hx
    specialize "go"
    rw [put_book hkn, ← take_succ hx, set_new]
    dsimp only
    refine dropTo.as ?_
    exact ⟨hil, _, rfl, rfl⟩
  · rintro E' S' ⟨hi, a, rfl, rfl⟩
    specialize "go"
    rw [List.length_map, List.take_length]
    exact fin.as h
local macro_rules | `(tactic| specialize "fun") => `(tactic| ((with_reducible show wE _ _ (Expr.Call (Expr.Name (Str.ofString "Book") _) _ _ _) _ _ _); refine xE_make (cf_Book_init (by assumption) (by assumption)) (Room.mono (by assumption) (by decide)) ?_))
local macro_rules | `(tactic| specialize "s3") => `(tactic| ((with_reducible show asp_Book_init _ _ _ _ _); refine ⟨_, _, rfl, rfl, (by assumption), (by assumption), ⟨rfl, ?_⟩⟩))
def asp_has (C : Addr) : ASp := fun ws S Φ _ => ∃ j xs word p, ws = [.ref j, .str word, .int p] ∧ BookAt C S j xs ∧ Φ (.bl (hasB xs [.inr word, .inl p])) S
theorem cf_has (G : GL mg) (D : DS K mg C_Book C_Way C_Call C_Phone C_Hall) : CMeth P w K mg base C_Book "has" 1 3 (asp_has C_Book) := by
  refine D.d_Book_has.fn sc_Book_has fun f cdv A outer s H E hr ws S Φ Ψ hl hS ha => ?_
  obtain ⟨j, xs, word, p, rfl, ⟨d, b1, b2⟩, h⟩ := ha
  specialize "go"
  refine fin.eq h ?_
  exact congrArg W.bl val_has
local macro_rules | `(tactic| specialize "fun") => `(tactic| ((with_reducible show wE _ _ (Expr.Call (Expr.Attribute _ (Str.ofString "has") _) _ _ _) _ _ _); refine xE_meth (DS.cls_Book (by assumption)) (cf_has (by assumption) (by assumption)) (Room.mono (by assumption) (by decide)) ?_))
local macro_rules | `(tactic| specialize "s3") => `(tactic| ((with_reducible show asp_has _ _ _ _ _); refine ⟨_, _, _, _, rfl, (by specialize "bk"), ?_⟩))
local macro_rules | `(tactic| specialize "bk") => `(tactic| first | assumption | exact ⟨_, (by specialize "nth"), (by specialize "nth")⟩)
def asp_bars (C : Addr) : ASp := fun ws S Φ _ => ∃ j xs p c, ws = [.ref j, .int p, .int c] ∧ BookAt C S j xs ∧ Φ (.bl (barsF xs p c)) S
theorem cf_bars (G : GL mg) (D : DS K mg C_Book C_Way C_Call C_Phone C_Hall) : CMeth P w K mg base C_Book "bars" 1 3 (asp_bars C_Book) := by
  refine D.d_Book_bars.fn sc_Book_bars fun f cdv A outer s H E hr ws S Φ Ψ hl hS ha => ?_
  obtain ⟨j, xs, p, c, rfl, ⟨d, b1, b2⟩, h⟩ := ha
  specialize "go"
  refine fin.eq h ?_
  exact congrArg W.bl val_has
local macro_rules | `(tactic| specialize "fun") => `(tactic| ((with_reducible show wE _ _ (Expr.Call (Expr.Attribute _ (Str.ofString "bars") _) _ _ _) _ _ _); refine xE_meth (DS.cls_Book (by assumption)) (cf_bars (by assumption) (by assumption)) (Room.mono (by assumption) (by decide)) ?_))
local macro_rules | `(tactic| specialize "s3") => `(tactic| ((with_reducible show asp_bars _ _ _ _ _); refine ⟨_, _, _, _, rfl, (by specialize "bk"), ?_⟩))
def asp_goal (C : Addr) : ASp := fun ws S Φ _ => ∃ j xs word p g x, ws = [.ref j, .str word, .int p] ∧ BookAt C S j xs ∧ getB xs [.inr word, .inl p] = some x ∧ (x = .all p g ∨ x = .busy p g) ∧ Φ (.int g) S
theorem cf_goal (G : GL mg) (D : DS K mg C_Book C_Way C_Call C_Phone C_Hall) : CMeth P w K mg base C_Book "goal" 1 3 (asp_goal C_Book) := by
  refine D.d_Book_goal.fn sc_Book_goal fun f cdv A outer s H E hr ws S Φ Ψ hl hS ha => ?_
  obtain ⟨j, xs, word, p, g, x, rfl, ⟨d, b1, b2⟩, hg, hx, h⟩ := ha
  have hv : dgetW S d (.tup [.str word, .int p]) = some (some x.w) := by
    rw [dget_t b2 rfl, val_book, hg]
    rfl
  specialize "go"
  rcases hx with rfl | rfl
  all_goals
    specialize "go"
    exact fin.as h
local macro_rules | `(tactic| specialize "fun") => `(tactic| ((with_reducible show wE _ _ (Expr.Call (Expr.Attribute _ (Str.ofString "goal") _) _ _ _) _ _ _); refine xE_meth (DS.cls_Book (by assumption)) (cf_goal (by assumption) (by assumption)) (Room.mono (by assumption) (by decide)) ?_))
def asp_members (C : Addr) : ASp := fun ws S Φ _ => ∃ j xs g, ws = [.ref j, .int g] ∧ BookAt C S j xs ∧ Φ (.tup (intsW (membersF xs g))) S
theorem cf_members (G : GL mg) (D : DS K mg C_Book C_Way C_Call C_Phone C_Hall) : CMeth P w K mg base C_Book "members" 1 2 (asp_members C_Book) := by
  refine D.d_Book_members.fn sc_Book_members fun f cdv A outer s H E hr ws S Φ Ψ hl hS ha => ?_
  obtain ⟨j, xs, g, rfl, ⟨d, b1, b2⟩, h⟩ := ha
  specialize "go"
  refine sIte_s (fun e => ?_) (fun e => ?_)
  · have e : hasB xs [.inr "group", .inl g] = true := val_has.symm.trans e
    have hv : dgetW S d (.tup [.str "group", .int g]) = some (some (Wish.group g (membersF xs g)).w) := by
      rw [dget_t b2 rfl, val_book, members_yes e]
      rfl
    specialize "go"
    exact fin.as h
  · have e : hasB xs [.inr "group", .inl g] = false := val_has.symm.trans e
    specialize "go"
    rw [members_no e] at h
    exact fin.as h
local macro_rules | `(tactic| specialize "fun") => `(tactic| ((with_reducible show wE _ _ (Expr.Call (Expr.Attribute _ (Str.ofString "members") _) _ _ _) _ _ _); refine xE_meth (DS.cls_Book (by assumption)) (cf_members (by assumption) (by assumption)) (Room.mono (by assumption) (by decide)) ?_))
local macro_rules | `(tactic| specialize "s3") => `(tactic| ((with_reducible show asp_members _ _ _ _ _); refine ⟨_, _, _, rfl, (by specialize "bk"), ?_⟩))
end

local macro_rules | `(tactic| specialize "fun") => `(tactic| ((with_reducible show wE _ _ (Expr.Call (Expr.Name (Str.ofString "Book") _) _ _ _) _ _ _); refine xE_make (cf_Book_init (by assumption) (by assumption)) (Room.mono (by assumption) (by decide)) ?_))
local macro_rules | `(tactic| specialize "s3") => `(tactic| ((with_reducible show asp_Book_init _ _ _ _ _); refine ⟨_, _, rfl, rfl, (by assumption), (by assumption), ⟨rfl, ?_⟩⟩))
local macro_rules | `(tactic| specialize "fun") => `(tactic| ((with_reducible show wE _ _ (Expr.Call (Expr.Attribute _ (Str.ofString "has") _) _ _ _) _ _ _); refine xE_meth (DS.cls_Book (by assumption)) (cf_has (by assumption) (by assumption)) (Room.mono (by assumption) (by decide)) ?_))
local macro_rules | `(tactic| specialize "s3") => `(tactic| ((with_reducible show asp_has _ _ _ _ _); refine ⟨_, _, _, _, rfl, (by specialize "bk"), ?_⟩))
local macro_rules | `(tactic| specialize "bk") => `(tactic| first | assumption | exact ⟨_, (by specialize "nth"), (by specialize "nth")⟩)
local macro_rules | `(tactic| specialize "fun") => `(tactic| ((with_reducible show wE _ _ (Expr.Call (Expr.Attribute _ (Str.ofString "bars") _) _ _ _) _ _ _); refine xE_meth (DS.cls_Book (by assumption)) (cf_bars (by assumption) (by assumption)) (Room.mono (by assumption) (by decide)) ?_))
local macro_rules | `(tactic| specialize "s3") => `(tactic| ((with_reducible show asp_bars _ _ _ _ _); refine ⟨_, _, _, _, rfl, (by specialize "bk"), ?_⟩))
local macro_rules | `(tactic| specialize "fun") => `(tactic| ((with_reducible show wE _ _ (Expr.Call (Expr.Attribute _ (Str.ofString "goal") _) _ _ _) _ _ _); refine xE_meth (DS.cls_Book (by assumption)) (cf_goal (by assumption) (by assumption)) (Room.mono (by assumption) (by decide)) ?_))
local macro_rules | `(tactic| specialize "fun") => `(tactic| ((with_reducible show wE _ _ (Expr.Call (Expr.Attribute _ (Str.ofString "members") _) _ _ _) _ _ _); refine xE_meth (DS.cls_Book (by assumption)) (cf_members (by assumption) (by assumption)) (Room.mono (by assumption) (by decide)) ?_))
local macro_rules | `(tactic| specialize "s3") => `(tactic| ((with_reducible show asp_members _ _ _ _ _); refine ⟨_, _, _, rfl, (by specialize "bk"), ?_⟩))

-- P4H
section
variable {P : Program} {w : World} {K : PySem.W.Frag} {mg : Str → Option Value} {base : Heap} {C_Book C_Way C_Call C_Phone C_Hall : Addr}
def asp_rings_at (C : Addr) : ASp := fun ws S Φ _ => ∃ j xs c g st sv, ws = [.ref j, .int c, .int g, sv] ∧ (∀ S : Sto, itemsW S sv = some (st.map stW)) ∧ BookAt C S j xs ∧ (∀ x ∈ xs, x.ok) ∧ st.length = 6 ∧ Φ (.tup (intsW (ringsF xs c g st))) S
theorem cf_rings_at (G : GL mg) (D : DS K mg C_Book C_Way C_Call C_Phone C_Hall) : CFn P w K mg base "rings_at" 2 4 (asp_rings_at C_Book) := by
  refine D.d_rings_at.fn sc_rings_at fun f cdv A outer s H E hr ws S Φ Ψ hl hS ha => ?_
  obtain ⟨j, xs, c, g, st, sv, rfl, hsv, ⟨d, b1, b2⟩, ho, h6, h⟩ := ha
  specialize "go"
  refine wS_for (passes_of rfl) rfl ?_
  specialize "go"
  refine ⟨fun i E' S' => i ≤ (membersF xs g).length ∧ ∃ a b, E' = [some (.ref j), some (.int c), some (.int g), some sv, some (.ref S.length), a, b] ∧ S' = S ++ [.lst (intsW (((membersF xs g).take i).filter (ringsOk xs c st)))], ⟨Nat.zero_le _, none, none, rfl, rfl⟩, fun _ _ _ _ => trivial, ?_, ?_⟩
  · rintro i w E' S' hw ⟨hi, a, b, rfl, rfl⟩
    obtain ⟨x, hx, rfl⟩ := map_inv hw
    have hil : i < (membersF xs g).length := (List.getElem?_eq_some_iff.mp hx).1
    have hm := members_ok ho (List.mem_of_getElem? hx)
    obtain ⟨hm0, hm5⟩ := hm
    have hlen : (((membersF xs g).take i).filter (ringsOk xs c st)).length ≤ 6 := Nat.le_trans (List.length_filter_le _ _) (by rw [List.length_take]; have := members_len ho (g := g); omega)
    have hlen' : (intsW (((membersF xs g).take i).filter (ringsOk xs c st))).length ≤ 100000 := by rw [len_ints]; omega
    specialize "go"
    refine sIte_s (fun e => ?_) (fun e => ?_)
    · have e : ringsOk xs c st x = true := e
      specialize "go"
      rw [set_new0]
      dsimp only
      refine dropTo.as ?_
      refine ⟨hil, _, _, rfl, ?_⟩
      rw [take_succ hx, List.filter_append, List.filter_cons_of_pos e]
      simp [intsW]
    · have e : ringsOk xs c st x = false := e
      specialize "go"
      dsimp only
      refine dropTo.as ?_
      refine ⟨hil, _, _, rfl, ?_⟩
      rw [take_succ hx, List.filter_append, List.filter_cons_of_neg (by rw [e]; exact Bool.false_ne_true)]
      simp [intsW]
  · rintro E' S' ⟨hi, a, b, rfl, rfl⟩
    specialize "go"
    rw [len_ints, List.take_length]
    exact fin.drop (Nat.le_refl _) hS fz_ints h
local macro_rules | `(tactic| specialize "fun") => `(tactic| ((with_reducible show wE _ _ (Expr.Call (Expr.Name (Str.ofString "rings_at") _) _ _ _) _ _ _); refine xE_call (cf_rings_at (by assumption) (by assumption)) (Room.mono (by assumption) (by decide)) ?_))
local macro_rules | `(tactic| specialize "s3") => `(tactic| ((with_reducible show asp_rings_at _ _ _ _ _); refine ⟨_, _, _, _, _, _, rfl, (by first | assumption | exact fun _ => rfl), (by specialize "bk"), (by assumption), (by assumption), ?_⟩))
def asp_next_of (C : Addr) : ASp := fun ws S Φ _ => ∃ j xs c p st kn sv, ws = [.ref j, .int c, .int p, sv, .lst (kn.map W.bl)] ∧ (∀ S : Sto, itemsW S sv = some (st.map stW)) ∧ BookAt C S j xs ∧ 0 ≤ p ∧ p ≤ 5 ∧ st.length = 6 ∧ kn.length = 6 ∧ ∃ r, nextF xs c p st kn = r ∧ Φ (nextW r) S
theorem cf_next_of (G : GL mg) (D : DS K mg C_Book C_Way C_Call C_Phone C_Hall) : CFn P w K mg base "next_of" 2 5 (asp_next_of C_Book) := by
  refine D.d_next_of.fn sc_next_of fun f cdv A outer s H E hr ws S Φ Ψ hl hS ha => ?_
  obtain ⟨j, xs, c, p, st, kn, sv, rfl, hsv, ⟨d, b1, b2⟩, hp0, hp5, h6, hk6, r, hq, h⟩ := ha
  subst hq
  cases e1 : barsF xs p c with
  | true =>
    simp [nextF, e1] at h
    specialize "go"
    exact fin.as h
  | false =>
    cases e2 : goalF xs "all" p with
    | some g =>
      simp [nextF, e1, e2] at h
      have e2' : hasB xs [.inr "all", .inl p] = true := by rw [has_all, e2]; rfl
      specialize "go"
      refine ⟨_, _, _, _, g, _, rfl, ⟨_, b1, b2⟩, goal_all e2, .inl rfl, ?_⟩
      exact fin.as h
    | none =>
      have e2' : hasB xs [.inr "all", .inl p] = false := by rw [has_all, e2]; rfl
      cases e3 : stillF xs p with
      | true =>
        simp [nextF, e1, e2, e3] at h
        specialize "go"
        exact fin.as h
      | false =>
        cases e4 : (!decide (p = c) && !busyF st p) with
        | true =>
          have h : Φ (nextW (.inr ("rings", [p]))) S := by
            unfold nextF at h
            rw [e1, e2, e3, e4] at h
            exact h
          specialize "go"
          exact fin.as h
        | false =>
          cases e5 : (!decide (p = c) && (waitF xs p && kn.getD p.toNat default)) with
          | true =>
            have h : Φ (nextW (.inr ("knocks", [p]))) S := by
              unfold nextF at h
              rw [e1, e2, e3, e4, e5] at h
              exact h
            specialize "go"
            exact fin.as h
          | false =>
            have h : Φ (nextW (match goalF xs "busy" p with | some g => .inl g | none => .inr ("busy", []))) S := by
              unfold nextF at h
              rw [e1, e2, e3, e4, e5] at h
              exact h
            cases e6 : goalF xs "busy" p with
            | some g =>
              rw [e6] at h
              have e6' : hasB xs [.inr "busy", .inl p] = true := by rw [has_busy, e6]; rfl
              specialize "go"
              refine ⟨_, _, _, _, g, _, rfl, ⟨_, b1, b2⟩, goal_busy e6, .inr rfl, ?_⟩
              exact fin.as h
            | none =>
              rw [e6] at h
              have e6' : hasB xs [.inr "busy", .inl p] = false := by rw [has_busy, e6]; rfl
              specialize "go"
              exact fin.as h
local macro_rules | `(tactic| specialize "fun") => `(tactic| ((with_reducible show wE _ _ (Expr.Call (Expr.Name (Str.ofString "next_of") _) _ _ _) _ _ _); refine xE_call (cf_next_of (by assumption) (by assumption)) (Room.mono (by assumption) (by decide)) ?_))
local macro_rules | `(tactic| specialize "s3") => `(tactic| ((with_reducible show asp_next_of _ _ _ _ _); refine ⟨_, _, _, _, _, _, _, rfl, (by first | assumption | exact fun _ => rfl), (by specialize "bk"), (by first | assumption | omega), (by first | assumption | omega), (by assumption), (by assumption), _, (by first | assumption | rfl), ?_⟩))
end

local macro_rules | `(tactic| specialize "fun") => `(tactic| ((with_reducible show wE _ _ (Expr.Call (Expr.Name (Str.ofString "rings_at") _) _ _ _) _ _ _); refine xE_call (cf_rings_at (by assumption) (by assumption)) (Room.mono (by assumption) (by decide)) ?_))
local macro_rules | `(tactic| specialize "s3") => `(tactic| ((with_reducible show asp_rings_at _ _ _ _ _); refine ⟨_, _, _, _, _, _, rfl, (by first | assumption | exact fun _ => rfl), (by specialize "bk"), (by assumption), (by assumption), ?_⟩))
local macro_rules | `(tactic| specialize "fun") => `(tactic| ((with_reducible show wE _ _ (Expr.Call (Expr.Name (Str.ofString "next_of") _) _ _ _) _ _ _); refine xE_call (cf_next_of (by assumption) (by assumption)) (Room.mono (by assumption) (by decide)) ?_))
local macro_rules | `(tactic| specialize "s3") => `(tactic| ((with_reducible show asp_next_of _ _ _ _ _); refine ⟨_, _, _, _, _, _, _, rfl, (by first | assumption | exact fun _ => rfl), (by specialize "bk"), (by first | assumption | omega), (by first | assumption | omega), (by assumption), (by assumption), _, (by first | assumption | rfl), ?_⟩))

-- P5H
section
variable {P : Program} {w : World} {K : PySem.W.Frag} {mg : Str → Option Value} {base : Heap} {C_Book C_Way C_Call C_Phone C_Hall : Addr}
def asp_Way_init (C : Addr) : ASp := fun ws S Φ _ => ∃ S0 jb c, ws = [.ref S0.length, .ref jb, .int c] ∧ S = S0 ++ [.ins C []] ∧ Φ .non (S0 ++ [.ins C (wayFs jb c (S0.length + 1) (S0.length + 2) Wy.new), .lst [], .lst []])
theorem cf_Way_init (G : GL mg) (D : DS K mg C_Book C_Way C_Call C_Phone C_Hall) : CMake P w K mg base "Way" C_Way 1 3 (asp_Way_init C_Way) := by
  refine D.d_Way_init.fn sc_Way_init fun f cdv A outer s H E hr ws S Φ Ψ hl hS ha => ?_
  obtain ⟨S0, jb, c, rfl, rfl, h⟩ := ha
  specialize "go"
  simp only [set_new0, List.append_assoc, List.cons_append, List.nil_append, List.set, List.length_append, List.length_cons, List.length_nil, Nat.zero_add]
  specialize "go"
  simp only [set_new0, List.append_assoc, List.cons_append, List.nil_append, List.set, List.length_append, List.length_cons, List.length_nil, Nat.zero_add]
  refine fin.eqS h ?_
  kernel_rfl
local macro_rules | `(tactic| specialize "fun") => `(tactic| ((with_reducible show wE _ _ (Expr.Call (Expr.Name (Str.ofString "Way") _) _ _ _) _ _ _); refine xE_make (cf_Way_init (by assumption) (by assumption)) (Room.mono (by assumption) (by decide)) ?_))
local macro_rules | `(tactic| specialize "s3") => `(tactic| ((with_reducible show asp_Way_init _ _ _ _ _); refine ⟨_, _, _, rfl, rfl, ⟨rfl, ?_⟩⟩))
def asp_Way_step (CB CW : Addr) : ASp := fun ws S Φ _ => ∃ j ch ld jb c y n xs st kn sv, ws = [.ref j, .int n, sv, .lst (kn.map W.bl)] ∧ (∀ S : Sto, itemsW S sv = some (st.map stW)) ∧ WayAt CW S j ch ld jb c y ∧ BookAt CB S jb xs ∧ (∀ x ∈ xs, x.ok) ∧ 0 ≤ n ∧ n ≤ 7 ∧ st.length = 6 ∧ kn.length = 6 ∧ y.chain.length ≤ 6 ∧ y.leads.length ≤ 6 ∧
  Φ (optW (stepF xs c st kn y n).2) (putWay CW S j ch ld jb c (stepF xs c st kn y n).1)
theorem cf_Way_step (G : GL mg) (D : DS K mg C_Book C_Way C_Call C_Phone C_Hall) : CMeth P w K mg base C_Way "step" 3 4 (asp_Way_step C_Book C_Way) := by
  refine D.d_Way_step.fn sc_Way_step fun f cdv A outer s H E hr ws S Φ Ψ hl hS ha => ?_
  obtain ⟨j, ch, ld, jb, c, y, n, xs, st, kn, sv, rfl, hsv, wy, bk, ho, hn0, hn7, h6, hk6, hc6, hl6, h⟩ := ha
  obtain ⟨d, b1, b2, n1, n2, n3, n4, n5, n6⟩ := bk.off wy
  obtain ⟨m1, m2⟩ := wy.nj
  obtain ⟨w1, w2, w3, m3⟩ := id wy
  have hcl : (intsW y.chain).length ≤ 100000 := by rw [len_ints]; omega
  have hll : (y.leads.map pairW).length ≤ 100000 := by rw [List.length_map]; omega
  by_cases e1 : 6 ≤ n
  · have e1' : decide (6 ≤ n) = true := decide_eq_true e1
    simp only [stepF, if_pos e1] at h
    by_cases e2 : ringsF xs c n st = []
    · simp only [if_pos e2] at h
      have e2' : (intsW (ringsF xs c n st)).isEmpty = true := by rw [e2]; rfl
      specialize "go"
      refine sIte_f (by rw [e2']; rfl) ?_
      specialize "go"
      rw [List.set_set, List.set_set]
      dsimp only
      refine fin.eqS h (put_eq1 wy ?_ rfl rfl)
      kernel_rfl
    · simp only [if_neg e2] at h
      have e2' : (intsW (ringsF xs c n st)).isEmpty = false := by
        cases q : ringsF xs c n st with
        | nil => exact absurd q e2
        | cons a l => rfl
      specialize "go"
      rw [List.set_set, List.set_set]
      dsimp only
      refine fin.eqS h (put_eq1 wy ?_ rfl rfl)
      kernel_rfl
  · have e1' : decide (6 ≤ n) = false := decide_eq_false e1
    by_cases e2 : n ∈ y.chain
    · have e2' : decide (n ∈ y.chain) = true := decide_eq_true e2
      simp only [stepF, if_neg e1, if_pos e2] at h
      specialize "go"
      rw [List.set_set]
      dsimp only
      refine fin.eqS h (put_eq1 wy ?_ rfl rfl)
      kernel_rfl
    · have e2' : decide (n ∈ y.chain) = false := decide_eq_false e2
      simp only [stepF, if_neg e1, if_neg e2] at h
      cases e3 : nextF xs c n st kn with
      | inl g =>
        simp only [e3] at h
        specialize "go"
        dsimp only
        refine fin.eqS h (put_eq2 wy ?_ ?_ ?_)
        · simp [intsW]
        · simp [pairW, nextW]
        · rfl
      | inr r =>
        obtain ⟨u, l⟩ := r
        simp only [e3] at h
        specialize "go"
        refine sPut_i (get_set_self (get_set_ne m1.symm w1)) (Nat.le_of_ble_eq_true rfl) (DS.cls_Way (by assumption)) (DS.na_Way_ears (by assumption)) ?_
        specialize "go"
        rw [List.set_set]
        dsimp only
        refine fin.eqS h (put_eq3 wy ?_ ?_ rfl)
        · simp [intsW]
        · kernel_rfl
local macro_rules | `(tactic| specialize "fun") => `(tactic| ((with_reducible show wE _ _ (Expr.Call (Expr.Attribute _ (Str.ofString "step") _) _ _ _) _ _ _); refine xE_meth (DS.cls_Way (by assumption)) (cf_Way_step (by assumption) (by assumption)) (Room.mono (by assumption) (by decide)) ?_))
local macro_rules | `(tactic| specialize "s3") => `(tactic| ((with_reducible show asp_Way_step _ _ _ _ _ _); refine ⟨_, _, _, _, _, _, _, _, _, _, _, rfl, (by first | assumption | exact fun _ => rfl), (by assumption), (by assumption), (by assumption), (by first | assumption | omega), (by first | assumption | omega), (by assumption), (by assumption), (by assumption), (by assumption), ?_⟩))
def asp_Way_go (CB CW : Addr) : ASp := fun ws S Φ _ => ∃ j ch ld jb c n xs st kn sv, ws = [.ref j, .int n, sv, .lst (kn.map W.bl)] ∧ (∀ S : Sto, itemsW S sv = some (st.map stW)) ∧ WayAt CW S j ch ld jb c Wy.new ∧ BookAt CB S jb xs ∧ (∀ x ∈ xs, x.ok) ∧ 0 ≤ n ∧ n ≤ 7 ∧ st.length = 6 ∧ kn.length = 6 ∧
  Φ .non (putWay CW S j ch ld jb c (wayF xs c n st kn))
theorem cf_Way_go (G : GL mg) (D : DS K mg C_Book C_Way C_Call C_Phone C_Hall) : CMeth P w K mg base C_Way "go" 4 4 (asp_Way_go C_Book C_Way) := by
  refine D.d_Way_go.fn sc_Way_go fun f cdv A outer s H E hr ws S Φ Ψ hl hS ha => ?_
  obtain ⟨j, ch, ld, jb, c, n, xs, st, kn, sv, rfl, hsv, wy, bk, ho, hn0, hn7, h6, hk6, h⟩ := ha
  obtain ⟨m1, m2⟩ := wy.nj
  specialize "go"
  refine wS_while (passes_of rfl) ⟨fun m E' S' => ∃ (y : Wy) (g : Option Int), E' = [some (.ref j), some (.int n), some sv, some (.lst (kn.map W.bl)), some (optW g)] ∧ S' = putWay C_Way S j ch ld jb c y ∧
    (match g with
      | none => m = 0 ∧ y = wayF xs c n st kn
      | some g => y.leads.length = y.chain.length ∧ y.chain.Nodup ∧ (∀ p ∈ y.chain, 0 ≤ p ∧ p ≤ 5) ∧ 0 ≤ g ∧ g ≤ 7 ∧ m + y.chain.length = 7 ∧ goF xs c st kn (m + 1) y g = wayF xs c n st kn), ⟨7, Wy.new, some n, rfl, wy.same.symm, rfl, List.nodup_nil, (fun p hp => by cases hp), hn0, hn7, rfl, rfl⟩, ?_⟩
  rintro m E' S' ⟨y, g, rfl, rfl, hg⟩
  cases g with
  | none =>
    obtain ⟨hm, hy⟩ := hg
    specialize "go"
    rw [hy]
    exact fin.as h
  | some g =>
    obtain ⟨hlen, hN, hP, hg0, hg7, hm, hgo⟩ := hg
    have wy' := wy.put y
    have bk' := bk.put wy (y' := y)
    have hc6 := phones_len hN hP
    have hl6 : y.leads.length ≤ 6 := by omega
    obtain ⟨v1, v2, v3, m3⟩ := id wy'
    specialize "go"
    refine (sIte_t rfl ?_ : sIte _ _ _)
    specialize "go"
    rw [put_put m1 m2 wy.ne]
    dsimp only
    refine dropTo.as ?_
    cases e : stepF xs c st kn y g with
    | mk y' r =>
      have hs := hgo
      rw [goF, e] at hs
      cases r with
      | none =>
        refine ⟨0, by omega, y', none, rfl, rfl, rfl, hs⟩
      | some g' =>
        obtain ⟨q1, q2, q3, q4, q6⟩ := step_on e
        have q5 := next_ok ho q3
        have hN' : y'.chain.Nodup := by
          rw [q4]
          exact List.nodup_append.mpr ⟨hN, by simp, fun a ha b hb => by
            rw [List.mem_singleton.mp hb]
            intro z
            exact q2 (z ▸ ha)⟩
        have hP' : ∀ p ∈ y'.chain, 0 ≤ p ∧ p ≤ 5 := by
          rw [q4]
          intro p hp
          rcases List.mem_append.mp hp with hp | hp
          · exact hP p hp
          · rw [List.mem_singleton.mp hp]
            omega
        have hl7 := phones_len hN' hP'
        rw [q4, List.length_append, List.length_singleton] at hl7
        obtain ⟨m', rfl⟩ : ∃ m', m = m' + 1 := ⟨m - 1, by omega⟩
        refine ⟨m', by omega, y', some g', rfl, rfl, ?_, hN', hP', q5.1, q5.2, ?_, hs⟩
        · rw [q4, q6, List.length_append, List.length_append, hlen]
          rfl
        · rw [q4, List.length_append, List.length_singleton]
          omega
local macro_rules | `(tactic| specialize "fun") => `(tactic| ((with_reducible show wE _ _ (Expr.Call (Expr.Attribute _ (Str.ofString "go") _) _ _ _) _ _ _); refine xE_meth (DS.cls_Way (by assumption)) (cf_Way_go (by assumption) (by assumption)) (Room.mono (by assumption) (by decide)) ?_))
end

local macro_rules | `(tactic| specialize "fun") => `(tactic| ((with_reducible show wE _ _ (Expr.Call (Expr.Name (Str.ofString "Way") _) _ _ _) _ _ _); refine xE_make (cf_Way_init (by assumption) (by assumption)) (Room.mono (by assumption) (by decide)) ?_))
local macro_rules | `(tactic| specialize "s3") => `(tactic| ((with_reducible show asp_Way_init _ _ _ _ _); refine ⟨_, _, _, rfl, rfl, ⟨rfl, ?_⟩⟩))
local macro_rules | `(tactic| specialize "fun") => `(tactic| ((with_reducible show wE _ _ (Expr.Call (Expr.Attribute _ (Str.ofString "step") _) _ _ _) _ _ _); refine xE_meth (DS.cls_Way (by assumption)) (cf_Way_step (by assumption) (by assumption)) (Room.mono (by assumption) (by decide)) ?_))
local macro_rules | `(tactic| specialize "s3") => `(tactic| ((with_reducible show asp_Way_step _ _ _ _ _ _); refine ⟨_, _, _, _, _, _, _, _, _, _, _, rfl, (by first | assumption | exact fun _ => rfl), (by assumption), (by assumption), (by assumption), (by first | assumption | omega), (by first | assumption | omega), (by assumption), (by assumption), (by assumption), (by assumption), ?_⟩))
local macro_rules | `(tactic| specialize "fun") => `(tactic| ((with_reducible show wE _ _ (Expr.Call (Expr.Attribute _ (Str.ofString "go") _) _ _ _) _ _ _); refine xE_meth (DS.cls_Way (by assumption)) (cf_Way_go (by assumption) (by assumption)) (Room.mono (by assumption) (by decide)) ?_))

-- PH1
section
variable {P : Program} {w : World} {K : PySem.W.Frag} {mg : Str → Option Value} {base : Heap} {C_Book C_Way C_Call C_Phone C_Hall : Addr}
def asp_silence (C : Cs) : ASp := fun ws S Φ _ => ∃ loc xs σ k, ws = [.ref (loc .hall), .ref (loc (.ca k))] ∧ HallAt C S loc xs σ ∧ k < σ.n ∧ ∀ S', HallAt C S' loc xs (silF σ k) → Fr loc σ.n S S' → Φ .non S'
section
local macro_rules | `(tactic| specialize "cmT") => `(tactic| ((with_reducible show wT _ _ (Expr.Compare (Expr.Attribute (Expr.Name _ _) _ _) [CmpOp.Eq] [_] _) _ _ _); refine xT_eqI (Room.u65 (by assumption)) ?_))
theorem cf_silence (G : GL mg) (D : DS K mg C_Book C_Way C_Call C_Phone C_Hall) : CMeth P w K mg base C_Hall "silence" 1 2 (asp_silence (Cs.mk C_Book C_Way C_Call C_Phone C_Hall)) := by
  refine D.d_Hall_silence.fn sc_Hall_silence fun f cdv A outer s H E hr ws S Φ Ψ hl hS ha => ?_
  obtain ⟨loc, xs, σ, k, rfl, h, hk, hΦ⟩ := ha
  have f1 := h.hall
  specialize "go"
  refine wS_for (passes_of rfl) rfl ?_
  refine xI_list ?_
  specialize "go"
  refine sWL_l ?_
  refine ⟨fun i E' S' => i ≤ 6 ∧ (∃ a, E' = [some (.ref (loc .hall)), some (.ref (loc (.ca k))), a]) ∧ HallAt (Cs.mk C_Book C_Way C_Call C_Phone C_Hall) S' loc xs (mapI σ (fun _ => Ph.sil k) i) ∧ Fr loc σ.n S S',
    ⟨Nat.zero_le _, ⟨_, rfl⟩, h.eqv (mapI_0 _ _), Fr.refl _⟩, fun _ _ _ _ => trivial, ?_, ?_⟩
  · rintro i w E' S' hw ⟨hi, ⟨a, rfl⟩, h', fr⟩
    obtain ⟨p, hp, rfl⟩ := map_inv hw
    obtain ⟨rfl, hi'⟩ := ph_idx hp
    have p1 := h'.phI hi'
    have v1 := h.vd.ph (p : Int) (by omega) (by omega)
    specialize "go"
    refine sEqI_r1 h' (DS.pe_Call D) (fun j e => v1.2.2 j e) hk ?_
    specialize "go"
    refine sIte_s (fun e => ?_) (fun e => ?_)
    · have e' := of_decide_eq_true e
      specialize "go"
      rw [fpB0, sil_yes e']
      dsimp only
      refine dropTo.as ?_
      exact ⟨hi', ⟨_, rfl⟩, h'.turn hi' v1.sil, fr.set (c := .ph (p : Int)) ⟨by omega, by omega⟩⟩
    · have e' := of_decide_eq_false e
      specialize "go"
      dsimp only
      refine dropTo.as ?_
      exact ⟨hi', ⟨_, rfl⟩, h'.skip (sil_no e'), fr⟩
  · rintro E' S' ⟨hi, ⟨a, rfl⟩, h', fr⟩
    have h6 := h'.at6 rfl
    have c1 := h6.ca hk
    have w1 := h6.way hk
    specialize "go"
    rw [fwE0]
    exact fin.as (hΦ _ (h6.putWay hk (y := (σ.ca k).y.noEars) rfl rfl) (fr.set (c := .way k) hk))
end
local macro_rules | `(tactic| specialize "fun") => `(tactic| ((with_reducible show wE _ _ (Expr.Call (Expr.Attribute _ (Str.ofString "silence") _) _ _ _) _ _ _); refine xE_meth (DS.cls_Hall (by assumption)) (cf_silence (by assumption) (by assumption)) (Room.mono (by assumption) (by decide)) ?_))
local macro_rules | `(tactic| specialize "s3") => `(tactic| ((with_reducible show asp_silence _ _ _ _ _); refine ⟨_, _, _, _, rfl, (by assumption), (by assumption), ?_⟩))
def asp_over (C : Cs) : ASp := fun ws S Φ _ => ∃ loc xs σ k, ws = [.ref (loc .hall), .ref (loc (.ca k))] ∧ HallAt C S loc xs σ ∧ k < σ.n ∧ ∀ S', HallAt C S' loc xs (overF σ k) → Fr loc σ.n S S' → Φ .non S'
section
local macro_rules | `(tactic| specialize "cmT") => `(tactic| ((with_reducible show wT _ _ (Expr.Compare (Expr.Attribute (Expr.Name _ _) _ _) [CmpOp.Eq] [_] _) _ _ _); refine xT_eqI (Room.u65 (by assumption)) ?_))
local macro_rules | `(tactic| specialize "cmT") => `(tactic| ((with_reducible show wT _ _ (Expr.Compare (Expr.Name (Str.ofString "call") _) [CmpOp.In] [_] _) _ _ _); refine xT_inI (Room.u65 (by assumption)) ?_))
local macro_rules | `(tactic| specialize "ex") => `(tactic| ((with_reducible show wE _ _ (Expr.Call (Expr.Attribute _ (Str.ofString "remove") _) _ _ _) _ _ _); refine xE_remI (Room.u65 (by assumption)) ?_))
theorem cf_over (G : GL mg) (D : DS K mg C_Book C_Way C_Call C_Phone C_Hall) : CMeth P w K mg base C_Hall "over" 2 2 (asp_over (Cs.mk C_Book C_Way C_Call C_Phone C_Hall)) := by
  refine D.d_Hall_over.fn sc_Hall_over fun f cdv A outer s H E hr ws S Φ Ψ hl hS ha => ?_
  obtain ⟨loc, xs, σ0, k, rfl, h0, hk0, hΦ⟩ := ha
  have f0 := h0.hall
  specialize "go"
  intro S0 h fr0
  have hk : k < (silF σ0 k).n := hk0
  have ef : ∀ S', HallAt (Cs.mk C_Book C_Way C_Call C_Phone C_Hall) S' loc xs { (silF σ0 k).mapPh (fun _ q => (q.ov1 k).ov2 k) with op := σ0.op.erase k } → Fr loc σ0.n S S' → Φ .non S' := hΦ
  have en : (silF σ0 k).n = σ0.n := rfl
  have eo : (silF σ0 k).op = σ0.op := rfl
  rw [← en] at ef fr0
  rw [← eo] at ef
  generalize silF σ0 k = σ at *
  have f1 := h.hall
  specialize "go"
  refine wS_for (passes_of rfl) rfl ?_
  refine xI_list ?_
  specialize "go"
  refine sWL_l ?_
  refine ⟨fun i E' S' => i ≤ 6 ∧ (∃ a, E' = [some (.ref (loc .hall)), some (.ref (loc (.ca k))), a]) ∧ HallAt (Cs.mk C_Book C_Way C_Call C_Phone C_Hall) S' loc xs (mapI σ (fun _ q => (q.ov1 k).ov2 k) i) ∧ Fr loc σ.n S S',
    ⟨Nat.zero_le _, ⟨_, rfl⟩, h.eqv (mapI_0 _ _), fr0⟩, fun _ _ _ _ => trivial, ?_, ?_⟩
  · rintro i w E' S' hw ⟨hi, ⟨a, rfl⟩, h', fr⟩
    obtain ⟨p, hp, rfl⟩ := map_inv hw
    obtain ⟨rfl, hi'⟩ := ph_idx hp
    have p1 := h'.phI hi'
    have v1 := h.vd.ph (p : Int) (by omega) (by omega)
    have p0 : (0 : Int) ≤ (p : Int) := by omega
    have p5 : (p : Int) ≤ 5 := by omega
    specialize "go"
    refine sEqI_r1 h' (DS.pe_Call D) (fun j e => v1.1 j e) hk ?_
    specialize "go"
    refine sIte_s (fun e => ?_) (fun e => ?_)
    · have e' := of_decide_eq_true e
      specialize "go"
      rw [List.set_set, fpN0, fpT]
      have h1 := h'.putPh p0 p5 (q := ⟨(σ.ph (p : Int)).up, none, (σ.ph (p : Int)).kept, (σ.ph (p : Int)).bell, "busy"⟩) ⟨fun j hj => (nomatch hj), v1.2.1, v1.2.2⟩
      have p2 := h1.phS p0 p5
      refine sEqI_r1 h1 (DS.pe_Call D) (fun j e => v1.2.1 j e) hk ?_
      specialize "go"
      refine sIte_s (fun e2 => ?_) (fun e2 => ?_)
      · have e2' := of_decide_eq_true e2
        specialize "go"
        rw [List.set_set, fpK0]
        dsimp only
        refine dropTo.as ?_
        rw [ov_tt e' e2']
        exact ⟨hi', ⟨_, rfl⟩, h'.turn hi' v1.ov1.ov2, fr.set (c := .ph (p : Int)) ⟨by omega, by omega⟩⟩
      · have e2' := of_decide_eq_false e2
        specialize "go"
        dsimp only
        refine dropTo.as ?_
        rw [ov_tf e' e2']
        exact ⟨hi', ⟨_, rfl⟩, h'.turn hi' v1.ov1.ov2, fr.set (c := .ph (p : Int)) ⟨by omega, by omega⟩⟩
    · have e' := of_decide_eq_false e
      specialize "go"
      refine sEqI_r1 h' (DS.pe_Call D) (fun j e => v1.2.1 j e) hk ?_
      specialize "go"
      refine sIte_s (fun e2 => ?_) (fun e2 => ?_)
      · have e2' := of_decide_eq_true e2
        specialize "go"
        rw [fpK0]
        dsimp only
        refine dropTo.as ?_
        rw [ov_ft e' e2']
        exact ⟨hi', ⟨_, rfl⟩, h'.turn hi' v1.ov1.ov2, fr.set (c := .ph (p : Int)) ⟨by omega, by omega⟩⟩
      · have e2' := of_decide_eq_false e2
        specialize "go"
        dsimp only
        refine dropTo.as ?_
        exact ⟨hi', ⟨_, rfl⟩, h'.skip (ov_ff e' e2'), fr⟩
  · rintro E' S' ⟨hi, ⟨a, rfl⟩, h', fr⟩
    have h6 := h'.at6 rfl
    have f6 := h6.hall
    have c6 := h6.calls
    specialize "go"
    refine sInI_r h6 (DS.pe_Call D) hk ?_
    specialize "go"
    refine sIte_s (fun e => ?_) (fun e => ?_)
    · have e' := of_decide_eq_true e
      specialize "go"
      refine sRemI_r h6 (DS.pe_Call D) hk e' ?_
      exact fin.as (ef _ (h6.putOp fun a ha => h6.vd.op a (List.mem_of_mem_erase ha)) (fr.set (c := .calls) trivial))
    · have e' : k ∉ σ.op := of_decide_eq_false e
      specialize "go"
      refine fin.as (ef _ ?_ fr)
      rw [List.erase_of_not_mem e']
      exact h6
end
local macro_rules | `(tactic| specialize "fun") => `(tactic| ((with_reducible show wE _ _ (Expr.Call (Expr.Attribute _ (Str.ofString "over") _) _ _ _) _ _ _); refine xE_meth (DS.cls_Hall (by assumption)) (cf_over (by assumption) (by assumption)) (Room.mono (by assumption) (by decide)) ?_))
local macro_rules | `(tactic| specialize "s3") => `(tactic| ((with_reducible show asp_over _ _ _ _ _); refine ⟨_, _, _, _, rfl, (by assumption), (by assumption), ?_⟩))
def asp_answer (C : Cs) : ASp := fun ws S Φ _ => ∃ loc xs σ k p, ws = [.ref (loc .hall), .ref (loc (.ca k)), .int p] ∧ HallAt C S loc xs σ ∧ k < σ.n ∧ 0 ≤ p ∧ p ≤ 5 ∧ (σ.ca k).ppl.length ≤ 1000 ∧ ∀ S', HallAt C S' loc xs (ansF σ k p) → Fr loc σ.n S S' → Φ .non S'
section
local macro_rules | `(tactic| specialize "ix") => `(tactic| exact at_phs (by assumption) (by assumption))
theorem cf_answer (G : GL mg) (D : DS K mg C_Book C_Way C_Call C_Phone C_Hall) : CMeth P w K mg base C_Hall "answer" 2 3 (asp_answer (Cs.mk C_Book C_Way C_Call C_Phone C_Hall)) := by
  refine D.d_Hall_answer.fn sc_Hall_answer fun f cdv A outer s H E hr ws S Φ Ψ hl hS ha => ?_
  obtain ⟨loc, xs, σ, k, p, rfl, h, hk, hp0, hp5, hpp, hΦ⟩ := ha
  have f0 := h.hall
  specialize "go"
  intro S1 h1 fr1
  have c1 := h1.ca hk
  rw [silF_ca] at c1
  have f1 := h1.hall
  specialize "go"
  rw [fcT]
  have h2 := h1.putCa hk (c := { (σ.ca k).noEars with talk := true }) (by rw [silF_ca]) (by rw [silF_ca]) (by rw [silF_ca])
  have pp2 := h2.ppl hk
  rw [setCa_self] at pp2
  refine sAppO_i pp2 ?_
  specialize "go"
  refine sApp_i pp2 (by rw [len_ints]; exact Nat.le_trans hpp (by decide)) ?_
  rw [ints_snoc]
  have h3 := h2.putPpl hk (l := (σ.ca k).ppl ++ [p])
  rw [setCa_self, setCa2] at h3
  have f3 := h3.hall
  have p3 := h3.ph hp0 hp5
  have v3 := h3.vd.ph p hp0 hp5
  specialize "go"
  rw [fpN1]
  exact fin.as (hΦ _ (h3.putPh hp0 hp5 ⟨fun j e => by cases e; exact hk, v3.2.1, v3.2.2⟩) (((fr1.set (c := .ca k) hk).set (c := .ppl k) hk).set (c := .ph p) ⟨hp0, hp5⟩))
end
local macro_rules | `(tactic| specialize "fun") => `(tactic| ((with_reducible show wE _ _ (Expr.Call (Expr.Attribute _ (Str.ofString "answer") _) _ _ _) _ _ _); refine xE_meth (DS.cls_Hall (by assumption)) (cf_answer (by assumption) (by assumption)) (Room.mono (by assumption) (by decide)) ?_))
local macro_rules | `(tactic| specialize "s3") => `(tactic| ((with_reducible show asp_answer _ _ _ _ _); refine ⟨_, _, _, _, _, rfl, (by assumption), (by assumption), (by assumption), (by assumption), (by assumption), ?_⟩))
def asp_leave (C : Cs) : ASp := fun ws S Φ _ => ∃ loc xs σ o p, ws = [.ref (loc .hall), rfW loc o, .int p] ∧ HallAt C S loc xs σ ∧ (∀ k, o = some k → k < σ.n ∧ p ∈ (σ.ca k).ppl) ∧ ∀ S', HallAt C S' loc xs (leaveF σ o p) → Fr loc σ.n S S' → Φ .non S'
section
local macro_rules | `(tactic| specialize "ex") => `(tactic| ((with_reducible show wE _ _ (Expr.Call (Expr.Attribute _ (Str.ofString "remove") _) _ _ _) _ _ _); refine xE_remove rfl ?_))
theorem cf_leave (G : GL mg) (D : DS K mg C_Book C_Way C_Call C_Phone C_Hall) : CMeth P w K mg base C_Hall "leave" 3 3 (asp_leave (Cs.mk C_Book C_Way C_Call C_Phone C_Hall)) := by
  refine D.d_Hall_leave.fn sc_Hall_leave fun f cdv A outer s H E hr ws S Φ Ψ hl hS ha => ?_
  obtain ⟨loc, xs, σ, o, p, rfl, h, ho, hΦ⟩ := ha
  have f0 := h.hall
  cases o with
  | none =>
    specialize "go"
    exact fin.as (hΦ _ h (Fr.refl _))
  | some k =>
    obtain ⟨hk, hm⟩ := ho k rfl
    have c1 := h.ca hk
    have pp1 := h.ppl hk
    show wB _ _ _ (startW _ [.ref (loc .hall), .ref (loc (.ca k)), .int p]) _ _
    specialize "go"
    refine sRem_i pp1 hm ?_
    have h2 := h.putPpl hk (l := (σ.ca k).ppl.erase p)
    have c2 := h2.ca hk
    rw [setCa_self] at c2
    have f2 := h2.hall
    have pp2 := h2.ppl hk
    rw [setCa_self] at pp2
    have fr2 : Fr loc σ.n S (S.set (loc (.ppl k)) (.lst (intsW ((σ.ca k).ppl.erase p)))) := (Fr.refl _).set (c := .ppl k) hk
    have hk2 : k < (σ.setCa k { σ.ca k with ppl := (σ.ca k).ppl.erase p }).n := hk
    specialize "go"
    have e0 : decide (((intsW ((σ.ca k).ppl.erase p)).length : Int) < 2) = decide (((σ.ca k).ppl.erase p).length < 2) := by
      rw [len_ints, decide_eq_decide]
      omega
    rw [e0]
    refine sIte_s (fun e => ?_) (fun e => ?_)
    · have e' := of_decide_eq_true e
      have hf : leaveF σ (some k) p = overF (σ.setCa k { σ.ca k with ppl := (σ.ca k).ppl.erase p }) k := if_pos e'
      specialize "go"
      intro S3 h3 fr3
      specialize "go"
      rw [← hf] at h3
      exact fin.as (hΦ _ h3 (fr2.trans fr3))
    · have e' := of_decide_eq_false e
      have hf : leaveF σ (some k) p = σ.setCa k { σ.ca k with ppl := (σ.ca k).ppl.erase p } := if_neg e'
      specialize "go"
      rw [← hf] at h2
      exact fin.as (hΦ _ h2 fr2)
end
local macro_rules | `(tactic| specialize "fun") => `(tactic| ((with_reducible show wE _ _ (Expr.Call (Expr.Attribute _ (Str.ofString "leave") _) _ _ _) _ _ _); refine xE_meth (DS.cls_Hall (by assumption)) (cf_leave (by assumption) (by assumption)) (Room.mono (by assumption) (by decide)) ?_))
def asp_need_talk (C : Cs) : ASp := fun ws S Φ _ => ∃ loc xs σ p, ws = [.ref (loc .hall), .ref (loc (.ph p))] ∧ HallAt C S loc xs σ ∧ 0 ≤ p ∧ p ≤ 5 ∧ inTalk σ p = true ∧ Φ .non S
theorem talk_some {σ : Hl} {p : Int} (h : inTalk σ p = true) : ∃ k, (σ.ph p).now = some k ∧ (σ.ca k).talk = true := by
  unfold inTalk at h
  cases e : (σ.ph p).now with
  | none => rw [e] at h; cases h
  | some k => rw [e] at h; exact ⟨k, rfl, h⟩
theorem cf_need_talk (G : GL mg) (D : DS K mg C_Book C_Way C_Call C_Phone C_Hall) : CMeth P w K mg base C_Hall "need_talk" 1 2 (asp_need_talk (Cs.mk C_Book C_Way C_Call C_Phone C_Hall)) := by
  refine D.d_Hall_need_talk.fn sc_Hall_need_talk fun f cdv A outer s H E hr ws S Φ Ψ hl hS ha => ?_
  obtain ⟨loc, xs, σ, p, rfl, h, hp0, hp5, ht, hΦ⟩ := ha
  obtain ⟨k, e1, e2⟩ := talk_some ht
  have p1 := h.ph hp0 hp5
  have v1 := h.vd.ph p hp0 hp5
  have c1 := h.ca (v1.1 k e1)
  unfold phFs at p1
  rw [e1] at p1
  unfold caFs at c1
  rw [e2] at c1
  simp only [rfW] at p1
  specialize "go"
  exact fin.as hΦ
local macro_rules | `(tactic| specialize "fun") => `(tactic| ((with_reducible show wE _ _ (Expr.Call (Expr.Attribute _ (Str.ofString "need_talk") _) _ _ _) _ _ _); refine xE_meth (DS.cls_Hall (by assumption)) (cf_need_talk (by assumption) (by assumption)) (Room.mono (by assumption) (by decide)) ?_))
local macro_rules | `(tactic| specialize "s3") => `(tactic| ((with_reducible show asp_need_talk _ _ _ _ _); refine ⟨_, _, _, _, rfl, (by assumption), (by assumption), (by assumption), (by assumption), ?_⟩))
def asp_phone (C : Cs) : ASp := fun ws S Φ _ => ∃ loc xs σ p b, ws = [.ref (loc .hall), .int p, .bl b] ∧ HallAt C S loc xs σ ∧ 0 ≤ p ∧ p ≤ 5 ∧ (σ.ph p).up = b ∧ Φ (.ref (loc (.ph p))) S
section
local macro_rules | `(tactic| specialize "ix") => `(tactic| exact at_phs (by assumption) (by assumption))
theorem cf_phone (G : GL mg) (D : DS K mg C_Book C_Way C_Call C_Phone C_Hall) : CMeth P w K mg base C_Hall "phone" 4 3 (asp_phone (Cs.mk C_Book C_Way C_Call C_Phone C_Hall)) := by
  refine D.d_Hall_phone.fn sc_Hall_phone fun f cdv A outer s H E hr ws S Φ Ψ hl hS ha => ?_
  obtain ⟨loc, xs, σ, p, b, rfl, h, hp0, hp5, hb, hΦ⟩ := ha
  have f0 := h.hall
  have p1 := h.ph hp0 hp5
  unfold phFs at p1
  rw [hb] at p1
  specialize "go"
  exact fin.as hΦ
end
local macro_rules | `(tactic| specialize "fun") => `(tactic| ((with_reducible show wE _ _ (Expr.Call (Expr.Attribute (Expr.Name (Str.ofString "self") _) (Str.ofString "phone") _) _ _ _) _ _ _); refine xE_meth (DS.cls_Hall (by assumption)) (cf_phone (by assumption) (by assumption)) (Room.mono (by assumption) (by decide)) ?_))
local macro_rules | `(tactic| specialize "s3") => `(tactic| ((with_reducible show asp_phone _ _ _ _ _); refine ⟨_, _, _, _, _, rfl, (by assumption), (by assumption), (by assumption), (by assumption), ?_⟩))
end

local macro_rules | `(tactic| specialize "fun") => `(tactic| ((with_reducible show wE _ _ (Expr.Call (Expr.Attribute _ (Str.ofString "silence") _) _ _ _) _ _ _); refine xE_meth (DS.cls_Hall (by assumption)) (cf_silence (by assumption) (by assumption)) (Room.mono (by assumption) (by decide)) ?_))
local macro_rules | `(tactic| specialize "s3") => `(tactic| ((with_reducible show asp_silence _ _ _ _ _); refine ⟨_, _, _, _, rfl, (by assumption), (by assumption), ?_⟩))
local macro_rules | `(tactic| specialize "fun") => `(tactic| ((with_reducible show wE _ _ (Expr.Call (Expr.Attribute _ (Str.ofString "over") _) _ _ _) _ _ _); refine xE_meth (DS.cls_Hall (by assumption)) (cf_over (by assumption) (by assumption)) (Room.mono (by assumption) (by decide)) ?_))
local macro_rules | `(tactic| specialize "s3") => `(tactic| ((with_reducible show asp_over _ _ _ _ _); refine ⟨_, _, _, _, rfl, (by assumption), (by assumption), ?_⟩))
local macro_rules | `(tactic| specialize "fun") => `(tactic| ((with_reducible show wE _ _ (Expr.Call (Expr.Attribute _ (Str.ofString "answer") _) _ _ _) _ _ _); refine xE_meth (DS.cls_Hall (by assumption)) (cf_answer (by assumption) (by assumption)) (Room.mono (by assumption) (by decide)) ?_))
local macro_rules | `(tactic| specialize "s3") => `(tactic| ((with_reducible show asp_answer _ _ _ _ _); refine ⟨_, _, _, _, _, rfl, (by assumption), (by assumption), (by assumption), (by assumption), (by assumption), ?_⟩))
local macro_rules | `(tactic| specialize "fun") => `(tactic| ((with_reducible show wE _ _ (Expr.Call (Expr.Attribute _ (Str.ofString "leave") _) _ _ _) _ _ _); refine xE_meth (DS.cls_Hall (by assumption)) (cf_leave (by assumption) (by assumption)) (Room.mono (by assumption) (by decide)) ?_))
local macro_rules | `(tactic| specialize "fun") => `(tactic| ((with_reducible show wE _ _ (Expr.Call (Expr.Attribute _ (Str.ofString "need_talk") _) _ _ _) _ _ _); refine xE_meth (DS.cls_Hall (by assumption)) (cf_need_talk (by assumption) (by assumption)) (Room.mono (by assumption) (by decide)) ?_))
local macro_rules | `(tactic| specialize "s3") => `(tactic| ((with_reducible show asp_need_talk _ _ _ _ _); refine ⟨_, _, _, _, rfl, (by assumption), (by assumption), (by assumption), (by assumption), ?_⟩))
local macro_rules | `(tactic| specialize "fun") => `(tactic| ((with_reducible show wE _ _ (Expr.Call (Expr.Attribute (Expr.Name (Str.ofString "self") _) (Str.ofString "phone") _) _ _ _) _ _ _); refine xE_meth (DS.cls_Hall (by assumption)) (cf_phone (by assumption) (by assumption)) (Room.mono (by assumption) (by decide)) ?_))
local macro_rules | `(tactic| specialize "s3") => `(tactic| ((with_reducible show asp_phone _ _ _ _ _); refine ⟨_, _, _, _, _, rfl, (by assumption), (by assumption), (by assumption), (by assumption), ?_⟩))

-- PH2
section
variable {P : Program} {w : World} {K : PySem.W.Frag} {mg : Str → Option Value} {base : Heap} {C_Book C_Way C_Call C_Phone C_Hall : Addr}
def asp_Way_goG (CB CW : Addr) : ASp := fun ws S Φ _ => ∃ j ch ld jb c y0 n xs st kn sv, ws = [.ref j, .int n, sv, .lst (kn.map W.bl)] ∧ (∀ S : Sto, itemsW S sv = some (st.map stW)) ∧ WayAt CW S j ch ld jb c y0 ∧ BookAt CB S jb xs ∧ (∀ x ∈ xs, x.ok) ∧ WyOk y0 ∧ 0 ≤ n ∧ n ≤ 7 ∧ st.length = 6 ∧ kn.length = 6 ∧
  Φ .non (putWay CW S j ch ld jb c (goF xs c st kn (8 - y0.chain.length) y0 n))
theorem cf_Way_goG (G : GL mg) (D : DS K mg C_Book C_Way C_Call C_Phone C_Hall) : CMeth P w K mg base C_Way "go" 4 4 (asp_Way_goG C_Book C_Way) := by
  refine D.d_Way_go.fn sc_Way_go fun f cdv A outer s H E hr ws S Φ Ψ hl hS ha => ?_
  obtain ⟨j, ch, ld, jb, c, y0, n, xs, st, kn, sv, rfl, hsv, wy, bk, ho, ok0, hn0, hn7, h6, hk6, h⟩ := ha
  obtain ⟨m1, m2⟩ := wy.nj
  have l0 := ok0.len
  specialize "go"
  refine wS_while (passes_of rfl) ⟨fun m E' S' => ∃ (y : Wy) (g : Option Int), E' = [some (.ref j), some (.int n), some sv, some (.lst (kn.map W.bl)), some (optW g)] ∧ S' = putWay C_Way S j ch ld jb c y ∧
    (match g with
      | none => m = 0 ∧ y = goF xs c st kn (8 - y0.chain.length) y0 n
      | some g => y.leads.length ≤ y.chain.length ∧ y.chain.Nodup ∧ (∀ p ∈ y.chain, 0 ≤ p ∧ p ≤ 5) ∧ 0 ≤ g ∧ g ≤ 7 ∧ m + y.chain.length = 7 ∧ goF xs c st kn (m + 1) y g = goF xs c st kn (8 - y0.chain.length) y0 n), ⟨7 - y0.chain.length, y0, some n, rfl, wy.same.symm, ok0.ld, ok0.nd, ok0.ph, hn0, hn7, by omega, by rw [show 7 - y0.chain.length + 1 = 8 - y0.chain.length by omega]⟩, ?_⟩
  rintro m E' S' ⟨y, g, rfl, rfl, hg⟩
  cases g with
  | none =>
    obtain ⟨hm, hy⟩ := hg
    specialize "go"
    rw [hy]
    exact fin.as h
  | some g =>
    obtain ⟨hlen, hN, hP, hg0, hg7, hm, hgo⟩ := hg
    have wy' := wy.put y
    have bk' := bk.put wy (y' := y)
    have hc6 := phones_len hN hP
    have hl6 : y.leads.length ≤ 6 := by omega
    obtain ⟨v1, v2, v3, m3⟩ := id wy'
    specialize "go"
    refine (sIte_t rfl ?_ : sIte _ _ _)
    specialize "go"
    rw [put_put m1 m2 wy.ne]
    dsimp only
    refine dropTo.as ?_
    cases e : stepF xs c st kn y g with
    | mk y' r =>
      have hs := hgo
      rw [goF, e] at hs
      cases r with
      | none =>
        refine ⟨0, by omega, y', none, rfl, rfl, rfl, hs⟩
      | some g' =>
        obtain ⟨q1, q2, q3, q4, q6⟩ := step_on e
        have q5 := next_ok ho q3
        have hN' : y'.chain.Nodup := by
          rw [q4]
          exact List.nodup_append.mpr ⟨hN, by simp, fun a ha b hb => by
            rw [List.mem_singleton.mp hb]
            intro z
            exact q2 (z ▸ ha)⟩
        have hP' : ∀ p ∈ y'.chain, 0 ≤ p ∧ p ≤ 5 := by
          rw [q4]
          intro p hp
          rcases List.mem_append.mp hp with hp | hp
          · exact hP p hp
          · rw [List.mem_singleton.mp hp]
            omega
        have hl7 := phones_len hN' hP'
        rw [q4, List.length_append, List.length_singleton] at hl7
        obtain ⟨m', rfl⟩ : ∃ m', m = m' + 1 := ⟨m - 1, by omega⟩
        refine ⟨m', by omega, y', some g', rfl, rfl, ?_, hN', hP', q5.1, q5.2, ?_, hs⟩
        · rw [q4, q6, List.length_append, List.length_append, List.length_singleton, List.length_singleton]
          omega
        · rw [q4, List.length_append, List.length_singleton]
          omega
def asp_may (C : Cs) : ASp := fun ws S Φ _ => ∃ loc xs σ p, ws = [.ref (loc .hall), .int p] ∧ HallAt C S loc xs σ ∧ 0 ≤ p ∧ p ≤ 5 ∧ Φ (.bl (mayF σ p)) S
section
local macro_rules | `(tactic| specialize "ix") => `(tactic| exact at_phs (by assumption) (by assumption))
theorem cf_may (G : GL mg) (D : DS K mg C_Book C_Way C_Call C_Phone C_Hall) : CMeth P w K mg base C_Hall "may_be_knocked_at" 1 2 (asp_may (Cs.mk C_Book C_Way C_Call C_Phone C_Hall)) := by
  refine D.d_Hall_may_be_knocked_at.fn sc_Hall_may_be_knocked_at fun f cdv A outer s H E hr ws S Φ Ψ hl hS ha => ?_
  obtain ⟨loc, xs, σ, p, rfl, h, hp0, hp5, hΦ⟩ := ha
  have f0 := h.hall
  have p1 := h.ph hp0 hp5
  have v1 := h.vd.ph p hp0 hp5
  unfold phFs at p1
  unfold mayF inTalk at hΦ
  cases e1 : (σ.ph p).now with
  | none =>
    rw [e1] at p1 hΦ
    simp only [rfW] at p1
    specialize "go"
    exact fin.as hΦ
  | some k =>
    have c1 := h.ca (v1.1 k e1)
    unfold caFs at c1
    rw [e1] at p1 hΦ
    cases e2 : (σ.ph p).kept <;> cases e3 : (σ.ph p).bell <;> (rw [e2, e3] at p1 hΦ; simp only [rfW] at p1; specialize "go"; exact fin.eq hΦ (by simp))
end
local macro_rules | `(tactic| specialize "fun") => `(tactic| ((with_reducible show wE _ _ (Expr.Call (Expr.Attribute _ (Str.ofString "may_be_knocked_at") _) _ _ _) _ _ _); refine xE_meth (DS.cls_Hall (by assumption)) (cf_may (by assumption) (by assumption)) (Room.mono (by assumption) (by decide)) ?_))
def asp_knock (C : Cs) : ASp := fun ws S Φ _ => ∃ loc xs σ ls, ws = [.ref (loc .hall), .lst ls] ∧ HallAt C S loc xs σ ∧ ls.length = 6 ∧ Φ (.lst ((knF σ).map W.bl)) S
section
local macro_rules | `(tactic| specialize "s0") => `(tactic| ((with_reducible show sLc _ _ _ _ _ _ _ _ _ _); refine stop_i ?_))
theorem cf_knock (G : GL mg) (D : DS K mg C_Book C_Way C_Call C_Phone C_Hall) : CMeth P w K mg base C_Hall "knock_list" 2 2 (asp_knock (Cs.mk C_Book C_Way C_Call C_Phone C_Hall)) := by
  refine D.d_Hall_knock_list.fn sc_Hall_knock_list fun f cdv A outer s H E hr ws S Φ Ψ hl hS ha => ?_
  obtain ⟨loc, xs, σ, ls, rfl, h, h6, hΦ⟩ := ha
  have f0 := h.hall
  specialize "go"
  unfold Stop
  have e6 : ((ls.length : Nat) : Int).toNat = 6 := by omega
  refine sLc_i (xs := List.range ((ls.length : Nat) : Int).toNat) (enc := fun k => .int ((0 : Int) + (k : Int))) (p := fun _ => true) (g := fun k => W.bl (mayF σ (k : Int))) trivial (by rw [List.length_range]; omega) (fun x hx => ?_) ?_
  · have hx6 : x < 6 := by
      have := List.mem_range.mp hx
      omega
    specialize "go"
    refine ⟨loc, xs, σ, ((0 : Int) + (x : Int)), rfl, h, by omega, by omega, ?_⟩
    rw [Int.zero_add]
    exact ⟨rfl, rfl⟩
  · rw [List.filter_eq_self.mpr fun _ _ => rfl, e6]
    unfold knF at hΦ
    rw [List.map_map] at hΦ
    exact fin.as hΦ
end
local macro_rules | `(tactic| specialize "fun") => `(tactic| ((with_reducible show wE _ _ (Expr.Call (Expr.Attribute _ (Str.ofString "knock_list") _) _ _ _) _ _ _); refine xE_meth (DS.cls_Hall (by assumption)) (cf_knock (by assumption) (by assumption)) (Room.mono (by assumption) (by decide)) ?_))
local macro_rules | `(tactic| specialize "fun") => `(tactic| ((with_reducible show wE _ _ (Expr.Call (Expr.Attribute (Expr.Attribute _ (Str.ofString "way") _) (Str.ofString "go") _) _ _ _) _ _ _); refine xE_meth (DS.cls_Way (by assumption)) (cf_Way_goG (by assumption) (by assumption)) (Room.mono (by assumption) (by decide)) ?_))
def asp_go_on (C : Cs) : ASp := fun ws S Φ _ => ∃ loc xs σ k g, ws = [.ref (loc .hall), .ref (loc (.ca k)), .int g] ∧ HallAt C S loc xs σ ∧ (∀ x ∈ xs, x.ok) ∧ k < σ.n ∧ 0 ≤ g ∧ g ≤ 7 ∧ WyOk (σ.ca k).y ∧ (∀ e ∈ (onY σ xs k g).ears, 0 ≤ e ∧ e ≤ 5) ∧ (onY σ xs k g).ears.length ≤ 100 ∧ ∀ S', HallAt C S' loc xs (onF σ xs k g) → Fr loc σ.n S S' → Φ .non S'
section
local macro_rules | `(tactic| specialize "st") => `(tactic| ((with_reducible show wS _ _ (Stmt.Assign [Expr.Name (Str.ofString "states") _] _ _) _ _ _); refine stop_i ?_))
local macro_rules | `(tactic| specialize "s0") => `(tactic| ((with_reducible show sLc _ _ _ _ _ _ _ _ _ _); refine stop_i ?_))
local macro_rules | `(tactic| specialize "ix") => `(tactic| exact at_phs (by assumption) (by assumption))
def bellI (σ : Hl) (k : Nat) (l : List Int) : Hl := σ.mapPh fun p q => if p ∈ l then { q with bell := some k } else q
theorem bellI_ph {σ : Hl} {k : Nat} {l : List Int} {p : Int} : (bellI σ k l).ph p = if p ∈ l then { σ.ph p with bell := some k } else σ.ph p := rfl
theorem sts_len {σ : Hl} : (stF σ).length = 6 := by
  unfold stF
  rw [List.length_map, List.length_range]
theorem kn_len {σ : Hl} : (knF σ).length = 6 := by
  unfold knF
  rw [List.length_map, List.length_range]
theorem cf_go_on (G : GL mg) (D : DS K mg C_Book C_Way C_Call C_Phone C_Hall) : CMeth P w K mg base C_Hall "go_on" 5 3 (asp_go_on (Cs.mk C_Book C_Way C_Call C_Phone C_Hall)) := by
  refine D.d_Hall_go_on.fn sc_Hall_go_on fun f cdv A outer s H E hr ws S Φ Ψ hl hS ha => ?_
  obtain ⟨loc, xs, σ, k, g, rfl, h, ho, hk, hg0, hg7, hw, he, hel, hΦ⟩ := ha
  have f0 := h.hall
  specialize "go"
  unfold Stop
  specialize "lcS"
  refine xI_list ?_
  specialize "go"
  refine sWL_l ?_
  refine sLc_i (xs := List.range 6) (enc := fun i : Nat => W.ref (loc (.ph (i : Int)))) (p := fun _ => true) (g := fun i : Nat => stW (busyP (σ.ph (i : Int)))) trivial (by decide) (fun x hx => ?_) ?_
  · have hx6 : x < 6 := List.mem_range.mp hx
    have p1 := h.ph (p := (x : Int)) (by omega) (by omega)
    unfold phFs at p1
    unfold busyP
    cases e1 : (σ.ph (x : Int)).up <;> cases e2 : (σ.ph (x : Int)).bell <;> (rw [e1, e2] at p1; simp only [rfW] at p1; specialize "go")
  · rw [List.filter_eq_self.mpr fun _ _ => rfl]
    have est : (List.range 6).map (fun i : Nat => stW (busyP (σ.ph (i : Int)))) = (stF σ).map stW := by
      unfold stF
      rw [List.map_map]
      rfl
    rw [est]
    have c1 := h.ca hk
    specialize "go"
    refine sMeth_i (h.way hk) rfl ?_
    specialize "go"
    refine ⟨loc, xs, σ, _, rfl, h, by rw [List.length_map, sts_len], ?_⟩
    specialize "go"
    refine ⟨_, _, _, _, _, (σ.ca k).y, g, xs, stF σ, knF σ, _, rfl, fun _ => rfl, h.wy hk, h.bk, ho, hw, hg0, hg7, sts_len, kn_len, ?_⟩
    have h1 := h.putWy hk (onY σ xs k g)
    have fr1 : Fr loc σ.n S (putWay C_Way S (loc (.way k)) (loc (.chain k)) (loc (.leads k)) (loc .book) (σ.ca k).c (onY σ xs k g)) := (Fr.refl S).putWy hk
    rw [show goF xs (σ.ca k).c (stF σ) (knF σ) (8 - (σ.ca k).y.chain.length) (σ.ca k).y g = onY σ xs k g from rfl]
    have hΦ' : ∀ S', HallAt (Cs.mk C_Book C_Way C_Call C_Phone C_Hall) S' loc xs (if (onY σ xs k g).ears = [] then overF (ringF σ k (onY σ xs k g)) k else ringF σ k (onY σ xs k g)) → Fr loc σ.n S S' → Φ .non S' := hΦ
    generalize onY σ xs k g = y at *
    generalize putWay C_Way S (loc (.way k)) (loc (.chain k)) (loc (.leads k)) (loc .book) (σ.ca k).c y = S1 at *
    have c2 := h1.ca hk
    rw [setCa_self] at c2
    have f1 := h1.hall
    have w2 := h1.way hk
    rw [setCa_self] at w2
    specialize "go"
    rw [fcA]
    have h2 := h1.putCa hk (c := { σ.ca k with y := y, age := 0 }) (by rw [setCa_self]) (by rw [setCa_self]) (by rw [setCa_self])
    rw [setCa2] at h2
    have fr2 := fr1.set (c := .ca k) hk (o := .ins C_Call (caFs loc k { σ.ca k with y := y, age := 0 }))
    show wS _ _ _ _ (S1.set (loc (.ca k)) (.ins C_Call (caFs loc k { σ.ca k with y := y, age := 0 }))) _
    generalize S1.set (loc (.ca k)) (.ins C_Call (caFs loc k { σ.ca k with y := y, age := 0 })) = S2 at h2 fr2 ⊢
    have w3 := h2.way hk
    rw [setCa_self] at w3
    have c3 := h2.ca hk
    rw [setCa_self] at c3
    refine wS_for (passes_of rfl) rfl ?_
    refine xI_tup ?_
    specialize "go"
    refine sWT_i ?_
    refine ⟨fun i E' S' => i ≤ y.ears.length ∧ (∃ a, E' = [some (.ref (loc .hall)), some (.ref (loc (.ca k))), some (.int g), some (.lst ((stF σ).map stW)), none, a]) ∧ HallAt (Cs.mk C_Book C_Way C_Call C_Phone C_Hall) S' loc xs (bellI (σ.setCa k { σ.ca k with y := y, age := 0 }) k (y.ears.take i)) ∧ Fr loc σ.n S S',
      ⟨Nat.zero_le _, ⟨_, rfl⟩, h2.eqv ⟨rfl, rfl, fun p _ _ => by rw [List.take_zero, bellI_ph, if_neg List.not_mem_nil], fun _ _ => rfl⟩, fr2⟩, fun _ _ _ _ => trivial, ?_, ?_⟩
    · rintro i w E' S' hwi ⟨hi, ⟨a, rfl⟩, h', fr⟩
      obtain ⟨e, hei, rfl⟩ := map_inv hwi
      have hem := List.mem_of_getElem? hei
      obtain ⟨e0, e5⟩ := he e hem
      have hi' : i < y.ears.length := (List.getElem?_eq_some_iff.mp hei).1
      have p1 := h'.ph e0 e5
      have f3 := h'.hall
      have v1 := h'.vd.ph e e0 e5
      specialize "go"
      rw [fpB1]
      dsimp only
      refine dropTo.as ?_
      have h'' := h'.putPh e0 e5 (q := { (bellI (σ.setCa k { σ.ca k with y := y, age := 0 }) k (y.ears.take i)).ph e with bell := some k }) ⟨v1.1, v1.2.1, fun j hj => by cases hj; exact hk⟩
      refine ⟨hi', ⟨_, rfl⟩, h''.eqv ⟨rfl, rfl, fun p _ _ => ?_, fun _ _ => rfl⟩, fr.set (c := .ph e) ⟨e0, e5⟩⟩
      have et : y.ears.take (i + 1) = y.ears.take i ++ [e] := by rw [List.take_add_one, hei, Option.toList_some]
      rw [et, bellI_ph]
      by_cases z : p = e
      · subst z
        rw [setPh_self, if_pos (by simp), bellI_ph]
        by_cases z2 : p ∈ y.ears.take i
        · rw [if_pos z2]
        · rw [if_neg z2]
      · rw [setPh_ne z, bellI_ph]
        by_cases z2 : p ∈ y.ears.take i
        · rw [if_pos z2, if_pos (List.mem_append_left _ z2)]
        · rw [if_neg z2, if_neg (by simp [z2, z])]
    · rintro E' S' ⟨hi, ⟨a, rfl⟩, h', fr⟩
      rw [len_ints] at h'
      have h' : HallAt (Cs.mk C_Book C_Way C_Call C_Phone C_Hall) S' loc xs (bellI (σ.setCa k { σ.ca k with y := y, age := 0 }) k (y.ears.take y.ears.length)) := h'
      rw [List.take_length] at h'
      have h4 : HallAt (Cs.mk C_Book C_Way C_Call C_Phone C_Hall) S' loc xs (ringF σ k y) := h'
      have hk3 : k < (ringF σ k y).n := hk
      have f3 := h4.hall
      have c3 := h4.ca hk3
      have w3 := h4.way hk3
      rw [show (ringF σ k y).ca k = { σ.ca k with y := y, age := 0 } from if_pos rfl] at w3
      specialize "go"
      refine sIte_s (fun e => ?_) (fun e => ?_)
      · have e' : y.ears = [] := by
          cases hy : y.ears with
          | nil => rfl
          | cons a l => rw [hy] at e; cases e
        rw [if_pos e'] at hΦ'
        specialize "go"
        intro S5 h5 fr5
        specialize "go"
        exact fin.as (hΦ' _ h5 (fr.trans fr5))
      · have e' : ¬ y.ears = [] := by
          intro z
          rw [z] at e
          cases e
        rw [if_neg e'] at hΦ'
        specialize "go"
        exact fin.as (hΦ' _ h4 fr)
end
local macro_rules | `(tactic| specialize "fun") => `(tactic| ((with_reducible show wE _ _ (Expr.Call (Expr.Attribute _ (Str.ofString "go_on") _) _ _ _) _ _ _); refine xE_meth (DS.cls_Hall (by assumption)) (cf_go_on (by assumption) (by assumption)) (Room.mono (by assumption) (by decide)) ?_))
end

local macro_rules | `(tactic| specialize "fun") => `(tactic| ((with_reducible show wE _ _ (Expr.Call (Expr.Attribute _ (Str.ofString "may_be_knocked_at") _) _ _ _) _ _ _); refine xE_meth (DS.cls_Hall (by assumption)) (cf_may (by assumption) (by assumption)) (Room.mono (by assumption) (by decide)) ?_))
local macro_rules | `(tactic| specialize "fun") => `(tactic| ((with_reducible show wE _ _ (Expr.Call (Expr.Attribute _ (Str.ofString "knock_list") _) _ _ _) _ _ _); refine xE_meth (DS.cls_Hall (by assumption)) (cf_knock (by assumption) (by assumption)) (Room.mono (by assumption) (by decide)) ?_))
local macro_rules | `(tactic| specialize "fun") => `(tactic| ((with_reducible show wE _ _ (Expr.Call (Expr.Attribute (Expr.Attribute _ (Str.ofString "way") _) (Str.ofString "go") _) _ _ _) _ _ _); refine xE_meth (DS.cls_Way (by assumption)) (cf_Way_goG (by assumption) (by assumption)) (Room.mono (by assumption) (by decide)) ?_))
local macro_rules | `(tactic| specialize "fun") => `(tactic| ((with_reducible show wE _ _ (Expr.Call (Expr.Attribute _ (Str.ofString "go_on") _) _ _ _) _ _ _); refine xE_meth (DS.cls_Hall (by assumption)) (cf_go_on (by assumption) (by assumption)) (Room.mono (by assumption) (by decide)) ?_))

-- PH3
section
variable {P : Program} {w : World} {K : PySem.W.Frag} {mg : Str → Option Value} {base : Heap} {C_Book C_Way C_Call C_Phone C_Hall : Addr}
local macro_rules | `(tactic| specialize "s2") => `(tactic| ((with_reducible show sNon _ (rfW _ _) _ _); refine sNon_i isNon_rf ?_))
section
local macro_rules | `(tactic| specialize "cmT") => `(tactic| ((with_reducible show wT _ _ (Expr.Compare (Expr.Attribute (Expr.Name _ _) _ _) [CmpOp.Eq] [_] _) _ _ _); refine xT_eqI (Room.u65 (by assumption)) ?_))
local macro_rules | `(tactic| specialize "ex") => `(tactic| ((with_reducible show wE _ _ (Expr.Call (Expr.Attribute _ (Str.ofString "remove") _) _ _ _) _ _ _); refine xE_remI (Room.u65 (by assumption)) ?_))
local macro_rules | `(tactic| specialize "st") => `(tactic| ((with_reducible show wS _ _ (Stmt.If (Expr.Compare (Expr.Attribute (Expr.Name (Str.ofString "one") _) _ _) [CmpOp.Eq] [_] _) _ _ _) _ _ _); refine stop_i ?_))
end
end


-- PH4
section
variable {P : Program} {w : World} {K : PySem.W.Frag} {mg : Str → Option Value} {base : Heap} {C_Book C_Way C_Call C_Phone C_Hall : Addr}
local macro_rules | `(tactic| specialize "s2") => `(tactic| ((with_reducible show sNon _ (rfW _ _) _ _); refine sNon_i isNon_rf ?_))
theorem xE_listN {X : Cx} {Ψ : AX} {e : Expr} {E : AEnv} {S : Sto} {Φ : W → Sto → Prop} {pos p : Pos} (hm : X.mg "list" = none) (h : wE X Ψ e E S fun w S1 => sItemsN w S1 Φ) (hg : Gl X "list" := by rfl) (he : starEach [e] X.env = (false, eval e X.env) :: starEach [] X.env := by rfl) (hpl : (backTo pos (starEach [] X.env)).any (·.1) = false := by rfl) : wE X Ψ (.Call (.Name "list" p) [e] [] pos) E S Φ := wE_listN hm h hg he hpl
def asp_Phone_init (C : Addr) : ASp := fun ws S Φ _ => ∃ S0, ws = [.ref S0.length] ∧ S = S0 ++ [.ins C []] ∧ ∀ loc, Φ .non (S0 ++ [.ins C (phFs loc Ph.new)])
theorem cf_Phone_init (G : GL mg) (D : DS K mg C_Book C_Way C_Call C_Phone C_Hall) : CMake P w K mg base "Phone" C_Phone 1 1 (asp_Phone_init C_Phone) := by
  refine D.d_Phone_init.fn sc_Phone_init fun f cdv A outer s H E hr ws S Φ Ψ hl hS ha => ?_
  obtain ⟨S0, rfl, rfl, h⟩ := ha
  specialize "go"
  exact fin.eqS (h (fun _ => 0)) (by
    rw [set_new0, set_new0, set_new0, set_new0, set_new0]
    rfl)
def asp_Call_init (C CW : Addr) : ASp := fun ws S Φ _ => ∃ S0 jw jb c ch ld y, ws = [.ref S0.length, .ref jw] ∧ S = S0 ++ [.ins C []] ∧ S0[jw]? = some (.ins CW (wayFs jb c ch ld y)) ∧ Φ .non (S0 ++ [.ins C [("way", .ref jw), ("people", .ref (S0.length + 1)), ("age", .int 0), ("is_talk", .bl false)], .lst [.int c]])
section
local macro_rules | `(tactic| specialize "st") => `(tactic| ((with_reducible show wS _ _ (Stmt.Assign [Expr.Attribute _ (Str.ofString "people") _] (Expr.List _ _) _) _ _ _); refine xS_fld ?_; refine xE_lstN ?_))
theorem cf_Call_init (G : GL mg) (D : DS K mg C_Book C_Way C_Call C_Phone C_Hall) : CMake P w K mg base "Call" C_Call 1 2 (asp_Call_init C_Call C_Way) := by
  refine D.d_Call_init.fn sc_Call_init fun f cdv A outer s H E hr ws S Φ Ψ hl hS ha => ?_
  obtain ⟨S0, jw, jb, c, ch, ld, y, rfl, rfl, hw, h⟩ := ha
  have hlt : jw < S0.length := (List.getElem?_eq_some_iff.mp hw).1
  have hne : S0.length ≠ jw := by omega
  have hw1 : ∀ o, (S0 ++ [o])[jw]? = some (.ins C_Way (wayFs jb c ch ld y)) := fun o => get_app hw
  specialize "go"
  have n1 : ∀ o, (S0 ++ [O.ins C_Call []]).set S0.length o = S0 ++ [o] := fun o => set_new0
  have n2 : ∀ o, (S0 ++ [o]).length = S0.length + 1 := fun o => by simp
  have n3 : ∀ o l o2 : O, (S0 ++ [o] ++ [l]).set S0.length o2 = S0 ++ [o2, l] := fun o l o2 => by rw [List.append_assoc]; exact set_new0
  rw [n1, n2, n3]
  specialize "go"
  exact fin.eqS h (by
    rw [set_new0, set_new0]
    kernel_rfl)
end
local macro_rules | `(tactic| specialize "fun") => `(tactic| ((with_reducible show wE _ _ (Expr.Call (Expr.Name (Str.ofString "Call") _) _ _ _) _ _ _); refine xE_make (cf_Call_init (by assumption) (by assumption)) (Room.mono (by assumption) (by decide)) ?_))
local macro_rules | `(tactic| specialize "fun") => `(tactic| ((with_reducible show wE _ _ (Expr.Call (Expr.Name (Str.ofString "Phone") _) [] _ _) _ _ _); refine wE_make0 (cf_Phone_init (by assumption) (by assumption)) (Room.mono (by assumption) (by decide)) ?_))
section
local macro_rules | `(tactic| specialize "fun") => `(tactic| ((with_reducible show wE _ _ (Expr.Call (Expr.Name (Str.ofString "list") _) _ _ _) _ _ _); refine xE_listN (GL.b_list (by assumption)) ?_))
end
end

local macro_rules | `(tactic| specialize "fun") => `(tactic| ((with_reducible show wE _ _ (Expr.Call (Expr.Name (Str.ofString "Call") _) _ _ _) _ _ _); refine xE_make (cf_Call_init (by assumption) (by assumption)) (Room.mono (by assumption) (by decide)) ?_))
local macro_rules | `(tactic| specialize "fun") => `(tactic| ((with_reducible show wE _ _ (Expr.Call (Expr.Name (Str.ofString "Phone") _) [] _ _) _ _ _); refine wE_make0 (cf_Phone_init (by assumption) (by assumption)) (Room.mono (by assumption) (by decide)) ?_))

-- PH5n
section
variable {P : Program} {w : World} {K : PySem.W.Frag} {mg : Str → Option Value} {base : Heap} {C_Book C_Way C_Call C_Phone C_Hall : Addr}
local macro_rules | `(tactic| specialize "s2") => `(tactic| ((with_reducible show sNon _ (rfW _ _) _ _); refine sNon_i isNon_rf ?_))
section
local macro_rules | `(tactic| specialize "ix") => `(tactic| exact at_phs (by assumption) (by assumption))
local macro_rules | `(tactic| specialize "s0") => `(tactic| ((with_reducible show sLc _ _ _ _ _ _ _ _ _ _); refine stop_i ?_))
local macro_rules | `(tactic| specialize "cmT") => `(tactic| ((with_reducible show wT _ _ (Expr.Compare (Expr.Attribute (Expr.Subscript _ _ _) _ _) [CmpOp.Eq] [_] _) _ _ _); refine xT_eqI (Room.u65 (by assumption)) ?_))
local macro_rules | `(tactic| specialize "cmp") => `(tactic| ((with_reducible show wE _ _ (Expr.Compare (Expr.Attribute (Expr.Subscript _ _ _) _ _) [CmpOp.Eq] [_] _) _ _ _); refine xE_eqI (Room.u65 (by assumption)) ?_))
local macro_rules | `(tactic| specialize "fun") => `(tactic| ((with_reducible show wE _ _ (Expr.Call (Expr.Name (Str.ofString "sorted") _) _ _ _) _ _ _); refine xE_sortedT (GL.b_sorted (by assumption)) (Room.u65 (by assumption)) ?_))
local macro_rules | `(tactic| specialize "st") => `(tactic| ((with_reducible show wS _ _ (Stmt.Assign [Expr.Name (Str.ofString "people") _] _ _) _ _ _); refine stop_i ?_))
end
def asp_patience (C : Addr) : ASp := fun ws S Φ _ => ∃ j xs p, ws = [.ref j, .int p] ∧ BookAt C S j xs ∧ Φ (optW ((lateB xs p).map (·.1))) S
theorem key_late {x : Wish} {p : Int} (h : x.key = [.inr "late", .inl p]) : ∃ g t, x = .late p g t := by
  cases x with
  | late q g t =>
    have e : q = p := by
      simp only [Wish.key, List.cons.injEq, Sum.inl.injEq, and_true, true_and] at h
      exact h
    subst e
    exact ⟨g, t, rfl⟩
  | _ =>
    exfalso
    simp only [Wish.key, List.cons.injEq, Sum.inr.injEq] at h
    exact absurd h.1 (by decide +kernel)
theorem late_some {xs : List Wish} {p : Int} (h : hasB xs [.inr "late", .inl p] = true) : ∃ g t, getB xs [.inr "late", .inl p] = some (.late p g t) ∧ lateB xs p = some (t, g) := by
  unfold hasB at h
  cases e : getB xs [.inr "late", .inl p] with
  | none => rw [e] at h; cases h
  | some x =>
    obtain ⟨g, t, rfl⟩ := key_late (getB_key e).1
    exact ⟨g, t, rfl, by unfold lateB; rw [e]⟩
theorem late_none {xs : List Wish} {p : Int} (h : hasB xs [.inr "late", .inl p] = false) : lateB xs p = none := by
  unfold hasB at h
  unfold lateB
  cases e : getB xs [.inr "late", .inl p] with
  | none => rfl
  | some x => rw [e] at h; cases h
theorem cf_patience (G : GL mg) (D : DS K mg C_Book C_Way C_Call C_Phone C_Hall) : CMeth P w K mg base C_Book "patience" 1 2 (asp_patience C_Book) := by
  refine D.d_Book_patience.fn sc_Book_patience fun f cdv A outer s H E hr ws S Φ Ψ hl hS ha => ?_
  obtain ⟨j, xs, p, rfl, ⟨d, b1, b2⟩, h⟩ := ha
  cases e : hasB xs [.inr "late", .inl p] with
  | false =>
    rw [late_none e] at h
    have e' : (valW (bookD xs) [.inr "late", .inl p]).isSome = false := by rw [val_has]; exact e
    specialize "go"
    exact fin.as h
  | true =>
    obtain ⟨g, t, e1, e2⟩ := late_some e
    rw [e2] at h
    have e' : (valW (bookD xs) [.inr "late", .inl p]).isSome = true := by rw [val_has]; exact e
    have hv : dgetW S d (.tup [.str "late", .int p]) = some (some (Wish.late p g t).w) := by
      rw [dget_t b2 rfl, val_book, e1]
      rfl
    specialize "go"
    exact fin.as h
local macro_rules | `(tactic| specialize "fun") => `(tactic| ((with_reducible show wE _ _ (Expr.Call (Expr.Attribute _ (Str.ofString "patience") _) _ _ _) _ _ _); refine xE_meth (DS.cls_Book (by assumption)) (cf_patience (by assumption) (by assumption)) (Room.mono (by assumption) (by decide)) ?_))
def asp_goalL (C : Addr) : ASp := fun ws S Φ _ => ∃ j xs p g t, ws = [.ref j, .str "late", .int p] ∧ BookAt C S j xs ∧ getB xs [.inr "late", .inl p] = some (.late p g t) ∧ Φ (.int g) S
theorem cf_goalL (G : GL mg) (D : DS K mg C_Book C_Way C_Call C_Phone C_Hall) : CMeth P w K mg base C_Book "goal" 1 3 (asp_goalL C_Book) := by
  refine D.d_Book_goal.fn sc_Book_goal fun f cdv A outer s H E hr ws S Φ Ψ hl hS ha => ?_
  obtain ⟨j, xs, p, g, t, rfl, ⟨d, b1, b2⟩, hg, h⟩ := ha
  have hv : dgetW S d (.tup [.str "late", .int p]) = some (some (Wish.late p g t).w) := by
    rw [dget_t b2 rfl, val_book, hg]
    rfl
  specialize "go"
  exact fin.as h
end

local macro_rules | `(tactic| specialize "fun") => `(tactic| ((with_reducible show wE _ _ (Expr.Call (Expr.Attribute _ (Str.ofString "patience") _) _ _ _) _ _ _); refine xE_meth (DS.cls_Book (by assumption)) (cf_patience (by assumption) (by assumption)) (Room.mono (by assumption) (by decide)) ?_))

-- PH6
section
variable {P : Program} {w : World} {K : PySem.W.Frag} {mg : Str → Option Value} {base : Heap} {C_Book C_Way C_Call C_Phone C_Hall : Addr}
local macro_rules | `(tactic| specialize "s2") => `(tactic| ((with_reducible show sNon _ (rfW _ _) _ _); refine sNon_i isNon_rf ?_))
local macro_rules | `(tactic| specialize "fun") => `(tactic| ((with_reducible show wE _ _ (Expr.Call (Expr.Attribute _ (Str.ofString "goal") _) [Expr.Name (Str.ofString "LATE") _, _] _ _) _ _ _); refine xE_meth (DS.cls_Book (by assumption)) (cf_goalL (by assumption) (by assumption)) (Room.mono (by assumption) (by decide)) ?_))
theorem at_last {l : List Int} {q : Int} (h : l.getLast? = some q) : atI (intsW l) (-1) = some (.int q) := by
  have ne : l ≠ [] := fun z => by rw [z] at h; cases h
  have hl : 0 < l.length := List.length_pos_iff.mpr ne
  have e : ixN (intsW l).length (-1) = some (l.length - 1) := by
    unfold ixN intsW
    rw [List.length_map, if_neg (by decide), if_pos (by omega)]
    congr 1
    omega
  unfold atI
  rw [e]
  show (intsW l)[l.length - 1]? = _
  rw [intsW, List.getElem?_map, ← List.getLast?_eq_getElem?, h]
  rfl
theorem late_get {xs : List Wish} {p t g : Int} (h : lateB xs p = some (t, g)) : getB xs [.inr "late", .inl p] = some (.late p g t) := by
  cases e : hasB xs [.inr "late", .inl p] with
  | false => rw [late_none e] at h; cases h
  | true =>
    obtain ⟨g', t', e1, e2⟩ := late_some e
    rw [e2] at h
    cases h
    exact e1
def asp_late (C : Cs) : ASp := fun ws S Φ _ => ∃ loc xs σ k, ws = [.ref (loc .hall), .ref (loc (.ca k))] ∧ HallAt C S loc xs σ ∧ Inv σ ∧ (∀ x ∈ xs, x.ok) ∧ k ∈ σ.op ∧ (σ.ca k).talk = false ∧ ∀ S', HallAt C S' loc xs (lateF σ xs k) → Fr loc σ.n S S' → Φ .non S'
section
local macro_rules | `(tactic| specialize "ix") => `(tactic| exact at_last (by assumption))
local macro_rules | `(tactic| specialize "ex") => `(tactic| ((with_reducible show wE _ _ (Expr.UnaryOp UnaryOp.USub _ _) _ _ _); refine xE_neg ?_))
theorem cf_late (G : GL mg) (D : DS K mg C_Book C_Way C_Call C_Phone C_Hall) : CMeth P w K mg base C_Hall "late" 6 2 (asp_late (Cs.mk C_Book C_Way C_Call C_Phone C_Hall)) := by
  refine D.d_Hall_late.fn sc_Hall_late fun f cdv A outer s H E hr ws S Φ Ψ hl hS ha => ?_
  obtain ⟨loc, xs, σ, k, rfl, h, inv, ho, hk, ht, hΦ⟩ := ha
  have hkn := h.vd.op k hk
  have f0 := h.hall
  have c0 := h.ca hkn
  have w0 := h.way hkn
  have n0 := h.chain hkn
  have l0 := h.leads hkn
  obtain ⟨d, b1, b2⟩ : BookAt C_Book S (loc .book) xs := h.bk
  have bk : BookAt C_Book S (loc .book) xs := h.bk
  obtain ⟨i1, i2, i3, i4, i5⟩ := (inv.ca k hk).nt ht
  unfold lateF at hΦ
  cases eg : (σ.ca k).y.group with
  | some g =>
    have el : lateOf xs (σ.ca k) = none := by unfold lateOf; rw [eg]
    rw [el] at hΦ
    dsimp only at hΦ
    have w0' : S[loc (.way k)]? = some (.ins C_Way [("book", .ref (loc .book)), ("caller", .int (σ.ca k).c), ("chain", .ref (loc (.chain k))), ("leads", .ref (loc (.leads k))), ("group", .int g), ("word", .str (σ.ca k).y.word), ("ears", .tup (intsW (σ.ca k).y.ears))]) := by
      rw [w0, wayFs, eg]
      rfl
    clear w0
    specialize "go"
    refine sIte_s (fun e => ?_) (fun e => ?_)
    · rw [if_pos (of_decide_eq_true e)] at hΦ
      specialize "go"
      intro S1 h1 fr1
      specialize "go"
      exact fin.as (hΦ _ h1 fr1)
    · rw [if_neg (of_decide_eq_false e)] at hΦ
      specialize "go"
      exact fin.as (hΦ _ h (Fr.refl _))
  | none =>
    have i6 := (i4 eg).elim id fun z => z.elim
    obtain ⟨q, hq⟩ : ∃ q, (σ.ca k).y.chain.getLast? = some q := by
      cases z : (σ.ca k).y.chain.getLast? with
      | some q => exact ⟨q, rfl⟩
      | none =>
        rw [List.getLast?_eq_none_iff.mp z] at i6
        cases i6
    have el : lateOf xs (σ.ca k) = (lateB xs q).map fun r => (q, r.1, r.2) := by unfold lateOf; rw [eg, hq]
    rw [el] at hΦ
    have w0' : S[loc (.way k)]? = some (.ins C_Way [("book", .ref (loc .book)), ("caller", .int (σ.ca k).c), ("chain", .ref (loc (.chain k))), ("leads", .ref (loc (.leads k))), ("group", .non), ("word", .str (σ.ca k).y.word), ("ears", .tup (intsW (σ.ca k).y.ears))]) := by
      rw [w0, wayFs, eg]
      rfl
    clear w0
    cases eb : lateB xs q with
    | none =>
      rw [eb] at hΦ
      dsimp only [Option.map] at hΦ
      specialize "go"
      refine ⟨_, xs, q, rfl, bk, ?_⟩
      rw [eb]
      specialize "go"
      refine sIte_s (fun e => ?_) (fun e => ?_)
      · rw [if_pos (of_decide_eq_true e)] at hΦ
        specialize "go"
        intro S1 h1 fr1
        specialize "go"
        exact fin.as (hΦ _ h1 fr1)
      · rw [if_neg (of_decide_eq_false e)] at hΦ
        specialize "go"
        exact fin.as (hΦ _ h (Fr.refl _))
    | some r =>
      obtain ⟨t, g⟩ := r
      rw [eb] at hΦ
      dsimp only [Option.map] at hΦ
      specialize "go"
      refine ⟨_, xs, q, rfl, bk, ?_⟩
      rw [eb]
      specialize "go"
      refine sIte_s (fun e => ?_) (fun e => ?_)
      · have e' : t = (σ.ca k).age := Option.some.inj (of_decide_eq_true e)
        rw [if_pos e'] at hΦ
        specialize "go"
        refine ⟨_, xs, q, g, t, rfl, bk, late_get eb, ?_⟩
        specialize "go"
        intro S1 h1 fr1
        have w1 := h1.way hkn
        have l1 := h1.leads hkn
        rw [silF_ca] at w1 l1
        have l1' : S1[loc (.leads k)]? = some (.lst ((σ.ca k).y.leads.map pairW)) := l1
        have hl : ((σ.ca k).y.leads.map pairW).length ≤ 100 := by
          rw [List.length_map]
          have := i3.len
          omega
        specialize "go"
        rw [show (σ.ca k).y.leads.map pairW ++ [W.tup [.int q, .int g]] = ((σ.ca k).y.leads ++ [(q, g)]).map pairW by rw [List.map_append]; rfl]
        have h2 := h1.putLeads hkn (l := (σ.ca k).y.leads ++ [(q, g)])
        rw [silF_ca] at h2
        have L := late_limbo (p := q) (g := g) inv hk ht eg
        obtain ⟨g0, g7⟩ := late_ok ho eb
        have G := L.go ho g0 g7
        have f2 := h2.hall
        specialize "go"
        refine ⟨loc, xs, late0 σ k q g, k, g, rfl, h2, ho, hkn, g0, g7, L.wy, fun e he => ⟨(G.er e he).1, (G.er e he).2.1⟩, Nat.le_trans (phones_len G.nd fun e he => ⟨(G.er e he).1, (G.er e he).2.1⟩) (by decide), ?_⟩
        intro S3 h3 fr3
        specialize "go"
        exact fin.as (hΦ _ h3 ((fr1.set (c := .leads k) hkn).trans fr3))
      · rw [if_neg (fun z => of_decide_eq_false e (by rw [z]; rfl))] at hΦ
        specialize "go"
        refine sIte_s (fun e => ?_) (fun e => ?_)
        · rw [if_pos (of_decide_eq_true e)] at hΦ
          specialize "go"
          intro S1 h1 fr1
          specialize "go"
          exact fin.as (hΦ _ h1 fr1)
        · rw [if_neg (of_decide_eq_false e)] at hΦ
          specialize "go"
          exact fin.as (hΦ _ h (Fr.refl _))
end
local macro_rules | `(tactic| specialize "fun") => `(tactic| ((with_reducible show wE _ _ (Expr.Call (Expr.Attribute _ (Str.ofString "late") _) _ _ _) _ _ _); refine xE_meth (DS.cls_Hall (by assumption)) (cf_late (by assumption) (by assumption)) (Room.mono (by assumption) (by decide)) ?_))
section
local macro_rules | `(tactic| specialize "cmT") => `(tactic| ((with_reducible show wT _ _ (Expr.Compare (Expr.Name (Str.ofString "call") _) [CmpOp.In] [_] _) _ _ _); refine xT_inI (Room.u65 (by assumption)) ?_))
end
end

local macro_rules | `(tactic| specialize "fun") => `(tactic| ((with_reducible show wE _ _ (Expr.Call (Expr.Attribute _ (Str.ofString "goal") _) [Expr.Name (Str.ofString "LATE") _, _] _ _) _ _ _); refine xE_meth (DS.cls_Book (by assumption)) (cf_goalL (by assumption) (by assumption)) (Room.mono (by assumption) (by decide)) ?_))
local macro_rules | `(tactic| specialize "fun") => `(tactic| ((with_reducible show wE _ _ (Expr.Call (Expr.Attribute _ (Str.ofString "late") _) _ _ _) _ _ _); refine xE_meth (DS.cls_Hall (by assumption)) (cf_late (by assumption) (by assumption)) (Room.mono (by assumption) (by decide)) ?_))

-- PH7
section
variable {P : Program} {w : World} {K : PySem.W.Frag} {mg : Str → Option Value} {base : Heap} {C_Book C_Way C_Call C_Phone C_Hall : Addr}
def asp_need_wishesR : ASp := fun ws S Φ _ => ∃ (j : Nat) (xs : List Wish), ws = [.ref j] ∧ S[j]? = some (.lst (xs.map Wish.w)) ∧ xs.length ≤ 24 ∧ (∀ x ∈ xs, x.ok) ∧ (xs.map Wish.key).Nodup ∧ Φ .non S
theorem cf_need_wishesR (G : GL mg) (D : DS K mg C_Book C_Way C_Call C_Phone C_Hall) : CFn P w K mg base "need_wishes" 5 1 asp_need_wishesR := by
  refine D.d_need_wishes.fn sc_need_wishes fun f cdv A outer s H E hr ws S Φ Ψ hl hS ha => ?_
  obtain ⟨j, xs, rfl, hj, h1, h2, h3, h⟩ := ha
  have hj' : ∀ T, (S ++ T)[j]? = some (.lst (xs.map Wish.w)) := fun T => get_app hj
  specialize "go"
  refine wS_for (passes_of rfl) rfl ?_
  specialize "go"
  refine ⟨_, items_of (hj' _), (fun _ z => nomatch z), ?_⟩
  refine ⟨fun i E' S' => i ≤ xs.length ∧ ∃ a b, E' = [some (.ref j), some (.ref S.length), a, b] ∧ S' = S ++ [.dt (knownD (xs.take i))], ⟨Nat.zero_le _, none, none, rfl, rfl⟩, fun i E' S' hI => (by obtain ⟨_, _, _, _, rfl⟩ := hI; exact hj' _), ?_, ?_⟩
  · rintro i w E' S' hw ⟨hi, a, b, rfl, rfl⟩
    obtain ⟨u, hu, rfl⟩ := enum_inv hw
    obtain ⟨x, hx, rfl⟩ := map_inv hu
    have hil : i < xs.length := (List.getElem?_eq_some_iff.mp hx).1
    have hxo := h2 x (List.mem_of_getElem? hx)
    have hkn := key_new h3 hx
    specialize "go"
    refine sIte_f (by rw [known_none hkn, decide_eq_false (by omega)]; rfl) ?_
    specialize "go"
    rw [known_put hkn, ← take_succ hx, set_new0]
    dsimp only
    refine dropTo.as (n := (S ++ [O.dt []]).length) ?_
    exact ⟨hil, _, _, rfl, rfl⟩
  · rintro E' S' ⟨hi, a, b, rfl, rfl⟩
    specialize "go"
    exact fin.drop (Nat.le_refl _) hS .non h
def asp_Book_initR (C : Addr) : ASp := fun ws S Φ _ => ∃ S0 j xs, ws = [.ref S0.length, .ref j] ∧ S = S0 ++ [.ins C []] ∧ S0[j]? = some (.lst (xs.map Wish.w)) ∧ xs.length ≤ 24 ∧ (xs.map Wish.key).Nodup ∧
  Φ .non (S0 ++ [.ins C [("wanted", .ref (S0.length + 1))], .dt (bookD xs)])
theorem cf_Book_initR (G : GL mg) (D : DS K mg C_Book C_Way C_Call C_Phone C_Hall) : CMake P w K mg base "Book" C_Book 2 2 (asp_Book_initR C_Book) := by
  refine D.d_Book_init.fn sc_Book_init fun f cdv A outer s H E hr ws S Φ Ψ hl hS ha => ?_
  obtain ⟨S0, j, xs, rfl, rfl, hj, h1, h3, h⟩ := ha
  have hj' : ∀ T, (S0 ++ T)[j]? = some (.lst (xs.map Wish.w)) := fun T => get_app hj
  specialize "go"
  rw [List.append_assoc]
  specialize "go"
  rw [set_new0]
  refine wS_for (passes_of rfl) rfl ?_
  specialize "go"
  refine ⟨fun i E' S' => i ≤ xs.length ∧ ∃ a, E' = [some (.ref S0.length), some (.ref j), a] ∧ S' = S0 ++ [.ins C_Book [("wanted", .ref (S0.length + 1))], .dt (bookD (xs.take i))], ⟨Nat.zero_le _, none, rfl, by simp [putFW, bookD]⟩, fun i E' S' hI => (by obtain ⟨_, _, _, rfl⟩ := hI; exact hj' _), ?_, ?_⟩
  · rintro i w E' S' hw ⟨hi, a, rfl, rfl⟩
    obtain ⟨x, hx, rfl⟩ := map_inv hw
    have hil : i < xs.length := (List.getElem?_eq_some_iff.mp hx).1
    have hkn := key_new h3 hx
    specialize "go"
    rw [put_book hkn, ← take_succ hx, set_new]
    dsimp only
    refine dropTo.as ?_
    exact ⟨hil, _, rfl, rfl⟩
  · rintro E' S' ⟨hi, a, rfl, rfl⟩
    specialize "go"
    rw [List.length_map, List.take_length]
    exact fin.as h
section
local macro_rules | `(tactic| specialize "fun") => `(tactic| ((with_reducible show wE _ _ (Expr.Call (Expr.Name (Str.ofString "need_wishes") _) _ _ _) _ _ _); refine xE_call (cf_need_wishesR (by assumption) (by assumption)) (Room.mono (by assumption) (by decide)) ?_))
local macro_rules | `(tactic| specialize "fun") => `(tactic| ((with_reducible show wE _ _ (Expr.Call (Expr.Name (Str.ofString "Book") _) _ _ _) _ _ _); refine xE_make (cf_Book_initR (by assumption) (by assumption)) (Room.mono (by assumption) (by decide)) ?_))
local macro_rules | `(tactic| specialize "fun") => `(tactic| ((with_reducible show wE _ _ (Expr.Call (Expr.Name (Str.ofString "Phone") _) [] _ _) _ _ _); refine wE_make0 (cf_Phone_init (by assumption) (by assumption)) (Room.mono (by assumption) (by decide)) ?_))
local macro_rules | `(tactic| specialize "st") => `(tactic| ((with_reducible show wS _ _ (Stmt.Assign [Expr.Attribute _ (Str.ofString "phones") _] _ _) _ _ _); refine stop_i ?_))
local macro_rules | `(tactic| specialize "st") => `(tactic| ((with_reducible show wS _ _ (Stmt.Assign [Expr.Attribute _ (Str.ofString "calls") _] (Expr.List _ _) _) _ _ _); refine xS_fld ?_; refine xE_lstN ?_))
abbrev phO (C : Addr) : O := .ins C [("is_up", .bl false), ("now", .non), ("kept", .non), ("bell", .non), ("tone", .str "quiet")]
end
end

end
section
local macro_rules | `(tactic| specialize "fun") => `(tactic| ((with_reducible show wE _ _ (Expr.Call (Expr.Name (Str.ofString "need_wishes") _) _ _ _) _ _ _); refine xE_call (cf_need_wishes (by assumption) (by assumption)) (Room.mono (by assumption) (by decide)) ?_))
local macro_rules | `(tactic| specialize "s3") => `(tactic| ((with_reducible show asp_need_wishes _ _ _ _); refine ⟨_, rfl, (by assumption), (by assumption), (by assumption), ?_⟩))
local macro_rules | `(tactic| specialize "fun") => `(tactic| ((with_reducible show wE _ _ (Expr.Call (Expr.Name (Str.ofString "need_phone") _) _ _ _) _ _ _); refine xE_call (cf_need_phone (by assumption) (by assumption)) (Room.mono (by assumption) (by decide)) ?_))
local macro_rules | `(tactic| specialize "s3") => `(tactic| ((with_reducible show asp_need_phone _ _ _ _); refine ⟨_, rfl, (by assumption), (by assumption), ?_⟩))
local macro_rules | `(tactic| specialize "fun") => `(tactic| ((with_reducible show wE _ _ (Expr.Call (Expr.Name (Str.ofString "need_number") _) _ _ _) _ _ _); refine xE_call (cf_need_number (by assumption) (by assumption)) (Room.mono (by assumption) (by decide)) ?_))
local macro_rules | `(tactic| specialize "s3") => `(tactic| ((with_reducible show asp_need_number _ _ _ _); refine ⟨_, rfl, (by assumption), (by assumption), ?_⟩))

local macro_rules | `(tactic| specialize "fun") => `(tactic| ((with_reducible show wE _ _ (Expr.Call (Expr.Name (Str.ofString "Book") _) _ _ _) _ _ _); refine xE_make (cf_Book_init (by assumption) (by assumption)) (Room.mono (by assumption) (by decide)) ?_))
local macro_rules | `(tactic| specialize "s3") => `(tactic| ((with_reducible show asp_Book_init _ _ _ _ _); refine ⟨_, _, rfl, rfl, (by assumption), (by assumption), ⟨rfl, ?_⟩⟩))
local macro_rules | `(tactic| specialize "fun") => `(tactic| ((with_reducible show wE _ _ (Expr.Call (Expr.Attribute _ (Str.ofString "has") _) _ _ _) _ _ _); refine xE_meth (DS.cls_Book (by assumption)) (cf_has (by assumption) (by assumption)) (Room.mono (by assumption) (by decide)) ?_))
local macro_rules | `(tactic| specialize "s3") => `(tactic| ((with_reducible show asp_has _ _ _ _ _); refine ⟨_, _, _, _, rfl, (by specialize "bk"), ?_⟩))
local macro_rules | `(tactic| specialize "bk") => `(tactic| first | assumption | exact ⟨_, (by specialize "nth"), (by specialize "nth")⟩)
local macro_rules | `(tactic| specialize "fun") => `(tactic| ((with_reducible show wE _ _ (Expr.Call (Expr.Attribute _ (Str.ofString "bars") _) _ _ _) _ _ _); refine xE_meth (DS.cls_Book (by assumption)) (cf_bars (by assumption) (by assumption)) (Room.mono (by assumption) (by decide)) ?_))
local macro_rules | `(tactic| specialize "s3") => `(tactic| ((with_reducible show asp_bars _ _ _ _ _); refine ⟨_, _, _, _, rfl, (by specialize "bk"), ?_⟩))
local macro_rules | `(tactic| specialize "fun") => `(tactic| ((with_reducible show wE _ _ (Expr.Call (Expr.Attribute _ (Str.ofString "goal") _) _ _ _) _ _ _); refine xE_meth (DS.cls_Book (by assumption)) (cf_goal (by assumption) (by assumption)) (Room.mono (by assumption) (by decide)) ?_))
local macro_rules | `(tactic| specialize "fun") => `(tactic| ((with_reducible show wE _ _ (Expr.Call (Expr.Attribute _ (Str.ofString "members") _) _ _ _) _ _ _); refine xE_meth (DS.cls_Book (by assumption)) (cf_members (by assumption) (by assumption)) (Room.mono (by assumption) (by decide)) ?_))
local macro_rules | `(tactic| specialize "s3") => `(tactic| ((with_reducible show asp_members _ _ _ _ _); refine ⟨_, _, _, rfl, (by specialize "bk"), ?_⟩))

local macro_rules | `(tactic| specialize "fun") => `(tactic| ((with_reducible show wE _ _ (Expr.Call (Expr.Name (Str.ofString "rings_at") _) _ _ _) _ _ _); refine xE_call (cf_rings_at (by assumption) (by assumption)) (Room.mono (by assumption) (by decide)) ?_))
local macro_rules | `(tactic| specialize "s3") => `(tactic| ((with_reducible show asp_rings_at _ _ _ _ _); refine ⟨_, _, _, _, _, _, rfl, (by first | assumption | exact fun _ => rfl), (by specialize "bk"), (by assumption), (by assumption), ?_⟩))
local macro_rules | `(tactic| specialize "fun") => `(tactic| ((with_reducible show wE _ _ (Expr.Call (Expr.Name (Str.ofString "next_of") _) _ _ _) _ _ _); refine xE_call (cf_next_of (by assumption) (by assumption)) (Room.mono (by assumption) (by decide)) ?_))
local macro_rules | `(tactic| specialize "s3") => `(tactic| ((with_reducible show asp_next_of _ _ _ _ _); refine ⟨_, _, _, _, _, _, _, rfl, (by first | assumption | exact fun _ => rfl), (by specialize "bk"), (by first | assumption | omega), (by first | assumption | omega), (by assumption), (by assumption), _, (by first | assumption | rfl), ?_⟩))

local macro_rules | `(tactic| specialize "fun") => `(tactic| ((with_reducible show wE _ _ (Expr.Call (Expr.Name (Str.ofString "Way") _) _ _ _) _ _ _); refine xE_make (cf_Way_init (by assumption) (by assumption)) (Room.mono (by assumption) (by decide)) ?_))
local macro_rules | `(tactic| specialize "s3") => `(tactic| ((with_reducible show asp_Way_init _ _ _ _ _); refine ⟨_, _, _, rfl, rfl, ⟨rfl, ?_⟩⟩))
local macro_rules | `(tactic| specialize "fun") => `(tactic| ((with_reducible show wE _ _ (Expr.Call (Expr.Attribute _ (Str.ofString "step") _) _ _ _) _ _ _); refine xE_meth (DS.cls_Way (by assumption)) (cf_Way_step (by assumption) (by assumption)) (Room.mono (by assumption) (by decide)) ?_))
local macro_rules | `(tactic| specialize "s3") => `(tactic| ((with_reducible show asp_Way_step _ _ _ _ _ _); refine ⟨_, _, _, _, _, _, _, _, _, _, _, rfl, (by first | assumption | exact fun _ => rfl), (by assumption), (by assumption), (by assumption), (by first | assumption | omega), (by first | assumption | omega), (by assumption), (by assumption), (by assumption), (by assumption), ?_⟩))
local macro_rules | `(tactic| specialize "fun") => `(tactic| ((with_reducible show wE _ _ (Expr.Call (Expr.Attribute _ (Str.ofString "go") _) _ _ _) _ _ _); refine xE_meth (DS.cls_Way (by assumption)) (cf_Way_go (by assumption) (by assumption)) (Room.mono (by assumption) (by decide)) ?_))

-- PH8
section
variable {P : Program} {w : World} {K : PySem.W.Frag} {mg : Str → Option Value} {base : Heap} {C_Book C_Way C_Call C_Phone C_Hall : Addr}
def asp_Hall_initL (C : Cs) : ASp := fun ws S Φ _ => ∃ S0 xs, ws = [.ref S0.length, .lst (xs.map Wish.w)] ∧ S = S0 ++ [.ins C.CH []] ∧ xs.length ≤ 24 ∧ (∀ x ∈ xs, x.ok) ∧ (xs.map Wish.key).Nodup ∧ Φ .non (S0 ++ iniO C S0.length xs)
section
local macro_rules | `(tactic| specialize "fun") => `(tactic| ((with_reducible show wE _ _ (Expr.Call (Expr.Name (Str.ofString "need_wishes") _) _ _ _) _ _ _); refine xE_call (cf_need_wishes (by assumption) (by assumption)) (Room.mono (by assumption) (by decide)) ?_))
local macro_rules | `(tactic| specialize "fun") => `(tactic| ((with_reducible show wE _ _ (Expr.Call (Expr.Name (Str.ofString "Book") _) _ _ _) _ _ _); refine xE_make (cf_Book_init (by assumption) (by assumption)) (Room.mono (by assumption) (by decide)) ?_))
local macro_rules | `(tactic| specialize "fun") => `(tactic| ((with_reducible show wE _ _ (Expr.Call (Expr.Name (Str.ofString "Phone") _) [] _ _) _ _ _); refine wE_make0 (cf_Phone_init (by assumption) (by assumption)) (Room.mono (by assumption) (by decide)) ?_))
local macro_rules | `(tactic| specialize "st") => `(tactic| ((with_reducible show wS _ _ (Stmt.Assign [Expr.Attribute _ (Str.ofString "phones") _] _ _) _ _ _); refine stop_i ?_))
local macro_rules | `(tactic| specialize "st") => `(tactic| ((with_reducible show wS _ _ (Stmt.Assign [Expr.Attribute _ (Str.ofString "calls") _] (Expr.List _ _) _) _ _ _); refine xS_fld ?_; refine xE_lstN ?_))
theorem cf_Hall_initL (G : GL mg) (D : DS K mg C_Book C_Way C_Call C_Phone C_Hall) : CMake P w K mg base "Hall" C_Hall 6 2 (asp_Hall_initL (Cs.mk C_Book C_Way C_Call C_Phone C_Hall)) := by
  refine D.d_Hall_init.fn sc_Hall_init fun f cdv A outer s H E hr ws S Φ Ψ hl hS ha => ?_
  obtain ⟨S0, xs, rfl, rfl, h1, ho, h3, h⟩ := ha
  specialize "go"
  unfold Stop
  have n1 : ∀ o o2 a d : O, (S0 ++ [o] ++ [a, d]).set S0.length o2 = S0 ++ [o2, a, d] := fun o o2 a d => by rw [List.append_assoc]; exact set_new0
  have n2 : ∀ o : O, (S0 ++ [o]).length = S0.length + 1 := fun o => by simp
  rw [n1, n2]
  refine xS_fld ?_
  refine wE_lcF 2 .no rfl (of_decide_eq_true (by kernel_rfl)) (blkOk_by (by kernel_rfl)) ?_
  specialize "go"
  refine ⟨fun i acc S' => i ≤ 6 ∧ acc = ((List.range i).map fun k : Nat => W.ref (S0.length + 3 + k)) ∧ S' = S0 ++ ([.ins C_Hall [("book", .ref (S0.length + 1))], .ins C_Book [("wanted", .ref (S0.length + 2))], .dt (bookD xs)] ++ List.replicate i (phO C_Phone)), ⟨by decide, rfl, rfl⟩, ?_, ?_, ?_⟩
  · rintro i acc S' ⟨hi, rfl, rfl⟩
    refine ⟨trivial, ?_⟩
    rw [List.length_map, List.length_range]
    omega
  · rintro i w acc S' hw ⟨hi, rfl, rfl⟩
    obtain ⟨x, hx, rfl⟩ := map_inv hw
    obtain ⟨hx1, hx2⟩ := List.getElem?_eq_some_iff.mp hx
    have hi6 : i < 6 := by rw [List.length_range] at hx1; exact hx1
    intro s1 H0 C cl fp
    specialize "go"
    refine ⟨_, rfl, rfl, fun loc => ⟨rfl, ?_⟩⟩
    specialize "go"
    refine ⟨hi6, ?_, ?_⟩
    · rw [List.range_succ, List.map_append]
      congr 2
      simp
      omega
    · rw [List.append_assoc, List.append_assoc, List.replicate_succ']
      rfl
  · rintro acc S' ⟨hi, rfl, rfl⟩
    specialize "go"
    have e6 : (rangeW 0 (Int.toNat 6)).length = 6 := rfl
    have q1 : ∀ (o o2 : O) (T : Sto), (S0 ++ (o :: T)).set S0.length o2 = S0 ++ o2 :: T := fun o o2 T => by simp
    refine fin.eqS h ?_
    rw [e6]
    have q2 : ∀ (o o2 a d : O) (R : Sto), (S0 ++ ([o, a, d] ++ R)).set S0.length o2 = S0 ++ ([o2, a, d] ++ R) := fun o o2 a d R => q1 _ _ _
    rw [q2]
    have q3 : ∀ (o a d l : O), (S0 ++ ([o, a, d] ++ List.replicate 6 (phO C_Phone)) ++ [l]) = S0 ++ ([o, a, d] ++ (List.replicate 6 (phO C_Phone) ++ [l])) := fun o a d l => by simp
    rw [q3, q2]
    have q4 : ∀ (o a d : O), (S0 ++ ([o, a, d] ++ List.replicate 6 (phO C_Phone))).length = S0.length + 9 := fun o a d => by simp
    rw [q4]
    kernel_rfl
end
end

end
section
-- ZE_k01
section
variable {P : Program} {w : World} {K : PySem.W.Frag} {mg : Str → Option Value} {base : Heap} {C_Book C_Way C_Call C_Phone C_Hall C_PE C_BW C_BP C_BN C_BS C_NN C_BD C_BT : Addr}
def hBody : List Stmt → List Stmt
  | .Try _ [.ExceptHandler _ _ b _] _ _ _ :: _ => b
  | _ => []
theorem OexC.icn {K : PySem.W.Frag} {C : Addr} (h : OexC K C) : (PySem.W.clsIn K C).isSome = true := by
  obtain ⟨_, _, _, _, _, _, _, _, _, _, _, _, _, _, _, e, _⟩ := h.cls
  unfold PySem.W.clsIn
  rw [e]
  rfl
/-- what the class D is among the errors -/
structure E1 (K : PySem.W.Frag) (D C_PE C_BW C_BP C_BN C_BS C_NN C_BD C_BT : Addr) (b0 b1 b2 b3 b4 b5 b6 : Bool) : Prop where
  exc : L2.ExcC K D
  em : PySem.W.exmOne K (.ref D) (.ref C_PE) = some true
  k0 : PySem.W.kitOne K (.ref D) (.ref C_BW) = some b0
  k1 : PySem.W.kitOne K (.ref D) (.ref C_BP) = some b1
  k2 : PySem.W.kitOne K (.ref D) (.ref C_BN) = some b2
  k3 : PySem.W.kitOne K (.ref D) (.ref C_BS) = some b3
  k4 : PySem.W.kitOne K (.ref D) (.ref C_NN) = some b4
  k5 : PySem.W.kitOne K (.ref D) (.ref C_BD) = some b5
  k6 : PySem.W.kitOne K (.ref D) (.ref C_BT) = some b6
  kv : PySem.W.kitOne K (.ref D) (.type "ValueError") = some true
structure EE (K : PySem.W.Frag) (mg : Str → Option Value) (C_PE C_BW C_BP C_BN C_BS C_NN C_BD C_BT : Addr) : Prop where
  pe : mg "PhoneError" = some (.ref C_PE)
  g_BW : mg "BadWish" = some (.ref C_BW)
  g_BP : mg "BadPhone" = some (.ref C_BP)
  g_BN : mg "BadNumber" = some (.ref C_BN)
  g_BS : mg "BadState" = some (.ref C_BS)
  g_NN : mg "NotNow" = some (.ref C_NN)
  g_BD : mg "BadDeed" = some (.ref C_BD)
  g_BT : mg "BadText" = some (.ref C_BT)
  ve : mg "ValueError" = none
  pga : PySem.W.specialIn K (.ref C_PE) "__getattribute__" = some (some (.builtin "type.__getattribute__"))
  prd : PySem.W.readsIn K C_PE (.type "type") = true
  pvv : PySem.W.findCls K (.ref C_PE) (.type "type") "__init__" = some (.val (.builtin "ValueError.__init__"))
  e_BW : E1 K C_BW C_PE C_BW C_BP C_BN C_BS C_NN C_BD C_BT true false false false false false false
  o_BW : OexC K C_BW
  i_BW : RawMeth K C_BW "__init__" "BadWish.__init__" s_BadWish_init
  n_BW : PySem.W.findIn K (.ref C_BW) "number" = some none
  e_BP : E1 K C_BP C_PE C_BW C_BP C_BN C_BS C_NN C_BD C_BT false true false false false false false
  x_BP : ExK K mg "BadPhone" C_BP
  e_BD : E1 K C_BD C_PE C_BW C_BP C_BN C_BS C_NN C_BD C_BT false false false false false true false
  o_BD : OexC K C_BD
  i_BD : RawMeth K C_BD "__init__" "BadDeed.__init__" s_BadDeed_init
  n_BD : PySem.W.findIn K (.ref C_BD) "number" = some none
theorem EE.x_BW (N : EE K mg C_PE C_BW C_BP C_BN C_BS C_NN C_BD C_BT) : ExN K P w mg base "BadWish" "number" C_BW := by
  obtain ⟨f, od, an, sl, oc, kV, dc, pm, cd, ct, h1, h2, h3, h4, h5⟩ := N.i_BW
  refine ⟨N.g_BW, N.o_BW, f, _, h1, beq_iff_eq.mp h5, oex_init (fun_mk h2 h3 h4) sc_BadWish_init rfl (fun _ => ⟨_, rfl⟩) (by decide +kernel) rfl N.pe N.pga N.prd N.pvv N.o_BW N.n_BW rfl rfl (by decide +kernel) (by decide +kernel) (by decide +kernel), .all fun us hl => ?_⟩
  match us, hl with
  | [_, _], _ => rfl
theorem EE.f_BW (N : EE K mg C_PE C_BW C_BP C_BN C_BS C_NN C_BD C_BT) : XfC K C_BW := ⟨N.e_BW.exc.hg, N.e_BW.exc.hk, N.e_BW.exc.hs, N.e_BW.exc.hd⟩
theorem EE.x_BD (N : EE K mg C_PE C_BW C_BP C_BN C_BS C_NN C_BD C_BT) : ExN K P w mg base "BadDeed" "number" C_BD := by
  obtain ⟨f, od, an, sl, oc, kV, dc, pm, cd, ct, h1, h2, h3, h4, h5⟩ := N.i_BD
  refine ⟨N.g_BD, N.o_BD, f, _, h1, beq_iff_eq.mp h5, oex_init (fun_mk h2 h3 h4) sc_BadDeed_init rfl (fun _ => ⟨_, rfl⟩) (by decide +kernel) rfl N.pe N.pga N.prd N.pvv N.o_BD N.n_BD rfl rfl (by decide +kernel) (by decide +kernel) (by decide +kernel), .all fun us hl => ?_⟩
  match us, hl with
  | [_, _], _ => rfl
theorem EE.f_BD (N : EE K mg C_PE C_BW C_BP C_BN C_BS C_NN C_BD C_BT) : XfC K C_BD := ⟨N.e_BD.exc.hg, N.e_BD.exc.hk, N.e_BD.exc.hs, N.e_BD.exc.hd⟩
section
local macro_rules | `(tactic| specialize "glob") => `(tactic| first
  | ((with_reducible show wE _ _ (Expr.Name (Str.ofString "BadWish") _) _ _ _); refine xE_cls (EE.g_BW (by assumption)) ?_)
  | ((with_reducible show wE _ _ (Expr.Name (Str.ofString "BadPhone") _) _ _ _); refine xE_cls (EE.g_BP (by assumption)) ?_)
  | ((with_reducible show wE _ _ (Expr.Name (Str.ofString "BadNumber") _) _ _ _); refine xE_cls (EE.g_BN (by assumption)) ?_)
  | ((with_reducible show wE _ _ (Expr.Name (Str.ofString "BadState") _) _ _ _); refine xE_cls (EE.g_BS (by assumption)) ?_)
  | ((with_reducible show wE _ _ (Expr.Name (Str.ofString "NotNow") _) _ _ _); refine xE_cls (EE.g_NN (by assumption)) ?_)
  | ((with_reducible show wE _ _ (Expr.Name (Str.ofString "BadDeed") _) _ _ _); refine xE_cls (EE.g_BD (by assumption)) ?_)
  | ((with_reducible show wE _ _ (Expr.Name (Str.ofString "BadText") _) _ _ _); refine xE_cls (EE.g_BT (by assumption)) ?_)
  | ((with_reducible show wE _ _ (Expr.Name (Str.ofString "ValueError") _) _ _ _); refine wE_bltn (EE.ve (by assumption)) L2.boot_ValueError (v := .ty "ValueError") rfl ?_))
local macro_rules | `(tactic| specialize "s3") => `(tactic| ((with_reducible show _ = _ ∧ _ = _ ∧ _); refine ⟨rfl, rfl, ?_⟩))
local macro_rules | `(tactic| specialize "s3") => `(tactic| ((with_reducible show (∃ _ _, _ = W.xi _ _ _ _) ∧ _ = _ ∧ _); refine ⟨⟨_, _, rfl⟩, rfl, ?_⟩))
local macro_rules | `(tactic| specialize "s3") => `(tactic| ((with_reducible show ∃ _, _ = W.xi _ _ _ _ ∧ _); refine ⟨_, rfl, ?_⟩))
local macro_rules | `(tactic| specialize "plus") => `(tactic| refine xE_cat ?_)
local macro_rules | `(tactic| specialize "ex") => `(tactic| ((with_reducible show wE _ _ (Expr.Call (Expr.Attribute _ (Str.ofString "count") _) _ _ _) _ _ _); refine xE_countB ?_))
local macro_rules | `(tactic| specialize "ex") => `(tactic| ((with_reducible show wE _ _ (Expr.Call (Expr.Attribute _ (Str.ofString "index") _) _ _ _) _ _ _); refine xE_indexB ?_))
local macro_rules | `(tactic| specialize "s3") => `(tactic| ((with_reducible show (∃ _, _ = W.lst _) ∧ _); refine ⟨⟨_, rfl⟩, ?_⟩))
local macro_rules | `(tactic| specialize "cmT") => `(tactic| first
  | ((with_reducible show wT _ _ (Expr.Compare _ [CmpOp.NotEq] _ _) _ _ _); refine xT_ne (by assumption) ?_)
  | ((with_reducible show wT _ _ (Expr.Compare _ [CmpOp.Eq] _ _) _ _ _); refine xT_eq (by assumption) ?_)
  | ((with_reducible show wT _ _ (Expr.Compare _ [CmpOp.In] _ _) _ _ _); refine xT_in (by assumption) ?_))
section
local macro_rules | `(tactic| specialize "fun") => `(tactic| first
  | ((with_reducible show wE _ _ (Expr.Call (Expr.Name (Str.ofString "isinstance") _) [_, Expr.Name (Str.ofString "BadWish") _] [] _) _ _ _); refine wE_isX (E1.exc (by assumption)) (OexC.icn (EE.o_BW (by assumption))) (by assumption) (by assumption) (GL.b_isinstance (by assumption)) (E1.k0 (by assumption)) ?_)
  | ((with_reducible show wE _ _ (Expr.Call (Expr.Name (Str.ofString "isinstance") _) [_, Expr.Name (Str.ofString "BadPhone") _] [] _) _ _ _); refine wE_isX (E1.exc (by assumption)) (OexC.icn (EE.o_BW (by assumption))) (by assumption) (by assumption) (GL.b_isinstance (by assumption)) (E1.k1 (by assumption)) ?_)
  | ((with_reducible show wE _ _ (Expr.Call (Expr.Name (Str.ofString "isinstance") _) [_, Expr.Name (Str.ofString "BadNumber") _] [] _) _ _ _); refine wE_isX (E1.exc (by assumption)) (OexC.icn (EE.o_BW (by assumption))) (by assumption) (by assumption) (GL.b_isinstance (by assumption)) (E1.k2 (by assumption)) ?_)
  | ((with_reducible show wE _ _ (Expr.Call (Expr.Name (Str.ofString "isinstance") _) [_, Expr.Name (Str.ofString "BadState") _] [] _) _ _ _); refine wE_isX (E1.exc (by assumption)) (OexC.icn (EE.o_BW (by assumption))) (by assumption) (by assumption) (GL.b_isinstance (by assumption)) (E1.k3 (by assumption)) ?_)
  | ((with_reducible show wE _ _ (Expr.Call (Expr.Name (Str.ofString "isinstance") _) [_, Expr.Name (Str.ofString "NotNow") _] [] _) _ _ _); refine wE_isX (E1.exc (by assumption)) (OexC.icn (EE.o_BW (by assumption))) (by assumption) (by assumption) (GL.b_isinstance (by assumption)) (E1.k4 (by assumption)) ?_)
  | ((with_reducible show wE _ _ (Expr.Call (Expr.Name (Str.ofString "isinstance") _) [_, Expr.Name (Str.ofString "BadDeed") _] [] _) _ _ _); refine wE_isX (E1.exc (by assumption)) (OexC.icn (EE.o_BW (by assumption))) (by assumption) (by assumption) (GL.b_isinstance (by assumption)) (E1.k5 (by assumption)) ?_)
  | ((with_reducible show wE _ _ (Expr.Call (Expr.Name (Str.ofString "isinstance") _) [_, Expr.Name (Str.ofString "BadText") _] [] _) _ _ _); refine wE_isX (E1.exc (by assumption)) (OexC.icn (EE.o_BW (by assumption))) (by assumption) (by assumption) (GL.b_isinstance (by assumption)) (E1.k6 (by assumption)) ?_)
  | ((with_reducible show wE _ _ (Expr.Call (Expr.Name (Str.ofString "isinstance") _) [_, Expr.Name (Str.ofString "ValueError") _] [] _) _ _ _); refine wE_isXB (E1.exc (by assumption)) (OexC.icn (EE.o_BW (by assumption))) (by assumption) (by assumption) (GL.b_isinstance (by assumption)) (E1.kv (by assumption)) ?_))
local macro_rules | `(tactic| specialize "s3") => `(tactic| ((with_reducible show sCntB _ _ _ _); refine ⟨[true, false, false, false, false, false, false], true, rfl, rfl, ?_⟩))
local macro_rules | `(tactic| specialize "s3") => `(tactic| ((with_reducible show sIdxB _ _ _ _); refine ⟨[true, false, false, false, false, false, false], 0, true, rfl, rfl, rfl, (by decide), ?_⟩))
local macro_rules | `(tactic| specialize "ex") => `(tactic| ((with_reducible show wE _ _ (Expr.Attribute _ (Str.ofString "number") _) _ _ _); refine wE_exf (EE.f_BW (by assumption)) (EE.n_BW (by assumption)) (by assumption) (by assumption) rfl rfl ?_))
theorem word_BW {X : Cx} (G : GL X.mg) (N : EE X.K X.mg C_PE C_BW C_BP C_BN C_BS C_NN C_BD C_BT) {g aE d : Addr} {cdv : Value} {s1 : Shared} {H1 : Hp} {oe : Obj} {pn : List (Addr × Obj)} {k : Nat} {i : Int} (hr : Room (k + 1) (X.A.deeper (envOfC "_law_word" (defScope s_law_word) s1.heap.objs.size g cdv)))
    (hz : Zc (.ref C_BW) (some d) oe) (hf : ∃ vs, oe.data = .fields vs) {S : Sto} {Φ : W → Sto → Prop} (h : Φ (.tup [.str "wish", .int i]) S) :
    wB ((zCx X ["_law_work", "_law_e", "_law_kinds", "_law_word_here"] "_law_word" s_law_word g cdv s1 H1).suite aE ((aE, oe) :: pn)) nox (hBody (defBody s_law_word)) ((List.replicate 4 none).set 1 (some (.xi aE d "number" i))) S ⟨fun _ _ => False, Φ, fun _ _ => False, fun _ _ => False⟩ := by
  have e1 := N.e_BW
  have hu : ((zCx X ["_law_work", "_law_e", "_law_kinds", "_law_word_here"] "_law_word" s_law_word g cdv s1 H1).suite aE ((aE, oe) :: pn)).A.units + 65 < cLine := by
    have h0 := Room.u65 hr
    exact h0
  specialize "go"
  exact h
end
section
local macro_rules | `(tactic| specialize "fun") => `(tactic| first
  | ((with_reducible show wE _ _ (Expr.Call (Expr.Name (Str.ofString "isinstance") _) [_, Expr.Name (Str.ofString "BadWish") _] [] _) _ _ _); refine wE_isE (E1.exc (by assumption)) (by assumption) (by assumption) (GL.b_isinstance (by assumption)) (E1.k0 (by assumption)) ?_)
  | ((with_reducible show wE _ _ (Expr.Call (Expr.Name (Str.ofString "isinstance") _) [_, Expr.Name (Str.ofString "BadPhone") _] [] _) _ _ _); refine wE_isE (E1.exc (by assumption)) (by assumption) (by assumption) (GL.b_isinstance (by assumption)) (E1.k1 (by assumption)) ?_)
  | ((with_reducible show wE _ _ (Expr.Call (Expr.Name (Str.ofString "isinstance") _) [_, Expr.Name (Str.ofString "BadNumber") _] [] _) _ _ _); refine wE_isE (E1.exc (by assumption)) (by assumption) (by assumption) (GL.b_isinstance (by assumption)) (E1.k2 (by assumption)) ?_)
  | ((with_reducible show wE _ _ (Expr.Call (Expr.Name (Str.ofString "isinstance") _) [_, Expr.Name (Str.ofString "BadState") _] [] _) _ _ _); refine wE_isE (E1.exc (by assumption)) (by assumption) (by assumption) (GL.b_isinstance (by assumption)) (E1.k3 (by assumption)) ?_)
  | ((with_reducible show wE _ _ (Expr.Call (Expr.Name (Str.ofString "isinstance") _) [_, Expr.Name (Str.ofString "NotNow") _] [] _) _ _ _); refine wE_isE (E1.exc (by assumption)) (by assumption) (by assumption) (GL.b_isinstance (by assumption)) (E1.k4 (by assumption)) ?_)
  | ((with_reducible show wE _ _ (Expr.Call (Expr.Name (Str.ofString "isinstance") _) [_, Expr.Name (Str.ofString "BadDeed") _] [] _) _ _ _); refine wE_isE (E1.exc (by assumption)) (by assumption) (by assumption) (GL.b_isinstance (by assumption)) (E1.k5 (by assumption)) ?_)
  | ((with_reducible show wE _ _ (Expr.Call (Expr.Name (Str.ofString "isinstance") _) [_, Expr.Name (Str.ofString "BadText") _] [] _) _ _ _); refine wE_isE (E1.exc (by assumption)) (by assumption) (by assumption) (GL.b_isinstance (by assumption)) (E1.k6 (by assumption)) ?_)
  | ((with_reducible show wE _ _ (Expr.Call (Expr.Name (Str.ofString "isinstance") _) [_, Expr.Name (Str.ofString "ValueError") _] [] _) _ _ _); refine wE_isEB (E1.exc (by assumption)) (by assumption) (by assumption) (GL.b_isinstance (by assumption)) (E1.kv (by assumption)) ?_))
local macro_rules | `(tactic| specialize "s3") => `(tactic| ((with_reducible show sCntB _ _ _ _); refine ⟨[false, true, false, false, false, false, false], true, rfl, rfl, ?_⟩))
local macro_rules | `(tactic| specialize "s3") => `(tactic| ((with_reducible show sIdxB _ _ _ _); refine ⟨[false, true, false, false, false, false, false], 1, true, rfl, rfl, rfl, (by decide), ?_⟩))
theorem word_BP {X : Cx} (G : GL X.mg) (N : EE X.K X.mg C_PE C_BW C_BP C_BN C_BS C_NN C_BD C_BT) {g aE d : Addr} {cdv : Value} {s1 : Shared} {H1 : Hp} {oe : Obj} {pn : List (Addr × Obj)} {k : Nat} {i : Int} (hr : Room (k + 1) (X.A.deeper (envOfC "_law_word" (defScope s_law_word) s1.heap.objs.size g cdv)))
    (hz : Zc (.ref C_BP) none oe) (hf : ∃ vs, oe.data = .fields vs) {S : Sto} {Φ : W → Sto → Prop} (h : Φ (.str "phone") S) :
    wB ((zCx X ["_law_work", "_law_e", "_law_kinds", "_law_word_here"] "_law_word" s_law_word g cdv s1 H1).suite aE ((aE, oe) :: pn)) nox (hBody (defBody s_law_word)) ((List.replicate 4 none).set 1 (some (.raw (.ref aE)))) S ⟨fun _ _ => False, Φ, fun _ _ => False, fun _ _ => False⟩ := by
  have e1 := N.e_BP
  have hu : ((zCx X ["_law_work", "_law_e", "_law_kinds", "_law_word_here"] "_law_word" s_law_word g cdv s1 H1).suite aE ((aE, oe) :: pn)).A.units + 65 < cLine := by
    have h0 := Room.u65 hr
    exact h0
  specialize "go"
  exact h
end
section
local macro_rules | `(tactic| specialize "fun") => `(tactic| first
  | ((with_reducible show wE _ _ (Expr.Call (Expr.Name (Str.ofString "isinstance") _) [_, Expr.Name (Str.ofString "BadWish") _] [] _) _ _ _); refine wE_isX (E1.exc (by assumption)) (OexC.icn (EE.o_BD (by assumption))) (by assumption) (by assumption) (GL.b_isinstance (by assumption)) (E1.k0 (by assumption)) ?_)
  | ((with_reducible show wE _ _ (Expr.Call (Expr.Name (Str.ofString "isinstance") _) [_, Expr.Name (Str.ofString "BadPhone") _] [] _) _ _ _); refine wE_isX (E1.exc (by assumption)) (OexC.icn (EE.o_BD (by assumption))) (by assumption) (by assumption) (GL.b_isinstance (by assumption)) (E1.k1 (by assumption)) ?_)
  | ((with_reducible show wE _ _ (Expr.Call (Expr.Name (Str.ofString "isinstance") _) [_, Expr.Name (Str.ofString "BadNumber") _] [] _) _ _ _); refine wE_isX (E1.exc (by assumption)) (OexC.icn (EE.o_BD (by assumption))) (by assumption) (by assumption) (GL.b_isinstance (by assumption)) (E1.k2 (by assumption)) ?_)
  | ((with_reducible show wE _ _ (Expr.Call (Expr.Name (Str.ofString "isinstance") _) [_, Expr.Name (Str.ofString "BadState") _] [] _) _ _ _); refine wE_isX (E1.exc (by assumption)) (OexC.icn (EE.o_BD (by assumption))) (by assumption) (by assumption) (GL.b_isinstance (by assumption)) (E1.k3 (by assumption)) ?_)
  | ((with_reducible show wE _ _ (Expr.Call (Expr.Name (Str.ofString "isinstance") _) [_, Expr.Name (Str.ofString "NotNow") _] [] _) _ _ _); refine wE_isX (E1.exc (by assumption)) (OexC.icn (EE.o_BD (by assumption))) (by assumption) (by assumption) (GL.b_isinstance (by assumption)) (E1.k4 (by assumption)) ?_)
  | ((with_reducible show wE _ _ (Expr.Call (Expr.Name (Str.ofString "isinstance") _) [_, Expr.Name (Str.ofString "BadDeed") _] [] _) _ _ _); refine wE_isX (E1.exc (by assumption)) (OexC.icn (EE.o_BD (by assumption))) (by assumption) (by assumption) (GL.b_isinstance (by assumption)) (E1.k5 (by assumption)) ?_)
  | ((with_reducible show wE _ _ (Expr.Call (Expr.Name (Str.ofString "isinstance") _) [_, Expr.Name (Str.ofString "BadText") _] [] _) _ _ _); refine wE_isX (E1.exc (by assumption)) (OexC.icn (EE.o_BD (by assumption))) (by assumption) (by assumption) (GL.b_isinstance (by assumption)) (E1.k6 (by assumption)) ?_)
  | ((with_reducible show wE _ _ (Expr.Call (Expr.Name (Str.ofString "isinstance") _) [_, Expr.Name (Str.ofString "ValueError") _] [] _) _ _ _); refine wE_isXB (E1.exc (by assumption)) (OexC.icn (EE.o_BD (by assumption))) (by assumption) (by assumption) (GL.b_isinstance (by assumption)) (E1.kv (by assumption)) ?_))
local macro_rules | `(tactic| specialize "s3") => `(tactic| ((with_reducible show sCntB _ _ _ _); refine ⟨[false, false, false, false, false, true, false], true, rfl, rfl, ?_⟩))
local macro_rules | `(tactic| specialize "s3") => `(tactic| ((with_reducible show sIdxB _ _ _ _); refine ⟨[false, false, false, false, false, true, false], 5, true, rfl, rfl, rfl, (by decide), ?_⟩))
local macro_rules | `(tactic| specialize "ex") => `(tactic| ((with_reducible show wE _ _ (Expr.Attribute _ (Str.ofString "number") _) _ _ _); refine wE_exf (EE.f_BD (by assumption)) (EE.n_BD (by assumption)) (by assumption) (by assumption) rfl rfl ?_))
theorem word_BD {X : Cx} (G : GL X.mg) (N : EE X.K X.mg C_PE C_BW C_BP C_BN C_BS C_NN C_BD C_BT) {g aE d : Addr} {cdv : Value} {s1 : Shared} {H1 : Hp} {oe : Obj} {pn : List (Addr × Obj)} {k : Nat} {i : Int} (hr : Room (k + 1) (X.A.deeper (envOfC "_law_word" (defScope s_law_word) s1.heap.objs.size g cdv)))
    (hz : Zc (.ref C_BD) (some d) oe) (hf : ∃ vs, oe.data = .fields vs) {S : Sto} {Φ : W → Sto → Prop} (h : Φ (.tup [.str "deed", .int i]) S) :
    wB ((zCx X ["_law_work", "_law_e", "_law_kinds", "_law_word_here"] "_law_word" s_law_word g cdv s1 H1).suite aE ((aE, oe) :: pn)) nox (hBody (defBody s_law_word)) ((List.replicate 4 none).set 1 (some (.xi aE d "number" i))) S ⟨fun _ _ => False, Φ, fun _ _ => False, fun _ _ => False⟩ := by
  have e1 := N.e_BD
  have hu : ((zCx X ["_law_work", "_law_e", "_law_kinds", "_law_word_here"] "_law_word" s_law_word g cdv s1 H1).suite aE ((aE, oe) :: pn)).A.units + 65 < cLine := by
    have h0 := Room.u65 hr
    exact h0
  specialize "go"
  exact h
end
end
/-- the word of a caught error -/
def wordW (C_PE C_BW C_BP C_BN C_BS C_NN C_BD C_BT : Addr) (cls : Value) (fs : List (Str × W)) (u : W) : Prop := (∃ i, cls = .ref C_BW ∧ fs = [(("number" : Str), W.int i)] ∧ u = .tup [.str "wish", .int i]) ∨ (cls = .ref C_BP ∧ fs = [] ∧ u = .str "phone") ∨ (∃ i, cls = .ref C_BD ∧ fs = [(("number" : Str), W.int i)] ∧ u = .tup [.str "deed", .int i])
/-- the lambda w, the words that come of it -/
def sWd (X : Cx) (k : Nat) (C_PE C_BW C_BP C_BN C_BS C_NN C_BD C_BT : Addr) (w : W) (E : AEnv) (S : Sto) (Φ : W → Sto → Prop) : Prop :=
  ∃ (f d : Addr) (dv : Option (Addr × Int)) (pr : Arguments) (bd : Expr) (sc : Scope) (Ψ1 : AX) (Φ1 : W → Sto → Prop), w = .thg f (lamFs f d (X.env.qual ++ "<lambda>") pr bd sc (cloFrom X.env.cells sc.names []) dv) ∧ LamV X.N X.env.scope sc ∧ LamB pr bd sc dv ∧
    (∀ (A : Around) (outer : List Env) (s0 : Shared) (H0 : Hp) (Ech : XK), Room k (A.deeper (LamX.lamEnv X sc s0.heap.objs.size f d)) → wE (LamX.lamCx X A outer s0 H0 Ech sc f d) Ψ1 bd E S Φ1) ∧
    (∀ w S2, Φ1 w S2 → Φ (.str "") S2) ∧ (∀ cls fs E2 S2, Ψ1 cls fs E2 S2 → ∃ u, wordW C_PE C_BW C_BP C_BN C_BS C_NN C_BD C_BT cls fs u ∧ Φ u S2)
end

end
section
-- ZW
section
variable {P : Program} {w : World} {K : PySem.W.Frag} {mg : Str → Option Value} {base : Heap} {C_Book C_Way C_Call C_Phone C_Hall : Addr}
/-! ### wishes of any told things -/
def numD : W → Int
  | .int i => i
  | _ => 0
theorem isNum_int {w : W} {lo hi : Int} (h : isNumW w lo hi = true) : ∃ i, w = .int i ∧ lo ≤ i ∧ i ≤ hi := by
  cases w with
  | int i =>
    have h : (decide (lo ≤ i) && decide (i ≤ hi)) = true := h
    simp only [Bool.and_eq_true, decide_eq_true_eq] at h
    exact ⟨i, rfl, h.1, h.2⟩
  | _ => cases h
theorem ok_ty {S : Sto} {v : W} {n : Nat} (h : v.ok n = true) : ∃ t, tyW S v = some t := by
  cases v with
  | ref k => simp [W.ok] at h
  | raw k => simp [W.ok] at h
  | scr _ _ => simp [W.ok] at h
  | xi _ _ _ _ => simp [W.ok] at h
  | thg _ _ => simp [W.ok] at h
  | _ => exact ⟨_, rfl⟩
/-- a rising tuple of phones, one at least -/
def memW : W → Bool
  | .tup ms => !ms.isEmpty && (ms.all (isNumW · 0 5) && (List.range (ms.length - 1)).all fun k => decide (numD (ms.getD k .non) < numD (ms.getD (k + 1) .non)))
  | _ => false
theorem all_ints : ∀ {ws : List W}, (∀ o ∈ ws, isNumW o 0 5 = true) → ∃ ms : List Int, ws = intsW ms ∧ ∀ m ∈ ms, 0 ≤ m ∧ m ≤ 5
  | [], _ => ⟨[], rfl, fun _ h => nomatch h⟩
  | o :: os, h => by
    obtain ⟨i, rfl, h0, h5⟩ := isNum_int (h o List.mem_cons_self)
    obtain ⟨ms, rfl, hm⟩ := all_ints fun x hx => h x (List.mem_cons_of_mem _ hx)
    refine ⟨i :: ms, rfl, fun m hm' => ?_⟩
    rcases List.mem_cons.mp hm' with rfl | z
    · exact ⟨h0, h5⟩
    · exact hm m z
theorem memW_ints {ms : List Int} (he : ms ≠ []) (hm : ∀ m ∈ ms, 0 ≤ m ∧ m ≤ 5) : memW (.tup (intsW ms)) = (List.range (ms.length - 1)).all fun k => decide (ms.getD k 0 < ms.getD (k + 1) 0) := by
  have h1 : (intsW ms).isEmpty = false := by
    cases ms with
    | nil => exact absurd rfl he
    | cons a l => rfl
  have h2 : (intsW ms).all (isNumW · 0 5) = true := by
    rw [List.all_eq_true]
    intro o ho
    obtain ⟨m, hm', rfl⟩ := List.mem_map.mp ho
    exact num_yes (hm m hm').1 (hm m hm').2
  have hg : ∀ k, numD ((intsW ms).getD k .non) = ms.getD k 0 := by
    intro k
    unfold intsW
    rw [List.getD_eq_getElem?_getD, List.getElem?_map, List.getD_eq_getElem?_getD]
    cases ms[k]? <;> rfl
  unfold memW
  dsimp only
  rw [h1, h2, len_ints]
  simp only [hg, Bool.not_false, Bool.true_and]
theorem memW_no {ws : List W} (ha : ¬ ∀ o ∈ ws, isNumW o 0 5 = true) : memW (.tup ws) = false := by
  have : ws.all (isNumW · 0 5) = false := by
    rw [← Bool.not_eq_true, List.all_eq_true]
    exact ha
  unfold memW
  dsimp only
  rw [this, Bool.false_and, Bool.and_false]
theorem notallW {ws : List W} (ha : ¬ ∀ o ∈ ws, isNumW o 0 5 = true) : (!(ws.filter fun x => !isNumW x 0 5).isEmpty) = true := by
  cases h : (ws.filter fun x => !isNumW x 0 5) with
  | cons a l => rfl
  | nil =>
    rw [List.filter_eq_nil_iff] at h
    refine absurd (fun o ho => ?_) ha
    have := h o ho
    cases hq : isNumW o 0 5 with
    | true => rfl
    | false => rw [hq] at this; exact absurd rfl this
def idW (x : W) : W := x
theorem map_idW {ws : List W} : ws.map idW = ws := List.map_id' ws
theorem oks_idW {n : Nat} : ∀ {ws : List W}, (∀ o ∈ ws, o.ok n = true) → W.oks (ws.map idW) n = true := fun {ws} h => by rw [map_idW, W.oks_all, List.all_eq_true]; exact h
def asp_memW : ASp := fun ws S Φ _ => ∃ v, ws = [v] ∧ v.ok 60 = true ∧ (∀ l, v = .tup l → l.length ≤ 100000) ∧ Φ (.bl (memW v)) S
section
local macro_rules | `(tactic| specialize "s0") => `(tactic| ((with_reducible show sLc _ _ _ _ _ _ (List.map idW _) _ _ _); refine stop_i ?_))
local macro_rules | `(tactic| specialize "s3") => `(tactic| ((with_reducible show asp_is_phone _ _ _ _); refine ⟨_, Classical.choose (ok_ty (by assumption)), rfl, Classical.choose_spec (ok_ty (by assumption)), ?_⟩))
theorem cf_memW (G : GL mg) (D : DS K mg C_Book C_Way C_Call C_Phone C_Hall) : CFn P w K mg base "are_members" 3 1 asp_memW := by
  refine D.d_are_members.fn sc_are_members fun f cdv A outer s H E hr ws S Φ Ψ hl hS ha => ?_
  obtain ⟨v, rfl, hok, hl1, h⟩ := ha
  cases v with
  | tup os =>
    have hl1 := hl1 os rfl
    have hoks : W.oks os 59 = true := hok
    rw [W.oks_all, List.all_eq_true] at hoks
    by_cases he : os = []
    · subst he
      specialize "go"
      exact fin.as h
    by_cases ha : ∀ o ∈ os, isNumW o 0 5 = true
    · obtain ⟨ms, rfl, hm⟩ := all_ints ha
      have hl6 : ms.length ≤ 100000 := by rw [len_ints] at hl1; exact hl1
      specialize "go"
      have e1 : (intsW ms).isEmpty = false := by
        cases ms with
        | nil => exact absurd rfl he
        | cons a l => rfl
      have e2 : (List.filter (fun x => !isNumW (W.int x) 0 5) ms) = [] := by
        rw [List.filter_eq_nil_iff]
        intro x hx
        rw [num_yes (hm x hx).1 (hm x hx).2]
        exact Bool.false_ne_true
      refine sIte_f (by rw [e2]; rfl) ?_
      specialize "go"
      refine fin.eq h ?_
      congr 1
      rw [memW_ints (fun z => he (by rw [z]; rfl)) hm]
      rw [Bool.eq_iff_iff, List.isEmpty_iff, List.filter_eq_nil_iff, List.all_eq_true, len_ints, show ((ms.length : Int) - 1).toNat = ms.length - 1 by omega]
      refine forall_congr' fun k => forall_congr' fun hk => ?_
      rw [show (1 + (k : Int)).toNat = k + 1 by omega, show (1 + (k : Int) - 1).toNat = k by omega, decide_eq_true_eq, decide_eq_true_eq]
      omega
    · obtain ⟨ot, rfl⟩ : ∃ ot : List W, os = ot.map idW := ⟨os, map_idW.symm⟩
      have hie : (ot.map idW).isEmpty = false := by
        cases ot with
        | nil => exact absurd rfl he
        | cons a l => rfl
      have hel : ∀ o ∈ ot, o.ok 59 = true := fun o ho => hoks o (by rw [map_idW]; exact ho)
      have hlt : ot.length ≤ 100000 := by rw [List.length_map] at hl1; exact hl1
      have hof : ∀ p : W → Bool, W.oks ((ot.filter p).map idW) 59 = true := fun p => oks_idW fun o ho => hel o (List.mem_filter.mp ho).1
      specialize "go"
      · unfold Stop
        refine sLc_i (xs := ot) (enc := idW) (p := fun x => !isNumW x 0 5) (g := idW) trivial hlt (fun x hx => ?_) ?_
        · have hx2 := hel x hx
          unfold idW
          specialize "go"
        · have hoF := hof fun x => !isNumW x 0 5
          have hoF2 : (W.lst ((ot.filter fun x => !isNumW x 0 5).map idW)).ok 60 = true := hoF
          specialize "go"
      have hn := notallW (ws := ot) (by rw [map_idW] at ha; exact ha)
      refine sIte_t (by rw [hn, Bool.or_true]) ?_
      specialize "go"
      refine fin.eq h ?_
      rw [memW_no ha]
  | ref k => simp [W.ok] at hok
  | raw k => simp [W.ok] at hok
  | scr _ _ => simp [W.ok] at hok
  | xi _ _ _ _ => simp [W.ok] at hok
  | thg _ _ => simp [W.ok] at hok
  | _ =>
    specialize "go"
    exact fin.as h
end
section
local macro_rules | `(tactic| specialize "fun") => `(tactic| ((with_reducible show wE _ _ (Expr.Call (Expr.Name (Str.ofString "are_members") _) _ _ _) _ _ _); refine xE_call (cf_memW (by assumption) (by assumption)) (Room.mono (by assumption) (by decide)) ?_))
local macro_rules | `(tactic| specialize "s3") => `(tactic| ((with_reducible show asp_memW _ _ _ _); refine ⟨_, rfl, (by assumption), (by assumption), ?_⟩))
local macro_rules | `(tactic| specialize "s3") => `(tactic| ((with_reducible show asp_is_phone _ _ _ _); refine ⟨_, Classical.choose (ok_ty (by assumption)), rfl, Classical.choose_spec (ok_ty (by assumption)), ?_⟩))
local macro_rules | `(tactic| specialize "s3") => `(tactic| ((with_reducible show asp_is_number _ _ _ _); refine ⟨_, _, _, Classical.choose (ok_ty (by assumption)), rfl, Classical.choose_spec (ok_ty (by assumption)), ?_⟩))
local macro_rules | `(tactic| specialize "ix") => `(tactic| first | exact atI_nat (j := 0) rfl | exact atI_nat (j := 1) rfl | exact atI_nat (j := 2) rfl)
theorem cut_1 {v : W} {ws : List W} : cutW (v :: ws) (some 1) none = ws := by
  unfold cutW
  rw [HT.sIx_none, show HT.sIx (v :: ws).length 0 (some 1) = 1 from by
    rw [show (some (1 : Int)) = some ((1 : Nat) : Int) from rfl, HT.sIx_nat, List.length_cons]
    omega]
  rw [List.drop_succ_cons, List.drop_zero, List.length_cons, Nat.add_sub_cancel, List.take_length]
/-- whether something is a wish -/
theorem in2S {a x y : Str} : inW (.str a) [.str x, .str y] = (decide (a = x) || decide (a = y)) := by
  simp [inW, eqW_str, eq_comm]
theorem in3S {a x y z : Str} : inW (.str a) [.str x, .str y, .str z] = (decide (a = x) || (decide (a = y) || decide (a = z))) := by
  simp [inW, eqW_str, eq_comm]
local macro_rules | `(tactic| specialize "ev") => `(tactic| first | exact in2S | exact in3S)
def grpR (b : W) : List W → Bool
  | [m] => isNumW b 6 7 && memW m
  | _ => false
def barR (b : W) : List W → Bool
  | [c] => isNumW c 0 5 && !eqW c b
  | _ => false
def lateR : List W → Bool
  | [d] => isNumW d 1 9
  | _ => false
def goalR (late : Bool) (b : W) : List W → Bool
  | [] => false
  | c :: r => isNumW c 0 7 && (!eqW c b && (if late = true then lateR r else r.isEmpty))
def isWishW : W → Bool
  | .tup (.str a :: b :: r) =>
    if decide (a = "group") = true then grpR b r
    else if isNumW b 0 5 = false then false
    else if (decide (a = "wait") || decide (a = "still")) = true then r.isEmpty
    else if decide (a = "bar") = true then barR b r
    else if (decide (a = "all") || (decide (a = "busy") || decide (a = "late"))) = false then false
    else goalR (decide (a = "late")) b r
  | _ => false
def asp_is_wishW : ASp := fun ws S Φ _ => ∃ v, ws = [v] ∧ v.ok 60 = true ∧ (∀ l m, v = .tup l → .tup m ∈ l → m.length ≤ 100000) ∧ (∀ l, v = .tup l → l.length ≤ 100000) ∧ Φ (.bl (isWishW v)) S
theorem cf_is_wishW (G : GL mg) (D : DS K mg C_Book C_Way C_Call C_Phone C_Hall) : CFn P w K mg base "is_wish" 4 1 asp_is_wishW := by
  refine D.d_is_wish.fn sc_is_wish fun f cdv A outer s H E hr ws S Φ Ψ hl hS ha => ?_
  obtain ⟨v, rfl, hok, hm1, hl1, h⟩ := ha
  cases v with
  | ref k => simp [W.ok] at hok
  | raw k => simp [W.ok] at hok
  | scr _ _ => simp [W.ok] at hok
  | xi _ _ _ _ => simp [W.ok] at hok
  | thg _ _ => simp [W.ok] at hok
  | tup l =>
    have hl1 := hl1 l rfl
    have hm1 := fun m => hm1 l m rfl
    have hoks : W.oks l 59 = true := hok
    rw [W.oks_all, List.all_eq_true] at hoks
    rcases l with _ | ⟨x0, _ | ⟨b, r⟩⟩
    · specialize "go"
      exact fin.as h
    · have e : isWishW (.tup [x0]) = false := by cases x0 <;> rfl
      rw [e] at h
      specialize "go"
      exact fin.as h
    · have ox := hoks x0 List.mem_cons_self
      have ob := hoks b (List.mem_cons_of_mem _ List.mem_cons_self)
      cases x0 with
      | ref k => simp [W.ok] at ox
      | raw k => simp [W.ok] at ox
      | scr _ _ => simp [W.ok] at ox
      | xi _ _ _ _ => simp [W.ok] at ox
      | thg _ _ => simp [W.ok] at ox
      | str a =>
        have hc1 : cutW (W.str a :: b :: r) (some 1) none = b :: r := cut_1
        have oks2 : W.oks (W.str a :: b :: r) 59 = true := hok
        have hl1' : r.length + 1 + 1 ≤ 100000 := hl1
        specialize "go"
        rw [hc1]
        refine sIte_s (fun hg => ?_) (fun hg => ?_)
        · have hr : isWishW (.tup (.str a :: b :: r)) = grpR b r := by unfold isWishW; dsimp only; rw [if_pos hg]
          rcases r with _ | ⟨m, _ | ⟨m2, r⟩⟩
          · specialize "go"
            exact fin.eq h (by rw [hr]; rfl)
          · have om : m.ok 60 = true := W.ok_mono _ (by decide) (hoks m (by simp))
            have hml : ∀ l, m = .tup l → l.length ≤ 100000 := fun l e => hm1 l (by rw [e]; simp)
            specialize "go"
            exact fin.eq h (by rw [hr]; rfl)
          · specialize "go"
            exact fin.eq h (by rw [hr]; rfl)
        specialize "go"
        cases hp : isNumW b 0 5 with
        | false =>
          refine sIte_t (by rfl) ?_
          specialize "go"
          exact fin.eq h (by unfold isWishW; dsimp only; rw [if_neg (by rw [hg]; decide), if_pos hp])
        | true =>
        refine sIte_f (by rfl) ?_
        obtain ⟨p, rfl, p0, p5⟩ := isNum_int hp
        have hr : isWishW (.tup (.str a :: .int p :: r)) = if (decide (a = "wait") || decide (a = "still")) = true then r.isEmpty
          else if decide (a = "bar") = true then barR (.int p) r
          else if (decide (a = "all") || (decide (a = "busy") || decide (a = "late"))) = false then false
          else goalR (decide (a = "late")) (.int p) r := by
          unfold isWishW; dsimp only; rw [if_neg (by rw [hg]; decide), if_neg (by rw [hp]; decide)]
        specialize "go"
        refine sIte_s (fun hw => ?_) (fun hw => ?_)
        · change (decide (a = "wait") || decide (a = "still")) = true at hw
          rw [if_pos hw] at hr
          cases r with
          | nil =>
            specialize "go"
            exact fin.eq h (by rw [hr]; rfl)
          | cons c r =>
            specialize "go"
            refine fin.eq h ?_
            rw [hr]
            congr 1
            done
        change (decide (a = "wait") || decide (a = "still")) = false at hw
        rw [if_neg (by rw [hw]; decide)] at hr
        specialize "go"
        refine sIte_s (fun hb => ?_) (fun hb => ?_)
        · rw [if_pos hb] at hr
          rcases r with _ | ⟨c, _ | ⟨c2, r⟩⟩
          · specialize "go"
            exact fin.eq h (by rw [hr]; rfl)
          · have oc : c.ok 60 = true := W.ok_mono _ (by decide) (hoks c (by simp))
            specialize "go"
            exact fin.eq h (by rw [hr]; rfl)
          · specialize "go"
            exact fin.eq h (by rw [hr]; rfl)
        rw [if_neg (by rw [hb]; decide)] at hr
        cases hk : (decide (a = "all") || (decide (a = "busy") || decide (a = "late"))) with
        | false =>
          rw [if_pos hk] at hr
          specialize "go"
          exact fin.eq h (by rw [hr])
        | true =>
          rw [if_neg (by rw [hk]; decide)] at hr
          rcases r with _ | ⟨c, r⟩
          · specialize "go"
            exact fin.eq h (by rw [hr]; rfl)
          · have oc : c.ok 60 = true := W.ok_mono _ (by decide) (hoks c (by simp))
            specialize "go"
            refine sIte_s (fun hc => ?_) (fun hc => ?_)
            · specialize "go"
              refine fin.eq h ?_
              rw [hr]
              congr 1
              show false = (isNumW c 0 7 && (!eqW c (.int p) && _))
              change (!isNumW c 0 7 || eqW c (.int p)) = true at hc
              cases h1 : isNumW c 0 7 <;> cases h2 : eqW c (.int p) <;> rw [h1, h2] at hc <;> first | rfl | cases hc
            · change (!isNumW c 0 7 || eqW c (.int p)) = false at hc
              have e1 : goalR (decide (a = "late")) (.int p) (c :: r) = if decide (a = "late") = true then lateR r else r.isEmpty := by
                show (isNumW c 0 7 && (!eqW c (.int p) && _)) = _
                cases h1 : isNumW c 0 7 <;> cases h2 : eqW c (.int p) <;> rw [h1, h2] at hc <;> first | rfl | cases hc
              rw [e1] at hr
              specialize "go"
              refine sIte_s (fun hq => ?_) (fun hq => ?_)
              · have hq' : decide (a = "late") = false := by rw [Bool.not_eq_true'] at hq; exact hq
                rw [hq', if_neg (by decide)] at hr
                cases r with
                | nil =>
                  specialize "go"
                  exact fin.eq h (by rw [hr]; rfl)
                | cons d r =>
                  specialize "go"
                  exact fin.eq h (by rw [hr]; rfl)
              · have hq' : decide (a = "late") = true := by rw [Bool.not_eq_false'] at hq; exact hq
                rw [if_pos hq'] at hr
                rcases r with _ | ⟨d, _ | ⟨d2, r⟩⟩
                · specialize "go"
                  exact fin.eq h (by rw [hr]; rfl)
                · have od : d.ok 60 = true := W.ok_mono _ (by decide) (hoks d (by simp))
                  specialize "go"
                  exact fin.eq h (by rw [hr]; rfl)
                · specialize "go"
                  exact fin.eq h (by rw [hr]; rfl)
      | _ =>
        specialize "go"
        exact fin.as h
  | _ =>
    specialize "go"
    exact fin.as h
end
end

end
section
-- B1
section
variable {P : Program} {w : World} {K : PySem.W.Frag} {mg : Str → Option Value} {base : Heap} {C_Book C_Way C_Call C_Phone C_Hall C_PE C_BW C_BP C_BN C_BS C_NN C_BD C_BT : Addr}
def Old (S S' : Sto) : Prop := (∀ i, i < S.length → S'[i]? = S[i]?) ∧ S.length ≤ S'.length
theorem Old.app {S T : Sto} : Old S (S ++ T) := ⟨fun i hi => List.getElem?_append_left hi, by rw [List.length_append]; omega⟩
theorem Old.refl {S : Sto} : Old S S := ⟨fun i hi => rfl, Nat.le_refl _⟩
theorem Old.trans {S T U : Sto} (h : Old S T) (g : Old T U) : Old S U := ⟨fun i hi => (g.1 i (Nat.lt_of_lt_of_le hi h.2)).trans (h.1 i hi), Nat.le_trans h.2 g.2⟩
theorem Old.get {S T : Sto} (h : Old S T) {i : Nat} {o : O} (e : S[i]? = some o) : T[i]? = some o := (h.1 i (List.getElem?_eq_some_iff.mp e).1).trans e
theorem Old.split {S T : Sto} (h : Old S T) : T = S ++ T.drop S.length := by
  refine List.ext_getElem? fun i => ?_
  by_cases hi : i < S.length
  · rw [List.getElem?_append_left hi, h.1 i hi]
  · rw [List.getElem?_append_right (by omega), List.getElem?_drop]
    congr 1
    omega
theorem smallN {n : Nat} (h : n ≤ 300) : ((n : Int)).natAbs.log2 < 1920 ∧ (Str.ofString (toString (n : Int))).length ≤ 1000 := by
  have q : ∀ n : Nat, n < 301 → ((n : Int)).natAbs.log2 < 1920 ∧ (Str.ofString (toString (n : Int))).length ≤ 1000 := by decide +kernel
  exact q n (by omega)
theorem known_in {xs : List Wish} {k : List Key} (h : k ∈ xs.map Wish.key) : (valW (knownD xs) k).isSome = true := by
  unfold valW knownD
  obtain ⟨x, hx, e⟩ := List.mem_map.mp h
  cases q : (xs.map fun x => (x.key, W.bl true)).find? fun kv => decide (kv.1 = k) with
  | some kv => rfl
  | none =>
    rw [List.find?_eq_none] at q
    exact absurd (decide_eq_true e) (q (x.key, .bl true) (List.mem_map.mpr ⟨x, hx, rfl⟩))
/-- no wish at this place: it is none, or one for the same as another one, or it is the twenty-fifth -/
def BadAt (xs : List Wish) (b : W) : Prop := xs.length = 24 ∨ (isWishW b = false ∧ b.ok 60 = true ∧ (∀ l m, b = .tup l → .tup m ∈ l → m.length ≤ 100000) ∧ ∀ l, b = .tup l → l.length ≤ 100000) ∨ ∃ y : Wish, b = y.w ∧ y.ok ∧ y.key ∈ xs.map Wish.key
structure BadWs (ws : List W) (n : Nat) : Prop where
  ex : ∃ (xs : List Wish) (b : W) (rest : List W), ws = xs.map Wish.w ++ b :: rest ∧ n = xs.length ∧ xs.length ≤ 24 ∧ ws.length ≤ 1000 ∧ (∀ x ∈ xs, x.ok) ∧ (xs.map Wish.key).Nodup ∧ BadAt xs b
def asp_need_wishesX (C : Addr) : ASp := fun ws S _ Ψ => ∃ (wl : List W) (n : Nat), ws = [.lst wl] ∧ BadWs wl n ∧ ∀ S', Old S S' → Ψ (.ref C) [("number", .int n)] S'
section
local macro_rules | `(tactic| specialize "st") => `(tactic| ((with_reducible show wS _ _ (Stmt.Raise _ _ _) _ _ _); refine wS_raiseX (EE.x_BW (by assumption)) (Room.mono (by assumption) (by decide)) ?_))
local macro_rules | `(tactic| specialize "fun") => `(tactic| ((with_reducible show wE _ _ (Expr.Call (Expr.Name (Str.ofString "is_wish") _) _ _ _) _ _ _); refine stop_i ?_))
theorem cf_need_wishesX (G : GL mg) (D : DS K mg C_Book C_Way C_Call C_Phone C_Hall) (N : EE K mg C_PE C_BW C_BP C_BN C_BS C_NN C_BD C_BT) : CFn P w K mg base "need_wishes" 5 1 (asp_need_wishesX C_BW) := by
  refine D.d_need_wishes.fn sc_need_wishes fun f cdv A outer s H E hr ws S Φ Ψ hl hS ha => ?_
  obtain ⟨wl, n, rfl, ⟨⟨xs, b, rest, rfl, rfl, h24, hlen, ho, hnd, hbad⟩⟩, h⟩ := ha
  specialize "go"
  refine wS_for (passes_of rfl) rfl ?_
  specialize "go"
  refine ⟨fun i E' S' => i ≤ xs.length ∧ ∃ a b1, E' = [some (.lst (xs.map Wish.w ++ b :: rest)), some (.ref S.length), a, b1] ∧ S' = S ++ [.dt (knownD (xs.take i))], ⟨Nat.zero_le _, none, none, rfl, rfl⟩, fun _ _ _ _ => trivial, ?_, ?_⟩
  · rintro i w E' S' hw ⟨hi, a, b1, rfl, rfl⟩
    obtain ⟨u, hu, rfl⟩ := enum_inv hw
    by_cases hil : i < xs.length
    · rw [List.getElem?_append_left (by simpa using hil)] at hu
      obtain ⟨x, hx, rfl⟩ := map_inv hu
      have hxo := ho x (List.mem_of_getElem? hx)
      have hkn := key_new hnd hx
      specialize "go"
      · unfold Stop
        refine xE_call (cf_is_wish (by assumption) (by assumption)) (Room.mono (by assumption) (by decide)) ?_
        specialize "go"
      refine sIte_f (by rw [known_none hkn, decide_eq_false (by omega)]; rfl) ?_
      specialize "go"
      rw [known_put hkn, ← take_succ hx, set_new0]
      dsimp only
      refine dropTo.as (n := (S ++ [O.dt []]).length) ?_
      exact ⟨hil, _, _, rfl, rfl⟩
    · have ei : i = xs.length := by omega
      subst ei
      have eu : b = u := by
        rw [List.getElem?_append_right (by simp), List.length_map, Nat.sub_self] at hu
        exact Option.some.inj hu
      subst eu
      obtain ⟨q1, q2⟩ := smallN (n := xs.length) (by omega)
      have q1' : (((0 + xs.length : Nat) : Int)).natAbs.log2 < 1920 := by rw [Nat.zero_add]; exact q1
      have q2' : (Str.ofString (toString ((0 + xs.length : Nat) : Int))).length ≤ 1000 := by rw [Nat.zero_add]; exact q2
      have h' : ∀ S', Old S S' → Ψ (.ref C_BW) [("number", .int ((0 + xs.length : Nat) : Int))] S' := by rw [Nat.zero_add]; exact h
      rcases hbad with e24 | ⟨hbw, hbo, hbm, hbl⟩ | ⟨y, rfl, hyo, hyk⟩
      · have t1 : decide ((24 : Int) ≤ ((0 + xs.length : Nat) : Int)) = true := decide_eq_true (by omega)
        specialize "go"
        exact ⟨_, rfl, q1', q2', h' _ Old.app⟩
      · specialize "go"
        · unfold Stop
          refine xE_call (cf_is_wishW (by assumption) (by assumption)) (Room.mono (by assumption) (by decide)) ?_
          specialize "go"
          refine ⟨b, rfl, hbo, hbm, hbl, ?_⟩
          rw [hbw]
          specialize "go"
        refine sIte_t (Bool.or_true _) ?_
        specialize "go"
        exact ⟨_, rfl, q1', q2', h' _ Old.app⟩
      · have hkn : (valW (knownD (xs.take xs.length)) y.key).isSome = true := by rw [List.take_length]; exact known_in hyk
        specialize "go"
        · unfold Stop
          refine xE_call (cf_is_wish (by assumption) (by assumption)) (Room.mono (by assumption) (by decide)) ?_
          specialize "go"
        rw [hkn]
        refine sIte_t (Bool.or_true _) ?_
        specialize "go"
        exact ⟨_, rfl, q1', q2', h' _ Old.app⟩
  · rintro E' S' ⟨hi, _⟩
    exfalso
    rw [enum_len, List.length_append, List.length_cons, List.length_map] at hi
    omega
end
end

end
section
-- B2
section
variable {P : Program} {w : World} {K : PySem.W.Frag} {mg : Str → Option Value} {base : Heap} {C_Book C_Way C_Call C_Phone C_Hall C_PE C_BW C_BP C_BN C_BS C_NN C_BD C_BT : Addr}
/-- what all that is handed wishes does: refuses those that are none, or goes on to refuse something else -/
def Outc (C_BW : Addr) (alt : Value) (altf : List (Str × W)) (wl : List W) (Ψ : Value → List (Str × W) → Sto → Prop) (S : Sto) : Prop :=
  (∃ n, BadWs wl n ∧ ∀ S', Old S S' → Ψ (.ref C_BW) [("number", .int n)] S') ∨ ∃ xs : List Wish, wl = xs.map Wish.w ∧ xs.length ≤ 24 ∧ (∀ x ∈ xs, x.ok) ∧ (xs.map Wish.key).Nodup ∧ ∀ S', Old S S' → Ψ alt altf S'
def asp_need_phoneX (D : Addr) : ASp := fun ws S _ Ψ => ws = [.int 6] ∧ Ψ (.ref D) [] S
section
local macro_rules | `(tactic| specialize "st") => `(tactic| ((with_reducible show wS _ _ (Stmt.Raise _ _ _) _ _ _); refine wS_raise (EE.x_BP (by assumption)) ?_))
theorem cf_need_phoneX (G : GL mg) (D : DS K mg C_Book C_Way C_Call C_Phone C_Hall) (N : EE K mg C_PE C_BW C_BP C_BN C_BS C_NN C_BD C_BT) : CFn P w K mg base "need_phone" 3 1 (asp_need_phoneX C_BP) := by
  refine D.d_need_phone.fn sc_need_phone fun f cdv A outer s H E hr ws S Φ Ψ hl hS ha => ?_
  obtain ⟨rfl, h⟩ := ha
  have e1 : isNumW (.int 6) 0 5 = false := rfl
  specialize "go"
  exact h
end
/-- () is no deed -/
def asp_is_deed0 : ASp := fun ws S Φ _ => ws = [.tup []] ∧ Φ (.bl false) S
theorem cf_is_deed0 (G : GL mg) (D : DS K mg C_Book C_Way C_Call C_Phone C_Hall) : CFn P w K mg base "is_deed" 2 1 asp_is_deed0 := by
  refine D.d_is_deed.fn sc_is_deed fun f cdv A outer s H E hr ws S Φ Ψ hl hS ha => ?_
  obtain ⟨rfl, h⟩ := ha
  specialize "go"
  exact fin.as h
def asp_need_deeds0 (D : Addr) : ASp := fun ws S _ Ψ => ws = [.lst [.tup []]] ∧ Ψ (.ref D) [("number", .int 0)] S
section
local macro_rules | `(tactic| specialize "st") => `(tactic| ((with_reducible show wS _ _ (Stmt.Raise _ _ _) _ _ _); refine wS_raiseX (EE.x_BD (by assumption)) (Room.mono (by assumption) (by decide)) ?_))
local macro_rules | `(tactic| specialize "fun") => `(tactic| ((with_reducible show wE _ _ (Expr.Call (Expr.Name (Str.ofString "is_deed") _) _ _ _) _ _ _); refine xE_call (cf_is_deed0 (by assumption) (by assumption)) (Room.mono (by assumption) (by decide)) ?_))
local macro_rules | `(tactic| specialize "s3") => `(tactic| ((with_reducible show asp_is_deed0 _ _ _ _); refine ⟨rfl, ?_⟩))
theorem cf_need_deeds0 (G : GL mg) (D : DS K mg C_Book C_Way C_Call C_Phone C_Hall) (N : EE K mg C_PE C_BW C_BP C_BN C_BS C_NN C_BD C_BT) : CFn P w K mg base "need_deeds" 3 1 (asp_need_deeds0 C_BD) := by
  refine D.d_need_deeds.fn sc_need_deeds fun f cdv A outer s H E hr ws S Φ Ψ hl hS ha => ?_
  obtain ⟨rfl, h⟩ := ha
  specialize "go"
  refine wS_for (passes_of rfl) rfl ?_
  specialize "go"
  refine ⟨fun i E' S' => i = 0 ∧ ∃ a b1, E' = [some (.lst [.tup []]), a, b1] ∧ S' = S, ⟨rfl, none, none, rfl, rfl⟩, fun _ _ _ _ => trivial, ?_, ?_⟩
  · rintro i w E' S' hw ⟨rfl, a, b1, rfl, rfl⟩
    cases hw
    specialize "go"
    exact ⟨0, rfl, by decide, by decide +kernel, h⟩
  · rintro E' S' ⟨hi, _⟩
    cases hi
end
def asp_led1 (C_BW C_BP : Addr) : ASp := fun ws S _ Ψ => ∃ wl sv, ws = [.lst wl, .int 6, .int 8, sv] ∧ Outc C_BW (.ref C_BP) [] wl Ψ S
def asp_wants1 (C_BW C_BP : Addr) : ASp := fun ws S _ Ψ => ∃ wl xw sv, ws = [.lst wl, xw, .int 6, .int 8, sv] ∧ Outc C_BW (.ref C_BP) [] wl Ψ S
def asp_deeds1 (C_BW C_BD : Addr) : ASp := fun ws S _ Ψ => ∃ wl, ws = [.lst wl, .lst [.tup []]] ∧ Outc C_BW (.ref C_BD) [("number", .int 0)] wl Ψ S
def asp_Hall_initX (C : Cs) (C_BW : Addr) : ASp := fun ws S _ Ψ => ∃ S0 wl n, ws = [.ref S0.length, .lst wl] ∧ S = S0 ++ [.ins C.CH []] ∧ BadWs wl n ∧ ∀ S', Old S S' → Ψ (.ref C_BW) [("number", .int n)] S'
def asp_liftP (C : Cs) (D : Addr) : ASp := fun ws S _ Ψ => ∃ (j : Nat) (fs : List (Str × W)), ws = [.ref j, .int 6] ∧ S[j]? = some (.ins C.CH fs) ∧ fs.lookup ("phone" : Str) = none ∧ Ψ (.ref D) [] S
def asp_phoneP (C : Cs) (D : Addr) : ASp := fun ws S _ Ψ => ∃ (j : Nat) (b : Bool), ws = [.ref j, .int 6, .bl b] ∧ Ψ (.ref D) [] S
section
local macro_rules | `(tactic| specialize "fun") => `(tactic| ((with_reducible show wE _ _ (Expr.Call (Expr.Name (Str.ofString "need_phone") _) _ _ _) _ _ _); refine xE_call (cf_need_phoneX (by assumption) (by assumption) (by assumption)) (Room.mono (by assumption) (by decide)) ?_))
local macro_rules | `(tactic| specialize "s3") => `(tactic| ((with_reducible show asp_need_phoneX _ _ _ _ _); refine ⟨rfl, ?_⟩))
local macro_rules | `(tactic| specialize "fun") => `(tactic| ((with_reducible show wE _ _ (Expr.Call (Expr.Name (Str.ofString "need_deeds") _) _ _ _) _ _ _); refine xE_call (cf_need_deeds0 (by assumption) (by assumption) (by assumption)) (Room.mono (by assumption) (by decide)) ?_))
local macro_rules | `(tactic| specialize "s3") => `(tactic| ((with_reducible show asp_need_deeds0 _ _ _ _ _); refine ⟨rfl, ?_⟩))
local macro_rules | `(tactic| specialize "fun") => `(tactic| ((with_reducible show wE _ _ (Expr.Call (Expr.Name (Str.ofString "need_wishes") _) _ _ _) _ _ _); refine stop_i ?_))
theorem cf_led1 (G : GL mg) (D : DS K mg C_Book C_Way C_Call C_Phone C_Hall) (N : EE K mg C_PE C_BW C_BP C_BN C_BS C_NN C_BD C_BT) : CFn P w K mg base "led" 6 4 (asp_led1 C_BW C_BP) := by
  refine D.d_led.fn sc_led fun f cdv A outer s H E hr ws S Φ Ψ hl hS ha => ?_
  obtain ⟨wl, sv, rfl, ⟨n, hb, h⟩ | ⟨xs, rfl, h24, hok, hnd, h⟩⟩ := ha
  · specialize "go"
    unfold Stop
    refine xE_call (cf_need_wishesX (by assumption) (by assumption) (by assumption)) (Room.mono (by assumption) (by decide)) ?_
    specialize "go"
    exact ⟨wl, n, rfl, hb, h⟩
  · specialize "go"
    unfold Stop
    refine xE_call (cf_need_wishes (by assumption) (by assumption)) (Room.mono (by assumption) (by decide)) ?_
    specialize "go"
    refine ⟨xs, rfl, h24, hok, hnd, ?_⟩
    specialize "go"
    exact h _ Old.refl
theorem cf_wants1 (G : GL mg) (D : DS K mg C_Book C_Way C_Call C_Phone C_Hall) (N : EE K mg C_PE C_BW C_BP C_BN C_BS C_NN C_BD C_BT) : CFn P w K mg base "wants" 6 5 (asp_wants1 C_BW C_BP) := by
  refine D.d_wants.fn sc_wants fun f cdv A outer s H E hr ws S Φ Ψ hl hS ha => ?_
  obtain ⟨wl, xw, sv, rfl, ⟨n, hb, h⟩ | ⟨xs, rfl, h24, hok, hnd, h⟩⟩ := ha
  · specialize "go"
    unfold Stop
    refine xE_call (cf_need_wishesX (by assumption) (by assumption) (by assumption)) (Room.mono (by assumption) (by decide)) ?_
    specialize "go"
    exact ⟨wl, n, rfl, hb, h⟩
  · specialize "go"
    unfold Stop
    refine xE_call (cf_need_wishes (by assumption) (by assumption)) (Room.mono (by assumption) (by decide)) ?_
    specialize "go"
    refine ⟨xs, rfl, h24, hok, hnd, ?_⟩
    specialize "go"
    exact h _ Old.refl
theorem cf_written1 (G : GL mg) (D : DS K mg C_Book C_Way C_Call C_Phone C_Hall) (N : EE K mg C_PE C_BW C_BP C_BN C_BS C_NN C_BD C_BT) : CFn P w K mg base "written" 6 2 (asp_deeds1 C_BW C_BD) := by
  refine D.d_written.fn sc_written fun f cdv A outer s H E hr ws S Φ Ψ hl hS ha => ?_
  obtain ⟨wl, rfl, ⟨n, hb, h⟩ | ⟨xs, rfl, h24, hok, hnd, h⟩⟩ := ha
  · specialize "go"
    unfold Stop
    refine xE_call (cf_need_wishesX (by assumption) (by assumption) (by assumption)) (Room.mono (by assumption) (by decide)) ?_
    specialize "go"
    exact ⟨wl, n, rfl, hb, h⟩
  · specialize "go"
    unfold Stop
    refine xE_call (cf_need_wishes (by assumption) (by assumption)) (Room.mono (by assumption) (by decide)) ?_
    specialize "go"
    refine ⟨xs, rfl, h24, hok, hnd, ?_⟩
    specialize "go"
    exact h _ Old.refl
theorem cf_Hall_initX (G : GL mg) (D : DS K mg C_Book C_Way C_Call C_Phone C_Hall) (N : EE K mg C_PE C_BW C_BP C_BN C_BS C_NN C_BD C_BT) : CMake P w K mg base "Hall" C_Hall 6 2 (asp_Hall_initX (Cs.mk C_Book C_Way C_Call C_Phone C_Hall) C_BW) := by
  refine D.d_Hall_init.fn sc_Hall_init fun f cdv A outer s H E hr ws S Φ Ψ hl hS ha => ?_
  obtain ⟨S0, wl, n, rfl, rfl, hb, h⟩ := ha
  specialize "go"
  unfold Stop
  refine xE_call (cf_need_wishesX (by assumption) (by assumption) (by assumption)) (Room.mono (by assumption) (by decide)) ?_
  specialize "go"
  exact ⟨wl, n, rfl, hb, h⟩
theorem cf_phoneP (G : GL mg) (D : DS K mg C_Book C_Way C_Call C_Phone C_Hall) (N : EE K mg C_PE C_BW C_BP C_BN C_BS C_NN C_BD C_BT) : CMeth P w K mg base C_Hall "phone" 4 3 (asp_phoneP (Cs.mk C_Book C_Way C_Call C_Phone C_Hall) C_BP) := by
  refine D.d_Hall_phone.fn sc_Hall_phone fun f cdv A outer s H E hr ws S Φ Ψ hl hS ha => ?_
  obtain ⟨j, b, rfl, h⟩ := ha
  specialize "go"
  exact h
theorem cf_liftP (G : GL mg) (D : DS K mg C_Book C_Way C_Call C_Phone C_Hall) (N : EE K mg C_PE C_BW C_BP C_BN C_BS C_NN C_BD C_BT) : CMeth P w K mg base C_Hall "lift" 5 2 (asp_liftP (Cs.mk C_Book C_Way C_Call C_Phone C_Hall) C_BP) := by
  refine D.d_Hall_lift.fn sc_Hall_lift fun f cdv A outer s H E hr ws S Φ Ψ hl hS ha => ?_
  obtain ⟨j, fs, rfl, hj, hf, h⟩ := ha
  specialize "go"
  refine xE_meth (DS.cls_Hall (by assumption)) (cf_phoneP (by assumption) (by assumption) (by assumption)) (Room.mono (by assumption) (by decide)) ?_
  specialize "go"
  refine sMeth_i hj hf ?_
  specialize "go"
  exact ⟨j, false, rfl, h⟩
theorem cf_played1 (G : GL mg) (D : DS K mg C_Book C_Way C_Call C_Phone C_Hall) (N : EE K mg C_PE C_BW C_BP C_BN C_BS C_NN C_BD C_BT) : CFn P w K mg base "played" 9 2 (asp_deeds1 C_BW C_BD) := by
  refine D.d_played.fn sc_played fun f cdv A outer s H E hr ws S Φ Ψ hl hS ha => ?_
  obtain ⟨wl, rfl, ⟨n, hb, h⟩ | ⟨xs, rfl, h24, hok, hnd, h⟩⟩ := ha
  · specialize "go"
    refine xE_make (cf_Hall_initX (by assumption) (by assumption) (by assumption)) (Room.mono (by assumption) (by decide)) ?_
    specialize "go"
    exact ⟨S, wl, n, rfl, rfl, hb, fun S' o => h S' (Old.app.trans o)⟩
  · specialize "go"
    refine xE_make (cf_Hall_initL (by assumption) (by assumption)) (Room.mono (by assumption) (by decide)) ?_
    specialize "go"
    refine ⟨S, xs, rfl, rfl, h24, hok, hnd, rfl, ?_⟩
    specialize "go"
    exact h _ Old.app
end
end

end
section
-- B3
section
variable {P : Program} {w : World} {K : PySem.W.Frag} {mg : Str → Option Value} {base : Heap} {C_Book C_Way C_Call C_Phone C_Hall C_PE C_BW C_BP C_BN C_BS C_NN C_BD C_BT : Addr}
/-! ### the lambdas of `_law_works` -/
def lamsOf : List Expr → List (Arguments × Expr × Scope)
  | [] => []
  | .Lambda pr bd sc _ :: r => (pr, bd, sc) :: lamsOf r
  | _ :: r => lamsOf r
def catOf : Expr → List Expr
  | .BinOp _ _ (.List es _) _ => es
  | .List es _ => es
  | _ => []
def allLams : List Stmt → List (Arguments × Expr × Scope)
  | .Assign _ e _ :: r => lamsOf (catOf e) ++ allLams r
  | .Return (some e) _ :: r => lamsOf (catOf e) ++ allLams r
  | _ => []
def worksL : List (Arguments × Expr × Scope) := allLams (defBody s_law_works)
def workAt (i : Nat) : Arguments × Expr × Scope := worksL.getD i (⟨[], [], none, [], [], none, []⟩, .Constant .none 0 ⟨0, 0, 0, 0⟩, { kind := .function, names := [], isGenerator := false, isCoroutine := false })
def workQ : Str := ("_law_works" : Str) ++ ".<locals>."
def workFs (i : Nat) (c f d : Addr) (dv : Option (Addr × Int)) : Addr × List (Addr × HO) := (f, lamFs f d (workQ ++ "<lambda>") (workAt i).1 (workAt i).2.1 (workAt i).2.2 (cloFrom [("_law_wishes_here", c)] (workAt i).2.2.names []) dv)
def worksR (c : Addr) (ts : List (Addr × List (Addr × HO))) : Prop := ∃ f0 d0 f1 d1 t1 f2 d2 t2 f3 d3 t3 f4 d4 t4, ts = [workFs 0 c f0 d0 none, workFs 1 c f1 d1 (some (t1, 0)), workFs 2 c f2 d2 (some (t2, 0)), workFs 3 c f3 d3 (some (t3, 0)), workFs 4 c f4 d4 (some (t4, 0))]
section
local macro_rules | `(tactic| specialize "ex") => `(tactic| ((with_reducible show wE _ _ (Expr.Lambda _ _ _ _) _ _ _); refine stop_i ?_))
local macro_rules | `(tactic| specialize "plus") => `(tactic| refine xE_cat ?_)
theorem cf_works {c0 Pt : Addr} (G : GL mg) (D : DS K mg C_Book C_Way C_Call C_Phone C_Hall) (hc : CodeAt K mg "_law_works" c0) (TB : LamX.TabB base mg c0 Pt) : CFn P w K mg base "_law_works" 1 1 (asp_makes (fun S => S[0]? = some (.tab Pt (workQ ++ "<lambda>"))) worksR) := by
  refine D.d_law_works.fnR hc sc_law_works rfl rfl fun f A outer s H E hr c hcl wl S ht => ?_
  obtain rfl : s.heap.objs.size + 1 = c := Option.some.inj hcl
  specialize "go"
  unfold Stop
  refine wE_lam TB rfl ht (lamV_by (by kernel_rfl)) fun f0 d0 => ?_
  specialize "go"
  unfold Stop
  refine wE_lamC TB rfl ht (lamV_by (by kernel_rfl)) rfl fun f1 d1 t1 => ?_
  specialize "go"
  unfold Stop
  refine wE_lamC TB rfl ht (lamV_by (by kernel_rfl)) rfl fun f2 d2 t2 => ?_
  specialize "go"
  unfold Stop
  refine wE_lamC TB rfl ht (lamV_by (by kernel_rfl)) rfl fun f3 d3 t3 => ?_
  specialize "go"
  refine ⟨rfl, ?_⟩
  specialize "go"
  unfold Stop
  refine wE_lamC TB rfl ht (lamV_by (by kernel_rfl)) rfl fun f4 d4 t4 => ?_
  specialize "go"
  exact ⟨rfl, [workFs 0 _ f0 d0 none, workFs 1 _ f1 d1 (some (t1, 0)), workFs 2 _ f2 d2 (some (t2, 0)), workFs 3 _ f3 d3 (some (t3, 0)), workFs 4 _ f4 d4 (some (t4, 0))], rfl, f0, d0, f1, d1, t1, f2, d2, t2, f3, d3, t3, f4, d4, t4, rfl⟩
end
end

end
section
-- ZG
section
variable {P : Program} {w : World} {K : PySem.W.Frag} {mg : Str → Option Value} {base : Heap} {C_Book C_Way C_Call C_Phone C_Hall C_PE C_BW C_BP C_BN C_BS C_NN C_BD C_BT : Addr}
/-- the lambda w of a maker that is gone, which raises always; the words that come of it -/
def sWdG (X : Cx) (k : Nat) (C_PE C_BW C_BP C_BN C_BS C_NN C_BD C_BT : Addr) (w : W) (S : Sto) (Φ : W → Sto → Prop) : Prop :=
  ∃ (f d c a : Addr) (dv : Option (Addr × Int)) (pr : Arguments) (bd : Expr) (sc : Scope) (q nm : Str) (objs : List (Addr × HO)) (wl : W) (Ψ1 : AX),
    w = .thg f (cloFs f d c a q nm pr bd sc dv objs) ∧ LamV [nm] (cloSc nm) sc ∧ LamB pr bd sc dv ∧ Told objs (.ref a) wl ∧ (∀ z ∈ objs, z.1 ≠ c) ∧ Snt S ∧
    (∀ (A : Around) (outer : List Env) (s0 : Shared) (H0 : Hp) (Ech : XK), Room k (A.deeper (LamX.lamEnv (cloCx X q nm c) sc s0.heap.objs.size f d)) → wE (LamX.lamCx (cloCx X q nm c) A outer s0 H0 Ech sc f d) Ψ1 bd [some wl] S fun _ _ => False) ∧
    (∀ cls fs E2 S2, Ψ1 cls fs E2 S2 → ∃ u, wordW C_PE C_BW C_BP C_BN C_BS C_NN C_BD C_BT cls fs u ∧ Old S S2 ∧ Φ u S)
theorem fin_old {S S2 : Sto} {Φ : W → Sto → Prop} {u : W} (hS : Srl S) (o : Old S S2) (fz : ∀ (T : Sto) (n : Nat), Fz T n u u) (h : Φ u S) : fin S.length Φ u S2 := by
  rw [o.split]
  exact fin.drop (Nat.le_refl _) hS (fz _ _) h
theorem word_ofG {X : Cx} {Ψ : AX} {E : AEnv} {S : Sto} {Φ : W → Sto → Prop} {ea : Expr} {p pos : Pos} {k : Nat} (G : GL X.mg) (D : DS X.K X.mg C_Book C_Way C_Call C_Phone C_Hall) (N : EE X.K X.mg C_PE C_BW C_BP C_BN C_BS C_NN C_BD C_BT) (hr : Room (k + 2) X.A)
    (h : wE X Ψ ea E S fun w S1 => sWdG X k C_PE C_BW C_BP C_BN C_BS C_NN C_BD C_BT w S1 Φ) (hg : Gl X "_law_word" := by rfl) (hes : starEach [ea] X.env = (false, eval ea X.env) :: starEach [] X.env := by rfl) : wE X Ψ (.Call (.Name "_law_word" p) [ea] [] pos) E S Φ := by
  refine wE_wordG (i := 1) (a := "_law_work") (en := "_law_e") (xn := "PhoneError") (cE := .ref C_PE) D.d_law_word rfl sc_law_word rfl (.inl rfl) rfl (by decide) rfl rfl N.pe rfl hg hr (h.imp fun w S1 ⟨f, d, c, a, dv, pr, bd, sc, q, nm, objs, wl, Ψ1, e, h1, h2, h3, h4, h5, h6, h7⟩ hS => ⟨f, d, c, a, dv, pr, bd, sc, q, nm, objs, wl, Ψ1, _, e, h1, h2, h3, h4, h5, h6, fun g cdv s1 H1 w S2 hr2 hp => hp.elim, fun cls fs E2 S2 hp => ?_⟩) hes
  obtain ⟨u, hw, ho, hp⟩ := h7 cls fs E2 S2 hp
  have f1 : ∀ (x : Str) (i : Int) (T : Sto) (n : Nat), Fz T n (.tup [.str x, .int i]) (.tup [.str x, .int i]) := fun x i T n => .tup (.cons (.str x) (.cons (.int i) .nil))
  rcases hw with ⟨i, rfl, rfl, rfl⟩ | ⟨rfl, rfl, rfl⟩ | ⟨i, rfl, rfl, rfl⟩
  · have hp := fin_old hS ho (f1 _ _) hp
    refine ⟨N.e_BW.em, fun g cdv s1 H1 aE oe dd pn hr2 hz hf hd hs => ?_⟩
    obtain ⟨d, rfl⟩ := hs (by simp)
    exact word_BW G N hr2 hz hf hp
  · have hp := fin_old hS ho (fun _ _ => .str _) hp
    refine ⟨N.e_BP.em, fun g cdv s1 H1 aE oe dd pn hr2 hz hf hd hs => ?_⟩
    cases hd rfl
    exact word_BP (d := 0) (i := 0) G N hr2 hz hf hp
  · have hp := fin_old hS ho (f1 _ _) hp
    refine ⟨N.e_BD.em, fun g cdv s1 H1 aE oe dd pn hr2 hz hf hd hs => ?_⟩
    obtain ⟨d, rfl⟩ := hs (by simp)
    exact word_BD G N hr2 hz hf hp
end

end
section
-- B4
section
variable {P : Program} {w : World} {K : PySem.W.Frag} {mg : Str → Option Value} {base : Heap} {C_Book C_Way C_Call C_Phone C_Hall C_PE C_BW C_BP C_BN C_BS C_NN C_BD C_BT : Addr}
theorem sWdG_exc {X : Cx} {k : Nat} {f d c a : Addr} {dv : Option (Addr × Int)} {pr : Arguments} {bd : Expr} {sc : Scope} {q nm : Str} {objs : List (Addr × HO)} {wl : W} {S : Sto} {Φ : W → Sto → Prop} {cls0 : Value} {fs0 : List (Str × W)} {u0 : W} (hw : wordW C_PE C_BW C_BP C_BN C_BS C_NN C_BD C_BT cls0 fs0 u0)
    (hL : LamV [nm] (cloSc nm) sc) (hB : LamB pr bd sc dv) (tl : Told objs (.ref a) wl) (nq : ∀ z ∈ objs, z.1 ≠ c) (nt : Snt S)
    (body : ∀ (A : Around) (outer : List Env) (s0 : Shared) (H0 : Hp) (Ech : XK), Room k (A.deeper (LamX.lamEnv (cloCx X q nm c) sc s0.heap.objs.size f d)) → wE (LamX.lamCx (cloCx X q nm c) A outer s0 H0 Ech sc f d) (fun cls fs _ S2 => cls = cls0 ∧ fs = fs0 ∧ Old S S2) bd [some wl] S fun _ _ => False) (h : Φ u0 S) :
    sWdG X k C_PE C_BW C_BP C_BN C_BS C_NN C_BD C_BT (.thg f (cloFs f d c a q nm pr bd sc dv objs)) S Φ :=
  ⟨f, d, c, a, dv, pr, bd, sc, q, nm, objs, wl, _, rfl, hL, hB, tl, nq, nt, body, fun cls fs E2 S2 ⟨e1, e2, e3⟩ => ⟨u0, by rw [e1, e2]; exact hw, e3, h⟩⟩
section
local macro_rules | `(tactic| specialize "fun") => `(tactic| ((with_reducible show wE _ _ (Expr.Call (Expr.Name (Str.ofString "led") _) _ _ _) _ _ _); refine xE_call (cf_led1 (by assumption) (by assumption) (by assumption)) (Room.mono (by assumption) (by decide)) ?_))
local macro_rules | `(tactic| specialize "fun") => `(tactic| ((with_reducible show wE _ _ (Expr.Call (Expr.Name (Str.ofString "wants") _) _ _ _) _ _ _); refine xE_call (cf_wants1 (by assumption) (by assumption) (by assumption)) (Room.mono (by assumption) (by decide)) ?_))
local macro_rules | `(tactic| specialize "fun") => `(tactic| ((with_reducible show wE _ _ (Expr.Call (Expr.Name (Str.ofString "played") _) _ _ _) _ _ _); refine xE_call (cf_played1 (by assumption) (by assumption) (by assumption)) (Room.mono (by assumption) (by decide)) ?_))
local macro_rules | `(tactic| specialize "fun") => `(tactic| ((with_reducible show wE _ _ (Expr.Call (Expr.Name (Str.ofString "written") _) _ _ _) _ _ _); refine xE_call (cf_written1 (by assumption) (by assumption) (by assumption)) (Room.mono (by assumption) (by decide)) ?_))
variable {X : Cx} {S : Sto} {Φ : W → Sto → Prop} {c a f d t : Addr} {objs : List (Addr × HO)} {wl : List W} {cls0 : Value} {fs0 : List (Str × W)} {u0 : W}
theorem wd_0 (G : GL X.mg) (D : DS X.K X.mg C_Book C_Way C_Call C_Phone C_Hall) (N : EE X.K X.mg C_PE C_BW C_BP C_BN C_BS C_NN C_BD C_BT) (hw : wordW C_PE C_BW C_BP C_BN C_BS C_NN C_BD C_BT cls0 fs0 u0) (tl : Told objs (.ref a) (.lst wl)) (nq : ∀ z ∈ objs, z.1 ≠ c) (nt : Snt S)
    (o : Outc C_BW (.ref C_BP) [] wl (fun cls fs S2 => cls = cls0 ∧ fs = fs0 ∧ Old S S2) S) (h : Φ u0 S) : sWdG X 9 C_PE C_BW C_BP C_BN C_BS C_NN C_BD C_BT (moreT ((c, CellO c (.ref a)) :: objs) (workFs 0 c f d none)) S Φ := by
  refine sWdG_exc (q := workQ) (nm := "_law_wishes_here") hw (lamV_by (by kernel_rfl)) (fun _ _ _ _ _ _ => rfl) tl nq nt (fun A outer s0 H0 Ech hr => ?_) h
  change wE _ _ (Expr.Call (Expr.Name (Str.ofString "led") _) [_, _, _, _] _ _) _ _ _
  specialize "go"
  exact ⟨wl, _, rfl, o⟩
theorem wd_1 (G : GL X.mg) (D : DS X.K X.mg C_Book C_Way C_Call C_Phone C_Hall) (N : EE X.K X.mg C_PE C_BW C_BP C_BN C_BS C_NN C_BD C_BT) (hw : wordW C_PE C_BW C_BP C_BN C_BS C_NN C_BD C_BT cls0 fs0 u0) (tl : Told objs (.ref a) (.lst wl)) (nq : ∀ z ∈ objs, z.1 ≠ c) (nt : Snt S)
    (o : Outc C_BW (.ref C_BP) [] wl (fun cls fs S2 => cls = cls0 ∧ fs = fs0 ∧ Old S S2) S) (h : Φ u0 S) : sWdG X 9 C_PE C_BW C_BP C_BN C_BS C_NN C_BD C_BT (moreT ((c, CellO c (.ref a)) :: objs) (workFs 1 c f d (some (t, 0)))) S Φ := by
  refine sWdG_exc (q := workQ) (nm := "_law_wishes_here") hw (lamV_by (by kernel_rfl)) ⟨_, rfl, fun _ _ _ _ _ _ => ⟨_, rfl, fun _ => rfl⟩⟩ tl nq nt (fun A outer s0 H0 Ech hr => ?_) h
  change wE _ _ (Expr.Call (Expr.Name (Str.ofString "wants") _) [_, _, _, _, _] _ _) _ _ _
  specialize "go"
  exact ⟨wl, _, _, rfl, o⟩
theorem wd_2 (G : GL X.mg) (D : DS X.K X.mg C_Book C_Way C_Call C_Phone C_Hall) (N : EE X.K X.mg C_PE C_BW C_BP C_BN C_BS C_NN C_BD C_BT) (hw : wordW C_PE C_BW C_BP C_BN C_BS C_NN C_BD C_BT cls0 fs0 u0) (tl : Told objs (.ref a) (.lst wl)) (nq : ∀ z ∈ objs, z.1 ≠ c) (nt : Snt S)
    (o : Outc C_BW (.ref C_BD) [("number", .int 0)] wl (fun cls fs S2 => cls = cls0 ∧ fs = fs0 ∧ Old S S2) S) (h : Φ u0 S) : sWdG X 9 C_PE C_BW C_BP C_BN C_BS C_NN C_BD C_BT (moreT ((c, CellO c (.ref a)) :: objs) (workFs 2 c f d (some (t, 0)))) S Φ := by
  refine sWdG_exc (q := workQ) (nm := "_law_wishes_here") hw (lamV_by (by kernel_rfl)) ⟨_, rfl, fun _ _ _ _ _ _ => ⟨_, rfl, fun _ => rfl⟩⟩ tl nq nt (fun A outer s0 H0 Ech hr => ?_) h
  change wE _ _ (Expr.Call (Expr.Name (Str.ofString "played") _) [_, _] _ _) _ _ _
  specialize "go"
  exact ⟨wl, rfl, o⟩
theorem wd_3 (G : GL X.mg) (D : DS X.K X.mg C_Book C_Way C_Call C_Phone C_Hall) (N : EE X.K X.mg C_PE C_BW C_BP C_BN C_BS C_NN C_BD C_BT) (hw : wordW C_PE C_BW C_BP C_BN C_BS C_NN C_BD C_BT cls0 fs0 u0) (tl : Told objs (.ref a) (.lst wl)) (nq : ∀ z ∈ objs, z.1 ≠ c) (nt : Snt S)
    (o : Outc C_BW (.ref C_BD) [("number", .int 0)] wl (fun cls fs S2 => cls = cls0 ∧ fs = fs0 ∧ Old S S2) S) (h : Φ u0 S) : sWdG X 9 C_PE C_BW C_BP C_BN C_BS C_NN C_BD C_BT (moreT ((c, CellO c (.ref a)) :: objs) (workFs 3 c f d (some (t, 0)))) S Φ := by
  refine sWdG_exc (q := workQ) (nm := "_law_wishes_here") hw (lamV_by (by kernel_rfl)) ⟨_, rfl, fun _ _ _ _ _ _ => ⟨_, rfl, fun _ => rfl⟩⟩ tl nq nt (fun A outer s0 H0 Ech hr => ?_) h
  change wE _ _ (Expr.Call (Expr.Name (Str.ofString "written") _) [_, _] _ _) _ _ _
  specialize "go"
  exact ⟨wl, rfl, o⟩
theorem wd_4 (G : GL X.mg) (D : DS X.K X.mg C_Book C_Way C_Call C_Phone C_Hall) (N : EE X.K X.mg C_PE C_BW C_BP C_BN C_BS C_NN C_BD C_BT) (hw : wordW C_PE C_BW C_BP C_BN C_BS C_NN C_BD C_BT cls0 fs0 u0) (tl : Told objs (.ref a) (.lst wl)) (nq : ∀ z ∈ objs, z.1 ≠ c) (nt : Snt S)
    (o : Outc C_BW (.ref C_BP) [] wl (fun cls fs S2 => cls = cls0 ∧ fs = fs0 ∧ Old S S2) S) (h : Φ u0 S) : sWdG X 9 C_PE C_BW C_BP C_BN C_BS C_NN C_BD C_BT (moreT ((c, CellO c (.ref a)) :: objs) (workFs 4 c f d (some (t, 0)))) S Φ := by
  refine sWdG_exc (q := workQ) (nm := "_law_wishes_here") hw (lamV_by (by kernel_rfl)) ⟨_, rfl, fun _ _ _ _ _ _ => ⟨_, rfl, fun _ => rfl⟩⟩ tl nq nt (fun A outer s0 H0 Ech hr => ?_) h
  change wE _ _ (Expr.Call (Expr.Attribute (Expr.Call (Expr.Name (Str.ofString "Hall") _) _ _ _) (Str.ofString "lift") _) _ _ _) _ _ _
  refine xE_meth (DS.cls_Hall (by assumption)) (cf_liftP (by assumption) (by assumption) (by assumption)) (Room.mono (by assumption) (by decide)) ?_
  rcases o with ⟨n, hb, ho⟩ | ⟨xs, rfl, h24, hok, hnd, ho⟩
  · refine xE_make (cf_Hall_initX (by assumption) (by assumption) (by assumption)) (Room.mono (by assumption) (by decide)) ?_
    specialize "go"
    exact ⟨S, wl, n, rfl, rfl, hb, fun S' o => ho S' (Old.app.trans o)⟩
  · refine xE_make (cf_Hall_initL (by assumption) (by assumption)) (Room.mono (by assumption) (by decide)) ?_
    specialize "go"
    refine ⟨S, xs, rfl, rfl, h24, hok, hnd, rfl, ?_⟩
    specialize "go"
    exact ⟨_, _, rfl, nth_new0.trans rfl, rfl, ho _ Old.app⟩
end
theorem wish_self {n : Int} : inW (.tup [.str "wish", .int n]) [.tup [.str "wish", .int n]] = true := by
  show (eqW _ _ || false) = true
  rw [eqW_tt, eqW_tt, eqW_t0, eqW_str, eqW_int]
  simp
theorem are_word {X : Cx} {S : Sto} {c a : Addr} {objs : List (Addr × HO)} {ts : List (Addr × List (Addr × HO))} {wl words : List W} (G : GL X.mg) (D : DS X.K X.mg C_Book C_Way C_Call C_Phone C_Hall) (N : EE X.K X.mg C_PE C_BW C_BP C_BN C_BS C_NN C_BD C_BT) (hR : worksR c ts) (tl : Told objs (.ref a) (.lst wl)) (nq : ∀ z ∈ objs, z.1 ≠ c) (nt : Snt S)
    (hcase : (∃ n : Nat, BadWs wl n ∧ words = [.tup [.str "wish", .int n]]) ∨ ∃ xs : List Wish, wl = xs.map Wish.w ∧ xs.length ≤ 24 ∧ (∀ x ∈ xs, x.ok) ∧ (xs.map Wish.key).Nodup ∧ words = [.str "phone", .tup [.str "deed", .int 0]]) {t : Addr × List (Addr × HO)} (ht : t ∈ ts) :
    sWdG X 9 C_PE C_BW C_BP C_BN C_BS C_NN C_BD C_BT (moreT ((c, CellO c (.ref a)) :: objs) t) S fun u S2 => S2 = S ∧ u.ok 59 = true ∧ inW u words = true := by
  obtain ⟨f0, d0, f1, d1, t1, f2, d2, t2, f3, d3, t3, f4, d4, t4, rfl⟩ := hR
  simp only [List.mem_cons, List.not_mem_nil, or_false] at ht
  rcases hcase with ⟨n, hb, rfl⟩ | ⟨xs, rfl, h24, hok, hnd, rfl⟩
  · have hw : wordW C_PE C_BW C_BP C_BN C_BS C_NN C_BD C_BT (.ref C_BW) [(("number" : Str), W.int n)] (.tup [.str "wish", .int n]) := .inl ⟨_, rfl, rfl, rfl⟩
    have hu : (W.tup [.str "wish", .int n]).ok 59 = true := by simp only [W.ok, W.oks, Bool.and_true]; decide +kernel
    rcases ht with rfl | rfl | rfl | rfl | rfl
    · exact wd_0 G D N hw tl nq nt (.inl ⟨n, hb, fun S' o => ⟨rfl, rfl, o⟩⟩) ⟨rfl, hu, wish_self⟩
    · exact wd_1 G D N hw tl nq nt (.inl ⟨n, hb, fun S' o => ⟨rfl, rfl, o⟩⟩) ⟨rfl, hu, wish_self⟩
    · exact wd_2 G D N hw tl nq nt (.inl ⟨n, hb, fun S' o => ⟨rfl, rfl, o⟩⟩) ⟨rfl, hu, wish_self⟩
    · exact wd_3 G D N hw tl nq nt (.inl ⟨n, hb, fun S' o => ⟨rfl, rfl, o⟩⟩) ⟨rfl, hu, wish_self⟩
    · exact wd_4 G D N hw tl nq nt (.inl ⟨n, hb, fun S' o => ⟨rfl, rfl, o⟩⟩) ⟨rfl, hu, wish_self⟩
  · have hw : wordW C_PE C_BW C_BP C_BN C_BS C_NN C_BD C_BT (.ref C_BP) [] (.str "phone") := .inr (.inl ⟨rfl, rfl, rfl⟩)
    have hw2 : wordW C_PE C_BW C_BP C_BN C_BS C_NN C_BD C_BT (.ref C_BD) [(("number" : Str), W.int 0)] (.tup [.str "deed", .int 0]) := .inr (.inr ⟨_, rfl, rfl, rfl⟩)
    have hu : (W.str "phone").ok 59 = true := by decide +kernel
    have hu2 : (W.tup [.str "deed", .int 0]).ok 59 = true := by decide +kernel
    have i1 : inW (.str "phone") [.str "phone", .tup [.str "deed", .int 0]] = true := by decide +kernel
    have i2 : inW (.tup [.str "deed", .int 0]) [.str "phone", .tup [.str "deed", .int 0]] = true := by decide +kernel
    rcases ht with rfl | rfl | rfl | rfl | rfl
    · exact wd_0 G D N hw tl nq nt (.inr ⟨xs, rfl, h24, hok, hnd, fun S' o => ⟨rfl, rfl, o⟩⟩) ⟨rfl, hu, i1⟩
    · exact wd_1 G D N hw tl nq nt (.inr ⟨xs, rfl, h24, hok, hnd, fun S' o => ⟨rfl, rfl, o⟩⟩) ⟨rfl, hu, i1⟩
    · exact wd_2 G D N hw2 tl nq nt (.inr ⟨xs, rfl, h24, hok, hnd, fun S' o => ⟨rfl, rfl, o⟩⟩) ⟨rfl, hu2, i2⟩
    · exact wd_3 G D N hw2 tl nq nt (.inr ⟨xs, rfl, h24, hok, hnd, fun S' o => ⟨rfl, rfl, o⟩⟩) ⟨rfl, hu2, i2⟩
    · exact wd_4 G D N hw tl nq nt (.inr ⟨xs, rfl, h24, hok, hnd, fun S' o => ⟨rfl, rfl, o⟩⟩) ⟨rfl, hu, i1⟩
def asp_are : ASp := fun ws S Φ _ => ∃ (c a : Addr) (objs : List (Addr × HO)) (ts : List (Addr × List (Addr × HO))) (wl words : List W), ws = [.lst (ts.map (moreT ((c, CellO c (.ref a)) :: objs))), .lst words] ∧ worksR c ts ∧ Told objs (.ref a) (.lst wl) ∧ (∀ z ∈ objs, z.1 ≠ c) ∧ Snt S ∧
  ((∃ n : Nat, BadWs wl n ∧ words = [.tup [.str "wish", .int n]]) ∨ ∃ xs : List Wish, wl = xs.map Wish.w ∧ xs.length ≤ 24 ∧ (∀ x ∈ xs, x.ok) ∧ (xs.map Wish.key).Nodup ∧ words = [.str "phone", .tup [.str "deed", .int 0]]) ∧ Φ (.bl true) S
section
local macro_rules | `(tactic| specialize "fun") => `(tactic| ((with_reducible show wE _ _ (Expr.Call (Expr.Name (Str.ofString "_law_word") _) _ _ _) _ _ _); refine stop_i ?_))
local macro_rules | `(tactic| specialize "s0") => `(tactic| ((with_reducible show sLc _ _ _ _ _ _ _ _ _ _); refine stop_i ?_))
theorem cf_are (G : GL mg) (D : DS K mg C_Book C_Way C_Call C_Phone C_Hall) (N : EE K mg C_PE C_BW C_BP C_BN C_BS C_NN C_BD C_BT) : CFn P w K mg base "_law_are" 12 2 asp_are := by
  refine D.d_law_are.fn sc_law_are fun f cdv A outer s H E hr ws S Φ Ψ hl hS ha => ?_
  obtain ⟨c, a, objs, ts, wl, words, rfl, hR, tl, nq, nt, hcase, h⟩ := ha
  specialize "go"
  unfold Stop
  refine sLc_i (xs := ts) (enc := moreT ((c, CellO c (.ref a)) :: objs)) (p := fun _ => false) (g := fun _ => .non) trivial ?_ (fun t ht => ?_) ?_
  · obtain ⟨f0, d0, f1, d1, t1, f2, d2, t2, f3, d3, t3, f4, d4, t4, rfl⟩ := hR
    exact Nat.le_of_ble_eq_true rfl
  · refine TurnP.one_i ?_ ?_
    · intro s1 H0 C cl fp
      specialize "go"
      unfold Stop
      refine wE.imp (word_ofG (k := 9) (Φ := fun u S2 => S2 = S ∧ u.ok 59 = true ∧ inW u words = true) G D N (Room.mono hr (by decide)) ?_) ?_
      · specialize "go"
        exact are_word G D N hR tl nq nt hcase ht
      · rintro u S2 ⟨rfl, hu, hin⟩
        have hwo : W.oks words 59 = true := by
          rcases hcase with ⟨n, hb, rfl⟩ | ⟨xs, rfl, h24, hok, hnd, rfl⟩
          · simp only [W.oks, W.ok, Bool.and_true]; decide +kernel
          · decide +kernel
        specialize "go"
        exact ⟨by rw [hin]; rfl, rfl⟩
    · intro hp
      cases hp
  · rw [List.filter_eq_nil_iff.mpr (fun _ _ => Bool.false_ne_true)]
    specialize "go"
    exact fin.as h
end
end

end
section
-- B5p
/-! ### things that are no wishes -/
theorem isw_split (a : Str) (b : W) (r : List W) : isWishW (.tup (.str a :: b :: r)) = if a = "group" then grpR b r else (isNumW b 0 5 && (if a = "wait" ∨ a = "still" then r.isEmpty else if a = "bar" then barR b r else if a = "all" ∨ a = "busy" ∨ a = "late" then goalR (decide (a = "late")) b r else false)) := by
  unfold isWishW
  dsimp only
  by_cases h0 : a = "group"
  · rw [if_pos (decide_eq_true h0), if_pos h0]
  rw [if_neg (by rw [decide_eq_false h0]; exact Bool.false_ne_true), if_neg h0]
  cases hb : isNumW b 0 5 with
  | false => rw [if_pos rfl]; rfl
  | true =>
    rw [if_neg (fun z => nomatch z), Bool.true_and]
    by_cases h1 : a = "wait" ∨ a = "still"
    · rw [if_pos (by rcases h1 with h | h <;> simp [h]), if_pos h1]
    rw [if_neg (by rw [Bool.or_eq_true, decide_eq_true_eq, decide_eq_true_eq]; exact h1), if_neg h1]
    by_cases h2 : a = "bar"
    · rw [if_pos (decide_eq_true h2), if_pos h2]
    rw [if_neg (by rw [decide_eq_true_eq]; exact h2), if_neg h2]
    by_cases h3 : a = "all" ∨ a = "busy" ∨ a = "late"
    · rw [if_neg (by rcases h3 with h | h | h <;> simp [h]), if_pos h3]
    · rw [if_pos (by simp only [not_or] at h3; simp [h3]), if_neg h3]
theorem isw_all {b : W} {r : List W} : isWishW (.tup (.str "all" :: b :: r)) = (isNumW b 0 5 && goalR false b r) := by
  rw [isw_split, if_neg (by decide +kernel), if_neg (by decide +kernel), if_neg (by decide +kernel), if_pos (by decide +kernel), show decide (("all" : Str) = "late") = false by decide +kernel]
theorem isw_busy {b : W} {r : List W} : isWishW (.tup (.str "busy" :: b :: r)) = (isNumW b 0 5 && goalR false b r) := by
  rw [isw_split, if_neg (by decide +kernel), if_neg (by decide +kernel), if_neg (by decide +kernel), if_pos (by decide +kernel), show decide (("busy" : Str) = "late") = false by decide +kernel]
theorem isw_late {b : W} {r : List W} : isWishW (.tup (.str "late" :: b :: r)) = (isNumW b 0 5 && goalR true b r) := by
  rw [isw_split, if_neg (by decide +kernel), if_neg (by decide +kernel), if_neg (by decide +kernel), if_pos (by decide +kernel), show decide (("late" : Str) = "late") = true by decide +kernel]
theorem isw_wait {b : W} {r : List W} : isWishW (.tup (.str "wait" :: b :: r)) = (isNumW b 0 5 && r.isEmpty) := by
  rw [isw_split, if_neg (by decide +kernel), if_pos (by decide +kernel)]
theorem isw_still {b : W} {r : List W} : isWishW (.tup (.str "still" :: b :: r)) = (isNumW b 0 5 && r.isEmpty) := by
  rw [isw_split, if_neg (by decide +kernel), if_pos (by decide +kernel)]
theorem isw_bar {b : W} {r : List W} : isWishW (.tup (.str "bar" :: b :: r)) = (isNumW b 0 5 && barR b r) := by
  rw [isw_split, if_neg (by decide +kernel), if_neg (by decide +kernel), if_pos (by decide +kernel)]
theorem isw_group {b : W} {r : List W} : isWishW (.tup (.str "group" :: b :: r)) = grpR b r := by
  rw [isw_split, if_pos rfl]
def sevenW : List Str := ["all", "busy", "late", "wait", "still", "bar", "group"]
theorem isw_other {a : Str} {b : W} {r : List W} (h : (sevenW.contains a) = false) : isWishW (.tup (.str a :: b :: r)) = false := by
  have h : a ∉ sevenW := fun m => by rw [List.contains_iff_mem.mpr m] at h; cases h
  simp only [sevenW, List.mem_cons, List.not_mem_nil, or_false, not_or] at h
  obtain ⟨h1, h2, h3, h4, h5, h6, h7⟩ := h
  rw [isw_split, if_neg h7, if_neg (by simp [h4, h5]), if_neg h6, if_neg (by simp [h1, h2, h3]), Bool.and_false]
theorem num_not {i lo hi : Int} (h : ¬ (lo ≤ i ∧ i ≤ hi)) : isNumW (.int i) lo hi = false := by
  show (decide (lo ≤ i) && decide (i ≤ hi)) = false
  by_cases q : lo ≤ i
  · rw [decide_eq_true q, decide_eq_false (fun z => h ⟨q, z⟩)]; rfl
  · rw [decide_eq_false q]; rfl
/-- no wish, of a short kind -/
def NoWish (b : W) : Prop := isWishW b = false ∧ b.ok 59 = true ∧ (∀ l m, b = .tup l → .tup m ∈ l → m.length ≤ 100000) ∧ ∀ l, b = .tup l → l.length ≤ 100000
def shortT : W → Bool
  | .tup m => decide (m.length ≤ 1000)
  | _ => true
theorem NoWish.of {l : List W} (h : isWishW (.tup l) = false) (ho : W.oks l 58 = true) (hl : l.length ≤ 1000) (hs : l.all shortT = true) : NoWish (.tup l) := by
  refine ⟨h, by simpa [W.ok] using ho, ?_, ?_⟩
  · rintro l' m e hm
    cases e
    have := List.all_eq_true.mp hs _ hm
    have := of_decide_eq_true this
    omega
  · rintro l' e
    cases e
    omega
theorem sIx_n {l : List W} {i : Int} {S : Sto} {Φ : W → Sto → Prop} {Q : W → Prop} (h0 : 0 ≤ i) (h1 : i < l.length) (hq : ∀ w ∈ l, Q w) (h : ∀ w, Q w → Φ w S) : sIx (.lst l) (.int i) S Φ := by
  obtain ⟨n, rfl, hn⟩ : ∃ n : Nat, i = n ∧ n < l.length := ⟨i.toNat, by omega, by omega⟩
  exact sIx_i (w := l[n]) rfl (atI_nat (List.getElem?_eq_getElem hn)) (h _ (hq _ (List.getElem_mem hn)))
theorem wVs_cons {X : Cx} {Ψ : AX} {v : Expr} {vs : List Expr} {E : AEnv} {S : Sto} {Φ : List W → Sto → Prop} (h : wE X Ψ v E S fun w S1 => wVs X Ψ vs E S1 fun ws S2 => Φ (w :: ws) S2) : wVs X Ψ (v :: vs) E S Φ := h
theorem wVs_nil {X : Cx} {Ψ : AX} {E : AEnv} {S : Sto} {Φ : List W → Sto → Prop} (h : Φ [] S) : wVs X Ψ [] E S Φ := h
/-- what stands in no number's place -/
def BadV (most : Int) (w : W) : Prop := isNumW w 0 most = false ∧ w.ok 5 = true ∧ shortT w = true
theorem str_ok9 {i : Int} (h0 : 0 ≤ i) (h9 : i ≤ 9) : PyData.strOk (Str.ofString (toString i)) = true := by
  have q : ∀ m : Fin 10, PyData.strOk (Str.ofString (toString ((m.val : Nat) : Int))) = true := by decide +kernel
  obtain ⟨n, rfl, hn⟩ : ∃ n : Nat, i = n ∧ n < 10 := ⟨i.toNat, by omega, by omega⟩
  exact q ⟨n, hn⟩
theorem bad4 {most far i : Int} (hm : 0 ≤ most) (hf : 0 ≤ far) (h0 : 0 ≤ i) (h9 : i ≤ 9) : ∀ w ∈ [W.int (most + 1 + far), .int (0 - 1 - far), .str (Str.ofString (toString i)), .tup [.int i]], BadV most w := by
  intro w hw
  simp only [List.mem_cons, List.not_mem_nil, or_false] at hw
  rcases hw with rfl | rfl | rfl | rfl
  · exact ⟨num_not (by omega), rfl, rfl⟩
  · exact ⟨num_not (by omega), rfl, rfl⟩
  · exact ⟨rfl, by simpa [W.ok] using str_ok9 h0 h9, rfl⟩
  · exact ⟨rfl, rfl, rfl⟩
theorem BadV.one9 {w : W} (h : BadV 9 w) : isNumW w 1 9 = false := by
  have h := h.1
  cases w with
  | int i =>
    show (decide (1 ≤ i) && decide (i ≤ 9)) = false
    have h : (decide (0 ≤ i) && decide (i ≤ 9)) = false := h
    by_cases q : i ≤ 9
    · rw [decide_eq_true q, Bool.and_true] at h ⊢
      have := of_decide_eq_false h
      exact decide_eq_false (by omega)
    · rw [decide_eq_false q, Bool.and_false]
  | _ => rfl
theorem BadV.oks {most : Int} {v : W} (h : BadV most v) : v.ok 58 = true := W.ok_mono _ (by decide) h.2.1
theorem eqW_i {i : Int} : eqW (.int i) (.int i) = true := by rw [eqW_int]; exact decide_eq_true rfl
mutual
theorem ok_rlt {m : Nat} : ∀ (w : W) (n : Nat), w.ok n = true → w.rlt m = true
  | .non, _, _ => rfl
  | .bl _, _, _ => rfl
  | .int _, _, _ => rfl
  | .str _, _, _ => rfl
  | .tup ws, n, h => by
    cases n with
    | zero => simp [W.ok] at h
    | succ n =>
      simp only [W.rlt]
      exact oks_rlt ws n (by simpa [W.ok] using h)
  | .lst ws, n, h => by
    cases n with
    | zero => simp [W.ok] at h
    | succ n =>
      simp only [W.rlt]
      exact oks_rlt ws n (by simpa [W.ok] using h)
  | .ref _, _, h => by simp [W.ok] at h
  | .raw _, _, h => by simp [W.ok] at h
  | .scr _ _, _, h => by simp [W.ok] at h
  | .xi _ _ _ _, _, h => by simp [W.ok] at h
  | .thg _ _, _, h => by simp [W.ok] at h
theorem oks_rlt {m : Nat} : ∀ (ws : List W) (n : Nat), W.oks ws n = true → W.rlts m ws = true
  | [], _, _ => rfl
  | w :: ws, n, h => by
    simp only [W.oks, Bool.and_eq_true] at h
    simp only [W.rlts, Bool.and_eq_true]
    exact ⟨ok_rlt w n h.1, oks_rlt ws n h.2⟩
end
theorem fin_tup {S : Sto} {o : O} {l : List W} {Φ : W → Sto → Prop} (hS : Srl S) (ho : W.oks l 59 = true) (h : Φ (.tup l) S) : fin S.length Φ (.tup l) (S ++ [o]) :=
  fin.drop (Nat.le_refl _) hS (.tup (fzs_self _ (oks_rlt l 59 ho))) h
theorem zero19 : isNumW (.int 0) 1 9 = false := rfl
theorem msOk.len {ms : List Int} (h : msOk ms) : ms.length ≤ 6 := by
  obtain ⟨_, h4, _⟩ := h
  omega
theorem cut_toN {l : List W} {v : Int} (h0 : 0 ≤ v) : cutW l none (some v) = l.take v.toNat := by
  unfold cutW
  obtain ⟨n, rfl⟩ : ∃ n : Nat, v = n := ⟨v.toNat, by omega⟩
  rw [HT.sIx_none, HT.sIx_nat, Int.toNat_natCast, List.drop_zero, Nat.sub_zero, List.take_eq_take_iff]
  omega
theorem cut_fromN {l : List W} {v : Int} (h0 : 0 ≤ v) : cutW l (some v) none = l.drop v.toNat := by
  unfold cutW
  obtain ⟨n, rfl⟩ : ∃ n : Nat, v = n := ⟨v.toNat, by omega⟩
  rw [HT.sIx_none, HT.sIx_nat, Int.toNat_natCast]
  rcases Nat.le_total n l.length with h | h
  · rw [Nat.min_eq_left h, ← List.length_drop, List.take_length]
  · rw [Nat.min_eq_right h, List.drop_length, List.drop_eq_nil_of_le h, List.take_nil]
theorem sCut_toF {α : Type} {f : α → W} {ls : List α} {v : Int} {S : Sto} {Φ : W → Sto → Prop} (h0 : 0 ≤ v) (h : Φ (.lst ((ls.take v.toNat).map f)) S) : sCut (.lst (ls.map f)) none (some v) S Φ := sCut_l (by rw [cut_toN h0, ← List.map_take]; exact h)
theorem sCut_fromF {α : Type} {f : α → W} {ls : List α} {v : Int} {S : Sto} {Φ : W → Sto → Prop} (h0 : 0 ≤ v) (h : Φ (.lst ((ls.drop v.toNat).map f)) S) : sCut (.lst (ls.map f)) (some v) none S Φ := sCut_l (by rw [cut_fromN h0, ← List.map_drop]; exact h)
theorem fin_nw {S : Sto} {o : O} {l : List W} {Φ : W → Sto → Prop} (hS : Srl S) (hn : NoWish (.tup l)) (h : ∀ b, NoWish b → Φ b S) : fin S.length Φ (.tup l) (S ++ [o]) := fin_tup hS (W.oks_mono _ (show 58 ≤ 59 by decide) (by simpa [W.ok] using hn.2.1)) (h _ hn)

end
section
-- B5r
/-! ### wishes told otherwise in one place -/
def mostD : List (Key × W) := mergeW [] ((([("all" : Str), "busy", "late", "bar"] : List Str).map Sum.inr).zip [W.lst [W.int 5, W.int 7], W.lst [W.int 5, W.int 7], W.lst [W.int 5, W.int 7, W.int 9], W.lst [W.int 5, W.int 5]])
structure OddK (x : Wish) (a : Str) (ns ms : List Int) : Prop where
  hw : x.w = .tup (.str a :: ns.map W.int)
  hg : a ≠ "group"
  hn : 1 ≤ ns.length
  h3 : ns.length ≤ 3
  dig : ∀ n ∈ ns, 0 ≤ n ∧ n ≤ 9
  al : a.length ≤ 5
  so : PyData.strOk a = true
  most : (valW mostD (Sum.inr a)).getD (.lst [.int 5]) = .lst (ms.map W.int)
  ml : ns.length ≤ ms.length
  mp : ∀ m ∈ ms, 0 ≤ m
  z0 : ∀ b ∈ [W.tup (.str a :: ns.map W.int ++ [.int 0]), .tup (cutW (.str a :: ns.map W.int) none (some (-1))), .tup [], .tup ([.str (Txt.upper a)] ++ ns.map W.int), .tup ([.int 0] ++ ns.map W.int), .tup ([.str (cutS a none (some (-1)))] ++ ns.map W.int)], NoWish b
  z1 : ∀ (j : Nat) (n m : Int) (v : W), ns[j]? = some n → ms[j]? = some m → BadV m v → NoWish (.tup ([.str a] ++ ((ns.take j).map W.int ++ [v] ++ (ns.drop (j + 1)).map W.int)))
  z2 : ∀ (n p : Int), ns[1]? = some n → ns[0]? = some p → NoWish (.tup ([.str a] ++ ((ns.take 1).map W.int ++ [.int p] ++ (ns.drop 2).map W.int)))
  z3 : ∀ n : Int, ns[2]? = some n → NoWish (.tup ([.str a] ++ ((ns.take 2).map W.int ++ [.int 0] ++ (ns.drop 3).map W.int)))
theorem oddK_of {x : Wish} (h : x.ok) (hg : ∀ g ms, x ≠ .group g ms) : ∃ a ns ms, OddK x a ns ms := by
  have ok3 : ∀ {most : Int} {v : W}, BadV most v → ∀ {l r : List W}, W.oks l 58 = true → W.oks r 58 = true → W.oks (l ++ [v] ++ r) 58 = true := by
    intro most v hv l r h1 h2
    rw [W.oks_all] at h1 h2 ⊢
    simp only [List.all_append, List.all_cons, List.all_nil, h1, h2, hv.oks, Bool.and_true]
  cases x with
  | group g ms => exact absurd rfl (hg g ms)
  | all p g =>
    obtain ⟨p0, p5, g0, g7, hpg⟩ := h
    refine ⟨"all", [p, g], [5, 7], ⟨rfl, by decide +kernel, Nat.le_of_ble_eq_true rfl, Nat.le_of_ble_eq_true rfl, fun m hm => ?_, by decide +kernel, by decide +kernel, by kernel_rfl, Nat.le_of_ble_eq_true rfl, by decide, fun b hb => ?_, fun j n m v hj hm hv => ?_, fun n q hn hq => ?_, fun n hn => ?_⟩⟩
    · simp only [List.mem_cons, List.not_mem_nil, or_false] at hm
      omega
    · simp only [List.mem_cons, List.not_mem_nil, or_false] at hb
      rcases hb with rfl | rfl | rfl | rfl | rfl | rfl
      · exact NoWish.of (l := [.str "all", .int p, .int g, .int 0]) (by show isWishW (.tup (.str "all" :: .int p :: [.int g, .int 0])) = false; rw [isw_all]; simp [goalR, eqW_i]) (by kernel_rfl) (Nat.le_of_ble_eq_true rfl) rfl
      · exact NoWish.of (l := [.str "all", .int p]) (by show isWishW (.tup (.str "all" :: .int p :: [])) = false; rw [isw_all]; simp [goalR, eqW_i]) (by kernel_rfl) (Nat.le_of_ble_eq_true rfl) rfl
      · exact NoWish.of rfl rfl (Nat.le_of_ble_eq_true rfl) rfl
      · exact NoWish.of (l := [.str (Txt.upper "all"), .int p, .int g]) (isw_other (by decide +kernel)) (by kernel_rfl) (Nat.le_of_ble_eq_true rfl) rfl
      · exact NoWish.of (l := [.int 0, .int p, .int g]) rfl rfl (Nat.le_of_ble_eq_true rfl) rfl
      · exact NoWish.of (l := [.str (cutS "all" none (some (-1))), .int p, .int g]) (isw_other (by decide +kernel)) (by kernel_rfl) (Nat.le_of_ble_eq_true rfl) rfl
    · match j, hj, hm with
      | 0, _, hm => cases hm; exact NoWish.of (l := [.str "all", v, .int g]) (by show isWishW (.tup (.str "all" :: v :: [.int g])) = false; rw [isw_all, hv.1]; rfl) (ok3 (l := [.str "all"]) (r := [.int g]) hv (by kernel_rfl) (by kernel_rfl)) (Nat.le_of_ble_eq_true rfl) (by simp only [List.all_cons, List.all_nil, hv.2.2]; rfl)
      | 1, _, hm => cases hm; exact NoWish.of (l := [.str "all", .int p, v]) (by show isWishW (.tup (.str "all" :: .int p :: [v])) = false; rw [isw_all]; simp [goalR, eqW_i, hv.1]) (ok3 (l := [.str "all", .int p]) (r := []) hv (by kernel_rfl) (by kernel_rfl)) (Nat.le_of_ble_eq_true rfl) (by simp only [List.all_cons, List.all_nil, hv.2.2]; rfl)
      | k + 2, hj, _ => cases hj
    · cases hq
      exact NoWish.of (l := [.str "all", .int p, .int p]) (by show isWishW (.tup (.str "all" :: .int p :: [.int p])) = false; rw [isw_all]; simp [goalR, eqW_i]) (by kernel_rfl) (Nat.le_of_ble_eq_true rfl) rfl
    · cases hn
  | busy p g =>
    obtain ⟨p0, p5, g0, g7, hpg⟩ := h
    refine ⟨"busy", [p, g], [5, 7], ⟨rfl, by decide +kernel, Nat.le_of_ble_eq_true rfl, Nat.le_of_ble_eq_true rfl, fun m hm => ?_, by decide +kernel, by decide +kernel, by kernel_rfl, Nat.le_of_ble_eq_true rfl, by decide, fun b hb => ?_, fun j n m v hj hm hv => ?_, fun n q hn hq => ?_, fun n hn => ?_⟩⟩
    · simp only [List.mem_cons, List.not_mem_nil, or_false] at hm
      omega
    · simp only [List.mem_cons, List.not_mem_nil, or_false] at hb
      rcases hb with rfl | rfl | rfl | rfl | rfl | rfl
      · exact NoWish.of (l := [.str "busy", .int p, .int g, .int 0]) (by show isWishW (.tup (.str "busy" :: .int p :: [.int g, .int 0])) = false; rw [isw_busy]; simp [goalR, eqW_i]) (by kernel_rfl) (Nat.le_of_ble_eq_true rfl) rfl
      · exact NoWish.of (l := [.str "busy", .int p]) (by show isWishW (.tup (.str "busy" :: .int p :: [])) = false; rw [isw_busy]; simp [goalR, eqW_i]) (by kernel_rfl) (Nat.le_of_ble_eq_true rfl) rfl
      · exact NoWish.of rfl rfl (Nat.le_of_ble_eq_true rfl) rfl
      · exact NoWish.of (l := [.str (Txt.upper "busy"), .int p, .int g]) (isw_other (by decide +kernel)) (by kernel_rfl) (Nat.le_of_ble_eq_true rfl) rfl
      · exact NoWish.of (l := [.int 0, .int p, .int g]) rfl rfl (Nat.le_of_ble_eq_true rfl) rfl
      · exact NoWish.of (l := [.str (cutS "busy" none (some (-1))), .int p, .int g]) (isw_other (by decide +kernel)) (by kernel_rfl) (Nat.le_of_ble_eq_true rfl) rfl
    · match j, hj, hm with
      | 0, _, hm => cases hm; exact NoWish.of (l := [.str "busy", v, .int g]) (by show isWishW (.tup (.str "busy" :: v :: [.int g])) = false; rw [isw_busy, hv.1]; rfl) (ok3 (l := [.str "busy"]) (r := [.int g]) hv (by kernel_rfl) (by kernel_rfl)) (Nat.le_of_ble_eq_true rfl) (by simp only [List.all_cons, List.all_nil, hv.2.2]; rfl)
      | 1, _, hm => cases hm; exact NoWish.of (l := [.str "busy", .int p, v]) (by show isWishW (.tup (.str "busy" :: .int p :: [v])) = false; rw [isw_busy]; simp [goalR, eqW_i, hv.1]) (ok3 (l := [.str "busy", .int p]) (r := []) hv (by kernel_rfl) (by kernel_rfl)) (Nat.le_of_ble_eq_true rfl) (by simp only [List.all_cons, List.all_nil, hv.2.2]; rfl)
      | k + 2, hj, _ => cases hj
    · cases hq
      exact NoWish.of (l := [.str "busy", .int p, .int p]) (by show isWishW (.tup (.str "busy" :: .int p :: [.int p])) = false; rw [isw_busy]; simp [goalR, eqW_i]) (by kernel_rfl) (Nat.le_of_ble_eq_true rfl) rfl
    · cases hn
  | late p g t =>
    obtain ⟨p0, p5, g0, g7, hpg, t0, t9⟩ := h
    refine ⟨"late", [p, g, t], [5, 7, 9], ⟨rfl, by decide +kernel, Nat.le_of_ble_eq_true rfl, Nat.le_of_ble_eq_true rfl, fun m hm => ?_, by decide +kernel, by decide +kernel, by kernel_rfl, Nat.le_of_ble_eq_true rfl, by decide, fun b hb => ?_, fun j n m v hj hm hv => ?_, fun n q hn hq => ?_, fun n hn => ?_⟩⟩
    · simp only [List.mem_cons, List.not_mem_nil, or_false] at hm
      omega
    · simp only [List.mem_cons, List.not_mem_nil, or_false] at hb
      rcases hb with rfl | rfl | rfl | rfl | rfl | rfl
      · exact NoWish.of (l := [.str "late", .int p, .int g, .int t, .int 0]) (by show isWishW (.tup (.str "late" :: .int p :: [.int g, .int t, .int 0])) = false; rw [isw_late]; simp [goalR, lateR, eqW_i]) (by kernel_rfl) (Nat.le_of_ble_eq_true rfl) rfl
      · exact NoWish.of (l := [.str "late", .int p, .int g]) (by show isWishW (.tup (.str "late" :: .int p :: [.int g])) = false; rw [isw_late]; simp [goalR, lateR, eqW_i]) (by kernel_rfl) (Nat.le_of_ble_eq_true rfl) rfl
      · exact NoWish.of rfl rfl (Nat.le_of_ble_eq_true rfl) rfl
      · exact NoWish.of (l := [.str (Txt.upper "late"), .int p, .int g, .int t]) (isw_other (by decide +kernel)) (by kernel_rfl) (Nat.le_of_ble_eq_true rfl) rfl
      · exact NoWish.of (l := [.int 0, .int p, .int g, .int t]) rfl rfl (Nat.le_of_ble_eq_true rfl) rfl
      · exact NoWish.of (l := [.str (cutS "late" none (some (-1))), .int p, .int g, .int t]) (isw_other (by decide +kernel)) (by kernel_rfl) (Nat.le_of_ble_eq_true rfl) rfl
    · match j, hj, hm with
      | 0, _, hm => cases hm; exact NoWish.of (l := [.str "late", v, .int g, .int t]) (by show isWishW (.tup (.str "late" :: v :: [.int g, .int t])) = false; rw [isw_late, hv.1]; rfl) (ok3 (l := [.str "late"]) (r := [.int g, .int t]) hv (by kernel_rfl) (by kernel_rfl)) (Nat.le_of_ble_eq_true rfl) (by simp only [List.all_cons, List.all_nil, hv.2.2]; rfl)
      | 1, _, hm => cases hm; exact NoWish.of (l := [.str "late", .int p, v, .int t]) (by show isWishW (.tup (.str "late" :: .int p :: [v, .int t])) = false; rw [isw_late]; simp [goalR, lateR, eqW_i, hv.1]) (ok3 (l := [.str "late", .int p]) (r := [.int t]) hv (by kernel_rfl) (by kernel_rfl)) (Nat.le_of_ble_eq_true rfl) (by simp only [List.all_cons, List.all_nil, hv.2.2]; rfl)
      | 2, _, hm => cases hm; exact NoWish.of (l := [.str "late", .int p, .int g, v]) (by show isWishW (.tup (.str "late" :: .int p :: [.int g, v])) = false; rw [isw_late]; simp [goalR, lateR, eqW_i, hv.one9]) (ok3 (l := [.str "late", .int p, .int g]) (r := []) hv (by kernel_rfl) (by kernel_rfl)) (Nat.le_of_ble_eq_true rfl) (by simp only [List.all_cons, List.all_nil, hv.2.2]; rfl)
      | k + 3, hj, _ => cases hj
    · cases hq
      exact NoWish.of (l := [.str "late", .int p, .int p, .int t]) (by show isWishW (.tup (.str "late" :: .int p :: [.int p, .int t])) = false; rw [isw_late]; simp [goalR, lateR, eqW_i]) (by kernel_rfl) (Nat.le_of_ble_eq_true rfl) rfl
    · exact NoWish.of (l := [.str "late", .int p, .int g, .int 0]) (by show isWishW (.tup (.str "late" :: .int p :: [.int g, .int 0])) = false; rw [isw_late]; simp [goalR, lateR, eqW_i, zero19]) (by kernel_rfl) (Nat.le_of_ble_eq_true rfl) rfl
  | wait p =>
    obtain ⟨p0, p5⟩ := h
    refine ⟨"wait", [p], [5], ⟨rfl, by decide +kernel, Nat.le_of_ble_eq_true rfl, Nat.le_of_ble_eq_true rfl, fun m hm => ?_, by decide +kernel, by decide +kernel, by kernel_rfl, Nat.le_of_ble_eq_true rfl, by decide, fun b hb => ?_, fun j n m v hj hm hv => ?_, fun n q hn hq => ?_, fun n hn => ?_⟩⟩
    · simp only [List.mem_cons, List.not_mem_nil, or_false] at hm
      omega
    · simp only [List.mem_cons, List.not_mem_nil, or_false] at hb
      rcases hb with rfl | rfl | rfl | rfl | rfl | rfl
      · exact NoWish.of (l := [.str "wait", .int p, .int 0]) (by show isWishW (.tup (.str "wait" :: .int p :: [.int 0])) = false; rw [isw_wait]; simp [List.isEmpty]) (by kernel_rfl) (Nat.le_of_ble_eq_true rfl) rfl
      · exact NoWish.of (l := [.str "wait"]) rfl (by kernel_rfl) (Nat.le_of_ble_eq_true rfl) rfl
      · exact NoWish.of rfl rfl (Nat.le_of_ble_eq_true rfl) rfl
      · exact NoWish.of (l := [.str (Txt.upper "wait"), .int p]) (isw_other (by decide +kernel)) (by kernel_rfl) (Nat.le_of_ble_eq_true rfl) rfl
      · exact NoWish.of (l := [.int 0, .int p]) rfl rfl (Nat.le_of_ble_eq_true rfl) rfl
      · exact NoWish.of (l := [.str (cutS "wait" none (some (-1))), .int p]) (isw_other (by decide +kernel)) (by kernel_rfl) (Nat.le_of_ble_eq_true rfl) rfl
    · match j, hj, hm with
      | 0, _, hm => cases hm; exact NoWish.of (l := [.str "wait", v]) (by show isWishW (.tup (.str "wait" :: v :: [])) = false; rw [isw_wait, hv.1]; rfl) (ok3 (l := [.str "wait"]) (r := []) hv (by kernel_rfl) (by kernel_rfl)) (Nat.le_of_ble_eq_true rfl) (by simp only [List.all_cons, List.all_nil, hv.2.2]; rfl)
      | k + 1, hj, _ => cases hj
    · cases hn
    · cases hn
  | still p =>
    obtain ⟨p0, p5⟩ := h
    refine ⟨"still", [p], [5], ⟨rfl, by decide +kernel, Nat.le_of_ble_eq_true rfl, Nat.le_of_ble_eq_true rfl, fun m hm => ?_, by decide +kernel, by decide +kernel, by kernel_rfl, Nat.le_of_ble_eq_true rfl, by decide, fun b hb => ?_, fun j n m v hj hm hv => ?_, fun n q hn hq => ?_, fun n hn => ?_⟩⟩
    · simp only [List.mem_cons, List.not_mem_nil, or_false] at hm
      omega
    · simp only [List.mem_cons, List.not_mem_nil, or_false] at hb
      rcases hb with rfl | rfl | rfl | rfl | rfl | rfl
      · exact NoWish.of (l := [.str "still", .int p, .int 0]) (by show isWishW (.tup (.str "still" :: .int p :: [.int 0])) = false; rw [isw_still]; simp [List.isEmpty]) (by kernel_rfl) (Nat.le_of_ble_eq_true rfl) rfl
      · exact NoWish.of (l := [.str "still"]) rfl (by kernel_rfl) (Nat.le_of_ble_eq_true rfl) rfl
      · exact NoWish.of rfl rfl (Nat.le_of_ble_eq_true rfl) rfl
      · exact NoWish.of (l := [.str (Txt.upper "still"), .int p]) (isw_other (by decide +kernel)) (by kernel_rfl) (Nat.le_of_ble_eq_true rfl) rfl
      · exact NoWish.of (l := [.int 0, .int p]) rfl rfl (Nat.le_of_ble_eq_true rfl) rfl
      · exact NoWish.of (l := [.str (cutS "still" none (some (-1))), .int p]) (isw_other (by decide +kernel)) (by kernel_rfl) (Nat.le_of_ble_eq_true rfl) rfl
    · match j, hj, hm with
      | 0, _, hm => cases hm; exact NoWish.of (l := [.str "still", v]) (by show isWishW (.tup (.str "still" :: v :: [])) = false; rw [isw_still, hv.1]; rfl) (ok3 (l := [.str "still"]) (r := []) hv (by kernel_rfl) (by kernel_rfl)) (Nat.le_of_ble_eq_true rfl) (by simp only [List.all_cons, List.all_nil, hv.2.2]; rfl)
      | k + 1, hj, _ => cases hj
    · cases hn
    · cases hn
  | bar p o =>
    obtain ⟨p0, p5, o0, o5, hpo⟩ := h
    refine ⟨"bar", [p, o], [5, 5], ⟨rfl, by decide +kernel, Nat.le_of_ble_eq_true rfl, Nat.le_of_ble_eq_true rfl, fun m hm => ?_, by decide +kernel, by decide +kernel, by kernel_rfl, Nat.le_of_ble_eq_true rfl, by decide, fun b hb => ?_, fun j n m v hj hm hv => ?_, fun n q hn hq => ?_, fun n hn => ?_⟩⟩
    · simp only [List.mem_cons, List.not_mem_nil, or_false] at hm
      omega
    · simp only [List.mem_cons, List.not_mem_nil, or_false] at hb
      rcases hb with rfl | rfl | rfl | rfl | rfl | rfl
      · exact NoWish.of (l := [.str "bar", .int p, .int o, .int 0]) (by show isWishW (.tup (.str "bar" :: .int p :: [.int o, .int 0])) = false; rw [isw_bar]; simp [barR, eqW_i]) (by kernel_rfl) (Nat.le_of_ble_eq_true rfl) rfl
      · exact NoWish.of (l := [.str "bar", .int p]) (by show isWishW (.tup (.str "bar" :: .int p :: [])) = false; rw [isw_bar]; simp [barR, eqW_i]) (by kernel_rfl) (Nat.le_of_ble_eq_true rfl) rfl
      · exact NoWish.of rfl rfl (Nat.le_of_ble_eq_true rfl) rfl
      · exact NoWish.of (l := [.str (Txt.upper "bar"), .int p, .int o]) (isw_other (by decide +kernel)) (by kernel_rfl) (Nat.le_of_ble_eq_true rfl) rfl
      · exact NoWish.of (l := [.int 0, .int p, .int o]) rfl rfl (Nat.le_of_ble_eq_true rfl) rfl
      · exact NoWish.of (l := [.str (cutS "bar" none (some (-1))), .int p, .int o]) (isw_other (by decide +kernel)) (by kernel_rfl) (Nat.le_of_ble_eq_true rfl) rfl
    · match j, hj, hm with
      | 0, _, hm => cases hm; exact NoWish.of (l := [.str "bar", v, .int o]) (by show isWishW (.tup (.str "bar" :: v :: [.int o])) = false; rw [isw_bar, hv.1]; rfl) (ok3 (l := [.str "bar"]) (r := [.int o]) hv (by kernel_rfl) (by kernel_rfl)) (Nat.le_of_ble_eq_true rfl) (by simp only [List.all_cons, List.all_nil, hv.2.2]; rfl)
      | 1, _, hm => cases hm; exact NoWish.of (l := [.str "bar", .int p, v]) (by show isWishW (.tup (.str "bar" :: .int p :: [v])) = false; rw [isw_bar]; simp [barR, eqW_i, hv.1]) (ok3 (l := [.str "bar", .int p]) (r := []) hv (by kernel_rfl) (by kernel_rfl)) (Nat.le_of_ble_eq_true rfl) (by simp only [List.all_cons, List.all_nil, hv.2.2]; rfl)
      | k + 2, hj, _ => cases hj
    · cases hq
      exact NoWish.of (l := [.str "bar", .int p, .int p]) (by show isWishW (.tup (.str "bar" :: .int p :: [.int p])) = false; rw [isw_bar]; simp [barR, eqW_i]) (by kernel_rfl) (Nat.le_of_ble_eq_true rfl) rfl
    · cases hn

end
section
-- L1H
section
variable {P : Program} {w : World} {K : PySem.W.Frag} {mg : Str → Option Value} {base : Heap} {C_Book C_Way C_Call C_Phone C_Hall : Addr}
section
local macro_rules | `(tactic| specialize "st") => `(tactic| ((with_reducible show wS _ _ (Stmt.Assign [Expr.Subscript _ _ _] _ _) _ _ _); refine wS_asg ?_))
local macro_rules | `(tactic| specialize "gg") => `(tactic| ((with_reducible show wG _ _ (Expr.Subscript _ _ _) _ _ _ _); refine xG_lset ?_))
local macro_rules | `(tactic| specialize "times") => `(tactic| refine xE_mulI ?_)
local macro_rules | `(tactic| specialize "su") => `(tactic| ((with_reducible show wE _ _ (Expr.Subscript (Expr.Subscript _ _ _) _ _) _ _ _); refine xE_ixScr ?_))
theorem cf_law_taken (G : GL mg) (D : DS K mg C_Book C_Way C_Call C_Phone C_Hall) : CFn P w K mg base "_law_taken" 1 2 (asp_taken K) := by
  refine D.d_law_taken.fn sc_law_taken fun f cdv A outer s H E hr ws S Φ Ψ hl hS ha => ?_
  obtain ⟨r, m, rfl, hr0, hm, hmx, h⟩ := ha
  refine wB_row hr0 fun ns i z ⟨g1, g2, g3, g4⟩ => ?_
  have hr1 : (S.set r (rowL K ns i z))[r]? = some (.lst [.scr K ns, .int i, .int z]) := get_set_self hr0
  have fold : ∀ v i' z', 0 ≤ v → v < m → 0 ≤ i' → 0 ≤ z' → z' < 2147483647 → fin S.length Φ (.int v) (S.set r (.lst [.scr K ns, .int i', .int z'])) := by
    intro v i' z' h1 h2 h3 h4 h5
    have hq : (S.set r (.lst [.scr K ns, .int i', .int z']))[r]? = some (rowL K ns i' z') := get_set_self hr0
    refine fin.less (imp_fold hq ⟨g1, h3, h4, h5⟩) (fin.as ?_)
    rw [List.set_set, set_same hr0]
    exact h v h1 h2
  specialize "go"
  refine sIte_s (fun e => ?_) (fun e => ?_)
  · specialize "go"
    dsimp only
    rw [List.set_set, List.set_set]
    have hz0 : 0 ≤ (z * 48271 + 11) % 2147483647 := Int.emod_nonneg _ (by decide)
    have hz1 : (z * 48271 + 11) % 2147483647 < 2147483647 := Int.emod_lt_of_pos _ (by decide)
    exact fold _ _ _ (Int.emod_nonneg _ (by omega)) (Int.emod_lt_of_pos _ hm) (by omega) hz0 hz1
  · have e := of_decide_eq_false e
    obtain ⟨x, hx⟩ := atI_scr (ns := ns) (i := i + 1 - 1) (by omega) (by omega)
    specialize "go"
    refine sIxScr_i hx ?_
    specialize "go"
    dsimp only
    rw [List.set_set, List.set_set]
    have hz0 : 0 ≤ (z * 48271 + x + 11) % 2147483647 := Int.emod_nonneg _ (by decide)
    have hz1 : (z * 48271 + x + 11) % 2147483647 < 2147483647 := Int.emod_lt_of_pos _ (by decide)
    exact fold _ _ _ (Int.emod_nonneg _ (by omega)) (Int.emod_lt_of_pos _ hm) (by omega) hz0 hz1
end
local macro_rules | `(tactic| specialize "fun") => `(tactic| ((with_reducible show wE _ _ (Expr.Call (Expr.Name (Str.ofString "_law_taken") _) _ _ _) _ _ _); refine xE_call (cf_law_taken (by assumption) (by assumption)) (Room.mono (by assumption) (by decide)) ?_))
local macro_rules | `(tactic| specialize "s3") => `(tactic| ((with_reducible show asp_taken _ _ _ _ _); refine ⟨_, _, rfl, (by specialize "nth"), (by first | decide | omega), (by first | decide | omega), ?_⟩))
/-- a goal of a phone: a number, not itself -/
def asp_law_goal (K : PySem.W.Frag) : ASp := fun ws S Φ _ => ∃ r p, ws = [.ref r, .int p] ∧ S[r]? = some (.row K) ∧ 0 ≤ p ∧ p ≤ 5 ∧ ∀ g : Int, 0 ≤ g → g ≤ 7 → g ≠ p → Φ (.int g) S
theorem cf_law_goal (G : GL mg) (D : DS K mg C_Book C_Way C_Call C_Phone C_Hall) : CFn P w K mg base "_law_goal" 2 2 (asp_law_goal K) := by
  refine D.d_law_goal.fn sc_law_goal fun f cdv A outer s H E hr ws S Φ Ψ hl hS ha => ?_
  obtain ⟨r, p, rfl, hr0, hp0, hp5, h⟩ := ha
  specialize "go"
  intro v hv0 hv1
  specialize "go"
  refine fin.as (h _ ?_ ?_ ?_)
  all_goals
    by_cases q : p ≤ v
    · simp [q]; omega
    · simp [q]; omega
local macro_rules | `(tactic| specialize "fun") => `(tactic| ((with_reducible show wE _ _ (Expr.Call (Expr.Name (Str.ofString "_law_goal") _) _ _ _) _ _ _); refine xE_call (cf_law_goal (by assumption) (by assumption)) (Room.mono (by assumption) (by decide)) ?_))
local macro_rules | `(tactic| specialize "s3") => `(tactic| ((with_reducible show asp_law_goal _ _ _ _ _); refine ⟨_, _, rfl, (by specialize "nth"), (by omega), (by omega), ?_⟩))
/-- any wish -/
def asp_law_wish (K : PySem.W.Frag) : ASp := fun ws S Φ _ => ∃ r, ws = [.ref r] ∧ S[r]? = some (.row K) ∧ ∀ x : Wish, x.ok → Φ x.w S
/-- rising, all below n -/
def upTo (n : Nat) (l : List Int) : Prop := (∀ m ∈ l, 0 ≤ m ∧ m < n) ∧ l.Pairwise (· < ·)
theorem upTo.more {n : Nat} {l : List Int} (h : upTo n l) : upTo (n + 1) (l ++ [(n : Int)]) := by
  refine ⟨fun m hm => ?_, List.pairwise_append.mpr ⟨h.2, by simp, fun a ha b hb => ?_⟩⟩
  · rcases List.mem_append.mp hm with hm | hm
    · have := h.1 m hm
      omega
    · rw [List.mem_singleton.mp hm]
      omega
  · rw [List.mem_singleton.mp hb]
    exact (h.1 a ha).2
theorem upTo.skip {n : Nat} {l : List Int} (h : upTo n l) : upTo (n + 1) l := ⟨fun m hm => by have := h.1 m hm; omega, h.2⟩
theorem upTo.len {n : Nat} {l : List Int} (h : upTo n l) : l.length ≤ n := by
  have q := small_len n (l.map Int.toNat) (by
    rw [List.nodup_iff_pairwise_ne, List.pairwise_map]
    refine h.2.imp_of_mem ?_
    intro a b ha hb hab e
    have h1 := h.1 a ha
    have h2 := h.1 b hb
    omega) fun p hp => by
    obtain ⟨x, hx, rfl⟩ := List.mem_map.mp hp
    have := h.1 x hx
    omega
  rw [List.length_map] at q
  exact q
theorem upTo.ms {l : List Int} (h : upTo 6 l) (hn : l ≠ []) : msOk l := by
  refine ⟨hn, h.len, fun m hm => by have := h.1 m hm; omega, fun k a b h1 h2 => ?_⟩
  obtain ⟨k1, e1⟩ := List.getElem?_eq_some_iff.mp h1
  obtain ⟨k2, e2⟩ := List.getElem?_eq_some_iff.mp h2
  rw [← e1, ← e2]
  exact List.pairwise_iff_getElem.mp h.2 k (k + 1) k1 k2 (Nat.lt_succ_self k)
section
local macro_rules | `(tactic| specialize "st") => `(tactic| ((with_reducible show wS _ _ (Stmt.Assign [Expr.Name (Str.ofString "_law_some") _] (Expr.ListComp _ _ _ _) _) _ _ _); refine wS_setLcF 4 5 (.one _) rfl (of_decide_eq_true (by kernel_rfl)) (blkOk_by (by kernel_rfl)) ?_ rfl))
theorem cf_law_wish (G : GL mg) (D : DS K mg C_Book C_Way C_Call C_Phone C_Hall) : CFn P w K mg base "_law_wish" 3 1 (asp_law_wish K) := by
  refine D.d_law_wish.fn sc_law_wish fun f cdv A outer s H E hr ws S Φ Ψ hl hS ha => ?_
  obtain ⟨r, rfl, hr0, h⟩ := ha
  specialize "go"
  intro v hv0 hv1
  obtain ⟨n, rfl⟩ : ∃ n : Nat, v = n := ⟨v.toNat, by omega⟩
  have hn : n < 10 := by omega
  match n, hn with
  | 0, _ =>
    specialize "go"
    intro p hp0 hp1
    specialize "go"
    intro g hg0 hg1 hg2
    specialize "go"
    exact fin.as (h (.all p g) ⟨hp0, by omega, hg0, hg1, hg2⟩)
  | 1, _ =>
    specialize "go"
    intro p hp0 hp1
    specialize "go"
    intro g hg0 hg1 hg2
    specialize "go"
    exact fin.as (h (.all p g) ⟨hp0, by omega, hg0, hg1, hg2⟩)
  | 2, _ =>
    specialize "go"
    intro p hp0 hp1
    specialize "go"
    intro g hg0 hg1 hg2
    specialize "go"
    exact fin.as (h (.busy p g) ⟨hp0, by omega, hg0, hg1, hg2⟩)
  | 3, _ =>
    specialize "go"
    intro p hp0 hp1
    specialize "go"
    intro g hg0 hg1 hg2
    specialize "go"
    exact fin.as (h (.busy p g) ⟨hp0, by omega, hg0, hg1, hg2⟩)
  | 4, _ =>
    specialize "go"
    intro p hp0 hp1
    specialize "go"
    intro g hg0 hg1 hg2
    specialize "go"
    intro u hu0 hu1
    obtain ⟨k, rfl⟩ : ∃ k : Nat, u = k := ⟨u.toNat, by omega⟩
    have hk : k < 2 := by omega
    match k, hk with
    | 0, _ =>
      specialize "go"
      intro t ht0 ht1
      specialize "go"
      exact fin.as (h (.late p g (1 + t)) ⟨hp0, by omega, hg0, hg1, hg2, by omega, by omega⟩)
    | 1, _ =>
      specialize "go"
      intro t ht0 ht1
      specialize "go"
      exact fin.as (h (.late p g (1 + t)) ⟨hp0, by omega, hg0, hg1, hg2, by omega, by omega⟩)
  | 5, _ =>
    specialize "go"
    intro p hp0 hp1
    specialize "go"
    exact fin.as (h (.wait p) ⟨hp0, by omega⟩)
  | 6, _ =>
    specialize "go"
    intro p hp0 hp1
    specialize "go"
    exact fin.as (h (.wait p) ⟨hp0, by omega⟩)
  | 7, _ =>
    specialize "go"
    intro p hp0 hp1
    specialize "go"
    exact fin.as (h (.still p) ⟨hp0, by omega⟩)
  | 8, _ =>
    specialize "go"
    intro p hp0 hp1
    specialize "go"
    intro o ho0 ho1
    specialize "go"
    refine fin.as (h (.bar p (o + if decide (p ≤ o) = true then 1 else 0)) ?_)
    by_cases q : p ≤ o
    · simp only [q, decide_true, if_true, Wish.ok]; omega
    · simp only [q, decide_false, Bool.false_eq_true, if_false, Wish.ok]; omega
  | 9, _ =>
    specialize "go"
    intro p hp0 hp1
    specialize "go"
    refine ⟨fun i acc S' => i ≤ 6 ∧ S' = S ∧ ∃ l, acc = intsW l ∧ upTo i l, ⟨by decide, rfl, [], rfl, ⟨by simp, by simp⟩⟩, ?_, ?_, ?_⟩
    · rintro i acc S' ⟨hi, rfl, l, rfl, hu⟩
      refine ⟨trivial, ?_⟩
      have := hu.len
      rw [len_ints]
      omega
    · rintro i w acc S' hw ⟨hi, rfl, l, rfl, hu⟩
      obtain ⟨x, hx, rfl⟩ := map_inv hw
      obtain ⟨hx1, hx2⟩ := List.getElem?_eq_some_iff.mp hx
      have hxi : x = i := by rw [← hx2, List.getElem_range]
      have hi6 : i < 6 := by rw [List.length_range] at hx1; exact hx1
      subst hxi
      intro s1 H0 C cl fp
      specialize "go"
      intro v hv0 hv1
      specialize "go"
      by_cases q : v = 0
      · subst q
        refine (sIte_t rfl ?_ : sIte _ _ _)
        intro s1 H0 C cl fp
        specialize "go"
        exact ⟨hi6, rfl, l ++ [(x : Int)], by simp [intsW], hu.more⟩
      · refine (sIte_f (decide_eq_false q) ?_ : sIte _ _ _)
        exact ⟨hi6, rfl, l, rfl, hu.skip⟩
    · rintro acc S' ⟨hi, rfl, l, rfl, hu⟩
      specialize "go"
      intro v hv0 hv1
      specialize "go"
      cases l with
      | nil =>
        refine sIte_f rfl ?_
        specialize "go"
        exact fin.as (h (.group (6 + v) [p]) ⟨by omega, by omega, by simp, by simp, (fun m hm => by rw [List.mem_singleton.mp hm]; omega), fun k a b h1 h2 => by cases k <;> simp at h2⟩)
      | cons a l =>
        refine sIte_t rfl ?_
        specialize "go"
        exact fin.as (h (.group (6 + v) (a :: l)) ⟨by omega, by omega, upTo.ms hu (by simp)⟩)
end
local macro_rules | `(tactic| specialize "fun") => `(tactic| ((with_reducible show wE _ _ (Expr.Call (Expr.Name (Str.ofString "_law_wish") _) _ _ _) _ _ _); refine xE_call (cf_law_wish (by assumption) (by assumption)) (Room.mono (by assumption) (by decide)) ?_))
local macro_rules | `(tactic| specialize "s3") => `(tactic| ((with_reducible show asp_law_wish _ _ _ _ _); refine ⟨_, rfl, (by specialize "nth"), ?_⟩))
end

end
section
local macro_rules | `(tactic| specialize "fun") => `(tactic| ((with_reducible show wE _ _ (Expr.Call (Expr.Name (Str.ofString "_law_taken") _) _ _ _) _ _ _); refine xE_call (cf_law_taken (by assumption) (by assumption)) (Room.mono (by assumption) (by decide)) ?_))
local macro_rules | `(tactic| specialize "s3") => `(tactic| ((with_reducible show asp_taken _ _ _ _ _); refine ⟨_, _, rfl, (by specialize "nth"), (by first | decide | omega), (by first | decide | omega), ?_⟩))
local macro_rules | `(tactic| specialize "fun") => `(tactic| ((with_reducible show wE _ _ (Expr.Call (Expr.Name (Str.ofString "_law_goal") _) _ _ _) _ _ _); refine xE_call (cf_law_goal (by assumption) (by assumption)) (Room.mono (by assumption) (by decide)) ?_))
local macro_rules | `(tactic| specialize "s3") => `(tactic| ((with_reducible show asp_law_goal _ _ _ _ _); refine ⟨_, _, rfl, (by specialize "nth"), (by omega), (by omega), ?_⟩))
local macro_rules | `(tactic| specialize "fun") => `(tactic| ((with_reducible show wE _ _ (Expr.Call (Expr.Name (Str.ofString "_law_wish") _) _ _ _) _ _ _); refine xE_call (cf_law_wish (by assumption) (by assumption)) (Room.mono (by assumption) (by decide)) ?_))
local macro_rules | `(tactic| specialize "s3") => `(tactic| ((with_reducible show asp_law_wish _ _ _ _ _); refine ⟨_, rfl, (by specialize "nth"), ?_⟩))

-- L3H
section
variable {P : Program} {w : World} {K : PySem.W.Frag} {mg : Str → Option Value} {base : Heap} {C_Book C_Way C_Call C_Phone C_Hall : Addr}
/-- any wishes, of different keys -/
def asp_law_wishes (K : PySem.W.Frag) : ASp := fun ws S Φ _ => ∃ r m, ws = [.ref r, .int m] ∧ S[r]? = some (.row K) ∧ 0 ≤ m ∧ m ≤ 24 ∧ ∀ xs : List Wish, xs.length ≤ m → (∀ x ∈ xs, x.ok) → (xs.map Wish.key).Nodup → Φ (.lst (xs.map Wish.w)) S
section
local macro_rules | `(tactic| specialize "st") => `(tactic| ((with_reducible show wS _ _ (Stmt.Assign [Expr.Name (Str.ofString "_law_key") _] _ _) _ _ _); refine stop_i ?_))
theorem cf_law_wishes (G : GL mg) (D : DS K mg C_Book C_Way C_Call C_Phone C_Hall) : CFn P w K mg base "_law_wishes" 4 2 (asp_law_wishes K) := by
  refine D.d_law_wishes.fn sc_law_wishes fun f cdv A outer s H E hr ws S Φ Ψ hl hS ha => ?_
  obtain ⟨r, m, rfl, hr0, hm0, hm1, h⟩ := ha
  specialize "go"
  refine wS_for (passes_of rfl) rfl ?_
  specialize "go"
  intro n hn0 hn1
  specialize "go"
  rw [List.append_assoc]
  refine ⟨fun i E' S' => i ≤ n.toNat ∧ ∃ (xs : List Wish) (a b c : Option W), E' = [some (.ref r), some (.int m), some (.ref S.length), some (.ref (S.length + 1)), a, b, c] ∧ S' = S ++ [.lst (xs.map Wish.w), .lst (xs.map keyT)] ∧ xs.length ≤ i ∧ (∀ x ∈ xs, x.ok) ∧ (xs.map Wish.key).Nodup,
    ⟨Nat.zero_le _, [], none, none, none, ?_, rfl, Nat.le_refl _, (fun x hx => by cases hx), List.nodup_nil⟩, fun _ _ _ _ => trivial, ?_, ?_⟩
  · rw [List.length_append]
    rfl
  · rintro i w E' S' hw ⟨hi, xs, a, b, c, rfl, rfl, hxl, hxo, hxn⟩
    obtain ⟨k, hk, rfl⟩ := map_inv hw
    have hi' : i < n.toNat := by
      have := (List.getElem?_eq_some_iff.mp hk).1
      rw [List.length_range] at this
      exact this
    have hlen1 : (xs.map Wish.w).length ≤ 100000 := by rw [List.length_map]; omega
    have hlen2 : (xs.map keyT).length ≤ 100000 := by rw [List.length_map]; omega
    specialize "go"
    intro x hx
    specialize "go"
    unfold Stop
    refine' xS_set ?k1 (of_decide_eq_true (by kernel_rfl)) ?_
    (case k1 => specialize "idx")
    refine wE.imp (Φ := fun w S2 => w = W.tup (x.key.map keyW1) ∧ S2 = S ++ [.lst (xs.map Wish.w), .lst (xs.map keyT)]) ?_ ?_
    · cases x <;> (specialize "go")
    · rintro w S2 ⟨rfl, rfl⟩
      specialize "go"
      refine sIte_s (fun e => ?_) (fun e => ?_)
      · have e' : keyIn x.key xs = false := by
          cases q : keyIn x.key xs with
          | false => rfl
          | true => rw [q] at e; cases e
        specialize "go"
        rw [set_new]
        specialize "go"
        rw [set_new0]
        dsimp only
        refine dropTo.as ?_
        refine ⟨hi', xs ++ [x], _, _, _, rfl, ?_, ?_, ?_, ?_⟩
        · simp [keyT]
        · rw [List.length_append, List.length_singleton]
          omega
        · intro y hy
          rcases List.mem_append.mp hy with hy | hy
          · exact hxo y hy
          · rw [List.mem_singleton.mp hy]
            exact hx
        · rw [List.map_append]
          refine List.nodup_append.mpr ⟨hxn, by simp, fun a ha b hb z => ?_⟩
          rw [List.map_cons, List.map_nil, List.mem_singleton] at hb
          exact keyIn_no e' (hb ▸ z ▸ ha)
      · specialize "go"
        dsimp only
        refine dropTo.as ?_
        exact ⟨hi', xs, _, _, _, rfl, rfl, by omega, hxo, hxn⟩
  · rintro E' S' ⟨hi, xs, a, b, c, rfl, rfl, hxl, hxo, hxn⟩
    specialize "go"
    refine fin.drop (Nat.le_refl _) hS (fz_new rfl fzs_wishes) (h xs ?_ hxo hxn)
    rw [range_len] at hxl
    omega
end
local macro_rules | `(tactic| specialize "fun") => `(tactic| ((with_reducible show wE _ _ (Expr.Call (Expr.Name (Str.ofString "_law_wishes") _) _ _ _) _ _ _); refine xE_call (cf_law_wishes (by assumption) (by assumption)) (Room.mono (by assumption) (by decide)) ?_))
local macro_rules | `(tactic| specialize "s3") => `(tactic| ((with_reducible show asp_law_wishes _ _ _ _ _); refine ⟨_, _, rfl, (by specialize "nth"), (by first | decide | omega), (by first | decide | omega), ?_⟩))
end

end
section
local macro_rules | `(tactic| specialize "fun") => `(tactic| ((with_reducible show wE _ _ (Expr.Call (Expr.Name (Str.ofString "_law_taken") _) _ _ _) _ _ _); refine xE_call (cf_law_taken (by assumption) (by assumption)) (Room.mono (by assumption) (by decide)) ?_))
local macro_rules | `(tactic| specialize "s3") => `(tactic| ((with_reducible show asp_taken _ _ _ _ _); refine ⟨_, _, rfl, (by specialize "nth"), (by first | decide | omega), (by first | decide | omega), ?_⟩))
local macro_rules | `(tactic| specialize "fun") => `(tactic| ((with_reducible show wE _ _ (Expr.Call (Expr.Name (Str.ofString "_law_goal") _) _ _ _) _ _ _); refine xE_call (cf_law_goal (by assumption) (by assumption)) (Room.mono (by assumption) (by decide)) ?_))
local macro_rules | `(tactic| specialize "s3") => `(tactic| ((with_reducible show asp_law_goal _ _ _ _ _); refine ⟨_, _, rfl, (by specialize "nth"), (by omega), (by omega), ?_⟩))
local macro_rules | `(tactic| specialize "fun") => `(tactic| ((with_reducible show wE _ _ (Expr.Call (Expr.Name (Str.ofString "_law_wish") _) _ _ _) _ _ _); refine xE_call (cf_law_wish (by assumption) (by assumption)) (Room.mono (by assumption) (by decide)) ?_))
local macro_rules | `(tactic| specialize "s3") => `(tactic| ((with_reducible show asp_law_wish _ _ _ _ _); refine ⟨_, rfl, (by specialize "nth"), ?_⟩))

-- B5
section
variable {P : Program} {w : World} {K : PySem.W.Frag} {mg : Str → Option Value} {base : Heap} {C_Book C_Way C_Call C_Phone C_Hall : Addr}
def asp_odd (K : PySem.W.Frag) : ASp := fun ws S Φ _ => ∃ (r : Nat) (x : Wish), ws = [.ref r, x.w] ∧ S[r]? = some (.row K) ∧ x.ok ∧ ∀ b, NoWish b → Φ b S
section
local macro_rules | `(tactic| specialize "bi") => `(tactic| ((with_reducible show wE _ _ (Expr.BinOp _ Operator.Pow _ _) _ _ _); refine xE_pow ?_))
local macro_rules | `(tactic| specialize "times") => `(tactic| refine xE_mulS ?_)
local macro_rules | `(tactic| specialize "s3") => `(tactic| ((with_reducible show ∃ i j : Int, _ = _ ∧ _ = _ ∧ _ ∧ _ ∧ _); refine ⟨_, _, rfl, rfl, (by omega), (by omega), ?_⟩))
local macro_rules | `(tactic| specialize "ex") => `(tactic| ((with_reducible show wE _ _ (Expr.Call (Expr.Attribute _ (Str.ofString "upper") _) _ _ _) _ _ _); refine xE_upper ?_))
local macro_rules | `(tactic| specialize "s3") => `(tactic| ((with_reducible show sUp _ _ _); refine sUp_i (by decide +kernel) ?_))
local macro_rules | `(tactic| specialize "ex") => `(tactic| ((with_reducible show wE _ _ (Expr.UnaryOp UnaryOp.USub _ _) _ _ _); refine xE_neg ?_))
local macro_rules | `(tactic| specialize "ex") => `(tactic| ((with_reducible show wE _ _ (Expr.Dict (_ :: _) _ _) _ _ _); refine' wE_disp ?k1 rfl ?k2 ?k3 ?_; (case k1 => repeat (first | exact KeysAre.nil | apply KeysAre.cons)); (case k2 => simp); (case k3 => exact Nat.le_of_ble_eq_true rfl)))
local macro_rules | `(tactic| specialize "fun") => `(tactic| ((with_reducible show wE _ _ (Expr.Call (Expr.Name (Str.ofString "str") _) _ _ _) _ _ _); refine xE_str (GL.b_str (by assumption)) ?_))
local macro_rules | `(tactic| specialize "plus") => `(tactic| ((with_reducible show wE _ _ (Expr.BinOp (Expr.Name (Str.ofString "_law_wish_here") _) Operator.Add _ _) _ _ _); refine xE_catT ?_))
local macro_rules | `(tactic| specialize "plus") => `(tactic| ((with_reducible show wE _ _ (Expr.BinOp (Expr.Tuple _ _ _) Operator.Add _ _) _ _ _); refine xE_catT ?_))
local macro_rules | `(tactic| specialize "slice") => `(tactic| ((with_reducible show wE _ _ (Expr.Subscript (Expr.Name (Str.ofString "_law_word_here") _) _ _) _ _ _); refine xE_slS ?_))
local macro_rules | `(tactic| specialize "slice") => `(tactic| ((with_reducible show wE _ _ (Expr.Subscript (Expr.Name (Str.ofString "_law_rest") _) _ _) _ _ _); refine xE_slL ?_))
local macro_rules | `(tactic| specialize "s3") => `(tactic| ((with_reducible show sSlS _ _ _ _ _); refine sSlS_i (by decide +kernel) ?_))
local macro_rules | `(tactic| specialize "s2") => `(tactic| ((with_reducible show sCutT (W.tup (List.cons _ _)) (some 1) none _ _); refine sCutT_i ?_; rw [cut_1]))
local macro_rules | `(tactic| specialize "s2") => `(tactic| ((with_reducible show sCatT (W.tup _) (W.tup _) _ _); refine sCatT_i (by first | exact Nat.le_of_ble_eq_true rfl | (simp only [List.length_cons, List.length_nil, len_ints]; omega)) ?_))
local macro_rules | `(tactic| specialize "s3") => `(tactic| ((with_reducible show asp_taken _ _ _ _ _); refine ⟨_, _, rfl, (by specialize "nth"), (by first | decide | omega), (by first | decide | omega), ?_⟩))
local macro_rules | `(tactic| specialize "s3") => `(tactic| ((with_reducible show asp_taken _ [_, W.int (((List.cons _ _).length : Nat) : Int)] _ _ _); refine ⟨_, _, rfl, (by specialize "nth"), (by simp only [List.length_cons, List.length_nil]; omega), (by simp only [List.length_cons, List.length_nil]; omega), ?_⟩))
local macro_rules | `(tactic| specialize "s3") => `(tactic| ((with_reducible show sStrOf (W.int _) _ _); refine sStrOf_I (dg_log (by omega) (by omega)) ?_))
local macro_rules | `(tactic| specialize "ex") => `(tactic| ((with_reducible show wE _ _ (Expr.Call (Expr.Attribute _ (Str.ofString "get") _) _ _ _) _ _ _); refine xE_dget2 (Nat.lt_of_le_of_lt (Nat.add_le_add_left (by decide) _) (Room.u65 (by assumption))) ⟨rfl, rfl, rfl, rfl⟩ ?_))
local macro_rules | `(tactic| specialize "s3") => `(tactic| ((with_reducible show wVs _ _ _ _ _ _); first | refine wVs_cons ?_ | refine wVs_nil ?_))
local macro_rules | `(tactic| specialize "plus") => `(tactic| ((with_reducible show wE _ _ (Expr.BinOp (Expr.Subscript (Expr.Name (Str.ofString "_law_rest") _) _ _) Operator.Add _ _) _ _ _); refine xE_cat ?_))
local macro_rules | `(tactic| specialize "plus") => `(tactic| ((with_reducible show wE _ _ (Expr.BinOp (Expr.BinOp (Expr.Subscript (Expr.Name (Str.ofString "_law_rest") _) _ _) _ _ _) Operator.Add _ _) _ _ _); refine xE_cat ?_))
local macro_rules | `(tactic| specialize "s3") => `(tactic| ((with_reducible show sUp _ _ _); refine sUp_i (by assumption) ?_))
local macro_rules | `(tactic| specialize "s3") => `(tactic| ((with_reducible show sSlS _ _ _ _ _); refine sSlS_i (by assumption) ?_))
local macro_rules | `(tactic| specialize "s2") => `(tactic| ((with_reducible show sCatT (W.tup _) (W.tup _) _ _); refine sCatT_i (by first | assumption | exact Nat.le_of_ble_eq_true rfl | (simp only [List.length_append, List.length_map, List.length_take, List.length_drop, List.length_cons, List.length_nil]; omega)) ?_))
local macro_rules | `(tactic| specialize "ix") => `(tactic| exact atI_nat (j := 0) rfl)
local macro_rules | `(tactic| specialize "ix") => `(tactic| assumption)
local macro_rules | `(tactic| specialize "s2") => `(tactic| ((with_reducible show sCut (W.lst (List.map _ _)) none (some _) _ _); refine sCut_toF (by omega) ?_))
local macro_rules | `(tactic| specialize "s2") => `(tactic| ((with_reducible show sCut (W.lst (List.map _ _)) (some _) none _ _); refine sCut_fromF (by omega) ?_))
local macro_rules | `(tactic| specialize "s2") => `(tactic| ((with_reducible show sCat (W.lst _) (W.lst _) _ _); refine sCat_i (by simp only [List.length_append, List.length_map, List.length_take, List.length_drop, List.length_cons, List.length_nil] <;> omega) ?_))
theorem cf_odd (G : GL mg) (D : DS K mg C_Book C_Way C_Call C_Phone C_Hall) : CFn P w K mg base "_law_odd" 4 2 (asp_odd K) := by
  refine D.d_law_odd.fn sc_law_odd fun f cdv A outer s H E hr ws S Φ Ψ hl hS ha => ?_
  obtain ⟨r, x, rfl, hr0, hx, h⟩ := ha
  specialize "go"
  intro v1 a0 a1
  rw [show (10 : Int) ^ Int.toNat 6 = 1000000 by decide] at a1
  specialize "go"
  intro v2 b0 b1
  specialize "go"
  obtain ⟨far, hfar, f0, f1⟩ : ∃ far, v1 * v2 = far ∧ 0 ≤ far ∧ far ≤ 1000000 := by
    obtain rfl | rfl : v2 = 0 ∨ v2 = 1 := by omega
    · exact ⟨0, by rw [Int.mul_zero], by decide, by decide⟩
    · exact ⟨v1, by rw [Int.mul_one], a0, by omega⟩
  rw [hfar]
  by_cases hgx : ∃ g ms, x = .group g ms
  · obtain ⟨g, ms, rfl⟩ := hgx
    have hu5 : ("group" : Str).length ≤ 5592405 := by decide +kernel
    have hs5 : ("group" : Str).length ≤ sizeLine := by decide +kernel
    obtain ⟨g6, g7, hms⟩ := hx
    have hml : ms.length ≤ 6 := msOk.len hms
    have hmo : (W.tup (intsW ms)).ok 58 = true := by simpa [W.ok] using oks_ints (l := ms) (n := 57)
    have hms2 : shortT (.tup (intsW ms)) = true := decide_eq_true (by rw [len_ints]; omega)
    dsimp only [Wish.w]
    generalize W.tup (intsW ms) = mw at hmo hms2 ⊢
    have hmo2 := W.ok_mono _ (show 58 ≤ 59 by decide) hmo
    specialize "go"
    intro way w0 w1
    by_cases hz : way = 0
    · subst hz
      specialize "go"
      intro i i0 i1
      refine sIx_n (Q := NoWish) i0 i1 (fun b hb => ?_) fun b hb => fin.as (h b hb)
      simp only [List.mem_cons, List.not_mem_nil, or_false] at hb
      rcases hb with rfl | rfl | rfl | rfl | rfl | rfl
      · exact NoWish.of (l := [.str "group", .int g, mw, .int 0]) (by rw [isw_group]; rfl) (by simp only [W.oks, W.ok, hmo, Bool.and_true]; decide +kernel) (Nat.le_of_ble_eq_true rfl) (by simp only [List.all_cons, List.all_nil, hms2]; rfl)
      · exact NoWish.of (l := [.str "group", .int g]) (by rw [isw_group]; rfl) (by kernel_rfl) (Nat.le_of_ble_eq_true rfl) rfl
      · exact NoWish.of rfl rfl (Nat.le_of_ble_eq_true rfl) rfl
      · exact NoWish.of (l := [.str (Txt.upper "group"), .int g, mw]) (isw_other (by decide +kernel)) (by simp only [W.oks, W.ok, hmo, Bool.and_true]; decide +kernel) (Nat.le_of_ble_eq_true rfl) (by simp only [List.all_cons, List.all_nil, hms2]; rfl)
      · exact NoWish.of (l := [.int 0, .int g, mw]) rfl (by simp only [W.oks, W.ok, hmo, Bool.and_true]) (Nat.le_of_ble_eq_true rfl) (by simp only [List.all_cons, List.all_nil, hms2]; rfl)
      · exact NoWish.of (l := [.str (cutS "group" none (some (-1))), .int g, mw]) (isw_other (by decide +kernel)) (by simp only [W.oks, W.ok, hmo, Bool.and_true]; decide +kernel) (Nat.le_of_ble_eq_true rfl) (by simp only [List.all_cons, List.all_nil, hms2]; rfl)
    · specialize "go"
      intro at0 t0 t1
      simp only [List.length_cons, List.length_nil] at t1
      obtain rfl | rfl : at0 = 0 ∨ at0 = 1 := by omega
      · specialize "go"
        intro i i0 i1
        refine sIx_n (Q := fun w => isNumW w 6 7 = false ∧ w.ok 58 = true ∧ shortT w = true) i0 i1 (fun b hb => ?_) fun v hv => ?_
        · simp only [List.mem_cons, List.not_mem_nil, or_false] at hb
          rcases hb with rfl | rfl | rfl
          · exact ⟨num_not (by omega), rfl, rfl⟩
          · exact ⟨rfl, rfl, rfl⟩
          · exact ⟨num_not (by omega), rfl, rfl⟩
        · specialize "go"
          exact fin.as (h _ (NoWish.of (l := [.str "group", v, mw]) (by rw [isw_group]; show (_ && _) = false; rw [hv.1]; rfl) (by simp only [W.oks, W.ok, hmo, hv.2.1, Bool.and_true]; decide +kernel) (Nat.le_of_ble_eq_true rfl) (by simp only [List.all_cons, List.all_nil, hms2, hv.2.2]; rfl)))
      · specialize "go"
        intro i i0 i1
        refine sIx_n (Q := fun w => memW w = false ∧ w.ok 58 = true ∧ shortT w = true) i0 i1 (fun b hb => ?_) fun v hv => ?_
        · simp only [List.mem_cons, List.not_mem_nil, or_false] at hb
          rcases hb with rfl | rfl | rfl | rfl | rfl | rfl | rfl
          · exact ⟨rfl, rfl, rfl⟩
          · exact ⟨by decide +kernel, rfl, rfl⟩
          · refine ⟨memW_no fun z => ?_, rfl, rfl⟩
            have z := z (.int (6 + far)) (by simp)
            rw [num_not (by omega)] at z
            cases z
          · exact ⟨by decide +kernel, rfl, rfl⟩
          · exact ⟨by decide +kernel, rfl, rfl⟩
          · exact ⟨by decide +kernel, by decide +kernel, rfl⟩
          · exact ⟨rfl, rfl, rfl⟩
        · specialize "go"
          exact fin.as (h _ (NoWish.of (l := [.str "group", .int g, v]) (by rw [isw_group]; show (_ && _) = false; rw [hv.1, Bool.and_false]) (by simp only [W.oks, W.ok, hv.2.1, Bool.and_true]; decide +kernel) (Nat.le_of_ble_eq_true rfl) (by simp only [List.all_cons, List.all_nil, hv.2.2]; rfl)))
  · obtain ⟨a, ns, ms, k⟩ := oddK_of hx fun g ms e => hgx ⟨g, ms, e⟩
    rw [k.hw]
    have hu5 : a.length ≤ 5592405 := Nat.le_trans k.al (by decide)
    have hs5 : a.length ≤ sizeLine := Nat.le_trans k.al (by decide)
    have hn := k.hn
    have h3 := k.h3
    have hlm : (ns.map W.int).length = ns.length := List.length_map _
    specialize "go"
    intro way w0 w1
    by_cases hz : way = 0
    · subst hz
      specialize "go"
      intro i i0 i1
      exact sIx_n (Q := NoWish) i0 i1 k.z0 fun b hb => fin.as (h b hb)
    · specialize "go"
      intro at0 t0 t1
      obtain ⟨j, rfl, hj⟩ : ∃ j : Nat, at0 = j ∧ j < ns.length := ⟨at0.toNat, by omega, by omega⟩
      obtain ⟨n, hnj⟩ : ∃ n, ns[j]? = some n := ⟨_, List.getElem?_eq_getElem hj⟩
      obtain ⟨m, hmj⟩ : ∃ m, ms[j]? = some m := ⟨_, List.getElem?_eq_getElem (Nat.lt_of_lt_of_le hj k.ml)⟩
      have dn := k.dig n (List.mem_of_getElem? hnj)
      have hm0 := k.mp m (List.mem_of_getElem? hmj)
      have ixn : atI (ns.map W.int) (j : Int) = some (.int n) := atI_nat (by rw [List.getElem?_map, hnj]; rfl)
      have ixm : atI (ms.map W.int) (j : Int) = some (.int m) := atI_nat (by rw [List.getElem?_map, hmj]; rfl)
      have hgn : decide (a = Str.ofString "group") = false := decide_eq_false k.hg
      have hso := k.so
      have km := k.most
      unfold mostD at km
      specialize "go"
      refine ⟨⟨_, rfl, .inl ⟨_, List.getElem?_concat_length⟩⟩, ?_⟩
      specialize "go"
      refine sGet2_i (dget_k List.getElem?_concat_length rfl) ?_
      rw [km]
      clear km
      specialize "go"
      refine sIx_n (Q := BadV m) (by omega) (by simp only [List.length_cons, List.length_nil]; omega) (bad4 hm0 f0 dn.1 dn.2) fun v hv => ?_
      have hj3 : j = 0 ∨ j = 1 ∨ j = 2 := by omega
      rcases hj3 with rfl | rfl | rfl
      · specialize "go"
        exact fin_nw hS (k.z1 0 n m v hnj hmj hv) h
      · obtain ⟨p0, hp0⟩ : ∃ p0, ns[0]? = some p0 := ⟨_, List.getElem?_eq_getElem (by omega)⟩
        have ix0 : atI (ns.map W.int) 0 = some (.int p0) := atI_nat (j := 0) (by rw [List.getElem?_map, hp0]; rfl)
        specialize "go"
        intro v3 c0 c1
        specialize "go"
        by_cases h3 : v3 = 0
        · refine sIte_t (decide_eq_true h3) ?_
          specialize "go"
          exact fin_nw hS (k.z2 n p0 hnj hp0) h
        · refine sIte_f (decide_eq_false h3) ?_
          specialize "go"
          exact fin_nw hS (k.z1 1 n m v hnj hmj hv) h
      · specialize "go"
        intro v3 c0 c1
        specialize "go"
        by_cases h3 : v3 = 0
        · refine sIte_t (decide_eq_true h3) ?_
          specialize "go"
          exact fin_nw hS (k.z3 n hnj) h
        · refine sIte_f (decide_eq_false h3) ?_
          specialize "go"
          exact fin_nw hS (k.z1 2 n m v hnj hmj hv) h
end
local macro_rules | `(tactic| specialize "fun") => `(tactic| ((with_reducible show wE _ _ (Expr.Call (Expr.Name (Str.ofString "_law_odd") _) _ _ _) _ _ _); refine xE_call (cf_odd (by assumption) (by assumption)) (Room.mono (by assumption) (by decide)) ?_))
end

end
section
local macro_rules | `(tactic| specialize "fun") => `(tactic| ((with_reducible show wE _ _ (Expr.Call (Expr.Name (Str.ofString "_law_taken") _) _ _ _) _ _ _); refine xE_call (cf_law_taken (by assumption) (by assumption)) (Room.mono (by assumption) (by decide)) ?_))
local macro_rules | `(tactic| specialize "s3") => `(tactic| ((with_reducible show asp_taken _ _ _ _ _); refine ⟨_, _, rfl, (by specialize "nth"), (by first | decide | omega), (by first | decide | omega), ?_⟩))
local macro_rules | `(tactic| specialize "fun") => `(tactic| ((with_reducible show wE _ _ (Expr.Call (Expr.Name (Str.ofString "_law_goal") _) _ _ _) _ _ _); refine xE_call (cf_law_goal (by assumption) (by assumption)) (Room.mono (by assumption) (by decide)) ?_))
local macro_rules | `(tactic| specialize "s3") => `(tactic| ((with_reducible show asp_law_goal _ _ _ _ _); refine ⟨_, _, rfl, (by specialize "nth"), (by omega), (by omega), ?_⟩))
local macro_rules | `(tactic| specialize "fun") => `(tactic| ((with_reducible show wE _ _ (Expr.Call (Expr.Name (Str.ofString "_law_wish") _) _ _ _) _ _ _); refine xE_call (cf_law_wish (by assumption) (by assumption)) (Room.mono (by assumption) (by decide)) ?_))
local macro_rules | `(tactic| specialize "s3") => `(tactic| ((with_reducible show asp_law_wish _ _ _ _ _); refine ⟨_, rfl, (by specialize "nth"), ?_⟩))

-- B6
section
variable {P : Program} {w : World} {K : PySem.W.Frag} {mg : Str → Option Value} {base : Heap} {C_Book C_Way C_Call C_Phone C_Hall : Addr}
def asp_again (K : PySem.W.Frag) : ASp := fun ws S Φ _ => ∃ (r : Nat) (x : Wish), ws = [.ref r, x.w] ∧ S[r]? = some (.row K) ∧ x.ok ∧ ∀ y : Wish, y.ok → y.key = x.key → Φ y.w S
section
local macro_rules | `(tactic| specialize "plus") => `(tactic| ((with_reducible show wE _ _ (Expr.BinOp (Expr.Subscript (Expr.Name (Str.ofString "_law_wish_here") _) _ _) Operator.Add _ _) _ _ _); refine xE_catT ?_))
local macro_rules | `(tactic| specialize "s2") => `(tactic| ((with_reducible show sCatT (W.tup _) (W.tup _) _ _); refine sCatT_i (by exact Nat.le_of_ble_eq_true rfl) ?_))
local macro_rules | `(tactic| specialize "s2") => `(tactic| ((with_reducible show sCutT (W.tup (List.cons _ (List.cons _ _))) none (some 2) _ _); refine sCutT_i ?_; rw [cut_2]))
theorem cut_2 {v u : W} {ws : List W} : cutW (v :: u :: ws) none (some 2) = [v, u] := by
  rw [cut_toN (by decide)]
  rfl
theorem cf_again (G : GL mg) (D : DS K mg C_Book C_Way C_Call C_Phone C_Hall) : CFn P w K mg base "_law_again" 4 2 (asp_again K) := by
  refine D.d_law_again.fn sc_law_again fun f cdv A outer s H E hr ws S Φ Ψ hl hS ha => ?_
  obtain ⟨r, x, rfl, hr0, hx, h⟩ := ha
  cases x with
  | all p g =>
    obtain ⟨p0, p5, g0, g7, hpg⟩ := hx
    dsimp only [Wish.w]
    specialize "go"
    intro g' a0 a1 a2
    specialize "go"
    exact fin.as (h (.all p g') ⟨p0, p5, a0, a1, a2⟩ rfl)
  | busy p g =>
    obtain ⟨p0, p5, g0, g7, hpg⟩ := hx
    dsimp only [Wish.w]
    specialize "go"
    intro g' a0 a1 a2
    specialize "go"
    exact fin.as (h (.busy p g') ⟨p0, p5, a0, a1, a2⟩ rfl)
  | late p g t =>
    obtain ⟨p0, p5, g0, g7, hpg, t1, t9⟩ := hx
    dsimp only [Wish.w]
    specialize "go"
    intro g' a0 a1 a2
    specialize "go"
    intro v b0 b1
    specialize "go"
    exact fin.as (h (.late p g' (1 + v)) ⟨p0, p5, a0, a1, a2, by omega, by omega⟩ rfl)
  | wait p =>
    dsimp only [Wish.w]
    specialize "go"
    exact fin.as (h (.wait p) hx rfl)
  | still p =>
    dsimp only [Wish.w]
    specialize "go"
    exact fin.as (h (.still p) hx rfl)
  | bar p o =>
    dsimp only [Wish.w]
    specialize "go"
    exact fin.as (h (.bar p o) hx rfl)
  | group g ms =>
    obtain ⟨g6, g7, hms⟩ := hx
    dsimp only [Wish.w]
    specialize "go"
    intro v b0 b1
    specialize "go"
    exact fin.as (h (.group g [v]) ⟨g6, g7, ⟨by simp, by simp, fun m hm => by rw [List.mem_singleton.mp hm]; omega, fun k a b h1 h2 => by cases k <;> cases h2⟩⟩ rfl)
end
end

end
section
local macro_rules | `(tactic| specialize "fun") => `(tactic| ((with_reducible show wE _ _ (Expr.Call (Expr.Name (Str.ofString "_law_taken") _) _ _ _) _ _ _); refine xE_call (cf_law_taken (by assumption) (by assumption)) (Room.mono (by assumption) (by decide)) ?_))
local macro_rules | `(tactic| specialize "s3") => `(tactic| ((with_reducible show asp_taken _ _ _ _ _); refine ⟨_, _, rfl, (by specialize "nth"), (by first | decide | omega), (by first | decide | omega), ?_⟩))
local macro_rules | `(tactic| specialize "fun") => `(tactic| ((with_reducible show wE _ _ (Expr.Call (Expr.Name (Str.ofString "_law_goal") _) _ _ _) _ _ _); refine xE_call (cf_law_goal (by assumption) (by assumption)) (Room.mono (by assumption) (by decide)) ?_))
local macro_rules | `(tactic| specialize "s3") => `(tactic| ((with_reducible show asp_law_goal _ _ _ _ _); refine ⟨_, _, rfl, (by specialize "nth"), (by omega), (by omega), ?_⟩))
local macro_rules | `(tactic| specialize "fun") => `(tactic| ((with_reducible show wE _ _ (Expr.Call (Expr.Name (Str.ofString "_law_wish") _) _ _ _) _ _ _); refine xE_call (cf_law_wish (by assumption) (by assumption)) (Room.mono (by assumption) (by decide)) ?_))
local macro_rules | `(tactic| specialize "s3") => `(tactic| ((with_reducible show asp_law_wish _ _ _ _ _); refine ⟨_, rfl, (by specialize "nth"), ?_⟩))

local macro_rules | `(tactic| specialize "fun") => `(tactic| ((with_reducible show wE _ _ (Expr.Call (Expr.Name (Str.ofString "_law_wishes") _) _ _ _) _ _ _); refine xE_call (cf_law_wishes (by assumption) (by assumption)) (Room.mono (by assumption) (by decide)) ?_))
local macro_rules | `(tactic| specialize "s3") => `(tactic| ((with_reducible show asp_law_wishes _ _ _ _ _); refine ⟨_, _, rfl, (by specialize "nth"), (by first | decide | omega), (by first | decide | omega), ?_⟩))

-- B7
section
variable {P : Program} {w : World} {K : PySem.W.Frag} {mg : Str → Option Value} {base : Heap} {C_Book C_Way C_Call C_Phone C_Hall C_PE C_BW C_BP C_BN C_BS C_NN C_BD C_BT : Addr}
def asp_law (K : PySem.W.Frag) (Pt : Addr) (q : Str) : ASp := fun ws S Φ _ => ∃ ns, ws = [.scr K ns] ∧ ns.length ≤ 63 ∧ S = [.tab Pt q] ∧ Φ (.bl true) S
def barK (k : Nat) : Wish := .bar ((k : Int) / 5) (((k : Int) / 5 + 1 + (k : Int) % 5) % 6)
theorem barK_ok {k : Nat} (h : k < 30) : (barK k).ok := by
  refine ⟨?_, ?_, ?_, ?_, ?_⟩ <;> omega
def bars24 : List Wish := (List.range 24).map barK
theorem bars24_ok : ∀ x ∈ bars24, x.ok := fun x hx => by
  obtain ⟨k, hk, rfl⟩ := List.mem_map.mp hx
  exact barK_ok (by have := List.mem_range.mp hk; omega)
theorem bars24_nd : (bars24.map Wish.key).Nodup := by decide +kernel
theorem bars_split {n : Nat} (h : 25 ≤ n) : ∃ r : List Wish, (List.range n).map barK = bars24 ++ barK 24 :: r := by
  obtain ⟨m, rfl⟩ : ∃ m, n = 24 + (m + 1) := ⟨n - 25, by omega⟩
  refine ⟨((List.range m).map Nat.succ).map fun k => barK (24 + k), ?_⟩
  have e : List.range (m + 1) = 0 :: (List.range m).map Nat.succ := List.range_succ_eq_map
  have e2 : (List.range 24).map barK = bars24 := rfl
  rw [List.range_add, e, List.map_append, e2, List.map_cons, List.map_cons, List.map_map]
  rfl
theorem bars_len : bars24.length = 24 := rfl
theorem bars_bad {n : Nat} (h : 25 ≤ n) (h2 : n ≤ 1000) : BadWs (((List.range n).map barK).map Wish.w) 24 := by
  obtain ⟨r, e⟩ := bars_split h
  refine ⟨⟨bars24, (barK 24).w, r.map Wish.w, by rw [e, List.map_append]; rfl, rfl, by decide, by rw [List.length_map, List.length_map, List.length_range]; exact h2, bars24_ok, bars24_nd, .inl rfl⟩⟩
theorem bars_take {n : Nat} (h : 25 ≤ n) : ((List.range n).map barK).take 24 = bars24 := by
  obtain ⟨r, e⟩ := bars_split h
  rw [e, List.take_append_of_le_length (by rw [bars_len]; decide), List.take_of_length_le (by rw [bars_len]; decide)]
theorem bars_eq {n : Nat} : (List.filter (fun _ => true) (List.range n)).map (fun x : Nat => W.tup [W.str (Str.ofString "bar"), W.int ((0 + (x : Int)) / 5), W.int (((0 + (x : Int)) / 5 + 1 + (0 + (x : Int)) % 5) % 6)]) = ((List.range n).map barK).map Wish.w := by
  rw [List.filter_eq_self.mpr fun _ _ => rfl, List.map_map]
  refine List.map_congr_left fun x _ => ?_
  rw [Int.zero_add]
  rfl
theorem rep_flatT {n : Nat} {z : W} : (List.replicate n [z]).flatten = List.replicate n z := by
  induction n with
  | zero => rfl
  | succ n ih => rw [List.replicate_succ, List.replicate_succ, List.flatten_cons, ih]; rfl
theorem take_bad {A R : List W} {b : W} (h : A.length < 24) : (A ++ [b] ++ R).take 24 = A ++ b :: R.take (23 - A.length) := by
  rw [List.append_assoc, List.take_append, List.take_of_length_le (by omega)]
  congr 1
  rw [show 24 - A.length = (23 - A.length) + 1 by omega]
  rfl
theorem badWs_odd {xs : List Wish} {j : Nat} {b : W} {R : List W} (ho : ∀ x ∈ xs, x.ok) (hnd : (xs.map Wish.key).Nodup) (hj : j ≤ xs.length) (h24 : j < 24) (hb : NoWish b ∨ ∃ y : Wish, b = y.w ∧ y.ok ∧ y.key ∈ (xs.take j).map Wish.key) :
    BadWs (((xs.take j).map Wish.w ++ [b] ++ R).take 24) j := by
  have hl : ((xs.take j).map Wish.w).length = j := by rw [List.length_map, List.length_take]; omega
  refine ⟨⟨xs.take j, b, R.take (23 - j), ?_, by rw [List.length_take]; omega, by rw [List.length_take]; omega, ?_, fun x hx => ho x (List.mem_of_mem_take hx), ?_, ?_⟩⟩
  · rw [take_bad (by rw [hl]; exact h24), hl]
  · rw [List.length_take]; omega
  · rw [List.map_take]
    exact hnd.sublist (List.take_sublist _ _)
  · rcases hb with hb | hb
    · exact .inr (.inl ⟨hb.1, W.ok_mono _ (show 59 ≤ 60 by decide) hb.2.1, hb.2.2⟩)
    · exact .inr (.inr hb)
abbrev NLaw : List Str := ["_law_script", "_law_row", "_law_turn", "_law_wishes_here", "_law_at", "_law_bad", "_law_more", "_law_spoilt", "_law_size", "_law_many", "_law_k"]
section
local macro_rules | `(tactic| specialize "st") => `(tactic| ((with_reducible show wS _ _ (Stmt.Assign [Expr.Name (Str.ofString "_law_row") _] _ _) _ _ _); refine' xS_set ?k1 (of_decide_eq_true (by kernel_rfl)) ?_; (case k1 => specialize "idx"); refine xE_lstN ?_))
local macro_rules | `(tactic| specialize "st") => `(tactic| ((with_reducible show wS _ _ (Stmt.Assign [Expr.Name (Str.ofString "_law_wishes_here") _] _ _) _ _ _); refine stop_i ?_))
local macro_rules | `(tactic| specialize "st") => `(tactic| ((with_reducible show wS _ _ (Stmt.If _ _ _ _) _ _ _); refine stop_i ?_))
local macro_rules | `(tactic| specialize "fun") => `(tactic| ((with_reducible show wE _ _ (Expr.Call (Expr.Name (Str.ofString "_law_works") _) _ _ _) _ _ _); refine xE_call (cf_works (by assumption) (by assumption) (by assumption) (by assumption)) (Room.mono (by assumption) (by decide)) ?_))
local macro_rules | `(tactic| specialize "fun") => `(tactic| ((with_reducible show wE _ _ (Expr.Call (Expr.Name (Str.ofString "_law_are") _) _ _ _) _ _ _); refine xE_call (cf_are (by assumption) (by assumption) (by assumption)) (Room.mono (by assumption) (by decide)) ?_))
local macro_rules | `(tactic| specialize "fun") => `(tactic| ((with_reducible show wE _ _ (Expr.Call (Expr.Name (Str.ofString "_law_odd") _) _ _ _) _ _ _); refine xE_call (cf_odd (by assumption) (by assumption)) (Room.mono (by assumption) (by decide)) ?_))
local macro_rules | `(tactic| specialize "fun") => `(tactic| ((with_reducible show wE _ _ (Expr.Call (Expr.Name (Str.ofString "_law_again") _) _ _ _) _ _ _); refine xE_call (cf_again (by assumption) (by assumption)) (Room.mono (by assumption) (by decide)) ?_))
local macro_rules | `(tactic| specialize "slice") => `(tactic| ((with_reducible show wE _ _ (Expr.Subscript (Expr.Name (Str.ofString "_law_wishes_here") _) _ _) _ _ _); refine xE_slL ?_))
local macro_rules | `(tactic| specialize "slice") => `(tactic| ((with_reducible show wE _ _ (Expr.Subscript (Expr.Name (Str.ofString "_law_spoilt") _) _ _) _ _ _); refine xE_slL ?_))
local macro_rules | `(tactic| specialize "slice") => `(tactic| ((with_reducible show wE _ _ (Expr.Subscript (Expr.Name (Str.ofString "_law_many") _) _ _) _ _ _); refine xE_slL ?_))
local macro_rules | `(tactic| specialize "plus") => `(tactic| ((with_reducible show wE _ _ (Expr.BinOp (Expr.Subscript (Expr.Name (Str.ofString "_law_wishes_here") _) _ _) Operator.Add _ _) _ _ _); refine xE_cat ?_))
local macro_rules | `(tactic| specialize "plus") => `(tactic| ((with_reducible show wE _ _ (Expr.BinOp (Expr.BinOp _ _ _ _) Operator.Add (Expr.Subscript _ _ _) _) _ _ _); refine xE_cat ?_))
local macro_rules | `(tactic| specialize "plus") => `(tactic| ((with_reducible show wE _ _ (Expr.BinOp (Expr.BinOp _ _ _ _) Operator.Add (Expr.Name (Str.ofString "_law_more") _) _) _ _ _); refine xE_cat ?_))
local macro_rules | `(tactic| specialize "s2") => `(tactic| ((with_reducible show sCut (W.lst (List.map _ _)) none (some _) _ _); refine sCut_toF (by omega) ?_))
local macro_rules | `(tactic| specialize "s2") => `(tactic| ((with_reducible show sCut (W.lst (List.map _ _)) (some _) none _ _); refine sCut_fromF (by omega) ?_))
local macro_rules | `(tactic| specialize "s2") => `(tactic| ((with_reducible show sCat (W.lst _) (W.lst _) _ _); refine sCat_i (by simp only [List.length_append, List.length_map, List.length_take, List.length_drop, List.length_cons, List.length_nil] <;> omega) ?_))
theorem law_hbody (G : GL mg) (D : DS K mg C_Book C_Way C_Call C_Phone C_Hall) (N : EE K mg C_PE C_BW C_BP C_BN C_BS C_NN C_BD C_BT) {c Pt : Addr} (hc : CodeAt K mg "_law_works" c) (TB : LamX.TabB base mg c Pt) (f : Addr) (cdv : Value) (A : Around) (outer : List Env) (s : Shared) (H : Hp) (E : XK) (hr : Room 13 (A.deeper (envOfC "law" (defScope s_law) s.heap.objs.size f cdv))) (ws : List W) (S : Sto) (Φ : W → Sto → Prop) (Ψ : Value → List (Str × W) → Sto → Prop) (hl : ws.length = 1) (hS : Srl S) (ha : asp_law K Pt (("_law_works" : Str) ++ ".<locals>." ++ "<lambda>") ws S Φ Ψ) :
    wB (cxOf (L2.CX P w) P w K mg base NLaw "law" (defScope s_law) f cdv A outer s H E) (fun cls fs _ S2 => Ψ cls fs S2) (defBody s_law) (startW NLaw.length ws) S ⟨fun _ S2 => fin S.length Φ .non S2, fin S.length Φ, fun _ _ => False, fun _ _ => False⟩ := by
  obtain ⟨ns, rfl, hns, rfl, h⟩ := ha
  specialize "go"
  have hq : ([O.tab Pt (("_law_works" : Str) ++ ".<locals>." ++ "<lambda>")] ++ [O.lst [.scr K ns, .int 0, .int 0]])[1]? = some (rowL K ns 0 0) := rfl
  refine wS.less (imp_fold hq ⟨hns, by decide, by decide, by decide⟩) ?_
  show wS _ _ _ _ [O.tab Pt (workQ ++ "<lambda>"), O.row K] _
  obtain ⟨S0, hS0⟩ : ∃ S0, S0 = [O.tab Pt (workQ ++ "<lambda>"), O.row K] := ⟨_, rfl⟩
  have hr0 : S0[1]? = some (.row K) := by rw [hS0]; rfl
  have ht0 : S0[0]? = some (.tab Pt (workQ ++ "<lambda>")) := by rw [hS0]; rfl
  have nt0 : Snt S0 := by
    rw [hS0]
    intro o ho
    simp only [List.mem_cons, List.not_mem_nil, or_false] at ho
    rcases ho with rfl | rfl <;> rfl
  rw [← hS0]
  refine wS_for (passes_of rfl) rfl ?_
  specialize "go"
  refine ⟨fun i E' S' => S' = S0 ∧ ∃ a2 a3 a4 a5 a6 a7 a8 a9 a10, E' = [some (.scr K ns), some (.ref 1), a2, a3, a4, a5, a6, a7, a8, a9, a10], ⟨rfl, _, _, _, _, _, _, _, _, _, rfl⟩, fun _ _ _ _ => trivial, ?_, ?_⟩
  · rintro i w E' S' hw ⟨rfl, a2, a3, a4, a5, a6, a7, a8, a9, a10, rfl⟩
    obtain ⟨xt, hxt, rfl⟩ := map_inv hw
    specialize "go"
    unfold Stop
    refine' xS_set ?k1 (of_decide_eq_true (by kernel_rfl)) ?_
    (case k1 => specialize "idx")
    specialize "go"
    intro v hv0 hv1
    obtain ⟨m, hm, hm0, hm1⟩ : ∃ m : Int, atI [W.int 6, W.int 24] v = some (.int m) ∧ 0 ≤ m ∧ m ≤ 24 := by
      have hv : v = 0 ∨ v = 1 := by omega
      rcases hv with rfl | rfl
      · exact ⟨6, rfl, by decide, by decide⟩
      · exact ⟨24, rfl, by decide, by decide⟩
    refine sIx_i rfl hm ?_
    specialize "go"
    intro xs h1 h2 h3
    have h24 : xs.length ≤ 24 := by omega
    have hlm : (xs.map Wish.w).length = xs.length := List.length_map _
    specialize "go"
    unfold Stop
    refine xS_if ?_
    specialize "go"
    refine ⟨xs.map Wish.w, rfl, wishes_ok xs, ht0, fun c a objs ts hR tl nq => ?_⟩
    specialize "go"
    refine ⟨c, a, objs, ts, _, _, rfl, hR, tl, nq, nt0, .inr ⟨xs, rfl, h24, h2, h3, rfl⟩, ?_⟩
    specialize "go"
    intro j0 j1 j2
    obtain ⟨j, rfl, hj⟩ : ∃ j : Nat, j0 = j ∧ j ≤ xs.length := ⟨j0.toNat, by omega, by omega⟩
    specialize "go"
    intro x hx
    specialize "go"
    refine ⟨1, x, rfl, hr0, hx, fun b hb => ?_⟩
    specialize "go"
    unfold Stop
    refine wS_cut (fun E1 T => T = S' ∧ ∃ b', (NoWish b' ∨ ∃ y : Wish, b' = y.w ∧ y.ok ∧ y.key ∈ (xs.take j).map Wish.key) ∧ E1 = [some (.scr K ns), some (.ref 1), some (.int (0 + (xt : Int))), some (.lst (xs.map Wish.w)), some (.int (j : Int)), some b', a6, a7, a8, a9, a10]) ?_ ?_
    · refine xS_if ?_
      by_cases hjp : 0 < j
      · have d0 : decide ((0 : Int) < (j : Int)) = true := decide_eq_true (by omega)
        specialize "go"
        intro v3 c0 c1
        specialize "go"
        by_cases h30 : v3 = 0
        · refine sIte_t (decide_eq_true h30) ?_
          specialize "go"
          intro i0 i1 i2
          obtain ⟨i, rfl, hi⟩ : ∃ i : Nat, i0 = i ∧ i < j := ⟨i0.toNat, by omega, by omega⟩
          obtain ⟨z, hz⟩ : ∃ z, xs[i]? = some z := ⟨_, List.getElem?_eq_getElem (by omega)⟩
          have ixz : atI (xs.map Wish.w) (i : Int) = some z.w := atI_nat (by rw [List.getElem?_map, hz]; rfl)
          refine sIx_i (w := z.w) rfl ixz ?_
          specialize "go"
          refine ⟨1, z, rfl, hr0, h2 z (List.mem_of_getElem? hz), fun y hyo hyk => ?_⟩
          specialize "go"
          refine ⟨rfl, y.w, .inr ⟨y, rfl, hyo, ?_⟩, rfl⟩
          rw [hyk]
          exact List.mem_map_of_mem (List.mem_of_getElem? (i := i) (by rw [List.getElem?_take_of_lt hi]; exact hz))
        · refine sIte_f (decide_eq_false h30) ?_
          specialize "go"
          exact ⟨rfl, b, .inl hb, rfl⟩
      · have d0 : decide ((0 : Int) < (j : Int)) = false := decide_eq_false (by omega)
        specialize "go"
        exact ⟨rfl, b, .inl hb, rfl⟩
    rintro E1 T ⟨rfl, b', hb', rfl⟩
    specialize "go"
    intro v4 e0 e1
    specialize "go"
    refine sRep_i e0 (by omega) (by simp) ?_
    rw [rep_flatT]
    have hml : (List.replicate v4.toNat (W.tup [])).length ≤ 1 := by rw [List.length_replicate]; omega
    have hmo : W.oks (List.replicate v4.toNat (W.tup [])) 59 = true := by
      rw [W.oks_all, List.all_eq_true]
      intro x hx
      rw [List.eq_of_mem_replicate hx]
      rfl
    generalize List.replicate v4.toNat (W.tup []) = mr at hml hmo ⊢
    have hbo : b'.ok 59 = true := by
      rcases hb' with hb | ⟨y, rfl, _⟩
      · exact hb.2.1
      · exact Wish.wok y
    specialize "go"
    unfold Stop
    refine wS_cut (fun E1 T2 => T2 = T ∧ ∃ a6 a7, E1 = [some (.scr K ns), some (.ref 1), some (.int (0 + (xt : Int))), some (.lst (xs.map Wish.w)), some (.int (j : Int)), some b', a6, a7, a8, a9, a10]) ?_ ?_
    · refine xS_if ?_
      by_cases h24j : j < 24
      · have d1 : decide ((j : Int) < 24) = true := decide_eq_true (by omega)
        have hbad := badWs_odd (R := (xs.drop j).map Wish.w ++ mr) h2 h3 hj h24j hb'
        have hoks : W.oks (((xs.take j).map Wish.w ++ [b'] ++ ((xs.drop j).map Wish.w ++ mr)).take 24) 59 = true := by
          have a1 : W.oks ((xs.take j).map Wish.w) 59 = true := wishes_ok _
          have a2 : W.oks ((xs.drop j).map Wish.w) 59 = true := wishes_ok _
          rw [W.oks_all, List.all_eq_true] at a1 a2 hmo ⊢
          intro x hx
          rcases List.mem_append.mp (List.mem_of_mem_take hx) with h | h
          · rcases List.mem_append.mp h with h | h
            · exact a1 x h
            · rw [List.mem_singleton.mp h]; exact hbo
          · rcases List.mem_append.mp h with h | h
            · exact a2 x h
            · exact hmo x h
        specialize "go"
        rw [cut_toN (by decide), List.append_assoc (_ ++ _)]
        refine ⟨_, rfl, hoks, ht0, fun c a objs ts hR tl nq => ?_⟩
        specialize "go"
        refine ⟨c, a, objs, ts, _, _, rfl, hR, tl, nq, nt0, .inl ⟨j, hbad, rfl⟩, ?_⟩
        specialize "go"
        exact ⟨rfl, _, _, rfl⟩
      · have d1 : decide ((j : Int) < 24) = false := decide_eq_false (by omega)
        specialize "go"
        exact ⟨rfl, _, _, rfl⟩
    rintro E1 T2 ⟨rfl, b6, b7, rfl⟩
    specialize "go"
    dsimp only
    refine dropTo.as ?_
    exact ⟨rfl, _, _, _, _, _, _, _, _, _, rfl⟩
  · rintro E' S' ⟨rfl, a2, a3, a4, a5, a6, a7, a8, a9, a10, rfl⟩
    specialize "go"
    intro v hv0 hv1
    specialize "go"
    unfold Stop
    rw [bars_eq]
    obtain ⟨n, hn, hn1, hn2⟩ : ∃ n : Nat, (25 + v).toNat = n ∧ 25 ≤ n ∧ n ≤ 1000 := ⟨_, rfl, by omega, by omega⟩
    rw [hn]
    have hbad := bars_bad hn1 hn2
    have htk := bars_take hn1
    generalize (List.range n).map barK = bs at hbad htk ⊢
    refine xS_if ?_
    specialize "go"
    refine ⟨_, rfl, wishes_ok _, ht0, fun c a objs ts hR tl nq => ?_⟩
    specialize "go"
    refine ⟨c, a, objs, ts, _, _, rfl, hR, tl, nq, nt0, .inl ⟨24, hbad, rfl⟩, ?_⟩
    specialize "go"
    refine ⟨_, rfl, wishes_ok _, ht0, fun c a objs ts hR tl nq => ?_⟩
    specialize "go"
    have htk2 : bs.take (Int.toNat 24) = bars24 := htk
    refine ⟨c, a, objs, ts, _, _, rfl, hR, tl, nq, nt0, .inr ⟨bars24, by rw [htk2], Nat.le_refl _, bars24_ok, bars24_nd, rfl⟩, ?_⟩
    specialize "go"
    rw [hS0]
    exact fin.drop (S2 := [O.tab Pt (workQ ++ "<lambda>")]) (T := [O.row K]) (Nat.le_refl _) hS (.bl true) h
end
end

end
-- H_k01
theorem all_facts {K : PySem.W.Frag} {h : Heap} {mg : Str → Option Value} {C_Book C_Way C_Call C_Phone C_Hall : Addr} (X : K.In h) (G : h.Ns mainGlobals mg)
    (n_Book : PySem.W.nsIn K mainGlobals "Book" = some (some (.ref C_Book)))
    (n_Way : PySem.W.nsIn K mainGlobals "Way" = some (some (.ref C_Way)))
    (n_Call : PySem.W.nsIn K mainGlobals "Call" = some (some (.ref C_Call)))
    (n_Phone : PySem.W.nsIn K mainGlobals "Phone" = some (some (.ref C_Phone)))
    (n_Hall : PySem.W.nsIn K mainGlobals "Hall" = some (some (.ref C_Hall)))
    (r_is_number : RawDef K "is_number" "is_number" s_is_number)
    (r_is_phone : RawDef K "is_phone" "is_phone" s_is_phone)
    (r_need_phone : RawDef K "need_phone" "need_phone" s_need_phone)
    (r_need_number : RawDef K "need_number" "need_number" s_need_number)
    (r_need_states : RawDef K "need_states" "need_states" s_need_states)
    (r_are_members : RawDef K "are_members" "are_members" s_are_members)
    (r_is_wish : RawDef K "is_wish" "is_wish" s_is_wish)
    (r_key_of : RawDef K "key_of" "key_of" s_key_of)
    (r_need_wishes : RawDef K "need_wishes" "need_wishes" s_need_wishes)
    (r_Book_init : RawMeth K C_Book "__init__" "Book.__init__" s_Book_init)
    (r_Book_has : RawMeth K C_Book "has" "Book.has" s_Book_has)
    (r_Book_goal : RawMeth K C_Book "goal" "Book.goal" s_Book_goal)
    (r_Book_patience : RawMeth K C_Book "patience" "Book.patience" s_Book_patience)
    (r_Book_bars : RawMeth K C_Book "bars" "Book.bars" s_Book_bars)
    (r_Book_members : RawMeth K C_Book "members" "Book.members" s_Book_members)
    (r_rings_at : RawDef K "rings_at" "rings_at" s_rings_at)
    (r_next_of : RawDef K "next_of" "next_of" s_next_of)
    (r_Way_init : RawMeth K C_Way "__init__" "Way.__init__" s_Way_init)
    (r_Way_go : RawMeth K C_Way "go" "Way.go" s_Way_go)
    (r_Way_step : RawMeth K C_Way "step" "Way.step" s_Way_step)
    (r_led : RawDef K "led" "led" s_led)
    (r_way_of : RawDef K "way_of" "way_of" s_way_of)
    (r_had : RawDef K "had" "had" s_had)
    (r_wants : RawDef K "wants" "wants" s_wants)
    (r_Call_init : RawMeth K C_Call "__init__" "Call.__init__" s_Call_init)
    (r_Phone_init : RawMeth K C_Phone "__init__" "Phone.__init__" s_Phone_init)
    (r_Hall_init : RawMeth K C_Hall "__init__" "Hall.__init__" s_Hall_init)
    (r_Hall_phone : RawMeth K C_Hall "phone" "Hall.phone" s_Hall_phone)
    (r_Hall_may_be_knocked_at : RawMeth K C_Hall "may_be_knocked_at" "Hall.may_be_knocked_at" s_Hall_may_be_knocked_at)
    (r_Hall_go_on : RawMeth K C_Hall "go_on" "Hall.go_on" s_Hall_go_on)
    (r_Hall_knock_list : RawMeth K C_Hall "knock_list" "Hall.knock_list" s_Hall_knock_list)
    (r_Hall_silence : RawMeth K C_Hall "silence" "Hall.silence" s_Hall_silence)
    (r_Hall_over : RawMeth K C_Hall "over" "Hall.over" s_Hall_over)
    (r_Hall_answer : RawMeth K C_Hall "answer" "Hall.answer" s_Hall_answer)
    (r_Hall_leave : RawMeth K C_Hall "leave" "Hall.leave" s_Hall_leave)
    (r_Hall_lift : RawMeth K C_Hall "lift" "Hall.lift" s_Hall_lift)
    (r_Hall_dial : RawMeth K C_Hall "dial" "Hall.dial" s_Hall_dial)
    (r_Hall_drop : RawMeth K C_Hall "drop" "Hall.drop" s_Hall_drop)
    (r_Hall_need_talk : RawMeth K C_Hall "need_talk" "Hall.need_talk" s_Hall_need_talk)
    (r_Hall_hold : RawMeth K C_Hall "hold" "Hall.hold" s_Hall_hold)
    (r_Hall_swap : RawMeth K C_Hall "swap" "Hall.swap" s_Hall_swap)
    (r_Hall_take : RawMeth K C_Hall "take" "Hall.take" s_Hall_take)
    (r_Hall_join : RawMeth K C_Hall "join" "Hall.join" s_Hall_join)
    (r_Hall_beat : RawMeth K C_Hall "beat" "Hall.beat" s_Hall_beat)
    (r_Hall_late : RawMeth K C_Hall "late" "Hall.late" s_Hall_late)
    (r_Hall_hear : RawMeth K C_Hall "hear" "Hall.hear" s_Hall_hear)
    (r_Hall_all_calls : RawMeth K C_Hall "all_calls" "Hall.all_calls" s_Hall_all_calls)
    (r_is_deed : RawDef K "is_deed" "is_deed" s_is_deed)
    (r_need_deeds : RawDef K "need_deeds" "need_deeds" s_need_deeds)
    (r_do : RawDef K "do" "do" s_do)
    (r_played : RawDef K "played" "played" s_played)
    (r_words_of : RawDef K "words_of" "words_of" s_words_of)
    (r_written : RawDef K "written" "written" s_written)
    (r_law_taken : RawDef K "_law_taken" "_law_taken" s_law_taken)
    (r_law_word : RawDef K "_law_word" "_law_word" s_law_word)
    (r_law_goal : RawDef K "_law_goal" "_law_goal" s_law_goal)
    (r_law_wish : RawDef K "_law_wish" "_law_wish" s_law_wish)
    (r_law_wishes : RawDef K "_law_wishes" "_law_wishes" s_law_wishes)
    (r_law_works : RawDef K "_law_works" "_law_works" s_law_works)
    (r_law_odd : RawDef K "_law_odd" "_law_odd" s_law_odd)
    (r_law_again : RawDef K "_law_again" "_law_again" s_law_again)
    (r_law_are : RawDef K "_law_are" "_law_are" s_law_are)
    (r_law : RawDef K "law" "law" s_law)
    (kt_STATES : ∃ p od n sl t u, PySem.W.nsIn K mainGlobals "STATES" = some (some (.ref p)) ∧ K.lookup p = some ⟨.type "tuple", od, .seq #[.str "free" t, .str "busy" u] n, sl⟩)
    (m_Book : PySem.W.makesIn K C_Book = true)
    (k_Book : PySem.W.keepIn K (.ref C_Book) = true)
    (pg_Book : PySem.W.plainGet K C_Book Str.empty = true)
    (hd_Book : PySem.W.hasDictIn K C_Book = true)
    (po_Book : PySem.W.plainOver K C_Book = true)
    (sa_Book : PySem.W.findIn K (.ref C_Book) "__setattr__" = some (some (.builtin "object.__setattr__")))
    (na_Book_wanted : PySem.W.findIn K (.ref C_Book) "wanted" = some none)
    (m_Way : PySem.W.makesIn K C_Way = true)
    (k_Way : PySem.W.keepIn K (.ref C_Way) = true)
    (pg_Way : PySem.W.plainGet K C_Way Str.empty = true)
    (hd_Way : PySem.W.hasDictIn K C_Way = true)
    (po_Way : PySem.W.plainOver K C_Way = true)
    (sa_Way : PySem.W.findIn K (.ref C_Way) "__setattr__" = some (some (.builtin "object.__setattr__")))
    (na_Way_book : PySem.W.findIn K (.ref C_Way) "book" = some none)
    (na_Way_caller : PySem.W.findIn K (.ref C_Way) "caller" = some none)
    (na_Way_chain : PySem.W.findIn K (.ref C_Way) "chain" = some none)
    (na_Way_leads : PySem.W.findIn K (.ref C_Way) "leads" = some none)
    (na_Way_group : PySem.W.findIn K (.ref C_Way) "group" = some none)
    (na_Way_word : PySem.W.findIn K (.ref C_Way) "word" = some none)
    (na_Way_ears : PySem.W.findIn K (.ref C_Way) "ears" = some none)
    (m_Call : PySem.W.makesIn K C_Call = true)
    (k_Call : PySem.W.keepIn K (.ref C_Call) = true)
    (pg_Call : PySem.W.plainGet K C_Call Str.empty = true)
    (hd_Call : PySem.W.hasDictIn K C_Call = true)
    (po_Call : PySem.W.plainOver K C_Call = true)
    (sa_Call : PySem.W.findIn K (.ref C_Call) "__setattr__" = some (some (.builtin "object.__setattr__")))
    (na_Call_way : PySem.W.findIn K (.ref C_Call) "way" = some none)
    (na_Call_people : PySem.W.findIn K (.ref C_Call) "people" = some none)
    (na_Call_age : PySem.W.findIn K (.ref C_Call) "age" = some none)
    (na_Call_is_talk : PySem.W.findIn K (.ref C_Call) "is_talk" = some none)
    (m_Phone : PySem.W.makesIn K C_Phone = true)
    (k_Phone : PySem.W.keepIn K (.ref C_Phone) = true)
    (pg_Phone : PySem.W.plainGet K C_Phone Str.empty = true)
    (hd_Phone : PySem.W.hasDictIn K C_Phone = true)
    (po_Phone : PySem.W.plainOver K C_Phone = true)
    (sa_Phone : PySem.W.findIn K (.ref C_Phone) "__setattr__" = some (some (.builtin "object.__setattr__")))
    (na_Phone_is_up : PySem.W.findIn K (.ref C_Phone) "is_up" = some none)
    (na_Phone_now : PySem.W.findIn K (.ref C_Phone) "now" = some none)
    (na_Phone_kept : PySem.W.findIn K (.ref C_Phone) "kept" = some none)
    (na_Phone_bell : PySem.W.findIn K (.ref C_Phone) "bell" = some none)
    (na_Phone_tone : PySem.W.findIn K (.ref C_Phone) "tone" = some none)
    (m_Hall : PySem.W.makesIn K C_Hall = true)
    (k_Hall : PySem.W.keepIn K (.ref C_Hall) = true)
    (pg_Hall : PySem.W.plainGet K C_Hall Str.empty = true)
    (hd_Hall : PySem.W.hasDictIn K C_Hall = true)
    (po_Hall : PySem.W.plainOver K C_Hall = true)
    (sa_Hall : PySem.W.findIn K (.ref C_Hall) "__setattr__" = some (some (.builtin "object.__setattr__")))
    (na_Hall_book : PySem.W.findIn K (.ref C_Hall) "book" = some none)
    (na_Hall_phones : PySem.W.findIn K (.ref C_Hall) "phones" = some none)
    (na_Hall_calls : PySem.W.findIn K (.ref C_Hall) "calls" = some none)
    (eq_Call : PySem.W.findIn K (.ref C_Call) "__eq__" = some (some (.builtin "object.__eq__")))
    (nn_Call : PySem.W.subIn K (.ref C_Call) (.type "NoneType") = some false)
    (b_isinstance : PySem.W.nsIn K mainGlobals "isinstance" = some none)
    (b_int : PySem.W.nsIn K mainGlobals "int" = some none)
    (b_bool : PySem.W.nsIn K mainGlobals "bool" = some none)
    (b_tuple : PySem.W.nsIn K mainGlobals "tuple" = some none)
    (b_str : PySem.W.nsIn K mainGlobals "str" = some none)
    (b_list : PySem.W.nsIn K mainGlobals "list" = some none)
    (b_len : PySem.W.nsIn K mainGlobals "len" = some none)
    (b_range : PySem.W.nsIn K mainGlobals "range" = some none)
    (b_enumerate : PySem.W.nsIn K mainGlobals "enumerate" = some none)
    (b_sorted : PySem.W.nsIn K mainGlobals "sorted" = some none)
    (c_PHONES : ∃ t, PySem.W.nsIn K mainGlobals "PHONES" = some (some (.int 6 t)))
    (c_NUMBERS : ∃ t, PySem.W.nsIn K mainGlobals "NUMBERS" = some (some (.int 8 t)))
    (c_MOST_LATE : ∃ t, PySem.W.nsIn K mainGlobals "MOST_LATE" = some (some (.int 9 t)))
    (c_MOST_WISHES : ∃ t, PySem.W.nsIn K mainGlobals "MOST_WISHES" = some (some (.int 24 t)))
    (c_ALL : ∃ t, PySem.W.nsIn K mainGlobals "ALL" = some (some (.str "all" t)))
    (c_BUSY : ∃ t, PySem.W.nsIn K mainGlobals "BUSY" = some (some (.str "busy" t)))
    (c_LATE : ∃ t, PySem.W.nsIn K mainGlobals "LATE" = some (some (.str "late" t)))
    (c_WAIT : ∃ t, PySem.W.nsIn K mainGlobals "WAIT" = some (some (.str "wait" t)))
    (c_STILL : ∃ t, PySem.W.nsIn K mainGlobals "STILL" = some (some (.str "still" t)))
    (c_BAR : ∃ t, PySem.W.nsIn K mainGlobals "BAR" = some (some (.str "bar" t)))
    (c_GROUP : ∃ t, PySem.W.nsIn K mainGlobals "GROUP" = some (some (.str "group" t)))
    (c_FREE : ∃ t, PySem.W.nsIn K mainGlobals "FREE" = some (some (.str "free" t)))
    (c_RINGS : ∃ t, PySem.W.nsIn K mainGlobals "RINGS" = some (some (.str "rings" t)))
    (c_KNOCKS : ∃ t, PySem.W.nsIn K mainGlobals "KNOCKS" = some (some (.str "knocks" t)))
    (c_BARRED : ∃ t, PySem.W.nsIn K mainGlobals "BARRED" = some (some (.str "barred" t)))
    (c_ROUND : ∃ t, PySem.W.nsIn K mainGlobals "ROUND" = some (some (.str "round" t)))
    (c_NOBODY : ∃ t, PySem.W.nsIn K mainGlobals "NOBODY" = some (some (.str "nobody" t)))
    (c_QUIET : ∃ t, PySem.W.nsIn K mainGlobals "QUIET" = some (some (.str "quiet" t)))
    (c_DIAL : ∃ t, PySem.W.nsIn K mainGlobals "DIAL" = some (some (.str "dial" t)))
    (c_BELL : ∃ t, PySem.W.nsIn K mainGlobals "BELL" = some (some (.str "bell" t)))
    (c_TALK : ∃ t, PySem.W.nsIn K mainGlobals "TALK" = some (some (.str "talk" t)))
    (c_MUSIC : ∃ t, PySem.W.nsIn K mainGlobals "MUSIC" = some (some (.str "music" t)))
    (c_MOST_AGE : ∃ t, PySem.W.nsIn K mainGlobals "MOST_AGE" = some (some (.int 12 t)))
    (c_MOST_DEEDS : ∃ t, PySem.W.nsIn K mainGlobals "MOST_DEEDS" = some (some (.int 200 t)))
    (c_WISH : ∃ t, PySem.W.nsIn K mainGlobals "WISH" = some (some (.str "wish" t)))
    : GL mg ∧ DS K mg C_Book C_Way C_Call C_Phone C_Hall :=
  ⟨⟨PySem.W.mg_none_of X G b_isinstance, PySem.W.mg_none_of X G b_int, PySem.W.mg_none_of X G b_bool, PySem.W.mg_none_of X G b_tuple, PySem.W.mg_none_of X G b_str, PySem.W.mg_none_of X G b_list, PySem.W.mg_none_of X G b_len, PySem.W.mg_none_of X G b_range, PySem.W.mg_none_of X G b_enumerate, PySem.W.mg_none_of X G b_sorted, mgI_of X G c_PHONES, mgI_of X G c_NUMBERS, mgI_of X G c_MOST_LATE, mgI_of X G c_MOST_WISHES, mgS_of X G c_ALL, mgS_of X G c_BUSY, mgS_of X G c_LATE, mgS_of X G c_WAIT, mgS_of X G c_STILL, mgS_of X G c_BAR, mgS_of X G c_GROUP, mgS_of X G c_FREE, mgS_of X G c_RINGS, mgS_of X G c_KNOCKS, mgS_of X G c_BARRED, mgS_of X G c_ROUND, mgS_of X G c_NOBODY, mgS_of X G c_QUIET, mgS_of X G c_DIAL, mgS_of X G c_BELL, mgS_of X G c_TALK, mgS_of X G c_MUSIC, mgI_of X G c_MOST_AGE, mgI_of X G c_MOST_DEEDS, mgS_of X G c_WISH⟩, ⟨RawDef.at r_is_number X G (fun _ _ _ _ _ _ us hl => match us, hl with | [_, _, _], _ => rfl), RawDef.at r_is_phone X G (fun _ _ _ _ _ _ us hl => match us, hl with | [_], _ => rfl), RawDef.at r_need_phone X G (fun _ _ _ _ _ _ us hl => match us, hl with | [_], _ => rfl), RawDef.at r_need_number X G (fun _ _ _ _ _ _ us hl => match us, hl with | [_], _ => rfl), RawDef.at r_need_states X G (fun _ _ _ _ _ _ us hl => match us, hl with | [_], _ => rfl), RawDef.at r_are_members X G (fun _ _ _ _ _ _ us hl => match us, hl with | [_], _ => rfl), RawDef.at r_is_wish X G (fun _ _ _ _ _ _ us hl => match us, hl with | [_], _ => rfl), RawDef.at r_key_of X G (fun _ _ _ _ _ _ us hl => match us, hl with | [_], _ => rfl), RawDef.at r_need_wishes X G (fun _ _ _ _ _ _ us hl => match us, hl with | [_], _ => rfl), RawMeth.make r_Book_init X G n_Book m_Book k_Book (fun _ _ _ _ _ _ us hl => match us, hl with | [_, _], _ => rfl), RawMeth.at r_Book_has (fun _ _ _ _ _ _ us hl => match us, hl with | [_, _, _], _ => rfl), RawMeth.at r_Book_goal (fun _ _ _ _ _ _ us hl => match us, hl with | [_, _, _], _ => rfl), RawMeth.at r_Book_patience (fun _ _ _ _ _ _ us hl => match us, hl with | [_, _], _ => rfl), RawMeth.at r_Book_bars (fun _ _ _ _ _ _ us hl => match us, hl with | [_, _, _], _ => rfl), RawMeth.at r_Book_members (fun _ _ _ _ _ _ us hl => match us, hl with | [_, _], _ => rfl), RawDef.at r_rings_at X G (fun _ _ _ _ _ _ us hl => match us, hl with | [_, _, _, _], _ => rfl), RawDef.at r_next_of X G (fun _ _ _ _ _ _ us hl => match us, hl with | [_, _, _, _, _], _ => rfl), RawMeth.make r_Way_init X G n_Way m_Way k_Way (fun _ _ _ _ _ _ us hl => match us, hl with | [_, _, _], _ => rfl), RawMeth.at r_Way_go (fun _ _ _ _ _ _ us hl => match us, hl with | [_, _, _, _], _ => rfl), RawMeth.at r_Way_step (fun _ _ _ _ _ _ us hl => match us, hl with | [_, _, _, _], _ => rfl), RawDef.at r_led X G (fun _ _ _ _ _ _ us hl => match us, hl with | [_, _, _, _], _ => rfl), RawDef.at r_way_of X G (fun _ _ _ _ _ _ us hl => match us, hl with | [_, _], _ => rfl), RawDef.at r_had X G (fun _ _ _ _ _ _ us hl => match us, hl with | [_, _, _], _ => rfl), RawDef.at r_wants X G (fun _ _ _ _ _ _ us hl => match us, hl with | [_, _, _, _, _], _ => rfl), RawMeth.make r_Call_init X G n_Call m_Call k_Call (fun _ _ _ _ _ _ us hl => match us, hl with | [_, _], _ => rfl), RawMeth.make r_Phone_init X G n_Phone m_Phone k_Phone (fun _ _ _ _ _ _ us hl => match us, hl with | [_], _ => rfl), RawMeth.make r_Hall_init X G n_Hall m_Hall k_Hall (fun _ _ _ _ _ _ us hl => match us, hl with | [_, _], _ => rfl), RawMeth.at r_Hall_phone (fun _ _ _ _ _ _ us hl => match us, hl with | [_, _, _], _ => rfl), RawMeth.at r_Hall_may_be_knocked_at (fun _ _ _ _ _ _ us hl => match us, hl with | [_, _], _ => rfl), RawMeth.at r_Hall_go_on (fun _ _ _ _ _ _ us hl => match us, hl with | [_, _, _], _ => rfl), RawMeth.at r_Hall_knock_list (fun _ _ _ _ _ _ us hl => match us, hl with | [_, _], _ => rfl), RawMeth.at r_Hall_silence (fun _ _ _ _ _ _ us hl => match us, hl with | [_, _], _ => rfl), RawMeth.at r_Hall_over (fun _ _ _ _ _ _ us hl => match us, hl with | [_, _], _ => rfl), RawMeth.at r_Hall_answer (fun _ _ _ _ _ _ us hl => match us, hl with | [_, _, _], _ => rfl), RawMeth.at r_Hall_leave (fun _ _ _ _ _ _ us hl => match us, hl with | [_, _, _], _ => rfl), RawMeth.at r_Hall_lift (fun _ _ _ _ _ _ us hl => match us, hl with | [_, _], _ => rfl), RawMeth.at r_Hall_dial (fun _ _ _ _ _ _ us hl => match us, hl with | [_, _, _], _ => rfl), RawMeth.at r_Hall_drop (fun _ _ _ _ _ _ us hl => match us, hl with | [_, _], _ => rfl), RawMeth.at r_Hall_need_talk (fun _ _ _ _ _ _ us hl => match us, hl with | [_, _], _ => rfl), RawMeth.at r_Hall_hold (fun _ _ _ _ _ _ us hl => match us, hl with | [_, _], _ => rfl), RawMeth.at r_Hall_swap (fun _ _ _ _ _ _ us hl => match us, hl with | [_, _], _ => rfl), RawMeth.at r_Hall_take (fun _ _ _ _ _ _ us hl => match us, hl with | [_, _], _ => rfl), RawMeth.at r_Hall_join (fun _ _ _ _ _ _ us hl => match us, hl with | [_, _], _ => rfl), RawMeth.at r_Hall_beat (fun _ _ _ _ _ _ us hl => match us, hl with | [_], _ => rfl), RawMeth.at r_Hall_late (fun _ _ _ _ _ _ us hl => match us, hl with | [_, _], _ => rfl), RawMeth.at r_Hall_hear (fun _ _ _ _ _ _ us hl => match us, hl with | [_, _], _ => rfl), RawMeth.at r_Hall_all_calls (fun _ _ _ _ _ _ us hl => match us, hl with | [_], _ => rfl), RawDef.at r_is_deed X G (fun _ _ _ _ _ _ us hl => match us, hl with | [_], _ => rfl), RawDef.at r_need_deeds X G (fun _ _ _ _ _ _ us hl => match us, hl with | [_], _ => rfl), RawDef.at r_do X G (fun _ _ _ _ _ _ us hl => match us, hl with | [_, _], _ => rfl), RawDef.at r_played X G (fun _ _ _ _ _ _ us hl => match us, hl with | [_, _], _ => rfl), RawDef.at r_words_of X G (fun _ _ _ _ _ _ us hl => match us, hl with | [_], _ => rfl), RawDef.at r_written X G (fun _ _ _ _ _ _ us hl => match us, hl with | [_, _], _ => rfl), RawDef.at r_law_taken X G (fun _ _ _ _ _ _ us hl => match us, hl with | [_, _], _ => rfl), RawDef.at r_law_word X G (fun _ _ _ _ _ _ us hl => match us, hl with | [_], _ => rfl), RawDef.at r_law_goal X G (fun _ _ _ _ _ _ us hl => match us, hl with | [_, _], _ => rfl), RawDef.at r_law_wish X G (fun _ _ _ _ _ _ us hl => match us, hl with | [_], _ => rfl), RawDef.at r_law_wishes X G (fun _ _ _ _ _ _ us hl => match us, hl with | [_, _], _ => rfl), RawDef.at r_law_works X G (fun _ _ _ _ _ _ us hl => match us, hl with | [_], _ => rfl), RawDef.at r_law_odd X G (fun _ _ _ _ _ _ us hl => match us, hl with | [_, _], _ => rfl), RawDef.at r_law_again X G (fun _ _ _ _ _ _ us hl => match us, hl with | [_, _], _ => rfl), RawDef.at r_law_are X G (fun _ _ _ _ _ _ us hl => match us, hl with | [_, _], _ => rfl), RawDef.at r_law X G (fun _ _ _ _ _ _ us hl => match us, hl with | [_], _ => rfl), ktup2_of X G kt_STATES, ⟨pg_Book, hd_Book, po_Book, sa_Book⟩, na_Book_wanted, ⟨pg_Way, hd_Way, po_Way, sa_Way⟩, na_Way_book, na_Way_caller, na_Way_chain, na_Way_leads, na_Way_group, na_Way_word, na_Way_ears, ⟨pg_Call, hd_Call, po_Call, sa_Call⟩, na_Call_way, na_Call_people, na_Call_age, na_Call_is_talk, ⟨pg_Phone, hd_Phone, po_Phone, sa_Phone⟩, na_Phone_is_up, na_Phone_now, na_Phone_kept, na_Phone_bell, na_Phone_tone, ⟨pg_Hall, hd_Hall, po_Hall, sa_Hall⟩, na_Hall_book, na_Hall_phones, na_Hall_calls, ⟨L2.mro_obj m_Call, eq_Call, nn_Call⟩⟩⟩

-- E_k01
theorem sp_lawT {K : PySem.W.Frag} {H : Hp} {a Pt : Addr} {q : Str} {ns : List Int} (hl : ns.length ≤ 63) (hP : H Pt = some (.tbl #[])) (hS : SqL K H a (ns.map V.int)) : conc 1 (asp_law K Pt q) [.ref a] H (fun v _ => v = .bl true) fun _ _ _ => False := by
  refine ⟨rfl, ⟨[Pt], []⟩, [.tab Pt q], [.scr K ns], fun w _ => w = .bl true, fun _ _ _ => False, ⟨by simp, rfl, ?_, (fun p hp => by cases hp), ?_⟩, .cons (.scr ?_) .nil, ⟨ns, rfl, hl, rfl, rfl⟩, ?_, fun cls fs d M2 S2 H2 h _ _ _ => h.elim⟩
  · intro k p o h1 h2
    cases k with
    | zero =>
      cases h1
      cases h2
      exact ⟨_, hP, .tab trivial fun pos cv e => by cases e⟩
    | succ k => cases h1
  · intro k P q e
    cases k with
    | zero => cases e; rfl
    | succ k => cases e
  · rcases hS with h | h
    · refine .inl ⟨h, fun m => ?_, fun m => nomatch m⟩
      have e := List.mem_singleton.mp m
      subst e
      rcases h with h | ⟨o, h⟩ <;> (rw [hP] at h; cases h)
    · exact .inr h
  · rintro v w M2 S2 H2 rfl _ a _
    cases a
    rfl
theorem oc_raw {K : PySem.W.Frag} {C : Addr} {nm q : Str} {N bs sn sub ab col dd k0 k1 k2 k3 k5} {bm} (h1 : K.lookup C = some (excClassObj nm q C N bs bm true sn sub ab col dd k0 k1 k2 k3 k5 "ValueError.__new__")) (h2 : PySem.HandSPX.refsVE bm = true) :
    ∃ nm q N bs bm sn sub ab col dd k0 k1 k2 k3 k5, K.lookup C = some (excClassObj nm q C N bs bm true sn sub ab col dd k0 k1 k2 k3 k5 "ValueError.__new__") ∧ PySem.HandSPX.refsVE bm = true := ⟨_, _, _, _, _, _, _, _, _, _, _, _, _, _, _, h1, h2⟩
def lamQ : Str := ("_law_works" : Str) ++ ".<locals>." ++ "<lambda>"
theorem rec_by {q : Program} {x : Str} (h : (recsOf q).any (fun d => decide (d.name = x)) = true) : ∃ d ∈ recsOf q, d.name = x := by
  obtain ⟨d, h1, h2⟩ := List.any_eq_true.mp h
  exact ⟨d, h1, of_decide_eq_true h2⟩
theorem law_end {l : PySem.W.OpenLaw} {w : World} {K : PySem.W.Frag} {h : Heap} {mg : Str → Option Value} {fa : Addr} {C_Book C_Way C_Call C_Phone C_Hall C_PE C_BW C_BP C_BN C_BS C_NN C_BD C_BT : Addr} (X : K.In h) (N : h.Ns mainGlobals mg) (hfa : mg "law" = some (.ref fa)) (r_law : RawDef K "law" "law" s_law) (F : GL mg ∧ DS K mg C_Book C_Way C_Call C_Phone C_Hall) (Q : EE K mg C_PE C_BW C_BP C_BN C_BS C_NN C_BD C_BT) {qp : Program} (T : TabD qp mg h) (ne : noTab K = true) (hx : ∃ d ∈ recsOf qp, d.name = "_law_works") :
    LamX.LawAtS l w K (L2.CX l.prog w) 14 63 "_law_script" mg fa h := by
  obtain ⟨c, Pt, hc, nK, gP, C⟩ := T.at X ne hx
  obtain ⟨f, od, an, sl, oc, kV, dc, pm, cd, ct, h1, h2, h3, h4⟩ := r_law
  have e := hfa.symm.trans (PySem.W.mg_of X N h1)
  cases e
  refine ⟨PySem.W.fnOf "law" "law" (defArgs s_law) (defBody s_law) (defScope s_law) .none kV dc pm an cd ct, [(c, Pt)], conc 1 (asp_law K Pt lamQ), fun p hp => ?_, fun p hp => ?_, fun p hp => ?_, fun s v => .of_eq rfl, fun H a ns hl _ hP hS => sp_lawT hl (hP (c, Pt) (List.mem_singleton.mpr rfl)) hS, fun base _ _ TB => ?_⟩
  · rw [List.mem_singleton.mp hp]; exact gP
  · rw [List.mem_singleton.mp hp]; exact nK
  · rw [List.mem_singleton.mp hp]; exact C
  exact fn_ok (fun_mk h2 h3 h4) sc_law (law_hbody F.1 F.2 Q hc (TB (c, Pt) (List.mem_singleton.mpr rfl)) fa)
theorem law_all {l : PySem.W.OpenLaw} {w : World} {fa : Addr} {K : PySem.W.Frag} {h : Heap} {mg : Str → Option Value} {C_Book C_Way C_Call C_Phone C_Hall C_PE C_BW C_BP C_BN C_BS C_NN C_BD C_BT : Addr} (X : K.In h) (G : h.Ns mainGlobals mg) (hfa : mg "law" = some (.ref fa)) {qp : Program} (T : TabD qp mg h) (ne : noTab K = true) (hx : ∃ d ∈ recsOf qp, d.name = "_law_works")
    (n_Book : PySem.W.nsIn K mainGlobals "Book" = some (some (.ref C_Book)))
    (n_Way : PySem.W.nsIn K mainGlobals "Way" = some (some (.ref C_Way)))
    (n_Call : PySem.W.nsIn K mainGlobals "Call" = some (some (.ref C_Call)))
    (n_Phone : PySem.W.nsIn K mainGlobals "Phone" = some (some (.ref C_Phone)))
    (n_Hall : PySem.W.nsIn K mainGlobals "Hall" = some (some (.ref C_Hall)))
    (r_is_number : RawDef K "is_number" "is_number" s_is_number)
    (r_is_phone : RawDef K "is_phone" "is_phone" s_is_phone)
    (r_need_phone : RawDef K "need_phone" "need_phone" s_need_phone)
    (r_need_number : RawDef K "need_number" "need_number" s_need_number)
    (r_need_states : RawDef K "need_states" "need_states" s_need_states)
    (r_are_members : RawDef K "are_members" "are_members" s_are_members)
    (r_is_wish : RawDef K "is_wish" "is_wish" s_is_wish)
    (r_key_of : RawDef K "key_of" "key_of" s_key_of)
    (r_need_wishes : RawDef K "need_wishes" "need_wishes" s_need_wishes)
    (r_Book_init : RawMeth K C_Book "__init__" "Book.__init__" s_Book_init)
    (r_Book_has : RawMeth K C_Book "has" "Book.has" s_Book_has)
    (r_Book_goal : RawMeth K C_Book "goal" "Book.goal" s_Book_goal)
    (r_Book_patience : RawMeth K C_Book "patience" "Book.patience" s_Book_patience)
    (r_Book_bars : RawMeth K C_Book "bars" "Book.bars" s_Book_bars)
    (r_Book_members : RawMeth K C_Book "members" "Book.members" s_Book_members)
    (r_rings_at : RawDef K "rings_at" "rings_at" s_rings_at)
    (r_next_of : RawDef K "next_of" "next_of" s_next_of)
    (r_Way_init : RawMeth K C_Way "__init__" "Way.__init__" s_Way_init)
    (r_Way_go : RawMeth K C_Way "go" "Way.go" s_Way_go)
    (r_Way_step : RawMeth K C_Way "step" "Way.step" s_Way_step)
    (r_led : RawDef K "led" "led" s_led)
    (r_way_of : RawDef K "way_of" "way_of" s_way_of)
    (r_had : RawDef K "had" "had" s_had)
    (r_wants : RawDef K "wants" "wants" s_wants)
    (r_Call_init : RawMeth K C_Call "__init__" "Call.__init__" s_Call_init)
    (r_Phone_init : RawMeth K C_Phone "__init__" "Phone.__init__" s_Phone_init)
    (r_Hall_init : RawMeth K C_Hall "__init__" "Hall.__init__" s_Hall_init)
    (r_Hall_phone : RawMeth K C_Hall "phone" "Hall.phone" s_Hall_phone)
    (r_Hall_may_be_knocked_at : RawMeth K C_Hall "may_be_knocked_at" "Hall.may_be_knocked_at" s_Hall_may_be_knocked_at)
    (r_Hall_go_on : RawMeth K C_Hall "go_on" "Hall.go_on" s_Hall_go_on)
    (r_Hall_knock_list : RawMeth K C_Hall "knock_list" "Hall.knock_list" s_Hall_knock_list)
    (r_Hall_silence : RawMeth K C_Hall "silence" "Hall.silence" s_Hall_silence)
    (r_Hall_over : RawMeth K C_Hall "over" "Hall.over" s_Hall_over)
    (r_Hall_answer : RawMeth K C_Hall "answer" "Hall.answer" s_Hall_answer)
    (r_Hall_leave : RawMeth K C_Hall "leave" "Hall.leave" s_Hall_leave)
    (r_Hall_lift : RawMeth K C_Hall "lift" "Hall.lift" s_Hall_lift)
    (r_Hall_dial : RawMeth K C_Hall "dial" "Hall.dial" s_Hall_dial)
    (r_Hall_drop : RawMeth K C_Hall "drop" "Hall.drop" s_Hall_drop)
    (r_Hall_need_talk : RawMeth K C_Hall "need_talk" "Hall.need_talk" s_Hall_need_talk)
    (r_Hall_hold : RawMeth K C_Hall "hold" "Hall.hold" s_Hall_hold)
    (r_Hall_swap : RawMeth K C_Hall "swap" "Hall.swap" s_Hall_swap)
    (r_Hall_take : RawMeth K C_Hall "take" "Hall.take" s_Hall_take)
    (r_Hall_join : RawMeth K C_Hall "join" "Hall.join" s_Hall_join)
    (r_Hall_beat : RawMeth K C_Hall "beat" "Hall.beat" s_Hall_beat)
    (r_Hall_late : RawMeth K C_Hall "late" "Hall.late" s_Hall_late)
    (r_Hall_hear : RawMeth K C_Hall "hear" "Hall.hear" s_Hall_hear)
    (r_Hall_all_calls : RawMeth K C_Hall "all_calls" "Hall.all_calls" s_Hall_all_calls)
    (r_is_deed : RawDef K "is_deed" "is_deed" s_is_deed)
    (r_need_deeds : RawDef K "need_deeds" "need_deeds" s_need_deeds)
    (r_do : RawDef K "do" "do" s_do)
    (r_played : RawDef K "played" "played" s_played)
    (r_words_of : RawDef K "words_of" "words_of" s_words_of)
    (r_written : RawDef K "written" "written" s_written)
    (r_law_taken : RawDef K "_law_taken" "_law_taken" s_law_taken)
    (r_law_word : RawDef K "_law_word" "_law_word" s_law_word)
    (r_law_goal : RawDef K "_law_goal" "_law_goal" s_law_goal)
    (r_law_wish : RawDef K "_law_wish" "_law_wish" s_law_wish)
    (r_law_wishes : RawDef K "_law_wishes" "_law_wishes" s_law_wishes)
    (r_law_works : RawDef K "_law_works" "_law_works" s_law_works)
    (r_law_odd : RawDef K "_law_odd" "_law_odd" s_law_odd)
    (r_law_again : RawDef K "_law_again" "_law_again" s_law_again)
    (r_law_are : RawDef K "_law_are" "_law_are" s_law_are)
    (r_law : RawDef K "law" "law" s_law)
    (kt_STATES : ∃ p od n sl t u, PySem.W.nsIn K mainGlobals "STATES" = some (some (.ref p)) ∧ K.lookup p = some ⟨.type "tuple", od, .seq #[.str "free" t, .str "busy" u] n, sl⟩)
    (m_Book : PySem.W.makesIn K C_Book = true)
    (k_Book : PySem.W.keepIn K (.ref C_Book) = true)
    (pg_Book : PySem.W.plainGet K C_Book Str.empty = true)
    (hd_Book : PySem.W.hasDictIn K C_Book = true)
    (po_Book : PySem.W.plainOver K C_Book = true)
    (sa_Book : PySem.W.findIn K (.ref C_Book) "__setattr__" = some (some (.builtin "object.__setattr__")))
    (na_Book_wanted : PySem.W.findIn K (.ref C_Book) "wanted" = some none)
    (m_Way : PySem.W.makesIn K C_Way = true)
    (k_Way : PySem.W.keepIn K (.ref C_Way) = true)
    (pg_Way : PySem.W.plainGet K C_Way Str.empty = true)
    (hd_Way : PySem.W.hasDictIn K C_Way = true)
    (po_Way : PySem.W.plainOver K C_Way = true)
    (sa_Way : PySem.W.findIn K (.ref C_Way) "__setattr__" = some (some (.builtin "object.__setattr__")))
    (na_Way_book : PySem.W.findIn K (.ref C_Way) "book" = some none)
    (na_Way_caller : PySem.W.findIn K (.ref C_Way) "caller" = some none)
    (na_Way_chain : PySem.W.findIn K (.ref C_Way) "chain" = some none)
    (na_Way_leads : PySem.W.findIn K (.ref C_Way) "leads" = some none)
    (na_Way_group : PySem.W.findIn K (.ref C_Way) "group" = some none)
    (na_Way_word : PySem.W.findIn K (.ref C_Way) "word" = some none)
    (na_Way_ears : PySem.W.findIn K (.ref C_Way) "ears" = some none)
    (m_Call : PySem.W.makesIn K C_Call = true)
    (k_Call : PySem.W.keepIn K (.ref C_Call) = true)
    (pg_Call : PySem.W.plainGet K C_Call Str.empty = true)
    (hd_Call : PySem.W.hasDictIn K C_Call = true)
    (po_Call : PySem.W.plainOver K C_Call = true)
    (sa_Call : PySem.W.findIn K (.ref C_Call) "__setattr__" = some (some (.builtin "object.__setattr__")))
    (na_Call_way : PySem.W.findIn K (.ref C_Call) "way" = some none)
    (na_Call_people : PySem.W.findIn K (.ref C_Call) "people" = some none)
    (na_Call_age : PySem.W.findIn K (.ref C_Call) "age" = some none)
    (na_Call_is_talk : PySem.W.findIn K (.ref C_Call) "is_talk" = some none)
    (m_Phone : PySem.W.makesIn K C_Phone = true)
    (k_Phone : PySem.W.keepIn K (.ref C_Phone) = true)
    (pg_Phone : PySem.W.plainGet K C_Phone Str.empty = true)
    (hd_Phone : PySem.W.hasDictIn K C_Phone = true)
    (po_Phone : PySem.W.plainOver K C_Phone = true)
    (sa_Phone : PySem.W.findIn K (.ref C_Phone) "__setattr__" = some (some (.builtin "object.__setattr__")))
    (na_Phone_is_up : PySem.W.findIn K (.ref C_Phone) "is_up" = some none)
    (na_Phone_now : PySem.W.findIn K (.ref C_Phone) "now" = some none)
    (na_Phone_kept : PySem.W.findIn K (.ref C_Phone) "kept" = some none)
    (na_Phone_bell : PySem.W.findIn K (.ref C_Phone) "bell" = some none)
    (na_Phone_tone : PySem.W.findIn K (.ref C_Phone) "tone" = some none)
    (m_Hall : PySem.W.makesIn K C_Hall = true)
    (k_Hall : PySem.W.keepIn K (.ref C_Hall) = true)
    (pg_Hall : PySem.W.plainGet K C_Hall Str.empty = true)
    (hd_Hall : PySem.W.hasDictIn K C_Hall = true)
    (po_Hall : PySem.W.plainOver K C_Hall = true)
    (sa_Hall : PySem.W.findIn K (.ref C_Hall) "__setattr__" = some (some (.builtin "object.__setattr__")))
    (na_Hall_book : PySem.W.findIn K (.ref C_Hall) "book" = some none)
    (na_Hall_phones : PySem.W.findIn K (.ref C_Hall) "phones" = some none)
    (na_Hall_calls : PySem.W.findIn K (.ref C_Hall) "calls" = some none)
    (eq_Call : PySem.W.findIn K (.ref C_Call) "__eq__" = some (some (.builtin "object.__eq__")))
    (nn_Call : PySem.W.subIn K (.ref C_Call) (.type "NoneType") = some false)
    (b_isinstance : PySem.W.nsIn K mainGlobals "isinstance" = some none)
    (b_int : PySem.W.nsIn K mainGlobals "int" = some none)
    (b_bool : PySem.W.nsIn K mainGlobals "bool" = some none)
    (b_tuple : PySem.W.nsIn K mainGlobals "tuple" = some none)
    (b_str : PySem.W.nsIn K mainGlobals "str" = some none)
    (b_list : PySem.W.nsIn K mainGlobals "list" = some none)
    (b_len : PySem.W.nsIn K mainGlobals "len" = some none)
    (b_range : PySem.W.nsIn K mainGlobals "range" = some none)
    (b_enumerate : PySem.W.nsIn K mainGlobals "enumerate" = some none)
    (b_sorted : PySem.W.nsIn K mainGlobals "sorted" = some none)
    (c_PHONES : ∃ t, PySem.W.nsIn K mainGlobals "PHONES" = some (some (.int 6 t)))
    (c_NUMBERS : ∃ t, PySem.W.nsIn K mainGlobals "NUMBERS" = some (some (.int 8 t)))
    (c_MOST_LATE : ∃ t, PySem.W.nsIn K mainGlobals "MOST_LATE" = some (some (.int 9 t)))
    (c_MOST_WISHES : ∃ t, PySem.W.nsIn K mainGlobals "MOST_WISHES" = some (some (.int 24 t)))
    (c_ALL : ∃ t, PySem.W.nsIn K mainGlobals "ALL" = some (some (.str "all" t)))
    (c_BUSY : ∃ t, PySem.W.nsIn K mainGlobals "BUSY" = some (some (.str "busy" t)))
    (c_LATE : ∃ t, PySem.W.nsIn K mainGlobals "LATE" = some (some (.str "late" t)))
    (c_WAIT : ∃ t, PySem.W.nsIn K mainGlobals "WAIT" = some (some (.str "wait" t)))
    (c_STILL : ∃ t, PySem.W.nsIn K mainGlobals "STILL" = some (some (.str "still" t)))
    (c_BAR : ∃ t, PySem.W.nsIn K mainGlobals "BAR" = some (some (.str "bar" t)))
    (c_GROUP : ∃ t, PySem.W.nsIn K mainGlobals "GROUP" = some (some (.str "group" t)))
    (c_FREE : ∃ t, PySem.W.nsIn K mainGlobals "FREE" = some (some (.str "free" t)))
    (c_RINGS : ∃ t, PySem.W.nsIn K mainGlobals "RINGS" = some (some (.str "rings" t)))
    (c_KNOCKS : ∃ t, PySem.W.nsIn K mainGlobals "KNOCKS" = some (some (.str "knocks" t)))
    (c_BARRED : ∃ t, PySem.W.nsIn K mainGlobals "BARRED" = some (some (.str "barred" t)))
    (c_ROUND : ∃ t, PySem.W.nsIn K mainGlobals "ROUND" = some (some (.str "round" t)))
    (c_NOBODY : ∃ t, PySem.W.nsIn K mainGlobals "NOBODY" = some (some (.str "nobody" t)))
    (c_QUIET : ∃ t, PySem.W.nsIn K mainGlobals "QUIET" = some (some (.str "quiet" t)))
    (c_DIAL : ∃ t, PySem.W.nsIn K mainGlobals "DIAL" = some (some (.str "dial" t)))
    (c_BELL : ∃ t, PySem.W.nsIn K mainGlobals "BELL" = some (some (.str "bell" t)))
    (c_TALK : ∃ t, PySem.W.nsIn K mainGlobals "TALK" = some (some (.str "talk" t)))
    (c_MUSIC : ∃ t, PySem.W.nsIn K mainGlobals "MUSIC" = some (some (.str "music" t)))
    (c_MOST_AGE : ∃ t, PySem.W.nsIn K mainGlobals "MOST_AGE" = some (some (.int 12 t)))
    (c_MOST_DEEDS : ∃ t, PySem.W.nsIn K mainGlobals "MOST_DEEDS" = some (some (.int 200 t)))
    (c_WISH : ∃ t, PySem.W.nsIn K mainGlobals "WISH" = some (some (.str "wish" t)))
    (g_C_PE : PySem.W.nsIn K mainGlobals "PhoneError" = some (some (.ref C_PE)))
    (g_C_BW : PySem.W.nsIn K mainGlobals "BadWish" = some (some (.ref C_BW)))
    (g_C_BP : PySem.W.nsIn K mainGlobals "BadPhone" = some (some (.ref C_BP)))
    (g_C_BN : PySem.W.nsIn K mainGlobals "BadNumber" = some (some (.ref C_BN)))
    (g_C_BS : PySem.W.nsIn K mainGlobals "BadState" = some (some (.ref C_BS)))
    (g_C_NN : PySem.W.nsIn K mainGlobals "NotNow" = some (some (.ref C_NN)))
    (g_C_BD : PySem.W.nsIn K mainGlobals "BadDeed" = some (some (.ref C_BD)))
    (g_C_BT : PySem.W.nsIn K mainGlobals "BadText" = some (some (.ref C_BT)))
    (ve : PySem.W.nsIn K mainGlobals "ValueError" = some none)
    (pga : PySem.W.specialIn K (.ref C_PE) "__getattribute__" = some (some (.builtin "type.__getattribute__")))
    (prd : PySem.W.readsIn K C_PE (.type "type") = true)
    (pvv : PySem.W.findCls K (.ref C_PE) (.type "type") "__init__" = some (.val (.builtin "ValueError.__init__")))
    (xc_hn : PySem.W.specialIn K (.builtin "object.__class__") "__get__" = some (some (.builtin "getset_descriptor.__get__")))
    (xc_ht : PySem.W.takesIn K (.builtin "object.__class__") = some true)
    (hg_BW : PySem.W.findIn K (.ref C_BW) "__getattribute__" = some (some (.builtin "BaseException.__getattribute__")))
    (hk_BW : PySem.W.findIn K (.ref C_BW) "__getattr__" = some none)
    (sb_BW : PySem.W.subIn K (.ref C_BW) (.type "BaseException") = some true)
    (hd_BW : PySem.W.hasDictIn K C_BW = true)
    (ha_BW : PySem.W.findIn K (.ref C_BW) "__class__" = some (some (.builtin "object.__class__")))
    (hm_BW : PySem.W.mroIn K C_BW (.type "object") = some true)
    (em_BW : PySem.W.exmOne K (.ref C_BW) (.ref C_PE) = some true)
    (k_BW_BW : PySem.W.kitOne K (.ref C_BW) (.ref C_BW) = some true)
    (k_BW_BP : PySem.W.kitOne K (.ref C_BW) (.ref C_BP) = some false)
    (k_BW_BN : PySem.W.kitOne K (.ref C_BW) (.ref C_BN) = some false)
    (k_BW_BS : PySem.W.kitOne K (.ref C_BW) (.ref C_BS) = some false)
    (k_BW_NN : PySem.W.kitOne K (.ref C_BW) (.ref C_NN) = some false)
    (k_BW_BD : PySem.W.kitOne K (.ref C_BW) (.ref C_BD) = some false)
    (k_BW_BT : PySem.W.kitOne K (.ref C_BW) (.ref C_BT) = some false)
    (kv_BW : PySem.W.kitOne K (.ref C_BW) (.type "ValueError") = some true)
    (ty_BW : PySem.W.typeIn K (.ref C_BW) = some (.type "type"))
    (kp_BW : PySem.W.keepIn K (.ref C_BW) = true)
    (oc_BW : ∃ nm q N bs bm sn sub ab col dd k0 k1 k2 k3 k5, K.lookup C_BW = some (excClassObj nm q C_BW N bs bm true sn sub ab col dd k0 k1 k2 k3 k5 "ValueError.__new__") ∧ PySem.HandSPX.refsVE bm = true)
    (sa_BW : PySem.W.findIn K (.ref C_BW) "__setattr__" = some (some (.builtin "object.__setattr__")))
    (ri_BW : RawMeth K C_BW "__init__" "BadWish.__init__" s_BadWish_init)
    (no_BW : PySem.W.findIn K (.ref C_BW) "number" = some none)
    (hg_BP : PySem.W.findIn K (.ref C_BP) "__getattribute__" = some (some (.builtin "BaseException.__getattribute__")))
    (hk_BP : PySem.W.findIn K (.ref C_BP) "__getattr__" = some none)
    (sb_BP : PySem.W.subIn K (.ref C_BP) (.type "BaseException") = some true)
    (hd_BP : PySem.W.hasDictIn K C_BP = true)
    (ha_BP : PySem.W.findIn K (.ref C_BP) "__class__" = some (some (.builtin "object.__class__")))
    (hm_BP : PySem.W.mroIn K C_BP (.type "object") = some true)
    (em_BP : PySem.W.exmOne K (.ref C_BP) (.ref C_PE) = some true)
    (k_BP_BW : PySem.W.kitOne K (.ref C_BP) (.ref C_BW) = some false)
    (k_BP_BP : PySem.W.kitOne K (.ref C_BP) (.ref C_BP) = some true)
    (k_BP_BN : PySem.W.kitOne K (.ref C_BP) (.ref C_BN) = some false)
    (k_BP_BS : PySem.W.kitOne K (.ref C_BP) (.ref C_BS) = some false)
    (k_BP_NN : PySem.W.kitOne K (.ref C_BP) (.ref C_NN) = some false)
    (k_BP_BD : PySem.W.kitOne K (.ref C_BP) (.ref C_BD) = some false)
    (k_BP_BT : PySem.W.kitOne K (.ref C_BP) (.ref C_BT) = some false)
    (kv_BP : PySem.W.kitOne K (.ref C_BP) (.type "ValueError") = some true)
    (ty_BP : PySem.W.typeIn K (.ref C_BP) = some (.type "type"))
    (kp_BP : PySem.W.keepIn K (.ref C_BP) = true)
    (ex_BP : PySem.W.excIn K C_BP [.type "ValueError", .type "Exception", .type "BaseException", .type "object"] "ValueError.__new__" = true)
    (hg_BD : PySem.W.findIn K (.ref C_BD) "__getattribute__" = some (some (.builtin "BaseException.__getattribute__")))
    (hk_BD : PySem.W.findIn K (.ref C_BD) "__getattr__" = some none)
    (sb_BD : PySem.W.subIn K (.ref C_BD) (.type "BaseException") = some true)
    (hd_BD : PySem.W.hasDictIn K C_BD = true)
    (ha_BD : PySem.W.findIn K (.ref C_BD) "__class__" = some (some (.builtin "object.__class__")))
    (hm_BD : PySem.W.mroIn K C_BD (.type "object") = some true)
    (em_BD : PySem.W.exmOne K (.ref C_BD) (.ref C_PE) = some true)
    (k_BD_BW : PySem.W.kitOne K (.ref C_BD) (.ref C_BW) = some false)
    (k_BD_BP : PySem.W.kitOne K (.ref C_BD) (.ref C_BP) = some false)
    (k_BD_BN : PySem.W.kitOne K (.ref C_BD) (.ref C_BN) = some false)
    (k_BD_BS : PySem.W.kitOne K (.ref C_BD) (.ref C_BS) = some false)
    (k_BD_NN : PySem.W.kitOne K (.ref C_BD) (.ref C_NN) = some false)
    (k_BD_BD : PySem.W.kitOne K (.ref C_BD) (.ref C_BD) = some true)
    (k_BD_BT : PySem.W.kitOne K (.ref C_BD) (.ref C_BT) = some false)
    (kv_BD : PySem.W.kitOne K (.ref C_BD) (.type "ValueError") = some true)
    (ty_BD : PySem.W.typeIn K (.ref C_BD) = some (.type "type"))
    (kp_BD : PySem.W.keepIn K (.ref C_BD) = true)
    (oc_BD : ∃ nm q N bs bm sn sub ab col dd k0 k1 k2 k3 k5, K.lookup C_BD = some (excClassObj nm q C_BD N bs bm true sn sub ab col dd k0 k1 k2 k3 k5 "ValueError.__new__") ∧ PySem.HandSPX.refsVE bm = true)
    (sa_BD : PySem.W.findIn K (.ref C_BD) "__setattr__" = some (some (.builtin "object.__setattr__")))
    (ri_BD : RawMeth K C_BD "__init__" "BadDeed.__init__" s_BadDeed_init)
    (no_BD : PySem.W.findIn K (.ref C_BD) "number" = some none)
    : LamX.LawAtS l w K (L2.CX l.prog w) 14 63 "_law_script" mg fa h :=
  law_end X G hfa r_law (all_facts X G n_Book n_Way n_Call n_Phone n_Hall r_is_number r_is_phone r_need_phone r_need_number r_need_states r_are_members r_is_wish r_key_of r_need_wishes r_Book_init r_Book_has r_Book_goal r_Book_patience r_Book_bars r_Book_members r_rings_at r_next_of r_Way_init r_Way_go r_Way_step r_led r_way_of r_had r_wants r_Call_init r_Phone_init r_Hall_init r_Hall_phone r_Hall_may_be_knocked_at r_Hall_go_on r_Hall_knock_list r_Hall_silence r_Hall_over r_Hall_answer r_Hall_leave r_Hall_lift r_Hall_dial r_Hall_drop r_Hall_need_talk r_Hall_hold r_Hall_swap r_Hall_take r_Hall_join r_Hall_beat r_Hall_late r_Hall_hear r_Hall_all_calls r_is_deed r_need_deeds r_do r_played r_words_of r_written r_law_taken r_law_word r_law_goal r_law_wish r_law_wishes r_law_works r_law_odd r_law_again r_law_are r_law kt_STATES m_Book k_Book pg_Book hd_Book po_Book sa_Book na_Book_wanted m_Way k_Way pg_Way hd_Way po_Way sa_Way na_Way_book na_Way_caller na_Way_chain na_Way_leads na_Way_group na_Way_word na_Way_ears m_Call k_Call pg_Call hd_Call po_Call sa_Call na_Call_way na_Call_people na_Call_age na_Call_is_talk m_Phone k_Phone pg_Phone hd_Phone po_Phone sa_Phone na_Phone_is_up na_Phone_now na_Phone_kept na_Phone_bell na_Phone_tone m_Hall k_Hall pg_Hall hd_Hall po_Hall sa_Hall na_Hall_book na_Hall_phones na_Hall_calls eq_Call nn_Call b_isinstance b_int b_bool b_tuple b_str b_list b_len b_range b_enumerate b_sorted c_PHONES c_NUMBERS c_MOST_LATE c_MOST_WISHES c_ALL c_BUSY c_LATE c_WAIT c_STILL c_BAR c_GROUP c_FREE c_RINGS c_KNOCKS c_BARRED c_ROUND c_NOBODY c_QUIET c_DIAL c_BELL c_TALK c_MUSIC c_MOST_AGE c_MOST_DEEDS c_WISH) ⟨(PySem.W.mg_of X G g_C_PE), (PySem.W.mg_of X G g_C_BW), (PySem.W.mg_of X G g_C_BP), (PySem.W.mg_of X G g_C_BN), (PySem.W.mg_of X G g_C_BS), (PySem.W.mg_of X G g_C_NN), (PySem.W.mg_of X G g_C_BD), (PySem.W.mg_of X G g_C_BT), (PySem.W.mg_none_of X G ve), pga, prd, pvv, ⟨⟨hg_BW, hk_BW, sb_BW, hd_BW, ha_BW, xc_hn, xc_ht, hm_BW⟩, em_BW, k_BW_BW, k_BW_BP, k_BW_BN, k_BW_BS, k_BW_NN, k_BW_BD, k_BW_BT, kv_BW⟩, ⟨oc_BW, sa_BW, sb_BW, ty_BW, kp_BW⟩, ri_BW, no_BW, ⟨⟨hg_BP, hk_BP, sb_BP, hd_BP, ha_BP, xc_hn, xc_ht, hm_BP⟩, em_BP, k_BP_BW, k_BP_BP, k_BP_BN, k_BP_BS, k_BP_NN, k_BP_BD, k_BP_BT, kv_BP⟩, ⟨(PySem.W.mg_of X G g_C_BP), ex_BP, kp_BP, sb_BP, ty_BP⟩, ⟨⟨hg_BD, hk_BD, sb_BD, hd_BD, ha_BD, xc_hn, xc_ht, hm_BD⟩, em_BD, k_BD_BW, k_BD_BP, k_BD_BN, k_BD_BS, k_BD_NN, k_BD_BD, k_BD_BT, kv_BD⟩, ⟨oc_BD, sa_BD, sb_BD, ty_BD, kp_BD⟩, ri_BD, no_BD⟩ T ne hx
theorem raw_def {K : PySem.W.Frag} {x qual : Str} {st : Stmt} {f : Addr} {od an : Option Addr} {sl : Array (Option Value)} {oc kV dc pm cd ct : Value} (h1 : PySem.W.nsIn K mainGlobals x = some (some (.ref f)))
    (h2 : K.lookup f = some ⟨oc, od, .func (PySem.W.fnOf x qual (defArgs st) (defBody st) (defScope st) .none kV dc pm an cd ct), sl⟩) (h3 : PySem.W.codeIn K cd qual = true) (h4 : PySem.W.keepIn K (.ref f) = true) : RawDef K x qual st := ⟨_, _, _, _, _, _, _, _, _, _, h1, h2, h3, h4⟩
theorem raw_meth {K : PySem.W.Frag} {C : Addr} {m qual : Str} {st : Stmt} {f : Addr} {od an : Option Addr} {sl : Array (Option Value)} {oc kV dc pm cd ct : Value} (h1 : PySem.W.findIn K (.ref C) m = some (some (.ref f)))
    (h2 : K.lookup f = some ⟨oc, od, .func (PySem.W.fnOf m qual (defArgs st) (defBody st) (defScope st) .none kV dc pm an cd ct), sl⟩) (h3 : PySem.W.codeIn K cd qual = true) (h4 : PySem.W.keepIn K (.ref f) = true) (h5 : PySem.W.isFn K (.ref f) = true) : RawMeth K C m qual st := ⟨_, _, _, _, _, _, _, _, _, _, h1, h2, h3, h4, h5⟩
theorem raw_tup2 {K : PySem.W.Frag} {x a b : Str} {p : Addr} {od : Option Addr} {n : Nat} {sl : Array (Option Value)} {t u : Tok} (h1 : PySem.W.nsIn K mainGlobals x = some (some (.ref p))) (h2 : K.lookup p = some ⟨.type "tuple", od, .seq #[.str a t, .str b u] n, sl⟩) :
    ∃ p od n sl t u, PySem.W.nsIn K mainGlobals x = some (some (.ref p)) ∧ K.lookup p = some ⟨.type "tuple", od, .seq #[.str a t, .str b u] n, sl⟩ := ⟨_, _, _, _, _, _, h1, h2⟩
theorem raw_int {K : PySem.W.Frag} {x : Str} {i : Int} {t : Tok} (h1 : PySem.W.nsIn K mainGlobals x = some (some (.int i t))) : ∃ t, PySem.W.nsIn K mainGlobals x = some (some (.int i t)) := ⟨_, h1⟩
theorem raw_str {K : PySem.W.Frag} {x i : Str} {t : Tok} (h1 : PySem.W.nsIn K mainGlobals x = some (some (.str i t))) : ∃ t, PySem.W.nsIn K mainGlobals x = some (some (.str i t)) := ⟨_, h1⟩
end AM
open PySem PySem.W PyProof.Rows in
set_option maxRecDepth 100000 in
set_option maxHeartbeats 0 in
theorem PySem.Challenge.cw_phonehall_k01_wishes_refused_holds : PySem.Challenge.rw_phonehall_k01_wishes_refused.Holds := by
  refine AM.head_of ?_
  k_fill
  refine AM.walkT (l := PySem.Challenge.rw_phonehall_k01_wishes_refused) (n := 63) (k := 14) (CX := fun w => L2.CX PySem.Challenge.rw_phonehall_k01_wishes_refused.prog w) (x := "_law_script") rfl (by decide) rfl ⟨rfl, by decide, by decide⟩ (fun w h Y => PySem.W.km_in_of Y) ?F ?Z
  case Z =>
    rintro w H s e s' ⟨_, _, _, _, _, _, _, _, _, _, _, _, z⟩
    exact z
  case F =>
    intro w mg fa h KX G hmg T
    refine' AM.law_all KX G hmg T ?ne ?hx ?n_Book ?n_Way ?n_Call ?n_Phone ?n_Hall ?r_is_number ?r_is_phone ?r_need_phone ?r_need_number ?r_need_states ?r_are_members ?r_is_wish ?r_key_of ?r_need_wishes ?r_Book_init ?r_Book_has ?r_Book_goal ?r_Book_patience ?r_Book_bars ?r_Book_members ?r_rings_at ?r_next_of ?r_Way_init ?r_Way_go ?r_Way_step ?r_led ?r_way_of ?r_had ?r_wants ?r_Call_init ?r_Phone_init ?r_Hall_init ?r_Hall_phone ?r_Hall_may_be_knocked_at ?r_Hall_go_on ?r_Hall_knock_list ?r_Hall_silence ?r_Hall_over ?r_Hall_answer ?r_Hall_leave ?r_Hall_lift ?r_Hall_dial ?r_Hall_drop ?r_Hall_need_talk ?r_Hall_hold ?r_Hall_swap ?r_Hall_take ?r_Hall_join ?r_Hall_beat ?r_Hall_late ?r_Hall_hear ?r_Hall_all_calls ?r_is_deed ?r_need_deeds ?r_do ?r_played ?r_words_of ?r_written ?r_law_taken ?r_law_word ?r_law_goal ?r_law_wish ?r_law_wishes ?r_law_works ?r_law_odd ?r_law_again ?r_law_are ?r_law ?kt_STATES ?m_Book ?k_Book ?pg_Book ?hd_Book ?po_Book ?sa_Book ?na_Book_wanted ?m_Way ?k_Way ?pg_Way ?hd_Way ?po_Way ?sa_Way ?na_Way_book ?na_Way_caller ?na_Way_chain ?na_Way_leads ?na_Way_group ?na_Way_word ?na_Way_ears ?m_Call ?k_Call ?pg_Call ?hd_Call ?po_Call ?sa_Call ?na_Call_way ?na_Call_people ?na_Call_age ?na_Call_is_talk ?m_Phone ?k_Phone ?pg_Phone ?hd_Phone ?po_Phone ?sa_Phone ?na_Phone_is_up ?na_Phone_now ?na_Phone_kept ?na_Phone_bell ?na_Phone_tone ?m_Hall ?k_Hall ?pg_Hall ?hd_Hall ?po_Hall ?sa_Hall ?na_Hall_book ?na_Hall_phones ?na_Hall_calls ?eq_Call ?nn_Call ?b_isinstance ?b_int ?b_bool ?b_tuple ?b_str ?b_list ?b_len ?b_range ?b_enumerate ?b_sorted ?c_PHONES ?c_NUMBERS ?c_MOST_LATE ?c_MOST_WISHES ?c_ALL ?c_BUSY ?c_LATE ?c_WAIT ?c_STILL ?c_BAR ?c_GROUP ?c_FREE ?c_RINGS ?c_KNOCKS ?c_BARRED ?c_ROUND ?c_NOBODY ?c_QUIET ?c_DIAL ?c_BELL ?c_TALK ?c_MUSIC ?c_MOST_AGE ?c_MOST_DEEDS ?c_WISH ?g_C_PE ?g_C_BW ?g_C_BP ?g_C_BN ?g_C_BS ?g_C_NN ?g_C_BD ?g_C_BT ?ve ?pga ?prd ?pvv ?xc_hn ?xc_ht ?hg_BW ?hk_BW ?sb_BW ?hd_BW ?ha_BW ?hm_BW ?em_BW ?k_BW_BW ?k_BW_BP ?k_BW_BN ?k_BW_BS ?k_BW_NN ?k_BW_BD ?k_BW_BT ?kv_BW ?ty_BW ?kp_BW ?oc_BW ?sa_BW ?ri_BW ?no_BW ?hg_BP ?hk_BP ?sb_BP ?hd_BP ?ha_BP ?hm_BP ?em_BP ?k_BP_BW ?k_BP_BP ?k_BP_BN ?k_BP_BS ?k_BP_NN ?k_BP_BD ?k_BP_BT ?kv_BP ?ty_BP ?kp_BP ?ex_BP ?hg_BD ?hk_BD ?sb_BD ?hd_BD ?ha_BD ?hm_BD ?em_BD ?k_BD_BW ?k_BD_BP ?k_BD_BN ?k_BD_BS ?k_BD_NN ?k_BD_BD ?k_BD_BT ?kv_BD ?ty_BD ?kp_BD ?oc_BD ?sa_BD ?ri_BD ?no_BD
    (case ne => as_aux_lemma => kernel_rfl)
    (case hx => exact AM.rec_by (by kernel_rfl))
    (case n_Book => as_aux_lemma => k_is)
    (case n_Way => as_aux_lemma => k_is)
    (case n_Call => as_aux_lemma => k_is)
    (case n_Phone => as_aux_lemma => k_is)
    (case n_Hall => as_aux_lemma => k_is)
    (case r_is_number => (refine' AM.raw_def ?h1 ?h2 ?h3 ?h4; (case h1 => as_aux_lemma => k_is); (case h2 => as_aux_lemma => k_is); (case h3 => as_aux_lemma => k_is); (case h4 => as_aux_lemma => k_is)))
    (case r_is_phone => (refine' AM.raw_def ?h1 ?h2 ?h3 ?h4; (case h1 => as_aux_lemma => k_is); (case h2 => as_aux_lemma => k_is); (case h3 => as_aux_lemma => k_is); (case h4 => as_aux_lemma => k_is)))
    (case r_need_phone => (refine' AM.raw_def ?h1 ?h2 ?h3 ?h4; (case h1 => as_aux_lemma => k_is); (case h2 => as_aux_lemma => k_is); (case h3 => as_aux_lemma => k_is); (case h4 => as_aux_lemma => k_is)))
    (case r_need_number => (refine' AM.raw_def ?h1 ?h2 ?h3 ?h4; (case h1 => as_aux_lemma => k_is); (case h2 => as_aux_lemma => k_is); (case h3 => as_aux_lemma => k_is); (case h4 => as_aux_lemma => k_is)))
    (case r_need_states => (refine' AM.raw_def ?h1 ?h2 ?h3 ?h4; (case h1 => as_aux_lemma => k_is); (case h2 => as_aux_lemma => k_is); (case h3 => as_aux_lemma => k_is); (case h4 => as_aux_lemma => k_is)))
    (case r_are_members => (refine' AM.raw_def ?h1 ?h2 ?h3 ?h4; (case h1 => as_aux_lemma => k_is); (case h2 => as_aux_lemma => k_is); (case h3 => as_aux_lemma => k_is); (case h4 => as_aux_lemma => k_is)))
    (case r_is_wish => (refine' AM.raw_def ?h1 ?h2 ?h3 ?h4; (case h1 => as_aux_lemma => k_is); (case h2 => as_aux_lemma => k_is); (case h3 => as_aux_lemma => k_is); (case h4 => as_aux_lemma => k_is)))
    (case r_key_of => (refine' AM.raw_def ?h1 ?h2 ?h3 ?h4; (case h1 => as_aux_lemma => k_is); (case h2 => as_aux_lemma => k_is); (case h3 => as_aux_lemma => k_is); (case h4 => as_aux_lemma => k_is)))
    (case r_need_wishes => (refine' AM.raw_def ?h1 ?h2 ?h3 ?h4; (case h1 => as_aux_lemma => k_is); (case h2 => as_aux_lemma => k_is); (case h3 => as_aux_lemma => k_is); (case h4 => as_aux_lemma => k_is)))
    (case r_Book_init => (refine' AM.raw_meth ?h1 ?h2 ?h3 ?h4 ?h5; (case h1 => as_aux_lemma => k_is); (case h2 => as_aux_lemma => k_is); (case h3 => as_aux_lemma => k_is); (case h4 => as_aux_lemma => k_is); (case h5 => as_aux_lemma => k_is)))
    (case r_Book_has => (refine' AM.raw_meth ?h1 ?h2 ?h3 ?h4 ?h5; (case h1 => as_aux_lemma => k_is); (case h2 => as_aux_lemma => k_is); (case h3 => as_aux_lemma => k_is); (case h4 => as_aux_lemma => k_is); (case h5 => as_aux_lemma => k_is)))
    (case r_Book_goal => (refine' AM.raw_meth ?h1 ?h2 ?h3 ?h4 ?h5; (case h1 => as_aux_lemma => k_is); (case h2 => as_aux_lemma => k_is); (case h3 => as_aux_lemma => k_is); (case h4 => as_aux_lemma => k_is); (case h5 => as_aux_lemma => k_is)))
    (case r_Book_patience => (refine' AM.raw_meth ?h1 ?h2 ?h3 ?h4 ?h5; (case h1 => as_aux_lemma => k_is); (case h2 => as_aux_lemma => k_is); (case h3 => as_aux_lemma => k_is); (case h4 => as_aux_lemma => k_is); (case h5 => as_aux_lemma => k_is)))
    (case r_Book_bars => (refine' AM.raw_meth ?h1 ?h2 ?h3 ?h4 ?h5; (case h1 => as_aux_lemma => k_is); (case h2 => as_aux_lemma => k_is); (case h3 => as_aux_lemma => k_is); (case h4 => as_aux_lemma => k_is); (case h5 => as_aux_lemma => k_is)))
    (case r_Book_members => (refine' AM.raw_meth ?h1 ?h2 ?h3 ?h4 ?h5; (case h1 => as_aux_lemma => k_is); (case h2 => as_aux_lemma => k_is); (case h3 => as_aux_lemma => k_is); (case h4 => as_aux_lemma => k_is); (case h5 => as_aux_lemma => k_is)))
    (case r_rings_at => (refine' AM.raw_def ?h1 ?h2 ?h3 ?h4; (case h1 => as_aux_lemma => k_is); (case h2 => as_aux_lemma => k_is); (case h3 => as_aux_lemma => k_is); (case h4 => as_aux_lemma => k_is)))
    (case r_next_of => (refine' AM.raw_def ?h1 ?h2 ?h3 ?h4; (case h1 => as_aux_lemma => k_is); (case h2 => as_aux_lemma => k_is); (case h3 => as_aux_lemma => k_is); (case h4 => as_aux_lemma => k_is)))
    (case r_Way_init => (refine' AM.raw_meth ?h1 ?h2 ?h3 ?h4 ?h5; (case h1 => as_aux_lemma => k_is); (case h2 => as_aux_lemma => k_is); (case h3 => as_aux_lemma => k_is); (case h4 => as_aux_lemma => k_is); (case h5 => as_aux_lemma => k_is)))
    (case r_Way_go => (refine' AM.raw_meth ?h1 ?h2 ?h3 ?h4 ?h5; (case h1 => as_aux_lemma => k_is); (case h2 => as_aux_lemma => k_is); (case h3 => as_aux_lemma => k_is); (case h4 => as_aux_lemma => k_is); (case h5 => as_aux_lemma => k_is)))
    (case r_Way_step => (refine' AM.raw_meth ?h1 ?h2 ?h3 ?h4 ?h5; (case h1 => as_aux_lemma => k_is); (case h2 => as_aux_lemma => k_is); (case h3 => as_aux_lemma => k_is); (case h4 => as_aux_lemma => k_is); (case h5 => as_aux_lemma => k_is)))
    (case r_led => (refine' AM.raw_def ?h1 ?h2 ?h3 ?h4; (case h1 => as_aux_lemma => k_is); (case h2 => as_aux_lemma => k_is); (case h3 => as_aux_lemma => k_is); (case h4 => as_aux_lemma => k_is)))
    (case r_way_of => (refine' AM.raw_def ?h1 ?h2 ?h3 ?h4; (case h1 => as_aux_lemma => k_is); (case h2 => as_aux_lemma => k_is); (case h3 => as_aux_lemma => k_is); (case h4 => as_aux_lemma => k_is)))
    (case r_had => (refine' AM.raw_def ?h1 ?h2 ?h3 ?h4; (case h1 => as_aux_lemma => k_is); (case h2 => as_aux_lemma => k_is); (case h3 => as_aux_lemma => k_is); (case h4 => as_aux_lemma => k_is)))
    (case r_wants => (refine' AM.raw_def ?h1 ?h2 ?h3 ?h4; (case h1 => as_aux_lemma => k_is); (case h2 => as_aux_lemma => k_is); (case h3 => as_aux_lemma => k_is); (case h4 => as_aux_lemma => k_is)))
    (case r_Call_init => (refine' AM.raw_meth ?h1 ?h2 ?h3 ?h4 ?h5; (case h1 => as_aux_lemma => k_is); (case h2 => as_aux_lemma => k_is); (case h3 => as_aux_lemma => k_is); (case h4 => as_aux_lemma => k_is); (case h5 => as_aux_lemma => k_is)))
    (case r_Phone_init => (refine' AM.raw_meth ?h1 ?h2 ?h3 ?h4 ?h5; (case h1 => as_aux_lemma => k_is); (case h2 => as_aux_lemma => k_is); (case h3 => as_aux_lemma => k_is); (case h4 => as_aux_lemma => k_is); (case h5 => as_aux_lemma => k_is)))
    (case r_Hall_init => (refine' AM.raw_meth ?h1 ?h2 ?h3 ?h4 ?h5; (case h1 => as_aux_lemma => k_is); (case h2 => as_aux_lemma => k_is); (case h3 => as_aux_lemma => k_is); (case h4 => as_aux_lemma => k_is); (case h5 => as_aux_lemma => k_is)))
    (case r_Hall_phone => (refine' AM.raw_meth ?h1 ?h2 ?h3 ?h4 ?h5; (case h1 => as_aux_lemma => k_is); (case h2 => as_aux_lemma => k_is); (case h3 => as_aux_lemma => k_is); (case h4 => as_aux_lemma => k_is); (case h5 => as_aux_lemma => k_is)))
    (case r_Hall_may_be_knocked_at => (refine' AM.raw_meth ?h1 ?h2 ?h3 ?h4 ?h5; (case h1 => as_aux_lemma => k_is); (case h2 => as_aux_lemma => k_is); (case h3 => as_aux_lemma => k_is); (case h4 => as_aux_lemma => k_is); (case h5 => as_aux_lemma => k_is)))
    (case r_Hall_go_on => (refine' AM.raw_meth ?h1 ?h2 ?h3 ?h4 ?h5; (case h1 => as_aux_lemma => k_is); (case h2 => as_aux_lemma => k_is); (case h3 => as_aux_lemma => k_is); (case h4 => as_aux_lemma => k_is); (case h5 => as_aux_lemma => k_is)))
    (case r_Hall_knock_list => (refine' AM.raw_meth ?h1 ?h2 ?h3 ?h4 ?h5; (case h1 => as_aux_lemma => k_is); (case h2 => as_aux_lemma => k_is); (case h3 => as_aux_lemma => k_is); (case h4 => as_aux_lemma => k_is); (case h5 => as_aux_lemma => k_is)))
    (case r_Hall_silence => (refine' AM.raw_meth ?h1 ?h2 ?h3 ?h4 ?h5; (case h1 => as_aux_lemma => k_is); (case h2 => as_aux_lemma => k_is); (case h3 => as_aux_lemma => k_is); (case h4 => as_aux_lemma => k_is); (case h5 => as_aux_lemma => k_is)))
    (case r_Hall_over => (refine' AM.raw_meth ?h1 ?h2 ?h3 ?h4 ?h5; (case h1 => as_aux_lemma => k_is); (case h2 => as_aux_lemma => k_is); (case h3 => as_aux_lemma => k_is); (case h4 => as_aux_lemma => k_is); (case h5 => as_aux_lemma => k_is)))
    (case r_Hall_answer => (refine' AM.raw_meth ?h1 ?h2 ?h3 ?h4 ?h5; (case h1 => as_aux_lemma => k_is); (case h2 => as_aux_lemma => k_is); (case h3 => as_aux_lemma => k_is); (case h4 => as_aux_lemma => k_is); (case h5 => as_aux_lemma => k_is)))
    (case r_Hall_leave => (refine' AM.raw_meth ?h1 ?h2 ?h3 ?h4 ?h5; (case h1 => as_aux_lemma => k_is); (case h2 => as_aux_lemma => k_is); (case h3 => as_aux_lemma => k_is); (case h4 => as_aux_lemma => k_is); (case h5 => as_aux_lemma => k_is)))
    (case r_Hall_lift => (refine' AM.raw_meth ?h1 ?h2 ?h3 ?h4 ?h5; (case h1 => as_aux_lemma => k_is); (case h2 => as_aux_lemma => k_is); (case h3 => as_aux_lemma => k_is); (case h4 => as_aux_lemma => k_is); (case h5 => as_aux_lemma => k_is)))
    (case r_Hall_dial => (refine' AM.raw_meth ?h1 ?h2 ?h3 ?h4 ?h5; (case h1 => as_aux_lemma => k_is); (case h2 => as_aux_lemma => k_is); (case h3 => as_aux_lemma => k_is); (case h4 => as_aux_lemma => k_is); (case h5 => as_aux_lemma => k_is)))
    (case r_Hall_drop => (refine' AM.raw_meth ?h1 ?h2 ?h3 ?h4 ?h5; (case h1 => as_aux_lemma => k_is); (case h2 => as_aux_lemma => k_is); (case h3 => as_aux_lemma => k_is); (case h4 => as_aux_lemma => k_is); (case h5 => as_aux_lemma => k_is)))
    (case r_Hall_need_talk => (refine' AM.raw_meth ?h1 ?h2 ?h3 ?h4 ?h5; (case h1 => as_aux_lemma => k_is); (case h2 => as_aux_lemma => k_is); (case h3 => as_aux_lemma => k_is); (case h4 => as_aux_lemma => k_is); (case h5 => as_aux_lemma => k_is)))
    (case r_Hall_hold => (refine' AM.raw_meth ?h1 ?h2 ?h3 ?h4 ?h5; (case h1 => as_aux_lemma => k_is); (case h2 => as_aux_lemma => k_is); (case h3 => as_aux_lemma => k_is); (case h4 => as_aux_lemma => k_is); (case h5 => as_aux_lemma => k_is)))
    (case r_Hall_swap => (refine' AM.raw_meth ?h1 ?h2 ?h3 ?h4 ?h5; (case h1 => as_aux_lemma => k_is); (case h2 => as_aux_lemma => k_is); (case h3 => as_aux_lemma => k_is); (case h4 => as_aux_lemma => k_is); (case h5 => as_aux_lemma => k_is)))
    (case r_Hall_take => (refine' AM.raw_meth ?h1 ?h2 ?h3 ?h4 ?h5; (case h1 => as_aux_lemma => k_is); (case h2 => as_aux_lemma => k_is); (case h3 => as_aux_lemma => k_is); (case h4 => as_aux_lemma => k_is); (case h5 => as_aux_lemma => k_is)))
    (case r_Hall_join => (refine' AM.raw_meth ?h1 ?h2 ?h3 ?h4 ?h5; (case h1 => as_aux_lemma => k_is); (case h2 => as_aux_lemma => k_is); (case h3 => as_aux_lemma => k_is); (case h4 => as_aux_lemma => k_is); (case h5 => as_aux_lemma => k_is)))
    (case r_Hall_beat => (refine' AM.raw_meth ?h1 ?h2 ?h3 ?h4 ?h5; (case h1 => as_aux_lemma => k_is); (case h2 => as_aux_lemma => k_is); (case h3 => as_aux_lemma => k_is); (case h4 => as_aux_lemma => k_is); (case h5 => as_aux_lemma => k_is)))
    (case r_Hall_late => (refine' AM.raw_meth ?h1 ?h2 ?h3 ?h4 ?h5; (case h1 => as_aux_lemma => k_is); (case h2 => as_aux_lemma => k_is); (case h3 => as_aux_lemma => k_is); (case h4 => as_aux_lemma => k_is); (case h5 => as_aux_lemma => k_is)))
    (case r_Hall_hear => (refine' AM.raw_meth ?h1 ?h2 ?h3 ?h4 ?h5; (case h1 => as_aux_lemma => k_is); (case h2 => as_aux_lemma => k_is); (case h3 => as_aux_lemma => k_is); (case h4 => as_aux_lemma => k_is); (case h5 => as_aux_lemma => k_is)))
    (case r_Hall_all_calls => (refine' AM.raw_meth ?h1 ?h2 ?h3 ?h4 ?h5; (case h1 => as_aux_lemma => k_is); (case h2 => as_aux_lemma => k_is); (case h3 => as_aux_lemma => k_is); (case h4 => as_aux_lemma => k_is); (case h5 => as_aux_lemma => k_is)))
    (case r_is_deed => (refine' AM.raw_def ?h1 ?h2 ?h3 ?h4; (case h1 => as_aux_lemma => k_is); (case h2 => as_aux_lemma => k_is); (case h3 => as_aux_lemma => k_is); (case h4 => as_aux_lemma => k_is)))
    (case r_need_deeds => (refine' AM.raw_def ?h1 ?h2 ?h3 ?h4; (case h1 => as_aux_lemma => k_is); (case h2 => as_aux_lemma => k_is); (case h3 => as_aux_lemma => k_is); (case h4 => as_aux_lemma => k_is)))
    (case r_do => (refine' AM.raw_def ?h1 ?h2 ?h3 ?h4; (case h1 => as_aux_lemma => k_is); (case h2 => as_aux_lemma => k_is); (case h3 => as_aux_lemma => k_is); (case h4 => as_aux_lemma => k_is)))
    (case r_played => (refine' AM.raw_def ?h1 ?h2 ?h3 ?h4; (case h1 => as_aux_lemma => k_is); (case h2 => as_aux_lemma => k_is); (case h3 => as_aux_lemma => k_is); (case h4 => as_aux_lemma => k_is)))
    (case r_words_of => (refine' AM.raw_def ?h1 ?h2 ?h3 ?h4; (case h1 => as_aux_lemma => k_is); (case h2 => as_aux_lemma => k_is); (case h3 => as_aux_lemma => k_is); (case h4 => as_aux_lemma => k_is)))
    (case r_written => (refine' AM.raw_def ?h1 ?h2 ?h3 ?h4; (case h1 => as_aux_lemma => k_is); (case h2 => as_aux_lemma => k_is); (case h3 => as_aux_lemma => k_is); (case h4 => as_aux_lemma => k_is)))
    (case r_law_taken => (refine' AM.raw_def ?h1 ?h2 ?h3 ?h4; (case h1 => as_aux_lemma => k_is); (case h2 => as_aux_lemma => k_is); (case h3 => as_aux_lemma => k_is); (case h4 => as_aux_lemma => k_is)))
    (case r_law_word => (refine' AM.raw_def ?h1 ?h2 ?h3 ?h4; (case h1 => as_aux_lemma => k_is); (case h2 => as_aux_lemma => k_is); (case h3 => as_aux_lemma => k_is); (case h4 => as_aux_lemma => k_is)))
    (case r_law_goal => (refine' AM.raw_def ?h1 ?h2 ?h3 ?h4; (case h1 => as_aux_lemma => k_is); (case h2 => as_aux_lemma => k_is); (case h3 => as_aux_lemma => k_is); (case h4 => as_aux_lemma => k_is)))
    (case r_law_wish => (refine' AM.raw_def ?h1 ?h2 ?h3 ?h4; (case h1 => as_aux_lemma => k_is); (case h2 => as_aux_lemma => k_is); (case h3 => as_aux_lemma => k_is); (case h4 => as_aux_lemma => k_is)))
    (case r_law_wishes => (refine' AM.raw_def ?h1 ?h2 ?h3 ?h4; (case h1 => as_aux_lemma => k_is); (case h2 => as_aux_lemma => k_is); (case h3 => as_aux_lemma => k_is); (case h4 => as_aux_lemma => k_is)))
    (case r_law_works => (refine' AM.raw_def ?h1 ?h2 ?h3 ?h4; (case h1 => as_aux_lemma => k_is); (case h2 => as_aux_lemma => k_is); (case h3 => as_aux_lemma => k_is); (case h4 => as_aux_lemma => k_is)))
    (case r_law_odd => (refine' AM.raw_def ?h1 ?h2 ?h3 ?h4; (case h1 => as_aux_lemma => k_is); (case h2 => as_aux_lemma => k_is); (case h3 => as_aux_lemma => k_is); (case h4 => as_aux_lemma => k_is)))
    (case r_law_again => (refine' AM.raw_def ?h1 ?h2 ?h3 ?h4; (case h1 => as_aux_lemma => k_is); (case h2 => as_aux_lemma => k_is); (case h3 => as_aux_lemma => k_is); (case h4 => as_aux_lemma => k_is)))
    (case r_law_are => (refine' AM.raw_def ?h1 ?h2 ?h3 ?h4; (case h1 => as_aux_lemma => k_is); (case h2 => as_aux_lemma => k_is); (case h3 => as_aux_lemma => k_is); (case h4 => as_aux_lemma => k_is)))
    (case r_law => (refine' AM.raw_def ?h1 ?h2 ?h3 ?h4; (case h1 => as_aux_lemma => k_is); (case h2 => as_aux_lemma => k_is); (case h3 => as_aux_lemma => k_is); (case h4 => as_aux_lemma => k_is)))
    (case kt_STATES => (refine' AM.raw_tup2 ?h1 ?h2; (case h1 => as_aux_lemma => k_is); (case h2 => as_aux_lemma => k_is)))
    (case m_Book => as_aux_lemma => k_is)
    (case k_Book => as_aux_lemma => k_is)
    (case pg_Book => as_aux_lemma => k_is)
    (case hd_Book => as_aux_lemma => k_is)
    (case po_Book => as_aux_lemma => k_is)
    (case sa_Book => as_aux_lemma => k_is)
    (case na_Book_wanted => as_aux_lemma => k_is)
    (case m_Way => as_aux_lemma => k_is)
    (case k_Way => as_aux_lemma => k_is)
    (case pg_Way => as_aux_lemma => k_is)
    (case hd_Way => as_aux_lemma => k_is)
    (case po_Way => as_aux_lemma => k_is)
    (case sa_Way => as_aux_lemma => k_is)
    (case na_Way_book => as_aux_lemma => k_is)
    (case na_Way_caller => as_aux_lemma => k_is)
    (case na_Way_chain => as_aux_lemma => k_is)
    (case na_Way_leads => as_aux_lemma => k_is)
    (case na_Way_group => as_aux_lemma => k_is)
    (case na_Way_word => as_aux_lemma => k_is)
    (case na_Way_ears => as_aux_lemma => k_is)
    (case m_Call => as_aux_lemma => k_is)
    (case k_Call => as_aux_lemma => k_is)
    (case pg_Call => as_aux_lemma => k_is)
    (case hd_Call => as_aux_lemma => k_is)
    (case po_Call => as_aux_lemma => k_is)
    (case sa_Call => as_aux_lemma => k_is)
    (case na_Call_way => as_aux_lemma => k_is)
    (case na_Call_people => as_aux_lemma => k_is)
    (case na_Call_age => as_aux_lemma => k_is)
    (case na_Call_is_talk => as_aux_lemma => k_is)
    (case m_Phone => as_aux_lemma => k_is)
    (case k_Phone => as_aux_lemma => k_is)
    (case pg_Phone => as_aux_lemma => k_is)
    (case hd_Phone => as_aux_lemma => k_is)
    (case po_Phone => as_aux_lemma => k_is)
    (case sa_Phone => as_aux_lemma => k_is)
    (case na_Phone_is_up => as_aux_lemma => k_is)
    (case na_Phone_now => as_aux_lemma => k_is)
    (case na_Phone_kept => as_aux_lemma => k_is)
    (case na_Phone_bell => as_aux_lemma => k_is)
    (case na_Phone_tone => as_aux_lemma => k_is)
    (case m_Hall => as_aux_lemma => k_is)
    (case k_Hall => as_aux_lemma => k_is)
    (case pg_Hall => as_aux_lemma => k_is)
    (case hd_Hall => as_aux_lemma => k_is)
    (case po_Hall => as_aux_lemma => k_is)
    (case sa_Hall => as_aux_lemma => k_is)
    (case na_Hall_book => as_aux_lemma => k_is)
    (case na_Hall_phones => as_aux_lemma => k_is)
    (case na_Hall_calls => as_aux_lemma => k_is)
    (case eq_Call => as_aux_lemma => k_is)
    (case nn_Call => as_aux_lemma => k_is)
    (case b_isinstance => as_aux_lemma => k_is)
    (case b_int => as_aux_lemma => k_is)
    (case b_bool => as_aux_lemma => k_is)
    (case b_tuple => as_aux_lemma => k_is)
    (case b_str => as_aux_lemma => k_is)
    (case b_list => as_aux_lemma => k_is)
    (case b_len => as_aux_lemma => k_is)
    (case b_range => as_aux_lemma => k_is)
    (case b_enumerate => as_aux_lemma => k_is)
    (case b_sorted => as_aux_lemma => k_is)
    (case c_PHONES => (first | (refine' AM.raw_int ?h1; (case h1 => as_aux_lemma => k_is)) | (refine' AM.raw_str ?h1; (case h1 => as_aux_lemma => k_is))))
    (case c_NUMBERS => (first | (refine' AM.raw_int ?h1; (case h1 => as_aux_lemma => k_is)) | (refine' AM.raw_str ?h1; (case h1 => as_aux_lemma => k_is))))
    (case c_MOST_LATE => (first | (refine' AM.raw_int ?h1; (case h1 => as_aux_lemma => k_is)) | (refine' AM.raw_str ?h1; (case h1 => as_aux_lemma => k_is))))
    (case c_MOST_WISHES => (first | (refine' AM.raw_int ?h1; (case h1 => as_aux_lemma => k_is)) | (refine' AM.raw_str ?h1; (case h1 => as_aux_lemma => k_is))))
    (case c_ALL => (first | (refine' AM.raw_int ?h1; (case h1 => as_aux_lemma => k_is)) | (refine' AM.raw_str ?h1; (case h1 => as_aux_lemma => k_is))))
    (case c_BUSY => (first | (refine' AM.raw_int ?h1; (case h1 => as_aux_lemma => k_is)) | (refine' AM.raw_str ?h1; (case h1 => as_aux_lemma => k_is))))
    (case c_LATE => (first | (refine' AM.raw_int ?h1; (case h1 => as_aux_lemma => k_is)) | (refine' AM.raw_str ?h1; (case h1 => as_aux_lemma => k_is))))
    (case c_WAIT => (first | (refine' AM.raw_int ?h1; (case h1 => as_aux_lemma => k_is)) | (refine' AM.raw_str ?h1; (case h1 => as_aux_lemma => k_is))))
    (case c_STILL => (first | (refine' AM.raw_int ?h1; (case h1 => as_aux_lemma => k_is)) | (refine' AM.raw_str ?h1; (case h1 => as_aux_lemma => k_is))))
    (case c_BAR => (first | (refine' AM.raw_int ?h1; (case h1 => as_aux_lemma => k_is)) | (refine' AM.raw_str ?h1; (case h1 => as_aux_lemma => k_is))))
    (case c_GROUP => (first | (refine' AM.raw_int ?h1; (case h1 => as_aux_lemma => k_is)) | (refine' AM.raw_str ?h1; (case h1 => as_aux_lemma => k_is))))
    (case c_FREE => (first | (refine' AM.raw_int ?h1; (case h1 => as_aux_lemma => k_is)) | (refine' AM.raw_str ?h1; (case h1 => as_aux_lemma => k_is))))
    (case c_RINGS => (first | (refine' AM.raw_int ?h1; (case h1 => as_aux_lemma => k_is)) | (refine' AM.raw_str ?h1; (case h1 => as_aux_lemma => k_is))))
    (case c_KNOCKS => (first | (refine' AM.raw_int ?h1; (case h1 => as_aux_lemma => k_is)) | (refine' AM.raw_str ?h1; (case h1 => as_aux_lemma => k_is))))
    (case c_BARRED => (first | (refine' AM.raw_int ?h1; (case h1 => as_aux_lemma => k_is)) | (refine' AM.raw_str ?h1; (case h1 => as_aux_lemma => k_is))))
    (case c_ROUND => (first | (refine' AM.raw_int ?h1; (case h1 => as_aux_lemma => k_is)) | (refine' AM.raw_str ?h1; (case h1 => as_aux_lemma => k_is))))
    (case c_NOBODY => (first | (refine' AM.raw_int ?h1; (case h1 => as_aux_lemma => k_is)) | (refine' AM.raw_str ?h1; (case h1 => as_aux_lemma => k_is))))
    (case c_QUIET => (first | (refine' AM.raw_int ?h1; (case h1 => as_aux_lemma => k_is)) | (refine' AM.raw_str ?h1; (case h1 => as_aux_lemma => k_is))))
    (case c_DIAL => (first | (refine' AM.raw_int ?h1; (case h1 => as_aux_lemma => k_is)) | (refine' AM.raw_str ?h1; (case h1 => as_aux_lemma => k_is))))
    (case c_BELL => (first | (refine' AM.raw_int ?h1; (case h1 => as_aux_lemma => k_is)) | (refine' AM.raw_str ?h1; (case h1 => as_aux_lemma => k_is))))
    (case c_TALK => (first | (refine' AM.raw_int ?h1; (case h1 => as_aux_lemma => k_is)) | (refine' AM.raw_str ?h1; (case h1 => as_aux_lemma => k_is))))
    (case c_MUSIC => (first | (refine' AM.raw_int ?h1; (case h1 => as_aux_lemma => k_is)) | (refine' AM.raw_str ?h1; (case h1 => as_aux_lemma => k_is))))
    (case c_MOST_AGE => (first | (refine' AM.raw_int ?h1; (case h1 => as_aux_lemma => k_is)) | (refine' AM.raw_str ?h1; (case h1 => as_aux_lemma => k_is))))
    (case c_MOST_DEEDS => (first | (refine' AM.raw_int ?h1; (case h1 => as_aux_lemma => k_is)) | (refine' AM.raw_str ?h1; (case h1 => as_aux_lemma => k_is))))
    (case c_WISH => (first | (refine' AM.raw_int ?h1; (case h1 => as_aux_lemma => k_is)) | (refine' AM.raw_str ?h1; (case h1 => as_aux_lemma => k_is))))
    (case g_C_PE => as_aux_lemma => k_is)
    (case g_C_BW => as_aux_lemma => k_is)
    (case g_C_BP => as_aux_lemma => k_is)
    (case g_C_BN => as_aux_lemma => k_is)
    (case g_C_BS => as_aux_lemma => k_is)
    (case g_C_NN => as_aux_lemma => k_is)
    (case g_C_BD => as_aux_lemma => k_is)
    (case g_C_BT => as_aux_lemma => k_is)
    (case ve => as_aux_lemma => k_is)
    (case pga => as_aux_lemma => k_is)
    (case prd => as_aux_lemma => k_is)
    (case pvv => as_aux_lemma => k_is)
    (case xc_hn => first | rfl | k_is)
    (case xc_ht => first | rfl | k_is)
    (case hg_BW => as_aux_lemma => k_is)
    (case hk_BW => as_aux_lemma => k_is)
    (case sb_BW => as_aux_lemma => k_is)
    (case hd_BW => as_aux_lemma => k_is)
    (case ha_BW => as_aux_lemma => k_is)
    (case hm_BW => as_aux_lemma => k_is)
    (case em_BW => kts_exm)
    (case k_BW_BW => kit_is)
    (case k_BW_BP => kit_is)
    (case k_BW_BN => kit_is)
    (case k_BW_BS => kit_is)
    (case k_BW_NN => kit_is)
    (case k_BW_BD => kit_is)
    (case k_BW_BT => kit_is)
    (case kv_BW => kit_is)
    (case ty_BW => as_aux_lemma => k_is)
    (case kp_BW => as_aux_lemma => k_is)
    (case oc_BW => (refine' AM.oc_raw ?h1 ?h2; (case h1 => as_aux_lemma => k_is); (case h2 => kernel_rfl)))
    (case sa_BW => as_aux_lemma => k_is)
    (case ri_BW => (refine' AM.raw_meth ?h1 ?h2 ?h3 ?h4 ?h5; (case h1 => as_aux_lemma => k_is); (case h2 => as_aux_lemma => k_is); (case h3 => as_aux_lemma => k_is); (case h4 => as_aux_lemma => k_is); (case h5 => as_aux_lemma => k_is)))
    (case no_BW => as_aux_lemma => k_is)
    (case hg_BP => as_aux_lemma => k_is)
    (case hk_BP => as_aux_lemma => k_is)
    (case sb_BP => as_aux_lemma => k_is)
    (case hd_BP => as_aux_lemma => k_is)
    (case ha_BP => as_aux_lemma => k_is)
    (case hm_BP => as_aux_lemma => k_is)
    (case em_BP => kts_exm)
    (case k_BP_BW => kit_is)
    (case k_BP_BP => kit_is)
    (case k_BP_BN => kit_is)
    (case k_BP_BS => kit_is)
    (case k_BP_NN => kit_is)
    (case k_BP_BD => kit_is)
    (case k_BP_BT => kit_is)
    (case kv_BP => kit_is)
    (case ty_BP => as_aux_lemma => k_is)
    (case kp_BP => as_aux_lemma => k_is)
    (case ex_BP => k_exc)
    (case hg_BD => as_aux_lemma => k_is)
    (case hk_BD => as_aux_lemma => k_is)
    (case sb_BD => as_aux_lemma => k_is)
    (case hd_BD => as_aux_lemma => k_is)
    (case ha_BD => as_aux_lemma => k_is)
    (case hm_BD => as_aux_lemma => k_is)
    (case em_BD => kts_exm)
    (case k_BD_BW => kit_is)
    (case k_BD_BP => kit_is)
    (case k_BD_BN => kit_is)
    (case k_BD_BS => kit_is)
    (case k_BD_NN => kit_is)
    (case k_BD_BD => kit_is)
    (case k_BD_BT => kit_is)
    (case kv_BD => kit_is)
    (case ty_BD => as_aux_lemma => k_is)
    (case kp_BD => as_aux_lemma => k_is)
    (case oc_BD => (refine' AM.oc_raw ?h1 ?h2; (case h1 => as_aux_lemma => k_is); (case h2 => kernel_rfl)))
    (case sa_BD => as_aux_lemma => k_is)
    (case ri_BD => (refine' AM.raw_meth ?h1 ?h2 ?h3 ?h4 ?h5; (case h1 => as_aux_lemma => k_is); (case h2 => as_aux_lemma => k_is); (case h3 => as_aux_lemma => k_is); (case h4 => as_aux_lemma => k_is); (case h5 => as_aux_lemma => k_is)))
    (case no_BD => as_aux_lemma => k_is)
namespace AM

end AM
