import PyProof.Rows.All
import Wide.All
import OpenK.AllK
import Wide.FinOn
import HandS.ForMost
import HandS.ForExc
import HandS.Lambda
import HandS.TryMany
import HandS.IsInst
import HandS.Conv
import HandS.Defaults
import HandS.Deep
import HandS.Style
import HandS.ListItems
import HandS.NoneIn
import HandS.MakeKwOnly
import HandS.DictComp
import HandS.More
import KE.KDictZip
import KE.KTurns
import KE.KExcSuper
import HandS.ExcInit
import HandS.ExcSuper
import HandS.ExcField
import HandS.Wide
import PyProof.ReprLen
import HandS.Zip
import PyProof.Draws
import PyProof.EnumMake
import KE.GoesMore
import HandS.EndTab
import PyProof.ReprRoads
import HandS.EndBits
import PyProof.SumWalkG
import HandS.CallLocal
import HandS.Head0
import HandS.Head1
import HandS.Head2
import HandS.HeadHook1
import HandS.HeadHook2
import HandS.HeadHook3
import HandS.HeadHook4
import HandS.HeadNt
import HandS.HeadWalk
import OpenK.KWalk
import KE.SortKeyHeap
import KE.SortData
import KE.DataCmp
import KE.KStateDown
import PySem.Challenge.RW_marksinturn_k01_whole_questions_made
section
set_option Elab.async false
set_option linter.all false
set_option maxRecDepth 100000
set_option maxHeartbeats 4000000
/-! DL1: data by value over the abstract heap: D, Rep, Cell, Ok, Rel. -/
namespace DL
open PySem PySem.Spec PyProof.Rows L2

abbrev Sg := L2.St
inductive D where
  | v (x : V)
  | lst (ds : List D)
  | tup (ds : List D)
  | dic (kvs : List (Key × D))
  | ins (C : Addr) (fs : List (Str × D))
  | at (a : Addr) (d : D)
  | lsz (ns : List Int)

theorem SqL.same {K : PySem.W.Frag} {H H' : Hp} {a : Addr} {xs : List V} (e : Same H H') (h : SqL K H a xs) : SqL K H' a xs := by
  rcases h with (h | ⟨o, h⟩) | ⟨o, h, hk⟩
  · exact .inl (.inl (e _ _ h))
  · exact .inl (.inr ⟨o, e _ _ h⟩)
  · exact .inr ⟨o, h, hk⟩
theorem SqT.same {K : PySem.W.Frag} {H H' : Hp} {a : Addr} {xs : List V} (e : Same H H') (h : SqT K H a xs) : SqT K H' a xs := by
  rcases h with (h | ⟨o, h⟩) | h
  · exact .inl (.inl (e _ _ h))
  · exact .inl (.inr ⟨o, e _ _ h⟩)
  · exact .inr h

mutual
/-- the value v stands for the datum d, read in the heap F -/
inductive Rep (K : PySem.W.Frag) (F : Hp) : D → V → Prop
  | v (x : V) : Rep K F (.v x) x
  | lst {a : Addr} {xs : List V} {ds : List D} (h : F a = some (.lst xs)) (r : Reps K F ds xs) : Rep K F (.lst ds) (.ref a)
  | tup {a : Addr} {xs : List V} {ds : List D} (h : SqT K F a xs) (r : Reps K F ds xs) : Rep K F (.tup ds) (.ref a)
  | dic {a : Addr} {es : List (Key × V)} {kvs : List (Key × D)} (h : F a = some (.dK es)) (hk : es.map (·.1) = kvs.map (·.1)) (r : Reps K F (kvs.map (·.2)) (es.map (·.2))) : Rep K F (.dic kvs) (.ref a)
  | ins {a C dx : Addr} {es : List (Str × V)} {fs : List (Str × D)} (h : F a = some (.ins C dx es)) (hk : es.map (·.1) = fs.map (·.1)) (r : Reps K F (fs.map (·.2)) (es.map (·.2))) : Rep K F (.ins C fs) (.ref a)
  | at {a : Addr} {d : D} (h : Rep K F d (.ref a)) : Rep K F (.at a d) (.ref a)
  | lsz {a : Addr} {ns : List Int} (h : SqL K F a (ns.map V.int)) : Rep K F (.lsz ns) (.ref a)
inductive Reps (K : PySem.W.Frag) (F : Hp) : List D → List V → Prop
  | nil : Reps K F [] []
  | cons {d : D} {ds : List D} {x : V} {xs : List V} (h : Rep K F d x) (t : Reps K F ds xs) : Reps K F (d :: ds) (x :: xs)
end
mutual
theorem Rep.mono {K : PySem.W.Frag} {F F' : Hp} (e : Same F F') : ∀ {d : D} {v : V}, Rep K F d v → Rep K F' d v
  | _, _, .v x => .v x
  | _, _, .lst h r => .lst (e _ _ h) (Reps.mono e r)
  | _, _, .tup h r => .tup (SqT.same e h) (Reps.mono e r)
  | _, _, .dic h hk r => .dic (e _ _ h) hk (Reps.mono e r)
  | _, _, .ins h hk r => .ins (e _ _ h) hk (Reps.mono e r)
  | _, _, .at h => .at (Rep.mono e h)
  | _, _, .lsz h => .lsz (SqL.same e h)
theorem Reps.mono {K : PySem.W.Frag} {F F' : Hp} (e : Same F F') : ∀ {ds : List D} {xs : List V}, Reps K F ds xs → Reps K F' ds xs
  | _, _, .nil => .nil
  | _, _, .cons h t => .cons (Rep.mono e h) (Reps.mono e t)
end
section
variable {K : PySem.W.Frag} {F F' H H' : Hp}
theorem Reps.length : ∀ {ds : List D} {xs : List V}, Reps K F ds xs → ds.length = xs.length
  | _, _, .nil => rfl
  | _, _, .cons _ t => congrArg (· + 1) (Reps.length t)
theorem Reps.get : ∀ {ds : List D} {xs : List V} {i : Nat} {d : D}, Reps K F ds xs → ds[i]? = some d → ∃ x, xs[i]? = some x ∧ Rep K F d x
  | _, _, _, _, .nil, e => by simp at e
  | _, _, 0, _, .cons h _, e => by simp at e; subst e; exact ⟨_, rfl, h⟩
  | _, _, i + 1, d, .cons _ t, e => by
    obtain ⟨x, h1, h2⟩ := Reps.get (i := i) (d := d) t (by simpa using e)
    exact ⟨x, by simpa using h1, h2⟩
theorem Reps.get' : ∀ {ds : List D} {xs : List V} {i : Nat} {x : V}, Reps K F ds xs → xs[i]? = some x → ∃ d, ds[i]? = some d ∧ Rep K F d x
  | _, _, _, _, .nil, e => by simp at e
  | _, _, 0, _, .cons h _, e => by simp at e; subst e; exact ⟨_, rfl, h⟩
  | _, _, i + 1, x, .cons _ t, e => by
    obtain ⟨d, h1, h2⟩ := Reps.get' (i := i) (x := x) t (by simpa using e)
    exact ⟨d, by simpa using h1, h2⟩
theorem Reps.append : ∀ {ds es : List D} {xs ys : List V}, Reps K F ds xs → Reps K F es ys → Reps K F (ds ++ es) (xs ++ ys)
  | _, _, _, _, .nil, s => s
  | _, _, _, _, .cons h t, s => .cons h (Reps.append t s)
theorem Reps.take : ∀ {ds : List D} {xs : List V} (n : Nat), Reps K F ds xs → Reps K F (ds.take n) (xs.take n)
  | _, _, 0, _ => .nil
  | _, _, _ + 1, .nil => .nil
  | _, _, n + 1, .cons h t => .cons h (Reps.take n t)
theorem Reps.drop : ∀ {ds : List D} {xs : List V} (n : Nat), Reps K F ds xs → Reps K F (ds.drop n) (xs.drop n)
  | _, _, 0, r => r
  | _, _, _ + 1, .nil => .nil
  | _, _, n + 1, .cons _ t => Reps.drop n t
theorem Reps.eraseIdx : ∀ {ds : List D} {xs : List V} (n : Nat), Reps K F ds xs → Reps K F (ds.eraseIdx n) (xs.eraseIdx n)
  | _, _, _, .nil => .nil
  | _, _, 0, .cons _ t => t
  | _, _, n + 1, .cons h t => .cons h (Reps.eraseIdx n t)
theorem Reps.rep {ds : List D} {xs : List V} (h : Reps K F ds xs) : ∀ k : Nat, Reps K F (List.replicate k ds).flatten (List.replicate k xs).flatten
  | 0 => .nil
  | k + 1 => by
    rw [List.replicate_succ, List.replicate_succ, List.flatten_cons, List.flatten_cons]
    exact h.append (Reps.rep h k)
theorem Reps.one {d : D} {x : V} (h : Rep K F d x) : Reps K F [d] [x] := .cons h .nil
theorem Reps.snoc {ds : List D} {xs : List V} {d : D} {x : V} (r : Reps K F ds xs) (h : Rep K F d x) : Reps K F (ds ++ [d]) (xs ++ [x]) := r.append (.one h)
theorem Reps.ofV : ∀ xs : List V, Reps K F (xs.map D.v) xs
  | [] => .nil
  | x :: xs => .cons (.v x) (Reps.ofV xs)
theorem Reps.toV : ∀ {vs xs : List V}, Reps K F (vs.map D.v) xs → xs = vs
  | [], _, .nil => rfl
  | _ :: _, _, .cons (.v _) t => congrArg _ (Reps.toV t)

/-- the content of a cell that may change -/
inductive Cell (K : PySem.W.Frag) (F : Hp) : D → HO → Prop
  | lst {ds : List D} {xs : List V} (r : Reps K F ds xs) : Cell K F (.lst ds) (.lst xs)
  | dic {kvs : List (Key × D)} {es : List (Key × V)} (hk : es.map (·.1) = kvs.map (·.1)) (r : Reps K F (kvs.map (·.2)) (es.map (·.2))) : Cell K F (.dic kvs) (.dK es)
  | ins {C dx : Addr} {fs : List (Str × D)} {es : List (Str × V)} (hk : es.map (·.1) = fs.map (·.1)) (r : Reps K F (fs.map (·.2)) (es.map (·.2))) : Cell K F (.ins C fs) (.ins C dx es)
theorem Cell.mono (e : Same F F') {d : D} {o : HO} (c : Cell K F d o) : Cell K F' d o := by
  cases c with
  | lst r => exact .lst (r.mono e)
  | dic hk r => exact .dic hk (r.mono e)
  | ins hk r => exact .ins hk (r.mono e)
theorem Cell.nt {d : D} {o : HO} (c : Cell K F d o) (ps : Array Value) : o ≠ .tbl ps := by
  cases c <;> intro z <;> cases z
theorem Cell.rep {d : D} {o : HO} {a : Addr} (c : Cell K F d o) (h : F' a = some o) (e : Same F F') : Rep K F' d (.ref a) := by
  cases c with
  | lst r => exact .lst h (r.mono e)
  | dic hk r => exact .dic h hk (r.mono e)
  | ins hk r => exact .ins h hk (r.mono e)

/-- the stream of draws at sp, n draws at most so far -/
def StrmOk (H : Hp) (sp : Addr) (n : Nat) : Prop := ∃ z0 z1 z2 : Int, H sp = some (.lst [.int z0, .int z1, .int z2]) ∧ Builtin.Int.intBits z0 ≤ 1048576 ∧ 0 ≤ z1 ∧ z1 ≤ 1099511627776 ∧ 0 ≤ z2 ∧ z2 ≤ (n : Int)
theorem StrmOk.mono {sp : Addr} {n n' : Nat} (h : StrmOk H sp n) (e : n ≤ n') : StrmOk H sp n' := by
  obtain ⟨a, b, c, h1, h2, h3, h4, h5, h6⟩ := h
  exact ⟨a, b, c, h1, h2, h3, h4, h5, by omega⟩
theorem StrmOk.at {sp : Addr} {n : Nat} (h : StrmOk H sp n) (e : H' sp = H sp) : StrmOk H' sp n := by
  obtain ⟨a, b, c, h1, h2⟩ := h
  exact ⟨a, b, c, e.trans h1, h2⟩
theorem StrmOk.some {sp : Addr} {n : Nat} (h : StrmOk H sp n) : H sp ≠ none := by
  obtain ⟨a, b, c, h1, h2⟩ := h
  rw [h1]; simp

/-- nothing stands there, or a table -/
def Fr (H : Hp) (a : Addr) : Prop := ∀ o, H a = some o → ∃ ps, o = .tbl ps
theorem Fr.of {H : Hp} {a : Addr} (h : H a = none) : Fr H a := fun o e => by rw [h] at e; cases e
theorem Fr.ne {H : Hp} {a b : Addr} {o : HO} (f : Fr H a) (h : H b = some o) (n : ∀ ps, o ≠ .tbl ps) : b ≠ a := fun e => by
  subst e
  obtain ⟨ps, q⟩ := f o h
  exact n ps q
mutual
/-- like Rep; the lists, the dicts stand at new addresses -/
inductive RepN (K : PySem.W.Frag) (F H0 : Hp) : D → V → Prop
  | v (x : V) : RepN K F H0 (.v x) x
  | lst {a : Addr} {xs : List V} {ds : List D} (h : F a = some (.lst xs)) (f : Fr H0 a) (r : RepsN K F H0 ds xs) : RepN K F H0 (.lst ds) (.ref a)
  | tup {a : Addr} {xs : List V} {ds : List D} (h : SqT K F a xs) (r : RepsN K F H0 ds xs) : RepN K F H0 (.tup ds) (.ref a)
  | dic {a : Addr} {es : List (Key × V)} {kvs : List (Key × D)} (h : F a = some (.dK es)) (f : Fr H0 a) (hk : es.map (·.1) = kvs.map (·.1)) (r : RepsN K F H0 (kvs.map (·.2)) (es.map (·.2))) : RepN K F H0 (.dic kvs) (.ref a)
  | ins {a C dx : Addr} {es : List (Str × V)} {fs : List (Str × D)} (h : F a = some (.ins C dx es)) (f : Fr H0 a) (hk : es.map (·.1) = fs.map (·.1)) (r : RepsN K F H0 (fs.map (·.2)) (es.map (·.2))) : RepN K F H0 (.ins C fs) (.ref a)
inductive RepsN (K : PySem.W.Frag) (F H0 : Hp) : List D → List V → Prop
  | nil : RepsN K F H0 [] []
  | cons {d : D} {ds : List D} {x : V} {xs : List V} (h : RepN K F H0 d x) (t : RepsN K F H0 ds xs) : RepsN K F H0 (d :: ds) (x :: xs)
end
mutual
theorem RepN.rep {K : PySem.W.Frag} {F H0 : Hp} : ∀ {d : D} {v : V}, RepN K F H0 d v → Rep K F d v
  | _, _, .v x => .v x
  | _, _, .lst h _ r => .lst h r.rep
  | _, _, .tup h r => .tup h r.rep
  | _, _, .dic h _ k r => .dic h k r.rep
  | _, _, .ins h _ k r => .ins h k r.rep
theorem RepsN.rep {K : PySem.W.Frag} {F H0 : Hp} : ∀ {ds : List D} {xs : List V}, RepsN K F H0 ds xs → Reps K F ds xs
  | _, _, .nil => .nil
  | _, _, .cons h t => .cons h.rep t.rep
end
mutual
theorem RepN.mono {K : PySem.W.Frag} {F F' H0 H1 : Hp} (e : Same F F') (g : ∀ a o, F a = some o → Fr H1 a → Fr H0 a) : ∀ {d : D} {v : V}, RepN K F H1 d v → RepN K F' H0 d v
  | _, _, .v x => .v x
  | _, _, .lst h f r => .lst (e _ _ h) (g _ _ h f) (r.mono e g)
  | _, _, .tup h r => .tup (SqT.same e h) (r.mono e g)
  | _, _, .dic h f k r => .dic (e _ _ h) (g _ _ h f) k (r.mono e g)
  | _, _, .ins h f k r => .ins (e _ _ h) (g _ _ h f) k (r.mono e g)
theorem RepsN.mono {K : PySem.W.Frag} {F F' H0 H1 : Hp} (e : Same F F') (g : ∀ a o, F a = some o → Fr H1 a → Fr H0 a) : ∀ {ds : List D} {xs : List V}, RepsN K F H1 ds xs → RepsN K F' H0 ds xs
  | _, _, .nil => .nil
  | _, _, .cons h t => .cons (h.mono e g) (t.mono e g)
end
/-- a slot's datum: to be read since the start; or new since then -/
def BsR (K : PySem.W.Frag) (F0 H0 F : Hp) : Bool → D → V → Prop
  | true, d, v => Rep K F0 d v
  | false, d, v => RepN K F H0 d v
theorem BsR.mono {K : PySem.W.Frag} {F0 H0 F F' : Hp} (e : Same F F') {k : Bool} {d : D} {v : V} (h : BsR K F0 H0 F k d v) : BsR K F0 H0 F' k d v := by
  cases k with
  | true => exact h
  | false => exact RepN.mono e (fun _ _ _ h => h) h
/-- from (F0, H0) to (F, H): what is read stays, what stood stays (but the stream), what is new to be read is new -/
structure Ok (T : List (Addr × Str)) (st : Option Addr) (F0 H0 F H : Hp) (n : Nat) : Prop where
  sub : Same F H
  nt : ∀ a ps, F a ≠ some (.tbl ps)
  f0 : Same F0 F
  new : ∀ a o, F a = some o → F0 a = some o ∨ Fr H0 a
  keep : ∀ a o, H0 a = some o → st ≠ some a → (∀ ps, o ≠ .tbl ps) → H a = some o
  strm : ∀ sp, st = some sp → F sp = none ∧ StrmOk H sp n
  tabs : LamX.Tabs T H
theorem Ok.fr {T : List (Addr × Str)} {st : Option Addr} {F0 H0 F H : Hp} {n : Nat} (a : Ok T st F0 H0 F H n) {x : Addr} (f : Fr H x) : Fr H0 x := fun o e => by
  by_cases h : ∃ ps, o = .tbl ps
  · exact h
  · have hn : ∀ ps, o ≠ .tbl ps := fun ps q => h ⟨ps, q⟩
    by_cases hs : st = some x
    · obtain ⟨_, z0, z1, z2, e2, _⟩ := a.strm x hs
      obtain ⟨ps, q⟩ := f _ e2
      cases q
    · exact f o (a.keep x o e hs hn)
theorem Ok.dom {T : List (Addr × Str)} {st : Option Addr} {F0 H0 F H : Hp} {n : Nat} (a : Ok T st F0 H0 F H n) (x : Addr) (h : H x = none) : Fr H0 x := a.fr (.of h)
theorem Same.none {F F' : Hp} (e : Same F F') {a : Addr} (h : F' a = none) : F a = none := by
  cases q : F a with
  | none => rfl
  | some o => rw [e a o q] at h; cases h
theorem Ok.trans {T : List (Addr × Str)} {st : Option Addr} {F0 H0 F1 H1 F2 H2 : Hp} {n1 n2 : Nat} (a : Ok T st F0 H0 F1 H1 n1) (b : Ok T st F1 H1 F2 H2 n2) : Ok T st F0 H0 F2 H2 n2 where
  sub := b.sub
  nt := b.nt
  f0 := a.f0.trans b.f0
  new := fun x o h => (b.new x o h).elim (fun h1 => a.new x o h1) fun h1 => .inr (a.fr h1)
  keep := fun x o h h1 h2 => b.keep x o (a.keep x o h h1 h2) h1 h2
  strm := b.strm
  tabs := b.tabs
theorem Ok.refl' {T : List (Addr × Str)} {st : Option Addr} {F0 H0 F H : Hp} {n : Nat} (a : Ok T st F0 H0 F H n) : Ok T st F H F H n where
  sub := a.sub
  nt := a.nt
  f0 := fun _ _ h => h
  new := fun _ _ h => .inl h
  keep := fun _ _ h _ _ => h
  strm := a.strm
  tabs := a.tabs
/-- a new object is laid -/
theorem Ok.laid {T : List (Addr × Str)} {st : Option Addr} {F0 H0 F H : Hp} {n : Nat} (a : Ok T st F0 H0 F H n) {p : Addr} {o : HO} (hp : H p = none) : Ok T st F0 H0 F (upd H p o) n where
  sub := fun x u h => by rw [upd_ne (ne_of_none (a.sub x u h) hp)]; exact a.sub x u h
  nt := a.nt
  f0 := a.f0
  new := a.new
  keep := fun x u h h1 h2 => by
    have q := a.keep x u h h1 h2
    rw [upd_ne (ne_of_none q hp)]; exact q
  strm := fun sp h => by
    obtain ⟨h1, h2⟩ := a.strm sp h
    have ne : sp ≠ p := fun e => h2.some (by rw [e]; exact hp)
    exact ⟨h1, h2.at (upd_ne ne)⟩
  tabs := a.tabs.ext fun b u h => by rw [upd_ne (ne_of_none h hp)]; exact h
/-- an object that is there may be read from now on -/
theorem Ok.frz {T : List (Addr × Str)} {st : Option Addr} {F0 H0 F H : Hp} {n : Nat} (a : Ok T st F0 H0 F H n) {p : Addr} {o : HO} (hp : H p = some o) (hf : F p = none) (h0 : Fr H0 p) (hs : st ≠ some p) (hn : ∀ ps, o ≠ .tbl ps) : Ok T st F0 H0 (upd F p o) H n where
  sub := fun x u h => by
    by_cases e : x = p
    · subst e; rw [upd_same] at h; rw [hp]; exact h
    · rw [upd_ne e] at h; exact a.sub x u h
  nt := fun x ps h => by
    by_cases e : x = p
    · subst e; rw [upd_same] at h; exact hn ps (Option.some.inj h)
    · rw [upd_ne e] at h; exact a.nt x ps h
  f0 := fun x u h => by rw [upd_ne (ne_of_none (a.f0 x u h) hf)]; exact a.f0 x u h
  new := fun x u h => by
    by_cases e : x = p
    · rw [e]; exact .inr h0
    · rw [upd_ne e] at h; exact a.new x u h
  keep := a.keep
  strm := fun sp h => by
    obtain ⟨h1, h2⟩ := a.strm sp h
    exact ⟨by rw [upd_ne (fun e => hs (by rw [← e]; exact h))]; exact h1, h2⟩
  tabs := a.tabs
/-- a cell that is not to be read is written -/
theorem Ok.put {T : List (Addr × Str)} {st : Option Addr} {F0 H0 F H : Hp} {n : Nat} (a : Ok T st F0 H0 F H n) {p : Addr} {o u : HO} (hp : H p = some u) (hu : ∀ ps, u ≠ .tbl ps) (hf : F p = none) (h0 : Fr H0 p) (hs : st ≠ some p) (hc : ∀ c q, u ≠ LamX.CodeO c q) : Ok T st F0 H0 F (upd H p o) n where
  sub := fun x v h => by rw [upd_ne (ne_of_none h hf)]; exact a.sub x v h
  nt := a.nt
  f0 := a.f0
  new := a.new
  keep := fun x v h h1 h2 => by rw [upd_ne (h0.ne h h2)]; exact a.keep x v h h1 h2
  strm := fun sp h => by
    obtain ⟨h1, h2⟩ := a.strm sp h
    exact ⟨h1, h2.at (upd_ne (fun e => hs (by rw [← e]; exact h)))⟩
  tabs := fun q hq => by
    obtain ⟨ps, h1, h2, h3⟩ := a.tabs q hq
    have n1 : q.1 ≠ p := fun e => by
      rw [e, hp] at h1
      exact hu ps (Option.some.inj h1)
    refine ⟨ps, by rw [upd_ne n1]; exact h1, h2, fun pos cv hcv => ?_⟩
    obtain ⟨c, e1, e2⟩ := h3 pos cv hcv
    exact ⟨c, e1, by rw [upd_ne (fun e => hc c q.2 (Option.some.inj (hp.symm.trans (by rw [← e]; exact e2))))]; exact e2⟩
theorem Cell.nc {d : D} {o : HO} (c : Cell K F d o) (x : Addr) (q : Str) : o ≠ LamX.CodeO x q := by
  cases c <;> intro z <;> unfold LamX.CodeO at z <;> cases z
end

/-- a slot: not known, a datum to be read, an own cell's content -/
inductive DV where
  | un
  | sh (d : D)
  | ow (o : D)
  | bs (k : Bool) (d : D)
@[reducible, simp] def DV.fz : DV → DV
  | .un => .un
  | .sh d => .sh d
  | .ow o => .sh o
  | .bs k d => .bs k d
structure Z where
  env : List DV
  n : Nat
/-- a pinned own cell's content -/
@[reducible] def D.un : D → D
  | .at _ d => d
  | d => d
theorem Cell.unE {K : PySem.W.Frag} {F : Hp} {d : D} {o : HO} (c : Cell K F d o) : d.un = d := by cases c <;> rfl
theorem Cell.noat {K : PySem.W.Frag} {F : Hp} {d : D} {o : HO} (c : Cell K F d o) (b : Addr) (x : D) : d ≠ .at b x := by cases c <;> intro z <;> cases z
theorem Cell.un {K : PySem.W.Frag} {F : Hp} {d : D} {o : HO} (c : Cell K F d o) : Cell K F d.un o := by rw [c.unE]; exact c
theorem Rep.un {K : PySem.W.Frag} {F : Hp} {d : D} {v : V} (r : Rep K F d v) : Rep K F d.un v := by
  cases r with
  | «at» h => exact h
  | v => exact .v _
  | lst h r => exact .lst h r
  | tup h r => exact .tup h r
  | dic h k r => exact .dic h k r
  | ins h k r => exact .ins h k r
  | lsz h => exact .lsz h
/-- an own cell at a: content o -/
structure Own (K : PySem.W.Frag) (st : Option Addr) (F H0 H : Hp) (a : Addr) (o : D) : Prop where
  ho : ∃ u, H a = some u ∧ Cell K F o.un u
  f : F a = none
  h0 : Fr H0 a
  st : st ≠ some a
  pin : ∀ b d, o = .at b d → a = b
theorem rep_un {K : PySem.W.Frag} {F : Hp} {o : D} {a : Addr} (pin : ∀ b d, o = .at b d → a = b) (r : Rep K F o.un (.ref a)) : Rep K F o (.ref a) := by
  cases o with
  | «at» b d =>
    have e := pin b d rfl
    subst e
    exact .at r
  | _ => exact r
structure Rel (K : PySem.W.Frag) (T : List (Addr × Str)) (st : Option Addr) (F0 H0 F H : Hp) (σ : Sg) (z : Z) : Prop where
  ok : Ok T st F0 H0 F H z.n
  len : σ.length = z.env.length
  sh : ∀ (i : Nat) (d : D), z.env[i]? = some (.sh d) → ∃ v, σ[i]? = some (some v) ∧ Rep K F d v
  ow : ∀ (i : Nat) (o : D), z.env[i]? = some (.ow o) → ∃ a, σ[i]? = some (some (.ref a)) ∧ Own K st F H0 H a o
  apart : ∀ (i j : Nat) (o o' : D) (a : Addr), i ≠ j → z.env[i]? = some (.ow o) → z.env[j]? = some (.ow o') → σ[i]? = some (some (.ref a)) → σ[j]? ≠ some (some (.ref a))
  bs : ∀ (i : Nat) (k : Bool) (d : D), z.env[i]? = some (.bs k d) → ∃ v, σ[i]? = some (some v) ∧ BsR K F0 H0 F k d v
/-- a new cell, no slot's -/
structure Nw (K : PySem.W.Frag) (st : Option Addr) (F H0 H : Hp) (σ : Sg) (z : Z) (a : Addr) (o : D) : Prop where
  own : Own K st F H0 H a o
  ap : ∀ (i : Nat) (o' : D), z.env[i]? = some (.ow o') → σ[i]? ≠ some (some (.ref a))
section
variable {K : PySem.W.Frag} {T : List (Addr × Str)} {st : Option Addr} {F0 H0 F H F' H' : Hp} {σ : Sg} {z : Z} {a p : Addr} {o d : D} {u : HO}
theorem Own.mono (w : Own K st F H0 H a o) (e : Same F F') (hF : F' a = none) (hH : H' a = H a) : Own K st F' H0 H' a o := by
  obtain ⟨⟨u, h1, c⟩, h2, h3, h4, h5⟩ := w
  exact ⟨⟨u, hH.trans h1, c.mono e⟩, hF, h3, h4, h5⟩
/-- behind a call or another step that keeps all that stands here -/
theorem Rel.after {n' : Nat} (r : Rel K T st F0 H0 F H σ z) (e : Ok T st F H F' H' n') : Rel K T st F0 H0 F' H' σ { z with n := n' } where
  ok := r.ok.trans e
  len := r.len
  sh := fun i d h => let ⟨v, h1, h2⟩ := r.sh i d h; ⟨v, h1, h2.mono e.f0⟩
  ow := fun i o h => by
    obtain ⟨a, h1, w⟩ := r.ow i o h
    obtain ⟨u, hu, c⟩ := w.ho
    have hF : F' a = none := by
      cases q : F' a with
      | none => rfl
      | some v =>
        rcases e.new a v q with k | k
        · rw [w.f] at k; cases k
        · exact absurd rfl ((k.ne hu c.nt))
    exact ⟨a, h1, w.mono e.f0 hF ((e.keep a u hu w.st (fun ps => c.nt ps)).trans hu.symm)⟩
  apart := r.apart
  bs := fun i k d h => let ⟨v, h1, h2⟩ := r.bs i k d h; ⟨v, h1, h2.mono e.f0⟩
theorem Nw.after {n' : Nat} (w : Nw K st F H0 H σ z a o) (e : Ok T st F H F' H' n') : Nw K st F' H0 H' σ { z with n := n' } a o := by
  obtain ⟨w, ap⟩ := w
  obtain ⟨u, hu, c⟩ := w.ho
  have hF : F' a = none := by
    cases q : F' a with
    | none => rfl
    | some v =>
      rcases e.new a v q with k | k
      · rw [w.f] at k; cases k
      · exact absurd rfl (k.ne hu c.nt)
  exact ⟨w.mono e.f0 hF ((e.keep a u hu w.st (fun ps => c.nt ps)).trans hu.symm), ap⟩
/-- a new cell laid at p -/
theorem Rel.laid (r : Rel K T st F0 H0 F H σ z) (hp : H p = none) (c : Cell K F o u) : Rel K T st F0 H0 F (upd H p u) σ z ∧ Nw K st F H0 (upd H p u) σ z p o := by
  have e : Ok T st F H F (upd H p u) z.n := r.ok.refl'.laid hp
  have hf : F p = none := Same.none r.ok.sub hp
  have h0 : Fr H0 p := r.ok.dom p hp
  refine ⟨r.after e, ⟨⟨u, upd_same, c.un⟩, hf, h0, fun q => ?_, fun b d e => absurd e (c.noat b d)⟩, fun i o' h h1 => ?_⟩
  · exact (r.ok.strm p q).2.some hp
  · obtain ⟨b, h2, w⟩ := r.ow i o' h
    rw [h2] at h1
    obtain ⟨v, hv, _⟩ := w.ho
    have e2 : b = p := by cases h1; rfl
    rw [e2, hp] at hv
    cases hv
/-- a cell that is to be read -/
theorem Rel.laidF (r : Rel K T st F0 H0 F H σ z) (hp : H p = none) (hn : ∀ ps, u ≠ .tbl ps) : Rel K T st F0 H0 (upd F p u) (upd H p u) σ z ∧ Same F (upd F p u) := by
  have hf : F p = none := Same.none r.ok.sub hp
  have ss : Same F (upd F p u) := fun b v h => by rw [upd_ne (ne_of_none h hf)]; exact h
  have e : Ok T st F H (upd F p u) (upd H p u) z.n := (r.ok.refl'.laid hp).frz upd_same hf (.of hp) (fun q => (r.ok.strm p q).2.some hp) hn
  exact ⟨r.after e, ss⟩
/-- the new cell is to be read from now on -/
theorem Rel.fix (r : Rel K T st F0 H0 F H σ z) (w : Nw K st F H0 H σ z a o) : ∃ F', Same F F' ∧ Rel K T st F0 H0 F' H σ z ∧ Rep K F' o (.ref a) := by
  obtain ⟨⟨⟨u, hu, c⟩, hf, h0, hs, pn⟩, ap⟩ := w
  have ss : Same F (upd F a u) := fun b v h => by rw [upd_ne (ne_of_none h hf)]; exact h
  refine ⟨upd F a u, ss, ⟨r.ok.frz hu hf h0 hs c.nt, r.len, fun i d h => let ⟨v, h1, h2⟩ := r.sh i d h; ⟨v, h1, h2.mono ss⟩, fun i o' h => ?_, r.apart, fun i k d h => let ⟨v, h1, h2⟩ := r.bs i k d h; ⟨v, h1, h2.mono ss⟩⟩, rep_un pn (c.rep upd_same ss)⟩
  obtain ⟨b, h1, w⟩ := r.ow i o' h
  have ne : b ≠ a := fun e => ap i o' h (by rw [h1, e])
  exact ⟨b, h1, w.mono ss (by rw [upd_ne ne]; exact w.f) rfl⟩
theorem set_self {α : Type} {l : List α} {i : Nat} {x : α} (h : i < l.length) : (l.set i x)[i]? = some x := by simp [h]
theorem set_out {α : Type} {l : List α} {i j : Nat} {x : α} (h : j ≠ i) : (l.set i x)[j]? = l[j]? := by
  rw [List.getElem?_set]
  simp [Ne.symm h]
theorem bs_set {P : Bool → D → V → Prop} {σ : Sg} {env : List DV} {i : Nat} {x : DV} (hl : σ.length = env.length) (hx : ∀ q : Bool × D, x = .bs q.1 q.2 → False) (h : ∀ (j : Nat) (k : Bool) (d : D), env[j]? = some (.bs k d) → ∃ v, σ[j]? = some (some v) ∧ P k d v) :
    ∀ (j : Nat) (k : Bool) (d : D), (env.set i x)[j]? = some (.bs k d) → ∃ v, σ[j]? = some (some v) ∧ P k d v := fun j k d hj => by
  by_cases e : j = i
  · subst e
    by_cases hi : j < env.length
    · rw [set_self hi] at hj
      exact (hx (k, d) (Option.some.inj hj)).elim
    · rw [List.getElem?_eq_none (by rw [List.length_set]; omega)] at hj
      cases hj
  · rw [set_out e] at hj
    exact h j k d hj
theorem bs_set2 {P : Bool → D → V → Prop} {σ : Sg} {env : List DV} {i : Nat} {x : DV} {y : Option V} (hl : σ.length = env.length) (hx : ∀ (k : Bool) (d : D), x = .bs k d → False) (h : ∀ (j : Nat) (k : Bool) (d : D), env[j]? = some (.bs k d) → ∃ v, σ[j]? = some (some v) ∧ P k d v) :
    ∀ (j : Nat) (k : Bool) (d : D), (env.set i x)[j]? = some (.bs k d) → ∃ v, (σ.set i y)[j]? = some (some v) ∧ P k d v := fun j k d hj => by
  by_cases e : j = i
  · subst e
    by_cases hi : j < env.length
    · rw [set_self hi] at hj
      exact (hx k d (Option.some.inj hj)).elim
    · rw [List.getElem?_eq_none (by rw [List.length_set]; omega)] at hj
      cases hj
  · rw [set_out e] at hj
    rw [set_out e]
    exact h j k d hj
/-- an own slot is read: its cell is to be read from now on -/
theorem Rel.read (r : Rel K T st F0 H0 F H σ z) {i : Nat} (h : z.env[i]? = some (.ow o)) : ∃ F' a, Same F F' ∧ Rel K T st F0 H0 F' H σ { z with env := z.env.set i (.sh o) } ∧ σ[i]? = some (some (.ref a)) ∧ Rep K F' o (.ref a) := by
  obtain ⟨a, hσ, ⟨u, hu, c⟩, hf, h0, hs, pn⟩ := r.ow i o h
  have ss : Same F (upd F a u) := fun b v h => by rw [upd_ne (ne_of_none h hf)]; exact h
  have hi : i < z.env.length := by
    have := List.getElem?_eq_some_iff.mp h
    exact this.1
  have rp : Rep K (upd F a u) o (.ref a) := rep_un pn (c.rep upd_same ss)
  refine ⟨upd F a u, a, ss, ⟨r.ok.frz hu hf h0 hs c.nt, by rw [List.length_set]; exact r.len, fun j d hj => ?_, fun j o' hj => ?_, fun j k o1 o2 b hjk hj hk h1 h2 => ?_, bs_set r.len (fun v h => nomatch h) fun j k d hj => let ⟨v, h1, h2⟩ := r.bs j k d hj; ⟨v, h1, h2.mono ss⟩⟩, hσ, rp⟩
  · by_cases e : j = i
    · subst e
      have hj' : (z.env.set j (.sh o))[j]? = some (.sh d) := hj
      rw [set_self hi] at hj'
      cases hj'
      exact ⟨_, hσ, rp⟩
    · have hj' : (z.env.set i (.sh o))[j]? = some (.sh d) := hj
      rw [set_out e] at hj'
      obtain ⟨v, h1, h2⟩ := r.sh j d hj'
      exact ⟨v, h1, h2.mono ss⟩
  · have hj' : (z.env.set i (.sh o))[j]? = some (.ow o') := hj
    by_cases e : j = i
    · subst e
      rw [set_self hi] at hj'
      cases hj'
    · rw [set_out e] at hj'
      obtain ⟨b, h1, w⟩ := r.ow j o' hj'
      have ne : b ≠ a := fun q => r.apart i j o o' a (Ne.symm e) h hj' hσ (by rw [h1, q])
      exact ⟨b, h1, w.mono ss (by rw [upd_ne ne]; exact w.f) rfl⟩
  · have hj' : (z.env.set i (.sh o))[j]? = some (.ow o1) := hj
    have hk' : (z.env.set i (.sh o))[k]? = some (.ow o2) := hk
    have ej : j ≠ i := fun q => by
      subst q
      rw [set_self hi] at hj'
      cases hj'
    have ek : k ≠ i := fun q => by
      subst q
      rw [set_self hi] at hk'
      cases hk'
    rw [set_out ej] at hj'
    rw [set_out ek] at hk'
    exact r.apart j k o1 o2 b hjk hj' hk' h1 h2
/-- a slot is set to a datum -/
theorem Rel.setS (r : Rel K T st F0 H0 F H σ z) {i : Nat} {v : V} (rp : Rep K F d v) : Rel K T st F0 H0 F H (σ.set i (some v)) { z with env := z.env.set i (.sh d) } := by
  refine ⟨r.ok, by rw [List.length_set, List.length_set]; exact r.len, fun j d' hj => ?_, fun j o' hj => ?_, fun j k o1 o2 b hjk hj hk h1 => ?_, bs_set2 r.len (fun k d h => nomatch h) r.bs⟩
  · have hj' : (z.env.set i (.sh d))[j]? = some (.sh d') := hj
    by_cases e : j = i
    · subst e
      by_cases hi : j < z.env.length
      · rw [set_self hi] at hj'
        cases hj'
        exact ⟨v, set_self (by rw [r.len]; exact hi), rp⟩
      · rw [List.getElem?_eq_none (by rw [List.length_set]; omega)] at hj'
        cases hj'
    · rw [set_out e] at hj'
      rw [set_out e]
      exact r.sh j d' hj'
  · have hj' : (z.env.set i (.sh d))[j]? = some (.ow o') := hj
    by_cases e : j = i
    · subst e
      by_cases hi : j < z.env.length
      · rw [set_self hi] at hj'
        cases hj'
      · rw [List.getElem?_eq_none (by rw [List.length_set]; omega)] at hj'
        cases hj'
    · rw [set_out e] at hj'
      rw [set_out e]
      exact r.ow j o' hj'
  · have hj' : (z.env.set i (.sh d))[j]? = some (.ow o1) := hj
    have hk' : (z.env.set i (.sh d))[k]? = some (.ow o2) := hk
    have go : ∀ {l : Nat} {o3 : D}, (z.env.set i (.sh d))[l]? = some (.ow o3) → l ≠ i := fun {l o3} hl q => by
      subst q
      by_cases hi : l < z.env.length
      · rw [set_self hi] at hl
        cases hl
      · rw [List.getElem?_eq_none (by rw [List.length_set]; omega)] at hl
        cases hl
    have aj := go hj'
    have ak := go hk'
    rw [set_out aj] at hj' h1
    rw [set_out ak] at hk' ⊢
    exact r.apart j k o1 o2 b hjk hj' hk' h1
/-- a slot is set to a new cell -/
theorem Rel.setN (r : Rel K T st F0 H0 F H σ z) {i : Nat} (w : Nw K st F H0 H σ z a o) : Rel K T st F0 H0 F H (σ.set i (some (.ref a))) { z with env := z.env.set i (.ow o) } := by
  have out : ∀ {l : Nat} {x : DV}, ¬ l < z.env.length → (z.env.set i (.ow o))[l]? = some x → False := fun {l x} hi hl => by
    rw [List.getElem?_eq_none (by rw [List.length_set]; omega)] at hl
    cases hl
  refine ⟨r.ok, by rw [List.length_set, List.length_set]; exact r.len, fun j d' hj => ?_, fun j o' hj => ?_, fun j k o1 o2 b hjk hj hk h1 h2 => ?_, bs_set2 r.len (fun k d h => nomatch h) r.bs⟩
  · have hj' : (z.env.set i (.ow o))[j]? = some (.sh d') := hj
    by_cases e : j = i
    · subst e
      by_cases hi : j < z.env.length
      · rw [set_self hi] at hj'
        cases hj'
      · exact (out hi hj').elim
    · rw [set_out e] at hj'
      rw [set_out e]
      exact r.sh j d' hj'
  · have hj' : (z.env.set i (.ow o))[j]? = some (.ow o') := hj
    by_cases e : j = i
    · subst e
      by_cases hi : j < z.env.length
      · rw [set_self hi] at hj'
        cases hj'
        exact ⟨a, set_self (by rw [r.len]; exact hi), w.own⟩
      · exact (out hi hj').elim
    · rw [set_out e] at hj'
      rw [set_out e]
      exact r.ow j o' hj'
  · have hj' : (z.env.set i (.ow o))[j]? = some (.ow o1) := hj
    have hk' : (z.env.set i (.ow o))[k]? = some (.ow o2) := hk
    by_cases ej : j = i
    · subst ej
      have ek : k ≠ j := Ne.symm hjk
      rw [set_out ek] at hk' h2
      by_cases hi : j < z.env.length
      · rw [set_self (by rw [r.len]; exact hi)] at h1
        cases h1
        exact w.ap k o2 hk' h2
      · exact (out hi hj').elim
    · by_cases ek : k = i
      · subst ek
        rw [set_out ej] at hj' h1
        by_cases hi : k < z.env.length
        · rw [set_self (by rw [r.len]; exact hi)] at h2
          cases h2
          exact w.ap j o1 hj' h1
        · exact (out hi hk').elim
      · rw [set_out ej] at hj' h1
        rw [set_out ek] at hk' h2
        exact r.apart j k o1 o2 b hjk hj' hk' h1 h2
/-- an own slot's cell is written -/
theorem Rel.putA (r : Rel K T st F0 H0 F H σ z) {i : Nat} {o' : D} {u' : HO} (h : z.env[i]? = some (.ow o)) (hσ : σ[i]? = some (some (.ref a))) (c : Cell K F o'.un u') (pn' : ∀ b d, o' = .at b d → a = b) : Rel K T st F0 H0 F (upd H a u') σ { z with env := z.env.set i (.ow o') } := by
  obtain ⟨a', hσ', ⟨u, hu, c0⟩, hf, h0, hs, _⟩ := r.ow i o h
  rw [hσ] at hσ'
  cases hσ'
  have hi : i < z.env.length := (List.getElem?_eq_some_iff.mp h).1
  refine ⟨r.ok.put hu c0.nt hf h0 hs c0.nc, by rw [List.length_set]; exact r.len, fun j d' hj => ?_, fun j o1 hj => ?_, fun j k o1 o2 b hjk hj hk h1 h2 => ?_, bs_set r.len (fun v h => nomatch h) r.bs⟩
  · have hj' : (z.env.set i (.ow o'))[j]? = some (.sh d') := hj
    by_cases e : j = i
    · subst e
      rw [set_self hi] at hj'
      cases hj'
    · rw [set_out e] at hj'
      exact r.sh j d' hj'
  · have hj' : (z.env.set i (.ow o'))[j]? = some (.ow o1) := hj
    by_cases e : j = i
    · subst e
      rw [set_self hi] at hj'
      cases hj'
      exact ⟨a, hσ, ⟨u', upd_same, c⟩, hf, h0, hs, pn'⟩
    · rw [set_out e] at hj'
      obtain ⟨b, h1, w⟩ := r.ow j o1 hj'
      have ne : b ≠ a := fun q => r.apart i j o o1 a (Ne.symm e) h hj' hσ (by rw [h1, q])
      exact ⟨b, h1, w.mono (fun _ _ q => q) w.f (upd_ne ne)⟩
  · have nn : ∀ {l : Nat} {o3 : D}, (z.env.set i (.ow o'))[l]? = some (.ow o3) → ∃ o4, z.env[l]? = some (.ow o4) := fun {l o3} hl => by
      by_cases e : l = i
      · subst e
        exact ⟨o, h⟩
      · rw [set_out e] at hl
        exact ⟨o3, hl⟩
    obtain ⟨o3, h3⟩ := nn (show (z.env.set i (.ow o'))[j]? = some (.ow o1) from hj)
    obtain ⟨o4, h4⟩ := nn (show (z.env.set i (.ow o'))[k]? = some (.ow o2) from hk)
    exact r.apart j k o3 o4 b hjk h3 h4 h1 h2
theorem Rel.put (r : Rel K T st F0 H0 F H σ z) {i : Nat} {o' : D} {u' : HO} (h : z.env[i]? = some (.ow o)) (hσ : σ[i]? = some (some (.ref a))) (c : Cell K F o' u') : Rel K T st F0 H0 F (upd H a u') σ { z with env := z.env.set i (.ow o') } :=
  r.putA h hσ c.un fun b d e => absurd e (c.noat b d)
/-- slots forgotten -/
theorem Rel.forget (r : Rel K T st F0 H0 F H σ z) {σ' : Sg} {env' : List DV} (hl : σ'.length = env'.length) (h : ∀ (i : Nat) (x : DV), env'[i]? = some x → x ≠ .un → z.env[i]? = some x ∧ σ'[i]? = σ[i]?) : Rel K T st F0 H0 F H σ' { z with env := env' } where
  ok := r.ok
  len := hl
  sh := fun i d hi => by
    obtain ⟨h1, h2⟩ := h i _ hi (fun q => by cases q)
    rw [h2]
    exact r.sh i d h1
  ow := fun i o hi => by
    obtain ⟨h1, h2⟩ := h i _ hi (fun q => by cases q)
    rw [h2]
    exact r.ow i o h1
  apart := fun i j o o' a hij hi hj e1 => by
    obtain ⟨h1, h2⟩ := h i _ hi (fun q => by cases q)
    obtain ⟨h3, h4⟩ := h j _ hj (fun q => by cases q)
    rw [h4]
    rw [h2] at e1
    exact r.apart i j o o' a hij h1 h3 e1
  bs := fun i k d hi => by
    obtain ⟨h1, h2⟩ := h i _ hi (fun q => by cases q)
    rw [h2]
    exact r.bs i k d h1
end
end DL
end

section
set_option Elab.async false
set_option linter.all false
set_option maxRecDepth 100000
set_option maxHeartbeats 4000000
/-! DL2: judgements by data, the plain rules. -/
namespace DL
open PySem PySem.Spec PyProof.Rows L2

/-- an error by data -/
structure Ex where
  cls : Addr
  fs : List (Str × D)
inductive Res where
  | sh (d : D)
  | nw (o : D)
  | fr (d : D)
@[reducible, simp] def Res.d : Res → D
  | .sh d => d
  | .nw o => o
  | .fr d => d
abbrev TEX := Ex → Nat → Prop
abbrev TDE := Option Addr → Z → (D → Z → Prop) → TEX → Prop
abbrev TDT := Option Addr → Z → (Bool → Nat → Prop) → TEX → Prop
abbrev TDA := Option Addr → Z → (List D → Z → Prop) → TEX → Prop
structure DEnds where
  nx : Z → Prop
  rt : Res → Nat → Prop
  bk : Z → Prop := fun _ => False
  ct : Z → Prop := fun _ => False
abbrev TDS := Option Addr → DEnds → Z → TEX → Prop

/-- what is wished of errors, by data -/
def ERel (K : PySem.W.Frag) (T : List (Addr × Str)) (st : Option Addr) (F0 H0 : Hp) (E : XK) (EQ : TEX) : Prop :=
  ∀ (ex : Ex) (n : Nat) (F H : Hp) (d : Addr) (es : List (Str × V)), Ok T st F0 H0 F H n → H d = some (.xd es) → Fr H0 d → es.map (·.1) = ex.fs.map (·.1) → Reps K F (ex.fs.map (·.2)) (es.map (·.2)) → EQ ex n → E (.ref ex.cls) (some d) H

structure DE (T : List (Addr × Str)) (X : Cx) (E : XK) (e : Expr) (m : TDE) : Prop where
  ex : ∃ t : TE, PE X e t ∧ ∀ (st : Option Addr) (F0 H0 F H : Hp) (σ : Sg) (z : Z) (Q : D → Z → Prop) (EQ : TEX) (R : VK), Rel X.K T st F0 H0 F H σ z → ERel X.K T st F0 H0 E EQ → m st z Q EQ →
    (∀ v H' F' d z', Same F F' → Rel X.K T st F0 H0 F' H' σ z' → Rep X.K F' d v → Q d z' → R v H') → t σ H R
/-- an expression that makes a new list, a new dict -/
structure DN (T : List (Addr × Str)) (X : Cx) (E : XK) (e : Expr) (m : TDE) : Prop where
  ex : ∃ t : TE, PE X e t ∧ ∀ (st : Option Addr) (F0 H0 F H : Hp) (σ : Sg) (z : Z) (Q : D → Z → Prop) (EQ : TEX) (R : VK), Rel X.K T st F0 H0 F H σ z → ERel X.K T st F0 H0 E EQ → m st z Q EQ →
    (∀ a H' F' o z', Same F F' → Rel X.K T st F0 H0 F' H' σ z' → Nw X.K st F' H0 H' σ z' a o → Q o z' → R (.ref a) H') → t σ H R
/-- a test: nothing of the slots changes -/
structure DT (T : List (Addr × Str)) (X : Cx) (E : XK) (e : Expr) (m : TDT) : Prop where
  ex : ∃ t : TT, PT X e t ∧ ∀ (st : Option Addr) (F0 H0 F H : Hp) (σ : Sg) (z : Z) (Q : Bool → Nat → Prop) (EQ : TEX) (R : Bool → Hp → Prop), Rel X.K T st F0 H0 F H σ z → ERel X.K T st F0 H0 E EQ → m st z Q EQ →
    (∀ b H' n', Rel X.K T st F0 H0 F H' σ { z with n := n' } → Q b n' → R b H') → t σ H R
structure DW (T : List (Addr × Str)) (X : Cx) (E : XK) (e : Expr) (m : TDT) : Prop where
  ex : ∃ t : TT, PW X e t ∧ ∀ (st : Option Addr) (F0 H0 F H : Hp) (σ : Sg) (z : Z) (Q : Bool → Nat → Prop) (EQ : TEX) (R : Bool → Hp → Prop), Rel X.K T st F0 H0 F H σ z → ERel X.K T st F0 H0 E EQ → m st z Q EQ →
    (∀ b H' n', Rel X.K T st F0 H0 F H' σ { z with n := n' } → Q b n' → R b H') → t σ H R
structure DA (T : List (Addr × Str)) (X : Cx) (E : XK) (es : List Expr) (m : TDA) : Prop where
  ex : ∃ t : TA, PA X es t ∧ ∀ (st : Option Addr) (F0 H0 F H : Hp) (σ : Sg) (z : Z) (Q : List D → Z → Prop) (EQ : TEX) (R : List V → Hp → Prop), Rel X.K T st F0 H0 F H σ z → ERel X.K T st F0 H0 E EQ → m st z Q EQ →
    (∀ vs H' F' ds z', Same F F' → Rel X.K T st F0 H0 F' H' σ z' → Reps X.K F' ds vs → Q ds z' → R vs H') → t σ H R
/-- what is returned, by data -/
inductive ResR (K : PySem.W.Frag) (st : Option Addr) (F H0 H : Hp) : V → Res → Prop
  | sh {v : V} {d : D} (r : Rep K F d v) : ResR K st F H0 H v (.sh d)
  | nw {a : Addr} {o : D} (w : Own K st F H0 H a o) : ResR K st F H0 H (.ref a) (.nw o)
  | fr {v : V} {d : D} (r : RepN K F H0 d v) : ResR K st F H0 H v (.fr d)
structure EndsOk (K : PySem.W.Frag) (T : List (Addr × Str)) (st : Option Addr) (F0 H0 F : Hp) (D : DEnds) (D' : Ends) : Prop where
  nx : ∀ σ H' F' z', Same F F' → Rel K T st F0 H0 F' H' σ z' → D.nx z' → D'.nx σ H'
  bk : ∀ σ H' F' z', Same F F' → Rel K T st F0 H0 F' H' σ z' → D.bk z' → D'.bk σ H'
  ct : ∀ σ H' F' z', Same F F' → Rel K T st F0 H0 F' H' σ z' → D.ct z' → D'.ct σ H'
  rt : ∀ v H' F' r n', Same F F' → Ok T st F0 H0 F' H' n' → ResR K st F' H0 H' v r → D.rt r n' → D'.rt v H'
theorem EndsOk.mono {K : PySem.W.Frag} {T : List (Addr × Str)} {st : Option Addr} {F0 H0 F F1 : Hp} {D : DEnds} {D' : Ends} (k : EndsOk K T st F0 H0 F D D') (e : Same F F1) : EndsOk K T st F0 H0 F1 D D' :=
  ⟨fun σ H' F' z' s => k.nx σ H' F' z' (e.trans s), fun σ H' F' z' s => k.bk σ H' F' z' (e.trans s), fun σ H' F' z' s => k.ct σ H' F' z' (e.trans s), fun v H' F' r n' s => k.rt v H' F' r n' (e.trans s)⟩
structure DS (T : List (Addr × Str)) (X : Cx) (E : XK) (s : Stmt) (m : TDS) : Prop where
  ex : ∃ t : TS, PS X s t ∧ ∀ (st : Option Addr) (F0 H0 F H : Hp) (σ : Sg) (z : Z) (D : DEnds) (EQ : TEX) (D' : Ends), Rel X.K T st F0 H0 F H σ z → ERel X.K T st F0 H0 E EQ → m st D z EQ → EndsOk X.K T st F0 H0 F D D' → t D' σ H
structure DB (T : List (Addr × Str)) (X : Cx) (E : XK) (s : List Stmt) (m : TDS) : Prop where
  ex : ∃ t : TS, PSs X s t ∧ ∀ (st : Option Addr) (F0 H0 F H : Hp) (σ : Sg) (z : Z) (D : DEnds) (EQ : TEX) (D' : Ends), Rel X.K T st F0 H0 F H σ z → ERel X.K T st F0 H0 E EQ → m st D z EQ → EndsOk X.K T st F0 H0 F D D' → t D' σ H

section
variable {T : List (Addr × Str)} {X : Cx} {E : XK} {e a b : Expr} {es : List Expr} {pos : Pos} {me ma mb : TDE} {mt mu : TDT} {mas : TDA}
/-! ### names, constants, argument lists -/
@[reducible, simp] def mVar (i : Nat) : TDE := fun _ z Q _ => match z.env[i]? with
  | some (.sh d) => Q d z
  | some (.ow o) => Q o { z with env := z.env.set i (.sh o) }
  | some (.bs _ d) => Q d z
  | _ => False
theorem BsR.rep {K : PySem.W.Frag} {F0 H0 F : Hp} {k : Bool} {d : D} {v : V} (e : Same F0 F) (h : BsR K F0 H0 F k d v) : Rep K F d v := by
  cases k with
  | true => exact Rep.mono e h
  | false => exact RepN.rep h
theorem de_var (i : Nat) {x : Str} (hN : X.N[i]? = some x := by rfl) (hv : Vis X.env.scope x := by first | exact Or.inl rfl | exact Or.inr (Or.inl rfl) | exact Or.inr (Or.inr rfl)) (hd : (x == ("__debug__" : Str)) = false := by decide)
    (hcd : (x == ("__classdict__" : Str)) = false := by decide) : DE T X E (.Name x pos) (mVar i) := by
  refine ⟨⟨_, pe_var hN hv hd hcd, fun st F0 H0 F H σ z Q EQ R r er h k => ?_⟩⟩
  unfold mVar at h
  cases q : z.env[i]? with
  | none => rw [q] at h; exact h.elim
  | some x =>
    rw [q] at h
    cases x with
    | un => exact h.elim
    | sh d =>
      obtain ⟨v, h1, h2⟩ := r.sh i d q
      exact ⟨v, h1, k v H F d z (Same.refl F) r h2 h⟩
    | ow o =>
      obtain ⟨F', a, s1, r1, h1, h2⟩ := r.read q
      exact ⟨.ref a, h1, k _ H F' o _ s1 r1 h2 h⟩
    | bs kk d =>
      obtain ⟨v, h1, h2⟩ := r.bs i kk d q
      exact ⟨v, h1, k v H F d z (Same.refl F) r (h2.rep r.ok.f0) h⟩
@[reducible, simp] def mC (d : D) : TDE := fun _ z Q _ => Q d z
theorem de_c {v : V} (h : PE X e (tC v)) : DE T X E e (mC (.v v)) := ⟨⟨_, h, fun st F0 H0 F H σ z Q EQ R r er h k => k v H F _ z (Same.refl F) r (.v v) h⟩⟩
theorem de_int {i j} : DE T X E (.Constant (.int i) j pos) (mC (.v (.int i))) := de_c pe_int
theorem de_bl {i j} : DE T X E (.Constant (.bool i) j pos) (mC (.v (.bl i))) := de_c pe_bl
theorem de_non {j} : DE T X E (.Constant .none j pos) (mC (.v .non)) := de_c pe_non
theorem de_str {i j} : DE T X E (.Constant (.str i) j pos) (mC (.v (.str i))) := de_c pe_str
@[reducible, simp] def mNil : TDA := fun _ z Q _ => Q [] z
@[reducible, simp] def mCons (me : TDE) (ma : TDA) : TDA := fun st z Q EQ => me st z (fun d z1 => ma st z1 (fun ds z2 => Q (d :: ds) z2) EQ) EQ
theorem da_nil : DA T X E [] mNil := ⟨⟨_, pa_nil, fun st F0 H0 F H σ z Q EQ R r er h k => k [] H F [] z (Same.refl F) r .nil h⟩⟩
theorem da_cons (he : DE T X E e me) (ha : DA T X E es mas) (hs : starEach (e :: es) X.env = (false, eval e X.env) :: starEach es X.env := by rfl) : DA T X E (e :: es) (mCons me mas) := by
  obtain ⟨te, pe, qe⟩ := he.ex
  obtain ⟨ta, pa, qa⟩ := ha.ex
  refine ⟨⟨_, pa_cons pe pa hs, fun st F0 H0 F H σ z Q EQ R r er h k => ?_⟩⟩
  refine qe st F0 H0 F H σ z _ EQ _ r er h fun v H1 F1 d z1 s1 r1 p1 h1 => ?_
  refine qa st F0 H0 F1 H1 σ z1 _ EQ _ r1 er h1 fun vs H2 F2 ds z2 s2 r2 p2 h2 => ?_
  exact k (v :: vs) H2 F2 (d :: ds) z2 (s1.trans s2) r2 (.cons (p1.mono s2) p2) h2
theorem size_ok {n : Nat} (h : n ≤ 1000000) : n ≤ sizeLine := by rw [sizeLine_eq]; omega
theorem size_lt {n : Nat} (h : n < 1000000) : n < sizeLine := by rw [sizeLine_eq]; omega

/-! ### displays -/
@[reducible, simp] def mTup (ma : TDA) : TDE := fun st z Q EQ => ma st z (fun ds z1 => ds.length ≤ 1000000 ∧ Q (.tup ds) z1) EQ
theorem de_tup {k} (ha : DA T X E es mas) : DE T X E (.Tuple es k pos) (mTup mas) := by
  obtain ⟨ta, pa, qa⟩ := ha.ex
  refine ⟨⟨_, pe_tup pa, fun st F0 H0 F H σ z Q EQ R r er h k => ?_⟩⟩
  refine qa st F0 H0 F H σ z _ EQ _ r er h fun vs H1 F1 ds z1 s1 r1 p1 h1 => ⟨size_ok (by rw [← p1.length]; exact h1.1), fun p hp => ?_⟩
  obtain ⟨r2, s2⟩ := r1.laidF (u := .tup vs) hp (fun ps q => by cases q)
  exact k _ _ _ (.tup ds) z1 (s1.trans s2) r2 (.tup (SqT.of upd_same) (p1.mono s2)) h1.2
@[reducible, simp] def mLst (ma : TDA) : TDE := fun st z Q EQ => ma st z (fun ds z1 => ds.length ≤ 1000000 ∧ Q (.lst ds) z1) EQ
theorem dn_lst (ha : DA T X E es mas) : DN T X E (.List es pos) (mLst mas) := by
  obtain ⟨ta, pa, qa⟩ := ha.ex
  refine ⟨⟨_, pe_lst pa, fun st F0 H0 F H σ z Q EQ R r er h k => ?_⟩⟩
  refine qa st F0 H0 F H σ z _ EQ _ r er h fun vs H1 F1 ds z1 s1 r1 p1 h1 => ⟨size_ok (by rw [← p1.length]; exact h1.1), fun p hp => ?_⟩
  obtain ⟨r2, w⟩ := r1.laid hp (Cell.lst p1)
  exact k _ _ _ (.lst ds) z1 s1 r2 w h1.2
theorem dn_dic : DN T X E (.Dict [] [] pos) (mC (.dic [])) := by
  refine ⟨⟨_, pe_dnewK, fun st F0 H0 F H σ z Q EQ R r er h k => ?_⟩⟩
  intro p hp
  obtain ⟨r2, w⟩ := r.laid hp (Cell.dic (K := X.K) (F := F) (kvs := []) (es := []) rfl .nil)
  exact k _ _ _ (.dic []) z (Same.refl F) r2 w h
/-- what is new may be read -/
theorem DN.sh (h : DN T X E e me) : DE T X E e me := by
  obtain ⟨t, p, q⟩ := h.ex
  refine ⟨⟨t, p, fun st F0 H0 F H σ z Q EQ R r er h k => q st F0 H0 F H σ z Q EQ R r er h fun a H1 F1 o z1 s1 r1 w h1 => ?_⟩⟩
  obtain ⟨F2, s2, r2, rp⟩ := r1.fix w
  exact k _ H1 F2 o z1 (s1.trans s2) r2 rp h1

/-! ### operations by data -/
abbrev G2 := D → D → (D → Prop) → Prop
/-- r asks no more than G -/
def P2 (K : PySem.W.Frag) (r : R2) (G : G2) : Prop := ∀ (F H : Hp) (d1 d2 : D) (v1 v2 : V) (Q : D → Prop) (R : VK), Same F H → Rep K F d1 v1 → Rep K F d2 v2 → G d1 d2 Q → (∀ d v, Rep K F d v → Q d → R v H) → r v1 v2 H R
@[reducible, simp] def mOp (G : G2) (ma mb : TDE) : TDE := fun st z Q EQ => ma st z (fun d1 z1 => mb st z1 (fun d2 z2 => G d1 d2 fun d => Q d z2) EQ) EQ
theorem de_opG {e : Expr} {r : R2} {G : G2} (hp : ∀ {ta tb : TE}, PE X a ta → PE X b tb → PE X e (tOp r ta tb)) (hg : P2 X.K r G) (ha : DE T X E a ma) (hb : DE T X E b mb) : DE T X E e (mOp G ma mb) := by
  obtain ⟨ta, pa, qa⟩ := ha.ex
  obtain ⟨tb, pb, qb⟩ := hb.ex
  refine ⟨⟨_, hp pa pb, fun st F0 H0 F H σ z Q EQ R r er h k => ?_⟩⟩
  refine qa st F0 H0 F H σ z _ EQ _ r er h fun v1 H1 F1 d1 z1 s1 r1 p1 h1 => ?_
  refine qb st F0 H0 F1 H1 σ z1 _ EQ _ r1 er h1 fun v2 H2 F2 d2 z2 s2 r2 p2 h2 => ?_
  exact hg F2 H2 d1 d2 v1 v2 _ _ r2.ok.sub (p1.mono s2) p2 h2 fun d v rp q => k v H2 F2 d z2 (s1.trans s2) r2 rp q
theorem de_op {op : Operator} {r : R2} {G : G2} (ho : OpR X (binaryOp op) r) (hg : P2 X.K r G) (ha : DE T X E a ma) (hb : DE T X E b mb) : DE T X E (.BinOp a op b pos) (mOp G ma mb) := de_opG (fun p q => pe_op ho p q) hg ha hb
theorem de_cmp {op : CmpOp} {r : R2} {G : G2} (ho : OpR X (compareOp op) r) (hg : P2 X.K r G) (ha : DE T X E a ma) (hb : DE T X E b mb) (hm : behindInMarks op b = false) : DE T X E (.Compare a [op] [b] pos) (mOp G ma mb) := de_opG (fun p q => pe_cmpR ho p q hm) hg ha hb
theorem de_ix {r : R2} {G : G2} (ho : IxR X r) (hg : P2 X.K r G) (ha : DE T X E a ma) (hb : DE T X E b mb) (hs : PlainIx b := by exact fun _ _ => rfl) : DE T X E (.Subscript a b pos) (mOp G ma mb) := de_opG (fun p q => pe_ix ho p q hs) hg ha hb

/-- whole numbers -/
@[reducible, simp] def gI (C : Int → Int → Prop) (g : Int → Int → V) : G2 := fun d1 d2 Q => ∃ i j, d1 = .v (.int i) ∧ d2 = .v (.int j) ∧ C i j ∧ Q (.v (g i j))
@[reducible, simp] def gI0 (g : Int → Int → V) : G2 := fun d1 d2 Q => ∃ i j, d1 = .v (.int i) ∧ d2 = .v (.int j) ∧ Q (.v (g i j))
theorem p_I {K : PySem.W.Frag} {C : Int → Int → Prop} {g : Int → Int → V} : P2 K (rI C g) (gI C g) := by
  intro F H d1 d2 v1 v2 Q R s r1 r2 h k
  obtain ⟨i, j, rfl, rfl, c, q⟩ := h
  cases r1; cases r2
  exact ⟨i, j, rfl, rfl, c, k _ _ (.v _) q⟩
theorem p_I0 {K : PySem.W.Frag} {g : Int → Int → V} : P2 K (rI0 g) (gI0 g) := by
  intro F H d1 d2 v1 v2 Q R s r1 r2 h k
  obtain ⟨i, j, rfl, rfl, q⟩ := h
  cases r1; cases r2
  exact ⟨i, j, rfl, rfl, k _ _ (.v _) q⟩
/-- scalars -/
@[reducible, simp] def gEq : G2 := fun d1 d2 Q => ∃ x y, d1 = .v x ∧ d2 = .v y ∧ scal x y = true ∧ Q (.v (.bl (decide (x = y))))
@[reducible, simp] def gNe : G2 := fun d1 d2 Q => ∃ x y, d1 = .v x ∧ d2 = .v y ∧ scal x y = true ∧ Q (.v (.bl (!decide (x = y))))
theorem p_eq {K : PySem.W.Frag} : P2 K rEq gEq := by
  intro F H d1 d2 v1 v2 Q R s r1 r2 h k
  obtain ⟨x, y, rfl, rfl, c, q⟩ := h
  cases r1; cases r2
  exact ⟨c, k _ _ (.v _) q⟩
theorem p_ne {K : PySem.W.Frag} : P2 K rNe gNe := by
  intro F H d1 d2 v1 v2 Q R s r1 r2 h k
  obtain ⟨x, y, rfl, rfl, c, q⟩ := h
  cases r1; cases r2
  exact ⟨c, k _ _ (.v _) q⟩
/-- is None: of any datum -/
def isNon : D → Bool
  | .v .non => true
  | _ => false
@[reducible, simp] def gIsN : G2 := fun d1 d2 Q => d2 = .v .non ∧ Q (.v (.bl (isNon d1)))
@[reducible, simp] def gNotN : G2 := fun d1 d2 Q => d2 = .v .non ∧ Q (.v (.bl (!isNon d1)))
theorem isNon_ok {K : PySem.W.Frag} {F : Hp} {d : D} {v : V} (r : Rep K F d v) : decide (v = .non) = isNon d := by
  cases r with
  | v => cases v <;> first | rfl | exact decide_eq_false (fun q => by cases q)
  | _ => exact decide_eq_false (fun q => by cases q)
theorem p_isN {K : PySem.W.Frag} : P2 K (fun x y H Q => y = .non ∧ Q (.bl (decide (x = .non))) H) gIsN := by
  intro F H d1 d2 v1 v2 Q R s r1 r2 h k
  obtain ⟨rfl, q⟩ := h
  cases r2
  exact ⟨rfl, k _ _ (by rw [isNon_ok r1]; exact .v _) q⟩
theorem p_notN {K : PySem.W.Frag} : P2 K (fun x y H Q => y = .non ∧ Q (.bl (!decide (x = .non))) H) gNotN := by
  intro F H d1 d2 v1 v2 Q R s r1 r2 h k
  obtain ⟨rfl, q⟩ := h
  cases r2
  exact ⟨rfl, k _ _ (by rw [isNon_ok r1]; exact .v _) q⟩
/-- an item of a list, of a tuple -/
@[reducible, simp] def gIxL : G2 := fun d1 d2 Q => ∃ ds i d, d1 = .lst ds ∧ d2 = .v (.int i) ∧ atI ds i = some d ∧ Q d
@[reducible, simp] def gIxT : G2 := fun d1 d2 Q => ∃ ds i d, d1 = .tup ds ∧ d2 = .v (.int i) ∧ atI ds i = some d ∧ Q d
theorem Reps.atI {K : PySem.W.Frag} {F : Hp} {ds : List D} {xs : List V} {i : Int} {d : D} (r : Reps K F ds xs) (h : L2.atI ds i = some d) : ∃ x, L2.atI xs i = some x ∧ Rep K F d x := by
  unfold L2.atI at h ⊢
  rw [r.length] at h
  cases q : ixN xs.length i with
  | none => rw [q] at h; cases h
  | some j =>
    rw [q] at h
    obtain ⟨x, h1, h2⟩ := r.get (i := j) (d := d) h
    exact ⟨x, h1, h2⟩
theorem p_ixL {K : PySem.W.Frag} : P2 K (rIxL K) gIxL := by
  intro F H d1 d2 v1 v2 Q R s r1 r2 h k
  obtain ⟨ds, i, d, rfl, rfl, c, q⟩ := h
  cases r2
  cases r1 with
  | lst hf r =>
    obtain ⟨x, h1, h2⟩ := r.atI c
    exact ⟨_, _, _, _, rfl, rfl, SqL.of (s _ _ hf), h1, k _ _ h2 q⟩
theorem p_ixT {K : PySem.W.Frag} : P2 K (rIxT K) gIxT := by
  intro F H d1 d2 v1 v2 Q R s r1 r2 h k
  obtain ⟨ds, i, d, rfl, rfl, c, q⟩ := h
  cases r2
  cases r1 with
  | tup hf r =>
    obtain ⟨x, h1, h2⟩ := r.atI c
    exact ⟨_, _, _, _, rfl, rfl, SqT.same s hf, h1, k _ _ h2 q⟩
/-- a sign of a text -/
@[reducible, simp] def gIxS : G2 := fun d1 d2 Q => ∃ (w : Str) (i : Int) (c : Nat), d1 = .v (.str w) ∧ d2 = .v (.int i) ∧ w.length ≤ 1000000 ∧ atI w.cps.toList i = some c ∧ Q (.v (.str ⟨#[c]⟩))
theorem p_ixS {K : PySem.W.Frag} : P2 K rIxS gIxS := by
  intro F H d1 d2 v1 v2 Q R s r1 r2 h k
  obtain ⟨w, i, c, rfl, rfl, hl, hc, q⟩ := h
  cases r1; cases r2
  exact ⟨w, i, c, rfl, rfl, size_ok hl, hc, k _ _ (.v _) q⟩

/-! ### tests -/
theorem set_snoc {α : Type} (l : List α) (x y : α) (r : List α) (k : Nat) (h : l.length = k) : (l ++ x :: r).set k y = l ++ y :: r := by
  subst h
  simp
theorem set_same {α : Type} {l : List α} {k : Nat} {x : α} (h : l[k]? = some x) : l.set k x = l := by
  apply List.ext_getElem?
  intro j
  rw [List.getElem?_set]
  by_cases e : k = j
  · subst e
    rw [if_pos rfl, h, if_pos (List.getElem?_eq_some_iff.mp h).1]
  · rw [if_neg e]
theorem Rel.frz {K : PySem.W.Frag} {st : Option Addr} {F0 H0 F H : Hp} {σ : Sg} {z : Z} (r : Rel K T st F0 H0 F H σ z) : ∃ F', Same F F' ∧ Rel K T st F0 H0 F' H σ { z with env := z.env.map DV.fz } := by
  have key : ∀ k, k ≤ z.env.length → ∃ F', Same F F' ∧ Rel K T st F0 H0 F' H σ { z with env := (z.env.take k).map DV.fz ++ z.env.drop k } := by
    intro k
    induction k with
    | zero => intro _; exact ⟨F, Same.refl F, by simpa using r⟩
    | succ k ih =>
      intro hk
      obtain ⟨F1, s1, r1⟩ := ih (by omega)
      have hx : z.env[k]? = some z.env[k] := by simp [show k < z.env.length by omega]
      have at_k : ((z.env.take k).map DV.fz ++ z.env.drop k)[k]? = some z.env[k] := by
        rw [List.getElem?_append_right (by simp; omega)]
        simp [show min k z.env.length = k by omega, hx]
      have step : (z.env.take (k + 1)).map DV.fz ++ z.env.drop (k + 1) = ((z.env.take k).map DV.fz ++ z.env.drop k).set k z.env[k].fz := by
        have e1 : z.env.drop k = z.env[k] :: z.env.drop (k + 1) := List.drop_eq_getElem_cons (by omega)
        have e2 : z.env.take (k + 1) = z.env.take k ++ [z.env[k]] := by rw [List.take_succ, hx]; rfl
        rw [e2, e1, List.map_append, set_snoc _ _ _ _ k (by simp; omega), List.append_assoc]
        rfl
      rw [step]
      cases q : z.env[k] with
      | un =>
        refine ⟨F1, s1, ?_⟩
        have : ((z.env.take k).map DV.fz ++ z.env.drop k).set k DV.un.fz = (z.env.take k).map DV.fz ++ z.env.drop k := by
          rw [show DV.un.fz = z.env[k] from q.symm]
          exact set_same at_k
        rw [this]
        exact r1
      | sh d =>
        refine ⟨F1, s1, ?_⟩
        have : ((z.env.take k).map DV.fz ++ z.env.drop k).set k (DV.sh d).fz = (z.env.take k).map DV.fz ++ z.env.drop k := by
          rw [show (DV.sh d).fz = z.env[k] from q.symm]
          exact set_same at_k
        rw [this]
        exact r1
      | ow o =>
        rw [q] at at_k
        obtain ⟨F2, a, s2, r2, _, _⟩ := r1.read at_k
        exact ⟨F2, s1.trans s2, r2⟩
      | bs kk d =>
        refine ⟨F1, s1, ?_⟩
        have : ((z.env.take k).map DV.fz ++ z.env.drop k).set k (DV.bs kk d).fz = (z.env.take k).map DV.fz ++ z.env.drop k := by
          rw [show (DV.bs kk d).fz = z.env[k] from q.symm]
          exact set_same at_k
        rw [this]
        exact r1
  have h := key z.env.length (Nat.le_refl _)
  simpa using h
/-- behind a look with all cells to be read: the slots as they were -/
theorem Rel.back {K : PySem.W.Frag} {st : Option Addr} {F0 H0 F F1 F' H H' : Hp} {σ : Sg} {z z' z1 : Z} (r : Rel K T st F0 H0 F H σ z) (s1 : Same F F1) (rf : Rel K T st F0 H0 F1 H σ z1) (hz : z1.env = z.env.map DV.fz) (s : Same F1 F') (r' : Rel K T st F0 H0 F' H' σ z') : Rel K T st F0 H0 F H' σ { z with n := z'.n } where
  ok := {
    sub := fun a o h => r'.ok.sub a o (s a o (s1 a o h))
    nt := r.ok.nt
    f0 := r.ok.f0
    new := r.ok.new
    keep := r'.ok.keep
    strm := fun sp h => ⟨(r.ok.strm sp h).1, (r'.ok.strm sp h).2⟩
    tabs := r'.ok.tabs }
  len := r.len
  sh := r.sh
  ow := fun i o h => by
    obtain ⟨a, hσ, ⟨u, hu, c⟩, hf, h0, hs, pn⟩ := r.ow i o h
    refine ⟨a, hσ, ⟨u, ?_, c⟩, hf, h0, hs, pn⟩
    obtain ⟨v, e1, e2⟩ := rf.sh i o (by rw [hz, List.getElem?_map, h]; rfl)
    rw [hσ] at e1
    cases e1
    have fin : ∀ w, F1 a = some w → H' a = some u := fun w hw => by
      have k1 := rf.ok.sub a w hw
      rw [hu] at k1
      cases k1
      exact r'.ok.sub a u (s a u hw)
    have e3 := e2.un
    generalize o.un = o2 at c e3
    cases c with
    | lst _ => cases e3 with | lst hw _ => exact fin _ hw
    | dic _ _ => cases e3 with | dic hw _ _ => exact fin _ hw
    | ins _ _ => cases e3 with | ins hw _ _ => exact fin _ hw
  apart := r.apart
  bs := r.bs
@[reducible, simp] def Z.fz (z : Z) : Z := { z with env := z.env.map DV.fz }
/-- an expression that gives True or False, as a test: what is own may be read meanwhile -/
@[reducible, simp] def tBool (me : TDE) : TDT := fun st z Q EQ => me st z.fz (fun d z' => ∃ b, d = .v (.bl b) ∧ Q b z'.n) EQ
theorem dt_of {t' : TE → TT} (hp : ∀ {t : TE}, PE X e t → PT X e (t' t)) (ht : ∀ (t : TE) (σ : Sg) (H : Hp) (R : Bool → Hp → Prop), t σ H (fun x H' => ∃ k, x = .bl k ∧ R k H') → t' t σ H R) (he : DE T X E e me) : DT T X E e (tBool me) := by
  obtain ⟨t, p, q⟩ := he.ex
  refine ⟨⟨_, hp p, fun st F0 H0 F H σ z Q EQ R r er h k => ?_⟩⟩
  obtain ⟨F1, s1, r1⟩ := r.frz
  refine ht t σ H R (q st F0 H0 F1 H σ _ _ EQ _ r1 er h fun v H2 F2 d z2 s2 r2 rp h2 => ?_)
  obtain ⟨b, rfl, h3⟩ := h2
  cases rp
  exact ⟨b, rfl, k b H2 z2.n (r.back s1 r1 rfl s2 r2) h3⟩
theorem dt_val (he : DE T X E e me) (hw : ∀ whole, isTrue e X.env whole = (do let v ← whole; standAt e.pos; holding [v] (truthy v)) := by intro _; rfl) : DT T X E e (tBool me) :=
  dt_of (t' := tB) (fun p => pt_val p hw) (fun t σ H R h => h) he
theorem dt_cmp {op : CmpOp} {r : R2} {G : G2} (ho : OpR X (compareOp op) r) (hg : P2 X.K r G) (ha : DE T X E a ma) (hb : DE T X E b mb) (hm : behindInMarks op b = false) : DT T X E (.Compare a [op] [b] pos) (tBool (mOp G ma mb)) := by
  obtain ⟨ta, pa, qa⟩ := ha.ex
  obtain ⟨tb, pb, qb⟩ := hb.ex
  refine ⟨⟨_, pt_cmpR ho pa pb hm, fun st F0 H0 F H σ z Q EQ R r er h k => ?_⟩⟩
  obtain ⟨F1, s1, r1⟩ := r.frz
  refine qa st F0 H0 F1 H σ _ _ EQ _ r1 er h fun v1 H1 F2 d1 z1 s2 r2 p1 h1 => ?_
  refine qb st F0 H0 F2 H1 σ z1 _ EQ _ r2 er h1 fun v2 H2 F3 d2 z2 s3 r3 p2 h2 => ?_
  refine hg F3 H2 d1 d2 v1 v2 _ _ r3.ok.sub (p1.mono s3) p2 h2 fun d v rp q => ?_
  obtain ⟨b, rfl, h3⟩ := q
  cases rp
  exact ⟨b, rfl, k b H2 z2.n (r.back s1 r1 rfl (s2.trans s3) r3) h3⟩
@[reducible, simp] def tAnd' (mt mu : TDT) : TDT := fun st z Q EQ => mt st z (fun b n => (b = true → mu st { z with n := n } Q EQ) ∧ (b = false → Q false n)) EQ
@[reducible, simp] def tOr' (mt mu : TDT) : TDT := fun st z Q EQ => mt st z (fun b n => (b = true → Q true n) ∧ (b = false → mu st { z with n := n } Q EQ)) EQ
@[reducible, simp] def tNot' (mt : TDT) : TDT := fun st z Q EQ => mt st z (fun b n => Q (!b) n) EQ
theorem dt_not (h : DT T X E e mt) : DT T X E (.UnaryOp .Not e pos) (tNot' mt) := by
  obtain ⟨t, p, q⟩ := h.ex
  exact ⟨⟨_, pt_not p, fun st F0 H0 F H σ z Q EQ R r er h k => q st F0 H0 F H σ z _ EQ _ r er h fun b H' n' r' h' => k _ H' n' r' h'⟩⟩
theorem dw_and1 (h : DT T X E e mt) : DW T X E (.BoolOp .And [e] pos) mt := by
  obtain ⟨t, p, q⟩ := h.ex
  exact ⟨⟨_, pw_and1 p, q⟩⟩
theorem dw_or1 (h : DT T X E e mt) : DW T X E (.BoolOp .Or [e] pos) mt := by
  obtain ⟨t, p, q⟩ := h.ex
  exact ⟨⟨_, pw_or1 p, q⟩⟩
theorem dw_and {rest : List Expr} (h : DT T X E a mt) (h2 : DW T X E (.BoolOp .And (b :: rest) pos) mu) : DW T X E (.BoolOp .And (a :: b :: rest) pos) (tAnd' mt mu) := by
  obtain ⟨t, p, q⟩ := h.ex
  obtain ⟨u, p2, q2⟩ := h2.ex
  refine ⟨⟨_, pw_and p p2, fun st F0 H0 F H σ z Q EQ R r er h k => q st F0 H0 F H σ z _ EQ _ r er h fun b H' n' r' h' => ?_⟩⟩
  cases b with
  | true => exact iteT (q2 st F0 H0 F H' σ _ Q EQ R r' er (h'.1 rfl) k)
  | false => exact iteF (k false H' n' r' (h'.2 rfl))
theorem dw_or {rest : List Expr} (h : DT T X E a mt) (h2 : DW T X E (.BoolOp .Or (b :: rest) pos) mu) : DW T X E (.BoolOp .Or (a :: b :: rest) pos) (tOr' mt mu) := by
  obtain ⟨t, p, q⟩ := h.ex
  obtain ⟨u, p2, q2⟩ := h2.ex
  refine ⟨⟨_, pw_or p p2, fun st F0 H0 F H σ z Q EQ R r er h k => q st F0 H0 F H σ z _ EQ _ r er h fun b H' n' r' h' => ?_⟩⟩
  cases b with
  | true => exact iteT (k true H' n' r' (h'.1 rfl))
  | false => exact iteF (q2 st F0 H0 F H' σ _ Q EQ R r' er (h'.2 rfl) k)
theorem DW.t (h : DW T X E e mt) : DT T X E e mt := by
  obtain ⟨t, p, q⟩ := h.ex
  exact ⟨⟨t, p.pt, q⟩⟩
/-- and, or, not as values -/
@[reducible, simp] def mAnd (ma mb : TDE) : TDE := fun st z Q EQ => ma st z (fun d z1 => ∃ c, d = .v (.bl c) ∧ (c = true → mb st z1 Q EQ) ∧ (c = false → Q (.v (.bl false)) z1)) EQ
@[reducible, simp] def mOr (ma mb : TDE) : TDE := fun st z Q EQ => ma st z (fun d z1 => ∃ c, d = .v (.bl c) ∧ (c = true → Q (.v (.bl true)) z1) ∧ (c = false → mb st z1 Q EQ)) EQ
@[reducible, simp] def mNot (ma : TDE) : TDE := fun st z Q EQ => ma st z (fun d z1 => ∃ c, d = .v (.bl c) ∧ Q (.v (.bl (!c))) z1) EQ
theorem de_one {op} (h : DE T X E a ma) : DE T X E (.BoolOp op [a] pos) ma := by
  obtain ⟨t, p, q⟩ := h.ex
  exact ⟨⟨_, pe_one p, q⟩⟩
theorem de_and {rest : List Expr} (h : DE T X E a ma) (h2 : DE T X E (.BoolOp .And (b :: rest) pos) mb) : DE T X E (.BoolOp .And (a :: b :: rest) pos) (mAnd ma mb) := by
  obtain ⟨t, p, q⟩ := h.ex
  obtain ⟨u, p2, q2⟩ := h2.ex
  refine ⟨⟨_, pe_and p p2, fun st F0 H0 F H σ z Q EQ R r er h k => q st F0 H0 F H σ z _ EQ _ r er h fun v H1 F1 d z1 s1 r1 rp h1 => ?_⟩⟩
  obtain ⟨c, rfl, ht, hf⟩ := h1
  cases rp
  refine ⟨c, rfl, ?_⟩
  cases c with
  | true => exact iteT (q2 st F0 H0 F1 H1 σ z1 Q EQ R r1 er (ht rfl) fun v H' F' d z' s' => k v H' F' d z' (s1.trans s'))
  | false => exact iteF (k _ H1 F1 _ z1 s1 r1 (.v _) (hf rfl))
theorem de_or {rest : List Expr} (h : DE T X E a ma) (h2 : DE T X E (.BoolOp .Or (b :: rest) pos) mb) : DE T X E (.BoolOp .Or (a :: b :: rest) pos) (mOr ma mb) := by
  obtain ⟨t, p, q⟩ := h.ex
  obtain ⟨u, p2, q2⟩ := h2.ex
  refine ⟨⟨_, pe_or p p2, fun st F0 H0 F H σ z Q EQ R r er h k => q st F0 H0 F H σ z _ EQ _ r er h fun v H1 F1 d z1 s1 r1 rp h1 => ?_⟩⟩
  obtain ⟨c, rfl, ht, hf⟩ := h1
  cases rp
  refine ⟨c, rfl, ?_⟩
  cases c with
  | true => exact iteT (k _ H1 F1 _ z1 s1 r1 (.v _) (ht rfl))
  | false => exact iteF (q2 st F0 H0 F1 H1 σ z1 Q EQ R r1 er (hf rfl) fun v H' F' d z' s' => k v H' F' d z' (s1.trans s'))
theorem de_not (h : DE T X E a ma) : DE T X E (.UnaryOp .Not a pos) (mNot ma) := by
  obtain ⟨t, p, q⟩ := h.ex
  refine ⟨⟨_, pe_not p, fun st F0 H0 F H σ z Q EQ R r er h k => q st F0 H0 F H σ z _ EQ _ r er h fun v H1 F1 d z1 s1 r1 rp h1 => ?_⟩⟩
  obtain ⟨c, rfl, h2⟩ := h1
  cases rp
  exact ⟨c, rfl, k _ H1 F1 _ z1 s1 r1 (.v _) h2⟩
/-- a if t else b -/
@[reducible, simp] def mIf (mt : TDT) (ma mb : TDE) : TDE := fun st z Q EQ => mt st z (fun c n => (c = true → ma st { z with n := n } Q EQ) ∧ (c = false → mb st { z with n := n } Q EQ)) EQ
theorem de_if {c : Expr} (hc : DT T X E c mt) (ha : DE T X E a ma) (hb : DE T X E b mb) : DE T X E (.IfExp c a b pos) (mIf mt ma mb) := by
  obtain ⟨t, p, q⟩ := hc.ex
  obtain ⟨ta, pa, qa⟩ := ha.ex
  obtain ⟨tb, pb, qb⟩ := hb.ex
  refine ⟨⟨_, pe_ifExp p pa pb, fun st F0 H0 F H σ z Q EQ R r er h k => q st F0 H0 F H σ z _ EQ _ r er h fun b H' n' r' h' => ?_⟩⟩
  cases b with
  | true => exact iteT (qa st F0 H0 F H' σ _ Q EQ R r' er (h'.1 rfl) k)
  | false => exact iteF (qb st F0 H0 F H' σ _ Q EQ R r' er (h'.2 rfl) k)
theorem dn_if {c : Expr} (hc : DT T X E c mt) (ha : DN T X E a ma) (hb : DN T X E b mb) : DN T X E (.IfExp c a b pos) (mIf mt ma mb) := by
  obtain ⟨t, p, q⟩ := hc.ex
  obtain ⟨ta, pa, qa⟩ := ha.ex
  obtain ⟨tb, pb, qb⟩ := hb.ex
  refine ⟨⟨_, pe_ifExp p pa pb, fun st F0 H0 F H σ z Q EQ R r er h k => q st F0 H0 F H σ z _ EQ _ r er h fun b H' n' r' h' => ?_⟩⟩
  cases b with
  | true => exact iteT (qa st F0 H0 F H' σ _ Q EQ R r' er (h'.1 rfl) k)
  | false => exact iteF (qb st F0 H0 F H' σ _ Q EQ R r' er (h'.2 rfl) k)
end
end DL
end

section
set_option Elab.async false
set_option linter.all false
set_option maxRecDepth 100000
set_option maxHeartbeats 4000000
/-! DL3: defs by data, calls, statements. -/
namespace DL
open PySem PySem.Spec PyProof.Rows L2

abbrev DSpec := Option Addr → Nat → List D → (Res → Nat → Prop) → TEX → Prop
/-- a promise by data as a promise of the layer -/
def toSp (K : PySem.W.Frag) (T : List (Addr × Str)) (sp : DSpec) : Sp := fun vs H Q E =>
  ∃ (F : Hp) (st : Option Addr) (n : Nat) (ds : List D) (Qd : Res → Nat → Prop) (EQ : TEX), Ok T st F H F H n ∧ Reps K F ds vs ∧ sp st n ds Qd EQ ∧
    (∀ v H' F' r n', Ok T st F H F' H' n' → ResR K st F' H H' v r → Qd r n' → Q v H') ∧ ERel K T st F H E EQ
theorem Rel.own_ne {K : PySem.W.Frag} {T : List (Addr × Str)} {st : Option Addr} {F0 H0 F H : Hp} {σ : Sg} {z : Z} (r : Rel K T st F0 H0 F H σ z) {a : Addr} (h : Fr H a) : ∀ (i : Nat) (o' : D), z.env[i]? = some (.ow o') → σ[i]? ≠ some (some (.ref a)) := fun i o' hi e => by
  obtain ⟨b, h1, w⟩ := r.ow i o' hi
  obtain ⟨u, hu, c⟩ := w.ho
  rw [h1] at e
  have e2 : b = a := by cases e; rfl
  exact h.ne hu c.nt e2
theorem ERel.after {K : PySem.W.Frag} {T : List (Addr × Str)} {st : Option Addr} {F0 H0 F H : Hp} {n : Nat} {E : XK} {EQ : TEX} (er : ERel K T st F0 H0 E EQ) (o : Ok T st F0 H0 F H n) : ERel K T st F H E EQ :=
  fun ex n' F' H' d es ok h1 h2 h3 h4 h5 => er ex n' F' H' d es (o.trans ok) h1 (o.fr h2) h3 h4 h5
/-- a new result of a callee -/
theorem Nw.of_own {K : PySem.W.Frag} {T : List (Addr × Str)} {st : Option Addr} {F0 H0 F H F' H' : Hp} {σ : Sg} {z : Z} {n' : Nat} {a : Addr} {o : D} (r : Rel K T st F0 H0 F H σ z) (w : Own K st F' H H' a o) : Nw K st F' H0 H' σ { z with n := n' } a o :=
  ⟨⟨w.ho, w.f, r.ok.fr w.h0, w.st, w.pin⟩, r.own_ne w.h0⟩

/-- a def of the module, by its name and promise -/
structure Fn (P : Program) (w : World) (K : PySem.W.Frag) (T : List (Addr × Str)) (mg : Str → Option Value) (base : Heap) (k : Nat) (x : Str) (ps : List Str) (sp : DSpec) : Prop where
  ex : ∃ (f : Addr) (fd : FuncData), FnOk P w K mg base (L2.CX P w) k f fd ps (toSp K T sp) ∧ mg x = some (.ref f) ∧ PySem.W.keepIn K (.ref f) = true ∧ Binds K fd ps [] ∧
    (∃ (params : Arguments) (body : List Stmt) (scope : Scope) (kV doc pm : Value) (an : Option Addr) (cdv ct : Value), fd = PySem.W.fnOf x x params body scope .none kV doc pm an cdv ct) ∧ ∃ (oc : Value) (od : Option Addr) (osl : Array (Option Value)), K.lookup f = some ⟨oc, od, .func fd, osl⟩
section
variable {P : Program} {w : World} {K : PySem.W.Frag} {T : List (Addr × Str)} {mg : Str → Option Value} {base : Heap}
theorem rel_start {st : Option Addr} {F H : Hp} {n : Nat} {ds : List D} {vs : List V} {N : List Str} (ok : Ok T st F H F H n) (r : Reps K F ds vs) : Rel K T st F H F H (L2.start N vs) ⟨ds.map DV.sh ++ List.replicate (N.length - ds.length) .un, n⟩ where
  ok := ok
  len := by simp [L2.start, r.length]
  sh := fun i d h => by
    have h : (ds.map DV.sh ++ List.replicate (N.length - ds.length) .un)[i]? = some (.sh d) := h
    by_cases hi : i < ds.length
    · rw [List.getElem?_append_left (by simpa using hi), List.getElem?_map] at h
      cases q : ds[i]? with
      | none => rw [q] at h; cases h
      | some d' =>
        rw [q] at h
        cases h
        obtain ⟨x, h1, h2⟩ := r.get q
        refine ⟨x, ?_, h2⟩
        unfold L2.start
        rw [List.getElem?_append_left (by simp [← r.length, hi]), List.getElem?_map, h1]
        rfl
    · rw [List.getElem?_append_right (by simpa using Nat.le_of_not_lt hi)] at h
      rw [List.getElem?_replicate] at h
      split at h <;> cases h
  ow := fun i o h => by
    have h : (ds.map DV.sh ++ List.replicate (N.length - ds.length) .un)[i]? = some (.ow o) := h
    by_cases hi : i < ds.length
    · rw [List.getElem?_append_left (by simpa using hi), List.getElem?_map] at h
      cases q : ds[i]? with
      | none => rw [q] at h; cases h
      | some d' => rw [q] at h; cases h
    · rw [List.getElem?_append_right (by simpa using Nat.le_of_not_lt hi)] at h
      rw [List.getElem?_replicate] at h
      split at h <;> cases h
  apart := fun i j o o' a hij h => by
    have h : (ds.map DV.sh ++ List.replicate (N.length - ds.length) .un)[i]? = some (.ow o) := h
    by_cases hi : i < ds.length
    · rw [List.getElem?_append_left (by simpa using hi), List.getElem?_map] at h
      cases q : ds[i]? with
      | none => rw [q] at h; cases h
      | some d' => rw [q] at h; cases h
    · rw [List.getElem?_append_right (by simpa using Nat.le_of_not_lt hi)] at h
      rw [List.getElem?_replicate] at h
      split at h <;> cases h
  bs := fun i k d h => by
    have h : (ds.map DV.sh ++ List.replicate (N.length - ds.length) .un)[i]? = some (.bs k d) := h
    by_cases hi : i < ds.length
    · rw [List.getElem?_append_left (by simpa using hi), List.getElem?_map] at h
      cases q : ds[i]? with
      | none => rw [q] at h; cases h
      | some d' => rw [q] at h; cases h
    · rw [List.getElem?_append_right (by simpa using Nat.le_of_not_lt hi)] at h
      rw [List.getElem?_replicate] at h
      split at h <;> cases h
/-- THE RULE of a def -/
theorem fn_ok {x qual : Str} {st : Stmt} {f : Addr} {fd : FuncData} {N ps : List Str} {k : Nat} {sp : DSpec} {m : TDS} (F : Fun K x qual st f fd) (S : FnScope N ps (defScope st)) (len : ∀ s n ds Q EQ, sp s n ds Q EQ → ds.length = ps.length)
    (hbody : ∀ (cdv : Value) (A : Around) (outer : List Env) (s : Shared) (H : Hp) (E : XK), Room k (A.deeper (envOfC qual (defScope st) s.heap.objs.size f cdv)) → DB T (cxOf (L2.CX P w) P w K mg base N qual (defScope st) f cdv A outer s H E) E (defBody st) m)
    (hsp : ∀ s n ds Q EQ, sp s n ds Q EQ → m s { nx := fun z => Q (.sh (.v .non)) z.n, rt := Q } ⟨ds.map DV.sh ++ List.replicate (N.length - ds.length) .un, n⟩ EQ) :
    FnOk P w K mg base (L2.CX P w) (k + 1) f fd ps (toSp K T sp) := by
  refine F.okX S (fun vs H Q E h => ?_) fun cdv A outer s H vs Q E hr h => ?_
  · obtain ⟨F', st', n, ds, Qd, EQ, ok, r, h1, h2⟩ := h
    rw [← r.length]
    exact len _ _ _ _ _ h1
  · obtain ⟨F', st', n, ds, Qd, EQ, ok, r, h1, h2, h3⟩ := h
    obtain ⟨t, pt, qt⟩ := (hbody cdv A outer s H E hr).ex
    refine ⟨t, pt, qt st' F' H F' H _ _ _ EQ _ (rel_start ok r) h3 (hsp st' n ds Qd EQ h1) ⟨fun σ H1 F1 z1 s1 r1 q => h2 .non H1 F1 (.sh (.v .non)) z1.n r1.ok (.sh (.v _)) q, fun _ _ _ _ _ _ q => q.elim, fun _ _ _ _ _ _ q => q.elim, fun v H1 F1 rr n1 s1 ok1 rr1 q => h2 v H1 F1 rr n1 ok1 rr1 q⟩⟩
end

section
variable {T : List (Addr × Str)} {X : Cx} {E : XK} {e a b : Expr} {es : List Expr} {pos p : Pos} {me ma mb : TDE} {mt mu : TDT} {mas : TDA} {k j : Nat} {x : Str} {ps : List Str} {sp : DSpec}
/-! ### calls of defs -/
@[reducible, simp] def mCall (sp : DSpec) (ma : TDA) : TDE := fun st z Q EQ => ma st z (fun ds z1 => sp st z1.n ds (fun r n' => Q r.d { z1 with n := n' }) EQ) EQ
@[reducible, simp] def mCallN (sp : DSpec) (ma : TDA) : TDE := fun st z Q EQ => ma st z (fun ds z1 => sp st z1.n ds (fun r n' => ∃ o, r = .nw o ∧ Q o { z1 with n := n' }) EQ) EQ
theorem call_sp {st : Option Addr} {F0 H0 F H : Hp} {σ : Sg} {z : Z} {ds : List D} {vs : List V} {Qd : Res → Nat → Prop} {EQ : TEX} {R : VK} (r : Rel X.K T st F0 H0 F H σ z) (er : ERel X.K T st F0 H0 E EQ) (rp : Reps X.K F ds vs) (h : sp st z.n ds Qd EQ)
    (k : ∀ v H' F' rr n', Ok T st F H F' H' n' → ResR X.K st F' H H' v rr → Qd rr n' → R v H') : toSp X.K T sp (vs ++ []) H R E := by
  rw [List.append_nil]
  exact ⟨F, st, z.n, ds, Qd, EQ, r.ok.refl', rp, h, k, er.after r.ok⟩
theorem res_sh {st : Option Addr} {F0 H0 F H F' H' : Hp} {σ : Sg} {z : Z} {v : V} {rr : Res} {n' : Nat} {K : PySem.W.Frag} (r : Rel K T st F0 H0 F H σ z) (ok : Ok T st F H F' H' n') (q : ResR K st F' H H' v rr) : ∃ F2, Same F F2 ∧ Rel K T st F0 H0 F2 H' σ { z with n := n' } ∧ Rep K F2 rr.d v := by
  have r1 := r.after ok
  cases q with
  | sh rp => exact ⟨F', ok.f0, r1, rp⟩
  | fr w => exact ⟨F', ok.f0, r1, w.rep⟩
  | nw w =>
    obtain ⟨F2, s2, r2, rp⟩ := r1.fix (Nw.of_own r w)
    exact ⟨F2, ok.f0.trans s2, r2, rp⟩
theorem de_call (c : Fn X.prog X.w X.K T X.mg X.base k x ps sp) (hr : Room j X.A) (hk : k ≤ j) (hg : Gl X x) (hx : Passes (L2.CX X.prog X.w) X E) (ha : DA T X E (e :: es) mas) (hdb : (x == ("__debug__" : Str)) = false := by decide)
    (he : starEach (e :: es) X.env = (false, eval e X.env) :: starEach es X.env := by rfl) (hpl : (backTo pos (starEach es X.env)).any (·.1) = false := by rfl) : DE T X E (.Call (.Name x p) (e :: es) [] pos) (mCall sp mas) := by
  obtain ⟨f, fd, F, hm, hkp, hb, _⟩ := c.ex
  obtain ⟨ta, pa, qa⟩ := ha.ex
  refine ⟨⟨_, pe_call F (hr.mono hk) hg hm hkp hb .nil hx pa hdb he hpl, fun st F0 H0 F H σ z Q EQ R r er h k => ?_⟩⟩
  refine qa st F0 H0 F H σ z _ EQ _ r er h fun vs H1 F1 ds z1 s1 r1 p1 h1 => call_sp r1 er p1 h1 fun v H2 F2 rr n' ok q qd => ?_
  obtain ⟨F3, s3, r3, rp⟩ := res_sh r1 ok q
  exact k v H2 F3 _ _ (s1.trans s3) r3 rp qd
theorem dn_call (c : Fn X.prog X.w X.K T X.mg X.base k x ps sp) (hr : Room j X.A) (hk : k ≤ j) (hg : Gl X x) (hx : Passes (L2.CX X.prog X.w) X E) (ha : DA T X E (e :: es) mas) (hdb : (x == ("__debug__" : Str)) = false := by decide)
    (he : starEach (e :: es) X.env = (false, eval e X.env) :: starEach es X.env := by rfl) (hpl : (backTo pos (starEach es X.env)).any (·.1) = false := by rfl) : DN T X E (.Call (.Name x p) (e :: es) [] pos) (mCallN sp mas) := by
  obtain ⟨f, fd, F, hm, hkp, hb, _⟩ := c.ex
  obtain ⟨ta, pa, qa⟩ := ha.ex
  refine ⟨⟨_, pe_call F (hr.mono hk) hg hm hkp hb .nil hx pa hdb he hpl, fun st F0 H0 F H σ z Q EQ R r er h k => ?_⟩⟩
  refine qa st F0 H0 F H σ z _ EQ _ r er h fun vs H1 F1 ds z1 s1 r1 p1 h1 => call_sp r1 er p1 h1 fun v H2 F2 rr n' ok q qd => ?_
  obtain ⟨o, rfl, q2⟩ := qd
  cases q with
  | nw w => exact k _ H2 F2 o _ (s1.trans ok.f0) (r1.after ok) (Nw.of_own r1 w) q2
theorem de_call0 (c : Fn X.prog X.w X.K T X.mg X.base k x ps sp) (hr : Room j X.A) (hk : k ≤ j) (hg : Gl X x) (hx : Passes (L2.CX X.prog X.w) X E) (hdb : (x == ("__debug__" : Str)) = false := by decide) : DE T X E (.Call (.Name x p) [] [] pos) (mCall sp mNil) := by
  obtain ⟨f, fd, F, hm, hkp, hb, _⟩ := c.ex
  refine ⟨⟨_, pe_call0 F (hr.mono hk) hg hm hkp hb .nil hx hdb, fun st F0 H0 F H σ z Q EQ R r er h k => ?_⟩⟩
  refine call_sp r er .nil h fun v H2 F2 rr n' ok q qd => ?_
  obtain ⟨F3, s3, r3, rp⟩ := res_sh r ok q
  exact k v H2 F3 _ _ s3 r3 rp qd

/-! ### calls of built-ins -/
abbrev GC := List D → (D → Prop) → Prop
def PC1 (K : PySem.W.Frag) (r : List V → Hp → VK → Prop) (G : GC) : Prop := ∀ (F H : Hp) (ds : List D) (vs : List V) (Q : D → Prop) (R : VK), Same F H → Reps K F ds vs → G ds Q → (∀ d v, Rep K F d v → Q d → R v H) → r vs H R
def PCN (K : PySem.W.Frag) (r : List V → Hp → VK → Prop) (G : GC) : Prop := ∀ (F H : Hp) (ds : List D) (vs : List V) (Q : D → Prop) (R : VK), Same F H → Reps K F ds vs → G ds Q → (∀ o u p, H p = none → Cell K F o u → Q o → R (.ref p) (upd H p u)) → r vs H R
@[reducible, simp] def mCB (G : GC) (ma : TDA) : TDE := fun st z Q EQ => ma st z (fun ds z1 => G ds fun d => Q d z1) EQ
theorem de_cbG {e : Expr} {r : List V → Hp → VK → Prop} {G : GC} (hp : ∀ {t : TA}, PA X es t → PE X e (tCB r t)) (hg : PC1 X.K r G) (ha : DA T X E es mas) : DE T X E e (mCB G mas) := by
  obtain ⟨ta, pa, qa⟩ := ha.ex
  refine ⟨⟨_, hp pa, fun st F0 H0 F H σ z Q EQ R r er h k => ?_⟩⟩
  refine qa st F0 H0 F H σ z _ EQ _ r er h fun vs H1 F1 ds z1 s1 r1 p1 h1 => ?_
  exact hg F1 H1 ds vs _ _ r1.ok.sub p1 h1 fun d v rp q => k v H1 F1 d z1 s1 r1 rp q
theorem dn_cbG {e : Expr} {r : List V → Hp → VK → Prop} {G : GC} (hp : ∀ {t : TA}, PA X es t → PE X e (tCB r t)) (hg : PCN X.K r G) (ha : DA T X E es mas) : DN T X E e (mCB G mas) := by
  obtain ⟨ta, pa, qa⟩ := ha.ex
  refine ⟨⟨_, hp pa, fun st F0 H0 F H σ z Q EQ R r er h k => ?_⟩⟩
  refine qa st F0 H0 F H σ z _ EQ _ r er h fun vs H1 F1 ds z1 s1 r1 p1 h1 => ?_
  refine hg F1 H1 ds vs _ _ r1.ok.sub p1 h1 fun o u p hp c q => ?_
  obtain ⟨r2, w⟩ := r1.laid hp c
  exact k p _ F1 o z1 s1 r2 w q
theorem de_cb {id : String} {r : List V → Hp → VK → Prop} {G : GC} (hc : CallR X (.builtin id) r) (hgl : Gl X x) (hm : X.mg x = none) (hv : bootBuiltins x = some (.builtin id)) (hg : PC1 X.K r G) (ha : DA T X E (e :: es) mas) (hn : x ≠ "__name__" := by decide) (hdb : (x == ("__debug__" : Str)) = false := by decide)
    (he : starEach (e :: es) X.env = (false, eval e X.env) :: starEach es X.env := by rfl) (hpl : (backTo pos (starEach es X.env)).any (·.1) = false := by rfl) : DE T X E (.Call (.Name x p) (e :: es) [] pos) (mCB G mas) := de_cbG (fun q => pe_callB hc hgl hm hv q hn hdb he hpl) hg ha
theorem de_ct {id : String} {r : List V → Hp → VK → Prop} {G : GC} (hc : CallR X (.type id) r) (hgl : Gl X x) (hm : X.mg x = none) (hv : bootBuiltins x = some (.type id)) (hg : PC1 X.K r G) (ha : DA T X E (e :: es) mas) (hn : x ≠ "__name__" := by decide) (hdb : (x == ("__debug__" : Str)) = false := by decide)
    (he : starEach (e :: es) X.env = (false, eval e X.env) :: starEach es X.env := by rfl) (hpl : (backTo pos (starEach es X.env)).any (·.1) = false := by rfl) : DE T X E (.Call (.Name x p) (e :: es) [] pos) (mCB G mas) := de_cbG (fun q => pe_callTy hc hgl hm hv q hn hdb he hpl) hg ha
theorem dn_cb {id : String} {r : List V → Hp → VK → Prop} {G : GC} (hc : CallR X (.builtin id) r) (hgl : Gl X x) (hm : X.mg x = none) (hv : bootBuiltins x = some (.builtin id)) (hg : PCN X.K r G) (ha : DA T X E (e :: es) mas) (hn : x ≠ "__name__" := by decide) (hdb : (x == ("__debug__" : Str)) = false := by decide)
    (he : starEach (e :: es) X.env = (false, eval e X.env) :: starEach es X.env := by rfl) (hpl : (backTo pos (starEach es X.env)).any (·.1) = false := by rfl) : DN T X E (.Call (.Name x p) (e :: es) [] pos) (mCB G mas) := dn_cbG (fun q => pe_callB hc hgl hm hv q hn hdb he hpl) hg ha
theorem dn_ct {id : String} {r : List V → Hp → VK → Prop} {G : GC} (hc : CallR X (.type id) r) (hgl : Gl X x) (hm : X.mg x = none) (hv : bootBuiltins x = some (.type id)) (hg : PCN X.K r G) (ha : DA T X E (e :: es) mas) (hn : x ≠ "__name__" := by decide) (hdb : (x == ("__debug__" : Str)) = false := by decide)
    (he : starEach (e :: es) X.env = (false, eval e X.env) :: starEach es X.env := by rfl) (hpl : (backTo pos (starEach es X.env)).any (·.1) = false := by rfl) : DN T X E (.Call (.Name x p) (e :: es) [] pos) (mCB G mas) := dn_cbG (fun q => pe_callTy hc hgl hm hv q hn hdb he hpl) hg ha
/-- what is made anew by an operation on two -/
def P2N (K : PySem.W.Frag) (r : R2) (G : G2) : Prop := ∀ (F H : Hp) (d1 d2 : D) (v1 v2 : V) (Q : D → Prop) (R : VK), Same F H → Rep K F d1 v1 → Rep K F d2 v2 → G d1 d2 Q → (∀ o u p, H p = none → Cell K F o u → Q o → R (.ref p) (upd H p u)) → r v1 v2 H R
theorem dn_op {op : Operator} {r : R2} {G : G2} (ho : OpR X (binaryOp op) r) (hg : P2N X.K r G) (ha : DE T X E a ma) (hb : DE T X E b mb) : DN T X E (.BinOp a op b pos) (mOp G ma mb) := by
  obtain ⟨ta, pa, qa⟩ := ha.ex
  obtain ⟨tb, pb, qb⟩ := hb.ex
  refine ⟨⟨_, pe_op ho pa pb, fun st F0 H0 F H σ z Q EQ R r er h k => ?_⟩⟩
  refine qa st F0 H0 F H σ z _ EQ _ r er h fun v1 H1 F1 d1 z1 s1 r1 p1 h1 => ?_
  refine qb st F0 H0 F1 H1 σ z1 _ EQ _ r1 er h1 fun v2 H2 F2 d2 z2 s2 r2 p2 h2 => ?_
  refine hg F2 H2 d1 d2 v1 v2 _ _ r2.ok.sub (p1.mono s2) p2 h2 fun o u p hp c q => ?_
  obtain ⟨r3, w⟩ := r2.laid hp c
  exact k p _ F2 o z2 (s1.trans s2) r3 w q
@[reducible, simp] def gCat : G2 := fun d1 d2 Q => ∃ ds es, d1 = .lst ds ∧ d2 = .lst es ∧ ds.length + es.length ≤ 1000000 ∧ Q (.lst (ds ++ es))
theorem p_cat {K : PySem.W.Frag} : P2N K rCat gCat := by
  intro F H d1 d2 v1 v2 Q R s r1 r2 h k
  obtain ⟨ds, es, rfl, rfl, hl, q⟩ := h
  cases r1 with
  | lst h1 p1 =>
    cases r2 with
    | lst h2 p2 => exact ⟨_, _, _, _, rfl, rfl, s _ _ h1, s _ _ h2, size_ok (by rw [← p1.length, ← p2.length]; exact hl), fun p hp => k _ _ p hp (.lst (p1.append p2)) q⟩
@[reducible, simp] def gRep : G2 := fun d1 d2 Q => ∃ ds n, d1 = .lst ds ∧ d2 = .v (.int n) ∧ -(2 ^ 63) ≤ n ∧ n < 2 ^ 63 ∧ ds.length * n.toNat ≤ 1000000 ∧ Q (.lst (List.replicate n.toNat ds).flatten)
theorem p_rep {K : PySem.W.Frag} : P2N K rRep gRep := by
  intro F H d1 d2 v1 v2 Q R s r1 r2 h k
  obtain ⟨ds, n, rfl, rfl, h1, h2, hl, q⟩ := h
  cases r2
  cases r1 with
  | lst hf p1 => exact ⟨_, _, _, rfl, rfl, s _ _ hf, h1, h2, size_ok (by rw [← p1.length]; exact hl), fun p hp => k _ _ p hp (.lst (p1.rep _)) q⟩

/-! ### statements -/
@[reducible, simp] def bNil : TDS := fun _ D z _ => D.nx z
@[reducible, simp] def bCons (ms mb : TDS) : TDS := fun st D z EQ => ms st { D with nx := fun z1 => mb st D z1 EQ } z EQ
variable {s : Stmt} {ss : List Stmt} {ms mb' : TDS}
theorem db_nil : DB T X E [] bNil := ⟨⟨_, pss_nil, fun st F0 H0 F H σ z D EQ D' r er h k => k.nx σ H F z (Same.refl F) r h⟩⟩
theorem db_one (h : DS T X E s ms) : DB T X E [s] ms := by
  obtain ⟨t, p, q⟩ := h.ex
  exact ⟨⟨t, pss_one p, q⟩⟩
theorem db_cons (h : DS T X E s ms) (h2 : DB T X E ss mb') : DB T X E (s :: ss) (bCons ms mb') := by
  obtain ⟨t, p, q⟩ := h.ex
  obtain ⟨u, p2, q2⟩ := h2.ex
  refine ⟨⟨_, pss_cons p p2, fun st F0 H0 F H σ z D EQ D' r er h k => ?_⟩⟩
  refine q st F0 H0 F H σ z _ EQ _ r er h ⟨fun σ1 H1 F1 z1 s1 r1 h1 => ?_, k.bk, k.ct, k.rt⟩
  exact q2 st F0 H0 F1 H1 σ1 z1 D EQ D' r1 er h1 (k.mono s1)
/-- what is left out: no way comes there -/
theorem db_never : DB T X E ss (fun _ _ _ _ => False) := ⟨⟨_, pss_never, fun _ _ _ _ _ _ _ _ _ _ _ _ h _ => h⟩⟩
theorem ds_never : DS T X E s (fun _ _ _ _ => False) := ⟨⟨_, ps_never, fun _ _ _ _ _ _ _ _ _ _ _ _ h _ => h⟩⟩
@[reducible, simp] def Z.put (z : Z) (i : Nat) (d : DV) : Z := { z with env := z.env.set i d }
@[reducible, simp] def sSet (i : Nat) (me : TDE) : TDS := fun st D z EQ => me st z (fun d z1 => D.nx (z1.put i (.sh d))) EQ
@[reducible, simp] def sSetN (i : Nat) (me : TDE) : TDS := fun st D z EQ => me st z (fun o z1 => D.nx (z1.put i (.ow o))) EQ
theorem ds_set (i : Nat) {pos' : Pos} (hN : X.N.Nodup) (he : DE T X E e me) (hi : X.N[i]? = some x := by rfl) (hx : Loc X.env.scope x := by first | exact Or.inl rfl | exact Or.inr rfl) (hs : swapsWith e (some (.Name x pos')) pos.line X.env = pure false := by rfl) (hf : X.fn x = true ∨ X.env.scope.names.lookup x = some .local := by first | exact .inl rfl | exact .inr rfl) :
    DS T X E (.Assign [.Name x pos'] e pos) (sSet i me) := by
  obtain ⟨t, p, q⟩ := he.ex
  refine ⟨⟨_, ps_set hN hi hx p hs hf, fun st F0 H0 F H σ z D EQ D' r er h k => ?_⟩⟩
  exact q st F0 H0 F H σ z _ EQ _ r er h fun v H1 F1 d z1 s1 r1 p1 h1 => k.nx _ H1 F1 _ s1 (r1.setS p1) h1
theorem ds_setN (i : Nat) {pos' : Pos} (hN : X.N.Nodup) (he : DN T X E e me) (hi : X.N[i]? = some x := by rfl) (hx : Loc X.env.scope x := by first | exact Or.inl rfl | exact Or.inr rfl) (hs : swapsWith e (some (.Name x pos')) pos.line X.env = pure false := by rfl) (hf : X.fn x = true ∨ X.env.scope.names.lookup x = some .local := by first | exact .inl rfl | exact .inr rfl) :
    DS T X E (.Assign [.Name x pos'] e pos) (sSetN i me) := by
  obtain ⟨t, p, q⟩ := he.ex
  refine ⟨⟨_, ps_set hN hi hx p hs hf, fun st F0 H0 F H σ z D EQ D' r er h k => ?_⟩⟩
  exact q st F0 H0 F H σ z _ EQ _ r er h fun a H1 F1 o z1 s1 r1 w h1 => k.nx _ H1 F1 _ s1 (r1.setN w) h1
@[reducible, simp] def sIf (mt : TDT) (ma mb : TDS) : TDS := fun st D z EQ => mt st z (fun b n => (b = true → ma st D { z with n := n } EQ) ∧ (b = false → mb st D { z with n := n } EQ)) EQ
theorem ds_if {sa sb : List Stmt} {m1 m2 : TDS} (hc : DT T X E e mt) (ha : DB T X E sa m1) (hb : DB T X E sb m2) : DS T X E (.If e sa sb pos) (sIf mt m1 m2) := by
  obtain ⟨t, p, q⟩ := hc.ex
  obtain ⟨ta, pa, qa⟩ := ha.ex
  obtain ⟨tb, pb, qb⟩ := hb.ex
  refine ⟨⟨_, ps_if p pa pb, fun st F0 H0 F H σ z D EQ D' r er h k => q st F0 H0 F H σ z _ EQ _ r er h fun b H' n' r' h' => ?_⟩⟩
  cases b with
  | true => exact iteT (qa st F0 H0 F H' σ _ D EQ D' r' er (h'.1 rfl) k)
  | false => exact iteF (qb st F0 H0 F H' σ _ D EQ D' r' er (h'.2 rfl) k)
@[reducible, simp] def sRet (me : TDE) : TDS := fun st D z EQ => me st z (fun d z1 => D.rt (.sh d) z1.n) EQ
@[reducible, simp] def sRetN (me : TDE) : TDS := fun st D z EQ => me st z (fun o z1 => D.rt (.nw o) z1.n) EQ
theorem ds_ret (he : DE T X E e me) : DS T X E (.Return (some e) pos) (sRet me) := by
  obtain ⟨t, p, q⟩ := he.ex
  refine ⟨⟨_, ps_ret p, fun st F0 H0 F H σ z D EQ D' r er h k => ?_⟩⟩
  exact q st F0 H0 F H σ z _ EQ _ r er h fun v H1 F1 d z1 s1 r1 p1 h1 => k.rt v H1 F1 _ z1.n s1 r1.ok (.sh p1) h1
theorem ds_retN (he : DN T X E e me) : DS T X E (.Return (some e) pos) (sRetN me) := by
  obtain ⟨t, p, q⟩ := he.ex
  refine ⟨⟨_, ps_ret p, fun st F0 H0 F H σ z D EQ D' r er h k => ?_⟩⟩
  exact q st F0 H0 F H σ z _ EQ _ r er h fun a H1 F1 o z1 s1 r1 w h1 => k.rt _ H1 F1 _ z1.n s1 r1.ok (.nw w.own) h1
/-- return of an own slot -/
@[reducible, simp] def sRetV (i : Nat) : TDS := fun _ D z _ => ∃ o, z.env[i]? = some (.ow o) ∧ D.rt (.nw o) z.n
theorem ds_retV (i : Nat) (hN : X.N[i]? = some x := by rfl) (hv : Vis X.env.scope x := by first | exact Or.inl rfl | exact Or.inr (Or.inl rfl) | exact Or.inr (Or.inr rfl)) (hd : (x == ("__debug__" : Str)) = false := by decide)
    (hcd : (x == ("__classdict__" : Str)) = false := by decide) : DS T X E (.Return (some (.Name x p)) pos) (sRetV i) := by
  refine ⟨⟨_, ps_ret (pe_var hN hv hd hcd), fun st F0 H0 F H σ z D EQ D' r er h k => ?_⟩⟩
  obtain ⟨o, h1, h2⟩ := h
  obtain ⟨a, e1, w⟩ := r.ow i o h1
  exact ⟨.ref a, e1, k.rt _ H F _ z.n (Same.refl F) r.ok (.nw w) h2⟩
@[reducible, simp] def sExpr (me : TDE) : TDS := fun st D z EQ => me st z (fun _ z1 => D.nx z1) EQ
theorem ds_expr (he : DE T X E e me) (hs : swapsWith e none pos.line X.env = pure false := by rfl) : DS T X E (.Expr e pos) (sExpr me) := by
  obtain ⟨t, p, q⟩ := he.ex
  refine ⟨⟨_, ps_expr p hs, fun st F0 H0 F H σ z D EQ D' r er h k => ?_⟩⟩
  exact q st F0 H0 F H σ z _ EQ _ r er h fun v H1 F1 d z1 s1 r1 p1 h1 => k.nx _ H1 F1 _ s1 r1 h1
/-- x.append(e), x an own slot -/
@[reducible, simp] def mApp (i : Nat) (me : TDE) : TDE := fun st z Q EQ => (∃ ds, z.env[i]? = some (.ow (.lst ds))) ∧ me st z (fun d z1 => ∃ ds, z1.env[i]? = some (.ow (.lst ds)) ∧ ds.length < 1000000 ∧ Q (.v .non) (z1.put i (.ow (.lst (ds ++ [d]))))) EQ
theorem ow_lst {K : PySem.W.Frag} {st : Option Addr} {F0 H0 F H : Hp} {σ : Sg} {z : Z} {i : Nat} {ds : List D} (r : Rel K T st F0 H0 F H σ z) (h : z.env[i]? = some (.ow (.lst ds))) : ∃ a xs, σ[i]? = some (some (.ref a)) ∧ H a = some (.lst xs) ∧ Reps K F ds xs := by
  obtain ⟨a, e1, w⟩ := r.ow i _ h
  obtain ⟨u, hu, c⟩ := w.ho
  cases c with
  | lst rr => exact ⟨a, _, e1, hu, rr⟩
theorem de_app (i : Nat) {apos : Pos} (he : DE T X E e me) (hN : X.N[i]? = some x := by rfl) (hv : Vis X.env.scope x := by first | exact Or.inl rfl | exact Or.inr (Or.inl rfl) | exact Or.inr (Or.inr rfl)) (hd : (x == ("__debug__" : Str)) = false := by decide) (hcd : (x == ("__classdict__" : Str)) = false := by decide)
    (hpa : ∀ {t : TE}, PE X e t → PE X (.Call (.Attribute (.Name x p) "append" apos) [e] [] pos) (tBM X.K "list" rAppend (tVar i) (tCons t tNil))) : DE T X E (.Call (.Attribute (.Name x p) "append" apos) [e] [] pos) (mApp i me) := by
  obtain ⟨t, pt, q⟩ := he.ex
  refine ⟨⟨_, hpa pt, fun st F0 H0 F H σ z Q EQ R r er h k => ?_⟩⟩
  obtain ⟨⟨ds0, h0⟩, h⟩ := h
  obtain ⟨a, xs, e1, hu, _⟩ := ow_lst r h0
  refine ⟨.ref a, e1, Or.inl ⟨rfl, _, SqL.of hu⟩, ?_⟩
  refine q st F0 H0 F H σ z _ EQ _ r er h fun v H1 F1 d z1 s1 r1 p1 h1 => ?_
  obtain ⟨ds, h2, hl, h3⟩ := h1
  obtain ⟨a2, xs2, e2, hu2, rr⟩ := ow_lst r1 h2
  rw [e1] at e2
  have ea : a = a2 := by cases e2; rfl
  subst ea
  refine ⟨a, xs2, v, rfl, rfl, hu2, size_lt (by rw [← rr.length]; exact hl), ?_⟩
  exact k _ _ F1 _ _ s1 (r1.put h2 e1 (.lst (rr.snoc p1))) (.v _) h3
@[reducible, simp] def mExt (i : Nat) (me : TDE) : TDE := fun st z Q EQ => (∃ ds, z.env[i]? = some (.ow (.lst ds))) ∧ me st z (fun d z1 => ∃ ds es, d = .lst es ∧ z1.env[i]? = some (.ow (.lst ds)) ∧ ds.length + es.length < 1000000 ∧ Q (.v .non) (z1.put i (.ow (.lst (ds ++ es))))) EQ
theorem de_ext (i : Nat) {apos : Pos} (he : DE T X E e me) (hN : X.N[i]? = some x := by rfl) (hv : Vis X.env.scope x := by first | exact Or.inl rfl | exact Or.inr (Or.inl rfl) | exact Or.inr (Or.inr rfl)) (hd : (x == ("__debug__" : Str)) = false := by decide) (hcd : (x == ("__classdict__" : Str)) = false := by decide)
    (hpa : ∀ {t : TE}, PE X e t → PE X (.Call (.Attribute (.Name x p) "extend" apos) [e] [] pos) (tBM X.K "list" rExtend (tVar i) (tCons t tNil))) : DE T X E (.Call (.Attribute (.Name x p) "extend" apos) [e] [] pos) (mExt i me) := by
  obtain ⟨t, pt, q⟩ := he.ex
  refine ⟨⟨_, hpa pt, fun st F0 H0 F H σ z Q EQ R r er h k => ?_⟩⟩
  obtain ⟨⟨ds0, h0⟩, h⟩ := h
  obtain ⟨a, xs, e1, hu, _⟩ := ow_lst r h0
  refine ⟨.ref a, e1, Or.inl ⟨rfl, _, SqL.of hu⟩, ?_⟩
  refine q st F0 H0 F H σ z _ EQ _ r er h fun v H1 F1 d z1 s1 r1 p1 h1 => ?_
  obtain ⟨ds, es, rfl, h2, hl, h3⟩ := h1
  obtain ⟨a2, xs2, e2, hu2, rr⟩ := ow_lst r1 h2
  rw [e1] at e2
  have ea : a = a2 := by cases e2; rfl
  subst ea
  cases p1 with
  | lst hf pe => exact ⟨a, _, xs2, _, rfl, rfl, hu2, r1.ok.sub _ _ hf, size_ok (by rw [← rr.length, ← pe.length]; omega), k _ _ F1 _ _ s1 (r1.put h2 e1 (.lst (rr.append pe))) (.v _) h3⟩
/-- x.pop(e), x an own slot -/
@[reducible, simp] def mPop (i : Nat) (me : TDE) : TDE := fun st z Q EQ => (∃ ds, z.env[i]? = some (.ow (.lst ds))) ∧ me st z (fun d z1 => ∃ (ds : List D) (k : Nat) (y : D), d = .v (.int (k : Int)) ∧ k < 1000000 ∧ z1.env[i]? = some (.ow (.lst ds)) ∧ ds[k]? = some y ∧ Q y (z1.put i (.ow (.lst (ds.eraseIdx k))))) EQ
theorem seqIx {n k : Nat} (h : k < n) : seqIndex? (k : Int) n = some k := by
  have e : ixN n (k : Int) = some k := by unfold ixN; rw [if_pos (by omega), if_pos (by omega)]; simp
  exact (ixN_seq e).1
theorem de_pop (i : Nat) {apos : Pos} (he : DE T X E e me) (hN : X.N[i]? = some x := by rfl) (hv : Vis X.env.scope x := by first | exact Or.inl rfl | exact Or.inr (Or.inl rfl) | exact Or.inr (Or.inr rfl)) (hd : (x == ("__debug__" : Str)) = false := by decide) (hcd : (x == ("__classdict__" : Str)) = false := by decide)
    (hpa : ∀ {t : TE}, PE X e t → PE X (.Call (.Attribute (.Name x p) "pop" apos) [e] [] pos) (tBM X.K "list" rPopAt (tVar i) (tCons t tNil))) : DE T X E (.Call (.Attribute (.Name x p) "pop" apos) [e] [] pos) (mPop i me) := by
  obtain ⟨t, pt, q⟩ := he.ex
  refine ⟨⟨_, hpa pt, fun st F0 H0 F H σ z Q EQ R r er h k => ?_⟩⟩
  obtain ⟨⟨ds0, h0⟩, h⟩ := h
  obtain ⟨a, xs, e1, hu, _⟩ := ow_lst r h0
  refine ⟨.ref a, e1, Or.inl ⟨rfl, _, SqL.of hu⟩, ?_⟩
  refine q st F0 H0 F H σ z _ EQ _ r er h fun v H1 F1 d z1 s1 r1 p1 h1 => ?_
  obtain ⟨ds, kk, y, rfl, hk, h2, hy, h3⟩ := h1
  cases p1
  obtain ⟨a2, xs2, e2, hu2, rr⟩ := ow_lst r1 h2
  rw [e1] at e2
  have ea : a = a2 := by cases e2; rfl
  subst ea
  obtain ⟨v2, hv2, pv2⟩ := rr.get hy
  have hlt : kk < xs2.length := (List.getElem?_eq_some_iff.mp hv2).1
  exact ⟨a, xs2, _, kk, v2, rfl, rfl, hu2, by omega, by omega, seqIx hlt, hv2, k _ _ F1 _ _ s1 (r1.put h2 e1 (.lst (rr.eraseIdx kk))) pv2 h3⟩
end
end DL
end

section
set_option Elab.async false
set_option linter.all false
set_option maxRecDepth 100000
set_option maxHeartbeats 4000000
/-! DL4: targets, walks, loops, comprehensions. -/
namespace DL
open PySem PySem.Spec PyProof.Rows L2

abbrev TDG := D → Z → (Z → Prop) → Prop
abbrev TDGs := List D → Z → (Z → Prop) → Prop
/-- the slots at ws alone may differ -/
def Agree (ws : List Nat) (σ σ' : Sg) : Prop := σ'.length = σ.length ∧ ∀ i : Nat, i ∉ ws → σ'[i]? = σ[i]?
theorem Agree.trans {ws us : List Nat} {σ σ1 σ2 : Sg} (a : Agree ws σ σ1) (b : Agree us σ1 σ2) : Agree (ws ++ us) σ σ2 :=
  ⟨b.1.trans a.1, fun i h => by
    have h1 : i ∉ ws := fun q => h (List.mem_append_left _ q)
    have h2 : i ∉ us := fun q => h (List.mem_append_right _ q)
    exact (b.2 i h2).trans (a.2 i h1)⟩
/-- a target -/
structure DG (T : List (Addr × Str)) (X : Cx) (tg : Expr) (ws : List Nat) (m : TDG) : Prop where
  ex : ∃ g : TG, PG X tg g ∧ ∀ (st : Option Addr) (F0 H0 F H : Hp) (σ : Sg) (z : Z) (d : D) (v : V) (Q : Z → Prop) (R : Sg → Hp → Prop), Rel X.K T st F0 H0 F H σ z → Rep X.K F d v → m d z Q →
    (∀ σ' z', Rel X.K T st F0 H0 F H σ' z' → Agree ws σ σ' → Q z' → R σ' H) → g v σ H R
structure DGs (T : List (Addr × Str)) (X : Cx) (tg : List Expr) (ws : List Nat) (m : TDGs) : Prop where
  ex : ∃ g : TGs, PGs X tg g ∧ ∀ (st : Option Addr) (F0 H0 F H : Hp) (σ : Sg) (z : Z) (ds : List D) (vs : List V) (Q : Z → Prop) (R : Sg → Hp → Prop), Rel X.K T st F0 H0 F H σ z → Reps X.K F ds vs → m ds z Q →
    (∀ σ' z', Rel X.K T st F0 H0 F H σ' z' → Agree ws σ σ' → Q z' → R σ' H) → g vs σ H R
section
variable {T : List (Addr × Str)} {X : Cx} {E : XK} {e a b : Expr} {es : List Expr} {pos p : Pos} {me ma mb : TDE} {mt mu : TDT} {mas : TDA} {k j : Nat} {x : Str}
@[reducible, simp] def gNm (i : Nat) : TDG := fun d z Q => Q (z.put i (.sh d))
theorem dg_name (i : Nat) (hN : X.N.Nodup) (hi : X.N[i]? = some x := by rfl) (hx : Loc X.env.scope x := by first | exact Or.inl rfl | exact Or.inr rfl) (hf : X.fn x = true ∨ X.env.scope.names.lookup x = some .local := by first | exact .inl rfl | exact .inr rfl) : DG T X (.Name x pos) [i] (gNm i) := by
  refine ⟨⟨_, pg_name hN hi hx hf, fun st F0 H0 F H σ z d v Q R r rp h k => ?_⟩⟩
  exact k _ _ (r.setS rp) ⟨by simp, fun l hl => by rw [List.getElem?_set]; simp at hl; simp [Ne.symm hl]⟩ h
@[reducible, simp] def gNl : TDGs := fun ds z Q => ds = [] ∧ Q z
@[reducible, simp] def gCn (m : TDG) (ms : TDGs) : TDGs := fun ds z Q => ∃ d r, ds = d :: r ∧ m d z (fun z1 => ms r z1 Q)
theorem dgs_nil : DGs T X [] [] gNl := by
  refine ⟨⟨_, pgs_nil, fun st F0 H0 F H σ z ds vs Q R r rp h k => ?_⟩⟩
  obtain ⟨rfl, h⟩ := h
  cases rp
  exact ⟨rfl, k σ z r ⟨rfl, fun _ _ => rfl⟩ h⟩
theorem dgs_cons {ws us : List Nat} {m : TDG} {ms : TDGs} (h1 : DG T X e ws m) (h2 : DGs T X es us ms) (h : ∀ {t : TG} {u : TGs}, PG X e t → PGs X es u → PGs X (e :: es) (gCons t u) := by exact fun p q => pgs_cons p q) : DGs T X (e :: es) (ws ++ us) (gCn m ms) := by
  obtain ⟨t, p, q⟩ := h1.ex
  obtain ⟨u, p2, q2⟩ := h2.ex
  refine ⟨⟨_, h p p2, fun st F0 H0 F H σ z ds vs Q R r rp hm k => ?_⟩⟩
  obtain ⟨d, ds', rfl, hm⟩ := hm
  cases rp with
  | cons hr tr =>
    refine ⟨_, _, rfl, q st F0 H0 F H σ z d _ _ _ r hr hm fun σ1 z1 r1 a1 q1 => ?_⟩
    exact q2 st F0 H0 F H σ1 z1 ds' _ Q R r1 tr q1 fun σ2 z2 r2 a2 h2 => k σ2 z2 r2 (a1.trans a2) h2
theorem PG.or {tg : Expr} {g g' : TG} (h : PG X tg g) (h' : PG X tg g') : PG X tg (fun v σ H Q => g v σ H Q ∨ g' v σ H Q) :=
  ⟨fun pins s σ H v u Q I r hw => hw.elim (fun w => h.run pins s σ H v u Q I r w) fun w => h'.run pins s σ H v u Q I r w⟩
/-- (a, b, ..) = a tuple or a list of that length -/
@[reducible, simp] def gTp (n : Nat) (ms : TDGs) : TDG := fun d z Q => ∃ ds, (d = .tup ds ∨ d = .lst ds) ∧ ds.length = n ∧ ms ds z Q
theorem dg_tup {ws : List Nat} {ms : TDGs} {kk : Nat} {n : Nat} (hc : X.calm = true) (h : DGs T X es ws ms) (ht : ∀ {u : TGs}, PGs X es u → PG X (.Tuple es kk pos) (gTup X.K n u)) (hu : ∀ {u : TGs}, PGs X es u → PG X (.Tuple es kk pos) (gUnl X.K n u)) : DG T X (.Tuple es kk pos) ws (gTp n ms) := by
  obtain ⟨u, p, q⟩ := h.ex
  refine ⟨⟨_, PG.or (ht p) (hu p), fun st F0 H0 F H σ z d v Q R r rp h k => ?_⟩⟩
  obtain ⟨ds, hd, hn, hm⟩ := h
  rcases hd with rfl | rfl
  · cases rp with
    | tup hf rr => exact .inl ⟨_, _, rfl, SqT.same r.ok.sub hf, rr.length.symm.trans hn, q st F0 H0 F H σ z ds _ Q R r rr hm k⟩
  · cases rp with
    | lst hf rr => exact .inr ⟨_, _, rfl, SqL.of (r.ok.sub _ _ hf), rr.length.symm.trans hn, q st F0 H0 F H σ z ds _ Q R r rr hm k⟩

/-! ### what is walked -/
structure ItOk (K : PySem.W.Frag) (T : List (Addr × Str)) (st : Option Addr) (F1 : Hp) (J : It) (ds : List D) : Prop where
  stop : ∀ i H, Same F1 H → ds.length ≤ i → J.stop i H
  go : ∀ i H, Same F1 H → i < ds.length → J.go i H
  yld : ∀ i F0 H0 F H n x H', Same F1 F → Ok T st F0 H0 F H n → i < ds.length → J.yld i H x H' → ∃ F' d, ds[i]? = some d ∧ Ok T st F H F' H' n ∧ Rep K F' d x
structure DI (T : List (Addr × Str)) (X : Cx) (E : XK) (tg iter : Expr) (m : TDA) : Prop where
  ex : ∃ wi : TI, PI X tg iter wi ∧ ∀ (st : Option Addr) (F0 H0 F H : Hp) (σ : Sg) (z : Z) (Q : List D → Z → Prop) (EQ : TEX) (R : It → Hp → Prop), Rel X.K T st F0 H0 F H σ z → ERel X.K T st F0 H0 E EQ → m st z Q EQ →
    (∀ J H' F' ds z', Same F F' → Rel X.K T st F0 H0 F' H' σ z' → ItOk X.K T st F' J ds → Q ds z' → R J H') → wi σ H R
variable {tg : Expr}
theorem itok_list {K : PySem.W.Frag} {st : Option Addr} {F1 : Hp} {a : Addr} {xs : List V} {ds : List D} (h : F1 a = some (.lst xs)) (r : Reps K F1 ds xs) : ItOk K T st F1 (Itl K a) ds where
  stop := fun i H s hi => ⟨xs, SqL.of (s _ _ h), by rw [← r.length]; exact hi⟩
  go := fun i H s hi => ⟨xs, xs[i]'(by rw [← r.length]; exact hi), SqL.of (s _ _ h), by simp [show i < xs.length by rw [← r.length]; exact hi]⟩
  yld := fun i F0 H0 F H n x H' s ok hi y => by
    obtain ⟨rfl, hx⟩ := y
    have hx := hx xs (SqL.of (ok.sub _ _ (s _ _ h)))
    obtain ⟨d, e1, e2⟩ := r.get' hx
    exact ⟨F, d, e1, ok.refl', e2.mono s⟩
theorem itok_tup {K : PySem.W.Frag} {st : Option Addr} {F1 : Hp} {a : Addr} {xs : List V} {ds : List D} (h : SqT K F1 a xs) (r : Reps K F1 ds xs) : ItOk K T st F1 (Itt K a) ds where
  stop := fun i H s hi => ⟨xs, SqT.same s h, by rw [← r.length]; exact hi⟩
  go := fun i H s hi => ⟨xs, xs[i]'(by rw [← r.length]; exact hi), SqT.same s h, by simp [show i < xs.length by rw [← r.length]; exact hi]⟩
  yld := fun i F0 H0 F H n x H' s ok hi y => by
    obtain ⟨rfl, hx⟩ := y
    have hx := hx xs (SqT.same ok.sub (SqT.same s h))
    obtain ⟨d, e1, e2⟩ := r.get' hx
    exact ⟨F, d, e1, ok.refl', e2.mono s⟩
theorem PI.or {iter : Expr} {w w' : TI} (h : PI X tg iter w) (h' : PI X tg iter w') : PI X tg iter (fun σ H R => w σ H R ∨ w' σ H R) :=
  ⟨fun pins s σ H R I hw => hw.elim (fun q => h.run pins s σ H R I q) fun q => h'.run pins s σ H R I q⟩
/-- a list -/
@[reducible, simp] def iLst (me : TDE) : TDA := fun st z Q EQ => me st z (fun d z1 => ∃ ds, d = .lst ds ∧ Q ds z1) EQ
theorem di_list {iter : Expr} (h : DE T X E iter me) : DI T X E tg iter (iLst me) := by
  obtain ⟨t, p, q⟩ := h.ex
  refine ⟨⟨_, pi_list p, fun st F0 H0 F H σ z Q EQ R r er h k => ?_⟩⟩
  refine q st F0 H0 F H σ z _ EQ _ r er h fun v H1 F1 d z1 s1 r1 p1 h1 => ?_
  obtain ⟨ds, rfl, h2⟩ := h1
  cases p1 with
  | lst hf rr => exact ⟨_, rfl, ⟨_, SqL.of (r1.ok.sub _ _ hf)⟩, k _ H1 F1 ds z1 s1 r1 (itok_list hf rr) h2⟩
@[reducible, simp] def iTp (me : TDE) : TDA := fun st z Q EQ => me st z (fun d z1 => ∃ ds, d = .tup ds ∧ Q ds z1) EQ
theorem di_tup {iter : Expr} (h : DE T X E iter me) : DI T X E tg iter (iTp me) := by
  obtain ⟨t, p, q⟩ := h.ex
  refine ⟨⟨_, pi_tup p, fun st F0 H0 F H σ z Q EQ R r er h k => ?_⟩⟩
  refine q st F0 H0 F H σ z _ EQ _ r er h fun v H1 F1 d z1 s1 r1 p1 h1 => ?_
  obtain ⟨ds, rfl, h2⟩ := h1
  cases p1 with
  | tup hf rr => exact ⟨_, rfl, ⟨_, SqT.same r1.ok.sub hf⟩, k _ H1 F1 ds z1 s1 r1 (itok_tup hf rr) h2⟩
/-- a list or a tuple, whichever stands at a slot -/
@[reducible] def seqOf : D → Option (List D)
  | .lst ds => some ds
  | .tup ds => some ds
  | _ => none
@[reducible, simp] def iSeq (me : TDE) : TDA := fun st z Q EQ => me st z (fun d z1 => ∃ ds, seqOf d = some ds ∧ Q ds z1) EQ
theorem thnPI {iter : Expr} {t : TE} (p : PE X iter t) : PI X tg iter (fun σ H R => t σ H fun x H1 => ∃ a, x = .ref a ∧ (((∃ xs, SqL X.K H1 a xs) ∧ R (Itl X.K a) H1) ∨ ((∃ xs, SqT X.K H1 a xs) ∧ R (Itt X.K a) H1))) := by
  refine ⟨fun pins s σ H R I h => ?_⟩
  refine thn (p.run pins s σ H _ I h) fun v s1 ⟨x, H1, I1, r1, a, e, q⟩ => ?_
  subst e
  cases r1
  have fp : ∀ b ∈ [s1.heap.objs.size], FpOk X pins H1 b := fun b hb => by
    have e : b = s1.heap.objs.size := by simpa using hb
    subst e
    exact I1.fpOk (Nat.le_refl _) (I1.hok.fresh (Nat.le_refl _))
  rcases q with ⟨⟨xs, hq⟩, q⟩ | ⟨⟨xs, hq⟩, q⟩
  · obtain ⟨its, rv, p, hz⟩ := I1.list hq
    refine wpAny_pyIter_list p.isList ?_
    exact ⟨s1.heap.objs.size, [s1.heap.objs.size], _, _, H1, rfl, I1.kept (t' := s1.toks) fun b o e => Heap.get?_push_of_some _ e, turn_list a _, ⟨_, Heap.get?_push_size _ rfl, rfl, rfl⟩, fp, q⟩
  · obtain ⟨its, rv, p, hz⟩ := I1.tuple hq
    refine wpAny_pyIter_tuple (show s1.heap.IsTuple a its.toArray from p) ?_
    exact ⟨s1.heap.objs.size, [s1.heap.objs.size], _, _, H1, rfl, I1.kept (t' := s1.toks) fun b o e => Heap.get?_push_of_some _ e, turn_tuple a _, ⟨_, Heap.get?_push_size _ rfl, rfl, rfl⟩, fp, q⟩
theorem di_seq {iter : Expr} (h : DE T X E iter me) : DI T X E tg iter (iSeq me) := by
  obtain ⟨t, p, q⟩ := h.ex
  refine ⟨⟨_, thnPI p, fun st F0 H0 F H σ z Q EQ R r er h k => ?_⟩⟩
  refine q st F0 H0 F H σ z _ EQ _ r er h fun v H1 F1 d z1 s1 r1 p1 h1 => ?_
  obtain ⟨ds, hd, h2⟩ := h1
  cases p1 with
  | lst hf rr =>
    cases hd
    exact ⟨_, rfl, .inl ⟨⟨_, SqL.of (r1.ok.sub _ _ hf)⟩, k _ H1 F1 _ z1 s1 r1 (itok_list hf rr) h2⟩⟩
  | tup hf rr =>
    cases hd
    exact ⟨_, rfl, .inr ⟨⟨_, SqT.same r1.ok.sub hf⟩, k _ H1 F1 _ z1 s1 r1 (itok_tup hf rr) h2⟩⟩
  | _ => cases hd
/-- range(n), range(a, b) -/
def rangeD (lo : Int) (n : Nat) : List D := (List.range n).map fun i => .v (.int (lo + (i : Nat)))
theorem itok_range {K : PySem.W.Frag} {st : Option Addr} {F1 : Hp} (lo : Int) (n : Nat) : ItOk K T st F1 (Itr lo n) (rangeD lo n) where
  stop := fun i H s hi => by simpa [rangeD, Itr] using hi
  go := fun i H s hi => by simpa [rangeD, Itr] using hi
  yld := fun i F0 H0 F H m x H' s ok hi y => by
    obtain ⟨rfl, rfl⟩ := y
    have hi : i < n := by simpa [rangeD] using hi
    exact ⟨F, .v (.int (lo + (i : Nat))), by simp [rangeD, hi], ok.refl', .v _⟩
@[reducible, simp] def iRng1' (ma : TDA) : TDA := fun st z Q EQ => ma st z (fun ds z1 => ∃ n : Int, ds = [.v (.int n)] ∧ -(2 ^ 62) ≤ n ∧ n < 2 ^ 62 ∧ Q (rangeD 0 n.toNat) z1) EQ
theorem di_range1 (hg : Gl X "range") (hm : X.mg "range" = none) (ha : DA T X E [e] mas) (hs : starEach [e] X.env = [(false, eval e X.env)] := by rfl) : DI T X E tg (.Call (.Name "range" p) [e] [] pos) (iRng1' mas) := by
  obtain ⟨t, pt, q⟩ := ha.ex
  refine ⟨⟨_, pi_range1 hg hm pt hs, fun st F0 H0 F H σ z Q EQ R r er h k => ?_⟩⟩
  refine q st F0 H0 F H σ z _ EQ _ r er h fun vs H1 F1 ds z1 s1 r1 p1 h1 => ?_
  obtain ⟨n, rfl, h2, h3, h4⟩ := h1
  cases p1 with
  | cons p1 t1 =>
    cases p1
    cases t1
    exact ⟨n, rfl, h2, h3, k _ H1 F1 _ z1 s1 r1 (itok_range 0 _) h4⟩
/-- a text, sign by sign -/
def signsD (w : Str) : List D := w.cps.toList.map fun c => .v (.str ⟨#[c]⟩)
@[reducible, simp] def iStr' (me : TDE) : TDA := fun st z Q EQ => me st z (fun d z1 => ∃ w, d = .v (.str w) ∧ Q (signsD w) z1) EQ
theorem itok_str {K : PySem.W.Frag} {st : Option Addr} {F1 : Hp} (w : Str) : ItOk K T st F1 (Its w) (signsD w) where
  stop := fun i H s hi => by simpa [signsD, Its] using hi
  go := fun i H s hi => by simpa [signsD, Its] using hi
  yld := fun i F0 H0 F H m x H' s ok hi y => by
    obtain ⟨rfl, c, hc, rfl⟩ := y
    exact ⟨F, .v (.str ⟨#[c]⟩), by simp [signsD, hc], ok.refl', .v _⟩
theorem di_str {iter : Expr} (h : DE T X E iter me) : DI T X E tg iter (iStr' me) := by
  obtain ⟨t, p, q⟩ := h.ex
  refine ⟨⟨_, pi_str p, fun st F0 H0 F H σ z Q EQ R r er h k => ?_⟩⟩
  refine q st F0 H0 F H σ z _ EQ _ r er h fun v H1 F1 d z1 s1 r1 p1 h1 => ?_
  obtain ⟨w, rfl, h2⟩ := h1
  cases p1
  exact ⟨w, rfl, k _ H1 F1 _ z1 s1 r1 (itok_str w) h2⟩
/-- enumerate of a list -/
def enumD (n : Nat) : List D → List D
  | [] => []
  | d :: ds => .tup [.v (.int (n : Int)), d] :: enumD (n + 1) ds
theorem enumD_get : ∀ (ds : List D) (n i : Nat), (enumD n ds)[i]? = (ds[i]?).map fun d => .tup [.v (.int ((n + i : Nat) : Int)), d]
  | [], n, i => by simp [enumD]
  | d :: ds, n, 0 => by simp [enumD]
  | d :: ds, n, i + 1 => by
    simp only [enumD, List.getElem?_cons_succ]
    rw [enumD_get ds (n + 1) i, show n + 1 + i = n + (i + 1) by omega]
theorem enumD_len : ∀ (ds : List D) (n : Nat), (enumD n ds).length = ds.length
  | [], n => rfl
  | d :: ds, n => by simp [enumD, enumD_len ds (n + 1)]
theorem laid_tup {K : PySem.W.Frag} {st : Option Addr} {F0 H0 F H : Hp} {n : Nat} {p : Addr} {xs : List V} {ds : List D} (ok : Ok T st F0 H0 F H n) (hp : H p = none) (r : Reps K F ds xs) : Ok T st F H (upd F p (.tup xs)) (upd H p (.tup xs)) n ∧ Rep K (upd F p (.tup xs)) (.tup ds) (.ref p) := by
  have hf : F p = none := Same.none ok.sub hp
  have ss : Same F (upd F p (.tup xs)) := fun b v h => by rw [upd_ne (ne_of_none h hf)]; exact h
  exact ⟨(ok.refl'.laid hp).frz upd_same hf (.of hp) (fun q => (ok.strm p q).2.some hp) (fun ps q => by cases q), .tup (SqT.of upd_same) (r.mono ss)⟩
theorem itok_enum {K : PySem.W.Frag} {st : Option Addr} {F1 : Hp} {a : Addr} {xs : List V} {ds : List D} (h : F1 a = some (.lst xs)) (r : Reps K F1 ds xs) : ItOk K T st F1 (Ite K a) (enumD 0 ds) where
  stop := fun i H s hi => ⟨xs, SqL.of (s _ _ h), by rw [← r.length]; rw [enumD_len] at hi; exact hi⟩
  go := fun i H s hi => by
    rw [enumD_len] at hi
    exact ⟨xs, xs[i]'(by rw [← r.length]; exact hi), SqL.of (s _ _ h), by simp [show i < xs.length by rw [← r.length]; exact hi]⟩
  yld := fun i F0 H0 F H n x H' s ok hi y => by
    obtain ⟨p, v, rfl, hp, rfl, hx⟩ := y
    have hx := hx xs (SqL.of (ok.sub _ _ (s _ _ h)))
    obtain ⟨d, e1, e2⟩ := r.get' hx
    obtain ⟨k1, k2⟩ := laid_tup (ds := [.v (.int (i : Nat)), d]) ok hp (.cons (.v _) (.cons (e2.mono s) .nil))
    exact ⟨_, _, by rw [enumD_get, e1, Nat.zero_add]; rfl, k1, k2⟩
@[reducible, simp] def iEnum' (ma : TDA) : TDA := fun st z Q EQ => ma st z (fun ds z1 => ∃ es, ds = [.lst es] ∧ Q (enumD 0 es) z1) EQ
theorem di_enum {elts : List Expr} {kk : Nat} {tpos : Pos} (hg : Gl X "enumerate") (hm : X.mg "enumerate" = none) (ha : DA T X E [e] mas) (hs : starEach [e] X.env = [(false, eval e X.env)] := by rfl) : DI T X E (.Tuple elts kk tpos) (.Call (.Name "enumerate" p) [e] [] pos) (iEnum' mas) := by
  obtain ⟨t, pt, q⟩ := ha.ex
  refine ⟨⟨_, pi_enum hg hm pt hs, fun st F0 H0 F H σ z Q EQ R r er h k => ?_⟩⟩
  refine q st F0 H0 F H σ z _ EQ _ r er h fun vs H1 F1 ds z1 s1 r1 p1 h1 => ?_
  obtain ⟨es, rfl, h2⟩ := h1
  cases p1 with
  | cons p1 t1 =>
    cases t1
    cases p1 with
    | lst hf rr => exact ⟨_, _, rfl, SqL.of (r1.ok.sub _ _ hf), k _ H1 F1 _ z1 s1 r1 (itok_enum hf rr) h2⟩
/-- zip of two lists -/
def zipD : List D → List D → List D
  | d :: ds, e :: es => .tup [d, e] :: zipD ds es
  | _, _ => []
theorem zipD_get : ∀ (ds es : List D) (i : Nat) (d e : D), ds[i]? = some d → es[i]? = some e → (zipD ds es)[i]? = some (.tup [d, e])
  | [], _, _, _, _, h, _ => by simp at h
  | _ :: _, [], _, _, _, _, h => by simp at h
  | d :: ds, e :: es, 0, _, _, h1, h2 => by simp at h1 h2; subst h1 h2; rfl
  | d :: ds, e :: es, i + 1, _, _, h1, h2 => by
    simp only [zipD, List.getElem?_cons_succ] at *
    exact zipD_get ds es i _ _ h1 h2
theorem zipD_len : ∀ (ds es : List D), (zipD ds es).length = min ds.length es.length
  | [], es => by simp [zipD]
  | _ :: _, [] => by simp [zipD]
  | d :: ds, e :: es => by simp [zipD, zipD_len ds es] <;> omega
theorem itok_zip {K : PySem.W.Frag} {st : Option Addr} {F1 : Hp} {a b : Addr} {xs ys : List V} {ds es : List D} (h : F1 a = some (.lst xs)) (r : Reps K F1 ds xs) (h2 : F1 b = some (.lst ys)) (r2 : Reps K F1 es ys) : ItOk K T st F1 (Itz K a b) (zipD ds es) where
  stop := fun i H s hi => ⟨xs, ys, SqL.of (s _ _ h), SqL.of (s _ _ h2), by rw [zipD_len, r.length, r2.length] at hi; omega⟩
  go := fun i H s hi => by
    rw [zipD_len, r.length, r2.length] at hi
    exact ⟨xs, ys, xs[i]'(by omega), ys[i]'(by omega), SqL.of (s _ _ h), SqL.of (s _ _ h2), by simp [show i < xs.length by omega], by simp [show i < ys.length by omega]⟩
  yld := fun i F0 H0 F H n x H' s ok hi y => by
    obtain ⟨p, v, u, rfl, hp, rfl, hx, hy⟩ := y
    have hx := hx xs (SqL.of (ok.sub _ _ (s _ _ h)))
    have hy := hy ys (SqL.of (ok.sub _ _ (s _ _ h2)))
    obtain ⟨d, e1, e2⟩ := r.get' hx
    obtain ⟨e, f1, f2⟩ := r2.get' hy
    obtain ⟨k1, k2⟩ := laid_tup (ds := [d, e]) ok hp (.cons (e2.mono s) (.cons (f2.mono s) .nil))
    exact ⟨_, _, zipD_get _ _ _ _ _ e1 f1, k1, k2⟩
@[reducible, simp] def iZip' (ma : TDA) : TDA := fun st z Q EQ => ma st z (fun ds z1 => ∃ xs ys, ds = [.lst xs, .lst ys] ∧ Q (zipD xs ys) z1) EQ
theorem di_zip {e2 : Expr} {elts : List Expr} {kk : Nat} {tpos : Pos} (ha : DA T X E [e, e2] mas) (hp : ∀ {t : TA}, PA X [e, e2] t → PI X (.Tuple elts kk tpos) (.Call (.Name "zip" p) [e, e2] [] pos) (iZip X.K t)) : DI T X E (.Tuple elts kk tpos) (.Call (.Name "zip" p) [e, e2] [] pos) (iZip' mas) := by
  obtain ⟨t, pt, q⟩ := ha.ex
  refine ⟨⟨_, hp pt, fun st F0 H0 F H σ z Q EQ R r er h k => ?_⟩⟩
  refine q st F0 H0 F H σ z _ EQ _ r er h fun vs H1 F1 ds z1 s1 r1 p1 h1 => ?_
  obtain ⟨xs, ys, rfl, h2⟩ := h1
  cases p1 with
  | cons p1 t1 =>
    cases t1 with
    | cons p2 t2 =>
      cases t2
      cases p1 with
      | lst hf rr =>
        cases p2 with
        | lst hf2 rr2 => exact ⟨_, _, _, _, rfl, SqL.of (r1.ok.sub _ _ hf), SqL.of (r1.ok.sub _ _ hf2), k _ H1 F1 _ z1 s1 r1 (itok_zip hf rr hf2 rr2) h2⟩

/-! ### for -/
def forD (g : TDG) (mb : TDS) (st : Option Addr) (D0 : DEnds) (EQ : TEX) : List D → Z → Prop
  | [], z => D0.nx z
  | d :: ds, z => g d z fun z1 => mb st { nx := forD g mb st D0 EQ ds, rt := D0.rt, bk := D0.nx, ct := forD g mb st D0 EQ ds } z1 EQ
@[reducible, simp] def sFor (mi : TDA) (g : TDG) (mb : TDS) : TDS := fun st D0 z EQ => mi st z (fun ds z1 => forD g mb st D0 EQ ds z1) EQ
theorem ds_for {iter : Expr} {body : List Stmt} {mi : TDA} {g : TDG} {mbb : TDS} {ws : List Nat} (hp : PassesOwn (model X.prog X.w) X.A X.env X.xe) (hc : X.calm = true) (hi : DI T X E tg iter mi) (hg : DG T X tg ws g) (hb : DB T X E body mbb)
    (hs : ∀ x, foldedSetIterable iter X.env x = pure x := by intro _; rfl) : DS T X E (.For tg iter body [] pos) (sFor mi g mbb) := by
  obtain ⟨wi, pi, qi⟩ := hi.ex
  obtain ⟨gt, pg, qg⟩ := hg.ex
  obtain ⟨tb, pb, qb⟩ := hb.ex
  refine ⟨⟨_, ps_for hp hc pi pg pb hs, fun st F0 H0 F H σ z D0 EQ D' r er h k => ?_⟩⟩
  refine qi st F0 H0 F H σ z _ EQ _ r er h fun J H1 F1 ds z1 s1 r1 it h1 => ?_
  refine ⟨fun i m σ H => ∃ F z, Same F1 F ∧ Rel X.K T st F0 H0 F H σ z ∧ forD g mbb st D0 EQ (ds.drop i) z ∧ m = ds.length - i ∧ i ≤ ds.length, ⟨ds.length, F1, z1, Same.refl F1, r1, h1, rfl, Nat.zero_le _⟩, ?_⟩
  rintro i m σ2 H2 ⟨F2, z2, s2, r2, h2, rfl, hi⟩
  by_cases hlt : i < ds.length
  · refine .inr ⟨it.go i H2 (s2.trans r2.ok.sub) hlt, fun σ3 H3 => ∃ F3 z3, Same F1 F3 ∧ Rel X.K T st F0 H0 F3 H3 σ3 z3 ∧ forD g mbb st D0 EQ (ds.drop (i + 1)) z3, ?_, ?_⟩
    · rintro σ3 H3 ⟨F3, z3, s3, r3, h3⟩
      exact ⟨ds.length - (i + 1), by omega, F3, z3, s3, r3, h3, rfl, hlt⟩
    · intro x H3 y
      obtain ⟨F3, d, hd, ok, rp⟩ := it.yld i _ _ F2 H2 _ x H3 s2 r2.ok hlt y
      have r3 := r2.after ok
      have e : ds.drop i = d :: ds.drop (i + 1) := by
        rw [List.drop_eq_getElem_cons hlt]
        have : ds[i] = d := by
          have q := List.getElem?_eq_some_iff.mp hd
          exact q.2
        rw [this]
      rw [e] at h2
      refine qg st F0 H0 F3 H3 σ2 z2 d x _ _ r3 rp h2 fun σ4 z4 r4 _ h4 => ?_
      have s13 : Same F1 F3 := s2.trans ok.f0
      refine qb st F0 H0 F3 H3 σ4 z4 _ EQ _ r4 er h4 ⟨fun σ5 H5 F5 z5 s5 r5 h5 => ⟨F5, z5, s13.trans s5, r5, h5⟩, fun σ5 H5 F5 z5 s5 r5 h5 => k.nx σ5 H5 F5 z5 ((s1.trans s13).trans s5) r5 h5, fun σ5 H5 F5 z5 s5 r5 h5 => ⟨F5, z5, s13.trans s5, r5, h5⟩, fun v H5 F5 rr n5 s5 ok5 rr5 h5 => k.rt v H5 F5 rr n5 ((s1.trans s13).trans s5) ok5 rr5 h5⟩
  · have e : i = ds.length := by omega
    subst e
    rw [List.drop_length] at h2
    exact .inl ⟨it.stop _ H2 (s2.trans r2.ok.sub) (Nat.le_refl _), k.nx σ2 H2 F2 z2 (s1.trans s2) r2 h2⟩

/-! ### comprehensions -/
def canE (K : PySem.W.Frag) (T : List (Addr × Str)) (m : TDE) : TE := fun σ H R => ∃ (st : Option Addr) (F0 H0 F : Hp) (z : Z) (Q : D → Z → Prop), Rel K T st F0 H0 F H σ z ∧ m st z Q (fun _ _ => False) ∧ ∀ v H' F' d z', Same F F' → Rel K T st F0 H0 F' H' σ z' → Rep K F' d v → Q d z' → R v H'
theorem DE.can (h : DE T X E0 e me) : PE X e (canE X.K T me) := by
  obtain ⟨t, p, q⟩ := h.ex
  refine ⟨fun pins s σ H R I h => ?_⟩
  obtain ⟨st, F0, H0, F, z, Q, r, hm, k⟩ := h
  exact p.run pins s σ H R I (q st F0 H0 F H σ z Q _ R r (fun _ _ _ _ _ _ _ _ _ _ _ z => z.elim) hm k)
def canT (K : PySem.W.Frag) (T : List (Addr × Str)) (m : TDT) : TT := fun σ H R => ∃ (st : Option Addr) (F0 H0 F : Hp) (z : Z) (Q : Bool → Nat → Prop), Rel K T st F0 H0 F H σ z ∧ m st z Q (fun _ _ => False) ∧ ∀ b H' n', Rel K T st F0 H0 F H' σ { z with n := n' } → Q b n' → R b H'
/-- a clause's tests -/
structure DTs (T : List (Addr × Str)) (X : Cx) (ifs : List Expr) (m : TDT) : Prop where
  can : PTs X ifs (canT X.K T m)
@[reducible, simp] def tAll : TDT := fun _ z Q _ => Q true z.n
theorem dts_nil : DTs T X [] tAll := ⟨⟨fun pins s σ H R I h => by
  obtain ⟨st, F0, H0, F, z, Q, r, hm, k⟩ := h
  exact pts_nil.run pins s σ H R I (k true H z.n r hm)⟩⟩
theorem dts_one (h : DT T X E0 e mt) : DTs T X [e] mt := by
  obtain ⟨t, p, q⟩ := h.ex
  refine ⟨⟨fun pins s σ H R I h => ?_⟩⟩
  obtain ⟨st, F0, H0, F, z, Q, r, hm, k⟩ := h
  exact (pts_one p).run pins s σ H R I (q st F0 H0 F H σ z Q _ R r (fun _ _ _ _ _ _ _ _ _ _ _ z => z.elim) hm k)
def canG (K : PySem.W.Frag) (T : List (Addr × Str)) (ws : List Nat) (m : TDG) : TG := fun v σ H R => ∃ (st : Option Addr) (F0 H0 F : Hp) (z : Z) (d : D) (Q : Z → Prop), Rel K T st F0 H0 F H σ z ∧ Rep K F d v ∧ m d z Q ∧ ∀ σ' z', Rel K T st F0 H0 F H σ' z' → Agree ws σ σ' → Q z' → R σ' H
theorem DG.can {ws : List Nat} {m : TDG} (h : DG T X tg ws m) : PG X tg (canG X.K T ws m) := by
  obtain ⟨g, p, q⟩ := h.ex
  refine ⟨fun pins s σ H v u R I rv h => ?_⟩
  obtain ⟨st, F0, H0, F, z, d, Q, r, rp, hm, k⟩ := h
  exact p.run pins s σ H v u R I rv (q st F0 H0 F H σ z d v Q R r rp hm k)
@[simp] def wipeE (env : List DV) : List Nat → List DV
  | [] => env
  | v :: vs => (wipeE env vs).set v .un
@[reducible, simp] def Z.wipe (z : Z) (vs : List Nat) : Z := { z with env := wipeE z.env vs }
theorem wipeE_len (env : List DV) : ∀ vs : List Nat, (wipeE env vs).length = env.length
  | [] => rfl
  | v :: vs => by rw [wipeE, List.length_set, wipeE_len env vs]
theorem wipeE_some {env : List DV} {i : Nat} {x : DV} : ∀ {vs : List Nat}, (wipeE env vs)[i]? = some x → x ≠ .un → env[i]? = some x ∧ i ∉ vs
  | [], h, _ => ⟨h, by simp⟩
  | v :: vs, h, hx => by
    rw [wipeE, List.getElem?_set] at h
    split at h
    · split at h
      · cases h; exact absurd rfl hx
      · cases h
    · rename_i hne
      obtain ⟨h1, h2⟩ := wipeE_some h hx
      exact ⟨h1, by simp [h2, Ne.symm hne]⟩
theorem wipe_in {σ : Sg} {i : Nat} : ∀ {vs : List Nat}, i ∈ vs → i < σ.length → (L2.wipe σ vs)[i]? = some none
  | [], h, _ => by simp at h
  | v :: vs, h, hl => by
    unfold L2.wipe
    by_cases e : v = i
    · subst e
      rw [set_self (by rw [L2.wipe_length]; exact hl)]
    · rw [set_out (Ne.symm e)]
      exact wipe_in ((List.mem_cons.mp h).resolve_left (Ne.symm e)) hl
theorem wipe_eq {σ σ' : Sg} {vs : List Nat} (hl : σ'.length = σ.length) (h : ∀ i : Nat, i ∉ vs → σ'[i]? = σ[i]?) : L2.wipe σ' vs = L2.wipe σ vs := by
  apply List.ext_getElem?
  intro i
  by_cases hi : i ∈ vs
  · by_cases hlt : i < σ.length
    · rw [wipe_in hi hlt, wipe_in hi (by rw [hl]; exact hlt)]
    · rw [List.getElem?_eq_none (by rw [L2.wipe_length, hl]; omega), List.getElem?_eq_none (by rw [L2.wipe_length]; omega)]
  · rw [L2.wipe_out hi, L2.wipe_out hi, h i hi]
theorem wipe_wipe (σ : Sg) (vs : List Nat) : L2.wipe (L2.wipe σ vs) vs = L2.wipe σ vs := wipe_eq (L2.wipe_length σ vs) fun i hi => L2.wipe_out hi
theorem Rel.wipe {K : PySem.W.Frag} {st : Option Addr} {F0 H0 F H : Hp} {σ σ' : Sg} {z : Z} {vs : List Nat} (r : Rel K T st F0 H0 F H σ' z) (h : L2.wipe σ' vs = L2.wipe σ vs) : Rel K T st F0 H0 F H (L2.wipe σ vs) (z.wipe vs) :=
  r.forget (by rw [L2.wipe_length, wipeE_len, ← r.len, ← L2.wipe_length σ' vs, h, L2.wipe_length]) fun i x hi hx => by
    obtain ⟨h1, h2⟩ := wipeE_some hi hx
    exact ⟨h1, by rw [← h, L2.wipe_out h2]⟩
theorem Rel.unwipe {K : PySem.W.Frag} {st : Option Addr} {F0 H0 F H : Hp} {σ : Sg} {z : Z} {vs : List Nat} (r : Rel K T st F0 H0 F H (L2.wipe σ vs) (z.wipe vs)) : Rel K T st F0 H0 F H σ (z.wipe vs) :=
  r.forget (env' := (z.wipe vs).env) (by rw [← r.len, L2.wipe_length]) fun i x hi hx => by
    obtain ⟨h1, h2⟩ := wipeE_some hi hx
    exact ⟨hi, by rw [L2.wipe_out h2]⟩
theorem Nw.wipe {K : PySem.W.Frag} {st : Option Addr} {F H0 H : Hp} {σ σ' : Sg} {z : Z} {vs : List Nat} {a : Addr} {o : D} (w : Nw K st F H0 H σ' z a o) (h : L2.wipe σ' vs = L2.wipe σ vs) : Nw K st F H0 H (L2.wipe σ vs) (z.wipe vs) a o :=
  ⟨w.own, fun i o' hi => by
    obtain ⟨h1, h2⟩ := wipeE_some hi (fun q => by cases q)
    rw [← h, L2.wipe_out h2]
    exact w.ap i o' h1⟩
theorem Nw.unwipe {K : PySem.W.Frag} {st : Option Addr} {F H0 H : Hp} {σ : Sg} {z : Z} {vs : List Nat} {a : Addr} {o : D} (w : Nw K st F H0 H (L2.wipe σ vs) (z.wipe vs) a o) : Nw K st F H0 H σ (z.wipe vs) a o :=
  ⟨w.own, fun i o' hi => by
    obtain ⟨h1, h2⟩ := wipeE_some hi (fun q => by cases q)
    rw [← L2.wipe_out (σ := σ) h2]
    exact w.ap i o' hi⟩
/-- a new cell is kept as it stands -/
def grd (H0 H : Hp) (a : Addr) : Hp := fun b => if b = a then H a else H0 b
theorem grd_same {H0 H : Hp} {a : Addr} : grd H0 H a a = H a := if_pos rfl
theorem grd_ne {H0 H : Hp} {a b : Addr} (h : b ≠ a) : grd H0 H a b = H0 b := if_neg h
theorem Rel.guard {K : PySem.W.Frag} {st : Option Addr} {F0 H0 F H : Hp} {σ : Sg} {z : Z} {a : Addr} {o : D} (r : Rel K T st F0 H0 F H σ z) (w : Nw K st F H0 H σ z a o) : Rel K T st F0 (grd H0 H a) F H σ z where
  ok := {
    sub := r.ok.sub
    nt := r.ok.nt
    f0 := r.ok.f0
    new := fun b u h => (r.ok.new b u h).imp id fun q => by
      by_cases e : b = a
      · rw [e, w.own.f] at h; cases h
      · exact fun o' h' => q o' (by rw [grd_ne e] at h'; exact h')
    keep := fun b u h h1 h2 => by
      by_cases e : b = a
      · rw [e, grd_same] at h; rw [e]; exact h
      · rw [grd_ne e] at h; exact r.ok.keep b u h h1 h2
    strm := r.ok.strm
    tabs := r.ok.tabs }
  len := r.len
  sh := r.sh
  ow := fun i o' h => by
    obtain ⟨b, h1, w1⟩ := r.ow i o' h
    have ne : b ≠ a := fun e => w.ap i o' h (by rw [h1, e])
    exact ⟨b, h1, w1.ho, w1.f, fun o2 h2 => w1.h0 o2 (by rw [grd_ne ne] at h2; exact h2), w1.st, w1.pin⟩
  apart := r.apart
  bs := fun i k d h => by
    obtain ⟨v, h1, h2⟩ := r.bs i k d h
    refine ⟨v, h1, ?_⟩
    cases k with
    | true => exact h2
    | false => exact RepN.mono (fun _ _ q => q) (fun b o q f => by
        have e : b ≠ a := fun e => by rw [e, w.own.f] at q; cases q
        exact fun o' h' => f o' (by rw [grd_ne e] at h'; exact h')) h2
theorem Rel.unguard {K : PySem.W.Frag} {st : Option Addr} {F0 H0 F H F1 H1 : Hp} {σ : Sg} {z : Z} {a : Addr} {o : D} (w : Own K st F H0 H a o) (s : Same F F1) (f0 : F0 a = none) (r : Rel K T st F0 (grd H0 H a) F1 H1 σ z) : Rel K T st F0 H0 F1 H1 σ z ∧ Nw K st F1 H0 H1 σ z a o := by
  obtain ⟨u, hu, c⟩ := w.ho
  have ga : grd H0 H a a = some u := by rw [grd_same]; exact hu
  have g0 : ∀ b, Fr (grd H0 H a) b → Fr H0 b ∧ b ≠ a := fun b h => by
    have e : b ≠ a := fun e => absurd rfl ((e ▸ h : Fr (grd H0 H a) a).ne ga c.nt)
    exact ⟨fun o' h' => h o' (by rw [grd_ne e]; exact h'), e⟩
  have fa : F1 a = none := by
    cases q : F1 a with
    | none => rfl
    | some v =>
      rcases r.ok.new a v q with k | k
      · rw [f0] at k; cases k
      · exact absurd rfl (k.ne ga c.nt)
  have ha : H1 a = some u := r.ok.keep a u ga w.st (fun ps => c.nt ps)
  refine ⟨⟨⟨r.ok.sub, r.ok.nt, r.ok.f0, fun b v h => (r.ok.new b v h).imp id fun q => (g0 b q).1, fun b v h h1 h2 => ?_, r.ok.strm, r.ok.tabs⟩, r.len, r.sh, fun i o' h => ?_, r.apart, fun i k d h => let ⟨v, h1, h2⟩ := r.bs i k d h; ⟨v, h1, by cases k with | true => exact h2 | false => exact RepN.mono (fun _ _ q => q) (fun b _ _ q => (g0 b q).1) h2⟩⟩, ⟨⟨⟨u, ha, c.mono s⟩, fa, w.h0, w.st, w.pin⟩, fun i o' h e => ?_⟩⟩
  · have ne : b ≠ a := w.h0.ne h h2
    exact r.ok.keep b v (by rw [grd_ne ne]; exact h) h1 h2
  · obtain ⟨b, h1, w1⟩ := r.ow i o' h
    exact ⟨b, h1, w1.ho, w1.f, (g0 b w1.h0).1, w1.st, w1.pin⟩
  · obtain ⟨b, h1, w1⟩ := r.ow i o' h
    rw [h1] at e
    have e2 : b = a := by cases e; rfl
    exact (g0 b w1.h0).2 e2
/-- the new cell is written -/
theorem Rel.putN {K : PySem.W.Frag} {st : Option Addr} {F0 H0 F H : Hp} {σ : Sg} {z : Z} {a : Addr} {o o' : D} {u' : HO} (r : Rel K T st F0 H0 F H σ z) (w : Nw K st F H0 H σ z a o) (c' : Cell K F o' u') : Rel K T st F0 H0 F (upd H a u') σ z ∧ Nw K st F H0 (upd H a u') σ z a o' := by
  obtain ⟨⟨⟨u, hu, c⟩, hf, h0, hs, pn⟩, ap⟩ := w
  refine ⟨⟨r.ok.put hu c.nt hf h0 hs c.nc, r.len, r.sh, fun i o1 h => ?_, r.apart, r.bs⟩, ⟨⟨⟨u', upd_same, c'.un⟩, hf, h0, hs, fun b d e => absurd e (c'.noat b d)⟩, ap⟩⟩
  obtain ⟨b, h1, w1⟩ := r.ow i o1 h
  have ne : b ≠ a := fun e => ap i o1 h (by rw [h1, e])
  exact ⟨b, h1, w1.mono (Same.refl F) w1.f (upd_ne ne)⟩
def compD (g : TDG) (mt : TDT) (me : TDE) (vs : List Nat) (st : Option Addr) (Q : D → Z → Prop) : List D → List D → Z → Prop
  | [], acc, z => Q (.lst acc) z
  | d :: ds, acc, z => g d z fun z1 => mt st z1 (fun b n => (b = true → me st { z1 with n := n } (fun y z2 => acc.length < 1000000 ∧ compD g mt me vs st Q ds (acc ++ [y]) (z2.wipe vs)) (fun _ _ => False)) ∧
      (b = false → compD g mt me vs st Q ds acc (({ z1 with n := n } : Z).wipe vs))) (fun _ _ => False)
@[reducible, simp] def mComp (mi : TDA) (g : TDG) (mt : TDT) (me : TDE) (vs : List Nat) : TDE := fun st z Q EQ => mi st z (fun ds z1 => compD g mt me vs st Q ds [] (z1.wipe vs)) EQ
theorem comp_ok {own : List (Str × Nat)} {ws : List Nat} {g : TDG} {st : Option Addr} {F0 H0 F1 H1 : Hp} {σ : Sg} {z1 : Z} {J : It} {ds : List D} {Q : D → Z → Prop} {K : PySem.W.Frag} {R : VK} (hw : ∀ i ∈ ws, i ∈ own.map (·.2)) (r1 : Rel K T st F0 H0 F1 H1 σ z1) (it : ItOk K T st F1 J ds)
    (h : compD g mt me (own.map (·.2)) st Q ds [] (z1.wipe (own.map (·.2)))) (k : ∀ a H' F' o z', Same F1 F' → Rel K T st F0 H0 F' H' σ z' → Nw K st F' H0 H' σ z' a o → Q o z' → R (.ref a) H') :
    ∀ Dl, H1 Dl = none → ∃ W : Nat → Nat → Hp → Prop, (∃ m, W 0 m (upd H1 Dl (.lst []))) ∧ ∀ i m H, W i m H →
      (J.stop i H ∧ R (.ref Dl) H) ∨ (J.go i H ∧ ∃ Nx : Hp → Prop, (∀ H', Nx H' → ∃ m', m' < m ∧ W (i + 1) m' H') ∧ ∀ x H', J.yld i H x H' → canG K T ws g x (L2.wipe σ (own.map (·.2))) H' fun σ2 H2 => L2.wipe σ2 (own.map (·.2)) = L2.wipe σ (own.map (·.2)) ∧ canT K T mt σ2 H2 fun b H3 =>
        if b = true then canE K T me σ2 H3 fun y H4 => ∃ acc, H4 Dl = some (.lst acc) ∧ acc.length < sizeLine ∧ Nx (upd H4 Dl (.lst (acc ++ [y]))) else Nx H3) := by
  intro Dl hD
  obtain ⟨vs, hvs⟩ : ∃ vs, vs = own.map (·.2) := ⟨_, rfl⟩
  rw [← hvs] at hw h ⊢
  obtain ⟨rs, ws0⟩ := r1.laid hD (Cell.lst (K := K) (F := F1) (ds := []) (xs := []) .nil)
  refine ⟨fun i m H => ∃ (F : Hp) (z : Z) (acc : List D), Same F1 F ∧ Rel K T st F0 H0 F H (L2.wipe σ vs) (z.wipe vs) ∧ Nw K st F H0 H (L2.wipe σ vs) (z.wipe vs) Dl (.lst acc) ∧ compD g mt me vs st Q (ds.drop i) acc (z.wipe vs) ∧ m = ds.length - i ∧ i ≤ ds.length,
    ⟨ds.length, F1, z1, [], Same.refl F1, rs.wipe rfl, ws0.wipe rfl, by rw [List.drop_zero]; exact h, rfl, Nat.zero_le _⟩, ?_⟩
  rintro i m H ⟨F, z, acc, s, r, w, hc, rfl, hi⟩
  by_cases hlt : i < ds.length
  · refine .inr ⟨it.go i H (s.trans r.ok.sub) hlt, fun H' => ∃ (F : Hp) (z : Z) (acc : List D), Same F1 F ∧ Rel K T st F0 H0 F H' (L2.wipe σ vs) (z.wipe vs) ∧ Nw K st F H0 H' (L2.wipe σ vs) (z.wipe vs) Dl (.lst acc) ∧ compD g mt me vs st Q (ds.drop (i + 1)) acc (z.wipe vs), ?_, ?_⟩
    · rintro H' ⟨F', z', acc', s', r', w', hc'⟩
      exact ⟨ds.length - (i + 1), by omega, F', z', acc', s', r', w', hc', rfl, hlt⟩
    · intro x H' y
      obtain ⟨F', d, hd, ok, rp⟩ := it.yld i _ _ F H _ x H' s r.ok hlt y
      have r2 := r.after ok
      have w2 := w.after ok
      have s2 : Same F1 F' := s.trans ok.f0
      have e : ds.drop i = d :: ds.drop (i + 1) := by
        rw [List.drop_eq_getElem_cons hlt]
        have : ds[i] = d := (List.getElem?_eq_some_iff.mp hd).2
        rw [this]
      rw [e] at hc
      have f0 : F0 Dl = none := Same.none r2.ok.f0 w2.own.f
      refine ⟨st, F0, grd H0 H' Dl, F', _, d, _, r2.guard w2, rp, hc, fun σ2 z2 r3 ag h3 => ?_⟩
      have hwp : L2.wipe σ2 vs = L2.wipe σ vs := by
        rw [← wipe_wipe σ vs]
        exact wipe_eq ag.1 fun i hi => ag.2 i fun q => hi (hw i q)
      refine ⟨hwp, st, F0, grd H0 H' Dl, F', z2, _, r3, h3, fun b H3 n3 r4 h4 => ?_⟩
      cases b with
      | true =>
        refine iteT ?_
        refine ⟨st, F0, grd H0 H' Dl, F', _, _, r4, h4.1 rfl, fun v H4 F4 y z4 s4 r5 p5 h5 => ?_⟩
        obtain ⟨r6, w6⟩ := Rel.unguard w2.own s4 f0 r5
        obtain ⟨u, hu, c⟩ := w6.own.ho
        cases c with
        | @lst _ xs rr =>
          refine ⟨xs, hu, size_lt (by rw [← rr.length]; exact h5.1), ?_⟩
          obtain ⟨r7, w7⟩ := r6.putN w6 (Cell.lst (rr.snoc p5))
          exact ⟨F4, z4, acc ++ [y], s2.trans s4, r7.wipe hwp, w7.wipe hwp, h5.2⟩
      | false =>
        refine iteF ?_
        obtain ⟨r6, w6⟩ := Rel.unguard w2.own (Same.refl F') f0 r4
        exact ⟨F', _, acc, s2, r6.wipe hwp, w6.wipe hwp, h4.2 rfl⟩
  · have e : i = ds.length := by omega
    subst e
    rw [List.drop_length] at hc
    exact .inl ⟨it.stop _ H (s.trans r.ok.sub) (Nat.le_refl _), k Dl H F _ _ s r.unwipe w.unwipe hc⟩
section
variable {scope : Scope} {own : List (Str × Nat)} {ws : List Nat} {g : TDG} {mi : TDA} {elt iter : Expr} {ifs : List Expr}
theorem dn_comp (hc : X.calm = true) (hN : X.N.Nodup) (hi : DI T X E tg iter mi) (ok : BlkOk X.N X.env.scope scope own) (hw : ∀ i ∈ ws, i ∈ own.map (·.2))
    (hg : ∀ (s : Shared) (H : Hp) (C : Addr) (cl : List (Str × Addr)) (fp : List Addr), DG T (X.blk s H scope (compEnvC scope cl C X.env) fp) tg ws g) (ht : ∀ (s : Shared) (H : Hp) (C : Addr) (cl : List (Str × Addr)) (fp : List Addr), DTs T (X.blk s H scope (compEnvC scope cl C X.env) fp) ifs mt)
    (he : ∀ (s : Shared) (H : Hp) (C : Addr) (cl : List (Str × Addr)) (fp : List Addr), DE T (X.blk s H scope (compEnvC scope cl C X.env) fp) E0 elt me) (hs : ∀ x, foldedSetIterable iter X.env x = pure x := by intro _; rfl) :
    DN T X E (.ListComp elt [⟨tg, iter, ifs, 0⟩] scope pos) (mComp mi g mt me (own.map (·.2))) := by
  obtain ⟨wi, pi, qi⟩ := hi.ex
  refine ⟨⟨_, pe_lc (g := canG X.K T ws g) (tt := canT X.K T mt) (te := canE X.K T me) hc hN pi ok (fun s H C cl fp => (hg s H C cl fp).can) (fun s H C cl fp => (ht s H C cl fp).can) (fun s H C cl fp => (he s H C cl fp).can) hs, fun st F0 H0 F H σ z Q EQ R r er h k => ?_⟩⟩
  refine qi st F0 H0 F H σ z _ EQ _ r er h fun J H1 F1 ds z1 s1 r1 it h1 => ?_
  exact comp_ok hw r1 it h1 fun a H' F' o z' s => k a H' F' o z' (s1.trans s)
/-- name = [..] on one line -/
theorem ds_comp (i : Nat) {y : Str} {py spos : Pos} (hc : X.calm = true) (hN : X.N.Nodup) (hi : DI T X E tg iter mi) (ok : BlkOk X.N X.env.scope scope own) (hw : ∀ i ∈ ws, i ∈ own.map (·.2))
    (hg : ∀ (s : Shared) (H : Hp) (C : Addr) (cl : List (Str × Addr)) (fp : List Addr), DG T (X.blk s H scope (compEnvC scope cl C X.env) fp) tg ws g) (ht : ∀ (s : Shared) (H : Hp) (C : Addr) (cl : List (Str × Addr)) (fp : List Addr), DTs T (X.blk s H scope (compEnvC scope cl C X.env) fp) ifs mt)
    (he : ∀ (s : Shared) (H : Hp) (C : Addr) (cl : List (Str × Addr)) (fp : List Addr), DE T (X.blk s H scope (compEnvC scope cl C X.env) fp) E0 elt me)
    (hy : X.N[i]? = some y := by rfl) (hyl : X.env.scope.names.lookup y = some .local := by rfl) (hsw : swapsWith (.ListComp elt [⟨tg, iter, ifs, 0⟩] scope pos) (some (.Name y py)) spos.line X.env = pure true := by exact sw_true rfl rfl rfl) (hs : ∀ x, foldedSetIterable iter X.env x = pure x := by intro _; rfl) :
    DS T X E (.Assign [.Name y py] (.ListComp elt [⟨tg, iter, ifs, 0⟩] scope pos) spos) (sSetN i (mComp mi g mt me (own.map (·.2)))) := by
  obtain ⟨wi, pi, qi⟩ := hi.ex
  refine ⟨⟨_, ps_setLc (g := canG X.K T ws g) (tt := canT X.K T mt) (te := canE X.K T me) hc hN hy hyl hsw pi ok (fun s H C cl fp => (hg s H C cl fp).can) (fun s H C cl fp => (ht s H C cl fp).can) (fun s H C cl fp => (he s H C cl fp).can) hs, fun st F0 H0 F H σ z D0 EQ D' r er h k => ?_⟩⟩
  refine qi st F0 H0 F H σ z _ EQ _ r er h fun J H1 F1 ds z1 s1 r1 it h1 => ?_
  exact comp_ok (R := fun x H1 => gName i x σ H1 D'.nx) hw r1 it h1 fun a H' F' o z' s r' w q => k.nx _ H' F' _ (s1.trans s) (r'.setN w) q
end
end
end DL
end

section
set_option Elab.async false
set_option linter.all false
set_option maxRecDepth 100000
set_option maxHeartbeats 4000000
/-! DL5: slices, dicts, built-ins by data. -/
namespace DL
open PySem PySem.Spec PyProof.Rows L2

/-! ### keys, dicts -/
@[reducible, simp] def kD : Key → D
  | .inl i => .v (.int i)
  | .inr x => .v (.str x)
def lookD (kvs : List (Key × D)) (k : Key) : Option D := (kvs.find? fun kv => decide (kv.1 = k)).map (·.2)
def putD (kvs : List (Key × D)) (k : Key) (d : D) : List (Key × D) :=
  if (kvs.any fun kv => decide (kv.1 = k)) = true then kvs.map (fun kv => if kv.1 = k then (kv.1, d) else kv) else kvs ++ [(k, d)]
section
variable {K : PySem.W.Frag} {F H : Hp}
theorem kD_rep {k : Key} {v : V} (r : Rep K F (kD k) v) : v = kV k := by
  cases k <;> cases r <;> rfl
theorem look_rep : ∀ {kvs : List (Key × D)} {es : List (Key × V)} (k : Key), es.map (·.1) = kvs.map (·.1) → Reps K F (kvs.map (·.2)) (es.map (·.2)) → (∀ d, lookD kvs k = some d → ∃ v, valV es k = some v ∧ Rep K F d v) ∧ (lookD kvs k = none → valV es k = none)
  | [], [], k, _, _ => ⟨fun d h => by simp [lookD] at h, fun _ => rfl⟩
  | [], _ :: _, _, h, _ => by simp at h
  | _ :: _, [], _, h, _ => by simp at h
  | (k1, d1) :: kvs, (k2, v2) :: es, k, hk, r => by
    simp only [List.map_cons, List.cons.injEq] at hk
    obtain ⟨e, hk⟩ := hk
    subst e
    have r' : Reps K F (d1 :: kvs.map (·.2)) (v2 :: es.map (·.2)) := r
    cases r' with
    | cons h t =>
      by_cases e : k2 = k
      · subst e
        refine ⟨fun d hd => ?_, fun hd => ?_⟩
        · simp [lookD] at hd
          subst hd
          exact ⟨v2, by simp [valV], h⟩
        · simp [lookD] at hd
      · have ih := look_rep k hk t
        refine ⟨fun d hd => ?_, fun hd => ?_⟩
        · have hd' : lookD kvs k = some d := by simpa [lookD, e] using hd
          obtain ⟨v, h1, h2⟩ := ih.1 d hd'
          exact ⟨v, by simpa [valV, e] using h1, h2⟩
        · have hd' : lookD kvs k = none := by simpa [lookD, e] using hd
          simpa [valV, e] using ih.2 hd'
theorem any_keys {es : List (Key × V)} {kvs : List (Key × D)} (h : es.map (·.1) = kvs.map (·.1)) (k : Key) : (es.any fun kv => decide (kv.1 = k)) = kvs.any fun kv => decide (kv.1 = k) := by
  have e1 : (es.any fun kv => decide (kv.1 = k)) = (es.map (·.1)).any fun x => decide (x = k) := by simp [List.any_map, Function.comp_def]
  have e2 : (kvs.any fun kv => decide (kv.1 = k)) = (kvs.map (·.1)).any fun x => decide (x = k) := by simp [List.any_map, Function.comp_def]
  rw [e1, e2, h]
theorem put_map : ∀ {kvs : List (Key × D)} {es : List (Key × V)} (k : Key) {d : D} {v : V}, es.map (·.1) = kvs.map (·.1) → Reps K F (kvs.map (·.2)) (es.map (·.2)) → Rep K F d v →
    Reps K F ((kvs.map fun kv => if kv.1 = k then (kv.1, d) else kv).map (·.2)) ((es.map fun kv => if kv.1 = k then (kv.1, v) else kv).map (·.2))
  | [], [], _, _, _, _, _, _ => .nil
  | [], _ :: _, _, _, _, h, _, _ => by simp at h
  | _ :: _, [], _, _, _, h, _, _ => by simp at h
  | (k1, d1) :: kvs, (k2, v2) :: es, k, d, v, hk, r, rp => by
    simp only [List.map_cons, List.cons.injEq] at hk
    obtain ⟨e, hk⟩ := hk
    subst e
    have r' : Reps K F (d1 :: kvs.map (·.2)) (v2 :: es.map (·.2)) := r
    cases r' with
    | cons h t =>
      have ih := put_map k hk t rp
      by_cases e : k2 = k
      · simp only [List.map_cons, e, if_true]
        exact .cons rp ih
      · simp only [List.map_cons, e, if_false]
        exact .cons h ih
theorem put_keys {α : Type} (kvs : List (Key × α)) (k : Key) (a : α) : (kvs.map fun kv => if kv.1 = k then (kv.1, a) else kv).map (·.1) = kvs.map (·.1) := by
  rw [List.map_map]
  apply List.map_congr_left
  intro x _
  simp only [Function.comp]
  split <;> rfl
theorem Cell.put {kvs : List (Key × D)} {es : List (Key × V)} {k : Key} {d : D} {v : V} (hk : es.map (·.1) = kvs.map (·.1)) (r : Reps K F (kvs.map (·.2)) (es.map (·.2))) (rp : Rep K F d v) : Cell K F (.dic (putD kvs k d)) (.dK (putK es k v)) := by
  unfold putD putK
  rw [any_keys hk k]
  split
  · exact .dic (by rw [put_keys, put_keys, hk]) (put_map k hk r rp)
  · exact .dic (by rw [List.map_append, List.map_append, hk]; rfl) (by rw [List.map_append, List.map_append]; exact r.append (.one rp))
end

section
variable {T : List (Addr × Str)} {X : Cx} {E : XK} {e a b o i f : Expr} {es : List Expr} {pos p : Pos} {me ma mb mo mi mf : TDE} {mt mu : TDT} {mas : TDA} {k j : Nat} {x : Str}
theorem dget_of {K : PySem.W.Frag} {F H : Hp} {a : Addr} {es : List (Key × V)} {kvs : List (Key × D)} (key : Key) (h : F a = some (.dK es)) (s : Same F H) : DGet H a (kV key) (valV es key) := DGet.k (s _ _ h)
/-- d.get(k) -/
@[reducible, simp] def mGet1 (mo mi : TDE) : TDE := fun st z Q EQ => mo st z (fun d z1 => ∃ kvs, d = .dic kvs ∧ mi st z1 (fun y z2 => ∃ key, y = kD key ∧ Q ((lookD kvs key).getD (.v .non)) z2) EQ) EQ
theorem de_get1 {apos cpos : Pos} (hu : X.A.units + 1 < cLine) (ho : DE T X E o mo) (hi : DE T X E i mi) (m : M1 X o "get" apos i cpos) : DE T X E (.Call (.Attribute o "get" apos) [i] [] cpos) (mGet1 mo mi) := by
  obtain ⟨t, pt, q⟩ := ho.ex
  obtain ⟨u, pu, q2⟩ := hi.ex
  refine ⟨⟨_, pe_dget1 hu pt pu m, fun st F0 H0 F H σ z Q EQ R r er h k => ?_⟩⟩
  refine q st F0 H0 F H σ z _ EQ _ r er h fun v H1 F1 d z1 s1 r1 p1 h1 => ?_
  obtain ⟨kvs, rfl, h2⟩ := h1
  cases p1 with
  | @dic a es _ hf hk rr =>
    refine ⟨a, rfl, .inl ⟨es, .inl (r1.ok.sub _ _ hf)⟩, ?_⟩
    refine q2 st F0 H0 F1 H1 σ z1 _ EQ _ r1 er h2 fun v2 H2 F2 y z2 s2 r2 p2 h3 => ?_
    obtain ⟨key, rfl, h4⟩ := h3
    have ev := kD_rep p2
    subst ev
    have hl := look_rep (K := X.K) (F := F1) key hk rr
    refine ⟨valV es key, dget_of (K := X.K) (kvs := kvs) key (s2 _ _ hf) r2.ok.sub, ?_⟩
    cases e : lookD kvs key with
    | none =>
      rw [hl.2 e]
      rw [e] at h4
      exact k _ H2 F2 _ z2 (s1.trans s2) r2 (.v _) h4
    | some d =>
      obtain ⟨v, e1, e2⟩ := hl.1 d e
      rw [e1]
      rw [e] at h4
      exact k _ H2 F2 _ z2 (s1.trans s2) r2 (e2.mono s2) h4
/-- d.get(k, x) -/
@[reducible, simp] def mGet2 (mo mi mf : TDE) : TDE := fun st z Q EQ => mo st z (fun d z1 => ∃ kvs, d = .dic kvs ∧ mi st z1 (fun y z2 => mf st z2 (fun x z3 => ∃ key, y = kD key ∧ Q ((lookD kvs key).getD x) z3) EQ) EQ) EQ
theorem de_get2 {apos cpos : Pos} (hu : X.A.units + 1 < cLine) (ho : DE T X E o mo) (hi : DE T X E i mi) (hf' : DE T X E f mf) (m : M2 X o "get" apos i f cpos) : DE T X E (.Call (.Attribute o "get" apos) [i, f] [] cpos) (mGet2 mo mi mf) := by
  obtain ⟨t, pt, q⟩ := ho.ex
  obtain ⟨u, pu, q2⟩ := hi.ex
  obtain ⟨w, pw, q3⟩ := hf'.ex
  refine ⟨⟨_, pe_dget2 hu pt pu pw m, fun st F0 H0 F H σ z Q EQ R r er h k => ?_⟩⟩
  refine q st F0 H0 F H σ z _ EQ _ r er h fun v H1 F1 d z1 s1 r1 p1 h1 => ?_
  obtain ⟨kvs, rfl, h2⟩ := h1
  cases p1 with
  | @dic a es _ hf hk rr =>
    refine ⟨a, rfl, .inl ⟨es, .inl (r1.ok.sub _ _ hf)⟩, ?_⟩
    refine q2 st F0 H0 F1 H1 σ z1 _ EQ _ r1 er h2 fun v2 H2 F2 y z2 s2 r2 p2 h3 => ?_
    refine q3 st F0 H0 F2 H2 σ z2 _ EQ _ r2 er h3 fun v3 H3 F3 x z3 s3 r3 p3 h4 => ?_
    obtain ⟨key, rfl, h4⟩ := h4
    have ev := kD_rep p2
    subst ev
    have hl := look_rep (K := X.K) (F := F1) key hk rr
    have s13 := s2.trans s3
    refine ⟨valV es key, dget_of (K := X.K) (kvs := kvs) key (s13 _ _ hf) r3.ok.sub, ?_⟩
    cases e : lookD kvs key with
    | none =>
      rw [hl.2 e]
      rw [e] at h4
      exact k _ H3 F3 _ z3 (s1.trans s13) r3 p3 h4
    | some d =>
      obtain ⟨v, e1, e2⟩ := hl.1 d e
      rw [e1]
      rw [e] at h4
      exact k _ H3 F3 _ z3 (s1.trans s13) r3 (e2.mono s13) h4
/-- d[k] that is there -/
@[reducible, simp] def gAt : G2 := fun d1 d2 Q => ∃ kvs key d, d1 = .dic kvs ∧ d2 = kD key ∧ lookD kvs key = some d ∧ Q d
theorem de_at (hu : X.A.units + 1 < cLine) (ho : DE T X E o mo) (hi : DE T X E i mi) (hs : NoSl i := by exact fun _ _ => rfl) : DE T X E (.Subscript o i pos) (mOp gAt mo mi) := by
  obtain ⟨t, pt, q⟩ := ho.ex
  obtain ⟨u, pu, q2⟩ := hi.ex
  refine ⟨⟨_, pe_dget hu pt pu hs, fun st F0 H0 F H σ z Q EQ R r er h k => ?_⟩⟩
  refine q st F0 H0 F H σ z _ EQ _ r er h fun v H1 F1 d z1 s1 r1 p1 h1 => ?_
  refine q2 st F0 H0 F1 H1 σ z1 _ EQ _ r1 er h1 fun v2 H2 F2 y z2 s2 r2 p2 h3 => ?_
  obtain ⟨kvs, key, d, rfl, rfl, e, h4⟩ := h3
  have ev := kD_rep p2
  subst ev
  cases p1 with
  | @dic a es _ hf hk rr =>
    obtain ⟨v, e1, e2⟩ := (look_rep (K := X.K) (F := F1) key hk rr).1 d e
    exact ⟨a, v, rfl, by rw [← e1]; exact dget_of (K := X.K) (kvs := kvs) key (s2 _ _ hf) r2.ok.sub, k _ H2 F2 _ z2 (s1.trans s2) r2 (e2.mono s2) h4⟩
/-- k in d, k not in d -/
@[reducible, simp] def gInD' (neg : Bool) : G2 := fun d1 d2 Q => ∃ kvs key, d1 = kD key ∧ d2 = .dic kvs ∧ Q (.v (.bl (if neg then !(lookD kvs key).isSome else (lookD kvs key).isSome)))
theorem look_some {K : PySem.W.Frag} {F : Hp} {kvs : List (Key × D)} {es : List (Key × V)} (key : Key) (hk : es.map (·.1) = kvs.map (·.1)) (r : Reps K F (kvs.map (·.2)) (es.map (·.2))) : (valV es key).isSome = (lookD kvs key).isSome := by
  have hl := look_rep (K := K) (F := F) key hk r
  cases e : lookD kvs key with
  | none => rw [hl.2 e]; rfl
  | some d =>
    obtain ⟨v, e1, _⟩ := hl.1 d e
    rw [e1]; rfl
theorem de_inD (hu : X.A.units + 1 < cLine) (hi : DE T X E i mi) (ho : DE T X E o mo) (hm : behindInMarks .In o = false := by rfl) : DE T X E (.Compare i [.In] [o] pos) (mOp (gInD' false) mi mo) := by
  obtain ⟨t, pt, q⟩ := ho.ex
  obtain ⟨u, pu, q2⟩ := hi.ex
  refine ⟨⟨_, pe_cmp (pc_din hu pu pt) hm, fun st F0 H0 F H σ z Q EQ R r er h k => ?_⟩⟩
  refine q2 st F0 H0 F H σ z _ EQ _ r er h fun v2 H1 F1 y z1 s1 r1 p2 h1 => ?_
  refine q st F0 H0 F1 H1 σ z1 _ EQ _ r1 er h1 fun v H2 F2 d z2 s2 r2 p1 h3 => ?_
  obtain ⟨kvs, key, rfl, rfl, h4⟩ := h3
  have ev := kD_rep p2
  subst ev
  cases p1 with
  | @dic a es _ hf hk rr =>
    exact ⟨a, _, rfl, dget_of (K := X.K) (kvs := kvs) key hf r2.ok.sub, k _ H2 F2 _ z2 (s1.trans s2) r2 (by rw [look_some key hk rr]; exact .v _) h4⟩
theorem de_notInD (hu : X.A.units + 1 < cLine) (hi : DE T X E i mi) (ho : DE T X E o mo) (hm : behindInMarks .NotIn o = false := by rfl) : DE T X E (.Compare i [.NotIn] [o] pos) (mOp (gInD' true) mi mo) := by
  obtain ⟨t, pt, q⟩ := ho.ex
  obtain ⟨u, pu, q2⟩ := hi.ex
  refine ⟨⟨_, pe_cmp (pc_dnotin hu pu pt) hm, fun st F0 H0 F H σ z Q EQ R r er h k => ?_⟩⟩
  refine q2 st F0 H0 F H σ z _ EQ _ r er h fun v2 H1 F1 y z1 s1 r1 p2 h1 => ?_
  refine q st F0 H0 F1 H1 σ z1 _ EQ _ r1 er h1 fun v H2 F2 d z2 s2 r2 p1 h3 => ?_
  obtain ⟨kvs, key, rfl, rfl, h4⟩ := h3
  have ev := kD_rep p2
  subst ev
  cases p1 with
  | @dic a es _ hf hk rr =>
    exact ⟨a, _, rfl, dget_of (K := X.K) (kvs := kvs) key hf r2.ok.sub, k _ H2 F2 _ z2 (s1.trans s2) r2 (by rw [look_some key hk rr]; exact .v _) h4⟩
/-- x[k] = v, x an own slot that holds a dict -/
@[reducible, simp] def sPut (i : Nat) (mk mv : TDE) : TDS := fun st D0 z EQ => mv st z (fun v z1 => (∃ kvs, z1.env[i]? = some (.ow (.dic kvs))) ∧ mk st z1 (fun y z2 => ∃ kvs key, y = kD key ∧ z2.env[i]? = some (.ow (.dic kvs)) ∧ kvs.length < 1000000 ∧ D0.nx (z2.put i (.ow (.dic (putD kvs key v))))) EQ) EQ
theorem ow_dic {K : PySem.W.Frag} {st : Option Addr} {F0 H0 F H : Hp} {σ : Sg} {z : Z} {i : Nat} {kvs : List (Key × D)} (r : Rel K T st F0 H0 F H σ z) (h : z.env[i]? = some (.ow (.dic kvs))) : ∃ a es, σ[i]? = some (some (.ref a)) ∧ H a = some (.dK es) ∧ es.map (·.1) = kvs.map (·.1) ∧ Reps K F (kvs.map (·.2)) (es.map (·.2)) := by
  obtain ⟨a, e1, w⟩ := r.ow i _ h
  obtain ⟨u, hu, c⟩ := w.ho
  cases c with
  | dic hk rr => exact ⟨a, _, e1, hu, hk, rr⟩
theorem ds_put (ii : Nat) {ko value : Expr} {mk mv : TDE} {px pos' : Pos} (hu : X.A.units + 1 < cLine) (hk : DE T X E ko mk) (hv : DE T X E value mv) (hs : swapsWith value (some (.Subscript (.Name x px) ko pos')) pos.line X.env = pure false := by rfl)
    (hN : X.N[ii]? = some x := by rfl) (hvi : Vis X.env.scope x := by first | exact Or.inl rfl | exact Or.inr (Or.inl rfl) | exact Or.inr (Or.inr rfl)) (hd : (x == ("__debug__" : Str)) = false := by decide) (hcd : (x == ("__classdict__" : Str)) = false := by decide) :
    DS T X E (.Assign [.Subscript (.Name x px) ko pos'] value pos) (sPut ii mk mv) := by
  obtain ⟨t, pt, q⟩ := hk.ex
  obtain ⟨u, pu, q2⟩ := hv.ex
  refine ⟨⟨_, ps_dput hu (pe_var hN hvi hd hcd) pt pu hs, fun st F0 H0 F H σ z D0 EQ D' r er h k => ?_⟩⟩
  refine q2 st F0 H0 F H σ z _ EQ _ r er h fun v H1 F1 d z1 s1 r1 p1 h1 => ?_
  obtain ⟨⟨kv0, h0⟩, h1⟩ := h1
  obtain ⟨a0, es0, e0, hu0, _, _⟩ := ow_dic r1 h0
  refine ⟨.ref a0, e0, ?_⟩
  refine q st F0 H0 F1 H1 σ z1 _ EQ _ r1 er h1 fun v2 H2 F2 y z2 s2 r2 p2 h2 => ?_
  obtain ⟨kvs, key, rfl, he, hl, h3⟩ := h2
  have ev := kD_rep p2
  subst ev
  obtain ⟨a, es, e1, hu1, hke, rr⟩ := ow_dic r2 he
  rw [e0] at e1
  have ea : a0 = a := by cases e1; rfl
  subst ea
  have hlen : es.length < 1000000 := by
    have e := congrArg List.length hke
    rw [List.length_map, List.length_map] at e
    omega
  refine ⟨a0, _, rfl, DPut.k hu1 (size_lt hlen), ?_⟩
  exact k.nx σ _ F2 _ (s1.trans s2) (r2.put he e0 (Cell.put hke rr (p1.mono s2))) h3
/-- list(d.items()) -/
theorem Ok.ext {st : Option Addr} {F0 H0 F H H' : Hp} {n : Nat} (a : Ok T st F0 H0 F H n) (s : Same H H') : Ok T st F0 H0 F H' n where
  sub := a.sub.trans s
  nt := a.nt
  f0 := a.f0
  new := a.new
  keep := fun x u h h1 h2 => s _ _ (a.keep x u h h1 h2)
  strm := fun sp h => by
    obtain ⟨h1, h2⟩ := a.strm sp h
    cases q : H sp with
    | none => exact absurd q h2.some
    | some u => exact ⟨h1, h2.at ((s _ _ q).trans q.symm)⟩
  tabs := a.tabs.ext s
theorem Ok.grow {st : Option Addr} {F0 H0 F H H' : Hp} {n : Nat} (a : Ok T st F0 H0 F H n) (s : Same H H') (ts : List Addr) (hn : ∀ t ∈ ts, H t = none) (ht : ∀ t ∈ ts, ∃ xs, H' t = some (.tup xs)) : Ok T st F H (fun b => if b ∈ ts then H' b else F b) H' n where
  sub := fun x u h => by
    by_cases e : x ∈ ts
    · simp only [e, if_true] at h; exact h
    · simp only [e, if_false] at h; exact s _ _ (a.sub x u h)
  nt := fun x ps h => by
    by_cases e : x ∈ ts
    · simp only [e, if_true] at h
      obtain ⟨xs, hx⟩ := ht x e
      rw [hx] at h; cases h
    · simp only [e, if_false] at h; exact a.nt x ps h
  f0 := fun x u h => by
    by_cases e : x ∈ ts
    · have := a.sub x u h
      rw [hn x e] at this; cases this
    · simp only [e, if_false]; exact h
  new := fun x u h => by
    by_cases e : x ∈ ts
    · exact .inr (.of (hn x e))
    · simp only [e, if_false] at h; exact .inl h
  keep := fun x u h _ _ => s _ _ h
  strm := fun sp h => by
    obtain ⟨h1, h2⟩ := a.strm sp h
    have e : sp ∉ ts := fun q => h2.some (hn sp q)
    refine ⟨by simp only [e, if_false]; exact h1, ?_⟩
    cases q : H sp with
    | none => exact absurd q h2.some
    | some u => exact h2.at ((s _ _ q).trans q.symm)
  tabs := a.tabs.ext s
def itemsD (kvs : List (Key × D)) : List D := kvs.map fun kv => .tup [kD kv.1, kv.2]
@[reducible, simp] def mItems (me : TDE) : TDE := fun st z Q EQ => me st z (fun d z1 => ∃ kvs, d = .dic kvs ∧ kvs.length ≤ 1000000 ∧ Q (.lst (itemsD kvs)) z1) EQ
theorem items_rep {K : PySem.W.Frag} {F : Hp} : ∀ {ts : List Addr} {es : List (Key × V)} {kvs : List (Key × D)}, Paired (fun (t : Addr) (q : Key × V) => F t = some (.tup [kV q.1, q.2])) ts es → es.map (·.1) = kvs.map (·.1) → Reps K F (kvs.map (·.2)) (es.map (·.2)) → Reps K F (itemsD kvs) (ts.map V.ref)
  | _, _, [], .nil, _, _ => .nil
  | _, _, _ :: _, .nil, h, _ => by simp at h
  | _, _, [], .cons _ _, h, _ => by simp at h
  | _, _, (k1, d1) :: kvs, .cons h t, hk, r => by
    simp only [List.map_cons, List.cons.injEq] at hk
    obtain ⟨e, hk⟩ := hk
    cases r with
    | cons hr tr =>
      refine .cons (.tup (SqT.of h) (.cons ?_ (.cons hr .nil))) (items_rep t hk tr)
      rw [e]
      cases k1 <;> exact .v _
theorem dn_items {apos cpos : Pos} (he : DE T X E e me) (hp : ∀ {t : TE}, PE X e t → PE X (.Call (.Name "list" p) [.Call (.Attribute e "items" apos) [] [] cpos] [] pos) (LiI.tListItems t)) : DN T X E (.Call (.Name "list" p) [.Call (.Attribute e "items" apos) [] [] cpos] [] pos) (mItems me) := by
  obtain ⟨t, pt, q⟩ := he.ex
  refine ⟨⟨_, hp pt, fun st F0 H0 F H σ z Q EQ R r er h k => ?_⟩⟩
  refine q st F0 H0 F H σ z _ EQ _ r er h fun v H1 F1 d z1 s1 r1 p1 h1 => ?_
  obtain ⟨kvs, rfl, hl, h2⟩ := h1
  cases p1 with
  | @dic a es _ hf hk rr =>
    refine ⟨a, es, rfl, r1.ok.sub _ _ hf, fun H2 l ts s2 hp ht hnin hl2 hpr => ?_⟩
    have hts : ∀ t ∈ ts, ∃ xs, H2 t = some (.tup xs) := fun t hm => by
      obtain ⟨j, y, e1, e2, e3⟩ := LiI.paired_ix hpr hm
      exact ⟨_, e3⟩
    have ok := r1.ok.grow s2 ts ht hts
    have r2 := r1.after ok
    have hpr' : Paired (fun (t : Addr) (q : Key × V) => (fun b => if b ∈ ts then H2 b else F1 b) t = some (.tup [kV q.1, q.2])) ts es := by
      have gen : ∀ {l : List Addr} {m : List (Key × V)}, (∀ t ∈ l, t ∈ ts) → Paired (fun (t : Addr) (q : Key × V) => H2 t = some (.tup [kV q.1, q.2])) l m → Paired (fun (t : Addr) (q : Key × V) => (fun b => if b ∈ ts then H2 b else F1 b) t = some (.tup [kV q.1, q.2])) l m := by
        intro l m hm hp
        induction hp with
        | nil => exact .nil
        | cons h t ih =>
          refine .cons ?_ (ih fun x hx => hm x (List.mem_cons_of_mem _ hx))
          simp only [hm _ List.mem_cons_self, if_true]
          exact h
      exact gen (fun t h => h) hpr
    have rp : Reps X.K (fun b => if b ∈ ts then H2 b else F1 b) (itemsD kvs) (ts.map V.ref) := items_rep hpr' hk (rr.mono ok.f0)
    refine k l H2 _ (.lst (itemsD kvs)) _ (s1.trans ok.f0) r2 ⟨⟨⟨_, hl2, .lst rp⟩, ?_, r1.ok.dom l hp, fun q => (r1.ok.strm l q).2.some hp, fun b d e => by cases e⟩, ?_⟩ h2
    · simp only [hnin, if_false]
      exact Same.none r1.ok.sub hp
    · exact r1.own_ne (.of hp)

/-! ### slices -/
abbrev TDO := Option Addr → Z → (Option Int → Z → Prop) → TEX → Prop
structure DO (T : List (Addr × Str)) (X : Cx) (E : XK) (e : Option Expr) (m : TDO) : Prop where
  ex : ∃ t : TO, PO X e t ∧ ∀ (st : Option Addr) (F0 H0 F H : Hp) (σ : Sg) (z : Z) (Q : Option Int → Z → Prop) (EQ : TEX) (R : Option Int → Hp → Prop), Rel X.K T st F0 H0 F H σ z → ERel X.K T st F0 H0 E EQ → m st z Q EQ →
    (∀ o H' F' z', Same F F' → Rel X.K T st F0 H0 F' H' σ z' → Q o z' → R o H') → t σ H R
@[reducible, simp] def oNo : TDO := fun _ z Q _ => Q none z
@[reducible, simp] def oYes (me : TDE) : TDO := fun st z Q EQ => me st z (fun d z1 => ∃ i, d = .v (.int i) ∧ Q (some i) z1) EQ
theorem do_none : DO T X E none oNo := ⟨⟨_, po_none, fun st F0 H0 F H σ z Q EQ R r er h k => k none H F z (Same.refl F) r h⟩⟩
theorem do_some (h : DE T X E e me) : DO T X E (some e) (oYes me) := by
  obtain ⟨t, pt, q⟩ := h.ex
  refine ⟨⟨_, po_some pt, fun st F0 H0 F H σ z Q EQ R r er h k => ?_⟩⟩
  refine q st F0 H0 F H σ z _ EQ _ r er h fun v H1 F1 d z1 s1 r1 p1 h1 => ?_
  obtain ⟨i, rfl, h2⟩ := h1
  cases p1
  exact ⟨i, rfl, k _ H1 F1 z1 s1 r1 h2⟩
def cutD (ds : List D) (lo hi : Option Int) : List D := (ds.drop (HT.sIx ds.length 0 lo)).take (HT.sIx ds.length ds.length hi - HT.sIx ds.length 0 lo)
theorem cut_rep {K : PySem.W.Frag} {F : Hp} {ds : List D} {xs : List V} (r : Reps K F ds xs) (lo hi : Option Int) : Reps K F (cutD ds lo hi) (cutV xs lo hi) := by
  unfold cutD cutV
  rw [r.length]
  exact (r.drop _).take _
@[reducible, simp] def mSlL (me : TDE) (ml mh : TDO) : TDE := fun st z Q EQ => me st z (fun d z1 => ml st z1 (fun lo z2 => mh st z2 (fun hi z3 => ∃ ds, d = .lst ds ∧ Q (.lst (cutD ds lo hi)) z3) EQ) EQ) EQ
theorem dn_slice {lo hi : Option Expr} {p2 : Pos} {ml mh : TDO} (he : DE T X E e me) (hl : DO T X E lo ml) (hh : DO T X E hi mh) : DN T X E (.Subscript e (.Slice lo hi none p2) pos) (mSlL me ml mh) := by
  obtain ⟨t, pt, q⟩ := he.ex
  obtain ⟨tl, pl, ql⟩ := hl.ex
  obtain ⟨th, ph, qh⟩ := hh.ex
  refine ⟨⟨_, pe_slice sl_list pt pl ph, fun st F0 H0 F H σ z Q EQ R r er h k => ?_⟩⟩
  refine q st F0 H0 F H σ z _ EQ _ r er h fun v H1 F1 d z1 s1 r1 p1 h1 => ?_
  refine ql st F0 H0 F1 H1 σ z1 _ EQ _ r1 er h1 fun a H2 F2 z2 s2 r2 h2 => ?_
  refine qh st F0 H0 F2 H2 σ z2 _ EQ _ r2 er h2 fun b H3 F3 z3 s3 r3 h3 => ?_
  obtain ⟨ds, rfl, h4⟩ := h3
  cases p1.mono (s2.trans s3) with
  | lst hf rr =>
    refine ⟨_, _, rfl, SqL.of (r3.ok.sub _ _ hf), fun p hp => ?_⟩
    obtain ⟨r4, w⟩ := r3.laid hp (Cell.lst (cut_rep rr a b))
    exact k p _ F3 _ z3 ((s1.trans s2).trans s3) r4 w h4
@[reducible, simp] def mSlT (me : TDE) (ml mh : TDO) : TDE := fun st z Q EQ => me st z (fun d z1 => ml st z1 (fun lo z2 => mh st z2 (fun hi z3 => ∃ ds, d = .tup ds ∧ ¬ (HT.sIx ds.length 0 lo = 0 ∧ HT.sIx ds.length ds.length hi = ds.length) ∧ Q (.tup (cutD ds lo hi)) z3) EQ) EQ) EQ
theorem de_sliceT {lo hi : Option Expr} {p2 : Pos} {ml mh : TDO} (he : DE T X E e me) (hl : DO T X E lo ml) (hh : DO T X E hi mh) : DE T X E (.Subscript e (.Slice lo hi none p2) pos) (mSlT me ml mh) := by
  obtain ⟨t, pt, q⟩ := he.ex
  obtain ⟨tl, pl, ql⟩ := hl.ex
  obtain ⟨th, ph, qh⟩ := hh.ex
  refine ⟨⟨_, pe_slice sl_tup pt pl ph, fun st F0 H0 F H σ z Q EQ R r er h k => ?_⟩⟩
  refine q st F0 H0 F H σ z _ EQ _ r er h fun v H1 F1 d z1 s1 r1 p1 h1 => ?_
  refine ql st F0 H0 F1 H1 σ z1 _ EQ _ r1 er h1 fun a H2 F2 z2 s2 r2 h2 => ?_
  refine qh st F0 H0 F2 H2 σ z2 _ EQ _ r2 er h2 fun b H3 F3 z3 s3 r3 h3 => ?_
  obtain ⟨ds, rfl, hw, h4⟩ := h3
  cases p1.mono (s2.trans s3) with
  | tup hf rr =>
    refine ⟨_, _, rfl, SqT.same r3.ok.sub hf, by rw [← rr.length]; exact hw, fun p hp => ?_⟩
    obtain ⟨r4, s4⟩ := r3.laidF (u := .tup (cutV _ a b)) hp (fun ps q => by cases q)
    exact k _ _ _ _ z3 (((s1.trans s2).trans s3).trans s4) r4 (.tup (SqT.of upd_same) ((cut_rep rr a b).mono s4)) h4

/-! ### built-ins -/
/-- len -/
def lenD : D → Option Nat
  | .lst ds => some ds.length
  | .tup ds => some ds.length
  | .v (.str w) => some w.length
  | .dic kvs => some kvs.length
  | _ => none
@[reducible, simp] def gLen : GC := fun ds Q => ∃ d n, ds = [d] ∧ lenD d = some n ∧ n ≤ 1000000 ∧ Q (.v (.int n))
theorem call_lenAll : CallR X (.builtin "len") (fun xs H Q => (∃ x n, xs = [x] ∧ LenV X.K x H n ∧ Q (.int n) H) ∨ (∃ p kvs, xs = [.ref p] ∧ H p = some (.dK kvs) ∧ Q (.int kvs.length) H)) := CallR.or call_len call_lenD
theorem p_len {K : PySem.W.Frag} : PC1 K (fun xs H Q => (∃ x n, xs = [x] ∧ LenV K x H n ∧ Q (.int n) H) ∨ (∃ p kvs, xs = [.ref p] ∧ H p = some (.dK kvs) ∧ Q (.int kvs.length) H)) gLen := by
  intro F H ds vs Q R s rp h k
  obtain ⟨d, n, rfl, hl, hz, q⟩ := h
  cases rp with
  | cons r t =>
    cases t
    cases r with
    | v =>
      rename_i y
      cases y <;> first | (cases hl; done) | skip
      cases hl
      exact .inl ⟨_, _, rfl, ⟨size_ok hz, rfl⟩, k _ _ (.v _) q⟩
    | lst hf rr =>
      cases hl
      exact .inl ⟨_, _, rfl, .inl ⟨_, SqL.of (s _ _ hf), rr.length⟩, k _ _ (.v _) q⟩
    | tup hf rr =>
      cases hl
      exact .inl ⟨_, _, rfl, .inr ⟨_, SqT.same s hf, rr.length⟩, k _ _ (.v _) q⟩
    | @dic a es kvs hf hk rr =>
      cases hl
      have e : es.length = kvs.length := by simpa using congrArg List.length hk
      exact .inr ⟨_, _, rfl, s _ _ hf, by rw [e]; exact k _ _ (.v _) q⟩
    | ins hf hk rr => cases hl
    | «at» hf => cases hl
    | lsz hf => cases hl
/-- list(x) of a list, a tuple -/
@[reducible, simp] def gList : GC := fun ds Q => ∃ d xs, ds = [d] ∧ seqOf d = some xs ∧ Q (.lst xs)
theorem p_list {K : PySem.W.Frag} : PCN K (fun xs H Q => ∃ p ys, xs = [.ref p] ∧ (SqL K H p ys ∨ SqT K H p ys) ∧ ∀ l, H l = none → Q (.ref l) (upd H l (.lst ys))) gList := by
  intro F H ds vs Q R s rp h k
  obtain ⟨d, xs, rfl, hd, q⟩ := h
  cases rp with
  | cons r t =>
    cases t
    cases r with
    | lst hf rr =>
      cases hd
      exact ⟨_, _, rfl, .inl (SqL.of (s _ _ hf)), fun l hl => k _ _ l hl (.lst rr) q⟩
    | tup hf rr =>
      cases hd
      exact ⟨_, _, rfl, .inr (SqT.same s hf), fun l hl => k _ _ l hl (.lst rr) q⟩
    | _ => cases hd
/-- all, any -/
@[reducible, simp] def blsD (bs : List Bool) : List D := bs.map fun b => .v (.bl b)
/-- what lists hold -/
@[simp] def blOf : D → Option Bool
  | .v (.bl b) => some b
  | _ => none
@[simp] def iOf : D → Option Int
  | .v (.int b) => some b
  | _ => none
@[simp] def vOf : D → Option V
  | .v b => some b
  | _ => none
@[simp] def allL {α : Type} (f : D → Option α) : List D → Option (List α)
  | [] => some []
  | d :: ds => match f d, allL f ds with
    | some b, some bs => some (b :: bs)
    | _, _ => none
theorem allL_map {α β : Type} {f : D → Option α} {h : β → D} {g : β → α} (e : ∀ x, f (h x) = some (g x)) (l : List β) : allL f (l.map h) = some (l.map g) := by
  induction l with
  | nil => rfl
  | cons x l ih => simp [e, ih]
@[simp] theorem bls_map {β : Type} {g : β → Bool} (l : List β) : allL blOf (l.map fun x => .v (.bl (g x))) = some (l.map g) := allL_map (h := fun x => .v (.bl (g x))) (g := g) (fun _ => rfl) l
@[simp] theorem ints_map {β : Type} {g : β → Int} (l : List β) : allL iOf (l.map fun x => .v (.int (g x))) = some (l.map g) := allL_map (h := fun x => .v (.int (g x))) (g := g) (fun _ => rfl) l
@[simp] theorem vs_map {β : Type} {g : β → V} (l : List β) : allL vOf (l.map fun x => .v (g x)) = some (l.map g) := allL_map (h := fun x => .v (g x)) (g := g) (fun _ => rfl) l
theorem allL_bls : ∀ {ds : List D} {bs : List Bool}, allL blOf ds = some bs → ds = bs.map fun b => .v (.bl b)
  | [], bs, h => by simp at h; subst h; rfl
  | d :: ds, bs, h => by
    simp only [allL] at h
    split at h
    · rename_i b bs' h1 h2
      cases h
      rw [allL_bls h2]
      cases d with
      | v x => cases x <;> first | (cases h1; rfl) | cases h1
      | _ => cases h1
    · cases h
theorem allL_ints : ∀ {ds : List D} {bs : List Int}, allL iOf ds = some bs → ds = bs.map fun b => .v (.int b)
  | [], bs, h => by simp at h; subst h; rfl
  | d :: ds, bs, h => by
    simp only [allL] at h
    split at h
    · rename_i b bs' h1 h2
      cases h
      rw [allL_ints h2]
      cases d with
      | v x => cases x <;> first | (cases h1; rfl) | cases h1
      | _ => cases h1
    · cases h
theorem allL_vs : ∀ {ds : List D} {bs : List V}, allL vOf ds = some bs → ds = bs.map D.v
  | [], bs, h => by simp at h; subst h; rfl
  | d :: ds, bs, h => by
    simp only [allL] at h
    split at h
    · rename_i b bs' h1 h2
      cases h
      rw [allL_vs h2]
      cases d with
      | v x => cases h1; rfl
      | _ => cases h1
    · cases h
@[reducible, simp] def gAll : GC := fun ds Q => ∃ es bs, ds = [.lst es] ∧ allL blOf es = some bs ∧ Q (.v (.bl (bs.all id)))
@[reducible, simp] def gAny : GC := fun ds Q => ∃ es bs, ds = [.lst es] ∧ allL blOf es = some bs ∧ Q (.v (.bl (bs.any id)))
theorem reps_bls {K : PySem.W.Frag} {F : Hp} : ∀ {bs : List Bool} {xs : List V}, Reps K F (blsD bs) xs → xs = bs.map V.bl
  | [], _, .nil => rfl
  | _ :: _, _, .cons (.v _) t => congrArg _ (reps_bls t)
theorem p_all {K : PySem.W.Frag} : PC1 K (rAll K) gAll := by
  intro F H ds vs Q R s rp h k
  obtain ⟨es, bs, rfl, he, q⟩ := h
  cases allL_bls he
  cases rp with
  | cons r t =>
    cases t
    cases r with
    | lst hf rr => exact ⟨_, bs, rfl, by rw [← reps_bls rr]; exact SqL.of (s _ _ hf), k _ _ (.v _) q⟩
theorem p_any {K : PySem.W.Frag} : PC1 K (rAny K) gAny := by
  intro F H ds vs Q R s rp h k
  obtain ⟨es, bs, rfl, he, q⟩ := h
  cases allL_bls he
  cases rp with
  | cons r t =>
    cases t
    cases r with
    | lst hf rr => exact ⟨_, bs, rfl, by rw [← reps_bls rr]; exact SqL.of (s _ _ hf), k _ _ (.v _) q⟩
/-- int(x) of a whole number, a bool -/
@[reducible, simp] def gInt : GC := fun ds Q => (∃ i, ds = [.v (.int i)] ∧ Q (.v (.int i))) ∨ ∃ b, ds = [.v (.bl b)] ∧ Q (.v (.int (if b then 1 else 0)))
theorem p_int {K : PySem.W.Frag} : PC1 K (fun xs H Q => (∃ i, xs = [.int i] ∧ Q (.int i) H) ∨ ∃ k, xs = [.bl k] ∧ Q (.int (if k then 1 else 0)) H) gInt := by
  intro F H ds vs Q R s rp h k
  rcases h with ⟨i, rfl, q⟩ | ⟨b, rfl, q⟩
  · cases rp with
    | cons r t => cases t; cases r; exact .inl ⟨i, rfl, k _ _ (.v _) q⟩
  · cases rp with
    | cons r t => cases t; cases r; exact .inr ⟨b, rfl, k _ _ (.v _) q⟩
/-- max(i, j) -/
@[reducible, simp] def gMax2 : GC := fun ds Q => ∃ i j, ds = [.v (.int i), .v (.int j)] ∧ Q (.v (.int (if j > i then j else i)))
theorem p_max2 {K : PySem.W.Frag} : PC1 K (fun xs H Q => ∃ i j, xs = [.int i, .int j] ∧ Q (.int (if j > i then j else i)) H) gMax2 := by
  intro F H ds vs Q R s rp h k
  obtain ⟨i, j, rfl, q⟩ := h
  cases rp with
  | cons r t =>
    cases t with
    | cons r2 t2 =>
      cases t2; cases r; cases r2
      exact ⟨i, j, rfl, k _ _ (.v _) q⟩
/-- sorted of whole numbers -/
@[reducible, simp] def intsD (ns : List Int) : List D := ns.map fun n => .v (.int n)
theorem reps_ints {K : PySem.W.Frag} {F : Hp} : ∀ {ns : List Int} {xs : List V}, Reps K F (intsD ns) xs → xs = ns.map V.int
  | [], _, .nil => rfl
  | _ :: _, _, .cons (.v _) t => congrArg _ (reps_ints t)
theorem ints_reps {K : PySem.W.Frag} {F : Hp} : ∀ ns : List Int, Reps K F (intsD ns) (ns.map V.int)
  | [] => .nil
  | _ :: r => .cons (.v _) (ints_reps r)
@[reducible, simp] def gSorted : GC := fun ds Q => ∃ es ns, ds = [.lst es] ∧ allL iOf es = some ns ∧ ns.length < 64 ∧ ∀ ns', ns'.Perm ns → ns'.Pairwise (· ≤ ·) → Q (.lst (intsD ns'))
theorem p_sorted {K : PySem.W.Frag} : PCN K (rSorted K) gSorted := by
  intro F H ds vs Q R s rp h k
  obtain ⟨es, ns, rfl, he, hl, q⟩ := h
  cases allL_ints he
  cases rp with
  | cons r t =>
    cases t
    cases r with
    | lst hf rr => exact ⟨_, ns, rfl, by rw [← reps_ints rr]; exact SqL.of (s _ _ hf), hl, fun ns' p hp hs hn => k _ _ p hn (.lst (ints_reps ns')) (q ns' hp hs)⟩
/-- a sign in a text -/
@[reducible, simp] def gInSign (neg : Bool) : G2 := fun d1 d2 Q => ∃ (c : Nat) (w : Str), d1 = .v (.str ⟨#[c]⟩) ∧ d2 = .v (.str w) ∧ Q (.v (.bl (if neg then !decide (c ∈ w.cps.toList) else decide (c ∈ w.cps.toList))))
theorem p_inSign {K : PySem.W.Frag} : P2 K (fun x y H Q => ∃ (c : Nat) (z : Str), x = .str ⟨#[c]⟩ ∧ y = .str z ∧ Q (.bl (decide (c ∈ z.cps.toList))) H) (gInSign false) := by
  intro F H d1 d2 v1 v2 Q R s r1 r2 h k
  obtain ⟨c, w, rfl, rfl, q⟩ := h
  cases r1; cases r2
  exact ⟨c, w, rfl, rfl, k _ _ (.v _) q⟩
theorem p_notInSign {K : PySem.W.Frag} : P2 K (fun x y H Q => ∃ (c : Nat) (z : Str), x = .str ⟨#[c]⟩ ∧ y = .str z ∧ Q (.bl (!decide (c ∈ z.cps.toList))) H) (gInSign true) := by
  intro F H d1 d2 v1 v2 Q R s r1 r2 h k
  obtain ⟨c, w, rfl, rfl, q⟩ := h
  cases r1; cases r2
  exact ⟨c, w, rfl, rfl, k _ _ (.v _) q⟩
/-- x in a list, a tuple of flat things -/
@[reducible, simp] def gInSeq (neg : Bool) : G2 := fun d1 d2 Q => ∃ x es xs, d1 = .v x ∧ seqOf d2 = some es ∧ allL vOf es = some xs ∧ flatV x = true ∧ xs.all flatV = true ∧ Q (.v (.bl (if neg then !inV x xs else inV x xs)))
theorem p_inSeq {K : PySem.W.Frag} {neg : Bool} : P2 K (rIn K neg) (gInSeq neg) := by
  intro F H d1 d2 v1 v2 Q R s r1 r2 h k
  obtain ⟨x, es, xs, rfl, hd, he, h1, h2, q⟩ := h
  cases allL_vs he
  cases r1
  cases r2 with
  | lst hf rr =>
    cases hd
    exact ⟨_, xs, rfl, .inl (by rw [← Reps.toV rr]; exact SqL.of (s _ _ hf)), h1, h2, k _ _ (.v _) q⟩
  | tup hf rr =>
    cases hd
    exact ⟨_, xs, rfl, .inr (by rw [← Reps.toV rr]; exact SqT.same s hf), h1, h2, k _ _ (.v _) q⟩
  | _ => cases hd
/-- a < b < c -/
@[reducible, simp] def mChain (G G' : G2) (ma mb mf : TDE) : TDE := fun st z Q EQ => ma st z (fun d1 z1 => mb st z1 (fun d2 z2 => G d1 d2 fun d => ∃ b, d = .v (.bl b) ∧ (b = true → mf st z2 (fun d3 z3 => G' d2 d3 fun d => Q d z3) EQ) ∧ (b = false → Q (.v (.bl false)) z2)) EQ) EQ
theorem de_chain {op op' : CmpOp} {r r' : R2} {G G' : G2} (ho : OpR X (compareOp op) r) (hg : P2 X.K r G) (ho' : OpR X (compareOp op') r') (hg' : P2 X.K r' G') (ha : DE T X E a ma) (hb : DE T X E b mb) (hf : DE T X E f mf) (hm : lastMarks [op, op'] [b, f] = false := by with_unfolding_all rfl) : DE T X E (.Compare a [op, op'] [b, f] pos) (mChain G G' ma mb mf) := by
  obtain ⟨ta, pa, qa⟩ := ha.ex
  obtain ⟨tb, pb, qb⟩ := hb.ex
  obtain ⟨tf, pf, qf⟩ := hf.ex
  refine ⟨⟨_, pe_chain ho ho' pa pb pf hm, fun st F0 H0 F H σ z Q EQ R rr er h k => ?_⟩⟩
  refine qa st F0 H0 F H σ z _ EQ _ rr er h fun v1 H1 F1 d1 z1 s1 r1 p1 h1 => ?_
  refine qb st F0 H0 F1 H1 σ z1 _ EQ _ r1 er h1 fun v2 H2 F2 d2 z2 s2 r2 p2 h2 => ?_
  refine hg F2 H2 d1 d2 v1 v2 _ _ r2.ok.sub (p1.mono s2) p2 h2 fun d v rp q => ?_
  obtain ⟨c, rfl, ht, hff⟩ := q
  cases rp
  refine ⟨c, rfl, ?_⟩
  cases c with
  | true =>
    refine iteT (qf st F0 H0 F2 H2 σ z2 _ EQ _ r2 er (ht rfl) fun v3 H3 F3 d3 z3 s3 r3 p3 h3 => ?_)
    exact hg' F3 H3 d2 d3 v2 v3 _ _ r3.ok.sub (p2.mono s3) p3 h3 fun d v rp q => k v H3 F3 d z3 ((s1.trans s2).trans s3) r3 rp q
  | false => exact iteF (k _ H2 F2 _ z2 (s1.trans s2) r2 (.v _) (hff rfl))
end
end DL
end

section
set_option Elab.async false
set_option linter.all false
set_option maxRecDepth 100000
set_option maxHeartbeats 4000000
/-! DL6: isinstance, instances, methods, classes, keyword calls. -/
namespace DL
open PySem PySem.Spec PyProof.Rows L2

/-! ### isinstance -/
def tyS : D → Option String
  | .v .non => some "NoneType"
  | .v (.bl _) => some "bool"
  | .v (.int _) => some "int"
  | .v (.str _) => some "str"
  | .lst _ => some "list"
  | .tup _ => some "tuple"
  | .dic _ => some "dict"
  | _ => none
@[simp] def isS (a b : String) : Bool := a == b || (a == "bool" && b == "int")
@[simp] def isB (t : String) (ts : List String) : Bool := ts.any fun b => isS t b
def knownT : List String := ["NoneType", "bool", "int", "str", "list", "tuple", "dict"]
theorem kit_known : ∀ a ∈ knownT, ∀ b ∈ knownT, kitB a b = some (isS a b) := by decide +kernel
theorem tyS_known {d : D} {t : String} (h : tyS d = some t) : t ∈ knownT := by
  unfold tyS at h
  split at h <;> first | (cases h; decide) | cases h
theorem tyX_rep {K : PySem.W.Frag} {F H : Hp} {d : D} {v : V} {t : String} (s : Same F H) (r : Rep K F d v) (h : tyS d = some t) : TyX K H v (.type t) := by
  cases r with
  | v =>
    unfold tyS at h
    split at h <;> first | (rename_i e; cases e; cases h; first | exact .base .non | exact .base (.bl _) | exact .base (.int _) | exact .base (.str _)) | (rename_i e; cases e; done) | cases h
  | lst hf _ => cases h; exact .base (.lst (s _ _ hf))
  | tup hf _ =>
    cases h
    rcases hf with (hf | ⟨o, hf⟩) | ⟨o, its, n, e, c, _⟩
    · exact .base (.tup (s _ _ hf))
    · exact .fTuple (s _ _ hf)
    · exact .kTuple e c
  | dic hf _ _ => cases h; exact .base (.dK (s _ _ hf))
  | ins hf _ _ => cases h
  | «at» hf => cases h
  | lsz hf => cases h
theorem kit_one {K : PySem.W.Frag} {d : D} {t b : String} (h : tyS d = some t) (hb : b ∈ knownT) : PySem.W.kitOne K (.type t) (.type b) = some (isS t b) := kit_ty (kit_known t (tyS_known h) b hb)
theorem kit_any {K : PySem.W.Frag} {d : D} {t : String} (h : tyS d = some t) : ∀ {ts : List String}, ts.all (fun b => decide (b ∈ knownT)) = true → PySem.W.kitAny K (.type t) (ts.map Value.type) = some (isB t ts)
  | [], _ => rfl
  | b :: ts, e => by
    simp only [List.all_cons, Bool.and_eq_true, decide_eq_true_eq] at e
    refine kitAny_cons (kit_one h e.1) (fun hf => ?_) fun ht => ?_
    · rw [kit_any h e.2]
      unfold isB
      rw [List.any_cons, hf, Bool.false_or]
    · unfold isB
      rw [List.any_cons, ht, Bool.true_or]
/-- what the written part says of an own class -/
structure CF (K : PySem.W.Frag) (C : Addr) : Prop where
  cl : Cls K C
  ha : PySem.W.findIn K (.ref C) "__class__" = some (some (.builtin "object.__class__"))
  hn : PySem.W.specialIn K (.builtin "object.__class__") "__get__" = some (some (.builtin "getset_descriptor.__get__"))
  htk : PySem.W.takesIn K (.builtin "object.__class__") = some true
  hm : PySem.W.mroIn K C (.type "object") = some true
  no : ∀ t ∈ knownT, PySem.W.kitOne K (.type t) (.ref C) = some false
  isn : ∀ t ∈ knownT, PySem.W.kitOne K (.ref C) (.type t) = some false
section
variable {T : List (Addr × Str)} {X : Cx} {E : XK} {e a b : Expr} {es : List Expr} {pos p q : Pos} {me ma mb : TDE} {mt mu : TDT} {mas : TDA} {k j : Nat} {x : Str} {ps : List Str} {sp : DSpec}
@[reducible, simp] def mIs (ts : List String) (me : TDE) : TDE := fun st z Q EQ => me st z (fun d z1 => ∃ t, tyS d = some t ∧ Q (.v (.bl (isB t ts))) z1) EQ
theorem de_is1 {t : String} {tn : Str} (hgl : Gl X "isinstance") (hm : X.mg "isinstance" = none) (hg2 : Gl X tn) (hm2 : X.mg tn = none) (he : DE T X E e me) (hv2 : bootBuiltins tn = some (.type t) := by rfl) (hk : t ∈ knownT := by decide) (hn2 : tn ≠ "__name__" := by decide) (hd2 : (tn == ("__debug__" : Str)) = false := by decide)
    (hst : starEach [e, .Name tn q] X.env = (false, eval e X.env) :: starEach [.Name tn q] X.env := by rfl) (hpl : (backTo pos (starEach [.Name tn q] X.env)).any (·.1) = false := by rfl) (hv : bootBuiltins "isinstance" = some (.builtin "isinstance") := by rfl)
    (hpa : ∀ {ta tb : TE}, PE X e ta → PE X (.Name tn q) tb → PA X [e, .Name tn q] (tCons ta (tCons tb tNil)) := by intro _ _ h h2; exact pa_cons h (pa_cons h2 pa_nil)) :
    DE T X E (.Call (.Name "isinstance" p) [e, .Name tn q] [] pos) (mIs [t] me) := by
  obtain ⟨ta, pa, qa⟩ := he.ex
  refine ⟨⟨_, pe_callB call_isi hgl hm hv (hpa pa (pe_bltn (v := .ty t) hg2 hm2 hv2 rfl hn2 hd2)) (by decide) (by decide) hst hpl, fun st F0 H0 F H σ z Q EQ R r er h k => ?_⟩⟩
  refine qa st F0 H0 F H σ z _ EQ _ r er h fun v H1 F1 d z1 s1 r1 p1 h1 => ?_
  obtain ⟨t', ht, h2⟩ := h1
  refine ⟨v, .ty t, .type t', .type t, isS t' t, rfl, .ty t, tyX_rep r1.ok.sub p1 ht, kit_one ht hk, k _ H1 F1 _ z1 s1 r1 (.v _) ?_⟩
  have e1 : isB t' [t] = isS t' t := by simp [isB]
  rw [← e1]
  exact h2
theorem paired_ty : ∀ ts : List String, Paired ClsV (ts.map V.ty) (ts.map Value.type)
  | [] => .nil
  | t :: ts => .cons (.ty t) (paired_ty ts)
theorem de_isT {ts : List String} {tes : List Expr} {tp : Pos} {tpn : Nat} {tt : TA} (hgl : Gl X "isinstance") (hm : X.mg "isinstance" = none) (he : DE T X E e me) (ht : PA X tes tt) (htt : ∀ (σ : Sg) (H : Hp) (Q : List V → Hp → Prop), Q (ts.map V.ty) H → tt σ H Q)
    (hk : ts.all (fun b => decide (b ∈ knownT)) = true := by decide)
    (hst : starEach [e, .Tuple tes tpn tp] X.env = (false, eval e X.env) :: starEach [.Tuple tes tpn tp] X.env := by rfl) (hpl : (backTo pos (starEach [.Tuple tes tpn tp] X.env)).any (·.1) = false := by rfl) (hv : bootBuiltins "isinstance" = some (.builtin "isinstance") := by rfl)
    (hpa : ∀ {ta tb : TE}, PE X e ta → PE X (.Tuple tes tpn tp) tb → PA X [e, .Tuple tes tpn tp] (tCons ta (tCons tb tNil)) := by intro _ _ h h2; exact pa_cons h (pa_cons h2 pa_nil)) (hl : ts.length ≤ 1000 := by decide) :
    DE T X E (.Call (.Name "isinstance" p) [e, .Tuple tes tpn tp] [] pos) (mIs ts me) := by
  obtain ⟨ta, pa, qa⟩ := he.ex
  refine ⟨⟨_, pe_callB call_isiT hgl hm hv (hpa pa (pe_tup ht)) (by decide) (by decide) hst hpl, fun st F0 H0 F H σ z Q EQ R r er h k => ?_⟩⟩
  refine qa st F0 H0 F H σ z _ EQ _ r er h fun v H1 F1 d z1 s1 r1 p1 h1 => ?_
  obtain ⟨t', ht', h2⟩ := h1
  refine htt σ H1 _ ⟨size_ok (by rw [List.length_map]; omega), fun tp' hp => ?_⟩
  obtain ⟨r2, s2⟩ := r1.laidF (u := .tup (ts.map V.ty)) hp (fun ps q => by cases q)
  exact ⟨v, tp', ts.map V.ty, .type t', ts.map Value.type, isB t' ts, rfl, upd_same, paired_ty ts, tyX_rep r2.ok.sub (p1.mono s2) ht', kit_any ht' hk, k _ _ _ _ z1 (s1.trans s2) r2 (.v _) h2⟩
@[reducible, simp] def mIsC (C : Addr) (me : TDE) : TDE := fun st z Q EQ => me st z (fun d z1 => (∃ fs, d = .ins C fs ∧ Q (.v (.bl true)) z1) ∨ (∃ t, tyS d = some t ∧ Q (.v (.bl false)) z1)) EQ
theorem de_isC {C : Addr} {cn : Str} (cf : CF X.K C) (hgl : Gl X "isinstance") (hm : X.mg "isinstance" = none) (hg2 : Gl X cn) (hm2 : X.mg cn = some (.ref C)) (he : DE T X E e me) (hd2 : (cn == ("__debug__" : Str)) = false := by decide)
    (hst : starEach [e, .Name cn q] X.env = (false, eval e X.env) :: starEach [.Name cn q] X.env := by rfl) (hpl : (backTo pos (starEach [.Name cn q] X.env)).any (·.1) = false := by rfl) (hv : bootBuiltins "isinstance" = some (.builtin "isinstance") := by rfl)
    (hpa : ∀ {ta tb : TE}, PE X e ta → PE X (.Name cn q) tb → PA X [e, .Name cn q] (tCons ta (tCons tb tNil)) := by intro _ _ h h2; exact pa_cons h (pa_cons h2 pa_nil)) :
    DE T X E (.Call (.Name "isinstance" p) [e, .Name cn q] [] pos) (mIsC C me) := by
  obtain ⟨ta, pa, qa⟩ := he.ex
  refine ⟨⟨_, pe_callB call_isi hgl hm hv (hpa pa (pe_glob (v := .ref C) hg2 hm2 rfl hd2)) (by decide) (by decide) hst hpl, fun st F0 H0 F H σ z Q EQ R r er h k => ?_⟩⟩
  refine qa st F0 H0 F H σ z _ EQ _ r er h fun v H1 F1 d z1 s1 r1 p1 h1 => ?_
  rcases h1 with ⟨fs, rfl, h2⟩ | ⟨t, ht, h2⟩
  · cases p1 with
    | ins hf hk rr =>
      exact ⟨_, .ref C, .ref C, .ref C, true, rfl, .own C, .base (.ins (r1.ok.sub _ _ hf) cf.cl cf.ha cf.hn cf.htk cf.hm), by unfold PySem.W.kitOne; rw [if_pos (by simp)], k _ H1 F1 _ z1 s1 r1 (.v _) h2⟩
  · exact ⟨v, .ref C, .type t, .ref C, false, rfl, .own C, tyX_rep r1.ok.sub p1 ht, cf.no t (tyS_known ht), k _ H1 F1 _ z1 s1 r1 (.v _) h2⟩

/-! ### fields -/
theorem look_fs {K : PySem.W.Frag} {F : Hp} {f : Str} : ∀ {es : List (Str × V)} {fs : List (Str × D)}, es.map (·.1) = fs.map (·.1) → Reps K F (fs.map (·.2)) (es.map (·.2)) → (∀ d, fs.lookup f = some d → ∃ v, es.lookup f = some v ∧ Rep K F d v) ∧ (fs.lookup f = none → es.lookup f = none)
  | [], [], _, _ => ⟨fun d h => (by cases h), fun _ => rfl⟩
  | [], _ :: _, h, _ => by simp at h
  | _ :: _, [], h, _ => by simp at h
  | (g, v) :: es, (g2, d) :: fs, h, r => by
    simp only [List.map_cons, List.cons.injEq] at h
    obtain ⟨e, h⟩ := h
    have e : g = g2 := e
    subst e
    cases r with
    | cons hr tr =>
      obtain ⟨i1, i2⟩ := look_fs h tr
      by_cases hf : f = g
      · subst hf
        exact ⟨fun d' hd => ⟨v, by simp [List.lookup], by simp [List.lookup] at hd; rw [← hd]; exact hr⟩, fun hd => by simp [List.lookup] at hd⟩
      · have hb : (f == g) = false := by simpa using hf
        refine ⟨fun d' hd => ?_, fun hd => ?_⟩
        · simp only [List.lookup, hb] at hd ⊢
          exact i1 d' hd
        · simp only [List.lookup, hb] at hd ⊢
          exact i2 hd
@[reducible, simp] def mFld (C : Addr) (f : Str) (me : TDE) : TDE := fun st z Q EQ => me st z (fun d z1 => ∃ fs d', d = .ins C fs ∧ fs.lookup f = some d' ∧ Q d' z1) EQ
theorem de_fld {C : Addr} {f : Str} (cl : Cls X.K C) (na : NoAttr X.K C f) (he : DE T X E e me) (hb : attributeBase e f X.env (eval e X.env) = eval e X.env := by rfl) : DE T X E (.Attribute e f pos) (mFld C f me) := by
  obtain ⟨ta, pa, qa⟩ := he.ex
  refine ⟨⟨_, pe_fld pa hb, fun st F0 H0 F H σ z Q EQ R r er h k => ?_⟩⟩
  refine qa st F0 H0 F H σ z _ EQ _ r er h fun v H1 F1 d z1 s1 r1 p1 h1 => ?_
  obtain ⟨fs, d', rfl, hl, h2⟩ := h1
  cases p1 with
  | ins hf hk rr =>
    obtain ⟨v, e1, rp⟩ := (look_fs hk rr).1 d' hl
    exact ⟨_, C, _, _, v, rfl, r1.ok.sub _ _ hf, cl, na, e1, k v H1 F1 d' z1 s1 r1 rp h2⟩
/-- self.f where self is own -/
@[reducible, simp] def mFldO (C : Addr) (i : Nat) (f : Str) : TDE := fun st z Q EQ => ∃ x fs d', z.env[i]? = some (.ow (.at x (.ins C fs))) ∧ fs.lookup f = some d' ∧ Q d' z
theorem de_fldO {C : Addr} {f y : Str} {i : Nat} (cl : Cls X.K C) (na : NoAttr X.K C f) (hN : X.N[i]? = some y) (hv : Vis X.env.scope y := by first | exact Or.inl rfl | exact Or.inr (Or.inl rfl) | exact Or.inr (Or.inr rfl)) (hd : (y == ("__debug__" : Str)) = false := by decide) (hcd : (y == ("__classdict__" : Str)) = false := by decide) (hb : attributeBase (.Name y p) f X.env (eval (.Name y p) X.env) = eval (.Name y p) X.env := by rfl) :
    DE T X E (.Attribute (.Name y p) f pos) (mFldO C i f) := by
  refine ⟨⟨_, pe_fld (pe_var hN hv hd hcd) hb, fun st F0 H0 F H σ z Q EQ R r er h k => ?_⟩⟩
  obtain ⟨x, fs, d', hz, hl, h2⟩ := h
  obtain ⟨a, hσ, w⟩ := r.ow i _ hz
  obtain ⟨u, hu, c⟩ := w.ho
  cases c with
  | ins hk rr =>
    obtain ⟨v, e1, rp⟩ := (look_fs hk rr).1 d' hl
    exact ⟨_, hσ, a, C, _, _, v, rfl, hu, cl, na, e1, k v H F d' z (Same.refl F) r rp h2⟩
/-- self.f = e where self is own and has no such field yet -/
@[reducible, simp] def sFldO (C : Addr) (i : Nat) (f : Str) (me : TDE) : TDS := fun st D z EQ => me st z (fun d z1 => ∃ x fs, z1.env[i]? = some (.ow (.at x (.ins C fs))) ∧ fs.lookup f = none ∧ fs.length < 1000 ∧ D.nx (z1.put i (.ow (.at x (.ins C (fs ++ [(f, d)])))))) EQ
theorem putF_new {f : Str} {v : V} : ∀ {fs : List (Str × V)}, fs.lookup f = none → putF f v fs = fs ++ [(f, v)]
  | [], _ => rfl
  | (g, x) :: r, h => by
    have hne : ¬ g = f := fun e => by subst e; simp [List.lookup] at h
    have hb : (f == g) = false := by simpa using fun e : f = g => hne e.symm
    unfold putF
    rw [if_neg hne, putF_new (by simpa only [List.lookup, hb] using h)]
    rfl
theorem ds_fldO {C : Addr} {f y : Str} {i : Nat} {p' : Pos} (cl : Cls X.K C) (na : NoAttr X.K C f) (hN : X.N[i]? = some y) (he : DE T X E e me) (hv : Vis X.env.scope y := by first | exact Or.inl rfl | exact Or.inr (Or.inl rfl) | exact Or.inr (Or.inr rfl)) (hd : (y == ("__debug__" : Str)) = false := by decide) (hcd : (y == ("__classdict__" : Str)) = false := by decide)
    (hs : swapsWith e (some (.Attribute (.Name y p) f p')) pos.line X.env = pure false := by rfl) : DS T X E (.Assign [.Attribute (.Name y p) f p'] e pos) (sFldO C i f me) := by
  obtain ⟨ta, pa, qa⟩ := he.ex
  refine ⟨⟨_, ps_fld (pe_var hN hv hd hcd) pa hs, fun st F0 H0 F H σ z D EQ D' r er h k => ?_⟩⟩
  refine qa st F0 H0 F H σ z _ EQ _ r er h fun v H1 F1 d z1 s1 r1 p1 h1 => ?_
  obtain ⟨x, fs, hz, hl, hlen, h2⟩ := h1
  obtain ⟨a, hσ, w⟩ := r1.ow i _ hz
  have pn := w.pin x _ rfl
  obtain ⟨u, hu, c⟩ := w.ho
  cases c with
  | @ins _ dx _ es hk rr =>
    have hl2 : es.lookup f = none := (look_fs hk rr).2 hl
    have hlen2 : es.length < 1000 := by have := congrArg List.length hk; simp at this; omega
    refine ⟨_, hσ, a, C, dx, es, rfl, hu, cl, na, hlen2, ?_⟩
    rw [putF_new hl2]
    have c2 : Cell X.K F1 (.ins C (fs ++ [(f, d)])) (.ins C dx (es ++ [(f, v)])) := .ins (by simp [hk]) (by simpa using rr.append (.one p1))
    exact k.nx σ _ F1 _ s1 (r1.putA (o' := .at x (.ins C (fs ++ [(f, d)]))) hz hσ c2 fun b d e => by cases e; exact pn) h2

/-! ### methods -/
/-- a def at f, by its promise -/
structure FnA (P : Program) (w : World) (K : PySem.W.Frag) (T : List (Addr × Str)) (mg : Str → Option Value) (base : Heap) (k : Nat) (f : Addr) (ps : List Str) (sp : DSpec) : Prop where
  ex : ∃ fd : FuncData, FnOk P w K mg base (L2.CX P w) k f fd ps (toSp K T sp) ∧ Binds K fd ps []
@[reducible, simp] def mMeth (C : Addr) (m : Str) (sp : DSpec) (me : TDE) : TDE := fun st z Q EQ => me st z (fun d z1 => ∃ fs, d = .ins C fs ∧ fs.lookup m = none ∧ sp st z1.n [d] (fun r n' => Q r.d { z1 with n := n' }) EQ) EQ
theorem de_meth0 {C f : Addr} {m : Str} {apos : Pos} (cl : Cls X.K C) (hm : Meth X.K C m f) (c : FnA X.prog X.w X.K T X.mg X.base k f ps sp) (hr : Room j X.A) (hk : k ≤ j) (hx : Passes (L2.CX X.prog X.w) X E) (he : DE T X E e me)
    (hp : ∀ {fd : FuncData} {ta : TE}, FnOk X.prog X.w X.K X.mg X.base (L2.CX X.prog X.w) k f fd ps (toSp X.K T sp) → Binds X.K fd ps [] → PE X e ta → PE X (.Call (.Attribute e m apos) [] [] pos) (tMeth C m (toSp X.K T sp) [] E ta tNil)) :
    DE T X E (.Call (.Attribute e m apos) [] [] pos) (mMeth C m sp me) := by
  obtain ⟨fd, F, hb⟩ := c.ex
  obtain ⟨ta, pa, qa⟩ := he.ex
  refine ⟨⟨_, hp F hb pa, fun st F0 H0 F H σ z Q EQ R r er h k => ?_⟩⟩
  refine qa st F0 H0 F H σ z _ EQ _ r er h fun v H1 F1 d z1 s1 r1 p1 h1 => ?_
  obtain ⟨fs, rfl, hl, h2⟩ := h1
  cases p1 with
  | ins hf hkk rr =>
    refine ⟨_, _, _, rfl, r1.ok.sub _ _ hf, (look_fs hkk rr).2 hl, ?_⟩
    refine call_sp (vs := [_]) r1 er (.cons (.ins hf hkk rr) .nil) h2 fun v H2 F2 rr2 n' ok q qd => ?_
    obtain ⟨F3, s3, r3, rp⟩ := res_sh r1 ok q
    exact k v H2 F3 _ _ (s1.trans s3) r3 rp qd
theorem meth0_of {C f : Addr} {m : Str} {apos : Pos} {fd : FuncData} {ta : TE} {sp : Sp} (cl : Cls X.K C) (hm : Meth X.K C m f) (hr : Room j X.A) (hk : k ≤ j) (hx : Passes (L2.CX X.prog X.w) X E) (F : FnOk X.prog X.w X.K X.mg X.base (L2.CX X.prog X.w) k f fd ps sp) (hb : Binds X.K fd ps []) (pa : PE X e ta) (hp : PE X (.Call (.Attribute e m apos) [] [] pos) (tMeth C m sp [] E ta tNil)) : PE X (.Call (.Attribute e m apos) [] [] pos) (tMeth C m sp [] E ta tNil) := hp

/-! ### making an instance -/
/-- the promise of an __init__, by data: what the fields are at the end -/
abbrev ISpec := Option Addr → Nat → List D → (List (Str × D) → Nat → Prop) → TEX → Prop
def toIp (K : PySem.W.Frag) (T : List (Addr × Str)) (C : Addr) (sp : ISpec) : Sp := fun vs H Q E =>
  ∃ (H1 : Hp) (x dx : Addr) (ws : List V), vs = .ref x :: ws ∧ H1 x = none ∧ H1 dx = none ∧ dx ≠ x ∧ H = upd (upd H1 dx (.own x)) x (.ins C dx []) ∧
  ∃ (F : Hp) (st : Option Addr) (n : Nat) (ds : List D) (Qd : List (Str × D) → Nat → Prop) (EQ : TEX), Ok T st F H1 F H1 n ∧ Reps K F ds ws ∧ sp st n ds Qd EQ ∧
    (∀ H' F' fs n', Ok T st F H1 F' H' n' → Own K st F' H1 H' x (.ins C fs) → Qd fs n' → Q .non H') ∧ ERel K T st F H1 E EQ
theorem init_ok {P : Program} {w : World} {K : PySem.W.Frag} {mg : Str → Option Value} {base : Heap} {x qual : Str} {st : Stmt} {f C : Addr} {fd : FuncData} {N ps : List Str} {y : Str} {k : Nat} {sp : ISpec} {m : TDS} (F : Fun K x qual st f fd) (S : FnScope N (y :: ps) (defScope st)) (len : ∀ s n ds Q EQ, sp s n ds Q EQ → ds.length = ps.length)
    (hbody : ∀ (cdv : Value) (A : Around) (outer : List Env) (s : Shared) (H : Hp) (E : XK), Room k (A.deeper (envOfC qual (defScope st) s.heap.objs.size f cdv)) → DB T (cxOf (L2.CX P w) P w K mg base N qual (defScope st) f cdv A outer s H E) E (defBody st) m)
    (hsp : ∀ (self : Addr) s n ds Q EQ, sp s n ds Q EQ → m s { nx := fun z => ∃ fs, z.env[0]? = some (.ow (.at self (.ins C fs))) ∧ Q fs z.n, rt := fun _ _ => False } ⟨.ow (.at self (.ins C [])) :: (ds.map DV.sh ++ List.replicate (N.length - (ds.length + 1)) .un), n⟩ EQ) :
    FnOk P w K mg base (L2.CX P w) (k + 1) f fd (y :: ps) (toIp K T C sp) := by
  refine F.okX S (fun vs H Q E h => ?_) fun cdv A outer s H vs Q E hr h => ?_
  · obtain ⟨H1, x, dx, ws, rfl, _, _, _, _, F', st', n, ds, Qd, EQ, ok, r, h1, h2⟩ := h
    rw [List.length_cons, ← r.length, len _ _ _ _ _ h1, List.length_cons]
  · obtain ⟨H1, x, dx, ws, rfl, hx, hdx, hne, rfl, F', st', n, ds, Qd, EQ, ok, r, h1, h2, h3⟩ := h
    obtain ⟨t, pt, qt⟩ := (hbody cdv A outer s _ E hr).ex
    have ok1 : Ok T st' F' H1 F' (upd H1 dx (.own x)) n := ok.laid hdx
    have hx1 : upd H1 dx (.own x) x = none := by rw [upd_ne (Ne.symm hne)]; exact hx
    have ok2 : Ok T st' F' H1 F' (upd (upd H1 dx (.own x)) x (.ins C dx [])) n := ok1.laid hx1
    have own : Own K st' F' H1 (upd (upd H1 dx (.own x)) x (.ins C dx [])) x (.at x (.ins C [])) := ⟨⟨_, upd_same, .ins rfl .nil⟩, Same.none ok.sub hx, .of hx, fun q => (ok.strm x q).2.some hx, fun b d e => by cases e; rfl⟩
    have base := rel_start (N := N.tail) ok r
    have hstart : L2.start N (V.ref x :: ws) = some (V.ref x) :: L2.start N.tail ws := by
      unfold L2.start
      simp [Nat.sub_sub, Nat.add_comm]
    have rel : Rel K T st' F' H1 F' (upd (upd H1 dx (.own x)) x (.ins C dx [])) (L2.start N (V.ref x :: ws)) ⟨.ow (.at x (.ins C [])) :: (ds.map DV.sh ++ List.replicate (N.length - (ds.length + 1)) .un), n⟩ := by
      have hb2 : (ds.map DV.sh ++ List.replicate (N.length - (ds.length + 1)) .un) = (ds.map DV.sh ++ List.replicate (N.tail.length - ds.length) .un) := by
        rw [List.length_tail, Nat.sub_sub, Nat.add_comm 1]
      rw [hstart, hb2]
      have noow : ∀ (i : Nat) (o : D), (ds.map DV.sh ++ List.replicate (N.tail.length - ds.length) DV.un)[i]? ≠ some (.ow o) := fun i o hi => by
        have := List.mem_of_getElem? hi
        simp at this
      exact {
        ok := ok2
        len := by simpa using base.len
        sh := fun i d hi => by
          cases i with
          | zero => simp at hi
          | succ i => exact base.sh i d (by simpa using hi)
        ow := fun i o hi => by
          cases i with
          | zero =>
            simp at hi
            subst hi
            exact ⟨x, by simp, own⟩
          | succ i => exact absurd (by simpa using hi) (noow i o)
        apart := fun i j o o' a hij hi hj => by
          cases i with
          | zero =>
            cases j with
            | zero => exact absurd rfl hij
            | succ j => exact absurd (by simpa using hj) (noow j o')
          | succ i => exact absurd (by simpa using hi) (noow i o)
        bs := fun i k d hi => by
          have := List.mem_of_getElem? hi
          simp at this }
    refine ⟨t, pt, qt st' F' H1 F' _ _ _ _ EQ _ rel h3 (hsp x st' n ds Qd EQ h1) ⟨fun σ H2 F2 z1 s1 r1 q => ?_, fun _ _ _ _ _ _ q => q.elim, fun _ _ _ _ _ _ q => q.elim, fun v H1 F1 rr n1 s1 ok1 rr1 q => q.elim⟩⟩
    obtain ⟨fs, hz, q2⟩ := q
    obtain ⟨a, hσ, w⟩ := r1.ow 0 _ hz
    have e := w.pin x _ rfl
    subst e
    exact h2 H2 F2 fs z1.n r1.ok ⟨w.ho, w.f, w.h0, w.st, fun b d e => by cases e⟩ q2
/-- a class at C whose __init__ keeps sp -/
structure ClA (P : Program) (w : World) (K : PySem.W.Frag) (T : List (Addr × Str)) (mg : Str → Option Value) (base : Heap) (k : Nat) (x : Str) (C : Addr) (ps : List Str) (sp : ISpec) : Prop where
  ex : ∃ (f : Addr) (fd : FuncData), FnOk P w K mg base (L2.CX P w) k f fd ps (toIp K T C sp) ∧ Binds K fd ps [] ∧ Mk K C f ∧ mg x = some (.ref C)
@[reducible, simp] def mMake (C : Addr) (sp : ISpec) (ma : TDA) : TDE := fun st z Q EQ => ma st z (fun ds z1 => sp st z1.n ds (fun fs n' => Q (.ins C fs) { z1 with n := n' }) EQ) EQ
theorem de_make {C : Addr} {sp : ISpec} (c : ClA X.prog X.w X.K T X.mg X.base k x C ps sp) (hr : Room j X.A) (hk : k + 1 ≤ j) (hg : Gl X x) (hx : Passes (L2.CX X.prog X.w) X E) (ha : DA T X E (e :: es) mas) (hdb : (x == ("__debug__" : Str)) = false := by decide)
    (he : starEach (e :: es) X.env = (false, eval e X.env) :: starEach es X.env := by rfl) (hpl : (backTo pos (starEach es X.env)).any (·.1) = false := by rfl) : DE T X E (.Call (.Name x p) (e :: es) [] pos) (mMake C sp mas) := by
  obtain ⟨f, fd, F, hb, M, hm⟩ := c.ex
  obtain ⟨ta, pa, qa⟩ := ha.ex
  refine ⟨⟨_, pe_make M F (hr.mono hk) hg hm hb .nil hx pa hdb he hpl, fun st F0 H0 F H σ z Q EQ R r er h k => ?_⟩⟩
  refine qa st F0 H0 F H σ z _ EQ _ r er h fun vs H1 F1 ds z1 s1 r1 p1 h1 => fun x dx hx hdx hne => ?_
  rw [List.append_nil]
  refine ⟨H1, x, dx, vs, rfl, hx, hdx, hne, rfl, F1, st, z1.n, ds, _, EQ, r1.ok.refl', p1, h1, fun H2 F2 fs n' ok w q => ⟨rfl, ?_⟩, er.after r1.ok⟩
  obtain ⟨F3, s3, r3, rp⟩ := (r1.after ok).fix (Nw.of_own r1 w)
  exact k _ H2 F3 _ _ ((s1.trans ok.f0).trans s3) r3 rp q

/-! ### calls by keywords -/
structure DK (T : List (Addr × Str)) (X : Cx) (E : XK) (kws : List Keyword) (m : TDA) : Prop where
  ex : ∃ t : TA, PK X kws t ∧ ∀ (st : Option Addr) (F0 H0 F H : Hp) (σ : Sg) (z : Z) (Q : List D → Z → Prop) (EQ : TEX) (R : List V → Hp → Prop), Rel X.K T st F0 H0 F H σ z → ERel X.K T st F0 H0 E EQ → m st z Q EQ →
    (∀ vs H' F' ds z', Same F F' → Rel X.K T st F0 H0 F' H' σ z' → Reps X.K F' ds vs → Q ds z' → R vs H') → t σ H R
theorem pe_callN0 {CX : CXT} {f : Addr} {fd : FuncData} {ks : List Str} {sp : Sp} {kws : List Keyword} {tk : TA} {g : List Value → List Value → List Value} {gV : List V → List V → List V} (F : FnOk X.prog X.w X.K X.mg X.base CX k f fd ps sp) (hr : Room k X.A) (hg : Gl X x) (hm : X.mg x = some (.ref f)) (hk : PySem.W.keepIn X.K (.ref f) = true) (hb : KBn X.K fd ps 0 ks g gV) (hx : Passes CX X E)
    (hkw : PK X kws tk) (hall : (backToKw pos (keywordEach kws X.env)).all (·.1.isSome) = true := by rfl) (hks : (backToKw pos (keywordEach kws X.env)).filterMap (·.1) = ks := by rfl)
    (hdb : (x == ("__debug__" : Str)) = false := by decide)
    (hpl : ((backTo pos (starEach [] X.env)).any (·.1) || (backToKw pos (keywordEach kws X.env)).any (·.1.isNone)) = false := by rfl) :
    PE X (.Call (.Name x p) [] kws pos) (tCallN 0 ks.length sp gV E tNil tk) := by
  refine ⟨fun pins s σ H Q I h => ?_⟩
  refine wpAny_Call_Name_kw (ld_glob I hg hm ?_ hdb)
  refine PySem.W.callWith_KW0 (h₀ := X.base) I.ok.mod.kin hk hall ?_ hpl
  refine thn (hkw.run pos pins s σ H _ I h) fun ws s2 ⟨zs, H2, I2, rz, l1, l2, q2⟩ => ⟨I2.kIn, ?_⟩
  rw [hks]
  exact run_fnN (us := []) (vs := []) F hr hb hx I2 .nil rz rfl l2 q2
theorem dk_nil : DK T X E [] mNil := ⟨⟨_, pk_nil, fun st F0 H0 F H σ z Q EQ R r er h k => k [] H F [] z (Same.refl F) r .nil h⟩⟩
theorem dk_cons {kws : List Keyword} {nm : Option Str} {kpos : Pos} {mk : TDA} (h1 : DE T X E e me) (h2 : DK T X E kws mk) : DK T X E (⟨nm, e, kpos⟩ :: kws) (mCons me mk) := by
  obtain ⟨t, pe, qe⟩ := h1.ex
  obtain ⟨u, pa, qa⟩ := h2.ex
  refine ⟨⟨_, pk_cons pe pa, fun st F0 H0 F H σ z Q EQ R r er h k => ?_⟩⟩
  refine qe st F0 H0 F H σ z _ EQ _ r er h fun v H1 F1 d z1 s1 r1 p1 h1 => ?_
  refine qa st F0 H0 F1 H1 σ z1 _ EQ _ r1 er h1 fun vs H2 F2 ds z2 s2 r2 p2 h2 => ?_
  exact k _ H2 F2 _ z2 (s1.trans s2) r2 (.cons (p1.mono s2) p2) h2
structure FnKw (P : Program) (w : World) (K : PySem.W.Frag) (T : List (Addr × Str)) (mg : Str → Option Value) (base : Heap) (k : Nat) (x : Str) (ps : List Str) (sp : DSpec) (ks : List Str) (gD : List D → List D) : Prop where
  ex : ∃ (f : Addr) (fd : FuncData) (g : List Value → List Value → List Value) (gV : List V → List V → List V), FnOk P w K mg base (L2.CX P w) k f fd ps (toSp K T sp) ∧ mg x = some (.ref f) ∧ PySem.W.keepIn K (.ref f) = true ∧ KBn K fd ps 0 ks g gV ∧
    ∀ (F : Hp) (ds : List D) (vs : List V), Reps K F ds vs → Reps K F (gD ds) (gV [] vs)
@[reducible, simp] def mCallW (gD : List D → List D) (n : Nat) (sp : DSpec) (ma : TDA) : TDE := fun st z Q EQ => ma st z (fun ds z1 => ds.length = n ∧ sp st z1.n (gD ds) (fun r n' => Q r.d { z1 with n := n' }) EQ) EQ
theorem de_callKw {ks : List Str} {gD : List D → List D} {kws : List Keyword} (c : FnKw X.prog X.w X.K T X.mg X.base k x ps sp ks gD) (hr : Room j X.A) (hk : k ≤ j) (hg : Gl X x) (hx : Passes (L2.CX X.prog X.w) X E) (ha : DK T X E kws mas)
    (hall : (backToKw pos (keywordEach kws X.env)).all (·.1.isSome) = true := by rfl) (hks : (backToKw pos (keywordEach kws X.env)).filterMap (·.1) = ks := by rfl)
    (hdb : (x == ("__debug__" : Str)) = false := by decide)
    (hpl : ((backTo pos (starEach [] X.env)).any (·.1) || (backToKw pos (keywordEach kws X.env)).any (·.1.isNone)) = false := by rfl) :
    DE T X E (.Call (.Name x p) [] kws pos) (mCallW gD ks.length sp mas) := by
  obtain ⟨f, fd, g, gV, F, hm, hkp, hb, hg2⟩ := c.ex
  obtain ⟨ta, pa, qa⟩ := ha.ex
  refine ⟨⟨_, pe_callN0 F (hr.mono hk) hg hm hkp hb hx pa hall hks hdb hpl, fun st F0 H0 F H σ z Q EQ R r er h k => ?_⟩⟩
  refine qa st F0 H0 F H σ z _ EQ _ r er h fun vs H1 F1 ds z1 s1 r1 p1 h1 => ⟨rfl, by rw [← p1.length]; exact h1.1, ?_⟩
  have := call_sp (R := R) r1 er (hg2 F1 ds vs p1) h1.2 fun v H2 F2 rr n' ok q qd => by
    obtain ⟨F3, s3, r3, rp⟩ := res_sh r1 ok q
    exact k v H2 F3 _ _ (s1.trans s3) r3 rp qd
  rwa [List.append_nil] at this
end
end DL
end

section
set_option Elab.async false
set_option linter.all false
set_option maxRecDepth 100000
set_option maxHeartbeats 4000000
/-! DL7: defs of the top. -/
namespace DL
open PySem PySem.Spec PyProof.Rows L2
theorem pe_ty {X : Cx} {x : Str} {n : String} {pos : Pos} (hg : Gl X x) (hm : X.mg x = none) (hv : bootBuiltins x = some (.type n) := by rfl) (hn : x ≠ "__name__" := by decide) (hd : (x == ("__debug__" : Str)) = false := by decide) : PE X (.Name x pos) (tC (.ty n)) := pe_bltn hg hm hv rfl hn hd
section
variable {P : Program} {w : World} {K : PySem.W.Frag} {T : List (Addr × Str)} {mg : Str → Option Value} {base : Heap}
theorem passX {N : List Str} {q : Str} {sc : Scope} {f : Addr} {cdv : Value} {A : Around} {outer : List Env} {s : Shared} {H : Hp} {E : XK} : Passes (L2.CX P w) (cxOf (L2.CX P w) P w K mg base N q sc f cdv A outer s H E) E :=
  passes_call (takes_of rfl rfl rfl rfl) fun _ _ _ _ h => h
theorem ownX {N : List Str} {q : Str} {sc : Scope} {f : Addr} {cdv : Value} {A : Around} {outer : List Env} {s : Shared} {H : Hp} {E : XK} : PassesOwn (model P w) (cxOf (L2.CX P w) P w K mg base N q sc f cdv A outer s H E).A (cxOf (L2.CX P w) P w K mg base N q sc f cdv A outer s H E).env (cxOf (L2.CX P w) P w K mg base N q sc f cdv A outer s H E).xe :=
  passes_of rfl
/-- a def of the top, as it stands behind the top -/
def FunAt (K : PySem.W.Frag) (mg : Str → Option Value) (x : Str) (st : Stmt) : Prop := ∃ (f : Addr) (fd : FuncData), Fun K x x st f fd ∧ mg x = some (.ref f)
abbrev BindsH (x : Str) (st : Stmt) (ps : List Str) : Prop := ∀ (kV doc pm : Value) (an : Option Addr) (cdv ct : Value) (us : List Value), us.length = ps.length → bindArgs (PySem.W.fnOf x x (defArgs st) (defBody st) (defScope st) .none kV doc pm an cdv ct) ⟨us, []⟩ = pure (ps.zip us)
theorem mkFn {x : Str} {st : Stmt} {N ps : List Str} {k : Nat} {sp : DSpec} {m : TDS} (F : FunAt K mg x st) (S : FnScope N ps (defScope st)) (hb : BindsH x st ps) (len : ∀ s n ds Q EQ, sp s n ds Q EQ → ds.length = ps.length)
    (hbody : ∀ (f : Addr) (cdv : Value) (A : Around) (outer : List Env) (s : Shared) (H : Hp) (E : XK), Room k (A.deeper (envOfC x (defScope st) s.heap.objs.size f cdv)) → DB T (cxOf (L2.CX P w) P w K mg base N x (defScope st) f cdv A outer s H E) E (defBody st) m)
    (hsp : ∀ s n ds Q EQ, sp s n ds Q EQ → m s { nx := fun z => Q (.sh (.v .non)) z.n, rt := Q } ⟨ds.map DV.sh ++ List.replicate (N.length - ds.length) .un, n⟩ EQ) :
    Fn P w K T mg base (k + 1) x ps sp := by
  obtain ⟨f, fd, F, hm⟩ := F
  have F' := F
  obtain ⟨oc, od, kV, doc, pm, an, cdv, ct, osl, rfl, lk, hcd⟩ := F'.ex
  exact ⟨f, _, fn_ok F S len (hbody f) hsp, hm, F.kp, F.binds hb, ⟨_, _, _, _, _, _, _, _, _, rfl⟩, _, _, _, lk⟩
end
end DL
end

section
set_option Elab.async false
set_option linter.all false
set_option maxRecDepth 100000
set_option maxHeartbeats 4000000
/-! DL8: equality of deep data, dicts made, tuple(x), list(range(n)), two names at once; induction over comprehensions and loops. -/
namespace DL
open PySem PySem.Spec PyProof.Rows L2

/-! ### deep data -/
mutual
def pyD : D → PyData
  | .v .non => .none
  | .v (.bl b) => .bool b
  | .v (.int i) => .int i
  | .v (.str s) => .str s
  | .lst ds => .list (pyDs ds)
  | .tup ds => .tuple (pyDs ds)
  | _ => .none
def pyDs : List D → List PyData
  | [] => []
  | d :: ds => pyD d :: pyDs ds
end
mutual
def plainD : D → Bool
  | .v .non => true
  | .v (.bl _) => true
  | .v (.int _) => true
  | .v (.str _) => true
  | .lst ds => plainDs ds
  | .tup ds => plainDs ds
  | _ => false
def plainDs : List D → Bool
  | [] => true
  | d :: ds => plainD d && plainDs ds
end
mutual
theorem dp_rep {K : PySem.W.Frag} {F H : Hp} (s : Same F H) : ∀ {d : D} {v : V}, Rep K F d v → plainD d = true → Dp K H v (pyD d)
  | _, _, .v x, h => by
    cases x <;> first | (simp [plainD] at h; done) | skip
    · simp only [pyD]; exact .non
    · simp only [pyD]; exact .bl _
    · simp only [pyD]; exact .int _
    · simp only [pyD]; exact .str _
  | _, _, .lst hf r, h => by
    simp only [pyD]
    exact .lst (SqL.of (s _ _ hf)) (dp_reps s r (by simpa [plainD] using h))
  | _, _, .tup hf r, h => by
    simp only [pyD]
    exact .tup (SqT.same s hf) (dp_reps s r (by simpa [plainD] using h))
  | _, _, .dic _ _ _, h => by simp [plainD] at h
  | _, _, .ins _ _ _, h => by simp [plainD] at h
  | _, _, .at _, h => by simp [plainD] at h
  | _, _, .lsz _, h => by simp [plainD] at h
theorem dp_reps {K : PySem.W.Frag} {F H : Hp} (s : Same F H) : ∀ {ds : List D} {vs : List V}, Reps K F ds vs → plainDs ds = true → DpAll K H vs (pyDs ds)
  | _, _, .nil, _ => by simp only [pyDs]; exact .nil
  | _, _, .cons h t, hp => by
    simp only [plainDs, Bool.and_eq_true] at hp
    simp only [pyDs]
    exact .cons (dp_rep s h hp.1) (dp_reps s t hp.2)
end
/-- d == e -/
@[reducible, simp] def gEqD (neg : Bool) : G2 := fun d e Q => plainD d = true ∧ plainD e = true ∧ SeqAt.shaped (pyD d) = true ∧ SeqAt.shaped (pyD e) = true ∧ Q (.v (.bl (if neg then !PyData.eqv (pyD d) (pyD e) else PyData.eqv (pyD d) (pyD e))))
theorem p_eqD {K : PySem.W.Frag} : P2 K (rEqD K) (gEqD false) := by
  intro F H d1 d2 v1 v2 Q R s r1 r2 h k
  obtain ⟨h1, h2, h3, h4, q⟩ := h
  exact ⟨_, _, dp_rep s r1 h1, dp_rep s r2 h2, h3, h4, k _ _ (.v _) q⟩
theorem p_neD {K : PySem.W.Frag} : P2 K (rNeD K) (gEqD true) := by
  intro F H d1 d2 v1 v2 Q R s r1 r2 h k
  obtain ⟨h1, h2, h3, h4, q⟩ := h
  exact ⟨_, _, dp_rep s r1 h1, dp_rep s r2 h2, h3, h4, k _ _ (.v _) q⟩
/-- d in a list -/
@[reducible, simp] def gInDeep : G2 := fun d e Q => ∃ es, e = .lst es ∧ plainD d = true ∧ plainDs es = true ∧ SeqAt.shaped (pyD d) = true ∧ SeqAt.shaped (.list (pyDs es)) = true ∧ Q (.v (.bl ((pyDs es).any fun z => PyData.eqv z (pyD d))))
theorem p_inDeep {K : PySem.W.Frag} : P2 K (rInD K) gInDeep := by
  intro F H d1 d2 v1 v2 Q R s r1 r2 h k
  obtain ⟨es, rfl, h1, h2, h3, h4, q⟩ := h
  have h5 := dp_rep s r2 (show plainD (.lst es) = true by simpa [plainD] using h2)
  simp only [pyD] at h5
  exact ⟨_, _, dp_rep s r1 h1, h5, h3, h4, k _ _ (.v _) q⟩

/-! ### tuple(x) -/
@[reducible, simp] def gTuple : GC := fun ds Q => ∃ d xs, ds = [d] ∧ seqOf d = some xs ∧ Q (.tup xs)
section
variable {T : List (Addr × Str)} {X : Cx} {E : XK} {e a b : Expr} {es : List Expr} {pos p : Pos} {me ma mb : TDE} {mt mu : TDT} {mas : TDA} {k j : Nat} {x : Str} {ps : List Str} {sp : DSpec}
theorem de_tuple (hgl : Gl X "tuple") (hm : X.mg "tuple" = none) (ha : DA T X E [e] mas)
    (he : starEach [e] X.env = (false, eval e X.env) :: starEach [] X.env := by rfl) (hpl : (backTo pos (starEach [] X.env)).any (·.1) = false := by rfl) : DE T X E (.Call (.Name "tuple" p) [e] [] pos) (mCB gTuple mas) := by
  obtain ⟨ta, pa, qa⟩ := ha.ex
  refine ⟨⟨_, pe_callTy call_tuple_of hgl hm rfl pa (by decide) (by decide) he hpl, fun st F0 H0 F H σ z Q EQ R r er h k => ?_⟩⟩
  refine qa st F0 H0 F H σ z _ EQ _ r er h fun vs H1 F1 ds z1 s1 r1 p1 h1 => ?_
  obtain ⟨d, xs, rfl, hd, q⟩ := h1
  cases p1 with
  | cons rp t =>
    cases t
    cases rp with
    | lst hf rr =>
      cases hd
      refine ⟨_, _, rfl, .inl ⟨SqL.of (r1.ok.sub _ _ hf), fun l hl => ?_⟩⟩
      obtain ⟨r2, s2⟩ := r1.laidF (u := .tup _) hl (fun ps q => by cases q)
      exact k _ _ _ _ z1 (s1.trans s2) r2 (.tup (SqT.of upd_same) (rr.mono s2)) q
    | tup hf rr =>
      cases hd
      exact ⟨_, _, rfl, .inr ⟨SqT.same r1.ok.sub hf, k _ H1 F1 _ z1 s1 r1 (.tup hf rr) q⟩⟩
    | _ => cases hd

/-! ### list(range(n)) -/
@[reducible, simp] def mListRg (me : TDE) : TDE := fun st z Q EQ => me st z (fun d z1 => ∃ n : Nat, d = .v (.int n) ∧ n ≤ 1000000 ∧ Q (.lst ((List.range n).map fun i : Nat => .v (.int (i : Int)))) z1) EQ
theorem reps_rg {K : PySem.W.Frag} {F : Hp} (n : Nat) : Reps K F ((List.range n).map fun i : Nat => .v (.int (i : Int))) (rgV 0 n) := by
  unfold rgV
  have e : ((n : Int) - 0).toNat = n := by omega
  rw [e]
  generalize List.range n = l
  induction l with
  | nil => exact .nil
  | cons i l ih =>
    refine .cons ?_ ih
    show Rep K F _ (V.int (0 + (i : Int)))
    rw [Int.zero_add]
    exact .v _
theorem dn_listRg {p2 pos2 : Pos} (hc : X.calm = true) (hg : Gl X "list") (hm : X.mg "list" = none) (hg2 : Gl X "range") (hm2 : X.mg "range" = none) (he : DE T X E e me) (na : starEach [e] X.env = (false, eval e X.env) :: starEach [] X.env := by rfl)
    (nb : starEach [.Call (.Name "range" p2) [e] [] pos2] X.env = (false, eval (.Call (.Name "range" p2) [e] [] pos2) X.env) :: starEach [] X.env := by rfl) : DN T X E (.Call (.Name "list" p) [.Call (.Name "range" p2) [e] [] pos2] [] pos) (mListRg me) := by
  obtain ⟨ta, pa, qa⟩ := he.ex
  refine ⟨⟨_, pe_listRg hc hg hm (prg_1 hg2 hm2 pa na) nb, fun st F0 H0 F H σ z Q EQ R r er h k => ?_⟩⟩
  refine qa st F0 H0 F H σ z _ EQ _ r er h fun v H1 F1 d z1 s1 r1 p1 h1 => ?_
  obtain ⟨n, rfl, hn, q⟩ := h1
  cases p1
  refine ⟨n, rfl, RgOk.of_le (by omega) (by omega) (by omega) (by omega), fun q' hq => ?_⟩
  obtain ⟨r2, w⟩ := r1.laid hq (Cell.lst (K := X.K) (F := F1) (reps_rg n))
  exact k q' _ F1 _ z1 s1 r2 w q

/-! ### {k: v for ..} -/
def dcompD (g : TDG) (mt : TDT) (mk mv : TDE) (vs : List Nat) (st : Option Addr) (Q : D → Z → Prop) : List D → List (Key × D) → Z → Prop
  | [], acc, z => Q (.dic acc) z
  | d :: ds, acc, z => g d z fun z1 => mt st z1 (fun b n => (b = true → mk st { z1 with n := n } (fun y z2 => mv st z2 (fun x z3 => ∃ key, y = kD key ∧ acc.length < 1000000 ∧ dcompD g mt mk mv vs st Q ds (putD acc key x) (z3.wipe vs)) (fun _ _ => False)) (fun _ _ => False)) ∧
      (b = false → dcompD g mt mk mv vs st Q ds acc (({ z1 with n := n } : Z).wipe vs))) (fun _ _ => False)
@[reducible, simp] def mDcomp (mi : TDA) (g : TDG) (mt : TDT) (mk mv : TDE) (vs : List Nat) : TDE := fun st z Q EQ => mi st z (fun ds z1 => dcompD g mt mk mv vs st Q ds [] (z1.wipe vs)) EQ
theorem dcomp_ok {mk mv : TDE} {own : List (Str × Nat)} {ws : List Nat} {g : TDG} {st : Option Addr} {F0 H0 F1 H1 : Hp} {σ : Sg} {z1 : Z} {J : It} {ds : List D} {Q : D → Z → Prop} {K : PySem.W.Frag} {R : VK} (hw : ∀ i ∈ ws, i ∈ own.map (·.2)) (r1 : Rel K T st F0 H0 F1 H1 σ z1) (it : ItOk K T st F1 J ds)
    (h : dcompD g mt mk mv (own.map (·.2)) st Q ds [] (z1.wipe (own.map (·.2)))) (k : ∀ a H' F' o z', Same F1 F' → Rel K T st F0 H0 F' H' σ z' → Nw K st F' H0 H' σ z' a o → Q o z' → R (.ref a) H') :
    ∀ Dl, H1 Dl = none → ∃ W : Nat → Nat → Hp → Prop, (∃ m, W 0 m (upd H1 Dl (.dK []))) ∧ ∀ i m H, W i m H →
      (J.stop i H ∧ R (.ref Dl) H) ∨ (J.go i H ∧ ∃ Nx : Hp → Prop, (∀ H', Nx H' → ∃ m', m' < m ∧ W (i + 1) m' H') ∧ ∀ x H', J.yld i H x H' → canG K T ws g x (L2.wipe σ (own.map (·.2))) H' fun σ2 H2 => L2.wipe σ2 (own.map (·.2)) = L2.wipe σ (own.map (·.2)) ∧ canT K T mt σ2 H2 fun b H3 =>
        if b = true then canE K T mk σ2 H3 fun y H4 => canE K T mv σ2 H4 fun x H5 => ∃ kvs key, y = kV key ∧ H5 Dl = some (.dK kvs) ∧ kvs.length < sizeLine ∧ Nx (upd H5 Dl (.dK (putK kvs key x))) else Nx H3) := by
  intro Dl hD
  obtain ⟨vs, hvs⟩ : ∃ vs, vs = own.map (·.2) := ⟨_, rfl⟩
  rw [← hvs] at hw h ⊢
  obtain ⟨rs, ws0⟩ := r1.laid hD (Cell.dic (K := K) (F := F1) (kvs := []) (es := []) rfl .nil)
  refine ⟨fun i m H => ∃ (F : Hp) (z : Z) (acc : List (Key × D)), Same F1 F ∧ Rel K T st F0 H0 F H (L2.wipe σ vs) (z.wipe vs) ∧ Nw K st F H0 H (L2.wipe σ vs) (z.wipe vs) Dl (.dic acc) ∧ dcompD g mt mk mv vs st Q (ds.drop i) acc (z.wipe vs) ∧ m = ds.length - i ∧ i ≤ ds.length,
    ⟨ds.length, F1, z1, [], Same.refl F1, rs.wipe rfl, ws0.wipe rfl, by rw [List.drop_zero]; exact h, rfl, Nat.zero_le _⟩, ?_⟩
  rintro i m H ⟨F, z, acc, s, r, w, hc, rfl, hi⟩
  by_cases hlt : i < ds.length
  · refine .inr ⟨it.go i H (s.trans r.ok.sub) hlt, fun H' => ∃ (F : Hp) (z : Z) (acc : List (Key × D)), Same F1 F ∧ Rel K T st F0 H0 F H' (L2.wipe σ vs) (z.wipe vs) ∧ Nw K st F H0 H' (L2.wipe σ vs) (z.wipe vs) Dl (.dic acc) ∧ dcompD g mt mk mv vs st Q (ds.drop (i + 1)) acc (z.wipe vs), ?_, ?_⟩
    · rintro H' ⟨F', z', acc', s', r', w', hc'⟩
      exact ⟨ds.length - (i + 1), by omega, F', z', acc', s', r', w', hc', rfl, hlt⟩
    · intro x H' y
      obtain ⟨F', d, hd, ok, rp⟩ := it.yld i _ _ F H _ x H' s r.ok hlt y
      have r2 := r.after ok
      have w2 := w.after ok
      have s2 : Same F1 F' := s.trans ok.f0
      have e : ds.drop i = d :: ds.drop (i + 1) := by
        rw [List.drop_eq_getElem_cons hlt]
        have : ds[i] = d := (List.getElem?_eq_some_iff.mp hd).2
        rw [this]
      rw [e] at hc
      have f0 : F0 Dl = none := Same.none r2.ok.f0 w2.own.f
      refine ⟨st, F0, grd H0 H' Dl, F', _, d, _, r2.guard w2, rp, hc, fun σ2 z2 r3 ag h3 => ?_⟩
      have hwp : L2.wipe σ2 vs = L2.wipe σ vs := by
        rw [← wipe_wipe σ vs]
        exact wipe_eq ag.1 fun i hi => ag.2 i fun q => hi (hw i q)
      refine ⟨hwp, st, F0, grd H0 H' Dl, F', z2, _, r3, h3, fun b H3 n3 r4 h4 => ?_⟩
      cases b with
      | true =>
        refine iteT ?_
        refine ⟨st, F0, grd H0 H' Dl, F', _, _, r4, h4.1 rfl, fun v H4 F4 y z4 s4 r5 p5 h5 => ?_⟩
        refine ⟨st, F0, grd H0 H' Dl, F4, _, _, r5, h5, fun v2 H5 F5 y2 z5 s5 r6 p6 h6 => ?_⟩
        obtain ⟨key, rfl, hl, h7⟩ := h6
        obtain ⟨r7, w7⟩ := Rel.unguard w2.own (s4.trans s5) f0 r6
        obtain ⟨u, hu, c⟩ := w7.own.ho
        cases c with
        | @dic _ es hk rr =>
          refine ⟨es, key, kD_rep p5, hu, size_lt (by have := congrArg List.length hk; simp at this; omega), ?_⟩
          obtain ⟨r8, w8⟩ := r7.putN w7 (Cell.put hk rr p6)
          exact ⟨F5, z5, _, (s2.trans s4).trans s5, r8.wipe hwp, w8.wipe hwp, h7⟩
      | false =>
        refine iteF ?_
        obtain ⟨r6, w6⟩ := Rel.unguard w2.own (Same.refl F') f0 r4
        exact ⟨F', _, acc, s2, r6.wipe hwp, w6.wipe hwp, h4.2 rfl⟩
  · have e : i = ds.length := by omega
    subst e
    rw [List.drop_length] at hc
    exact .inl ⟨it.stop _ H (s.trans r.ok.sub) (Nat.le_refl _), k Dl H F _ _ s r.unwipe w.unwipe hc⟩
theorem dn_dcomp {scope : Scope} {own : List (Str × Nat)} {ws : List Nat} {g : TDG} {mi : TDA} {kx vx tg iter : Expr} {ifs : List Expr} {mk mv : TDE} (hc : X.calm = true) (hN : X.N.Nodup) (hi : DI T X E tg iter mi) (ok : BlkOk X.N X.env.scope scope own) (hw : ∀ i ∈ ws, i ∈ own.map (·.2))
    (hg : ∀ (s : Shared) (H : Hp) (C : Addr) (cl : List (Str × Addr)) (fp : List Addr), DG T (X.blk s H scope (compEnvC scope cl C X.env) fp) tg ws g) (ht : ∀ (s : Shared) (H : Hp) (C : Addr) (cl : List (Str × Addr)) (fp : List Addr), DTs T (X.blk s H scope (compEnvC scope cl C X.env) fp) ifs mt)
    (hk : ∀ (s : Shared) (H : Hp) (C : Addr) (cl : List (Str × Addr)) (fp : List Addr), DE T (X.blk s H scope (compEnvC scope cl C X.env) fp) E0 kx mk)
    (he : ∀ (s : Shared) (H : Hp) (C : Addr) (cl : List (Str × Addr)) (fp : List Addr), DE T (X.blk s H scope (compEnvC scope cl C X.env) fp) E0 vx mv) (hs : ∀ x, foldedSetIterable iter X.env x = pure x := by intro _; rfl) :
    DN T X E (.DictComp kx vx [⟨tg, iter, ifs, 0⟩] scope pos) (mDcomp mi g mt mk mv (own.map (·.2))) := by
  obtain ⟨wi, pi, qi⟩ := hi.ex
  refine ⟨⟨_, pe_dc (g := canG X.K T ws g) (tt := canT X.K T mt) (tk := canE X.K T mk) (tv := canE X.K T mv) hc hN pi ok (fun s H C cl fp => (hg s H C cl fp).can) (fun s H C cl fp => (ht s H C cl fp).can) (fun s H C cl fp => (hk s H C cl fp).can) (fun s H C cl fp => (he s H C cl fp).can) hs, fun st F0 H0 F H σ z Q EQ R r er h k => ?_⟩⟩
  refine qi st F0 H0 F H σ z _ EQ _ r er h fun J H1 F1 ds z1 s1 r1 it h1 => ?_
  exact dcomp_ok hw r1 it h1 fun a H' F' o z' s => k a H' F' o z' (s1.trans s)

/-! ### dict(pairs) -/
def mergeD (kvs more : List (Key × D)) : List (Key × D) := more.foldl (fun acc kv => putD acc kv.1 kv.2) kvs
def pairD (kv : Key × D) : D := .tup [kD kv.1, kv.2]
theorem reps_pairs {K : PySem.W.Frag} {F : Hp} : ∀ {kvs : List (Key × D)} {vs : List V}, Reps K F (kvs.map pairD) vs → ∃ (ps : List Addr) (es : List (Key × V)), vs = ps.map V.ref ∧ Paired (fun p kv => SqT K F p [kV kv.1, kv.2]) ps es ∧ es.map (·.1) = kvs.map (·.1) ∧ Reps K F (kvs.map (·.2)) (es.map (·.2))
  | [], _, .nil => ⟨[], [], rfl, .nil, rfl, .nil⟩
  | (k1, d1) :: kvs, _, .cons h t => by
    obtain ⟨ps, es, rfl, hp, hk, hr⟩ := reps_pairs t
    cases h with
    | @tup a _ _ hf rr =>
      cases rr with
      | cons rk rr2 =>
        cases rr2 with
        | cons rv rr3 =>
          cases rr3
          have := kD_rep rk
          subst this
          exact ⟨a :: ps, (k1, _) :: es, rfl, .cons hf hp, by simp [hk], .cons rv hr⟩
theorem merge_rep {K : PySem.W.Frag} {F : Hp} : ∀ {more : List (Key × D)} {es : List (Key × V)} {kvs : List (Key × D)} {fs : List (Key × V)}, es.map (·.1) = more.map (·.1) → Reps K F (more.map (·.2)) (es.map (·.2)) → Cell K F (.dic kvs) (.dK fs) → Cell K F (.dic (mergeD kvs more)) (.dK (mergeK fs es))
  | [], [], _, _, _, _, c => c
  | [], _ :: _, _, _, h, _, _ => by simp at h
  | _ :: _, [], _, _, h, _, _ => by simp at h
  | (k1, d1) :: more, (k2, v2) :: es, kvs, fs, h, r, c => by
    simp only [List.map_cons, List.cons.injEq] at h
    obtain ⟨e, h⟩ := h
    have e : k2 = k1 := e
    subst e
    cases r with
    | cons hr tr =>
      cases c with
      | dic hk rr => exact merge_rep (more := more) (es := es) h tr (Cell.put hk rr hr)
@[reducible, simp] def gDictP : GC := fun ds Q => ∃ kvs, ds = [.lst (kvs.map pairD)] ∧ Q (.dic (mergeD [] kvs))
theorem p_dictP {K : PySem.W.Frag} : PCN K (fun xs H Q => ∃ (a : Addr) (ps : List Addr) (kvs : List (Key × V)), xs = [.ref a] ∧ SqL K H a (ps.map V.ref) ∧ Paired (fun p kv => SqT K H p [kV kv.1, kv.2]) ps kvs ∧
    ∀ p, H p = none → Q (.ref p) (upd H p (.dK (mergeK [] kvs)))) gDictP := by
  intro F H ds vs Q R s rp h k
  obtain ⟨kvs, rfl, q⟩ := h
  cases rp with
  | cons r t =>
    cases t
    cases r with
    | lst hf rr =>
      obtain ⟨ps, es, rfl, hp, hk, hr⟩ := reps_pairs rr
      refine ⟨_, ps, es, rfl, SqL.of (s _ _ hf), ?_, fun p hn => k _ _ p hn (merge_rep hk hr (.dic rfl .nil)) q⟩
      clear hk hr rr hf
      induction hp with
      | nil => exact .nil
      | cons h t ih => exact .cons (SqT.same s h) ih

/-! ### a, b = x, y -/
@[reducible, simp] def sPar (i j : Nat) (ma : TDA) : TDS := fun st D z EQ => ma st z (fun ds z1 => ∃ d e, ds = [d, e] ∧ D.nx ((z1.put i (.sh d)).put j (.sh e))) EQ
theorem ds_par (i j : Nat) {y : Str} {px py pt : Pos} {kt k2 pt2} (hc : X.calm = true) (hN : X.N.Nodup) (ha : DA T X E [a, b] mas) (hij : i ≠ j := by decide) (hi : X.N[i]? = some x := by rfl) (hj : X.N[j]? = some y := by rfl)
    (hx : X.env.scope.names.lookup x = some .local := by rfl) (hy : X.env.scope.names.lookup y = some .local := by rfl)
    (hw : swappedStores [.Tuple [.Name x px, .Name y py] kt pt] (.Tuple [a, b] k2 pt2) X.env = pure (some [x, y]) := by rfl)
    (hs : swapsWithSole [.Tuple [.Name x px, .Name y py] kt pt] (.Tuple [a, b] k2 pt2) pos.line X.env = pure false := by rfl) :
    DS T X E (.Assign [.Tuple [.Name x px, .Name y py] kt pt] (.Tuple [a, b] k2 pt2) pos) (sPar i j mas) := by
  obtain ⟨ta, pa, qa⟩ := ha.ex
  refine ⟨⟨_, ps_par hc hN hi hj hij hx hy pa hw hs, fun st F0 H0 F H σ z D EQ D' r er h k => ?_⟩⟩
  refine qa st F0 H0 F H σ z _ EQ _ r er h fun vs H1 F1 ds z1 s1 r1 p1 h1 => ?_
  obtain ⟨d, e, rfl, q⟩ := h1
  cases p1 with
  | cons h1 t1 =>
    cases t1 with
    | cons h2 t2 =>
      cases t2
      exact ⟨_, _, rfl, k.nx _ H1 F1 _ s1 ((r1.setS h1).setS h2) q⟩
theorem grd_fr {H0 H : Hp} {a b : Addr} (h0 : Fr H0 a) (h : Fr (grd H0 H a) b) : Fr H0 b := by
  by_cases e : b = a
  · rw [e]; exact h0
  · exact fun o' h' => h o' (by rw [grd_ne e]; exact h')
theorem ERel.guard {K : PySem.W.Frag} {st : Option Addr} {F0 H0 H1 : Hp} {E : XK} {EQ : TEX} {a : Addr} (er : ERel K T st F0 H0 E EQ) (h0 : Fr H0 a) : ERel K T st F0 (grd H0 H1 a) E EQ := by
  intro ex n F H d es ok h1 h2 h3 h4 h5
  refine er ex n F H d es ?_ h1 (grd_fr h0 h2) h3 h4 h5
  exact ⟨ok.sub, ok.nt, ok.f0, fun b o hb => (ok.new b o hb).imp id (grd_fr h0), fun b o hb hs hn => ok.keep b o (by rw [grd_ne (h0.ne hb hn)]; exact hb) hs hn, ok.strm, ok.tabs⟩
@[reducible, simp] def sParN (i j : Nat) (ma mb : TDE) : TDS := fun st D z EQ => ma st z (fun o z1 => mb st z1 (fun e z2 => D.nx ((z2.put i (.ow o)).put j (.sh e))) EQ) EQ
theorem ds_parN (i j : Nat) {y : Str} {px py pt : Pos} {kt k2 pt2} (hc : X.calm = true) (hN : X.N.Nodup) (ha : DN T X E a ma) (hb : DE T X E b mb) (hij : i ≠ j := by decide) (hi : X.N[i]? = some x := by rfl) (hj : X.N[j]? = some y := by rfl)
    (hx : X.env.scope.names.lookup x = some .local := by rfl) (hy : X.env.scope.names.lookup y = some .local := by rfl)
    (hw : swappedStores [.Tuple [.Name x px, .Name y py] kt pt] (.Tuple [a, b] k2 pt2) X.env = pure (some [x, y]) := by rfl)
    (hs : swapsWithSole [.Tuple [.Name x px, .Name y py] kt pt] (.Tuple [a, b] k2 pt2) pos.line X.env = pure false := by rfl)
    (hpa : ∀ {ta tb : TE}, PE X a ta → PE X b tb → PA X [a, b] (tCons ta (tCons tb tNil)) := by intro _ _ h h2; exact pa_cons h (pa_cons h2 pa_nil)) :
    DS T X E (.Assign [.Tuple [.Name x px, .Name y py] kt pt] (.Tuple [a, b] k2 pt2) pos) (sParN i j ma mb) := by
  obtain ⟨ta, pa, qa⟩ := ha.ex
  obtain ⟨tb, pb, qb⟩ := hb.ex
  refine ⟨⟨_, ps_par hc hN hi hj hij hx hy (hpa pa pb) hw hs, fun st F0 H0 F H σ z D EQ D' r er h k => ?_⟩⟩
  refine qa st F0 H0 F H σ z _ EQ _ r er h fun c H1 F1 o z1 s1 r1 w1 h1 => ?_
  have f0 : F0 c = none := Same.none r1.ok.f0 w1.own.f
  refine qb st F0 (grd H0 H1 c) F1 H1 σ z1 _ EQ _ (r1.guard w1) (ERel.guard er w1.own.h0) h1 fun v H2 F2 d z2 s2 r2 p2 h2 => ?_
  obtain ⟨r3, w3⟩ := Rel.unguard w1.own s2 f0 r2
  exact ⟨_, _, rfl, k.nx _ H2 F2 _ (s1.trans s2) ((r3.setN w3).setS p2) h2⟩
@[reducible, simp] def sPar3 (i j l : Nat) (ma : TDA) : TDS := fun st D z EQ => ma st z (fun ds z1 => ∃ d e f, ds = [d, e, f] ∧ D.nx (((z1.put i (.sh d)).put j (.sh e)).put l (.sh f))) EQ
end
/-! ### induction over comprehensions and loops -/
theorem comp_ind {g : TDG} {mt : TDT} {me : TDE} {vs : List Nat} {st : Option Addr} {Q : D → Z → Prop} (I : List D → List D → Z → Prop) (h0 : ∀ acc z, I [] acc z → Q (.lst acc) z)
    (hs : ∀ d ds acc z (C : List D → Z → Prop), (∀ acc z, I ds acc z → C acc z) → I (d :: ds) acc z → g d z fun z1 => mt st z1 (fun b n => (b = true → me st { z1 with n := n } (fun y z2 => acc.length < 1000000 ∧ C (acc ++ [y]) (z2.wipe vs)) (fun _ _ => False)) ∧
      (b = false → C acc (({ z1 with n := n } : Z).wipe vs))) (fun _ _ => False)) : ∀ ds acc z, I ds acc z → compD g mt me vs st Q ds acc z
  | [], acc, z, h => h0 acc z h
  | d :: ds, acc, z, h => hs d ds acc z _ (fun acc z h => comp_ind I h0 hs ds acc z h) h
theorem for_ind {g : TDG} {mb : TDS} {st : Option Addr} {D0 : DEnds} {EQ : TEX} (I : List D → Z → Prop) (h0 : ∀ z, I [] z → D0.nx z)
    (hs : ∀ d ds z (C : Z → Prop), (∀ z, I ds z → C z) → I (d :: ds) z → g d z fun z1 => mb st { nx := C, rt := D0.rt, bk := D0.nx, ct := C } z1 EQ) : ∀ ds z, I ds z → forD g mb st D0 EQ ds z
  | [], z, h => h0 z h
  | d :: ds, z, h => hs d ds z _ (fun z h => for_ind I h0 hs ds z h) h
end DL
end

section
set_option Elab.async false
set_option linter.all false
set_option maxRecDepth 100000
set_option maxHeartbeats 4000000
/-! DL9: names for the printer. -/
namespace DL
open PySem PySem.Spec PyProof.Rows L2
theorem hu64 {A : Around} {k : Nat} (hr : Room k A) : A.units + 64 < cLine := by have := hr.un; omega
theorem hu65 {A : Around} {k : Nat} (hr : Room k A) : A.units + 65 < cLine := by have := hr.un; omega
section
variable {T : List (Addr × Str)} {X : Cx} {E : XK} {e a b f : Expr} {es : List Expr} {pos p : Pos} {me ma mb mf : TDE} {mt mu : TDT} {mas : TDA} {k j : Nat} {x : Str} {ps : List Str} {sp : DSpec}
def pairOf : D → Option (D × D)
  | .tup [x, y] => some (x, y)
  | .lst [x, y] => some (x, y)
  | _ => none
@[simp] theorem pairOf_t (x y : D) : pairOf (.tup [x, y]) = some (x, y) := rfl
@[simp] theorem pairOf_l (x y : D) : pairOf (.lst [x, y]) = some (x, y) := rfl
section
variable (ds : List D) (kvs : List (Key × D)) (b : Bool) (i : Int) (s : Str) (C : Addr) (fs : List (Str × D))
@[simp] theorem tyS_n : tyS (.v .non) = some "NoneType" := rfl
@[simp] theorem tyS_b : tyS (.v (.bl b)) = some "bool" := rfl
@[simp] theorem tyS_i : tyS (.v (.int i)) = some "int" := rfl
@[simp] theorem tyS_s : tyS (.v (.str s)) = some "str" := rfl
@[simp] theorem tyS_l : tyS (.lst ds) = some "list" := rfl
@[simp] theorem tyS_t : tyS (.tup ds) = some "tuple" := rfl
@[simp] theorem tyS_d : tyS (.dic kvs) = some "dict" := rfl
@[simp] theorem lenD_l : lenD (.lst ds) = some ds.length := rfl
@[simp] theorem lenD_t : lenD (.tup ds) = some ds.length := rfl
@[simp] theorem lenD_s : lenD (.v (.str s)) = some s.length := rfl
@[simp] theorem lenD_d : lenD (.dic kvs) = some kvs.length := rfl
@[simp] theorem seqOf_l : seqOf (.lst ds) = some ds := rfl
@[simp] theorem seqOf_t : seqOf (.tup ds) = some ds := rfl
@[simp] theorem isNon_n : isNon (.v .non) = true := rfl
@[simp] theorem isNon_b : isNon (.v (.bl b)) = false := rfl
@[simp] theorem isNon_i : isNon (.v (.int i)) = false := rfl
@[simp] theorem isNon_s : isNon (.v (.str s)) = false := rfl
@[simp] theorem isNon_l : isNon (.lst ds) = false := rfl
@[simp] theorem isNon_t : isNon (.tup ds) = false := rfl
@[simp] theorem isNon_d : isNon (.dic kvs) = false := rfl
@[simp] theorem isNon_ins : isNon (.ins C fs) = false := rfl
end
theorem pairOf_ok {d x y : D} (h : pairOf d = some (x, y)) : d = .tup [x, y] ∨ d = .lst [x, y] := by
  unfold pairOf at h
  split at h
  · cases h; exact .inl rfl
  · cases h; exact .inr rfl
  · cases h
@[reducible, simp] def gP2 (m1 m2 : TDG) : TDG := fun d z Q => ∃ p, pairOf d = some p ∧ m1 p.1 z (fun z1 => m2 p.2 z1 Q)
theorem dg_tup2 {a b : Expr} {kk : Nat} {ws us : List Nat} {ma mb : TDG} (hc : X.calm = true) (h1 : DG T X a ws ma) (h2 : DG T X b us mb) (h3 : (assignEach [a, b] X.env).length = 2 := by rfl) (h4 : (assignEach [a, b] X.env).findIdx? (·.1) = none := by rfl)
    (h5 : ∀ {t u : TG}, PG X a t → PG X b u → PGs X [a, b] (gCons t (gCons u gNil)) := by exact fun p q => pgs_cons p (pgs_cons q pgs_nil)) : DG T X (.Tuple [a, b] kk pos) (ws ++ us) (gP2 ma mb) := by
  obtain ⟨t, p, q⟩ := h1.ex
  obtain ⟨u, p2, q2⟩ := h2.ex
  refine ⟨⟨_, PG.or (pg_tup hc (h5 p p2) h3 h4) (pg_unl hc (h5 p p2) h3 h4), fun st F0 H0 F H σ z d v Q R r rp h k => ?_⟩⟩
  obtain ⟨⟨x, y⟩, hd, hm⟩ := h
  have hd := pairOf_ok hd
  have go : ∀ {vs : List V}, Reps X.K F [x, y] vs → gCons t (gCons u gNil) vs σ H R := fun {vs} rr => by
    cases rr with
    | cons rx rr =>
      cases rr with
      | cons ry rr =>
        cases rr
        exact ⟨_, _, rfl, q st F0 H0 F H σ z x _ _ _ r rx hm fun σ1 z1 r1 a1 m1 => ⟨_, _, rfl, q2 st F0 H0 F H σ1 z1 y _ Q _ r1 ry m1 fun σ2 z2 r2 a2 h2 => ⟨rfl, k σ2 z2 r2 (a1.trans a2) h2⟩⟩⟩
  rcases hd with rfl | rfl
  · cases rp with
    | tup hf rr => exact .inl ⟨_, _, rfl, SqT.same r.ok.sub hf, rr.length.symm.trans rfl, go rr⟩
  · cases rp with
    | lst hf rr => exact .inr ⟨_, _, rfl, SqL.of (r.ok.sub _ _ hf), rr.length.symm.trans rfl, go rr⟩
theorem pe_gc {v : V} (hg : Gl X x) (h : ∃ u, X.mg x = some u ∧ RelV v u) (hd : (x == ("__debug__" : Str)) = false := by decide) : PE X (.Name x pos) (tC v) := by
  obtain ⟨u, hm, r⟩ := h
  exact pe_glob hg hm r hd
/-- an item of a list or of a tuple -/
@[reducible, simp] def gIxA : G2 := fun d1 d2 Q => ∃ ds i d, seqOf d1 = some ds ∧ d2 = .v (.int i) ∧ atI ds i = some d ∧ Q d
theorem ix_any : IxR X (fun x y H Q => rIxL X.K x y H Q ∨ rIxT X.K x y H Q) := by
  intro value slice pins s σ H x y v u Q I rx ry h hs
  rcases h with h | h
  · exact ix_list value slice pins s σ H x y v u Q I rx ry h hs
  · exact ix_tup value slice pins s σ H x y v u Q I rx ry h hs
theorem p_ixA {K : PySem.W.Frag} : P2 K (fun x y H Q => rIxL K x y H Q ∨ rIxT K x y H Q) gIxA := by
  intro F H d1 d2 v1 v2 Q R s r1 r2 h k
  obtain ⟨ds, i, d, hd, rfl, c, q⟩ := h
  cases r1 with
  | lst hf r =>
    cases hd
    exact .inl (p_ixL F H _ _ _ _ Q R s (.lst hf r) r2 ⟨_, i, d, rfl, rfl, c, q⟩ k)
  | tup hf r =>
    cases hd
    exact .inr (p_ixT F H _ _ _ _ Q R s (.tup hf r) r2 ⟨_, i, d, rfl, rfl, c, q⟩ k)
  | _ => cases hd
/-- a test by a value -/
theorem dt_cmpV {op : CmpOp} {m : TDE} (he : DE T X E (.Compare a [op] [b] pos) m) (hw : ∀ whole, isTrue (.Compare a [op] [b] pos) X.env whole = (do let v ← whole; standAt (Expr.Compare a [op] [b] pos).pos; holding [v] (truthy v)) := by intro _; rfl) : DT T X E (.Compare a [op] [b] pos) (tBool m) := dt_val he hw
theorem dt_inD {i o : Expr} {mi mo : TDE} (hu : X.A.units + 1 < cLine) (hi : DE T X E i mi) (ho : DE T X E o mo) (hm : behindInMarks .In o = false := by rfl) : DT T X E (.Compare i [.In] [o] pos) (tBool (mOp (gInD' false) mi mo)) := by
  obtain ⟨u, pu, q2⟩ := hi.ex
  obtain ⟨t, pt, q⟩ := ho.ex
  refine ⟨⟨_, pt_cmp (pc_din hu pu pt) hm, fun st F0 H0 F H σ z Q EQ R r er h k => ?_⟩⟩
  obtain ⟨F1, s1, r1⟩ := r.frz
  refine q2 st F0 H0 F1 H σ _ _ EQ _ r1 er h fun v H1 F2 y z1 s2 r2 p1 h1 => ?_
  refine q st F0 H0 F2 H1 σ z1 _ EQ _ r2 er h1 fun v2 H2 F3 d z2 s3 r3 p2 h2 => ?_
  obtain ⟨kvs, key, rfl, rfl, b, e, h3⟩ := h2
  have ev := kD_rep (p1.mono s3)
  subst ev
  cases p2 with
  | dic hf hk rr =>
    refine ⟨_, _, rfl, dget_of (K := X.K) (kvs := kvs) key hf r3.ok.sub, b, ?_, ?_⟩
    · have e2 : (lookD kvs key).isSome = b := by simpa using e
      rw [look_some key hk rr, e2]
    exact k b H2 z2.n (r.back s1 r1 rfl (s2.trans s3) r3) h3
theorem dt_notInD {i o : Expr} {mi mo : TDE} (hu : X.A.units + 1 < cLine) (hi : DE T X E i mi) (ho : DE T X E o mo) (hm : behindInMarks .NotIn o = false := by rfl) : DT T X E (.Compare i [.NotIn] [o] pos) (tBool (mOp (gInD' true) mi mo)) := by
  obtain ⟨u, pu, q2⟩ := hi.ex
  obtain ⟨t, pt, q⟩ := ho.ex
  refine ⟨⟨_, pt_cmp (pc_dnotin hu pu pt) hm, fun st F0 H0 F H σ z Q EQ R r er h k => ?_⟩⟩
  obtain ⟨F1, s1, r1⟩ := r.frz
  refine q2 st F0 H0 F1 H σ _ _ EQ _ r1 er h fun v H1 F2 y z1 s2 r2 p1 h1 => ?_
  refine q st F0 H0 F2 H1 σ z1 _ EQ _ r2 er h1 fun v2 H2 F3 d z2 s3 r3 p2 h2 => ?_
  obtain ⟨kvs, key, rfl, rfl, b, e, h3⟩ := h2
  have ev := kD_rep (p1.mono s3)
  subst ev
  cases p2 with
  | dic hf hk rr =>
    refine ⟨_, _, rfl, dget_of (K := X.K) (kvs := kvs) key hf r3.ok.sub, b, ?_, ?_⟩
    · have e2 : (!(lookD kvs key).isSome) = b := by simpa using e
      rw [look_some key hk rr, e2]
    exact k b H2 z2.n (r.back s1 r1 rfl (s2.trans s3) r3) h3
theorem dt_chain {op op' : CmpOp} {r r' : R2} {G G' : G2} (ho : OpR X (compareOp op) r) (hg : P2 X.K r G) (ho' : OpR X (compareOp op') r') (hg' : P2 X.K r' G') (ha : DE T X E a ma) (hb : DE T X E b mb) (hf : DE T X E f mf) (hm : lastMarks [op, op'] [b, f] = false := by with_unfolding_all rfl) : DT T X E (.Compare a [op, op'] [b, f] pos) (tBool (mChain G G' ma mb mf)) := by
  obtain ⟨ta, pa, qa⟩ := ha.ex
  obtain ⟨tb, pb, qb⟩ := hb.ex
  obtain ⟨tf, pf, qf⟩ := hf.ex
  refine ⟨⟨_, pt_chain ho ho' pa pb pf hm, fun st F0 H0 F H σ z Q EQ R rr er h k => ?_⟩⟩
  obtain ⟨F1, s1, r1⟩ := rr.frz
  refine qa st F0 H0 F1 H σ _ _ EQ _ r1 er h fun v1 H1 F2 d1 z1 s2 r2 p1 h1 => ?_
  refine qb st F0 H0 F2 H1 σ z1 _ EQ _ r2 er h1 fun v2 H2 F3 d2 z2 s3 r3 p2 h2 => ?_
  refine hg F3 H2 d1 d2 v1 v2 _ _ r3.ok.sub (p1.mono s3) p2 h2 fun d v rp q => ?_
  obtain ⟨c, rfl, ht, hff⟩ := q
  cases rp
  refine ⟨c, rfl, ?_⟩
  cases c with
  | true =>
    refine iteT (qf st F0 H0 F3 H2 σ z2 _ EQ _ r3 er (ht rfl) fun v3 H3 F4 d3 z3 s4 r4 p3 h3 => ?_)
    refine hg' F4 H3 d2 d3 v2 v3 _ _ r4.ok.sub (p2.mono s4) p3 h3 fun d v rp q => ?_
    obtain ⟨b, rfl, h4⟩ := q
    cases rp
    exact ⟨b, rfl, k b H3 z3.n (rr.back s1 r1 rfl ((s2.trans s3).trans s4) r4) h4⟩
  | false =>
    obtain ⟨b, e, h4⟩ := hff rfl
    cases e
    exact iteF ⟨_, rfl, k false H2 z2.n (rr.back s1 r1 rfl (s2.trans s3) r3) h4⟩
/-- a call; a pinned argument goes as what it is -/
@[reducible, simp] def mCallU (sp : DSpec) (ma : TDA) : TDE := fun st z Q EQ => ma st z (fun ds z1 => sp st z1.n (ds.map D.un) (fun r n' => Q r.d { z1 with n := n' }) EQ) EQ
theorem reps_un {K : PySem.W.Frag} {F : Hp} : ∀ {ds : List D} {vs : List V}, Reps K F ds vs → Reps K F (ds.map D.un) vs
  | _, _, .nil => .nil
  | _, _, .cons h t => .cons h.un (reps_un t)
theorem de_callU (c : Fn X.prog X.w X.K T X.mg X.base k x ps sp) (hr : Room j X.A) (hk : k ≤ j) (hg : Gl X x) (hx : Passes (L2.CX X.prog X.w) X E) (ha : DA T X E (e :: es) mas) (hdb : (x == ("__debug__" : Str)) = false := by decide)
    (he : starEach (e :: es) X.env = (false, eval e X.env) :: starEach es X.env := by rfl) (hpl : (backTo pos (starEach es X.env)).any (·.1) = false := by rfl) : DE T X E (.Call (.Name x p) (e :: es) [] pos) (mCallU sp mas) := by
  obtain ⟨f, fd, F, hm, hkp, hb, _⟩ := c.ex
  obtain ⟨ta, pa, qa⟩ := ha.ex
  refine ⟨⟨_, pe_call F (hr.mono hk) hg hm hkp hb .nil hx pa hdb he hpl, fun st F0 H0 F H σ z Q EQ R r er h k => ?_⟩⟩
  refine qa st F0 H0 F H σ z _ EQ _ r er h fun vs H1 F1 ds z1 s1 r1 p1 h1 => call_sp r1 er (reps_un p1) h1 fun v H2 F2 rr n' ok q qd => ?_
  obtain ⟨F3, s3, r3, rp⟩ := res_sh r1 ok q
  exact k v H2 F3 _ _ (s1.trans s3) r3 rp qd
/-- an own slot is to be read from now on -/
@[reducible, simp] def bFrz (i : Nat) (m : TDS) : TDS := fun st D z EQ => ∃ o, z.env[i]? = some (.ow o) ∧ m st D { z with env := z.env.set i (.sh o) } EQ
theorem db_frz (i : Nat) {ss : List Stmt} {m : TDS} (h : DB T X E ss m) : DB T X E ss (bFrz i m) := by
  obtain ⟨t, p, q⟩ := h.ex
  refine ⟨⟨t, p, fun st F0 H0 F H σ z D EQ D' r er h k => ?_⟩⟩
  obtain ⟨o, hz, h2⟩ := h
  obtain ⟨F1, a, s1, r1, _, _⟩ := r.read hz
  exact q st F0 H0 F1 H σ _ D EQ D' r1 er h2 (k.mono s1)
end
end DL
end

section
set_option Elab.async false
set_option linter.all false
set_option maxRecDepth 100000
set_option maxHeartbeats 4000000
/-! M1: data shapes of questions; lemmas for the proofs by data. -/
namespace DL
open PySem PySem.Spec PyProof.Rows L2
@[reducible, simp] def strD (s : Str) : D := .v (.str s)
@[reducible, simp] def blD (b : Bool) : D := .v (.bl b)
@[reducible, simp] def iD (i : Int) : D := .v (.int i)
@[simp] theorem atI_0 {α : Type} (a : α) (l : List α) : atI (a :: l) 0 = some a := by simp [atI, ixN]
@[simp] theorem atI_1 {α : Type} (a b : α) (l : List α) : atI (a :: b :: l) 1 = some b := by
  have h : ixN (a :: b :: l).length 1 = some 1 := by
    unfold ixN
    rw [if_pos (by omega), if_pos (by simp; omega)]
    rfl
  unfold atI
  rw [h]
  rfl
@[simp] theorem atI_2 {α : Type} (a b c : α) (l : List α) : atI (a :: b :: c :: l) 2 = some c := by
  have h : ixN (a :: b :: c :: l).length 2 = some 2 := by
    unfold ixN
    rw [if_pos (by omega), if_pos (by simp; omega)]
    rfl
  unfold atI
  rw [h]
  rfl
@[simp] theorem scal_ii (i j : Int) : scal (.int i) (.int j) = true := rfl
@[simp] theorem scal_ss (i j : Str) : scal (.str i) (.str j) = true := rfl
@[simp] theorem scal_bb (i j : Bool) : scal (.bl i) (.bl j) = true := rfl
@[simp] theorem scal_nb (j : Bool) : scal .non (.bl j) = true := rfl
@[simp] theorem scal_bn (j : Bool) : scal (.bl j) .non = true := rfl
@[simp] theorem scal_ns (j : Str) : scal .non (.str j) = true := rfl
@[simp] theorem scal_sn (j : Str) : scal (.str j) .non = true := rfl
@[simp] theorem flat_n : flatV .non = true := rfl
@[simp] theorem flat_b (b : Bool) : flatV (.bl b) = true := rfl
@[simp] theorem flat_i (b : Int) : flatV (.int b) = true := rfl
@[simp] theorem flat_s (b : Str) : flatV (.str b) = true := rfl
@[simp] theorem eqV_ss (i j : Str) : eqV (.str i) (.str j) = (i == j) := rfl
@[simp] theorem eqV_ii (i j : Int) : eqV (.int i) (.int j) = (i == j) := rfl
@[simp] theorem eqV_bb (i j : Bool) : eqV (.bl i) (.bl j) = (i == j) := rfl
@[simp] theorem inV_any (x : V) (xs : List V) : inV x xs = xs.any fun y => eqV y x := rfl
@[simp] theorem str_kD (s : Str) (key : Key) : (D.v (V.str s) = kD key) ↔ key = .inr s := by
  cases key with
  | inl i => simp
  | inr x => simp [eq_comm]
@[simp] theorem int_kD (s : Int) (key : Key) : (D.v (V.int s) = kD key) ↔ key = .inl s := by
  cases key with
  | inl i => simp [eq_comm]
  | inr x => simp
inductive Hand where
  | we | they
  | ch (i j : Int)
def Hand.good : Hand → Bool
  | .ch i j => decide (0 < i) && (decide (i < j) && decide (j ≤ 1000))
  | _ => true
@[reducible, simp] def handD : Hand → D
  | .we => strD "we"
  | .they => strD "they"
  | .ch i j => .tup [iD i, iD j]
@[reducible, simp] def markD (p : Str × Hand) : D := .tup [strD p.1, handD p.2]
@[reducible, simp] def litD (p : Str × Bool) : D := .tup [strD p.1, blD p.2]
abbrev Cl := List (Str × Bool)
@[reducible, simp] def clD (c : Cl) : D := .lst (c.map litD)
section
variable (a b c d : D)
@[simp] theorem lk_marks : List.lookup ("own_marks" : Str) [(("own_marks" : Str), a), ("own_names", b), ("own_wishes", c), ("own_guards", d)] = some a := rfl
@[simp] theorem lk_names : List.lookup ("own_names" : Str) [(("own_marks" : Str), a), ("own_names", b), ("own_wishes", c), ("own_guards", d)] = some b := rfl
@[simp] theorem lk_wishes : List.lookup ("own_wishes" : Str) [(("own_marks" : Str), a), ("own_names", b), ("own_wishes", c), ("own_guards", d)] = some c := rfl
@[simp] theorem lk_guards : List.lookup ("own_guards" : Str) [(("own_marks" : Str), a), ("own_names", b), ("own_wishes", c), ("own_guards", d)] = some d := rfl
@[simp] theorem lk_m_marks : List.lookup ("marks" : Str) [(("own_marks" : Str), a), ("own_names", b), ("own_wishes", c), ("own_guards", d)] = none := rfl
@[simp] theorem lk_m_wishes : List.lookup ("wishes" : Str) [(("own_marks" : Str), a), ("own_names", b), ("own_wishes", c), ("own_guards", d)] = none := rfl
@[simp] theorem lk_m_guards : List.lookup ("guards" : Str) [(("own_marks" : Str), a), ("own_names", b), ("own_wishes", c), ("own_guards", d)] = none := rfl
end
structure Qn where
  marks : List (Str × Hand)
  wishes : List Cl
  guards : List Cl
def Qn.names (q : Qn) : List Str := q.marks.map (·.1)
@[reducible, simp] def qD (C : Addr) (q : Qn) : D := .ins C [("own_marks", .lst (q.marks.map markD)), ("own_names", .lst (q.names.map strD)), ("own_wishes", .lst (q.wishes.map clD)), ("own_guards", .lst (q.guards.map clD))]

mutual
inductive Loose : D → D → Prop
  | v (x : V) : Loose (.v x) (.v x)
  | ll {ds es : List D} (h : Looses ds es) : Loose (.lst ds) (.lst es)
  | lt {ds es : List D} (h : Looses ds es) : Loose (.lst ds) (.tup es)
  | tl {ds es : List D} (h : Looses ds es) : Loose (.tup ds) (.lst es)
  | tt {ds es : List D} (h : Looses ds es) : Loose (.tup ds) (.tup es)
inductive Looses : List D → List D → Prop
  | nil : Looses [] []
  | cons {d e : D} {ds es : List D} (h : Loose d e) (t : Looses ds es) : Looses (d :: ds) (e :: es)
end
/-- a good name: of the first signs, then of later ones -/
def goodName (s : Str) : Prop := 0 < s.length ∧ s.length < 9 ∧ (∃ c, atI s.cps.toList 0 = some c ∧ c ∈ ("abcdefghijklmnopqrstuvwxyz" : Str).cps.toList) ∧ ∀ c ∈ s.cps.toList, c ∈ ("abcdefghijklmnopqrstuvwxyz0123456789" : Str).cps.toList
/-- a comprehension whose element is told by the item alone -/
theorem comp_fmapL {α : Type} {g : TDG} {mt : TDT} {me : TDE} {vs : List Nat} {st : Option Addr} {Q : D → Z → Prop} {z : Z} (f : α → Option D) {xs : List α} {h : α → D} (hl : xs.length ≤ 1000000)
    (hs : ∀ x ∈ xs, ∀ (R : D → Z → Prop) (R0 R2 : Z → Prop), (∀ y z2, f x = some y → z2.wipe vs = z → R y z2) → (∀ z2, f x = none → z2.wipe vs = z → R0 z2) →
      (∀ z1, mt st z1 (fun b n => (b = true → me st { z1 with n := n } R (fun _ _ => False)) ∧ (b = false → R0 { z1 with n := n })) (fun _ _ => False) → R2 z1) → g (h x) z R2)
    (hq : Q (.lst (xs.filterMap f)) z) : compD g mt me vs st Q (xs.map h) [] z := by
  have key : ∀ (es : List α) (acc : List D), acc.length + es.length ≤ 1000000 → (∀ d ∈ es, d ∈ xs) → Q (.lst (acc ++ es.filterMap f)) z → compD g mt me vs st Q (es.map h) acc z := by
    intro es
    induction es with
    | nil => intro acc _ _ h; simpa [compD] using h
    | cons d es ih =>
      intro acc hl hm hq
      simp only [List.length_cons] at hl
      refine hs d (hm d (List.mem_cons_self ..)) (fun y z2 => acc.length < 1000000 ∧ compD g mt me vs st Q (es.map h) (acc ++ [y]) (z2.wipe vs)) (fun z2 => compD g mt me vs st Q (es.map h) acc (z2.wipe vs)) _ (fun y z2 hy hz => ⟨by omega, ?_⟩) (fun z2 hy hz => ?_) (fun z1 h1 => h1)
      · rw [hz]
        refine ih _ (by simp; omega) (fun e he => hm e (List.mem_cons_of_mem _ he)) ?_
        simpa [List.filterMap_cons, hy] using hq
      · rw [hz]
        refine ih _ (by omega) (fun e he => hm e (List.mem_cons_of_mem _ he)) ?_
        simpa [List.filterMap_cons, hy] using hq
  exact key xs [] (by simpa using hl) (fun _ h => h) (by simpa using hq)
theorem comp_mapL {α : Type} {g : TDG} {me : TDE} {vs : List Nat} {st : Option Addr} {Q : D → Z → Prop} {z : Z} (f : α → D) {xs : List α} {h : α → D} (hl : xs.length ≤ 1000000)
    (hs : ∀ x ∈ xs, ∀ (R : D → Z → Prop) (R2 : Z → Prop), (∀ z2, z2.wipe vs = z → R (f x) z2) → (∀ z1, me st z1 R (fun _ _ => False) → R2 z1) → g (h x) z R2)
    (hq : Q (.lst (xs.map f)) z) : compD g tAll me vs st Q (xs.map h) [] z := by
  refine comp_fmapL (fun d => some (f d)) hl (fun d hd R R0 R2 h1 h2 h3 => hs d hd R R2 (fun z2 hz => h1 _ z2 rfl hz) fun z1 h => h3 z1 ⟨fun _ => h, fun q => by cases q⟩) ?_
  have e : xs.filterMap (fun d => some (f d)) = xs.map f := by simp [List.filterMap_eq_map']
  rw [e]; exact hq
theorem comp_map {g : TDG} {me : TDE} {vs : List Nat} {st : Option Addr} {Q : D → Z → Prop} (f : D → D) {ds : List D} {z : Z} (hl : ds.length ≤ 1000000)
    (hs : ∀ d ∈ ds, ∀ (R : D → Z → Prop) (R2 : Z → Prop), (∀ z2, z2.wipe vs = z → R (f d) z2) → (∀ z1, me st z1 R (fun _ _ => False) → R2 z1) → g d z R2)
    (hq : Q (.lst (ds.map f)) z) : compD g tAll me vs st Q ds [] z := by
  have h := comp_mapL (g := g) (me := me) (vs := vs) (st := st) (Q := Q) (z := z) f (xs := ds) (h := id) hl hs hq
  rwa [List.map_id] at h
theorem putD_new {kvs : List (Key × D)} {k : Key} {d : D} (h : k ∉ kvs.map (·.1)) : putD kvs k d = kvs ++ [(k, d)] := by
  unfold putD
  rw [if_neg]
  intro q
  rw [List.any_eq_true] at q
  obtain ⟨x, hx, e⟩ := q
  exact h (List.mem_map.mpr ⟨x, hx, of_decide_eq_true e⟩)
theorem merge_new : ∀ {more kvs : List (Key × D)}, ((kvs ++ more).map (·.1)).Nodup → mergeD kvs more = kvs ++ more
  | [], kvs, _ => by simp [mergeD]
  | (k, d) :: more, kvs, h => by
    have h1 : k ∉ kvs.map (·.1) := fun q => by
      rw [List.map_append, List.nodup_append] at h
      exact h.2.2 k q k (by simp) rfl
    show mergeD (putD kvs k d) more = _
    rw [putD_new h1, merge_new (by simpa using h)]
    simp
theorem dcomp_mapL {α : Type} {g : TDG} {mk mv : TDE} {vs : List Nat} {st : Option Addr} {Q : D → Z → Prop} {z : Z} (kf : α → Key) (vf : α → D) {xs : List α} {h : α → D} (hl : xs.length ≤ 1000000) (hnd : (xs.map kf).Nodup)
    (hs : ∀ x ∈ xs, ∀ (R : List (Key × D) → Z → Prop) (R2 : Z → Prop) (acc : List (Key × D)), acc.length < 1000000 → R (putD acc (kf x) (vf x)) z →
      (∀ z1, mk st z1 (fun y z2 => mv st z2 (fun v z3 => ∃ key, y = kD key ∧ acc.length < 1000000 ∧ R (putD acc key v) (z3.wipe vs)) (fun _ _ => False)) (fun _ _ => False) → R2 z1) → g (h x) z R2)
    (hq : Q (.dic (xs.map fun x => (kf x, vf x))) z) : dcompD g tAll mk mv vs st Q (xs.map h) [] z := by
  have key : ∀ (es : List α) (acc : List (Key × D)), acc.length + es.length ≤ 1000000 → (acc.map (·.1) ++ es.map kf).Nodup → (∀ d ∈ es, d ∈ xs) → Q (.dic (acc ++ es.map fun x => (kf x, vf x))) z → dcompD g tAll mk mv vs st Q (es.map h) acc z := by
    intro es
    induction es with
    | nil => intro acc _ _ _ h; simpa [dcompD] using h
    | cons d es ih =>
      intro acc hl hn hm hq
      simp only [List.length_cons] at hl
      show g (h d) z fun z1 => tAll st z1 _ _
      refine hs d (hm d (List.mem_cons_self ..)) (fun kvs z2 => dcompD g tAll mk mv vs st Q (es.map h) kvs z2) _ acc (by omega) ?_ (fun z1 h1 => ⟨fun _ => h1, fun q => by cases q⟩)
      have hk : kf d ∉ acc.map (·.1) := fun q => by
        rw [List.nodup_append] at hn
        exact hn.2.2 _ q (kf d) (by simp) rfl
      rw [putD_new hk]
      refine ih _ (by simp; omega) (by simpa using hn) (fun e he => hm e (List.mem_cons_of_mem _ he)) ?_
      simpa using hq
  exact key xs [] (by simpa using hl) (by simpa using hnd) (fun _ h => h) (by simpa using hq)
theorem loose_lst {ds : List D} {d : D} (h : Loose (.lst ds) d) : ∃ es, Looses ds es ∧ (d = .lst es ∨ d = .tup es) := by
  cases h with
  | ll h => exact ⟨_, h, .inl rfl⟩
  | lt h => exact ⟨_, h, .inr rfl⟩
theorem loose_tup {ds : List D} {d : D} (h : Loose (.tup ds) d) : ∃ es, Looses ds es ∧ (d = .lst es ∨ d = .tup es) := by
  cases h with
  | tl h => exact ⟨_, h, .inl rfl⟩
  | tt h => exact ⟨_, h, .inr rfl⟩
theorem looses_pairs {α : Type} {h : α → D} : ∀ {xs : List α} {es : List D}, Looses (xs.map h) es → ∃ l : List (α × D), l.map (·.1) = xs ∧ l.map (·.2) = es ∧ ∀ x ∈ l, Loose (h x.1) x.2
  | [], _, .nil => ⟨[], rfl, rfl, fun x hx => by cases hx⟩
  | x :: xs, _, .cons h1 t => by
    obtain ⟨l, e1, e2, e3⟩ := looses_pairs t
    rename_i d0 ds0
    refine ⟨(x, d0) :: l, by simp [e1], by simp [e2], fun y hy => ?_⟩
    rcases List.mem_cons.mp hy with rfl | hy
    · exact h1
    · exact e3 y hy
theorem loose_lit {p : Str × Bool} {d : D} (hl : Loose (litD p) d) : d = .lst [strD p.1, blD p.2] ∨ d = .tup [strD p.1, blD p.2] := by
  obtain ⟨es, h, hd⟩ := loose_tup hl
  cases h with | cons h1 hh => cases hh with | cons h2 hh => cases hh; cases h1; cases h2; exact hd
/-! ### clauses, truths -/
@[reducible, simp] def trD (tr : List (Str × Bool)) : D := .dic (tr.map fun p => (Sum.inr p.1, blD p.2))
def holdsB (c : Cl) (tr : List (Str × Bool)) : Bool := c.any fun p => decide (tr.lookup p.1 = some p.2)
def failsB (c : Cl) (tr : List (Str × Bool)) : Bool := c.all fun p => decide (tr.lookup p.1 = some (!p.2))
@[simp] theorem look_tr (tr : List (Str × Bool)) (m : Str) : lookD (tr.map fun p => (Sum.inr p.1, blD p.2)) (.inr m) = (tr.lookup m).map blD := by
  induction tr with
  | nil => rfl
  | cons p tr ih =>
    obtain ⟨x, b⟩ := p
    unfold lookD at ih ⊢
    rw [List.map_cons, List.find?_cons]
    by_cases e : x = m
    · subst e
      simp [List.lookup]
    · have h1 : (decide ((Sum.inr x : Key) = Sum.inr m)) = false := by simpa using e
      have h2 : (m == x) = false := by simpa using fun q : m = x => e q.symm
      simp only [h1, List.lookup, h2]
      exact ih
/-- which one decides -/
def firstFail (w : Str) (tr : List (Str × Bool)) : Nat → List Cl → Option (Str × Nat)
  | _, [] => none
  | i, c :: cs => if holdsB c tr then firstFail w tr (i + 1) cs else some (w, i)
def Qn.tr (q : Qn) (ts : List Bool) : List (Str × Bool) := q.names.zip ts
def Qn.decid (q : Qn) (ts : List Bool) : Option (Str × Nat) :=
  match firstFail "guard" (q.tr ts) 0 q.guards with
  | some r => some r
  | none => firstFail "wish" (q.tr ts) 0 q.wishes
@[reducible, simp] def decD : Option (Str × Nat) → D
  | none => .v .non
  | some (w, i) => .tup [strD w, iD (i : Int)]
def isWonD : Option (Str × Nat) → Bool
  | none => true
  | some (w, _) => decide (w = "guard")
def Qn.sure (q : Qn) (ts : List Bool) : Option Str :=
  if q.guards.any (failsB · (q.tr ts)) || q.wishes.all (holdsB · (q.tr ts)) then some "won"
  else if q.wishes.any (failsB · (q.tr ts)) && q.guards.all (holdsB · (q.tr ts)) then some "lost" else none
@[reducible, simp] def sureD : Option Str → D
  | none => .v .non
  | some w => strD w
/-- a loop that looks for the first clause that fails -/
theorem firstFail_loop {g : TDG} {mb : TDS} {st : Option Addr} {D0 : DEnds} {EQ : TEX} {w : Str} {tr : List (Str × Bool)} {n : Nat} (zf : DV → DV → Z) (P : Cl → Prop)
    (hs : ∀ (i : Nat) (c : Cl) (x y : DV) (Cn : Z → Prop), P c → (holdsB c tr = true → ∀ x y, Cn (zf x y)) → (holdsB c tr = false → D0.rt (.sh (.tup [strD w, iD i])) n) → g (.tup [iD i, clD c]) (zf x y) fun z1 => mb st { nx := Cn, rt := D0.rt, bk := D0.nx, ct := Cn } z1 EQ) :
    ∀ (cs : List Cl) (i : Nat) (x y : DV), (∀ c ∈ cs, P c) → (firstFail w tr i cs = none → ∀ x y, D0.nx (zf x y)) → (∀ r, firstFail w tr i cs = some r → D0.rt (.sh (decD (some r))) n) → forD g mb st D0 EQ (enumD i (cs.map clD)) (zf x y)
  | [], i, x, y, _, h1, h2 => h1 rfl x y
  | c :: cs, i, x, y, hp, h1, h2 => by
    show g (.tup [iD i, clD c]) (zf x y) fun z1 => mb st _ z1 EQ
    refine hs i c x y _ (hp c (List.mem_cons_self ..)) (fun hc x y => ?_) (fun hc => ?_)
    · exact firstFail_loop zf P hs cs (i + 1) x y (fun c hc => hp c (List.mem_cons_of_mem _ hc)) (fun e => h1 (by simp [firstFail, hc, e])) (fun r e => h2 r (by simp [firstFail, hc, e]))
    · exact h2 (w, i) (by simp [firstFail, hc])
theorem nodup_map {α β : Type} {f : α → β} (hf : ∀ a b, f a = f b → a = b) : ∀ {l : List α}, l.Nodup → (l.map f).Nodup
  | [], _ => by simp
  | a :: l, h => by
    rw [List.map_cons, List.nodup_cons]
    rw [List.nodup_cons] at h
    refine ⟨fun q => ?_, nodup_map hf h.2⟩
    obtain ⟨x, hx, e⟩ := List.mem_map.mp q
    rw [hf _ _ e] at hx
    exact h.1 hx
theorem zip_fst {α β : Type} : ∀ (l : List α) (r : List β), ((l.zip r).map (·.1)).Sublist l
  | [], _ => by simp
  | _ :: _, [] => by simp
  | a :: l, b :: r => by simpa using zip_fst l r
theorem tr_nodup (q : Qn) (ts : List Bool) (h : q.names.Nodup) : ((q.tr ts).map (·.1)).Nodup := (zip_fst _ _).nodup h
theorem trD_merge (tr : List (Str × Bool)) (h : (tr.map (·.1)).Nodup) : mergeD [] (tr.map fun p => ((Sum.inr p.1 : Key), blD p.2)) = tr.map fun p => (Sum.inr p.1, blD p.2) := by
  rw [merge_new]
  · simp
  · have := nodup_map (f := (Sum.inr : Str → Key)) (fun a b e => by cases e; rfl) h
    simpa [List.map_map, Function.comp_def] using this
/-- a clause in the order of the names -/
def ordered (names : List Str) (c : Cl) : Cl := names.filterMap fun m => (c.lookup m).map fun b => (m, b)
theorem ordered_len (names : List Str) (c : Cl) : (ordered names c).length ≤ names.length := List.length_filterMap_le _ _
structure Qn.Ok (q : Qn) : Prop where
  nd : q.names.Nodup
  good : ∀ p ∈ q.marks, goodName p.1 ∧ p.2.good = true
  len : q.marks.length ≤ 1000
  wl : q.wishes.length ≤ 1000
  gl : q.guards.length ≤ 1000
  ws : ∀ c ∈ q.wishes, (c.map (·.1)).Sublist q.names
  gs : ∀ c ∈ q.guards, (c.map (·.1)).Sublist q.names
end DL
end

section
set_option Elab.async false
set_option linter.all false
set_option maxRecDepth 100000
set_option maxHeartbeats 4000000
/-! M2: depth of data. -/
namespace DL
open PySem PySem.Spec PyProof.Rows L2
def ShD (k : Nat) (d : D) : Prop := plainD d = true ∧ (pyD d).canLay0 = true ∧ (pyD d).depth ≤ k
def ShDs (k : Nat) (ds : List D) : Prop := ∀ d ∈ ds, ShD k d
theorem ShD.mono {k j : Nat} {d : D} (h : ShD k d) (e : k ≤ j) : ShD j d := ⟨h.1, h.2.1, Nat.le_trans h.2.2 e⟩
theorem sh_bl (k : Nat) (b : Bool) : ShD k (blD b) := ⟨rfl, by simp [pyD, PyData.canLay0], by simp [pyD, PyData.depth]⟩
theorem sh_non (k : Nat) : ShD k (.v .non) := ⟨rfl, by simp [pyD, PyData.canLay0], by simp [pyD, PyData.depth]⟩
theorem sh_int (k : Nat) (b : Int) : ShD k (iD b) := ⟨rfl, by simp [pyD, PyData.canLay0], by simp [pyD, PyData.depth]⟩
theorem sh_str (k : Nat) (s : Str) (h : PyData.strOk s = true) : ShD k (strD s) := ⟨rfl, by simpa [pyD, PyData.canLay0] using h, by simp [pyD, PyData.depth]⟩
theorem good_ok {s : Str} (h : goodName s) : PyData.strOk s = true := by
  unfold PyData.strOk
  rw [← Array.all_toList, List.all_eq_true]
  intro c hc
  have key : ∀ c ∈ ("abcdefghijklmnopqrstuvwxyz0123456789" : Str).cps.toList, decide (c < 0x110000) = true := by decide +kernel
  exact key c (h.2.2.2 c hc)
theorem sh_all {k : Nat} : ∀ {ds : List D}, ShDs k ds → plainDs ds = true ∧ PyData.canLayAll0 (pyDs ds) = true ∧ PyData.depthAll (pyDs ds) ≤ k
  | [], _ => ⟨rfl, by simp [pyDs, PyData.canLayAll0], by simp [pyDs, PyData.depthAll]⟩
  | d :: ds, h => by
    obtain ⟨h1, h2, h3⟩ := h d (List.mem_cons_self ..)
    obtain ⟨i1, i2, i3⟩ := sh_all fun e he => h e (List.mem_cons_of_mem _ he)
    refine ⟨by simp [plainDs, h1, i1], by simp [pyDs, PyData.canLayAll0, h2, i2], ?_⟩
    simp only [pyDs, PyData.depthAll]
    exact Nat.max_le.mpr ⟨h3, i3⟩
theorem sh_lst {k : Nat} {ds : List D} (h : ShDs k ds) : ShD (k + 1) (.lst ds) := by
  obtain ⟨h1, h2, h3⟩ := sh_all h
  exact ⟨by simpa [plainD] using h1, by simpa [pyD, PyData.canLay0] using h2, by simp only [pyD, PyData.depth]; omega⟩
theorem sh_tup {k : Nat} {ds : List D} (h : ShDs k ds) : ShD (k + 1) (.tup ds) := by
  obtain ⟨h1, h2, h3⟩ := sh_all h
  exact ⟨by simpa [plainD] using h1, by simpa [pyD, PyData.canLay0] using h2, by simp only [pyD, PyData.depth]; omega⟩
theorem sh_map {α : Type} {k : Nat} {l : List α} {f : α → D} (h : ∀ x ∈ l, ShD k (f x)) : ShDs k (l.map f) := fun d hd => by
  obtain ⟨x, hx, rfl⟩ := List.mem_map.mp hd
  exact h x hx
theorem sh_two {k : Nat} {a b : D} (h1 : ShD k a) (h2 : ShD k b) : ShDs k [a, b] := fun d hd => by
  simp at hd
  rcases hd with rfl | rfl
  · exact h1
  · exact h2
theorem ShD.shaped {d : D} {k : Nat} (h : ShD k d) (hk : k ≤ 64 := by decide) : SeqAt.shaped (pyD d) = true := by
  unfold SeqAt.shaped
  simp [h.2.1]
  exact Nat.le_trans h.2.2 hk
theorem sh_lit {p : Str × Bool} (h : PyData.strOk p.1 = true) : ShD 1 (litD p) := sh_tup (sh_two (sh_str 0 _ h) (sh_bl 0 _))
theorem sh_cl {c : Cl} (h : ∀ p ∈ c, PyData.strOk p.1 = true) : ShD 2 (clD c) := sh_lst (sh_map fun p hp => sh_lit (h p hp))
theorem Qn.Ok.nl {q : Qn} (ok : q.Ok) : q.names.length ≤ 1000 := by unfold Qn.names; rw [List.length_map]; exact ok.len
theorem Qn.Ok.cl {q : Qn} (ok : q.Ok) {c : Cl} (h : c ∈ q.wishes ∨ c ∈ q.guards) : c.length ≤ 1000 := by
  have := ok.nl
  rcases h with h | h
  · have e := (ok.ws c h).length_le
    rw [List.length_map] at e
    omega
  · have e := (ok.gs c h).length_le
    rw [List.length_map] at e
    omega
theorem ordered_mem {names : List Str} {c : Cl} {p : Str × Bool} (h : p ∈ ordered names c) : p.1 ∈ names := by
  unfold ordered at h
  obtain ⟨m, hm, e⟩ := List.mem_filterMap.mp h
  cases hl : c.lookup m with
  | none => rw [hl] at e; cases e
  | some b => rw [hl] at e; cases e; exact hm
theorem none_eq_map {α : Type} {l : List α} {f : α → List D} : ∀ x ∈ pyDs (l.map fun a => .lst (f a)), PyData.eqv x (pyD (.v .non)) = false := by
  induction l with
  | nil => intro x hx; simp [pyDs] at hx
  | cons a l ih =>
    intro x hx
    simp only [List.map_cons, pyDs, List.mem_cons] at hx
    rcases hx with rfl | hx
    · simp [pyD, PyData.eqv]
    · exact ih x hx
theorem ordered_map (names : List Str) (c : Cl) : names.filterMap (fun m => (c.lookup m).map fun b => litD (m, b)) = (ordered names c).map litD := by
  unfold ordered
  rw [List.map_filterMap]
  congr 1
  funext m
  cases c.lookup m <;> rfl
end DL
end

section
set_option Elab.async false
set_option linter.all false
set_option maxRecDepth 100000
set_option maxHeartbeats 4000000
/-! DL10: dict(zip(a, b)) of lists. -/
namespace DL
open PySem PySem.Spec PyProof.Rows L2
section
variable {T : List (Addr × Str)} {X : Cx} {E : XK} {e e2 : Expr} {pos p p2 pos2 : Pos} {mas : TDA}
def tDictZip (K : PySem.W.Frag) (ta : TA) : TE := fun σ H Q => ta σ H fun vs H1 => ∃ (a b : Addr) (ks : List Key) (ys : List V), vs = [.ref a, .ref b] ∧ SqL K H1 a (ks.map kV) ∧ SqL K H1 b ys ∧ ∀ p, H1 p = none → Q (.ref p) (upd H1 p (.dK (mergeK [] (ks.zip ys))))
theorem kV_is {k : Key} {u : Value} (r : RelV (kV k) u) : keyIs k u = true := by
  cases k with
  | inl i => obtain ⟨t, rfl⟩ := (show ∃ t, u = Value.int i t from r); simp [keyIs, Value.isInt]
  | inr x => obtain ⟨t, rfl⟩ := (show ∃ t, u = Value.str x t from r); simp [keyIs, Value.isStrOf]
theorem kv_zip : ∀ {ks : List Key} {ys : List V} {us : List Value}, Vals ys us → KV (ks.zip ys) (ks.zip us)
  | [], _, _, _ => by simp only [List.zip_nil_left]; exact .nil
  | _ :: _, [], _, .nil => by simp only [List.zip_nil_right]; exact .nil
  | k :: ks, y :: ys, u :: us, .cons h t => .cons ⟨rfl, h⟩ (kv_zip t)
theorem pe_dictZip {ta : TA} (hc : X.calm = true) (hg : Gl X "dict") (hm : X.mg "dict" = none) (hg2 : Gl X "zip") (hm2 : X.mg "zip" = none) (ha : PA X [e, e2] ta) (hv : bootBuiltins "dict" = some (.type "dict") := by rfl)
    (hs : starEach [e, e2] X.env = (false, eval e X.env) :: starEach [e2] X.env := by rfl) (hpl : (backTo pos2 (starEach [e2] X.env)).any (·.1) = false := by rfl)
    (na : starEach [.Call (.Name "zip" p2) [e, e2] [] pos2] X.env = (false, eval (.Call (.Name "zip" p2) [e, e2] [] pos2) X.env) :: starEach [] X.env := by rfl) :
    PE X (.Call (.Name "dict" p) [.Call (.Name "zip" p2) [e, e2] [] pos2] [] pos) (tDictZip X.K ta) := by
  refine ⟨fun pins s σ H Q I h => ?_⟩
  refine Call_ (ld_blt I hg hm hv (PyProof.Rows.callWith_type1 (args_cons (Call_ (ld_blt I hg2 hm2 PyProof.Rows.boot_zip (PyProof.Rows.callWith_type1 (thn (ha.run pos2 pins s σ H _ I h) fun us s1 ⟨vs, H1, I1, r1, q1⟩ => ?_) hs hpl))) na) na))
  obtain ⟨a, b, ks, ys, ex, hqx, hqy, q⟩ := q1
  subst ex
  cases r1 with
  | cons r rr =>
    cases rr with
    | cons r' rr =>
      cases rr
      cases r
      cases r'
      obtain ⟨its, rv, p1, hz1⟩ := I1.list hqx
      obtain ⟨its2, rv2, p2, hz2⟩ := I1.list hqy
      have la : a < s1.heap.objs.size := p1.lt
      have lb : b < s1.heap.objs.size := p2.lt
      refine call_zip_2 p1.isList p2.isList fun h' hz hTI hTO h1 h2 hsz hk => args_nil ?_
      have hl1 : its.length = ks.length := by rw [← rv.length, List.length_map]
      have hl2 : its2.length = ys.length := by rw [← rv2.length]
      have ap := PySem.W.ktu_apart s1.heap.objs.size a b la lb
      have hsl : (ks.zip its2).length ≤ sizeLine := by
        rw [List.length_zip]
        have := Nat.min_le_left ks.length its2.length
        omega
      refine PySem.call_dict_pairs (prog := X.prog) (w := X.w) (knd := mixKind X.prog X.w) (kvs := ks.zip its2) (PairArg.zip _ _ _ _ _ a b ap its.toArray its2.toArray) (I1.ok.hd hc) ⟨hz, hTI, ⟨_, _, hTO⟩, h1, h2, ?_, ?_⟩ ⟨?_, fun i key v hr => ?_⟩ ?_ fun h'' tk hd' hk2 => ?_
      · exact p1.isList.at fun o e => hk _ o e
      · exact p2.isList.at fun o e => hk _ o e
      · simp [List.length_zip, hl1]
      · obtain ⟨e1, e2⟩ := hr
        have e1 : its[i]? = some key := by simpa using e1
        have e2 : its2[i]? = some v := by simpa using e2
        have hlt : i < its.length := (List.getElem?_eq_some_iff.mp e1).1
        have hk1 : i < ks.length := by omega
        refine ⟨ks[i], ?_, ?_⟩
        · rw [List.getElem?_zip_eq_some]
          exact ⟨List.getElem?_eq_getElem hk1, e2⟩
        · obtain ⟨u, e3, e4⟩ := rv.get (i := i) (x := kV ks[i]) (by rw [List.getElem?_map, List.getElem?_eq_getElem hk1]; rfl)
          rw [e1] at e3
          cases e3
          exact kV_is e4
      · have := Nat.min_le_left its.toArray.size its2.toArray.size
        simp at this ⊢
        omega
      · have hbig : s1.heap.objs.size ≤ h'.objs.size := by rw [hsz]; exact Nat.le_add_right _ _
        have rel := kv_zip (ks := ks) rv2
        have hlen : (mergeK [] (ks.zip ys)).length ≤ sizeLine := by
          refine Nat.le_trans (length_mergeK _ []) ?_
          rw [List.length_nil, Nat.zero_add, rel.length]
          exact hsl
        have hm2 : (h'.objs.size == sysModules) = false := beq_eq_false_iff_ne.mpr (Nat.ne_of_gt (Nat.lt_of_lt_of_le I1.big hbig))
        refine ⟨.ref h'.objs.size, upd H1 h'.objs.size (.dK (mergeK [] (ks.zip ys))), I1.laid (t' := tk) (fun c o ec => ?_) hbig (show ObjOk X.prog X.w _ _ _ (.dK (mergeK [] (ks.zip ys))) from ⟨hlen, hm2, merged [] (ks.zip its2), KV.merge rel .nil, hd'⟩), rfl, q _ (I1.hok.fresh hbig)⟩
        refine hk2 c o (fun hmem => ?_) (hk c o ec)
        have hlt := Heap.lt_size ec
        simp only [List.mem_cons, List.not_mem_nil, or_false] at hmem
        have hge : s1.heap.objs.size ≤ c := by
          rcases hmem with z | z | z | z <;> rw [z] <;> first | exact Nat.le_add_right _ _ | exact Nat.le_refl _
        exact absurd hlt (Nat.not_lt.mpr hge)
@[simp] def keyOf : D → Option Key
  | .v (.int i) => some (.inl i)
  | .v (.str i) => some (.inr i)
  | _ => none
@[simp] theorem keys_str {β : Type} {g : β → Str} (l : List β) : allL keyOf (l.map fun x => .v (.str (g x))) = some (l.map fun x => .inr (g x)) := allL_map (h := fun x => .v (.str (g x))) (g := fun x => (Sum.inr (g x) : Key)) (fun _ => rfl) l
theorem allL_keys : ∀ {ds : List D} {bs : List Key}, allL keyOf ds = some bs → ds = bs.map kD
  | [], bs, h => by simp at h; subst h; rfl
  | d :: ds, bs, h => by
    simp only [allL] at h
    split at h
    · rename_i b bs' h1 h2
      cases h
      rw [allL_keys h2]
      cases d with
      | v x => cases x <;> first | (cases h1; rfl) | cases h1
      | _ => cases h1
    · cases h
@[reducible, simp] def gDictZip : GC := fun ds Q => ∃ (kd ys : List D) (ks : List Key), ds = [.lst kd, .lst ys] ∧ allL keyOf kd = some ks ∧ Q (.dic (mergeD [] (ks.zip ys)))
theorem reps_kD {K : PySem.W.Frag} {F : Hp} : ∀ {ks : List Key} {vs : List V}, Reps K F (ks.map kD) vs → vs = ks.map kV
  | [], _, .nil => rfl
  | _ :: _, _, .cons h t => by rw [List.map_cons, reps_kD t, kD_rep h]
theorem zip_maps {K : PySem.W.Frag} {F : Hp} : ∀ {ks : List Key} {ds : List D} {vs : List V}, Reps K F ds vs → (ks.zip vs).map (·.1) = (ks.zip ds).map (·.1) ∧ Reps K F ((ks.zip ds).map (·.2)) ((ks.zip vs).map (·.2))
  | [], _, _, _ => by simp only [List.zip_nil_left]; exact ⟨rfl, .nil⟩
  | _ :: _, _, _, .nil => by simp only [List.zip_nil_right]; exact ⟨rfl, .nil⟩
  | k :: ks, _, _, .cons h t => by
    obtain ⟨h1, h2⟩ := zip_maps (ks := ks) t
    exact ⟨by simp [h1], .cons h h2⟩
theorem dn_dictZip (hc : X.calm = true) (hg : Gl X "dict") (hm : X.mg "dict" = none) (hg2 : Gl X "zip") (hm2 : X.mg "zip" = none) (ha : DA T X E [e, e2] mas)
    (hs : starEach [e, e2] X.env = (false, eval e X.env) :: starEach [e2] X.env := by rfl) (hpl : (backTo pos2 (starEach [e2] X.env)).any (·.1) = false := by rfl)
    (na : starEach [.Call (.Name "zip" p2) [e, e2] [] pos2] X.env = (false, eval (.Call (.Name "zip" p2) [e, e2] [] pos2) X.env) :: starEach [] X.env := by rfl) :
    DN T X E (.Call (.Name "dict" p) [.Call (.Name "zip" p2) [e, e2] [] pos2] [] pos) (mCB gDictZip mas) := by
  obtain ⟨ta, pa, qa⟩ := ha.ex
  refine ⟨⟨_, pe_dictZip hc hg hm hg2 hm2 pa rfl hs hpl na, fun st F0 H0 F H σ z Q EQ R r er h k => ?_⟩⟩
  refine qa st F0 H0 F H σ z _ EQ _ r er h fun vs H1 F1 ds z1 s1 r1 p1 h1 => ?_
  obtain ⟨kd, ys, ks, rfl, he, q⟩ := h1
  cases allL_keys he
  cases p1 with
  | cons pa' t =>
    cases t with
    | cons pb t =>
      cases t
      cases pa' with
      | lst hf rk =>
        cases pb with
        | lst hf2 ry =>
          have := reps_kD rk
          subst this
          refine ⟨_, _, ks, _, rfl, SqL.of (r1.ok.sub _ _ hf), SqL.of (r1.ok.sub _ _ hf2), fun q' hq => ?_⟩
          obtain ⟨e1, e2⟩ := zip_maps (ks := ks) ry
          obtain ⟨r2, w⟩ := r1.laid hq (merge_rep (K := X.K) (F := F1) (kvs := []) (fs := []) e1 e2 (Cell.dic rfl .nil))
          exact k q' _ F1 _ z1 s1 r2 w q
end
end DL
end

section
set_option Elab.async false
set_option linter.all false
set_option maxRecDepth 100000
set_option maxHeartbeats 4000000
/-! EX: an own exception class over ValueError whose __init__ says super().__init__(x); self.f = x. -/
namespace PySem
namespace SXI
open PySem.W PySem.Calls PyProof.Rows PySem.HandSPX
abbrev sB (par fld : Str) (p0 p1 p2 p3 p4 p5 p6 p7 p8 p9 : Pos) : List Stmt :=
  [.Expr (.Call (.Attribute (.Call (.Name "super" p0) [] [] p1) "__init__" p2) [.Name par p3] [] p4) p5, .Assign [.Attribute (.Name "self" p6) fld p7] (.Name par p8) p9]
abbrev sA (par : Str) (p1 p2 : Pos) : Arguments := { posonlyargs := [], args := [{ arg := "self", annotation := none, pos := p1 }, { arg := par, annotation := none, pos := p2 }], vararg := none, kwonlyargs := [], kw_defaults := [], kwarg := none, defaults := [] }
/-- what the written part says of the class at C (its __init__ at fI, that one's cell at cc, its code at cda) -/
structure SxTxt (prog : Program) (K : Frag) (mg : Str → Option Value) (x par fld : Str) (C fI : Addr) : Prop where
  cls : ∃ nm q N bs bm sn sub ab col dd k0 k1 k2 k3 k5, K.lookup C = some (excClassObj nm q C N bs bm true sn sub ab col dd k0 k1 k2 k3 k5 "ValueError.__new__") ∧ refsVE bm = true ∧ alongIn K "__init__" bm = some (some (.builtin "ValueError.__init__"))
  sa : findIn K (.ref C) "__setattr__" = some (some (.builtin "object.__setattr__"))
  noF : findIn K (.ref C) fld = some none
  iC : findIn K (.ref C) "__init__" = some (some (.ref fI))
  tC : typeIn K (.ref fI) = some (.type "function")
  kC : keepIn K (.ref C) = true
  exC : subIn K (.ref C) (.type "BaseException") = some true
  veC : subIn K (.ref C) (.type "ValueError") = some true
  selfC : mroIn K C (.ref C) = some true
  tyC : typeIn K (.ref C) = some (.type "type")
  gC : mg x = some (.ref C)
  sup : mg "super" = none
  opq : nsIn K cStatics "thirdparty.any" = some none
  fn : ∃ (oc : Value) (od : Option Addr) (doc pm : Value) (an : Option Addr) (cda cc : Addr) (ct : Value) (osl : Array (Option Value)) (qual : Str) (scope : Scope) (q1 q2 p0 p1 p2 p3 p4 p5 p6 p7 p8 p9 : Pos) (ccl : Value) (cdd : Option Addr) (vs : Array Value) (ccs : Array (Option Value)) (file : Str) (tf : Tok) (cl : Value) (cld : Option Addr) (csl : Array (Option Value)),
    K.lookup fI = some ⟨oc, od, .func (ksFn "__init__" qual (sA par q1 q2) (sB par fld p0 p1 p2 p3 p4 p5 p6 p7 p8 p9) scope .none .none doc pm an (.ref cda) ct cc), osl⟩ ∧ codeIn K (.ref cda) qual = true ∧
    K.lookup cda = some ⟨ccl, cdd, .fields vs, ccs⟩ ∧ vs[2]? = some (.str file tf) ∧ ((prog.main.file : Str) == file) = true ∧ K.lookup cc = some ⟨cl, cld, .cell (some (.ref C)), csl⟩ ∧
    (∃ nms, scope = ({ kind := .function, names := nms, isGenerator := false, isCoroutine := false, more := [] } : Scope)) ∧ (∀ y ∈ scope.names, y.2 ≠ .cell) ∧ scope.names.lookup ("self" : Str) = some .local ∧ scope.names.lookup par = some .local ∧ scope.names.lookup ("super" : Str) = some .globalImplicit ∧ scope.names.lookup ("__class__" : Str) = some .free ∧
    (∀ env : Env, ∃ pl : Sem Bool, eval (.Call (.Attribute (.Call (.Name "super" p0) [] [] p1) "__init__" p2) [.Name par p3] [] p4) env = (do
      let ov ← attributeBase (.Call (.Name "super" p0) [] [] p1) "__init__" env (eval (.Call (.Name "super" p0) [] [] p1) env)
      standAt p2.atName
      let (f, first) ← holding [ov] (getMethod ov "__init__" pl)
      callWith p4 f first (backTo p4 (starEach [.Name par p3] env)) []))
  bnd : ∀ (qual : Str) (q1 q2 : Pos) (body : List Stmt) (scope : Scope) (doc pm : Value) (an : Option Addr) (cdv ct : Value) (cc : Addr) (x v : Value), bindArgs (ksFn "__init__" qual (sA par q1 q2) body scope .none .none doc pm an cdv ct cc) ⟨[x, v], []⟩ = pure [(("self" : Str), x), (par, v)]
  top : (prog.main.scope.names.lookup ("super" : Str)).isSome = false
  par1 : par ≠ "self"
  par2 : (par == ("__debug__" : Str)) = false
/-- what __init__ leaves of a fresh exception at x -/
structure InitEnd (h h' : Heap) (x C dx t1 : Addr) (fld : Str) (v : Value) : Prop where
  keep : ∀ b o, b ≠ x → h.get? b = some o → h'.get? b = some o
  obj : h'.get? x = some { cls := .ref C, dict := some dx, data := .fields #[.ref t1, .none, .none, .none, .bool false, .none] }
  dbig : h.objs.size ≤ dx
  dne : dx ≠ x
  ns : h'.Ns1 dx (fun y => if y = fld then some v else none)
section
variable {nm q : Str} {C N : Addr} {bs bm bmB : List Value} {hdct : Bool} {sn : List Str} {sub : List Value} {ab : Bool} {col : Option Bool} {dd : Option Addr} {k0 k1 k2 k3 k5 : Option Value}
theorem call_mw {prog : Program} {w : World} {A : Around} {E : Value → Shared → Prop} {h : Heap} {g : Array GenState} {d : Drawn} {t : Nat} {os : OsState} {u e t0 : Addr} {rest : List Value} {Q : Value → Shared → Prop}
    (hC : h.get? C = some (excClassObj nm q C N bs bm hdct sn sub ab col dd k0 k1 k2 k3 k5 "ValueError.__new__")) (he : h.get? e = some (HandSPX.excO C t0)) (hu : h.get? u = some (kxs_mw "ValueError.__init__" e)) (hrest : rest.length ≤ sizeLine)
    (hq : ∀ h' t1, (∀ b o, b ≠ e → h.get? b = some o → h'.get? b = some o) → h'.get? e = some (HandSPX.excO C t1) → Q .none ⟨h', g, d, t, os⟩) :
    wpAny (model prog w) A (call (.ref u) rest) Q E ⟨h, g, d, t, os⟩ := by
  refine wpAny_call (codeAny_of_tree ?_)
  show wpAny _ A.in1 (callAny (.ref u) ⟨rest, []⟩) _ _ _
  simp only [callAny]
  refine wpAny_bind (wpAny_load hu ?_)
  simp only [kxs_mw, show (Value.type "method-wrapper" == Value.type "method" || Value.type "method-wrapper" == Value.type "builtin_function_or_method" || Value.type "method-wrapper" == Value.type "method-wrapper") = true by decide, if_true]
  refine KFB.if_so (by decide) ?_
  refine wpAny_bind (check_bound_init F.excBase_ValueError.toExcCallFacts hC he rfl ?_)
  refine wpAny_bind (wpAny_pure (wpAny_pure ?_))
  refine ⟨Code.quiet_builtin _ (by decide +kernel), codeAny_builtin F.excBase_ValueError.initEntry ?_⟩
  rw [Around.under_plainId F.excBase_ValueError.init.plain _]
  wp_walk
  refine hq _ h.objs.size (fun b o hb ho => ?_) ?_
  · rw [Heap.get?_update_other _ _ (Ne.symm hb)]
    exact Heap.get?_push_of_some _ ho
  · rw [Heap.get?_update_self _ (Heap.get?_push_of_some _ he) rfl]
    rfl
end
section
variable {prog : Program} {w : World} {A : Around} {E : Value → Shared → Prop} {R : Result → Shared → Prop} {s : Shared} {K : Frag} {mg : Str → Option Value} {x0 par fld : Str} {C fI : Addr} {base : Heap}
theorem sx_init (T : SxTxt prog K mg x0 par fld C fI) {x t0 : Addr} {v : Value} (X : K.In s.heap) (MM : L2.Mod K mg base) (bk : ∀ b o, base.get? b = some o → s.heap.get? b = some o) (hx : s.heap.get? x = some (excO C t0)) (hnx : K.lookup x = none) (hroom : A.depth < recursionLimit)
    (hq : ∀ h' tk dx t1, InitEnd s.heap h' x C dx t1 fld v → R (.ok (.ret .none)) { s with heap := h', toks := tk }) :
    codeAny (model prog w) A (.call (.ref fI) ⟨[.ref x, v], []⟩) R s := by
  obtain ⟨oc, od, doc, pm, an, cda, cc, ct, osl, qual, scope, q1, q2, p0, p1, p2, p3, p4, p5, p6, p7, p8, p9, ccl, cdd, vs, ccs, file, tf, cl, cld, csl, ho, hcd, hcode, hvs, hfile, hcell, ⟨nms, hscope⟩, scell, sself, spar, ssup, scls, hev⟩ := T.fn
  subst hscope
  obtain ⟨nm, q, N, bs, bm, sn, sub, ab, col, dd, k0, k1, k2, k3, k5, hC, hbm, hal⟩ := T.cls
  have hcl : clsIn K C = some { name := nm, bases := bs, mro := .ref C :: bm, ns := N, qualname := q, hasDict := true, slotNames := sn, subclasses := sub, abstract := ab, collection := col, hasDel := false } := by unfold clsIn; rw [hC] <;> rfl
  have hloc : ∀ y ∈ [(("self" : Str), Value.ref x), (par, v)], nms.lookup y.1 = some .local := fun y hy => by
    simp at hy
    rcases hy with rfl | rfl
    · exact sself
    · exact spar
  refine ks_codeAny_call_defAt (fd := ksFn "__init__" qual (sA par q1 q2) (sB par fld p0 p1 p2 p3 p4 p5 p6 p7 p8 p9) { kind := .function, names := nms, isGenerator := false, isCoroutine := false, more := [] } .none .none doc pm an (.ref cda) ct cc) (body := sB par fld p0 p1 p2 p3 p4 p5 p6 p7 p8 p9) (binds := [("self", .ref x), (par, v)]) hroom (X _ _ ho) rfl (MM.nolimit.keeps bk) (codeRec_of X hcd) rfl (BindsTo.of_eq (T.bnd ..)) scell hloc (fun h₁ hns k => ?_) rfl rfl rfl
  have X₁ : K.In h₁ := X.keeps k
  have bk₁ : ∀ b o, base.get? b = some o → h₁.get? b = some o := fun b o e => k b o (bk b o e)
  have hx₁ := k _ _ hx
  have hv1 : (([(("self" : Str), Value.ref x), (par, v)] : List (Str × Value)).reverse.lookup ("self" : Str)) = some (Value.ref x) := by
    have : (("self" : Str) == par) = false := by simpa using fun e : ("self" : Str) = par => T.par1 e.symm
    simp [List.lookup, this]
  have hv2 : (([(("self" : Str), Value.ref x), (par, v)] : List (Str × Value)).reverse.lookup par) = some v := by simp [List.lookup]
  obtain ⟨pl, hev⟩ := hev (callEnv (ksFn "__init__" qual (sA par q1 q2) (sB par fld p0 p1 p2 p3 p4 p5 p6 p7 p8 p9) { kind := .function, names := nms, isGenerator := false, isCoroutine := false, more := [] } .none .none doc pm an (.ref cda) ct cc) s.heap.objs.size fI)
  refine ks_wpAt_execs_cons (ks_wpAt_Expr_any (ks_wpAt_MethodCall (pl := pl) ?_ hev))
  obtain ⟨mb, hb1, hb2⟩ := MM.blt
  have xC : x ≠ C := fun e => by
    rw [e, X₁ _ _ hC] at hx₁
    have := Option.some.inj hx₁
    have := congrArg Obj.data this
    cases this
  refine ks_wpAt_super_base (f := fI) (cc := cda) ssup scls (by decide) rfl (X₁ _ _ ho) rfl rfl rfl (X₁ _ _ hcode) rfl hvs hfile T.top ?_
  refine ks_loadName_global rfl ssup (loadGlobal_builtin (MM.glob.keeps bk₁) T.sup (hb1.keeps bk₁) ((hb2 _ (by decide)).trans (show bootBuiltins "super" = some (.type "super") by decide +kernel)) ⟨rfl, ?_⟩)
  refine wpAny_loadName_free rfl scls rfl ⟨_, X₁ _ _ hcell, rfl⟩ ?_
  refine wpAny_loadName_local rfl sself hns hv1 ?_
  refine ks_wpAny_isType_cls (X₁ _ _ hC) rfl ⟨rfl, ?_⟩
  refine ks_wpAny_call_super (X₁ _ _ hC) rfl hx₁ rfl (fun c e => by cases e) (looks_mroIn X₁ T.selfC) (fun h2 e2 kk => ?_)
  have X2 : K.In h2 := X₁.keeps kk
  have hx2 := kk _ _ hx₁
  have hinst : Looks (model prog w) h2 (isInstance (.ref x) (.type "ValueError")) true :=
    (InstAt.type (od := none) ⟨hx2, rfl, rfl, trivial⟩ : Looks (model prog w) h2 (typeOf (.ref x)) (.ref C)).andThen (looks_subIn X2 T.veC)
  refine kxs_getMethod kxs_ValueError e2 (looks_opaque X2 T.opq) (l₀ := .ref C :: bm) ?_ (l := bm) (by simp [List.dropWhile_cons]) X2 hal hinst xC (by decide) ?_
  · exact fun A Q E s kq q => wpAny_bind ((looks_clsIn X2 hcl) A _ E s kq (wpAny_pure q))
  have k3 : ∀ b o, h2.get? b = some o → (h2.push (kxs_mw "ValueError.__init__" x)).get? b = some o := fun b o e => Heap.get?_push_of_some _ e
  have hu : (h2.push (kxs_mw "ValueError.__init__" x)).get? h2.objs.size = some (kxs_mw "ValueError.__init__" x) := Heap.get?_push_size _ rfl
  have hns2 := (hns.keeps kk).keeps k3
  refine kxs_callWith (i := "ValueError.__init__") (x := x) (by rfl) ?_
  refine evalArgs_plain ?_
  refine spliced_cons ?_
  refine wpAny_Name ?_ T.par2
  refine wpAny_loadName_local rfl spar hns2 hv2 ?_
  refine spliced_nil ⟨hu, ?_⟩
  refine call_mw (X2.keeps k3 _ _ hC) (k3 _ _ hx2) hu (show ([v] : List Value).length ≤ sizeLine by rw [sizeLine_eq]; exact (by decide : 1 ≤ 16777216)) fun h4 t1 k4 hx4 => ?_
  have xL : s.heap.objs.size ≠ x := Nat.ne_of_gt (Heap.lt_size hx)
  have hns4 : h4.Ns s.heap.objs.size (fun y => ([(("self" : Str), Value.ref x), (par, v)] : List (Str × Value)).reverse.lookup y) := hns2.at fun o e => k4 _ o xL e
  have X4 : K.In h4 := fun b o e => k4 _ _ (fun z => by rw [z, hnx] at e; cases e) (k3 _ _ (kk _ _ (k _ _ (X _ _ e))))
  show _root_.PySem.wpAt _ _ _ (execs _ _) _ _ _
  refine wpAt_of_wpAny ?_
  refine wpAny_execs_cons (plainObj_wpAny_Assign_Attribute ?_)
  refine wpAny_Name ?_ T.par2
  refine wpAny_loadName_local rfl spar hns4 hv2 ?_
  refine wpAny_Name ?_ (by decide)
  refine wpAny_loadName_local rfl sself hns4 hv1 ?_
  refine set_plain X4 (ox := excO C t1) (od := none) ⟨hx4, rfl, rfl, trivial⟩ T.sa ?_
  refine exc_osa X4 hx4 hcl (show refsVE (.ref C :: bm) = true from hbm) rfl T.noF (fun h₃ tk₃ dx k₃ dn dne hx₃ hn₃ => ?_)
  show wpAny _ _ (execs _ _) _ _ _
  have old : ∀ b o, b ≠ x → s.heap.get? b = some o → h4.get? b = some o := fun b o hb e => k4 b o hb (k3 _ _ (kk _ _ (k _ _ e)))
  refine wpAny_execs_nil (hq h₃ tk₃ dx t1 ⟨fun b o hb e => k₃ b o hb (old b o hb e), hx₃, Nat.le_of_lt (Nat.lt_of_lt_of_le hns4.lt dn), dne, hn₃⟩)
/-- a made one -/
structure OwnMade (h h' : Heap) (e C d : Addr) (fld : Str) (v : Value) : Prop where
  keep : ∀ b o, h.get? b = some o → h'.get? b = some o
  new : h.objs.size ≤ e
  obj : ∃ oe vs, h'.get? e = some oe ∧ oe.cls = .ref C ∧ oe.dict = some d ∧ oe.data = .fields vs ∧ vs[1]? = some .none
  dbig : h.objs.size ≤ d
  dne : d ≠ e
  ns : h'.Ns1 d (fun y => if y = fld then some v else none)
theorem one_size (v : Value) : [v].length ≤ sizeLine := by
  rw [sizeLine_eq]
  exact (by decide : 1 ≤ 16777216)
theorem sx_made (T : SxTxt prog K mg x0 par fld C fI) {v : Value} (X : K.In s.heap) (MM : L2.Mod K mg base) (bk : ∀ b o, base.get? b = some o → s.heap.get? b = some o) (hroom : A.depth + 1 < recursionLimit)
    (hq : ∀ h' tk e d, OwnMade s.heap h' e C d fld v → R (.ok (.ret (.ref e))) { s with heap := h', toks := tk }) :
    codeAny (model prog w) A (.call (.ref C) ⟨[v], []⟩) R s := by
  obtain ⟨nm, q, N, bs, bm, sn, sub, ab, col, dd, k0, k1, k2, k3, k5, hC, hbm, hal⟩ := T.cls
  obtain ⟨hp, g, dr, tk, os⟩ := s
  have k : ∀ b o, hp.get? b = some o → ((hp.push (kdv_tup [v])).push (excO C hp.objs.size)).get? b = some o := fun b o e => Heap.get?_push_of_some _ (Heap.get?_push_of_some _ e)
  have hget : ((hp.push (kdv_tup [v])).push (excO C hp.objs.size)).get? (hp.objs.size + 1) = some (excO C hp.objs.size) := by heap_get
  have hnx : K.lookup (hp.objs.size + 1) = none := by
    cases e : K.lookup (hp.objs.size + 1) with
    | none => rfl
    | some o =>
      have z : hp.get? (hp.objs.size + 1) = some o := X _ _ e
      exact absurd (Nat.lt_of_succ_lt (Heap.lt_size z)) (Nat.lt_irrefl _)
  refine call_own F.excBase_ValueError (fun X => refsVE_contains X bm hbm) (X _ _ hC) (looks_findIn X T.iC) (fun self => bind_fn X self T.tC) (one_size v) ?_
  refine sx_init (s := ⟨(hp.push (kdv_tup [v])).push (excO C hp.objs.size), g, dr, tk, os⟩) T (X.keeps k) MM (fun b o e => k b o (bk b o e)) hget hnx ?_ fun h' tk' dx t1 ⟨k', hx, dn, dne, hns⟩ => ?_
  · show A.depth + 1 < recursionLimit
    exact hroom
  · have old : ∀ b o, hp.get? b = some o → h'.get? b = some o := fun b o e => k' b o (Nat.ne_of_lt (Nat.lt_succ_of_lt (Heap.lt_size e))) (k b o e)
    have z : hp.objs.size + 1 + 1 ≤ dx := by
      have q := dn
      rw [Heap.size_push, Heap.size_push] at q
      exact q
    exact ⟨rfl, hq h' tk' (hp.objs.size + 1) dx ⟨old, Nat.le_succ _, ⟨_, _, hx, rfl, rfl, rfl, rfl⟩, Nat.le_trans (Nat.le_trans (Nat.le_succ _) (Nat.le_succ _)) z, dne, hns⟩⟩
end
end SXI
end PySem
namespace L2
open PySem PySem.Spec PyProof.Rows
theorem relO_sx {v : V} {v' : Value} {fld : Str} (r : RelV v v') (f : Str) : RelO (List.lookup f [(fld, v)]) (if f = fld then some v' else none) := by
  by_cases hw : f = fld
  · subst hw
    rw [if_pos rfl]
    have q : List.lookup f [(f, v)] = some v := by simp [List.lookup]
    rw [q]
    exact r
  · rw [if_neg hw]
    have qw : (f == fld) = false := by simpa using hw
    have q2 : List.lookup f [(fld, v)] = none := by simp [List.lookup, qw]
    rw [q2]
    trivial
section
variable {X : Cx} {C fI : Addr} {x0 par fld : Str}
def tMkSx (C : Addr) (fld : Str) (ta : TA) : St → Hp → XK → Prop := fun σ H Q => ta σ H fun vs H1 => ∃ v, vs = [v] ∧ ∀ d, H1 d = none → Q (.ref C) (some d) (upd H1 d (.xd [(fld, v)]))
theorem pmk_sx {a : Expr} {ta : TA} {p pos : Pos} {k : Nat} (T : PySem.SXI.SxTxt X.prog X.K X.mg x0 par fld C fI) (hr : Room k X.A) (ha : PA X [a] ta) (hg : Gl X x0) (hdb : (x0 == ("__debug__" : Str)) = false := by decide)
    (he : starEach (a :: []) X.env = (false, eval a X.env) :: starEach [] X.env := by rfl) (hpl : (backTo pos (starEach [] X.env)).any (·.1) = false := by rfl) :
    PMk X (.Call (.Name x0 p) [a] [] pos) (tMkSx C fld ta) := by
  intro pins s σ H Q I h
  refine wpAny_Call_Name_kw (ld_glob I hg T.gC ?_ hdb)
  refine PySem.W.callWith_K (h₀ := X.base) I.ok.mod.kin T.kC (thn (ha.run pos pins s σ H _ I h) fun us s1 hh => ?_) he hpl
  obtain ⟨vs, H1, I1, r1, v, ev, q1⟩ := hh
  subst ev
  refine ⟨I1.kIn, ?_⟩
  cases r1 with
  | cons rv rn =>
    rename_i v' us'
    cases rn
    show wpAny _ _ (call (.ref C) [v']) _ _ _
    have bk := I1.bk
    obtain ⟨hp, g, dr, tk, os⟩ := s1
    refine wpAny_call (PySem.SXI.sx_made T I1.kIn I1.ok.mod bk (by have := hr.dp; omega) fun h' tk' e d M => ?_)
    show MkP X pins σ Q (.ref e) ⟨h', g, dr, tk', os⟩
    obtain ⟨oe, fv, hoe, hc, hd, hdat, h1⟩ := M.obj
    have hns := M.ns
    obtain ⟨G', g1, g2⟩ := restrict h' fun b => decide (b ≠ e)
    have gk : ∀ b, b ≠ e → G'.get? b = h'.get? b := fun b hb => g1 b (decide_eq_true hb)
    have ge : G'.get? e = none := g2 e (by simp)
    have old : ∀ b o, hp.get? b = some o → G'.get? b = some o := fun b o q => (gk b (Nat.ne_of_lt (Nat.lt_of_lt_of_le (Heap.lt_size q) M.new))).trans (M.keep b o q)
    have ob : ObjOk X.prog X.w (upd H1 d (.xd [(fld, v)])) G' d (.xd [(fld, v)]) :=
      ⟨_, hns.at (fun o q => (gk d M.dne).trans q), fun f => relO_sx rv f⟩
    have J : Inv X pins σ (upd H1 d (.xd [(fld, v)])) ⟨G', g, dr, tk', os⟩ := I1.laid (t' := tk') old M.dbig ob
    refine ⟨e, oe, fv, ⟨G', g, dr, tk', os⟩, _, .ref C, some d, rfl, J, fun b o q => ?_, ge, hoe, ⟨hc, hd⟩, hdat, h1, ?_, rfl, I1.bare, raises_own T.exC T.tyC, q1 d (I1.hok.fresh M.dbig)⟩
    · by_cases hb : b = e
      · have q' : G'.get? b = some o := q
        rw [hb, ge] at q'; cases q'
      · exact (gk b hb).symm.trans q
    · rw [upd_ne (Ne.symm M.dne)]
      exact I1.hok.fresh M.new
/-- raise C(e) -/
def tRaiseSx (C : Addr) (fld : Str) (W : WX) (ta : TA) : TS := fun _ σ H => tMkSx C fld ta σ H fun cls d H' => W cls d σ H'
theorem ps_raiseSx {a : Expr} {ta : TA} {W : WX} {p pos pos2 : Pos} {k : Nat} (hc : X.calm = true) (T : PySem.SXI.SxTxt X.prog X.K X.mg x0 par fld C fI) (hr : Room k X.A) (tk : Takes X W) (ha : PA X [a] ta) (hg : Gl X x0) (hdb : (x0 == ("__debug__" : Str)) = false := by decide)
    (he : starEach (a :: []) X.env = (false, eval a X.env) :: starEach [] X.env := by rfl) (hpl : (backTo pos (starEach [] X.env)).any (·.1) = false := by rfl) :
    PS X (.Raise (some (.Call (.Name x0 p) [a] [] pos)) none pos2) (tRaiseSx C fld W ta) := ps_raise hc tk (pmk_sx T hr ha hg hdb he hpl)
end
end L2
namespace DL
open PySem PySem.Spec PyProof.Rows L2
section
variable {T : List (Addr × Str)} {X : Cx} {E : XK} {a : Expr} {mas : TDA} {C fI : Addr} {x0 par fld : Str}
/-- raise C(e), by data -/
@[reducible, simp] def sRaise (C : Addr) (fld : Str) (ma : TDA) : TDS := fun st D z EQ => ma st z (fun ds z1 => ∃ d, ds = [d] ∧ EQ ⟨C, [(fld, d)]⟩ z1.n) EQ
theorem ds_raise {p pos pos2 : Pos} {k : Nat} (hc : X.calm = true) (TX : ∃ fI, PySem.SXI.SxTxt X.prog X.K X.mg x0 par fld C fI) (hr : Room k X.A) (tk : Takes X (fun cls d _ H => E cls d H)) (ha : DA T X E [a] mas) (hg : Gl X x0) (hdb : (x0 == ("__debug__" : Str)) = false := by decide)
    (he : starEach (a :: []) X.env = (false, eval a X.env) :: starEach [] X.env := by rfl) (hpl : (backTo pos (starEach [] X.env)).any (·.1) = false := by rfl) : DS T X E (.Raise (some (.Call (.Name x0 p) [a] [] pos)) none pos2) (sRaise C fld mas) := by
  obtain ⟨fI, TX⟩ := TX
  obtain ⟨ta, pa, qa⟩ := ha.ex
  refine ⟨⟨_, ps_raiseSx hc TX hr tk pa hg hdb he hpl, fun st F0 H0 F H σ z D EQ D' r er h k => ?_⟩⟩
  refine qa st F0 H0 F H σ z _ EQ _ r er h fun vs H1 F1 ds z1 s1 r1 p1 h1 => ?_
  obtain ⟨d, rfl, h2⟩ := h1
  cases p1 with
  | cons rp t =>
    cases t
    refine ⟨_, rfl, fun dd hd => ?_⟩
    exact er ⟨C, [(fld, d)]⟩ z1.n F1 _ dd _ (r1.ok.laid hd) upd_same (r1.ok.dom dd hd) rfl (.cons rp .nil) h2
theorem takeX {P : Program} {w : World} {K : PySem.W.Frag} {mg : Str → Option Value} {base : Heap} {N : List Str} {q : Str} {sc : Scope} {f : Addr} {cdv : Value} {A : Around} {outer : List Env} {s : Shared} {H : Hp} {E : XK} : Takes (cxOf (L2.CX P w) P w K mg base N q sc f cdv A outer s H E) (fun cls d _ H => E cls d H) := takes_of rfl rfl rfl rfl
end
end DL
end

section
set_option Elab.async false
set_option linter.all false
set_option maxRecDepth 100000
set_option maxHeartbeats 4000000
/-! TM: several clauses «except x as n». -/
namespace L2
open PySem PySem.Spec PyProof.Rows
/-- the ends behind a clause: its name is gone -/
abbrev endsGone (D : Ends) (i : Nat) : Ends := { nx := fun σ H => D.nx (σ.set i none) H, rt := D.rt, bk := fun σ H => D.bk (σ.set i none) H, ct := fun σ H => D.ct (σ.set i none) H }
/-- what such clauses wish of the body's exception -/
def wManyAs (K : PySem.W.Frag) (i : Nat) (Wout : WX) (D : Ends) : List (Value × (Addr → Value → Option Addr → TS)) → WX
  | [] => Wout
  | (c, ts) :: rest => fun cls d σ H => ∃ b, PySem.W.exmOne K cls c = some b ∧ (b = true → ∀ x, H x = none → ts x cls d (endsGone D i) (σ.set i (some (.ref x))) H) ∧ (b = false → wManyAs K i Wout D rest cls d σ H)
inductive ClausesAs (X : Cx) (n : Str) : List ExceptHandler → List (Value × (Addr → Value → Option Addr → TS)) → Prop
  | nil : ClausesAs X n [] []
  | cons {x : Str} {c : Value} {ts : Addr → Value → Option Addr → TS} {first : Stmt} {more : List Stmt} {np hp : Pos} {hds : List ExceptHandler} {l : List (Value × (Addr → Value → Option Addr → TS))} (hc : Names X x c)
      (hs : ∀ (e : Addr) (o : Obj) (cls : Value) (d : Option Addr) (pn : List (Addr × Obj)), Zc cls d o → (∃ vs, o.data = .fields vs) → PSs (X.suite e ((e, o) :: pn)) (first :: more) (ts e cls d)) (r : ClausesAs X n hds l) :
      ClausesAs X n (.ExceptHandler (some (.Name x np)) (some n) (first :: more) hp :: hds) ((c, ts) :: l)
section
variable {X : Cx} {body : List Stmt} {n : Str} {i : Nat} {hd : ExceptHandler} {hds : List ExceptHandler} {l : List (Value × (Addr → Value → Option Addr → TS))} {pos : Pos} {tb : WX → TS} {Wout : WX}
theorem ps_try_manyAs (hst : X.stack = X.env :: X.outer) (hfr : X.env.frame = some X.env.locals) (hN : X.N.Nodup) (hi : X.N[i]? = some n) (hln : X.env.kindOf n = some .local) (tk : Takes X Wout)
    (hb : ∀ (W : WX) (pn : List (Addr × Obj)) (xe : Value → Shared → Prop), Takes (X.tr pn xe) W → PassesOwn (model X.prog X.w) X.A X.env xe → PSs (X.tr pn xe) body (tb W))
    (hh : ClausesAs X n (hd :: hds) l) : PS X (.Try body (hd :: hds) [] [] pos) (fun D σ H => tb (wManyAs X.K i Wout D l) D σ H) := by
  refine ⟨fun pins s σ H D I h => ?_⟩
  have ok := I.ok
  have frames : X.A.frames = some (X.env :: X.outer) := by rw [ok.frames, hst]
  have hloc : Loc X.env.scope n := .inl hln
  refine wpAny_Try_except ?_
  refine wpAny_mono ((hb (wManyAs X.K i Wout D l) (X.pn ++ pins) (fun e t₁ => wpAny (model X.prog X.w) X.A (noteFrame e X.env) (fun _ t₂ => wpAny (model X.prog X.w) X.A (setFlight e none) (fun _ t₃ =>
    wpAny (model X.prog X.w) X.A (handleBy e X.env (hd :: hds)) (SP X pins D) X.xe t₃) X.xe t₂) X.xe t₁) (fun u t xx => ?_) PassesOwn.looking).run [] s σ H D (I.toTry _) h) (fun fl t hsp => ?_) (fun e t he => he)
  · obtain ⟨x, B, sI, pins', σ', H', cls, d, rfl, J', nb, up, sky, na, os, ag, w⟩ := xx
    have J : Inv X pins σ' H' sI := J'.ofTry ok
    have sky' : Sky B (X.env :: X.outer) x (Zc cls d) X.env.locals t.heap := by rw [← hst]; exact sky
    show wpAny (model X.prog X.w) X.A (noteFrame (.ref x) X.env) _ _ _
    refine Sky.land Zc.steady frames hfr sky' fun hA flA upA => ?_
    have JA : Inv X pins σ' H' { t with heap := hA } := J.landed nb flA.1 (up.trans upA) os ag
    obtain ⟨oA, vA, gA, zA, dA⟩ := flA.there
    have nfr : x ∉ frs (X.env :: X.outer) := fun hm => by
      obtain ⟨_, o', e', hnf⟩ := flA.2.2.1.mem hm
      rw [gA] at e'
      cases e'
      exact hnf _ dA
    have nL : x ≠ X.env.locals := fun z => nfr (List.mem_filterMap.mpr ⟨X.env, List.mem_cons_self, by rw [hfr, z]⟩)
    have nF : x ∉ X.fs := fun hm => by
      obtain ⟨e, he, q⟩ := List.mem_filterMap.mp hm
      exact nfr (List.mem_filterMap.mpr ⟨e, List.mem_cons_of_mem _ he, q⟩)
    have SA := JA.suite gA dA na nL nF
    have walk : ∀ {hs' : List ExceptHandler} {l' : List (Value × (Addr → Value → Option Addr → TS))}, ClausesAs X n hs' l' → wManyAs X.K i Wout D l' cls d σ' H' →
        wpAny (model X.prog X.w) X.A (handleBy (.ref x) X.env hs') (SP X pins D) X.xe { t with heap := hA } := by
      intro hs' l' hk
      induction hk with
      | nil =>
        intro w
        refine wpAny_handleBy_nil ?_
        obtain ⟨_, _, _, o, vs, T, oT, ts', g1, g2, g3, g4, g5⟩ := id flA
        unfold PySem.passOn
        refine wpAny_bind (wpAny_field g1 g3 g4 ?_)
        rw [if_neg (show ¬ ((Value.ref T == Value.none) = true) from by simp)]
        have out : wpAny (model X.prog X.w) X.A (setFlight (.ref x) X.env.frame) (fun _ t4 => wpAny (model X.prog X.w) X.A (throw (.ref x) : Sem Flow) (SP X pins D) X.xe t4) X.xe { t with heap := hA } := by
          rw [hfr]
          refine HandSPX.setFlight_upZ flA fun hB hhB upB => wpAny_throw (tk _ _ ?_)
          exact ⟨x, B, sI, pins, σ', H', cls, d, rfl, J, nb, (up.trans upA).trans upB, .inr (.inr (by rw [hst]; exact hhB)), na, os, ag, w⟩
        first
          | exact wpAny_bind (wpAny_pure (wpAny_bind out))
          | exact wpAny_bind out
      | @cons cn c ts first more np hp hs2 l2 hc hsu r ih =>
        intro w
        obtain ⟨b, hb1, yes, no⟩ := w
        refine wpAny_handleBy_cons (codeAny_handlers_test ?_) (by intro q; cases q)
        have LT : PySem.W.Looks (model X.prog X.w) hA (typeOf (.ref x)) cls := fun A Q E s k q => wpAny_typeOf_ref (k _ _ gA) (by rw [zA.1]; exact q)
        have LM := PySem.W.exm_one (M := model X.prog X.w) JA.kIn LT hb1
        have named : ∀ {Q : Value → Shared → Prop} {E : Value → Shared → Prop}, Q c { t with heap := hA } → wpAny (model X.prog X.w) (X.A.mark (some (.ref x))) (eval (.Name cn np) X.env) Q E { t with heap := hA } := fun {Q E} q => by
          obtain ⟨g1, g2, g3 | ⟨g3, g4, g5⟩⟩ := hc
          · exact ld_glob (X := X.suite x ((x, oA) :: (X.pn ++ pins))) SA g1 g3 q g2
          · exact ld_blt (X := X.suite x ((x, oA) :: (X.pn ++ pins))) SA g1 g3 g4 q g5 g2
        refine named (LM.here ?_)
        cases b with
        | true =>
          refine codeAny_handlers_suite_as ?_
          refine HandSPX.lands_againZ flA fun hB flB upB => ?_
          have JB : Inv X pins σ' H' { t with heap := hB } := J.landed nb flB.1 ((up.trans upA).trans upB) os ag
          obtain ⟨oB, vB, gB, zB, dB⟩ := flB.there
          have SB := JB.suite gB dB na nL nF
          refine store_ok (X := X.suite x ((x, oB) :: (X.pn ++ pins))) (v := .ref x) SB hN hi hloc rfl (fun s5 S5 => ?_) (.inr hln)
          refine wpAny_mono ((hsu x oB cls d (X.pn ++ pins) zB ⟨_, dB⟩).run [] s5 _ H' _ S5 (yes rfl x na)) (fun fl s6 hsp => ?_) (fun _ _ z => False.elim z)
          have gone : ∀ {σ6 : St} {H6 : Hp} {Q : Shared → Prop}, Inv (X.suite x ((x, oB) :: (X.pn ++ pins))) [] σ6 H6 s6 → (∀ s7, Inv X pins (σ6.set i none) H6 s7 → Q s7) →
              wpAny (model X.prog X.w) X.A (do bindName X.env n .none; unbindBehindTheSuite X.env n hp) (fun _ s7 => Q s7) X.xe s6 := fun {σ6 H6 Q} S6 hq => gone_ok (S6.unsuite ok) hN hi hln hq
          cases fl with
          | ret u =>
            obtain ⟨v6, σ6, H6, S6, r6, q6⟩ := hsp
            exact gone S6 fun s7 J7 => ⟨_, _, _, J7, r6, q6⟩
          | _ =>
            obtain ⟨σ6, H6, S6, q6⟩ := hsp
            exact gone S6 fun s7 J7 => ⟨_, _, J7, q6⟩
        | false =>
          show wpAny _ X.A (handleBy (.ref x) X.env hs2) _ _ _
          exact ih (no rfl)
    exact walk hh w
  · cases fl with
    | next =>
      obtain ⟨σ', H', J', q⟩ := hsp
      exact wpAny_execs_nil ⟨σ', H', J'.ofTry ok, q⟩
    | ret u =>
      obtain ⟨v, σ', H', J', r, q⟩ := hsp
      exact ⟨v, σ', H', J'.ofTry ok, r, q⟩
    | _ =>
      obtain ⟨σ', H', J', q⟩ := hsp
      exact ⟨σ', H', J'.ofTry ok, q⟩
end
end L2
end

section
set_option Elab.async false
set_option linter.all false
set_option maxRecDepth 100000
set_option maxHeartbeats 4000000
/-! LM: try: return ('told', a()) / except C as e: return (word, e.fld) .. -/
namespace DL
open PySem PySem.Spec PyProof.Rows L2
/-- class, field, word -/
abbrev Met := List (Addr × Str × Str)
/-- what is wished of an exception -/
def MetW (K : PySem.W.Frag) (cls : Value) (d : Option Addr) (H : Hp) (Q : VK) : Met → Prop
  | [] => False
  | (C, fld, word) :: r => ∃ b, PySem.W.exmOne K cls (.ref C) = some b ∧ (b = true → cls = .ref C ∧ ∃ (dd : Addr) (fs : List (Str × V)) (v : V), d = some dd ∧ H dd = some (.xd fs) ∧ fs.lookup fld = some v ∧ ∀ p, H p = none → Q (.ref p) (upd H p (.tup [.str word, v]))) ∧
      (b = false → MetW K cls d H Q r)
def TTmet (K : PySem.W.Frag) (l : Met) : (XK → Hp → VK → Prop) → Hp → VK → Prop := fun tl H Q =>
  ∃ Ech : XK, tl Ech H (fun v H' => [V.str "told", v].length ≤ sizeLine ∧ ∀ p, H' p = none → Q (.ref p) (upd H' p (.tup [.str "told", v]))) ∧ ∀ cls d H', Ech cls d H' → MetW K cls d H' Q l
/-- the reading of a clause's suite -/
abbrev tsMet (i : Nat) (C : Addr) (fld word : Str) : Addr → Value → Option Addr → TS := fun e cls d D σ H => (∃ v, σ[i]? = some (some v) ∧ v = .ref e ∧ cls = .ref C ∧ ∃ (dd : Addr) (fs : List (Str × V)) (v : V), d = some dd ∧ H dd = some (.xd fs) ∧ fs.lookup fld = some v ∧ ∀ p, H p = none → D.rt (.ref p) (upd H p (.tup [.str word, v])))
inductive MetHds (X : Cx) (n : Str) (i : Nat) : List ExceptHandler → Met → Prop
  | nil : MetHds X n i [] []
  | cons {hd : ExceptHandler} {hds : List ExceptHandler} {C : Addr} {fld word : Str} {l : Met} (h : ∀ {hds l'}, ClausesAs X n hds l' → ClausesAs X n (hd :: hds) ((.ref C, tsMet i C fld word) :: l')) (r : MetHds X n i hds l) : MetHds X n i (hd :: hds) ((C, fld, word) :: l)
theorem MetHds.clauses {X : Cx} {n : Str} {i : Nat} : ∀ {hds : List ExceptHandler} {l : Met}, MetHds X n i hds l → ClausesAs X n hds (l.map fun r => (.ref r.1, tsMet i r.1 r.2.1 r.2.2))
  | _, _, .nil => .nil
  | _, _, .cons h r => h r.clauses
theorem metW_many {K : PySem.W.Frag} {i : Nat} {cls : Value} {d : Option Addr} {D : Ends} {σ : Sg} {H : Hp} {Q : VK} {Wout : WX} (hi : i < σ.length) (hr : D.rt = Q) : ∀ (l : Met), MetW K cls d H Q l → wManyAs K i Wout D (l.map fun r => (.ref r.1, tsMet i r.1 r.2.1 r.2.2)) cls d σ H
  | [], h => h.elim
  | (C, fld, word) :: l, ⟨b, h1, h2, h3⟩ => by
    refine ⟨b, h1, fun hb x hx => ?_, fun hb => metW_many hi hr l (h3 hb)⟩
    obtain ⟨e1, dd, fs, v, e2, e3, e4, e5⟩ := h2 hb
    refine ⟨.ref x, by simp [hi], rfl, e1, dd, fs, v, e2, e3, e4, fun p hp => ?_⟩
    show D.rt _ _
    rw [hr]
    exact e5 p hp
theorem takes_len {X : Cx} {W : WX} (tk : Takes X W) : Takes X (fun cls d σ H => σ.length = X.N.length → W cls d σ H) := fun u s' xx => by
  obtain ⟨e, B, sI, pins, σ, H, cls, d, rfl, I, nb, up, sky, na, os, ag, w⟩ := xx
  exact tk _ _ ⟨e, B, sI, pins, σ, H, cls, d, rfl, I, nb, up, sky, na, os, ag, w I.len⟩
section
variable {X : Cx}
theorem met_gives {Ng : List Str} {x a e q : Str} {sg : Scope} {g : Addr} {cdg : Value} {hd : ExceptHandler} {hds : List ExceptHandler} {l : Met} {jt kt : Nat} {p1 p2 p3 p4 p5 p6 : Pos} (hN : Ng.Nodup) (hNe : Ng[1]? = some e) (hln : sg.names.lookup e = some .local) (h0 : ∀ f : Addr, (L2.start Ng [V.ref f])[0]? = some (some (V.ref f)))
    (hh : ∀ (s : Shared) (H : Hp), MetHds (cxOf C8.CX0 X.prog X.w X.K X.mg X.base Ng x sg g cdg X.A X.stack s H C8.E0).nox e 1 (hd :: hds) l) :
    LamX.GivesTo X Ng x sg g cdg [.Try [.Return (some (.Tuple [.Constant (.str "told") jt p1, .Call (.Name a p2) [] [] p3] kt p4)) p5] (hd :: hds) [] [] p6] a q (TTmet X.K l) := by
  intro f c' s H Q tl act hc h
  obtain ⟨Ech, h1, h2⟩ := h
  have hlen : 1 < Ng.length := (List.getElem?_eq_some_iff.mp hNe).1
  refine ⟨_, pss_one (ps_try_manyAs (X := (cxOf C8.CX0 X.prog X.w X.K X.mg X.base Ng x sg g cdg X.A X.stack s H C8.E0).nox) (i := 1)
      (tb := fun W D σ H => ∃ Ech : XK, (∀ cls d σ' H', σ'.length = Ng.length → Ech cls d H' → W cls d σ' H') ∧ σ.length = Ng.length ∧ σ[0]? = some (some (.ref f)) ∧ H c' = some (LamX.CodeO c' q) ∧ tl Ech H fun v H' => [V.str "told", v].length ≤ sizeLine ∧ ∀ p, H' p = none → D.rt (.ref p) (upd H' p (.tup [.str "told", v])))
      rfl rfl hN hNe hln LamX.takes0 (fun W pn xe tk _ => ?_) (hh s H).clauses), ?_⟩
  · refine ⟨fun pins s' σ H' D I h' => ?_⟩
    obtain ⟨Ech, hW, hl, h1, h2, h3⟩ := h'
    have hp := act (fun cls d σ H => σ.length = Ng.length → W cls d σ H) pn xe Ech p2 p3 (takes_len tk) (fun cls d σ' H' hE hl => hW cls d σ' H' hl hE)
    have hq := pss_one (ps_ret (pos := p5) (pe_tup (x1 := kt) (pos := p4) (pa_cons (pe_str (x := "told") (j := jt) (pos := p1)) (pa_cons hp pa_nil))))
    exact hq.run pins s' σ H' D I ⟨h1, h2, h3⟩
  · exact ⟨Ech, fun cls d σ' H' hl hE => metW_many (by rw [hl]; exact hlen) rfl l (h2 cls d H' hE), by simp [L2.start]; omega, h0 f, hc, h1⟩
end
end DL
end

section
set_option Elab.async false
set_option linter.all false
set_option maxRecDepth 100000
set_option maxHeartbeats 4000000
/-! LM2: _law_met(lambda: ..) by data. -/
namespace PySem.SXI
theorem two_size (u v : L2.V) : [u, v].length ≤ sizeLine := by
  rw [sizeLine_eq]
  exact (by decide : 2 ≤ 16777216)
end PySem.SXI
namespace DL
open PySem PySem.Spec PyProof.Rows L2
theorem Ok.extN {T : List (Addr × Str)} {st : Option Addr} {F0 H0 F H H1 : Hp} {n : Nat} (a : Ok T st F0 H0 F H n) (e : LamX.ExtN H H1) (t : LamX.Tabs T H1) : Ok T st F0 H0 F H1 n where
  sub := fun x u h => e x u (a.sub x u h) (fun ps q => a.nt x ps (by rw [h, q]))
  nt := a.nt
  f0 := a.f0
  new := a.new
  keep := fun x o h h1 h2 => e x o (a.keep x o h h1 h2) h2
  strm := fun sp h => by
    obtain ⟨h1, z0, z1, z2, h2, h3⟩ := a.strm sp h
    exact ⟨h1, z0, z1, z2, e _ _ h2 (fun ps q => by cases q), h3⟩
  tabs := t
theorem Rel.extN {K : PySem.W.Frag} {T : List (Addr × Str)} {st : Option Addr} {F0 H0 F H H1 : Hp} {σ : Sg} {z : Z} (r : Rel K T st F0 H0 F H σ z) (e : LamX.ExtN H H1) (t : LamX.Tabs T H1) : Rel K T st F0 H0 F H1 σ z where
  ok := r.ok.extN e t
  len := r.len
  sh := r.sh
  ow := fun i o h => by
    obtain ⟨a, h1, ⟨u, hu, c⟩, hf, h0, hs, pn⟩ := r.ow i o h
    exact ⟨a, h1, ⟨u, e _ _ hu c.nt, c⟩, hf, h0, hs, pn⟩
  apart := r.apart
  bs := r.bs
def canL (K : PySem.W.Frag) (T : List (Addr × Str)) (me : TDE) (E : XK) : TE := fun σ H R => ∃ (st : Option Addr) (F0 H0 F : Hp) (z : Z) (Q : D → Z → Prop) (EQ : TEX), Rel K T st F0 H0 F H σ z ∧ ERel K T st F0 H0 E EQ ∧ me st z Q EQ ∧ ∀ v H' F' d z', Same F F' → Rel K T st F0 H0 F' H' σ z' → Rep K F' d v → Q d z' → R v H'
section
variable {T : List (Addr × Str)} {X : Cx} {E : XK} {e : Expr} {me : TDE}
theorem DE.canL (h : DE T X E e me) : PE X e (canL X.K T me E) := by
  obtain ⟨t, p, q⟩ := h.ex
  refine ⟨fun pins s σ H R I hh => ?_⟩
  obtain ⟨st, F0, H0, F, z, Q, EQ, r, er, hm, k⟩ := hh
  exact p.run pins s σ H R I (q st F0 H0 F H σ z Q EQ R r er hm k)
@[reducible, simp] def DV.hd : DV → DV
  | .ow _ => .un
  | .bs _ d => .sh d
  | x => x
@[reducible, simp] def Z.hd (z : Z) : Z := { z with env := z.env.map DV.hd }
/-- what _law_met(lambda: e) asks: own slots are not seen by e -/
@[reducible, simp] def mMet (l : Met) (me : TDE) : TDE := fun st z Q _ => me st z.hd (fun d z1 => Q (.tup [.v (.str "told"), d]) { z with n := z1.n }) (fun ex n => ∃ C fld word d, (C, fld, word) ∈ l ∧ ex = ⟨C, [(fld, d)]⟩ ∧ Q (.tup [.v (.str word), d]) { z with n := n })
theorem metW_of {K : PySem.W.Frag} {C : Addr} {fld word : Str} {dd : Addr} {v : V} {H : Hp} {Q : VK} : ∀ {l : Met}, (∀ r ∈ l, PySem.W.exmOne K (.ref C) (.ref r.1) = some (decide (C = r.1))) → (l.map (·.1)).Nodup → (C, fld, word) ∈ l → H dd = some (.xd [(fld, v)]) → (∀ p, H p = none → Q (.ref p) (upd H p (.tup [.str word, v]))) → MetW K (.ref C) (some dd) H Q l
  | [], _, _, h, _, _ => by cases h
  | (C', fld', word') :: l, hx, hnd, h, hd, hq => by
    refine ⟨_, hx _ (List.mem_cons_self ..), fun hb => ?_, fun hb => ?_⟩
    · have e : C = C' := of_decide_eq_true hb
      subst e
      rw [List.map_cons, List.nodup_cons] at hnd
      rcases List.mem_cons.mp h with h | h
      · cases h
        exact ⟨rfl, dd, _, v, rfl, hd, by simp [List.lookup], hq⟩
      · exact absurd (List.mem_map.mpr ⟨_, h, rfl⟩) hnd.1
    · have e : C ≠ C' := of_decide_eq_false hb
      rcases List.mem_cons.mp h with h | h
      · cases h; exact absurd rfl e
      · rw [List.map_cons, List.nodup_cons] at hnd
        exact metW_of (fun r hr => hx r (List.mem_cons_of_mem _ hr)) hnd.2 h hd hq
/-- _law_met(lambda: body) -/
theorem de_met {l : Met} {x a : Str} {g c Pt : Addr} {k : Nat} {pg : Arguments} {bg : List Stmt} {sg : Scope} {dV kV doc pm cdv ct oc : Value} {an od : Option Addr} {osl : Array (Option Value)} {Ng : List Str}
    {params : Arguments} {body : Expr} {scope : Scope} {p lpos pos : Pos} (hg : Gl X x) (hm : X.mg x = some (.ref g)) (hk : PySem.W.keepIn X.K (.ref g) = true)
    (lk : X.K.lookup g = some ⟨oc, od, .func (PySem.W.fnOf x x pg bg sg dV kV doc pm an cdv ct), osl⟩) (hcg : PySem.W.codeIn X.K cdv x = true) (hb : L2.Binds X.K (PySem.W.fnOf x x pg bg sg dV kV doc pm an cdv ct) [a] []) (Sg : FnScope Ng [a] sg) (hNg : Ng[0]? = some a) (hva : Vis sg a)
    (hG : LamX.GivesTo X Ng x sg g cdv bg a (X.env.qual ++ "<lambda>") (TTmet X.K l)) (hx : ∀ r ∈ l, ∀ r' ∈ l, PySem.W.exmOne X.K (.ref r.1) (.ref r'.1) = some (decide (r.1 = r'.1))) (hnd : (l.map (·.1)).Nodup)
    (TB : LamX.TabB X.base X.mg c Pt) (hcode : X.env.code = .ref c) (hmT : (Pt, X.env.qual ++ "<lambda>") ∈ T) (hu : ∀ p ∈ T, p.1 = Pt → p.2 = X.env.qual ++ "<lambda>") (hr : Room (k + 2) X.A) (L : LamX.LamS X.env.scope scope) (hdef : defaultsOf params X.env = ([], []))
    (hbind : ∀ (q : Str) (cl : List (Str × Addr)) (pm cv ctv : Value), bindArgs (PySem.W.kla_fn "<lambda>" q params body scope cl pm cv ctv) ⟨[], []⟩ = pure [])
    (hbody : ∀ (A : Around) (outer : List Env) (s : Shared) (H : Hp) (E : XK) (f c' : Addr), Room k (A.deeper (LamX.lamEnv X scope s.heap.objs.size f c')) → DE T (LamX.lamCx X A outer s H E scope f c') E body me)
    (hdb : (x == ("__debug__" : Str)) = false := by decide) (hd : (a == ("__debug__" : Str)) = false := by decide) (hcd : (a == ("__classdict__" : Str)) = false := by decide) :
    DE T X E (.Call (.Name x p) [.Lambda params body scope lpos] [] pos) (mMet l me) := by
  refine ⟨⟨_, LamX.pe_lamcall (t := canL X.K T me) hg hm hk lk hcg hb Sg hNg hva hG TB hcode hmT hu hr L hdef hbind (fun A outer s H E f c' hr' => (hbody A outer s H E f c' hr').canL) hdb hd hcd, fun st F0 H0 F H σ z Q EQ R r er h k => ?_⟩⟩
  refine ⟨r.ok.tabs, fun H1 eN t1 => ?_⟩
  have r1 := r.extN eN t1
  have rh : Rel X.K T st F H1 F H1 σ z.hd := by
    refine ⟨r1.ok.refl', by simpa using r1.len, fun i d hi => ?_, fun i o hi => ?_, fun i j o o' b hij hi => ?_, fun i kk d hi => ?_⟩
    · have hi : (z.env.map DV.hd)[i]? = some (.sh d) := hi
      rw [List.getElem?_map] at hi
      cases q : z.env[i]? with
      | none => rw [q] at hi; cases hi
      | some y =>
        rw [q] at hi
        cases y with
        | sh d' => cases hi; exact r1.sh i _ q
        | bs kk d' =>
          cases hi
          obtain ⟨v, h1, h2⟩ := r1.bs i _ _ q
          exact ⟨v, h1, h2.rep r1.ok.f0⟩
        | un => cases hi
        | ow o => cases hi
    · have hi : (z.env.map DV.hd)[i]? = some (.ow o) := hi
      rw [List.getElem?_map] at hi
      cases q : z.env[i]? with
      | none => rw [q] at hi; cases hi
      | some y => rw [q] at hi; cases y <;> cases hi
    · have hi : (z.env.map DV.hd)[i]? = some (.ow o) := hi
      rw [List.getElem?_map] at hi
      cases q : z.env[i]? with
      | none => rw [q] at hi; cases hi
      | some y => rw [q] at hi; cases y <;> cases hi
    · have hi : (z.env.map DV.hd)[i]? = some (.bs kk d) := hi
      rw [List.getElem?_map] at hi
      cases q : z.env[i]? with
      | none => rw [q] at hi; cases hi
      | some y => rw [q] at hi; cases y <;> cases hi
  have told : ∀ (word : Str) (F' H' : Hp) (n : Nat) (d : D) (v : V), Ok T st F H1 F' H' n → Rep X.K F' d v → Q (.tup [.v (.str word), d]) { z with n := n } → ∀ p, H' p = none → R (.ref p) (upd H' p (.tup [.str word, v])) := fun word F' H' n d v ok rp hq p hp => by
    obtain ⟨r2, s2⟩ := (r1.after ok).laidF (u := .tup [.str word, v]) hp (fun ps q => by cases q)
    exact k _ _ _ _ _ (ok.f0.trans s2) r2 (.tup (SqT.of upd_same) (.cons (.v _) (.cons (rp.mono s2) .nil))) hq
  refine ⟨fun cls dd H' => ∃ (C : Addr) (fld word : Str) (d : D) (n : Nat) (F' : Hp) (x : Addr) (v : V), cls = .ref C ∧ dd = some x ∧ (C, fld, word) ∈ l ∧ Ok T st F H1 F' H' n ∧ H' x = some (.xd [(fld, v)]) ∧ Rep X.K F' d v ∧ Q (.tup [.v (.str word), d]) { z with n := n },
    ⟨st, F, H1, F, z.hd, _, _, rh, ?_, h, ?_⟩, ?_⟩
  · intro ex n F' H' x es ok h1 h2 h3 h4 h5
    obtain ⟨C, fld, word, d, hm, rfl, hq⟩ := h5
    cases es with
    | nil => simp at h3
    | cons e1 es =>
      cases es with
      | cons _ _ => simp at h3
      | nil =>
        obtain ⟨f1, v⟩ := e1
        simp at h3
        subst h3
        cases h4 with
        | cons rp _ => exact ⟨C, _, word, d, n, F', x, v, rfl, rfl, hm, ok, h1, rp, hq⟩
  · intro v H' F' d z' s1 r' rp hq
    exact ⟨PySem.SXI.two_size _ _, told "told" F' H' z'.n d v r'.ok rp hq⟩
  · rintro cls dd H' ⟨C, fld, word, d, n, F', x, v, rfl, rfl, hm, ok, hx2, rp, hq⟩
    exact metW_of (fun r hr => hx _ hm r hr) hnd hm hx2 (told word F' H' n d v ok rp hq)
end
end DL
end

section
set_option Elab.async false
set_option linter.all false
set_option maxRecDepth 100000
set_option maxHeartbeats 4000000
/-! DL11: the stream that draws are made from, read and written. -/
namespace DL
open PySem PySem.Spec PyProof.Rows L2
def StrmV (j : Nat) (n : Nat) (v : Int) : Prop := match j with
  | 0 => Builtin.Int.intBits v ≤ 1048576
  | 1 => 0 ≤ v ∧ v ≤ 1099511627776
  | _ => 0 ≤ v ∧ v ≤ (n : Int)
section
variable {K : PySem.W.Frag} {T : List (Addr × Str)} {st : Option Addr} {F0 H0 F H : Hp} {σ : Sg} {z : Z} {sp : Addr}
theorem Rel.strmPut (r : Rel K T st F0 H0 F H σ z) (hs : st = some sp) {z0 z1 z2 : Int} {n' : Nat} (h0 : Builtin.Int.intBits z0 ≤ 1048576) (h1 : 0 ≤ z1 ∧ z1 ≤ 1099511627776) (h2 : 0 ≤ z2 ∧ z2 ≤ (n' : Int)) : Rel K T st F0 H0 F (upd H sp (.lst [.int z0, .int z1, .int z2])) σ { z with n := n' } := by
  obtain ⟨hf, w0, w1, w2, hc, _⟩ := r.ok.strm sp hs
  refine ⟨⟨fun x u h => ?_, r.ok.nt, r.ok.f0, r.ok.new, fun x o h h3 h4 => ?_, fun sp' h => ?_, fun q hq => ?_⟩, r.len, r.sh, fun i o h => ?_, r.apart, r.bs⟩
  · rw [upd_ne (ne_of_none h hf)]
    exact r.ok.sub x u h
  · have ne : x ≠ sp := fun e => h3 (by rw [hs, e])
    rw [upd_ne ne]
    exact r.ok.keep x o h h3 h4
  · rw [hs] at h
    cases h
    exact ⟨hf, z0, z1, z2, upd_same, h0, h1.1, h1.2, h2.1, h2.2⟩
  · obtain ⟨ps, g1, g2, g3⟩ := r.ok.tabs q hq
    have n1 : q.1 ≠ sp := fun e => by rw [e, hc] at g1; cases g1
    refine ⟨ps, by rw [upd_ne n1]; exact g1, g2, fun pos cv hcv => ?_⟩
    obtain ⟨c, e1, e2⟩ := g3 pos cv hcv
    have nc : c ≠ sp := fun e => by
      rw [e, hc] at e2
      unfold LamX.CodeO at e2
      cases e2
    exact ⟨c, e1, by rw [upd_ne nc]; exact e2⟩
  · obtain ⟨a, g1, w⟩ := r.ow i o h
    have ne : a ≠ sp := fun e => w.st (by rw [hs, e])
    exact ⟨a, g1, w.mono (Same.refl F) w.f (upd_ne ne)⟩
end
section
variable {T : List (Addr × Str)} {X : Cx} {E : XK} {e : Expr} {me : TDE} {pos p p2 p3 : Pos}
@[reducible, simp] def mStrm (i j : Nat) : TDE := fun st z Q _ => ∃ sp, st = some sp ∧ z.env[i]? = some (.sh (.v (.ref sp))) ∧ ∀ v, StrmV j z.n v → Q (.v (.int v)) z
theorem de_strm (i j : Nat) {y : Str} {jj : Nat} {kk : Int} (hj : j < 3 := by decide) (hkk : kk = (j : Int) := by rfl) (hN : X.N[i]? = some y := by rfl) (hv : Vis X.env.scope y := by first | exact Or.inl rfl | exact Or.inr (Or.inl rfl) | exact Or.inr (Or.inr rfl)) (hd : (y == ("__debug__" : Str)) = false := by decide) (hcd : (y == ("__classdict__" : Str)) = false := by decide)
    (hs : PlainIx (.Constant (.int kk) jj p2) := by exact fun _ _ => rfl) : DE T X E (.Subscript (.Name y p) (.Constant (.int kk) jj p2) pos) (mStrm i j) := by
  refine ⟨⟨_, pe_ix ix_list (pe_var hN hv hd hcd) pe_int hs, fun st F0 H0 F H σ z Q EQ R r er h k => ?_⟩⟩
  obtain ⟨sp, e1, e2, h2⟩ := h
  obtain ⟨v, hv1, hv2⟩ := r.sh i _ e2
  cases hv2
  obtain ⟨hf, z0, z1, z2, hc, g0, g1, g2, g3, g4⟩ := r.ok.strm sp e1
  subst hkk
  refine ⟨_, hv1, sp, _, _, _, rfl, rfl, SqL.of hc, ?_, k _ H F _ z (Same.refl F) r (.v _) (h2 (match j with | 0 => z0 | 1 => z1 | _ => z2) ?_)⟩
  · rcases j with _ | _ | _ | j
    · rfl
    · rfl
    · rfl
    · omega
  · rcases j with _ | _ | _ | j
    · exact g0
    · exact ⟨g1, g2⟩
    · exact ⟨g3, g4⟩
    · omega
@[reducible, simp] def sStrm0 (i : Nat) (me : TDE) : TDS := fun st D z EQ => me st z (fun d z1 => ∃ (sp : Addr) (v : Int) (n' : Nat), st = some sp ∧ z1.env[i]? = some (.sh (.v (.ref sp))) ∧ d = .v (.int v) ∧ Builtin.Int.intBits v ≤ 1048576 ∧ z1.n ≤ n' ∧ D.nx { z1 with n := n' }) EQ
@[reducible, simp] def sStrm2 (i : Nat) (me : TDE) : TDS := fun st D z EQ => me st z (fun d z1 => ∃ (sp : Addr) (v : Int) (n' : Nat), st = some sp ∧ z1.env[i]? = some (.sh (.v (.ref sp))) ∧ d = .v (.int v) ∧ 0 ≤ v ∧ v ≤ (n' : Int) ∧ D.nx { z1 with n := n' }) EQ
theorem ds_strm0 (i : Nat) {y : Str} {jj : Nat} (he : DE T X E e me) (hN : X.N[i]? = some y := by rfl) (hv : Vis X.env.scope y := by first | exact Or.inl rfl | exact Or.inr (Or.inl rfl) | exact Or.inr (Or.inr rfl)) (hd : (y == ("__debug__" : Str)) = false := by decide) (hcd : (y == ("__classdict__" : Str)) = false := by decide)
    (hp : ∀ {te : TE}, PE X e te → PS X (.Assign [.Subscript (.Name y p) (.Constant (.int 0) jj p2) p3] e pos) (tAsg te (gSub (tVar i) (tC (.int 0)) rSetL)) := by intro _ h; exact ps_asg h (pg_sub (pv _) pe_int set_list)) :
    DS T X E (.Assign [.Subscript (.Name y p) (.Constant (.int 0) jj p2) p3] e pos) (sStrm0 i me) := by
  obtain ⟨t, pt, q⟩ := he.ex
  refine ⟨⟨_, hp pt, fun st F0 H0 F H σ z D EQ D' r er h k => ?_⟩⟩
  refine q st F0 H0 F H σ z _ EQ _ r er h fun v H1 F1 d z1 s1 r1 p1 h1 => ?_
  obtain ⟨sp, x, n', e1, e2, rfl, hb, hle, h2⟩ := h1
  cases p1
  obtain ⟨v, hv1, hv2⟩ := r1.sh i _ e2
  cases hv2
  obtain ⟨hf, z0, z1', z2, hc, g0, g1, g2, g3, g4⟩ := r1.ok.strm sp e1
  refine ⟨_, hv1, ?_⟩
  exact ⟨sp, _, 0, 0, rfl, rfl, hc, by rfl, k.nx _ _ F1 _ s1 (r1.strmPut e1 hb ⟨g1, g2⟩ ⟨g3, by omega⟩) h2⟩
theorem ds_strm2 (i : Nat) {y : Str} {jj : Nat} (he : DE T X E e me) (hN : X.N[i]? = some y := by rfl) (hv : Vis X.env.scope y := by first | exact Or.inl rfl | exact Or.inr (Or.inl rfl) | exact Or.inr (Or.inr rfl)) (hd : (y == ("__debug__" : Str)) = false := by decide) (hcd : (y == ("__classdict__" : Str)) = false := by decide)
    (hp : ∀ {te : TE}, PE X e te → PS X (.Assign [.Subscript (.Name y p) (.Constant (.int 2) jj p2) p3] e pos) (tAsg te (gSub (tVar i) (tC (.int 2)) rSetL)) := by intro _ h; exact ps_asg h (pg_sub (pv _) pe_int set_list)) :
    DS T X E (.Assign [.Subscript (.Name y p) (.Constant (.int 2) jj p2) p3] e pos) (sStrm2 i me) := by
  obtain ⟨t, pt, q⟩ := he.ex
  refine ⟨⟨_, hp pt, fun st F0 H0 F H σ z D EQ D' r er h k => ?_⟩⟩
  refine q st F0 H0 F H σ z _ EQ _ r er h fun v H1 F1 d z1 s1 r1 p1 h1 => ?_
  obtain ⟨sp, x, n', e1, e2, rfl, hb, hb2, h2⟩ := h1
  cases p1
  obtain ⟨v, hv1, hv2⟩ := r1.sh i _ e2
  cases hv2
  obtain ⟨hf, z0, z1', z2, hc, g0, g1, g2, g3, g4⟩ := r1.ok.strm sp e1
  refine ⟨_, hv1, ?_⟩
  exact ⟨sp, _, 2, 2, rfl, rfl, hc, by rfl, k.nx _ _ F1 _ s1 (r1.strmPut e1 g0 ⟨g1, g2⟩ ⟨hb, hb2⟩) h2⟩
end
end DL
end

section
set_option Elab.async false
set_option linter.all false
set_option maxRecDepth 100000
set_option maxHeartbeats 4000000
/-! DL12: own lists looked at and kept own: len(x), f(s, x) that tells one of x's items. -/
namespace DL
open PySem PySem.Spec PyProof.Rows L2
section
variable {T : List (Addr × Str)} {X : Cx} {E : XK} {e : Expr} {me : TDE} {pos p p2 p3 : Pos} {k j : Nat} {x y : Str} {ps : List Str} {sp : DSpec}
@[reducible, simp] def mLenO (i : Nat) : TDE := fun _ z Q _ => ∃ ds, z.env[i]? = some (.ow (.lst ds)) ∧ ds.length ≤ 1000000 ∧ Q (.v (.int ds.length)) z
theorem de_lenO (i : Nat) (hg : Gl X "len") (hm : X.mg "len" = none) (hN : X.N[i]? = some y := by rfl) (hv : Vis X.env.scope y := by first | exact Or.inl rfl | exact Or.inr (Or.inl rfl) | exact Or.inr (Or.inr rfl)) (hd : (y == ("__debug__" : Str)) = false := by decide) (hcd : (y == ("__classdict__" : Str)) = false := by decide)
    (hs : starEach [.Name y p2] X.env = (false, eval (.Name y p2) X.env) :: starEach [] X.env := by rfl) (hpl : (backTo pos (starEach [] X.env)).any (·.1) = false := by rfl) (hb : bootBuiltins "len" = some (.builtin "len") := by rfl)
    (hpa : ∀ {t : TE}, PE X (.Name y p2) t → PA X [.Name y p2] (tCons t tNil) := by intro _ h; exact pa_cons h pa_nil) : DE T X E (.Call (.Name "len" p) [.Name y p2] [] pos) (mLenO i) := by
  refine ⟨⟨_, pe_callB call_lenAll hg hm hb (hpa (pe_var hN hv hd hcd)) (by decide) (by decide) hs hpl, fun st F0 H0 F H σ z Q EQ R r er h k => ?_⟩⟩
  obtain ⟨ds, hz, hl, h2⟩ := h
  obtain ⟨a, xs, e1, hu, rr⟩ := ow_lst r hz
  exact ⟨_, e1, .inl ⟨_, ds.length, rfl, .inl ⟨_, SqL.of hu, rr.length⟩, k _ H F _ z (Same.refl F) r (.v _) h2⟩⟩
/-- f(e, x), x own: what it tells is one of x's items -/
@[reducible, simp] def mItemO (i : Nat) (sp : DSpec) (me : TDE) : TDE := fun st z Q EQ => me st z (fun d z1 => ∃ ds, z1.env[i]? = some (.ow (.lst ds)) ∧ ∀ vs : List V, vs.length = ds.length → sp st z1.n [d, .lst (vs.map D.v)] (fun r n' => ∃ (j : Nat) (v : V) (d' : D), r.d = .v v ∧ vs[j]? = some v ∧ ds[j]? = some d' ∧ Q d' { z1 with n := n' }) (fun _ _ => False)) EQ
theorem Rel.frz1 {K : PySem.W.Frag} {st : Option Addr} {F0 H0 F H : Hp} {σ : Sg} {z : Z} {i : Nat} {ds : List D} (r : Rel K T st F0 H0 F H σ z) (hz : z.env[i]? = some (.ow (.lst ds))) : ∃ (a : Addr) (xs : List V), σ[i]? = some (some (.ref a)) ∧ Reps K F ds xs ∧ H a = some (.lst xs) ∧ Ok T st (upd F a (.lst xs)) H (upd F a (.lst xs)) H z.n ∧ F a = none ∧ st ≠ some a := by
  obtain ⟨a, e1, ⟨u, hu, c⟩, hf, h0, hs, pn⟩ := r.ow i _ hz
  cases c with
  | @lst _ xs rr =>
    refine ⟨a, xs, e1, rr, hu, ⟨fun b o hb => ?_, fun b ps hb => ?_, fun _ _ h => h, fun _ _ h => .inl h, fun _ _ h _ _ => h, fun s h => ?_, r.ok.tabs⟩, hf, hs⟩
    · by_cases e : b = a
      · subst e
        rw [upd_same] at hb
        rw [hu]; exact hb
      · rw [upd_ne e] at hb
        exact r.ok.sub b o hb
    · by_cases e : b = a
      · subst e
        rw [upd_same] at hb
        cases hb
      · rw [upd_ne e] at hb
        exact r.ok.nt b ps hb
    · obtain ⟨h1, h2⟩ := r.ok.strm s h
      have ne : s ≠ a := fun e => hs (by rw [← e]; exact h)
      exact ⟨by rw [upd_ne ne]; exact h1, h2⟩
theorem de_itemO (i : Nat) (c : Fn X.prog X.w X.K T X.mg X.base k x ps sp) (hr : Room j X.A) (hk : k ≤ j) (hg : Gl X x) (hx : Passes (L2.CX X.prog X.w) X E0) (he : DE T X E e me) (hN : X.N[i]? = some y := by rfl) (hv : Vis X.env.scope y := by first | exact Or.inl rfl | exact Or.inr (Or.inl rfl) | exact Or.inr (Or.inr rfl)) (hd : (y == ("__debug__" : Str)) = false := by decide) (hcd : (y == ("__classdict__" : Str)) = false := by decide) (hdb : (x == ("__debug__" : Str)) = false := by decide)
    (hst : starEach (e :: [.Name y p2]) X.env = (false, eval e X.env) :: starEach [.Name y p2] X.env := by rfl) (hpl : (backTo pos (starEach [.Name y p2] X.env)).any (·.1) = false := by rfl)
    (hpa : ∀ {ta tb : TE}, PE X e ta → PE X (.Name y p2) tb → PA X [e, .Name y p2] (tCons ta (tCons tb tNil)) := by intro _ _ h h2; exact pa_cons h (pa_cons h2 pa_nil)) : DE T X E (.Call (.Name x p) [e, .Name y p2] [] pos) (mItemO i sp me) := by
  obtain ⟨f, fd, Fk, hm, hkp, hb, _⟩ := c.ex
  obtain ⟨ta, pa, qa⟩ := he.ex
  refine ⟨⟨_, pe_call Fk (hr.mono hk) hg hm hkp hb .nil hx (hpa pa (pe_var hN hv hd hcd)) hdb hst hpl, fun st F0 H0 F H σ z Q EQ R r er h k => ?_⟩⟩
  refine qa st F0 H0 F H σ z _ EQ _ r er h fun v H1 F1 d z1 s1 r1 p1 h1 => ?_
  obtain ⟨ds, hz, h2⟩ := h1
  obtain ⟨a, xs, e1, rr, hu, ok, fa, sa⟩ := r1.frz1 hz
  have ss : Same F1 (upd F1 a (.lst xs)) := fun b o hb => by rw [upd_ne (ne_of_none hb fa)]; exact hb
  refine ⟨_, e1, ?_⟩
  refine ⟨upd F1 a (.lst xs), st, z1.n, [d, .lst (xs.map D.v)], _, _, ok, .cons (p1.mono ss) (.cons (.lst upd_same (Reps.ofV xs)) .nil), h2 xs (rr.length).symm, fun w H2 F2 res n' ok2 q hres => ?_, fun ex n F' H' d es _ _ _ _ _ z => z.elim⟩
  obtain ⟨jj, v', d', e2, e3, e4, h3⟩ := hres
  obtain ⟨v2, e5, rp⟩ := rr.get e4
  rw [e3] at e5
  cases e5
  have ew : w = v' := by
    cases q with
    | sh rq =>
      have e2' := e2
      simp only [Res.d] at e2'
      subst e2'
      cases rq
      rfl
    | fr rq =>
      have e2' := e2
      simp only [Res.d] at e2'
      subst e2'
      cases rq
      rfl
    | nw wq =>
      have e2' := e2
      simp only [Res.d] at e2'
      subst e2'
      obtain ⟨u, _, cu⟩ := wq.ho
      cases cu
  subst ew
  have ok3 : Ok T st F1 H1 F1 H2 n' := ⟨fun b o hb => ok2.sub b o (ok2.f0 b o (ss b o hb)), r1.ok.nt, fun _ _ h => h, fun _ _ h => .inl h, ok2.keep, fun s hs => ⟨(r1.ok.strm s hs).1, (ok2.strm s hs).2⟩, ok2.tabs⟩
  exact k w H2 F1 d' _ s1 (r1.after ok3) rp h3
end
end DL
end

section
set_option Elab.async false
set_option linter.all false
set_option maxRecDepth 100000
set_option maxHeartbeats 4000000
/-! M3: permuted lists, cut lists, names. -/
namespace DL
open PySem PySem.Spec PyProof.Rows L2
theorem perm_map_inv {α β : Type} {f : α → β} (g : β → α) (hg : ∀ a, g (f a) = a) {l : List α} {ys : List β} (h : ys.Perm (l.map f)) : ∃ l' : List α, l'.Perm l ∧ ys = l'.map f := by
  refine ⟨ys.map g, ?_, ?_⟩
  · have := h.map g
    rw [List.map_map] at this
    have e : g ∘ f = id := funext hg
    rwa [e, List.map_id] at this
  · rw [List.map_map]
    have : ∀ y ∈ ys, (f ∘ g) y = y := fun y hy => by
      obtain ⟨a, _, rfl⟩ := List.mem_map.mp (h.mem_iff.mp hy)
      simp [hg]
    have e : ys.map (f ∘ g) = ys.map id := List.map_congr_left this
    rw [e, List.map_id]
def unStr : D → Str
  | .v (.str s) => s
  | _ => ⟨#[]⟩
theorem perm_strs {l : List Str} {ys : List D} (h : ys.Perm (l.map strD)) : ∃ l' : List Str, l'.Perm l ∧ ys = l'.map strD := perm_map_inv unStr (fun _ => rfl) h
theorem cut_to {ds : List D} {i : Int} (h : 0 ≤ i) : cutD ds none (some i) = ds.take i.toNat := by
  unfold cutD
  show (ds.drop 0).take ((if i < 0 then _ else min i.toNat ds.length) - 0) = _
  rw [if_neg (by omega), List.drop_zero, Nat.sub_zero]
  rcases Nat.le_total i.toNat ds.length with e | e
  · rw [Nat.min_eq_left e]
  · rw [Nat.min_eq_right e, List.take_of_length_le e, List.take_of_length_le (Nat.le_refl _)]
def goodB (s : Str) : Bool := decide (0 < s.length) && decide (s.length < 9) && (match atI s.cps.toList 0 with | some c => decide (c ∈ ("abcdefghijklmnopqrstuvwxyz" : Str).cps.toList) | none => false) && s.cps.toList.all fun c => decide (c ∈ ("abcdefghijklmnopqrstuvwxyz0123456789" : Str).cps.toList)
theorem goodB_ok {s : Str} (h : goodB s = true) : goodName s := by
  unfold goodB at h
  simp only [Bool.and_eq_true, decide_eq_true_eq, List.all_eq_true] at h
  obtain ⟨⟨⟨h1, h2⟩, h3⟩, h4⟩ := h
  refine ⟨h1, h2, ?_, h4⟩
  cases e : atI s.cps.toList 0 with
  | none => rw [e] at h3; cases h3
  | some c => rw [e] at h3; exact ⟨c, rfl, of_decide_eq_true h3⟩
def names16 : List Str := ["a", "b", "x", "y1", "lamp", "eightsgn", "eightsga", "we", "wish", "guard", "q0", "they", "ab", "z", "m", "on"]
theorem names16_good : ∀ x ∈ names16, goodName x := fun x hx => goodB_ok (by
  have : names16.all goodB = true := by decide +kernel
  exact List.all_eq_true.mp this x hx)
theorem names16_nd : names16.Nodup := by decide +kernel
end DL
end

section
set_option Elab.async false
set_option linter.all false
set_option maxRecDepth 100000
set_option maxHeartbeats 4000000
/-! M4: rising places tell a sublist. -/
namespace DL
open PySem PySem.Spec PyProof.Rows L2
theorem rising_range : ∀ (k a : Nat) (l : List Nat), l.Pairwise (· < ·) → (∀ x ∈ l, a ≤ x ∧ x < a + k) → l.Sublist (List.range' a k)
  | 0, a, [], _, _ => by simp
  | 0, a, x :: t, _, h => by have := h x (List.mem_cons_self ..); omega
  | k + 1, a, [], _, _ => by simp
  | k + 1, a, x :: t, hp, h => by
    rw [List.range'_succ]
    rw [List.pairwise_cons] at hp
    have hx := h x (List.mem_cons_self ..)
    by_cases e : x = a
    · subst e
      refine List.Sublist.cons₂ _ (rising_range k (x + 1) t hp.2 fun y hy => ?_)
      have h1 := hp.1 y hy
      have h2 := h y (List.mem_cons_of_mem _ hy)
      omega
    · refine List.Sublist.cons _ (rising_range k (a + 1) (x :: t) (List.pairwise_cons.mpr hp) fun y hy => ?_)
      rcases List.mem_cons.mp hy with rfl | hy
      · omega
      · have h1 := hp.1 y hy
        have h2 := h y (List.mem_cons_of_mem _ hy)
        omega
theorem rising_sub {α : Type} (d : α) (names : List α) (l : List Nat) (hp : l.Pairwise (· < ·)) (h : ∀ x ∈ l, x < names.length) : (l.map fun i => names.getD i d).Sublist names := by
  have h1 := (rising_range names.length 0 l hp fun x hx => ⟨Nat.zero_le _, by have := h x hx; omega⟩).map fun i => names.getD i d
  have e : (List.range' 0 names.length).map (fun i => names.getD i d) = names := by
    apply List.ext_getElem
    · simp
    · intro i h2 h3
      simp at h2 ⊢
      rw [List.getElem?_eq_getElem h2]
      rfl
  rwa [e] at h1
/-- sorted places of a list's permuted first ones -/
theorem sorted_places {m k : Nat} {ys : List Int} {ns : List Int} (hy : ys.Perm ((List.range m).map fun i : Nat => (i : Int))) (hn : ns.Perm (ys.take k)) (hs : ns.Pairwise (· ≤ ·)) : ∃ l : List Nat, ns = l.map (fun i : Nat => (i : Int)) ∧ l.Pairwise (· < ·) ∧ ∀ x ∈ l, x < m := by
  have nd : ns.Nodup := by
    rw [hn.nodup_iff]
    refine (List.take_sublist _ _).nodup ?_
    rw [hy.nodup_iff]
    exact nodup_map (fun a b e => by omega) List.nodup_range
  have mem : ∀ x ∈ ns, ∃ i : Nat, x = i ∧ i < m := fun x hx => by
    have := hy.mem_iff.mp (List.mem_of_mem_take (hn.mem_iff.mp hx))
    obtain ⟨i, hi, rfl⟩ := List.mem_map.mp this
    exact ⟨i, rfl, List.mem_range.mp hi⟩
  refine ⟨ns.map Int.toNat, ?_, ?_, ?_⟩
  · rw [List.map_map]
    have : ns.map ((fun i : Nat => (i : Int)) ∘ Int.toNat) = ns.map id := List.map_congr_left fun x hx => by
      obtain ⟨i, rfl, _⟩ := mem x hx
      simp
    rw [this, List.map_id]
  · have lt : ns.Pairwise (· < ·) := by
      have := hs.and nd
      exact this.imp fun {a b} h => by omega
    rw [List.pairwise_map]
    refine List.Pairwise.imp_of_mem (fun {a b} ha hb h => ?_) lt
    obtain ⟨i, rfl, _⟩ := mem a ha
    obtain ⟨j, rfl, _⟩ := mem b hb
    simpa using h
  · intro x hx
    obtain ⟨y, hy, rfl⟩ := List.mem_map.mp hx
    obtain ⟨i, rfl, hi⟩ := mem y hy
    simpa using hi
def unInt : D → Int
  | .v (.int s) => s
  | _ => 0
theorem perm_places {k : Nat} {ys : List D} (h : ys.Perm ((List.range k).map fun i : Nat => iD (i : Int))) : ∃ l : List Int, l.Perm ((List.range k).map fun i : Nat => (i : Int)) ∧ ys = l.map fun i => iD i :=
  perm_map_inv (f := fun i => iD i) unInt (fun _ => rfl) (by rw [List.map_map]; exact h)
theorem all_ints (l : List Int) : allL iOf (l.map fun i => iD i) = some l := by
  have := allL_map (f := iOf) (h := fun i => iD i) (g := id) (fun _ => rfl) l
  rwa [List.map_id] at this
theorem atI_nat {α β : Type} (f : α → β) (d : α) (l : List α) {i : Nat} (h : i < l.length) : atI (l.map f) i = some (f (l.getD i d)) := by
  simp [atI, ixN, h]
end DL
end

section
set_option Elab.async false
set_option linter.all false
set_option maxRecDepth 100000
set_option maxHeartbeats 4000000
/-! M5: a clause's literals in another order, put back in the names' order. -/
namespace DL
open PySem PySem.Spec PyProof.Rows L2
theorem lookup_none {c : Cl} {m : Str} : c.lookup m = none ↔ m ∉ c.map (·.1) := by
  induction c with
  | nil => simp
  | cons p c ih =>
    obtain ⟨x, b⟩ := p
    by_cases e : m = x
    · subst e
      simp [List.lookup]
    · have h : (m == x) = false := by simpa using e
      simp only [List.lookup, h, ih, List.map_cons, List.mem_cons, e, false_or]
theorem lookup_mem_iff {c : Cl} (hn : (c.map (·.1)).Nodup) {m : Str} {b : Bool} : c.lookup m = some b ↔ (m, b) ∈ c := by
  induction c with
  | nil => simp
  | cons p c ih =>
    obtain ⟨x, d⟩ := p
    rw [List.map_cons, List.nodup_cons] at hn
    by_cases e : m = x
    · subst e
      simp only [List.lookup, beq_self_eq_true, Option.some.injEq, List.mem_cons, Prod.mk.injEq, true_and]
      constructor
      · rintro rfl; exact .inl rfl
      · rintro (h | h)
        · exact h.symm
        · exact absurd (List.mem_map.mpr ⟨_, h, rfl⟩) hn.1
    · have h : (m == x) = false := by simpa using e
      simp only [List.lookup, h, ih hn.2, List.mem_cons, Prod.mk.injEq, e, false_and, false_or]
theorem lookup_perm {c c' : Cl} (h : c'.Perm c) (hn : (c.map (·.1)).Nodup) (m : Str) : c'.lookup m = c.lookup m := by
  have hn' : (c'.map (·.1)).Nodup := (h.map _).nodup_iff.mpr hn
  cases q : c.lookup m with
  | none =>
    rw [lookup_none] at q ⊢
    exact fun z => q ((h.map _).mem_iff.mp z)
  | some b => exact (lookup_mem_iff hn').mpr (h.mem_iff.mpr ((lookup_mem_iff hn).mp q))
theorem fmap_congr {α β : Type} {f g : α → Option β} : ∀ {l : List α}, (∀ x ∈ l, f x = g x) → l.filterMap f = l.filterMap g
  | [], _ => rfl
  | a :: l, h => by
    rw [List.filterMap_cons, List.filterMap_cons, h a (List.mem_cons_self ..), fmap_congr fun x hx => h x (List.mem_cons_of_mem _ hx)]
theorem ordered_self : ∀ {names : List Str} {c : Cl}, names.Nodup → (c.map (·.1)).Sublist names → ordered names c = c
  | [], c, _, h => by
    have : c = [] := by simpa using List.sublist_nil.mp h
    subst this
    rfl
  | n :: names, c, hn, h => by
    rw [List.nodup_cons] at hn
    by_cases hm : n ∈ c.map (·.1)
    · cases c with
      | nil => simp at hm
      | cons p c =>
        obtain ⟨x, b⟩ := p
        have e : x = n := by
          rw [List.map_cons] at h
          cases h with
          | cons _ h => exact absurd (h.subset hm) hn.1
          | cons_cons _ h => rfl
        subst e
        have h2 : (c.map (·.1)).Sublist names := by
          rw [List.map_cons] at h
          cases h with
          | cons _ h => exact (List.sublist_cons_self _ _).trans h
          | cons_cons _ h => exact h
        have ih := ordered_self hn.2 h2
        have key : ordered names ((x, b) :: c) = ordered names c := by
          unfold ordered
          refine fmap_congr fun m hm => ?_
          have hne : (m == x) = false := by simpa using fun q : m = x => hn.1 (q ▸ hm)
          simp only [List.lookup, hne]
        show ordered (x :: names) ((x, b) :: c) = _
        rw [show ordered (x :: names) ((x, b) :: c) = (x, b) :: ordered names ((x, b) :: c) from by simp [ordered, List.filterMap_cons, List.lookup], key, ih]
    · have h2 : (c.map (·.1)).Sublist names := by
        rcases List.sublist_cons_iff.mp h with h | ⟨r, e, h⟩
        · exact h
        · exact absurd (by rw [e]; exact List.mem_cons_self ..) hm
      have e : c.lookup n = none := lookup_none.mpr hm
      rw [show ordered (n :: names) c = ordered names c from by simp [ordered, List.filterMap_cons, e]]
      exact ordered_self hn.2 h2
theorem ordered_perm {names : List Str} {c c' : Cl} (hn : names.Nodup) (h : (c.map (·.1)).Sublist names) (p : c'.Perm c) : ordered names c' = c := by
  rw [← ordered_self hn h]
  conv => rhs; rw [ordered_self hn h]
  rw [show ordered names c' = ordered names c from ?_]
  · exact ordered_self hn h
  · unfold ordered
    refine fmap_congr fun m _ => ?_
    rw [lookup_perm p (h.nodup hn)]
end DL
end

section
set_option Elab.async false
set_option linter.all false
set_option maxRecDepth 100000
set_option maxHeartbeats 4000000
/-! M6: what is certain at a position stays so whatever is set behind it. -/
namespace DL
open PySem PySem.Spec PyProof.Rows L2
theorem lookup_app {α : Type} : ∀ (names : List Str) (ts r : List α) (m : Str) (b : α), (names.zip ts).lookup m = some b → (names.zip (ts ++ r)).lookup m = some b
  | [], ts, r, m, b, h => by simp at h
  | n :: names, [], r, m, b, h => by simp at h
  | n :: names, t :: ts, r, m, b, h => by
    simp only [List.zip_cons_cons, List.cons_append, List.lookup] at h ⊢
    cases e : m == n with
    | true => rw [e] at h; exact h
    | false => rw [e] at h; exact lookup_app names ts r m b h
theorem lookup_all {α : Type} : ∀ (names : List Str) (ts : List α) (m : Str), ts.length = names.length → m ∈ names → ∃ b, (names.zip ts).lookup m = some b
  | [], _, m, _, h => by cases h
  | n :: names, [], m, h, _ => by simp at h
  | n :: names, t :: ts, m, h, hm => by
    simp only [List.zip_cons_cons, List.lookup]
    cases e : m == n with
    | true => exact ⟨t, rfl⟩
    | false =>
      have hne : m ≠ n := by simpa using e
      exact lookup_all names ts m (by simpa using h) ((List.mem_cons.mp hm).resolve_left hne)
theorem holds_app {q : Qn} {ts r : List Bool} {c : Cl} (h : holdsB c (q.tr ts) = true) : holdsB c (q.tr (ts ++ r)) = true := by
  unfold holdsB at h ⊢
  rw [List.any_eq_true] at h ⊢
  obtain ⟨p, hp, e⟩ := h
  exact ⟨p, hp, decide_eq_true (lookup_app _ _ _ _ _ (of_decide_eq_true e))⟩
theorem fails_app {q : Qn} {ts r : List Bool} {c : Cl} (h : failsB c (q.tr ts) = true) : failsB c (q.tr (ts ++ r)) = true := by
  unfold failsB at h ⊢
  rw [List.all_eq_true] at h ⊢
  exact fun p hp => decide_eq_true (lookup_app _ _ _ _ _ (of_decide_eq_true (h p hp)))
theorem fails_not {c : Cl} {tr : List (Str × Bool)} (h : failsB c tr = true) : holdsB c tr = false := by
  unfold failsB at h
  unfold holdsB
  rw [List.all_eq_true] at h
  rw [List.any_eq_false]
  intro p hp e
  have h1 := of_decide_eq_true (h p hp)
  have h2 := of_decide_eq_true e
  rw [h1] at h2
  have : (!p.2) = p.2 := Option.some.inj h2
  cases q : p.2 <;> rw [q] at this <;> cases this
theorem not_fails {c : Cl} {tr : List (Str × Bool)} (hall : ∀ p ∈ c, ∃ b, tr.lookup p.1 = some b) (h : holdsB c tr = false) : failsB c tr = true := by
  unfold holdsB at h
  unfold failsB
  rw [List.any_eq_false] at h
  rw [List.all_eq_true]
  intro p hp
  obtain ⟨b, hb⟩ := hall p hp
  have h1 : ¬ tr.lookup p.1 = some p.2 := fun e => h p hp (decide_eq_true e)
  refine decide_eq_true ?_
  rw [hb] at h1 ⊢
  have : b ≠ p.2 := fun e => h1 (by rw [e])
  cases b <;> cases q : p.2 <;> simp_all
theorem firstFail_none {w : Str} {tr : List (Str × Bool)} : ∀ {i : Nat} {cs : List Cl}, firstFail w tr i cs = none ↔ ∀ c ∈ cs, holdsB c tr = true
  | i, [] => by simp [firstFail]
  | i, c :: cs => by
    unfold firstFail
    cases h : holdsB c tr with
    | true => simp [h, firstFail_none (w := w) (tr := tr) (i := i + 1) (cs := cs)]
    | false => simp [h]
theorem firstFail_word {w : Str} {tr : List (Str × Bool)} : ∀ {i : Nat} {cs : List Cl} {r : Str × Nat}, firstFail w tr i cs = some r → r.1 = w
  | i, [], r, h => by cases h
  | i, c :: cs, r, h => by
    unfold firstFail at h
    cases e : holdsB c tr with
    | true => rw [e] at h; exact firstFail_word h
    | false => rw [e] at h; cases h; rfl
/-- who has won, by the clauses -/
theorem isWon_iff (q : Qn) (ts : List Bool) : isWonD (q.decid ts) = (q.guards.any (fun c => !holdsB c (q.tr ts)) || q.wishes.all (fun c => holdsB c (q.tr ts))) := by
  unfold Qn.decid
  cases hg : firstFail "guard" (q.tr ts) 0 q.guards with
  | some r =>
    have hw := firstFail_word hg
    have hn : ¬ ∀ c ∈ q.guards, holdsB c (q.tr ts) = true := fun z => by rw [firstFail_none.mpr z] at hg; cases hg
    have ha : q.guards.any (fun c => !holdsB c (q.tr ts)) = true := by
      rw [List.any_eq_true]
      exact Classical.byContradiction fun z => hn fun c hc => Classical.byContradiction fun y => z ⟨c, hc, by simpa using y⟩
    rw [ha]
    obtain ⟨w, i⟩ := r
    simp only [isWonD, Bool.true_or]
    exact decide_eq_true hw
  | none =>
    have hh := firstFail_none.mp hg
    have ha : q.guards.any (fun c => !holdsB c (q.tr ts)) = false := by
      rw [List.any_eq_false]
      intro c hc
      simp [hh c hc]
    rw [ha, Bool.false_or]
    cases hw : firstFail "wish" (q.tr ts) 0 q.wishes with
    | none =>
      have := firstFail_none.mp hw
      simp only [isWonD]
      exact (List.all_eq_true.mpr this).symm
    | some r =>
      have hr := firstFail_word hw
      have hn : ¬ ∀ c ∈ q.wishes, holdsB c (q.tr ts) = true := fun z => by rw [firstFail_none.mpr z] at hw; cases hw
      have ha : q.wishes.all (fun c => holdsB c (q.tr ts)) = false := by
        rw [List.all_eq_false]
        exact Classical.byContradiction fun z => hn fun c hc => Classical.byContradiction fun y => z ⟨c, hc, y⟩
      rw [ha]
      obtain ⟨w, i⟩ := r
      simp only [isWonD]
      simp only at hr
      subst hr
      decide
theorem sure_behind {q : Qn} {ts : List Bool} {w : Str} (h : q.sure ts = some w) (r : List Bool) : isWonD (q.decid (ts ++ r)) = decide (w = "won") ∧ (w = "won" ∨ w = "lost") := by
  unfold Qn.sure at h
  rw [isWon_iff]
  split at h
  · rename_i h1
    cases h
    refine ⟨?_, .inl rfl⟩
    rw [Bool.or_eq_true] at h1
    rcases h1 with h1 | h1
    · rw [List.any_eq_true] at h1
      obtain ⟨c, hc, e⟩ := h1
      have : q.guards.any (fun c => !holdsB c (q.tr (ts ++ r))) = true := List.any_eq_true.mpr ⟨c, hc, by rw [fails_not (fails_app e)]; rfl⟩
      rw [this, Bool.true_or]
      decide
    · rw [List.all_eq_true] at h1
      have : q.wishes.all (fun c => holdsB c (q.tr (ts ++ r))) = true := List.all_eq_true.mpr fun c hc => holds_app (h1 c hc)
      rw [this, Bool.or_true]
      decide
  · split at h
    · rename_i h1
      cases h
      refine ⟨?_, .inr rfl⟩
      rw [Bool.and_eq_true] at h1
      obtain ⟨h1, h2⟩ := h1
      rw [List.any_eq_true] at h1
      rw [List.all_eq_true] at h2
      obtain ⟨c, hc, e⟩ := h1
      have a1 : q.guards.any (fun c => !holdsB c (q.tr (ts ++ r))) = false := by
        rw [List.any_eq_false]
        intro c hc
        simp [holds_app (r := r) (h2 c hc)]
      have a2 : q.wishes.all (fun c => holdsB c (q.tr (ts ++ r))) = false := by
        rw [List.all_eq_false]
        exact ⟨c, hc, by rw [fails_not (fails_app e)]; decide⟩
      rw [a1, a2]
      decide
    · cases h
theorem sure_whole {q : Qn} (ok : q.Ok) {ts : List Bool} (hl : ts.length = q.names.length) : q.sure ts = some (if isWonD (q.decid ts) = true then "won" else "lost") := by
  have full : ∀ c, c ∈ q.wishes ∨ c ∈ q.guards → ∀ p ∈ c, ∃ b, (q.tr ts).lookup p.1 = some b := fun c hc p hp => by
    have hs : (c.map (·.1)).Sublist q.names := hc.elim (ok.ws c) (ok.gs c)
    exact lookup_all _ _ _ hl (hs.subset (List.mem_map.mpr ⟨p, hp, rfl⟩))
  have eqf : ∀ c, c ∈ q.wishes ∨ c ∈ q.guards → failsB c (q.tr ts) = !holdsB c (q.tr ts) := fun c hc => by
    cases h : holdsB c (q.tr ts) with
    | false => exact not_fails (full c hc) h
    | true =>
      cases e : failsB c (q.tr ts) with
      | false => rfl
      | true => rw [fails_not e] at h; cases h
  have any_eq : ∀ {cs : List Cl}, (∀ c ∈ cs, failsB c (q.tr ts) = !holdsB c (q.tr ts)) → cs.any (failsB · (q.tr ts)) = cs.any (fun c => !holdsB c (q.tr ts)) := fun {cs} h => by
    induction cs with
    | nil => rfl
    | cons c cs ih => rw [List.any_cons, List.any_cons, h c (List.mem_cons_self ..), ih fun c hc => h c (List.mem_cons_of_mem _ hc)]
  have any_not : ∀ {cs : List Cl}, cs.any (fun c => !holdsB c (q.tr ts)) = !cs.all (fun c => holdsB c (q.tr ts)) := fun {cs} => by
    induction cs with
    | nil => rfl
    | cons c cs ih => rw [List.any_cons, List.all_cons, ih, Bool.not_and]
  unfold Qn.sure
  rw [isWon_iff, any_eq fun c hc => eqf c (.inr hc), any_eq fun c hc => eqf c (.inl hc)]
  cases h1 : q.guards.any (fun c => !holdsB c (q.tr ts)) with
  | true => simp
  | false =>
    cases h2 : q.wishes.all (fun c => holdsB c (q.tr ts)) with
    | true => simp
    | false =>
      have h3 : q.guards.all (holdsB · (q.tr ts)) = true := by
        rw [any_not] at h1
        simpa using h1
      rw [any_not, h2, h3]
      simp
end DL
end

section
set_option Elab.async false
set_option linter.all false
set_option maxRecDepth 100000
set_option maxHeartbeats 4000000
/-! M7: what repr tells of questions' parts is short. -/
namespace DL
open PySem PySem.Spec PyProof.Rows L2
/-- can be shown; at most w signs and items -/
structure RpD (w : Nat) (d : D) : Prop where
  sh : PyData.showable (pyD d) = true
  sm : PyData.intsShort 13 (pyD d) = true
  wt : PyData.weight (pyD d) ≤ w
theorem rp_str {w : Nat} {x : Str} (h : x.cps.size ≤ w) : RpD w (strD x) := ⟨by simp [pyD, PyData.showable], by simp [pyD, PyData.intsShort], by simpa [pyD, PyData.weight] using h⟩
theorem rp_bl (w : Nat) (b : Bool) : RpD w (blD b) := ⟨by simp [pyD, PyData.showable], by simp [pyD, PyData.intsShort], by simp [pyD, PyData.weight]⟩
theorem rp_int {i : Int} (h0 : 0 ≤ i) (h : i ≤ 1000) : RpD 10 (iD i) := by
  have hl : i.natAbs.log2 < 10 := by
    by_cases e : i.natAbs = 0
    · rw [e]; decide
    · exact (Nat.log2_lt e).mpr (by omega)
  refine ⟨?_, ?_, ?_⟩
  · simp only [pyD, PyData.showable]
    exact decide_eq_true (by omega)
  · simp only [pyD, PyData.intsShort]
    have e : (10 : Nat) ^ 12 = 1000000000000 := by decide
    exact decide_eq_true (PyData.shown_int_le (by omega))
  · simp only [pyD, PyData.weight]
    split <;> omega
theorem rp_all {w : Nat} : ∀ {ds : List D}, (∀ d ∈ ds, RpD w d) → PyData.showableAll (pyDs ds) = true ∧ PyData.intsShortAll 13 (pyDs ds) = true ∧ PyData.weightAll (pyDs ds) ≤ ds.length * (w + 1)
  | [], _ => ⟨by simp [pyDs, PyData.showableAll], by simp [pyDs, PyData.intsShortAll], by simp [pyDs, PyData.weightAll]⟩
  | d :: ds, h => by
    obtain ⟨a1, a2, a3⟩ := rp_all fun e he => h e (List.mem_cons_of_mem _ he)
    have hd := h d (List.mem_cons_self ..)
    refine ⟨by simp [pyDs, PyData.showableAll, hd.sh, a1], by simp [pyDs, PyData.intsShortAll, hd.sm, a2], ?_⟩
    have := hd.wt
    simp only [pyDs, PyData.weightAll, List.length_cons, Nat.add_mul, Nat.one_mul]
    omega
theorem rp_lst {w m : Nat} {ds : List D} (h : ∀ d ∈ ds, RpD w d) (hm : ds.length * (w + 1) ≤ m) : RpD m (.lst ds) := by
  obtain ⟨a1, a2, a3⟩ := rp_all h
  exact ⟨by simpa [pyD, PyData.showable] using a1, by simpa [pyD, PyData.intsShort] using a2, by simp only [pyD, PyData.weight]; omega⟩
theorem rp_tup {w m : Nat} {ds : List D} (h : ∀ d ∈ ds, RpD w d) (hm : ds.length * (w + 1) ≤ m) : RpD m (.tup ds) := by
  obtain ⟨a1, a2, a3⟩ := rp_all h
  exact ⟨by simpa [pyD, PyData.showable] using a1, by simpa [pyD, PyData.intsShort] using a2, by simp only [pyD, PyData.weight]; omega⟩
theorem RpD.mono {w m : Nat} {d : D} (h : RpD w d) (e : w ≤ m) : RpD m d := ⟨h.sh, h.sm, Nat.le_trans h.wt e⟩
theorem RpD.fits {w k : Nat} {d : D} (h : RpD w d) (s : ShD k d) (hw : w ≤ 1048576) : (PyData.shown (pyD d)).length ≤ sizeLine := by
  have e : (2 : Nat) ^ 20 = 1048576 := by decide
  exact PyData.shown_fits (B := 13) (by decide) (by decide) (PyData.leavesShort_of_canLay0 13 _ s.2.1 h.sm) (by have := h.wt; omega)
theorem goodName_size {x : Str} (h : goodName x) : x.cps.size ≤ 8 := by
  have := h.2.1
  have e : x.length = x.cps.size := rfl
  omega
theorem rp_mark {p : Str × Hand} (hn : goodName p.1) (hg : p.2.good = true) : RpD 100 (markD p) ∧ ShD 2 (markD p) := by
  have s1 := good_ok hn
  have hs := goodName_size hn
  obtain ⟨x, hd⟩ := p
  cases hd with
  | we =>
    have r1 : RpD 10 (strD "we") := rp_str (by decide)
    exact ⟨rp_tup (w := 10) (fun d hd => by
      rcases List.mem_cons.mp hd with rfl | hd
      · exact (rp_str hs).mono (by decide)
      · rw [List.mem_singleton.mp hd]; exact r1) (by simp), sh_tup (sh_two (sh_str 1 _ s1) (sh_str 1 _ (by decide +kernel)))⟩
  | they =>
    have r1 : RpD 10 (strD "they") := rp_str (by decide)
    exact ⟨rp_tup (w := 10) (fun d hd => by
      rcases List.mem_cons.mp hd with rfl | hd
      · exact (rp_str hs).mono (by decide)
      · rw [List.mem_singleton.mp hd]; exact r1) (by simp), sh_tup (sh_two (sh_str 1 _ s1) (sh_str 1 _ (by decide +kernel)))⟩
  | ch i j =>
    simp [Hand.good] at hg
    have r1 : RpD 30 (.tup [iD i, iD j]) := rp_tup (w := 10) (fun d hd => by
      rcases List.mem_cons.mp hd with rfl | hd
      · exact rp_int (by omega) (by omega)
      · rw [List.mem_singleton.mp hd]; exact rp_int (by omega) (by omega)) (by simp)
    exact ⟨rp_tup (w := 30) (fun d hd => by
      rcases List.mem_cons.mp hd with rfl | hd
      · exact (rp_str hs).mono (by decide)
      · rw [List.mem_singleton.mp hd]; exact r1) (by simp), sh_tup (sh_two (sh_str 1 _ s1) (sh_tup (sh_two (sh_int 0 _) (sh_int 0 _))))⟩
theorem rp_lit {p : Str × Bool} (hn : goodName p.1) : RpD 20 (litD p) ∧ ShD 1 (litD p) :=
  ⟨rp_tup (w := 8) (fun d hd => by
    rcases List.mem_cons.mp hd with rfl | hd
    · exact rp_str (goodName_size hn)
    · rw [List.mem_singleton.mp hd]; exact rp_bl ..) (by simp), sh_lit (good_ok hn)⟩
theorem rp_cl {c : Cl} (hn : ∀ p ∈ c, goodName p.1) (hl : c.length ≤ 16) : RpD 400 (clD c) ∧ ShD 2 (clD c) :=
  ⟨rp_lst (w := 20) (fun d hd => by
    obtain ⟨p, hp, rfl⟩ := List.mem_map.mp hd
    exact (rp_lit (hn p hp)).1) (by simp; omega), sh_cl fun p hp => good_ok (hn p hp)⟩
/-- the three parts of a question -/
theorem rp_parts {q : Qn} (ok : q.Ok) (hm : q.marks.length ≤ 16) (hw : q.wishes.length ≤ 20) (hg : q.guards.length ≤ 20) : RpD 100000 (.lst [.lst (q.marks.map markD), .lst (q.wishes.map clD), .lst (q.guards.map clD)]) ∧ ShD 4 (.lst [.lst (q.marks.map markD), .lst (q.wishes.map clD), .lst (q.guards.map clD)]) := by
  have gn : ∀ x ∈ q.names, goodName x := fun x hx => by
    obtain ⟨p, hp, rfl⟩ := List.mem_map.mp hx
    exact (ok.good p hp).1
  have nl : q.names.length ≤ 16 := by unfold Qn.names; rw [List.length_map]; exact hm
  have cl : ∀ c, c ∈ q.wishes ∨ c ∈ q.guards → RpD 400 (clD c) ∧ ShD 2 (clD c) := fun c hc => by
    have hs : (c.map (·.1)).Sublist q.names := hc.elim (ok.ws c) (ok.gs c)
    have := hs.length_le
    rw [List.length_map] at this
    exact rp_cl (fun p hp => gn _ (hs.subset (List.mem_map.mpr ⟨p, hp, rfl⟩))) (by omega)
  have m1 : RpD 9000 (.lst (q.marks.map markD)) ∧ ShD 3 (.lst (q.marks.map markD)) := ⟨rp_lst (w := 100) (fun d hd => by
    obtain ⟨p, hp, rfl⟩ := List.mem_map.mp hd
    exact (rp_mark (ok.good p hp).1 (ok.good p hp).2).1) (by simp; omega), sh_lst (sh_map fun p hp => (rp_mark (ok.good p hp).1 (ok.good p hp).2).2)⟩
  have cs : ∀ l : List Cl, (∀ c ∈ l, c ∈ q.wishes ∨ c ∈ q.guards) → l.length ≤ 20 → RpD 9000 (.lst (l.map clD)) ∧ ShD 3 (.lst (l.map clD)) := fun l hl hn => ⟨rp_lst (w := 400) (fun d hd => by
    obtain ⟨c, hc, rfl⟩ := List.mem_map.mp hd
    exact (cl c (hl c hc)).1) (by simp; omega), sh_lst (sh_map fun c hc => (cl c (hl c hc)).2)⟩
  have w1 := cs q.wishes (fun c hc => .inl hc) hw
  have g1 := cs q.guards (fun c hc => .inr hc) hg
  have each : ∀ d ∈ [D.lst (q.marks.map markD), .lst (q.wishes.map clD), .lst (q.guards.map clD)], RpD 9000 d ∧ ShD 3 d := fun d hd => by
    simp only [List.mem_cons, List.not_mem_nil, or_false] at hd
    rcases hd with rfl | rfl | rfl
    · exact m1
    · exact w1
    · exact g1
  exact ⟨rp_lst (w := 9000) (fun d hd => (each d hd).1) (by simp), sh_lst fun d hd => (each d hd).2⟩
end DL
end

section
set_option Elab.async false
set_option linter.all false
set_option maxRecDepth 100000
set_option maxHeartbeats 4000000
/-! DL13: written constants, tuples and lists of them. -/
namespace DL
open PySem PySem.Spec PyProof.Rows L2
section
variable {T : List (Addr × Str)} {X : Cx} {E : XK} {e : Expr} {es : List Expr} {pos : Pos} {d : D} {ds : List D} {m m' : TDE} {k : Nat}
theorem DE.wk (h : DE T X E e m) (w : ∀ st z Q EQ, m' st z Q EQ → m st z Q EQ) : DE T X E e m' := by
  obtain ⟨t, p, q⟩ := h.ex
  exact ⟨⟨t, p, fun st F0 H0 F H σ z Q EQ R r er h k => q st F0 H0 F H σ z Q EQ R r er (w _ _ _ _ h) k⟩⟩
theorem DN.wk (h : DN T X E e m) (w : ∀ st z Q EQ, m' st z Q EQ → m st z Q EQ) : DN T X E e m' := by
  obtain ⟨t, p, q⟩ := h.ex
  exact ⟨⟨t, p, fun st F0 H0 F H σ z Q EQ R r er h k => q st F0 H0 F H σ z Q EQ R r er (w _ _ _ _ h) k⟩⟩
theorem DA.wk {m m' : TDA} (h : DA T X E es m) (w : ∀ st z Q EQ, m' st z Q EQ → m st z Q EQ) : DA T X E es m' := by
  obtain ⟨t, p, q⟩ := h.ex
  exact ⟨⟨t, p, fun st F0 H0 F H σ z Q EQ R r er h k => q st F0 H0 F H σ z Q EQ R r er (w _ _ _ _ h) k⟩⟩
@[reducible, simp] def mK (ds : List D) : TDA := fun _ z Q _ => Q ds z
theorem dk_nilC : DA T X E [] (mK []) := da_nil.wk fun _ _ _ _ h => h
theorem dk_consC (h1 : DE T X E e (mC d)) (h2 : DA T X E es (mK ds)) (hs : starEach (e :: es) X.env = (false, eval e X.env) :: starEach es X.env := by rfl) : DA T X E (e :: es) (mK (d :: ds)) := (da_cons h1 h2 hs).wk fun _ _ _ _ h => h
theorem de_tupC (h : DA T X E es (mK ds)) (hl : ds.length ≤ 1000000 := by decide) : DE T X E (.Tuple es k pos) (mC (.tup ds)) := (de_tup h).wk fun _ _ _ _ h => ⟨hl, h⟩
theorem dn_lstC (h : DA T X E es (mK ds)) (hl : ds.length ≤ 1000000 := by decide) : DN T X E (.List es pos) (mC (.lst ds)) := (dn_lst h).wk fun _ _ _ _ h => ⟨hl, h⟩
theorem de_shC (h : DN T X E e (mC d)) : DE T X E e (mC d) := h.sh
end
end DL
end

section
set_option Elab.async false
set_option linter.all false
set_option maxRecDepth 100000
set_option maxHeartbeats 4000000
/-! DL14: methods and __init__ as they stand behind the top. -/
namespace DL
open PySem PySem.Spec PyProof.Rows L2
section
variable {P : Program} {w : World} {K : PySem.W.Frag} {T : List (Addr × Str)} {mg : Str → Option Value} {base : Heap}
def MethAt (K : PySem.W.Frag) (C : Addr) (m qual : Str) (st : Stmt) : Prop := ∃ (f : Addr) (fd : FuncData), Fun K m qual st f fd ∧ Meth K C m f
def InitAt (K : PySem.W.Frag) (mg : Str → Option Value) (x : Str) (C : Addr) (qual : Str) (st : Stmt) : Prop := ∃ (f : Addr) (fd : FuncData), Fun K "__init__" qual st f fd ∧ Mk K C f ∧ mg x = some (.ref C)
abbrev BindsQ (m qual : Str) (st : Stmt) (ps : List Str) : Prop := ∀ (kV doc pm : Value) (an : Option Addr) (cdv ct : Value) (us : List Value), us.length = ps.length → bindArgs (PySem.W.fnOf m qual (defArgs st) (defBody st) (defScope st) .none kV doc pm an cdv ct) ⟨us, []⟩ = pure (ps.zip us)
/-- a method by its promise -/
def MethP (P : Program) (w : World) (K : PySem.W.Frag) (T : List (Addr × Str)) (mg : Str → Option Value) (base : Heap) (k : Nat) (C : Addr) (m : Str) (ps : List Str) (sp : DSpec) : Prop := ∃ f, Meth K C m f ∧ FnA P w K T mg base k f ps sp
theorem mkMeth {C : Addr} {m qual : Str} {st : Stmt} {N ps : List Str} {k : Nat} {sp : DSpec} {tm : TDS} (F : MethAt K C m qual st) (S : FnScope N ps (defScope st)) (hb : BindsQ m qual st ps) (len : ∀ s n ds Q EQ, sp s n ds Q EQ → ds.length = ps.length)
    (hbody : ∀ (f : Addr) (cdv : Value) (A : Around) (outer : List Env) (s : Shared) (H : Hp) (E : XK), Room k (A.deeper (envOfC qual (defScope st) s.heap.objs.size f cdv)) → DB T (cxOf (L2.CX P w) P w K mg base N qual (defScope st) f cdv A outer s H E) E (defBody st) tm)
    (hsp : ∀ s n ds Q EQ, sp s n ds Q EQ → tm s { nx := fun z => Q (.sh (.v .non)) z.n, rt := Q } ⟨ds.map DV.sh ++ List.replicate (N.length - ds.length) .un, n⟩ EQ) :
    MethP P w K T mg base (k + 1) C m ps sp := by
  obtain ⟨f, fd, F, hm⟩ := F
  exact ⟨f, hm, fd, fn_ok F S len (hbody f) hsp, F.binds hb⟩
theorem mkInit {C : Addr} {x qual : Str} {st : Stmt} {N ps : List Str} {y : Str} {k : Nat} {sp : ISpec} {tm : TDS} (F : InitAt K mg x C qual st) (S : FnScope N (y :: ps) (defScope st)) (hb : BindsQ "__init__" qual st (y :: ps)) (len : ∀ s n ds Q EQ, sp s n ds Q EQ → ds.length = ps.length)
    (hbody : ∀ (f : Addr) (cdv : Value) (A : Around) (outer : List Env) (s : Shared) (H : Hp) (E : XK), Room k (A.deeper (envOfC qual (defScope st) s.heap.objs.size f cdv)) → DB T (cxOf (L2.CX P w) P w K mg base N qual (defScope st) f cdv A outer s H E) E (defBody st) tm)
    (hsp : ∀ (self : Addr) s n ds Q EQ, sp s n ds Q EQ → tm s { nx := fun z => ∃ fs, z.env[0]? = some (.ow (.at self (.ins C fs))) ∧ Q fs z.n, rt := fun _ _ => False } ⟨.ow (.at self (.ins C [])) :: (ds.map DV.sh ++ List.replicate (N.length - (ds.length + 1)) .un), n⟩ EQ) :
    ClA P w K T mg base (k + 1) x C (y :: ps) sp := by
  obtain ⟨f, fd, F, M, hm⟩ := F
  exact ⟨f, fd, init_ok F S len (hbody f) hsp, F.binds hb, M, hm⟩
end
section
variable {T : List (Addr × Str)} {X : Cx} {E : XK} {e : Expr} {me : TDE} {pos apos : Pos} {k j : Nat} {C : Addr} {m : Str} {ps : List Str} {sp : DSpec}
theorem de_methE (cl : Cls X.K C) (c : MethP X.prog X.w X.K T X.mg X.base k C m ps sp) (hr : Room j X.A) (hk : k ≤ j) (hx : Passes (L2.CX X.prog X.w) X E) (he : DE T X E e me)
    (hp : ∀ {f : Addr} {fd : FuncData} {ta : TE}, Meth X.K C m f → FnOk X.prog X.w X.K X.mg X.base (L2.CX X.prog X.w) k f fd ps (toSp X.K T sp) → Binds X.K fd ps [] → PE X e ta → PE X (.Call (.Attribute e m apos) [] [] pos) (tMeth C m (toSp X.K T sp) [] E ta tNil)) :
    DE T X E (.Call (.Attribute e m apos) [] [] pos) (mMeth C m sp me) := by
  obtain ⟨f, hm, c⟩ := c
  exact de_meth0 cl hm c hr hk hx he fun F hb pa => hp hm F hb pa
end
end DL
end

section
set_option Elab.async false
set_option linter.all false
set_option maxRecDepth 100000
set_option maxHeartbeats 4000000
/-! DL15: enumerate of a tuple, zip of two lists or two tuples. -/
namespace DL
open PySem PySem.Spec PyProof.Rows L2
open AutoSeq1 (wpAny_loadPart')
abbrev eIt (l : Addr) : Obj := { cls := .type "tuple_iterator", data := .fields #[.ref l, .int 0 0] }
abbrev eEn (it : Addr) : Obj := { cls := .type "enumerate", data := .fields #[.none, .bool false, .ref it, rawInt 0, .none, .none] }
theorem newT_meets (l : Addr) (its : Array Value) (dct : Option Addr) (m : Nat) (sl : Array (Option Value)) :
    Meets (Builtin.«enumerate.__new__» ⟨[.type "enumerate", .ref l], []⟩) (fun _ R s => s.heap.get? l = some { cls := .type "tuple", dict := dct, data := .seq its m, slots := sl } ∧
      R (.ok (.ret (.ref (s.heap.push (eIt l)).objs.size))) { s with heap := (s.heap.push (eIt l)).push (eEn s.heap.objs.size) }) :=
  .of_wp fun prog w A R s h => by
    obtain ⟨hp, g, d, tk, os⟩ := s
    obtain ⟨hl, h⟩ := h
    have sub := sub_enumerate
    have isT : Heap.IsTuple (Shared.heap ⟨hp, g, d, tk, os⟩) l its := ⟨_, hl, rfl, m, rfl⟩
    wp_walk using wpAny_loadPart' hl
    refine wpAny_stack_any fun st => wpAny_pure ?_
    split
    · rename_i c _ _ _ _ _
      cases (c == Value.type "enumerate") <;> (wp_walk using wpAny_loadPart' hl, wpAny_pyIter_tuple isT; exact ⟨_, rfl, h⟩)
    · wp_walk using wpAny_loadPart' hl, wpAny_pyIter_tuple isT
      exact ⟨_, rfl, h⟩
section
variable {prog : Program} {w : World} {A : Around} {E : Value → Shared → Prop} {s : Shared}
theorem call_enumT {l : Addr} {its : Array Value} {Q : Value → Shared → Prop} (isT : s.heap.IsTuple l its)
    (h : ∀ h', IsEnum h' (s.heap.objs.size + 1) s.heap.objs.size 0 .none → h'.IsTupleIter s.heap.objs.size l 0 → h'.objs.size = s.heap.objs.size + 2 →
      (∀ b o, s.heap.get? b = some o → h'.get? b = some o) → Q (.ref (s.heap.objs.size + 1)) { s with heap := h' }) : wpAny (model prog w) A (call (.type "enumerate") [.ref l]) Q E s := by
  obtain ⟨⟨c, dct, dt, sl⟩, hl, hc, n, hd⟩ := isT
  obtain rfl : c = .type "tuple" := hc
  obtain rfl : dt = .seq its n := hd
  refine callType_new F.called_enumerate (by decide) (F.typeCall_enumerate_1 _) (F.newCall_enumerate_1 _) (fun obj => F.args_object_init_2 obj _) F.entry_enumerate_new (newT_meets l its dct n sl) ⟨hl, ?_⟩
  have z1 : (s.heap.push (eIt l)).objs.size = s.heap.objs.size + 1 := Heap.size_push ..
  have he : IsEnum ((s.heap.push (eIt l)).push (eEn s.heap.objs.size)) (s.heap.push (eIt l)).objs.size s.heap.objs.size 0 .none := Heap.get?_push_size (s.heap.push (eIt l)) (o := eEn s.heap.objs.size) rfl
  rw [z1] at he ⊢
  exact ⟨⟨_, he, rfl⟩, h _ he ⟨_, Heap.get?_push_of_some _ (Heap.get?_push_size _ rfl), rfl, rfl⟩ (by rw [Heap.size_push, z1]) fun b o q => Heap.get?_push_of_some _ (Heap.get?_push_of_some _ q)⟩
end
/-- the tuple at a, each item in a new pair behind its place -/
def IteT (K : PySem.W.Frag) (a : Addr) : It :=
  ⟨fun i H => ∃ (xs : List V) (x : V), SqT K H a xs ∧ xs[i]? = some x, fun i H v H' => ∃ q x, v = .ref q ∧ H q = none ∧ H' = upd H q (.tup [.int (i : Nat), x]) ∧ ∀ xs, SqT K H a xs → xs[i]? = some x, fun i H => ∃ xs : List V, SqT K H a xs ∧ xs.length ≤ i⟩
theorem turn_enumT {P : Program} {w : World} {K : PySem.W.Frag} {elts : List Expr} {kk : Nat} {tpos : Pos} (a e it : Addr) (hne : e ≠ it) (hai : a ≠ it) (hae : a ≠ e) :
    Turn P w K (.Tuple elts kk tpos) (IteT K a) [e, it] e (fun i h => (∃ old, IsEnum h e it ((i : Nat) : Int) old) ∧ h.IsTupleIter it a i) where
  mem := List.mem_cons_self ..
  obj := fun i h st b hb => by
    obtain ⟨⟨old, he⟩, ⟨o, ho, _, hd⟩⟩ := st
    rcases List.mem_cons.mp hb with rfl | hb
    · exact ⟨_, he, fun v q => nomatch q⟩
    · obtain rfl := List.mem_singleton.mp hb
      exact ⟨o, ho, fun v q => by rw [hd] at q; cases q⟩
  keep := fun i h h' st k => by
    obtain ⟨⟨old, he⟩, hi⟩ := st
    exact ⟨⟨old, k e (by simp) _ he⟩, hi.at fun o q => k it (by simp) o q⟩
  item := by
    intro X hP hw hK hc i pins s σ H E I hf st hg
    subst hP hw hK
    obtain ⟨⟨old, he⟩, hit⟩ := st
    obtain ⟨xs, x, hq, hx⟩ := hg
    obtain ⟨its, rv, p, _⟩ := I.tuple hq
    obtain ⟨u, hu, ru⟩ := rv.get hx
    have hel : e < s.heap.objs.size := Heap.lt_size he
    have hil : it < s.heap.objs.size := by obtain ⟨_, q, _⟩ := hit; exact Heap.lt_size q
    have DD := Draws.tuple (prog := X.prog) (w := X.w) (A := X.A.in1) (I.ok.hd hc) it a hai its.toArray
    have hlt : i < its.toArray.size := by
      have := (List.getElem?_eq_some_iff.mp hu).1
      simpa using this
    refine wpAny_pyNext_enum_itemD DD he ⟨hit, show s.heap.IsTuple a its.toArray from p⟩ hlt hne (by simp [hne, Ne.symm hae]) fun y h' tk hy ho hst hT hsz hk => ?_
    have ey : y = u := by
      have : its[i]? = some y := by simpa using hy
      rw [hu] at this
      exact (Option.some.inj this).symm
    subst ey
    refine ⟨_, rfl, wpAny_letOwnedTupleGo_enum (s := { s with heap := h', toks := tk + 1 }) ho fun h'' he' sb => ?_⟩
    have hT2 : h''.get? s.heap.objs.size = some { cls := .type "tuple", data := .seq #[.int i tk, y] } := (sb.2 _ (Nat.ne_of_gt hel)).trans hT
    have new : ObjOk X.prog X.w (upd H s.heap.objs.size (.tup [.int (i : Nat), x])) h'' s.heap.objs.size (.tup [.int (i : Nat), x]) := by
      refine ⟨?_, [.int i tk, y], .cons ⟨_, rfl⟩ (.cons ru .nil), ⟨_, hT2, rfl, _, rfl⟩⟩
      show 2 ≤ sizeLine
      decide
    have I1 : Inv X pins σ (upd H s.heap.objs.size (.tup [.int (i : Nat), x])) { s with heap := h'', toks := tk + 1 } :=
      I.turnedNew (ch := [e, it]) (fun b ob hb q => (sb.2 b fun z => hb (by simp [z])).trans (hk b ob (fun z => hb (by simp [z])) (fun z => hb (by simp [z])) q)) hf (Nat.le_refl _) new
    refine ⟨.ref s.heap.objs.size, _, I1, rfl, ⟨_, x, rfl, I.hok.fresh (Nat.le_refl _), rfl, fun ys hy => by rw [I.tuple_inj hy hq]; exact hx⟩, ⟨⟨y, ?_⟩, hst.1.at fun o q => (sb.2 it (Ne.symm hne)).trans q⟩, fun b hb => ?_⟩
    · rw [show ((i + 1 : Nat) : Int) = (i : Int) + 1 by omega]
      exact he'
    · have hb' : b < s.heap.objs.size := by
        rcases List.mem_cons.mp hb with rfl | hb
        · exact hel
        · obtain rfl := List.mem_singleton.mp hb
          exact hil
      rw [upd_ne (Nat.ne_of_lt hb')]
      exact (hf b hb).1
  done := by
    intro X hP hw hK hc i pins s σ H E I hf st hg
    subst hP hw hK
    obtain ⟨⟨old, he⟩, hit⟩ := st
    obtain ⟨xs, hq, hx⟩ := hg
    obtain ⟨its, rv, p, _⟩ := I.tuple hq
    obtain ⟨f0, f1, f2, f3, f4, f5⟩ := hf it (by simp)
    have hl := rv.length
    have DD : Draws X.prog X.w X.A.in1 it [it, a] i (fun _ _ => True) (fun j h => j = i ∧ h.IsTupleIter it a i ∧ h.IsTuple a its.toArray) :=
      ⟨fun j h st => let ⟨o, ho, _⟩ := st.2.1; ⟨o, ho⟩, fun j h h' st k => ⟨st.1, st.2.1.at fun o q => k it (by simp) o q, st.2.2.at fun o q => k a (by simp) o q⟩, fun j s' Q E' hj st => absurd st.1 (Nat.ne_of_lt hj),
        fun s' Q E' st k => wpAny_nextOf_tuple_end (I.ok.hd hc) st.2.1 st.2.2 (by simp; omega) k⟩
    exact wpAny_pyNext_enum_endD DD he ⟨rfl, hit, show s.heap.IsTuple a its.toArray from p⟩ fun h' eb => ⟨rfl, I.turned (t' := s.toks) (fun b o hb q => eb b o hb q) f0 f1 f3 f4 f5⟩
  self := fun A i s Q E st h => let ⟨⟨_, he⟩, _⟩ := st; wpAny_pyIter_enum he h
section
variable {X : Cx} {e : Expr} {ta : TA} {p pos tpos : Pos} {elts : List Expr} {kk : Nat}
def iEnB (K : PySem.W.Frag) (ta : TA) : TI := fun σ H R => ta σ H fun vs H1 => ∃ a xs, vs = [.ref a] ∧ ((SqL K H1 a xs ∧ R (Ite K a) H1) ∨ (SqT K H1 a xs ∧ R (IteT K a) H1))
theorem pi_enumB (hg : Gl X "enumerate") (hm : X.mg "enumerate" = none) (ha : PA X [e] ta) (hs : starEach [e] X.env = [(false, eval e X.env)] := by rfl) :
    PI X (.Tuple elts kk tpos) (.Call (.Name "enumerate" p) [e] [] pos) (iEnB X.K ta) := by
  refine ⟨fun pins s σ H R I h => Call_ (ld_blt I hg hm boot_enumerate (PyProof.Rows.callWith_type1 (thn (ha.run pos pins s σ H _ I h) fun us s1 ⟨vs, H1, I1, r1, q1⟩ => ?_) hs rfl))⟩
  obtain ⟨a, xs, rfl, q⟩ := q1
  cases r1 with
  | cons r rr =>
    cases rr
    cases r
    have fp : ∀ b ∈ [s1.heap.objs.size + 1, s1.heap.objs.size], FpOk X pins H1 b := fun b hb => by
      have hle : s1.heap.objs.size ≤ b := by
        rcases List.mem_cons.mp hb with rfl | hb
        · exact Nat.le_succ _
        · obtain rfl := List.mem_singleton.mp hb
          exact Nat.le_refl _
      exact I1.fpOk hle (I1.hok.fresh hle)
    rcases q with ⟨hq, q⟩ | ⟨hq, q⟩
    · obtain ⟨its, rv, p', hz⟩ := I1.list hq
      refine call_enumerate_list p'.isList fun h' he hit hsz hk => wpAny_pyIter_enum he ?_
      exact ⟨s1.heap.objs.size + 1, [s1.heap.objs.size + 1, s1.heap.objs.size], _, _, H1, rfl, I1.kept (t' := s1.toks) hk, turn_enum a (s1.heap.objs.size + 1) s1.heap.objs.size, ⟨⟨.none, he⟩, hit, Nat.succ_ne_self _⟩, fp, q⟩
    · obtain ⟨its, rv, p', hz⟩ := I1.tuple hq
      obtain ⟨o1, ho1, _⟩ := id p'
      have la : a < s1.heap.objs.size := Heap.lt_size ho1
      refine call_enumT (show s1.heap.IsTuple a its.toArray from p') fun h' he hit hsz hk => wpAny_pyIter_enum he ?_
      exact ⟨s1.heap.objs.size + 1, [s1.heap.objs.size + 1, s1.heap.objs.size], _, _, H1, rfl, I1.kept (t' := s1.toks) hk, turn_enumT a (s1.heap.objs.size + 1) s1.heap.objs.size (Nat.succ_ne_self _) (Nat.ne_of_lt la) (Nat.ne_of_lt (Nat.lt_succ_of_lt la)), ⟨⟨.none, he⟩, hit⟩, fp, q⟩
end
end DL
namespace DL
open PySem PySem.Spec PyProof.Rows L2
section
variable {T : List (Addr × Str)} {X : Cx} {E : XK} {e e2 : Expr} {pos p tpos : Pos} {mas : TDA} {elts : List Expr} {kk : Nat}
theorem itok_enumT {K : PySem.W.Frag} {st : Option Addr} {F1 : Hp} {a : Addr} {xs : List V} {ds : List D} (h : SqT K F1 a xs) (r : Reps K F1 ds xs) : ItOk K T st F1 (IteT K a) (enumD 0 ds) where
  stop := fun i H s hi => ⟨xs, SqT.same s h, by rw [enumD_len, r.length] at hi; exact hi⟩
  go := fun i H s hi => by
    rw [enumD_len, r.length] at hi
    exact ⟨xs, xs[i]'hi, SqT.same s h, List.getElem?_eq_getElem hi⟩
  yld := fun i F0 H0 F H n x H' s ok hi y => by
    obtain ⟨p, v, rfl, hp, rfl, hx⟩ := y
    obtain ⟨d, e1, e2⟩ := r.get' (hx xs (SqT.same ok.sub (SqT.same s h)))
    obtain ⟨k1, k2⟩ := laid_tup (ds := [.v (.int (i : Nat)), d]) ok hp (.cons (.v _) (.cons (e2.mono s) .nil))
    exact ⟨_, _, by rw [enumD_get, e1, Nat.zero_add]; rfl, k1, k2⟩
/-- enumerate of a list or of a tuple -/
@[reducible, simp] def iEnumA (ma : TDA) : TDA := fun st z Q EQ => ma st z (fun ds z1 => ∃ d es, ds = [d] ∧ seqOf d = some es ∧ Q (enumD 0 es) z1) EQ
theorem di_enumA (hg : Gl X "enumerate") (hm : X.mg "enumerate" = none) (ha : DA T X E [e] mas) (hs : starEach [e] X.env = [(false, eval e X.env)] := by rfl) : DI T X E (.Tuple elts kk tpos) (.Call (.Name "enumerate" p) [e] [] pos) (iEnumA mas) := by
  obtain ⟨t, pt, q⟩ := ha.ex
  refine ⟨⟨_, pi_enumB hg hm pt hs, fun st F0 H0 F H σ z Q EQ R r er h k => ?_⟩⟩
  refine q st F0 H0 F H σ z _ EQ _ r er h fun vs H1 F1 ds z1 s1 r1 p1 h1 => ?_
  obtain ⟨d, es, rfl, hd, h2⟩ := h1
  cases p1 with
  | cons p1 t1 =>
    cases t1
    cases p1 with
    | lst hf rr =>
      cases hd
      exact ⟨_, _, rfl, .inl ⟨SqL.of (r1.ok.sub _ _ hf), k _ H1 F1 _ z1 s1 r1 (itok_enum hf rr) h2⟩⟩
    | tup hf rr =>
      cases hd
      exact ⟨_, _, rfl, .inr ⟨SqT.same r1.ok.sub hf, k _ H1 F1 _ z1 s1 r1 (itok_enumT hf rr) h2⟩⟩
    | _ => cases hd
theorem itok_zipT {K : PySem.W.Frag} {st : Option Addr} {F1 : Hp} {a b : Addr} {xs ys : List V} {ds es : List D} (h : SqT K F1 a xs) (r : Reps K F1 ds xs) (h2 : SqT K F1 b ys) (r2 : Reps K F1 es ys) : ItOk K T st F1 (RZ.ItzT K a b) (zipD ds es) where
  stop := fun i H s hi => ⟨xs, ys, SqT.same s h, SqT.same s h2, by rw [zipD_len, r.length, r2.length] at hi; omega⟩
  go := fun i H s hi => by
    rw [zipD_len, r.length, r2.length] at hi
    exact ⟨xs, ys, xs[i]'(by omega), ys[i]'(by omega), SqT.same s h, SqT.same s h2, List.getElem?_eq_getElem (by omega), List.getElem?_eq_getElem (by omega)⟩
  yld := fun i F0 H0 F H n x H' s ok hi y => by
    obtain ⟨p, v, u, rfl, hp, rfl, hx, hy⟩ := y
    obtain ⟨d, e1, e2⟩ := r.get' (hx xs (SqT.same ok.sub (SqT.same s h)))
    obtain ⟨e, f1, f2⟩ := r2.get' (hy ys (SqT.same ok.sub (SqT.same s h2)))
    obtain ⟨k1, k2⟩ := laid_tup (ds := [d, e]) ok hp (.cons (e2.mono s) (.cons (f2.mono s) .nil))
    exact ⟨_, _, zipD_get _ _ _ _ _ e1 f1, k1, k2⟩
/-- zip of two lists or of two tuples -/
@[reducible, simp] def iZipB (ma : TDA) : TDA := fun st z Q EQ => ma st z (fun ds z1 => ∃ d e xs ys, ds = [d, e] ∧ ((d = .lst xs ∧ e = .lst ys) ∨ (d = .tup xs ∧ e = .tup ys)) ∧ Q (zipD xs ys) z1) EQ
theorem di_zipB (hg : Gl X "zip") (hm : X.mg "zip" = none) (ha : DA T X E [e, e2] mas)
    (hs : starEach [e, e2] X.env = (false, eval e X.env) :: starEach [e2] X.env := by rfl) (hpl : (backTo pos (starEach [e2] X.env)).any (·.1) = false := by rfl) : DI T X E (.Tuple elts kk tpos) (.Call (.Name "zip" p) [e, e2] [] pos) (iZipB mas) := by
  obtain ⟨t, pt, q⟩ := ha.ex
  refine ⟨⟨_, RZ.pi_zipA hg hm pt hs hpl, fun st F0 H0 F H σ z Q EQ R r er h k => ?_⟩⟩
  refine q st F0 H0 F H σ z _ EQ _ r er h fun vs H1 F1 ds z1 s1 r1 p1 h1 => ?_
  obtain ⟨d, e, xs, ys, rfl, hd, h2⟩ := h1
  cases p1 with
  | cons p1 t1 =>
    cases t1 with
    | cons p2 t2 =>
      cases t2
      rcases hd with ⟨rfl, rfl⟩ | ⟨rfl, rfl⟩
      · cases p1 with
        | lst hf rr =>
          cases p2 with
          | lst hf2 rr2 => exact ⟨_, _, _, _, rfl, .inl ⟨SqL.of (r1.ok.sub _ _ hf), SqL.of (r1.ok.sub _ _ hf2), k _ H1 F1 _ z1 s1 r1 (itok_zip hf rr hf2 rr2) h2⟩⟩
      · cases p1 with
        | tup hf rr =>
          cases p2 with
          | tup hf2 rr2 => exact ⟨_, _, _, _, rfl, .inr ⟨SqT.same r1.ok.sub hf, SqT.same r1.ok.sub hf2, k _ H1 F1 _ z1 s1 r1 (itok_zipT hf rr hf2 rr2) h2⟩⟩
/-- a, b, c = e1, e2, e3 -/
theorem ds_par3 {a b c : Expr} {x y v : Str} {px py pz pt : Pos} {kt k2 pt2} (i j l : Nat) (hc : X.calm = true) (hN : X.N.Nodup) (ha : DA T X E [a, b, c] mas) (hij : i ≠ j := by decide) (hil : i ≠ l := by decide) (hjl : j ≠ l := by decide) (hi : X.N[i]? = some x := by rfl) (hj : X.N[j]? = some y := by rfl) (hl : X.N[l]? = some v := by rfl)
    (hx : X.env.scope.names.lookup x = some .local := by rfl) (hy : X.env.scope.names.lookup y = some .local := by rfl) (hv : X.env.scope.names.lookup v = some .local := by rfl)
    (hw : swappedStores [.Tuple [.Name x px, .Name y py, .Name v pz] kt pt] (.Tuple [a, b, c] k2 pt2) X.env = pure (some [x, y, v]) := by rfl)
    (hs : swapsWithSole [.Tuple [.Name x px, .Name y py, .Name v pz] kt pt] (.Tuple [a, b, c] k2 pt2) pos.line X.env = pure false := by rfl) :
    DS T X E (.Assign [.Tuple [.Name x px, .Name y py, .Name v pz] kt pt] (.Tuple [a, b, c] k2 pt2) pos) (sPar3 i j l mas) := by
  obtain ⟨ta, pa, qa⟩ := ha.ex
  refine ⟨⟨_, ps_par3 hc hN hi hj hl hij hil hjl hx hy hv pa hw hs, fun st F0 H0 F H σ z D EQ D' r er h k => ?_⟩⟩
  refine qa st F0 H0 F H σ z _ EQ _ r er h fun vs H1 F1 ds z1 s1 r1 p1 h1 => ?_
  obtain ⟨d, e, f, rfl, q⟩ := h1
  cases p1 with
  | cons h1 t1 =>
    cases t1 with
    | cons h2 t2 =>
      cases t2 with
      | cons h3 t3 =>
        cases t3
        exact ⟨_, _, _, rfl, k.nx _ H1 F1 _ s1 (((r1.setS h1).setS h2).setS h3) q⟩
end
end DL
end

section
set_option Elab.async false
set_option linter.all false
set_option maxRecDepth 100000
set_option maxHeartbeats 4000000
/-! DL16: defs of which it is known that no guard stands around them (they call repr); the law called from the top. -/
namespace DL
open PySem PySem.Spec PyProof.Rows L2
/-- as FnOk, but asked only where no guard stands -/
structure FnG (P : Program) (w : World) (K : PySem.W.Frag) (mg : Str → Option Value) (base : Heap) (k : Nat) (f : Addr) (fd : FuncData) (ps : List Str) (sp : Sp) : Prop where
  len : ∀ vs H Q E, sp vs H Q E → vs.length = ps.length
  go : ∀ (A : Around) (outer : List Env) (s : Shared) (H : Hp) (args : Args) (us : List Value) (vs : List V) (Q : VK) (E : XK), A.guards = some [] → Room k A → Env0 P w K mg base A outer s H → BindsTo s fd args (ps.zip us) → Vals vs us → sp vs H Q E →
    codeAny (model P w) A (.call (.ref f) args) (CR (L2.CX P w) outer P w H s Q E) s
section
variable {P : Program} {w : World} {K : PySem.W.Frag} {T : List (Addr × Str)} {mg : Str → Option Value} {base : Heap}
theorem fnG_of {x qual : Str} {st : Stmt} {f : Addr} {fd : FuncData} {N ps : List Str} {k : Nat} {sp : Sp} (F : Fun K x qual st f fd) (S : FnScope N ps (defScope st)) (len : ∀ vs H Q E, sp vs H Q E → vs.length = ps.length)
    (hbody : ∀ (cdv : Value) (A : Around) (outer : List Env) (s : Shared) (H : Hp) (vs : List V) (Q : VK) (E : XK), A.guards = some [] → Room k (A.deeper (envOfC qual (defScope st) s.heap.objs.size f cdv)) → sp vs H Q E →
      ∃ t, PSs (cxOf (L2.CX P w) P w K mg base N qual (defScope st) f cdv A outer s H E) (defBody st) t ∧ t { nx := fun _ H' => Q .non H', rt := Q } (L2.start N vs) H) : FnG P w K mg base (k + 1) f fd ps sp := by
  obtain ⟨oc, od, kV, doc, pm, an, cdv, ct, osl, rfl, lk, hcd⟩ := F.ex
  refine ⟨len, fun A outer s H args us vs Q E hg hr e0 hb r hsp => ?_⟩
  have hl := len _ _ _ _ hsp
  have kb : ∀ b o, base.get? b = some o → s.heap.get? b = some o := fun b o e => (e0.bs b o e).1
  have KX := e0.mod.kin.keeps kb
  refine codeAny_call_function hr.depth (KX _ _ lk) rfl S.co S.gen rfl (PySem.W.codeRec_of KX hcd) (hb _ _ _ _ ?_)
  refine wpAny_newFunctionEnv_cells S.kind (fun y hy => (S.par y.1 (List.of_mem_zip (b := y.2) hy).1).imp id fun q => ⟨q, PySem.W.cellsFrom_some _ _ _ (.inl q)⟩) fun env he s1 x => ?_
  subst he
  refine ⟨(e0.mod.nolimit.keeps kb).keeps x.toInCall.keep, codeAny_func ?_⟩
  obtain ⟨t, ht, hq⟩ := hbody cdv A outer s H vs Q E hg (hr.deeper _) hsp
  refine wpAny_mono (ht.run [] s1 (L2.start N vs) H _ (inv_start S hr.hd e0 hl r x) hq) (fun fl s' hs => ?_) fun e s' hs => hs
  cases fl with
  | ret u =>
    obtain ⟨v, σ', H', J, rv, q⟩ := hs
    exact ⟨v, H', J.os, J.bare, J.base, J.hok, rv, q⟩
  | next =>
    obtain ⟨σ', H', J, q⟩ := hs
    exact ⟨V.non, H', J.os, J.bare, J.base, J.hok, rfl, q⟩
  | brk => exact hs.elim fun _ q => q.elim fun _ q => q.2.elim
  | cont => exact hs.elim fun _ q => q.elim fun _ q => q.2.elim
theorem fnG_ok {x qual : Str} {st : Stmt} {f : Addr} {fd : FuncData} {N ps : List Str} {k : Nat} {sp : DSpec} {m : TDS} (F : Fun K x qual st f fd) (S : FnScope N ps (defScope st)) (len : ∀ s n ds Q EQ, sp s n ds Q EQ → ds.length = ps.length)
    (hbody : ∀ (cdv : Value) (A : Around) (outer : List Env) (s : Shared) (H : Hp) (E : XK), A.guards = some [] → Room k (A.deeper (envOfC qual (defScope st) s.heap.objs.size f cdv)) → DB T (cxOf (L2.CX P w) P w K mg base N qual (defScope st) f cdv A outer s H E) E (defBody st) m)
    (hsp : ∀ s n ds Q EQ, sp s n ds Q EQ → m s { nx := fun z => Q (.sh (.v .non)) z.n, rt := Q } ⟨ds.map DV.sh ++ List.replicate (N.length - ds.length) .un, n⟩ EQ) :
    FnG P w K mg base (k + 1) f fd ps (toSp K T sp) := by
  refine fnG_of F S (fun vs H Q E h => ?_) fun cdv A outer s H vs Q E hg hr h => ?_
  · obtain ⟨F', st', n, ds, Qd, EQ, ok, r, h1, h2⟩ := h
    rw [← r.length]
    exact len _ _ _ _ _ h1
  · obtain ⟨F', st', n, ds, Qd, EQ, ok, r, h1, h2, h3⟩ := h
    obtain ⟨t, pt, qt⟩ := (hbody cdv A outer s H E hg hr).ex
    exact ⟨t, pt, qt st' F' H F' H _ _ _ EQ _ (rel_start ok r) h3 (hsp st' n ds Qd EQ h1) ⟨fun σ H1 F1 z1 s1 r1 q => h2 .non H1 F1 (.sh (.v .non)) z1.n r1.ok (.sh (.v _)) q, fun _ _ _ _ _ _ q => q.elim, fun _ _ _ _ _ _ q => q.elim, fun v H1 F1 rr n1 s1 ok1 rr1 q => h2 v H1 F1 rr n1 ok1 rr1 q⟩⟩
/-- a def of the top that is called where no guard stands -/
structure FnR (P : Program) (w : World) (K : PySem.W.Frag) (T : List (Addr × Str)) (mg : Str → Option Value) (base : Heap) (k : Nat) (x : Str) (ps : List Str) (sp : DSpec) : Prop where
  ex : ∃ (f : Addr) (fd : FuncData), FnG P w K mg base k f fd ps (toSp K T sp) ∧ mg x = some (.ref f) ∧ PySem.W.keepIn K (.ref f) = true ∧ Binds K fd ps []
theorem mkFnR {x : Str} {st : Stmt} {N ps : List Str} {k : Nat} {sp : DSpec} {m : TDS} (F : FunAt K mg x st) (S : FnScope N ps (defScope st)) (hb : BindsH x st ps) (len : ∀ s n ds Q EQ, sp s n ds Q EQ → ds.length = ps.length)
    (hbody : ∀ (f : Addr) (cdv : Value) (A : Around) (outer : List Env) (s : Shared) (H : Hp) (E : XK), A.guards = some [] → Room k (A.deeper (envOfC x (defScope st) s.heap.objs.size f cdv)) → DB T (cxOf (L2.CX P w) P w K mg base N x (defScope st) f cdv A outer s H E) E (defBody st) m)
    (hsp : ∀ s n ds Q EQ, sp s n ds Q EQ → m s { nx := fun z => Q (.sh (.v .non)) z.n, rt := Q } ⟨ds.map DV.sh ++ List.replicate (N.length - ds.length) .un, n⟩ EQ) :
    FnR P w K T mg base (k + 1) x ps sp := by
  obtain ⟨f, fd, F, hm⟩ := F
  exact ⟨f, _, fnG_ok F S len (hbody f) hsp, hm, F.kp, F.binds hb⟩
end
section
variable {T : List (Addr × Str)} {X : Cx} {E : XK} {e : Expr} {es : List Expr} {pos p : Pos} {mas : TDA} {k j : Nat} {x : Str} {ps : List Str} {sp : DSpec}
theorem pe_callG {f : Addr} {fd : FuncData} {sp : Sp} {t : TA} (F : FnG X.prog X.w X.K X.mg X.base k f fd ps sp) (hgd : X.A.guards = some []) (hr : Room k X.A) (hg : Gl X x) (hm : X.mg x = some (.ref f)) (hk : PySem.W.keepIn X.K (.ref f) = true) (hb : Binds X.K fd ps []) (hx : Passes (L2.CX X.prog X.w) X E)
    (ha : PA X (e :: es) t) (hdb : (x == ("__debug__" : Str)) = false := by decide) (he : starEach (e :: es) X.env = (false, eval e X.env) :: starEach es X.env := by rfl) (hpl : (backTo pos (starEach es X.env)).any (·.1) = false := by rfl) :
    PE X (.Call (.Name x p) (e :: es) [] pos) (tCall sp [] E t) := by
  refine ⟨fun pins s σ H Q I h => wpAny_Call_Name_kw (ld_glob I hg hm (PySem.W.callWith_K (h₀ := X.base) I.ok.mod.kin hk (thn (ha.run pos pins s σ H _ I h) fun us s1 ⟨vs, H1, I1, r, q⟩ => ⟨I1.kIn, ?_⟩) he hpl) hdb)⟩
  have q : sp (vs ++ []) H1 Q E := q
  rw [List.append_nil] at q
  refine wpAny_call (codeAny_mono (F.go X.A X.stack s1 H1 ⟨us, []⟩ us vs Q E hgd hr I1.env0 ?_ r q) fun r s' hq => ?_)
  · have := hb s1 us I1.kIn (by rw [List.append_nil, ← r.length]; exact F.len _ _ _ _ q)
    rwa [List.append_nil] at this
  · cases r with
    | error ex => exact hx pins σ H1 s1 ex s' I1 hq
    | ok fl =>
      cases fl with
      | ret u => exact I1.after hq
      | next => exact hq.elim
      | brk => exact hq.elim
      | cont => exact hq.elim
theorem de_callR (c : FnR X.prog X.w X.K T X.mg X.base k x ps sp) (hgd : X.A.guards = some []) (hr : Room j X.A) (hk : k ≤ j) (hg : Gl X x) (hx : Passes (L2.CX X.prog X.w) X E) (ha : DA T X E (e :: es) mas) (hdb : (x == ("__debug__" : Str)) = false := by decide)
    (he : starEach (e :: es) X.env = (false, eval e X.env) :: starEach es X.env := by rfl) (hpl : (backTo pos (starEach es X.env)).any (·.1) = false := by rfl) : DE T X E (.Call (.Name x p) (e :: es) [] pos) (mCall sp mas) := by
  obtain ⟨f, fd, F, hm, hkp, hb⟩ := c.ex
  obtain ⟨ta, pa, qa⟩ := ha.ex
  refine ⟨⟨_, pe_callG F hgd (hr.mono hk) hg hm hkp hb hx pa hdb he hpl, fun st F0 H0 F H σ z Q EQ R r er h k => ?_⟩⟩
  refine qa st F0 H0 F H σ z _ EQ _ r er h fun vs H1 F1 ds z1 s1 r1 p1 h1 => call_sp r1 er p1 h1 fun v H2 F2 rr n' ok q qd => ?_
  obtain ⟨F3, s3, r3, rp⟩ := res_sh r1 ok q
  exact k v H2 F3 _ _ (s1.trans s3) r3 rp qd

/-! ### repr of deep data -/
@[reducible, simp] def gRepr : GC := fun ds Q => ∃ d, ds = [d] ∧ (∃ xs, d = .lst xs) ∧ plainD d = true ∧ SeqAt.shaped (pyD d) = true ∧ PyData.showable (pyD d) = true ∧ (PyData.shown (pyD d)).length ≤ sizeLine ∧ Q (.v (.str (PyData.shown (pyD d))))
def rRepr (K : PySem.W.Frag) : List V → Hp → VK → Prop := fun vs H Q => ∃ a d, vs = [.ref a] ∧ Dp K H (.ref a) d ∧ SeqAt.shaped d = true ∧ PyData.showable d = true ∧ (PyData.shown d).length ≤ sizeLine ∧ Q (.str (PyData.shown d)) H
theorem cr_repr (hgd : X.A.guards = some []) (hu : X.A.units + 66 < cLine) : CallR X (.builtin "repr") (rRepr X.K) := by
  intro pins s σ H vs us Q I r h
  obtain ⟨a, d, rfl, hd, sd, hs, hz, q⟩ := h
  cases r with
  | cons r rr =>
    cases rr
    cases r
    obtain ⟨as, rd⟩ := Dp.reads I d _ _ hd rfl
    have s2 := sd
    unfold SeqAt.shaped at s2
    rw [Bool.and_eq_true] at s2
    have hdep : d.depth ≤ 64 := of_decide_eq_true s2.2
    exact repr_of_reads' rd hs (PyData.noDict_hsm (PyData.hasDict_of_canLay d s2.1)) hgd (by omega) (fun _ _ e => e) (fun h' u tk hk => ⟨.str _, H, I.kept hk, ⟨_, rfl⟩, q⟩) hz
theorem p_repr {K : PySem.W.Frag} : PC1 K (rRepr K) gRepr := by
  intro F H ds vs Q R s rp h k
  obtain ⟨d, rfl, ⟨xs, rfl⟩, h1, h2, h3, h4, q⟩ := h
  cases rp with
  | cons r t =>
    cases t
    have hd := dp_rep s r h1
    cases r with
    | lst hf rr => exact ⟨_, _, rfl, hd, h2, h3, h4, k _ _ (.v _) q⟩
end
end DL
end

section
set_option Elab.async false
set_option linter.all false
set_option maxRecDepth 100000
set_option maxHeartbeats 4000000
/-! DL17: the law called from the top, where no guard stands. -/
namespace DL
open PySem PySem.Spec PyProof.Rows L2
/-- what is tracked when the law begins: the tables cs, and the script at a (unless the module owns it) -/
structure Strt (K : PySem.W.Frag) (cs : List (Addr × Addr)) (h : Heap) (a : Addr) (ns : List Int) (H : Hp) : Prop where
  tb : ∀ p ∈ cs, H p.2 = some (.tbl #[])
  one : ∀ b u, H b = some u → (∃ p ∈ cs, p.2 = b ∧ u = .tbl #[]) ∨ (b = a ∧ K.lookup a = none ∧ ∃ o, h.get? a = some o ∧ u = .frz o (.lst (ns.map V.int)))
section
variable {P : Program} {w : World} {K : PySem.W.Frag} {mg mb : Str → Option Value} {k : Nat} {fa a : Addr} {cs : List (Addr × Addr)} {fd : FuncData} {x : Str} {sp : Sp} {s₁ : Shared} {vs : List Value} {ns : List Int} {H : Hp}
theorem strt_free (S : Strt K cs s₁.heap a ns H) (hT : ∀ p ∈ cs, s₁.heap.get? p.2 = some { cls := .none, data := .fields #[] }) (ha : s₁.heap.get? a = some { cls := .type "list", data := .seq vs.toArray }) {b : Addr} {o : Obj} (e : s₁.heap.get? b = some o) (n1 : ∀ v n, o.data ≠ .seq v n) (n2 : o.data ≠ .fields #[]) : H b = none := by
  cases q : H b with
  | none => rfl
  | some u =>
    rcases S.one b u q with ⟨p, hp, rfl, _⟩ | ⟨rfl, _⟩
    · rw [hT p hp] at e
      exact absurd (congrArg Obj.data (Option.some.inj e)).symm n2
    · rw [ha] at e
      exact absurd (congrArg Obj.data (Option.some.inj e)).symm (n1 _ _)
/-- from such a start the law's promise is kept -/
theorem law_run (S : Strt K cs s₁.heap a ns H) (KX : K.In s₁.heap) (hns : s₁.heap.Ns mainGlobals mg) (hb : s₁.heap.Ns builtinsNs mb) (hbb : ∀ x : Str, x ≠ "__name__" → mb x = bootBuiltins x) (hlim : s₁.heap.NoLimit) (hg : s₁.gens = #[])
    (hT : ∀ p ∈ cs, s₁.heap.get? p.2 = some { cls := .none, data := .fields #[] }) (nT : ∀ p ∈ cs, K.lookup p.2 = none) (C : ∀ p ∈ cs, PySem.W.CodeHd s₁.heap p.1 p.2)
    (hbm : ∃ (bm : Addr) (ob : Obj), mg "__builtins__" = some (.ref bm) ∧ bm ≠ builtinsNs ∧ s₁.heap.get? bm = some ob ∧ ob.cls = .type "module" ∧ ob.dict = some builtinsNs ∧ ob.data = .plain)
    (ha : s₁.heap.get? a = some { cls := .type "list", data := .seq vs.toArray }) (hi : IntsAre vs ns) (hl : ns.length ≤ sizeLine) (hr : Room k callerA)
    (F : ∀ base : Heap, K.In base → base.Ns mainGlobals mg → (∀ p ∈ cs, LamX.TabB base mg p.1 p.2) → ∃ fd : FuncData, FnG P w K mg base k fa fd [x] sp ∧ Binds K fd [x] [])
    (hsp : sp [.ref a] H (fun v _ => v = .bl true) fun _ _ _ => False) :
    codeAny (model P w) callerA (.call (.ref fa) ⟨[.ref a], []⟩) (fun r s' => r = .ok (.ret (.bool true)) ∧ OldK s₁.heap s'.heap ∧ s'.os = s₁.os ∧ AllBare s'.gens) s₁ := by
  have free := fun {b o} => strt_free (b := b) (o := o) S hT ha
  have dicts : ∀ {b : Addr} {m : Str → Option Value}, s₁.heap.Ns b m → (hidT s₁.heap H).Ns b m := by
    rintro b m ⟨o, es, ep, e, d, r⟩
    exact ⟨o, es, ep, hidT_get e (free e (fun _ _ z => by rw [d] at z; cases z) fun z => by rw [d] at z; cases z), d, r⟩
  have kin : K.In (hidT s₁.heap H) := by
    intro b o e
    refine hidT_get (KX b o e) ?_
    cases q : H b with
    | none => rfl
    | some u =>
      rcases S.one b u q with ⟨p, hp, rfl, _⟩ | ⟨rfl, hk, _⟩
      · exact absurd (nT p hp) (by rw [e]; simp)
      · exact absurd hk (by rw [e]; simp)
  have tabs : ∀ p ∈ cs, LamX.TabB (hidT s₁.heap H) mg p.1 p.2 := by
    intro p hp
    have hTp := hT p hp
    have gne : mainGlobals ≠ p.2 := fun z => by
      obtain ⟨o, es, ep, e, hd, _⟩ := hns
      rw [z, hTp] at e
      cases e
      cases hd
    refine ⟨?_, ?_, gne⟩
    · obtain ⟨o, us, file, tf, flags, tg, inF, text, tt, e1, r1, r2, r3, rest⟩ := C p hp
      refine ⟨o, us, file, tf, flags, tg, inF, text, tt, hidT_get e1 (free e1 (fun v n z => ?_) fun z => ?_), r1, r2, r3, rest⟩
      · rw [r2] at z
        cases z
      · rw [r2] at z
        injection z with z
        subst z
        simp at r3
    · obtain ⟨bm, ob, b1, b2, b3, b4, b5, b6⟩ := hbm
      refine ⟨bm, ob, b1, b2, fun q => ?_, fun q => ?_, hidT_get b3 (free b3 (fun v n z => by rw [b6] at z; cases z) fun z => by rw [b6] at z; cases z), b4, b5, b6⟩
      · obtain ⟨o, es, ep, e, hd, _⟩ := hns
        rw [q, e] at b3
        cases b3
        rw [hd] at b6
        cases b6
      · rw [q, hTp] at b3
        cases b3
        cases b6
  have rv := vals_ints hi
  have okH : HOk P w H s₁.heap := by
    intro b u q
    rcases S.one b u q with ⟨p, hp, rfl, rfl⟩ | ⟨rfl, _, o, e, rfl⟩
    · exact hT p hp
    · rw [ha] at e
      cases e
      exact ⟨ha, by rw [List.length_map]; exact hl, vs, _, rv, ha⟩
  have e0 : Env0 P w K mg (hidT s₁.heap H) callerA [] s₁ H := ⟨rfl, ⟨kin, dicts hns, ⟨mb, dicts hb, hbb⟩, hlim.elim fun mc q => ⟨mc, dicts q.1, q.2⟩⟩, fun b o e => of_hidT e, Nat.le_of_eq (hidT_size _ _), trivial, fun b hb => (List.not_mem_nil hb).elim, okH, .of_eq hg⟩
  obtain ⟨fd, Fg, hbind⟩ := F _ kin (dicts hns) tabs
  refine codeAny_mono (Fg.go callerA [] s₁ H ⟨[.ref a], []⟩ [.ref a] [.ref a] _ _ rfl hr e0 (hbind s₁ [.ref a] KX rfl) (.cons rfl .nil) hsp) fun r s' q => ?_
  match r, q with
  | .error e, q =>
    obtain ⟨_, _, _, _, _, _, _, _, _, _, _, _, z⟩ := q
    exact z.elim
  | .ok .next, q => exact q.elim
  | .ok .brk, q => exact q.elim
  | .ok .cont, q => exact q.elim
  | .ok (.ret u), q =>
    obtain ⟨v, H', os, bare, un, hok', rel, hv⟩ := q
    have hv : v = .bl true := hv
    subst hv
    obtain rfl : u = Value.bool true := rel
    have grown : ∀ p ∈ cs, ∃ more : Array Value, s'.heap.get? p.2 = some { cls := .none, data := .fields more } := fun p hp => (un.tbls p.2 #[] (S.tb p hp)).elim fun more z => ⟨_, hok' p.2 _ z⟩
    have stay : ∀ b o, (∀ p ∈ cs, p.2 ≠ b) → s₁.heap.get? b = some o → s'.heap.get? b = some o := by
      intro b o nb e
      cases q : H b with
      | none => exact un.keep b o e q (fun z => (List.not_mem_nil z).elim) (fun z => (List.not_mem_nil z).elim)
      | some u =>
        rcases S.one b u q with ⟨p, hp, ep, _⟩ | ⟨rfl, _, o', e', rfl⟩
        · exact absurd ep (nb p hp)
        · obtain rfl : o = o' := Option.some.inj (e.symm.trans e')
          exact (hok' b _ (un.frzs b o _ q)).1
    refine ⟨rfl, ⟨fun b o e => ?_, fun b o e => ?_⟩, os, bare⟩
    · by_cases hb : ∃ p ∈ cs, p.2 = b
      · obtain ⟨p, hp, rfl⟩ := hb
        obtain ⟨more, hm⟩ := grown p hp
        rw [hT p hp] at e
        cases e
        exact .inr (.inl ⟨((C p hp).tab (hT p hp)).isCodeTable, rfl, #[], more, rfl, by simpa using hm⟩)
      · exact .inl (stay b o (fun p hp z => hb ⟨p, hp, z⟩) e)
    · by_cases hb : ∃ p ∈ cs, p.2 = b
      · obtain ⟨p, hp, rfl⟩ := hb
        exact (grown p hp).elim fun more hm => ⟨_, hm⟩
      · exact ⟨o, stay b o (fun p hp z => hb ⟨p, hp, z⟩) e⟩
end
end DL
end

section
set_option Elab.async false
set_option linter.all false
set_option maxRecDepth 100000
set_option maxHeartbeats 4000000
/-! DL26: a list of integers that is read only, wherever it stands (.lsz). -/
namespace DL
open PySem PySem.Spec PyProof.Rows L2

@[reducible, simp] def gIxZ : G2 := fun d1 d2 Q => ∃ (ns : List Int) (i n : Int), d1 = .lsz ns ∧ d2 = .v (.int i) ∧ atI ns i = some n ∧ Q (.v (.int n))
theorem atI_map {A B : Type} (f : A → B) {xs : List A} {i : Int} {x : A} (h : atI xs i = some x) : atI (xs.map f) i = some (f x) := by
  unfold L2.atI at h ⊢
  rw [List.length_map]
  cases q : ixN xs.length i with
  | none => rw [q] at h; cases h
  | some j =>
    rw [q] at h
    dsimp only [Option.bind_some] at h ⊢
    show (xs.map f)[j]? = _
    rw [List.getElem?_map]
    have h' : xs[j]? = some x := h
    rw [h']
    rfl
theorem p_ixZ {K : PySem.W.Frag} : P2 K (rIxL K) gIxZ := by
  intro F H d1 d2 v1 v2 Q R s r1 r2 h k
  obtain ⟨ns, i, n, rfl, rfl, c, q⟩ := h
  cases r2
  cases r1 with
  | lsz hf => exact ⟨_, _, _, _, rfl, rfl, SqL.same s hf, atI_map V.int c, k _ _ (.v _) q⟩
@[reducible, simp] def gLenZ : GC := fun ds Q => ∃ ns : List Int, ds = [.lsz ns] ∧ Q (.v (.int ns.length))
theorem p_lenZ {K : PySem.W.Frag} : PC1 K (fun xs H Q => (∃ x n, xs = [x] ∧ LenV K x H n ∧ Q (.int n) H) ∨ (∃ p kvs, xs = [.ref p] ∧ H p = some (.dK kvs) ∧ Q (.int kvs.length) H)) gLenZ := by
  intro F H ds vs Q R s rp h k
  obtain ⟨ns, rfl, q⟩ := h
  cases rp with
  | cons r t =>
    cases t
    cases r with
    | lsz hf => exact .inl ⟨_, ns.length, rfl, .inl ⟨_, SqL.same s hf, (List.length_map _).symm⟩, k _ _ (.v _) q⟩
section
variable {T : List (Addr × Str)} {X : Cx} {E : XK} {e : Expr} {me : TDE} {pos p : Pos}
@[reducible, simp] def mSlZ (me : TDE) (ml mh : TDO) : TDE := fun st z Q EQ => me st z (fun d z1 => ml st z1 (fun lo z2 => mh st z2 (fun hi z3 => ∃ ns : List Int, d = .lsz ns ∧ Q (.lst (cutD (ns.map fun n => .v (.int n)) lo hi)) z3) EQ) EQ) EQ
theorem reps_intz {K : PySem.W.Frag} {F : Hp} (ns : List Int) : Reps K F (ns.map fun n => D.v (.int n)) (ns.map V.int) := by
  induction ns with
  | nil => exact .nil
  | cons n ns ih => exact .cons (.v _) ih
theorem dn_sliceZ {lo hi : Option Expr} {p2 : Pos} {ml mh : TDO} (he : DE T X E e me) (hl : DO T X E lo ml) (hh : DO T X E hi mh) : DN T X E (.Subscript e (.Slice lo hi none p2) pos) (mSlZ me ml mh) := by
  obtain ⟨t, pt, q⟩ := he.ex
  obtain ⟨tl, pl, ql⟩ := hl.ex
  obtain ⟨th, ph, qh⟩ := hh.ex
  refine ⟨⟨_, pe_slice sl_list pt pl ph, fun st F0 H0 F H σ z Q EQ R r er h k => ?_⟩⟩
  refine q st F0 H0 F H σ z _ EQ _ r er h fun v H1 F1 d z1 s1 r1 p1 h1 => ?_
  refine ql st F0 H0 F1 H1 σ z1 _ EQ _ r1 er h1 fun a H2 F2 z2 s2 r2 h2 => ?_
  refine qh st F0 H0 F2 H2 σ z2 _ EQ _ r2 er h2 fun b H3 F3 z3 s3 r3 h3 => ?_
  obtain ⟨ns, rfl, h4⟩ := h3
  cases p1.mono (s2.trans s3) with
  | lsz hf =>
    refine ⟨_, _, rfl, SqL.same r3.ok.sub hf, fun p hp => ?_⟩
    obtain ⟨r4, w⟩ := r3.laid hp (Cell.lst (cut_rep (reps_intz ns) a b))
    exact k p _ F3 _ z3 ((s1.trans s2).trans s3) r4 w h4
end
end DL
end

section
set_option Elab.async false
set_option linter.all false
set_option maxRecDepth 100000
set_option maxHeartbeats 4000000
/-! DL27: the end: from the law by value to the walk that the head asks for. -/
namespace DL
open PySem PySem.Spec PyProof.Rows L2
/-- what is read when the law begins: the script alone -/
def startF (H : Hp) (a : Addr) : Hp := fun b => match H b with
  | some (.frz o u) => if b = a then some (.frz o u) else none
  | _ => none
theorem startF_sub {H : Hp} {a : Addr} : Same (startF H a) H := by
  intro b o h
  unfold startF at h
  split at h
  · rename_i o' u e
    split at h
    · cases h
      exact e
    · cases h
  · cases h
theorem startF_nt {H : Hp} {a : Addr} : ∀ b ps, startF H a b ≠ some (.tbl ps) := by
  intro b ps h
  unfold startF at h
  split at h
  · split at h <;> cases h
  · cases h
theorem toSp_start {K : PySem.W.Frag} {T : List (Addr × Str)} {cs : List (Addr × Addr)} {h : Heap} {a : Addr} {ns : List Int} {H : Hp} (S : Strt K cs h a ns H) (hS : SqL K (startF H a) a (ns.map V.int)) (hT : ∀ q ∈ T, ∃ p ∈ cs, p.2 = q.1) {sp : DSpec}
    (hs : ∀ (Q : Res → Nat → Prop) (EQ : TEX), (∀ m, Q (.sh (.v (.bl true))) m) → sp none 0 [.lsz ns] Q EQ) : toSp K T sp [.ref a] H (fun v _ => v = .bl true) fun _ _ _ => False := by
  refine ⟨startF H a, none, 0, [.lsz ns], fun r _ => r = .sh (.v (.bl true)), fun _ _ => False, ⟨startF_sub, startF_nt, fun _ _ h => h, fun _ _ h => .inl h, fun _ _ h _ _ => h, nofun, fun q hq => ?_⟩, .cons (.lsz hS) .nil, hs _ _ fun m => rfl, fun v H' F' r n' ok rr hr => ?_, fun ex n F H d es ok h1 h2 h3 h4 h5 => h5.elim⟩
  · obtain ⟨p, hp, e⟩ := hT q hq
    refine ⟨#[], by rw [← e]; exact S.tb p hp, True.intro, fun pos cv hc => ?_⟩
    have z : codeAmong pos [] = some cv := hc
    simp [codeAmong] at z
  · subst hr
    cases rr with
    | sh r => cases r; rfl
/-- what is known of the law's promise at the head's heap h -/
def LawAtD (l : PySem.W.OpenLaw) (w : World) (K : PySem.W.Frag) (k n : Nat) (x : Str) (mg : Str → Option Value) (fa : Addr) (h : Heap) : Prop :=
  ∃ (cs : List (Addr × Addr)) (T : List (Addr × Str)) (sp : DSpec), (∀ p ∈ cs, h.get? p.2 = some { cls := .none, data := .fields #[] }) ∧ (∀ p ∈ cs, K.lookup p.2 = none) ∧ (∀ p ∈ cs, PySem.W.CodeHd h p.1 p.2) ∧ (∀ q ∈ T, ∃ p ∈ cs, p.2 = q.1) ∧
    (∀ (ns : List Int) (Q : Res → Nat → Prop) (EQ : TEX), ns.length ≤ n → (∀ z ∈ ns, Builtin.Int.intBits z ≤ 1048576) → (∀ m, Q (.sh (.v (.bl true))) m) → sp none 0 [.lsz ns] Q EQ) ∧
    ∀ base : Heap, K.In base → base.Ns mainGlobals mg → (∀ p ∈ cs, LamX.TabB base mg p.1 p.2) → ∃ fd : FuncData, FnG l.prog w K mg base k fa fd [x] (toSp K T sp) ∧ Binds K fd [x] []
theorem walk_ofD {l : PySem.W.OpenLaw} {n k : Nat} {q : Program} {loose : List Str} {XP : (Str → Option Value) → Heap → Prop} {YP : World → Heap → Prop} {d : DefRec} {x : Str}
    (hn : l.most = some n) (hn2 : n ≤ sizeLine) (hdf : d.params.defaults = []) (hr : Room k callerA)
    (F : ∀ (w : World) (mg : Str → Option Value) (fa : Addr) (h : Heap), YP w h → h.Ns mainGlobals mg → mg d.name = some (.ref fa) → ∃ K : PySem.W.Frag, K.In h ∧ LawAtD l w K k n x mg fa h) :
    PySem.W.WalkO q loose XP YP l.row.toRowW d [] (fun f vs => PySem.call f vs) := by
  refine Att.attach_callB hn hdf fun w s₀ s₁ mg mb fa o pm cd doc a vs ns G Y ho hd hcd hmg ha hi hlen hbits hg => ?_
  obtain ⟨K, KX, cs, T, sp, hT, nT, C, hTT, hsp, hF⟩ := F w mg fa _ Y G.T.g hmg
  have hl := Nat.le_trans hlen hn2
  have isT : ∀ b : Addr, b ∈ cs.map (·.2) → s₁.heap.get? b = some { cls := .none, data := .fields #[] } := fun b hb => by
    obtain ⟨p, hp, e⟩ := List.mem_map.mp hb
    rw [← e]
    exact hT p hp
  have aT : a ∉ cs.map (·.2) := fun z => by
    have q := isT a z
    rw [ha] at q
    have z' : Data.seq vs.toArray _ = Data.fields #[] := congrArg Obj.data (Option.some.inj q)
    cases z'
  have memT : ∀ p ∈ cs, p.2 ∈ cs.map (·.2) := fun p hp => List.mem_map.mpr ⟨p, hp, rfl⟩
  have rv := vals_ints hi
  have lenV := hi.length
  cases hk : K.lookup a with
  | some o =>
    have e := KX a o hk
    rw [ha] at e
    cases e
    have S : Strt K cs s₁.heap a ns (fun b => if b ∈ cs.map (·.2) then some (.tbl #[]) else none) := by
      refine ⟨fun p hp => if_pos (memT p hp), fun b u z => ?_⟩
      by_cases hb : b ∈ cs.map (·.2)
      · obtain ⟨p, hp, ep⟩ := List.mem_map.mp hb
        have z' := (if_pos hb).symm.trans z
        cases z'
        exact .inl ⟨p, hp, ep, rfl⟩
      · have z' := (if_neg hb).symm.trans z
        cases z'
    exact law_run S KX G.T.g G.T.b G.T.builtins G.T.nolimit hg hT nT C G.T.bmain ha hi hl hr hF (toSp_start S (.inr ⟨_, vs.toArray, _, hk, rfl, rfl, rfl, by rw [List.size_toArray, lenV]; exact hl, by simpa using rv⟩) hTT fun Q EQ h => hsp ns Q EQ hlen hbits h)
  | none =>
    have S : Strt K cs s₁.heap a ns (fun b => if b = a then some (.frz { cls := .type "list", data := .seq vs.toArray } (.lst (ns.map V.int))) else if b ∈ cs.map (·.2) then some (.tbl #[]) else none) := by
      refine ⟨fun p hp => (if_neg (show ¬ p.2 = a from fun z => aT (by rw [← z]; exact memT p hp))).trans (if_pos (memT p hp)), fun b u z => ?_⟩
      by_cases hb : b = a
      · have z' := (if_pos hb).symm.trans z
        cases z'
        exact .inr ⟨hb, hk, _, ha, rfl⟩
      · have z1 := (if_neg hb).symm.trans z
        by_cases hb2 : b ∈ cs.map (·.2)
        · have z' := (if_pos hb2).symm.trans z1
          cases z'
          obtain ⟨p, hp, ep⟩ := List.mem_map.mp hb2
          exact .inl ⟨p, hp, ep, rfl⟩
        · have z' := (if_neg hb2).symm.trans z1
          cases z'
    refine law_run S KX G.T.g G.T.b G.T.builtins G.T.nolimit hg hT nT C G.T.bmain ha hi hl hr hF (toSp_start S (.inl (.inr ⟨{ cls := .type "list", data := .seq vs.toArray }, ?_⟩)) hTT fun Q EQ h => hsp ns Q EQ hlen hbits h)
    unfold startF
    simp
/-- the law's promise, the function named -/
theorem fnR_at {P : Program} {w : World} {K : PySem.W.Frag} {T : List (Addr × Str)} {mg : Str → Option Value} {base : Heap} {k : Nat} {x : Str} {ps : List Str} {sp : DSpec} {fa : Addr} (F : FnR P w K T mg base k x ps sp) (h : mg x = some (.ref fa)) : ∃ fd : FuncData, FnG P w K mg base k fa fd ps (toSp K T sp) ∧ Binds K fd ps [] := by
  obtain ⟨f, fd, h1, h2, _, h3⟩ := F.ex
  rw [h] at h2
  cases h2
  exact ⟨fd, h1, h3⟩
end DL
end

section
set_option Elab.async false
set_option linter.all false
set_option maxRecDepth 100000
set_option maxHeartbeats 4000000
/-! DL18: sum of a list of lists. -/
namespace DL
open PySem PySem.Spec PyProof.Rows L2
def preR (rw : Nat → List Value) (i : Nat) : List Value := ((List.range i).map rw).flatten
theorem preR_succ (rw : Nat → List Value) (i : Nat) : preR rw (i + 1) = preR rw i ++ rw i := by
  unfold preR
  rw [List.range_succ, List.map_append, List.flatten_append]
  simp
section
variable {prog : Program} {w : World} {A : Around} {R : Result → Shared → Prop}
theorem sum_rows {I l S : Addr} {items : Array Value} (ad : Nat → Addr) (rw : Nat → List Value) (hIl : l ≠ I) (hSI : S ≠ I) (hSl : S ≠ l) (hit : ∀ (i : Nat) (v : Value), items[i]? = some v → v = .ref (ad i)) (ha : ∀ i, i < items.size → ad i ≠ I ∧ ad i ≠ S)
    (hz : ∀ i, i ≤ items.size → (preR rw i).length ≤ sizeLine) (hh : A.in1.handled = none) :
    ∀ (k i : Nat) (s : Shared) (U : Addr) (c : Nat), items.size - i = k → i ≤ items.size → s.heap.IsListIter I l i → s.heap.IsList l items → s.heap.get? S = some { cls := .type "list", dict := none, data := .seq #[.ref U] c, slots := #[] } →
    (∃ m, PySem.IsL s.heap U (preR rw i).toArray m) → U ≠ I → U ≠ S → (∀ j, j < items.size → ∃ m, PySem.IsL s.heap (ad j) (rw j).toArray m) →
    (∀ h' U', (∃ m, PySem.IsL h' U' (preR rw items.size).toArray m) → (i = items.size ∧ U' = U) ∨ s.heap.objs.size ≤ U' → (∀ b o, b ≠ I → b ≠ S → s.heap.get? b = some o → h'.get? b = some o) → R (.ok (.ret (.ref U'))) { s with heap := h' }) →
    codeAny (model prog w) A (.builtin "sum.loop" ⟨[.ref I, .ref S, rawInt 2, rawInt 0], []⟩) R s := by
  intro k
  induction k with
  | zero =>
    intro i s U c hk hi hI hL hS hU h1 h2 hR hq
    have e : i = items.size := by omega
    refine codeAny_builtin F.entry_sum_loop ?_
    rw [Around.under_plainId F.plain_sum_loop _]
    show wpAny _ A.in1 (seqItems? (.ref S) >>= _) _ _ s
    refine wpAny_bind (wpAny_seqItems hS rfl ?_)
    show wpAny _ A.in1 (tryCatch (pyNext (.ref I)) _ >>= _) _ _ s
    refine wpAny_bind (wpAny_tryCatch (wpAny_pyNext_list_end hh hI hL (by simp [e]) fun h' eb => ?_))
    refine wpAny_pure (hq h' U ?_ (.inl ⟨e, rfl⟩) fun b o hb _ q => eb b o hb q)
    rw [← e]
    exact hU.elim fun m q => ⟨m, eb _ _ h1 q⟩
  | succ k ih =>
    intro i s U c hk hi hI hL hS hU h1 h2 hR hq
    have hlt : i < items.size := by omega
    refine codeAny_builtin F.entry_sum_loop ?_
    rw [Around.under_plainId F.plain_sum_loop _]
    show wpAny _ A.in1 (seqItems? (.ref S) >>= _) _ _ s
    refine wpAny_bind (wpAny_seqItems hS rfl ?_)
    show wpAny _ A.in1 (tryCatch (pyNext (.ref I)) _ >>= _) _ _ s
    refine wpAny_bind (wpAny_tryCatch (wpAny_pyNext_list_item hI hL (x := items[i]) (by simp [hlt]) fun g hI' sb => ?_))
    have ev := hit i items[i] (by simp [hlt])
    rw [ev]
    have kg : ∀ b o, b ≠ I → s.heap.get? b = some o → g.get? b = some o := fun b o hb q => sb.extBut b o hb q
    obtain ⟨m1, hU⟩ := hU
    obtain ⟨m2, hr⟩ := hR i hlt
    have hl2 : (preR rw i).length + (rw i).length ≤ sizeLine := by
      have := hz (i + 1) hlt
      rw [preR_succ, List.length_append] at this
      exact this
    show wpAny _ A.in1 ((holding [Value.ref (ad i)] (binaryOp .Add (.ref U) (.ref (ad i)))).attempt >>= _) _ _ _
    refine wpAny_bind (wpAny_attempt (wpAny_holding (PySem.P.add_list (s := { s with heap := g }) (kg _ _ h1 hU) (kg _ _ (ha i hlt).1 hr) ?_ (by simpa using hl2))))
    obtain ⟨nw, hnw⟩ : ∃ nw : Obj, nw = { cls := .type "list", data := .seq ((preR rw i).toArray ++ (rw i).toArray) } := ⟨_, rfl⟩
    have hnw2 : nw = { cls := .type "list", data := .seq (preR rw (i + 1)).toArray } := by rw [hnw, preR_succ]; simp
    rw [← hnw]
    have nf : nw.isFreed = false := by rw [hnw]; rfl
    have kp : ∀ b o, b ≠ I → s.heap.get? b = some o → (g.push nw).get? b = some o := fun b o hb q => Heap.get?_push_of_some _ (kg b o hb q)
    have hS1 := kp _ _ hSI hS
    show wpAny _ A.in1 (updateSeq S (fun _ => #[.ref g.objs.size]) >>= _) _ _ _
    refine wpAny_bind (wpAny_updateSeq hS1 rfl ?_)
    have hS2 := Heap.get?_update_self (Obj.mapSeq fun _ => #[Value.ref g.objs.size]) hS1 rfl
    refine wpAny_bind (wpAny_letGo ?_)
    have hS3 := Heap.get?_update_self (Obj.mapSeq fun _ => #[Value.ref g.objs.size]) hS2 rfl
    have ku : ∀ b o, b ≠ S → (g.push nw).get? b = some o → (((g.push nw).update S (Obj.mapSeq fun _ => #[Value.ref g.objs.size])).update S (Obj.mapSeq fun _ => #[Value.ref g.objs.size])).get? b = some o := fun b o hb q => by
      rw [Heap.get?_update_other _ _ (Ne.symm hb), Heap.get?_update_other _ _ (Ne.symm hb)]
      exact q
    have gs : g.objs.size = s.heap.objs.size := sb.1
    have sI : I < g.objs.size := by obtain ⟨o, q, _⟩ := hI'; exact Heap.lt_size q
    have sS : S < g.objs.size := Heap.lt_size (kg _ _ hSI hS)
    have hnew : (((g.push nw).update S (Obj.mapSeq fun _ => #[Value.ref g.objs.size])).update S (Obj.mapSeq fun _ => #[Value.ref g.objs.size])).get? g.objs.size = some nw := ku _ _ (Nat.ne_of_gt sS) (Heap.get?_push_size _ nf)
    refine wpAny_bind (wpAny_updateSeq hS2 rfl (wpAny_pure ⟨plainId_quiet F.plain_sum_loop _, ih (i + 1) _ g.objs.size _ (by omega) hlt ?_ ?_ hS3 ⟨0, ?_⟩ (Nat.ne_of_gt sI) (Nat.ne_of_gt sS) (fun j hj => ?_) fun h' U' q1 q2 q3 => ?_⟩))
    · obtain ⟨o, q, r⟩ := hI'
      exact ⟨o, ku _ _ (Ne.symm hSI) (Heap.get?_push_of_some _ q), r⟩
    · exact hL.at fun o q => ku _ _ (Ne.symm hSl) (kp _ _ hIl q)
    · exact hnew.trans (congrArg some hnw2)
    · obtain ⟨m, q⟩ := hR j hj
      exact ⟨m, ku _ _ (ha j hj).2 (kp _ _ (ha j hj).1 q)⟩
    · refine hq h' U' q1 (.inr ?_) fun b o hb1 hb2 q => q3 b o hb1 hb2 (ku _ _ hb2 (kp _ _ hb1 q))
      rcases q2 with ⟨_, rfl⟩ | q2
      · exact Nat.le_of_eq gs.symm
      · refine Nat.le_trans ?_ q2
        show s.heap.objs.size ≤ (((g.push nw).update S _).update S _).objs.size
        rw [Heap.size_update, Heap.size_update, Heap.size_push]
        omega
theorem args_sum2 (a b : Value) : argsOk "sum" ⟨[a, b], []⟩ := by unfold argsOk; kernel_rfl
theorem call_sumL {E : Value → Shared → Prop} {s : Shared} {l s0 : Addr} {m0 : Nat} {items : Array Value} {Q : Value → Shared → Prop} (ad : Nat → Addr) (rw : Nat → List Value) (hh : A.handled = none) (hl : s.heap.IsList l items) (h0 : PySem.IsL s.heap s0 #[] m0) (hne : 0 < items.size)
    (hit : ∀ (i : Nat) (v : Value), items[i]? = some v → v = .ref (ad i)) (hr : ∀ j, j < items.size → ∃ m, PySem.IsL s.heap (ad j) (rw j).toArray m) (hz : ∀ i, i ≤ items.size → (preR rw i).length ≤ sizeLine)
    (hq : ∀ h' U, (∃ m, PySem.IsL h' U (preR rw items.size).toArray m) → s.heap.objs.size ≤ U → (∀ b o, s.heap.get? b = some o → h'.get? b = some o) → Q (.ref U) { s with heap := h' }) : wpAny (model prog w) A (call (.builtin "sum") [.ref l, .ref s0]) Q E s := by
  refine call_function_tree F.kind_sum F.plain_sum F.entry_sum (args_sum2 _ _) ?_
  unfold Builtin.«sum»
  simp only [List.length_cons, List.length_nil]
  rw [if_neg (by decide)]
  refine wpAny_bind (wpAny_of_eq (show Builtin.Builtins.bindParams "sum" ["start"] 0 ⟨[.ref s0], []⟩ = pure [some (.ref s0)] from rfl) ?_)
  refine wpAny_bind (wpAny_pyIter_list hl ?_)
  have hit0 : ({ s with heap := s.heap.push { cls := .type "list_iterator", data := .fields #[.ref l, .int 0 0] } } : Shared).heap.IsListIter s.heap.objs.size l 0 := ⟨_, Heap.get?_push_size _ rfl, rfl, rfl⟩
  have kp : ∀ b o, s.heap.get? b = some o → (s.heap.push { cls := .type "list_iterator", data := .fields #[.ref l, .int 0 0] }).get? b = some o := fun b o q => Heap.get?_push_of_some _ q
  obtain ⟨h1, eh1⟩ : ∃ h1, h1 = s.heap.push { cls := .type "list_iterator", data := .fields #[.ref l, .int 0 0] } := ⟨_, rfl⟩
  have z1 : h1.objs.size = s.heap.objs.size + 1 := by rw [eh1, Heap.size_push]
  rw [← eh1] at hit0 kp ⊢
  have h01 := kp _ _ h0
  refine wpAny_bind (wpAny_pure ?_)
  simp only [List.forIn_cons, List.forIn_nil]
  refine wpAny_bind (wpAny_bind (wpAny_bind (wpAny_isInstance (T := "list") (b := false) ⟨_, h01, rfl⟩ F.sub_list_str ?_)))
  simp only [Bool.false_eq_true, if_false]
  refine wpAny_pure (wpAny_bind (wpAny_bind (wpAny_isInstance (T := "list") (b := false) ⟨_, h01, rfl⟩ (by rw [isSubtype_type]; kernel_rfl) ?_)))
  simp only [Bool.false_eq_true, if_false]
  refine wpAny_pure (wpAny_bind (wpAny_bind (wpAny_isInstance (T := "list") (b := false) ⟨_, h01, rfl⟩ (by rw [isSubtype_type]; kernel_rfl) ?_)))
  simp only [Bool.false_eq_true, if_false]
  refine wpAny_pure (wpAny_pure (wpAny_bind (wpAny_newObj_type ?_)))
  have ll : l < s.heap.objs.size := by obtain ⟨o, q, _⟩ := hl; exact Heap.lt_size q
  have l0 : s0 < s.heap.objs.size := Heap.lt_size h0
  have hSI : (h1.objs.size : Nat) ≠ s.heap.objs.size := by omega
  have lh : ∀ {b : Nat}, b < s.heap.objs.size → b ≠ h1.objs.size := fun h => by omega
  refine wpAny_pure ⟨plainId_quiet F.plain_sum_loop _, sum_rows ad rw (Nat.ne_of_lt ll) (I := s.heap.objs.size) (S := h1.objs.size) hSI (fun e => lh ll e.symm) hit (fun i hi => ?_) hz hh items.size 0 _ s0 0 rfl (Nat.zero_le _) ?_ ?_ (Heap.get?_push_size _ rfl) ⟨m0, Heap.get?_push_of_some _ h01⟩ (Nat.ne_of_lt l0) (lh l0) (fun j hj => (hr j hj).elim fun m q => ⟨m, Heap.get?_push_of_some _ (kp _ _ q)⟩) fun h' U q1 q2 q3 => ?_⟩
  · obtain ⟨m, q⟩ := hr i hi
    have := Heap.lt_size q
    exact ⟨Nat.ne_of_lt this, lh this⟩
  · obtain ⟨o, q, r⟩ := hit0
    exact ⟨o, Heap.get?_push_of_some _ q, r⟩
  · exact hl.at fun o q => Heap.get?_push_of_some _ (kp _ _ q)
  · refine hq h' U q1 ?_ fun b o q => ?_
    · rcases q2 with ⟨e, _⟩ | q2
      · omega
      · refine Nat.le_trans ?_ q2
        show s.heap.objs.size ≤ (h1.push _).objs.size
        rw [Heap.size_push]
        omega
    · have := Heap.lt_size q
      exact q3 b o (Nat.ne_of_lt this) (lh this) (Heap.get?_push_of_some _ (kp _ _ q))
end
/-- sum(x, []) of a list of lists, some -/
def rSumL (K : PySem.W.Frag) : List V → Hp → VK → Prop := fun vs H Q => ∃ (a b : Addr) (as : List Addr) (xss : List (List V)), vs = [.ref a, .ref b] ∧ H a = some (.lst (as.map V.ref)) ∧ H b = some (.lst []) ∧ as ≠ [] ∧ Paired (fun c xs => H c = some (.lst xs)) as xss ∧ xss.flatten.length ≤ sizeLine ∧ ∀ p, H p = none → Q (.ref p) (upd H p (.lst xss.flatten))
theorem paired_get {α β : Type} {r : α → β → Prop} : ∀ {as : List α} {bs : List β}, Paired r as bs → ∀ (i : Nat) (a : α), as[i]? = some a → ∃ b, bs[i]? = some b ∧ r a b
  | _, _, .nil, i, a, h => by simp at h
  | _, _, .cons h t, 0, a, e => by simp at e; subst e; exact ⟨_, rfl, h⟩
  | _, _, .cons h t, i + 1, a, e => by
    obtain ⟨b, q1, q2⟩ := paired_get t i a (by simpa using e)
    exact ⟨b, by simpa using q1, q2⟩
section
variable {X : Cx}
theorem rows_of {pins : List (Addr × Obj)} {σ : L2.St} {H : Hp} {s : Shared} (I : Inv X pins σ H s) : ∀ {as : List Addr} {xss : List (List V)}, Paired (fun c xs => H c = some (.lst xs)) as xss → ∃ rss : List (List Value), rss.length = as.length ∧ Vals xss.flatten rss.flatten ∧ (∀ i : Nat, i ≤ as.length → (rss.take i).flatten.length = (xss.take i).flatten.length) ∧ ∀ (j : Nat) (a : Addr), as[j]? = some a → ∃ r m, rss[j]? = some r ∧ PySem.IsL s.heap a r.toArray m
  | _, _, .nil => ⟨[], rfl, .nil, fun i _ => by simp, fun j a h => by simp at h⟩
  | _, _, .cons h t => by
    obtain ⟨rss, h1, h2, h3, h4⟩ := rows_of I t
    obtain ⟨z, its, n, r, hl, e⟩ := I.lstM h
    refine ⟨its :: rss, by simp [h1], by simpa using r.append h2, fun i hi => ?_, fun j a ha => ?_⟩
    · cases i with
      | zero => simp
      | succ i => simp [h3 i (by simpa using hi), hl]
    · cases j with
      | zero => simp at ha; subst ha; exact ⟨its, n, rfl, e⟩
      | succ j =>
        obtain ⟨r, m, q1, q2⟩ := h4 j a (by simpa using ha)
        exact ⟨r, m, by simpa using q1, q2⟩
theorem preR_eq (rss : List (List Value)) : ∀ i, i ≤ rss.length → preR (fun j => (rss[j]?).getD []) i = (rss.take i).flatten := by
  intro i hi
  unfold preR
  congr 1
  refine List.ext_getElem? fun j => ?_
  by_cases hj : j < i
  · have hj2 : j < rss.length := by omega
    simp [hj, hj2]
  · simp [hj, Nat.le_of_not_lt hj]
    omega
theorem cr_sumL (hc : X.calm = true) : CallR X (.builtin "sum") (rSumL X.K) := by
  intro pins s σ H vs us Q I r h
  obtain ⟨a, b, as, xss, rfl, ha, hb, hne, hp, hz, q⟩ := h
  cases r with
  | cons r1 rr =>
    cases rr with
    | cons r2 rr =>
      cases rr
      cases r1
      cases r2
      obtain ⟨z, its, n, rv, hl, e⟩ := I.lstM ha
      obtain ⟨z0, its0, n0, rv0, hl0, e0⟩ := I.lstM hb
      cases rv0
      obtain ⟨rss, k1, k2, k3, k4⟩ := rows_of I hp
      have hlen : its.length = as.length := by rw [← hl, List.length_map]
      have hsz : its.toArray.size = rss.length := by simp [hlen, k1]
      have hflat : rss.flatten.length = xss.flatten.length := k2.length.symm
      refine call_sumL (prog := X.prog) (w := X.w) (items := its.toArray) (fun i => (as[i]?).getD 0) (fun j => (rss[j]?).getD []) (I.ok.hd hc) ⟨_, e, rfl, n, rfl⟩ e0 ?_ (fun i v hv => ?_) (fun j hj => ?_) (fun i hi => ?_) fun h' U hU hn hk => ?_
      · rw [hsz, k1]
        exact List.length_pos_iff.mpr hne
      · have hv : its[i]? = some v := by simpa using hv
        have hi : i < as.length := by rw [← hlen]; exact (List.getElem?_eq_some_iff.mp hv).1
        obtain ⟨u, hu, ru⟩ := rv.get (i := i) (x := V.ref as[i]) (by simp [hi])
        rw [hv] at hu
        cases hu
        cases ru
        simp [hi]
      · have hj : j < as.length := by rw [hsz, k1] at hj; exact hj
        obtain ⟨r, m, q1, q2⟩ := k4 j as[j] (by simp [hj])
        refine ⟨m, ?_⟩
        simp only [q1, Option.getD_some, List.getElem?_eq_getElem hj]
        exact q2
      · rw [hsz] at hi
        rw [preR_eq rss i hi]
        refine Nat.le_trans ?_ hz
        rw [← hflat]
        have := List.length_append (as := (rss.take i).flatten) (bs := (rss.drop i).flatten)
        rw [← List.flatten_append, List.take_append_drop] at this
        omega
      · rw [hsz, preR_eq rss _ (Nat.le_refl _), List.take_length] at hU
        obtain ⟨m, hU⟩ := hU
        exact ⟨.ref U, upd H U (.lst xss.flatten), I.laid (t' := s.toks) hk hn ⟨hz, rss.flatten, m, k2, hU⟩, rfl, q U (I.hok.fresh hn)⟩
end
@[reducible, simp] def rowsOf : List D → Option (List (List D))
  | [] => some []
  | .lst ds :: r => (rowsOf r).map (ds :: ·)
  | _ => none
@[reducible, simp] def gSumL : GC := fun ds Q => ∃ es xss, ds = [.lst es, .lst []] ∧ es ≠ [] ∧ rowsOf es = some xss ∧ xss.flatten.length ≤ 1000000 ∧ Q (.lst xss.flatten)
theorem reps_rows {K : PySem.W.Frag} {F H : Hp} (s : Same F H) : ∀ {es : List D} {vs : List V} {xss : List (List D)}, Reps K F es vs → rowsOf es = some xss → ∃ (as : List Addr) (yss : List (List V)), vs = as.map V.ref ∧ Paired (fun c xs => H c = some (.lst xs)) as yss ∧ Reps K F xss.flatten yss.flatten
  | _, _, _, .nil, h => by simp at h; subst h; exact ⟨[], [], rfl, .nil, .nil⟩
  | _, _, _, .cons (.lst hf r) t, h => by
    simp only [rowsOf, Option.map_eq_some_iff] at h
    obtain ⟨x2, h1, rfl⟩ := h
    obtain ⟨as, yss, rfl, hp, hr⟩ := reps_rows s t h1
    exact ⟨_ :: as, _ :: yss, rfl, .cons (s _ _ hf) hp, by simpa using r.append hr⟩
  | _, _, _, .cons (.v _) t, h => by simp at h
  | _, _, _, .cons (.tup _ _) t, h => by simp at h
  | _, _, _, .cons (.dic _ _ _) t, h => by simp at h
  | _, _, _, .cons (.ins _ _ _) t, h => by simp at h
  | _, _, _, .cons (.at _) t, h => by simp at h
  | _, _, _, .cons (.lsz _) t, h => by simp at h
theorem p_sumL {K : PySem.W.Frag} : PCN K (rSumL K) gSumL := by
  intro F H ds vs Q R s rp h k
  obtain ⟨es, xss, rfl, hne, hx, hl, q⟩ := h
  cases rp with
  | cons r1 t =>
    cases t with
    | cons r2 t =>
      cases t
      cases r1 with
      | lst hf rr =>
        cases r2 with
        | lst hf2 rr2 =>
          cases rr2
          obtain ⟨as, yss, rfl, hp, hr⟩ := reps_rows s rr hx
          refine ⟨_, _, as, yss, rfl, s _ _ hf, s _ _ hf2, fun z => ?_, hp, size_ok (by rw [← hr.length]; exact hl), fun p hn => k _ _ p hn (.lst hr) q⟩
          subst z
          cases rr
          exact hne rfl
end DL
end

section
set_option Elab.async false
set_option linter.all false
set_option maxRecDepth 100000
set_option maxHeartbeats 4000000
/-! DL19: an own list of three whole numbers is the stream of draws from now on; a call of a def that a slot holds. -/
namespace DL
open PySem PySem.Spec PyProof.Rows L2
section
variable {K : PySem.W.Frag} {T : List (Addr × Str)} {F0 H0 F H : Hp} {σ : Sg} {z : Z} {sp : Addr} {n : Nat}
theorem Ok.noS (a : Ok T (some sp) F0 H0 F H n) (h : Fr H0 sp) : Ok T none F0 H0 F H n where
  sub := a.sub
  nt := a.nt
  f0 := a.f0
  new := a.new
  keep := fun x o e _ hn => a.keep x o e (fun q => by
    cases q
    obtain ⟨ps, q⟩ := h o e
    exact hn ps q) hn
  strm := fun sp e => by cases e
  tabs := a.tabs
theorem Ok.inS (a : Ok T none F0 H0 F H n) (hF : F sp = none) (h : StrmOk H sp n) : Ok T (some sp) F0 H0 F H n where
  sub := a.sub
  nt := a.nt
  f0 := a.f0
  new := a.new
  keep := fun x o e _ hn => a.keep x o e (fun q => by cases q) hn
  strm := fun s e => by cases e; exact ⟨hF, h⟩
  tabs := a.tabs
theorem Own.noS {a : Addr} {o : D} (w : Own K (some sp) F H0 H a o) : Own K none F H0 H a o := ⟨w.ho, w.f, w.h0, nofun, w.pin⟩
theorem Rel.noS (r : Rel K T (some sp) F0 H0 F H σ z) (h : Fr H0 sp) : Rel K T none F0 H0 F H σ z where
  ok := r.ok.noS h
  len := r.len
  sh := r.sh
  ow := fun i o e => (r.ow i o e).imp fun a q => ⟨q.1, q.2.noS⟩
  apart := r.apart
  bs := r.bs
theorem Rel.inS {i : Nat} {z0 z1 z2 : Int} (r : Rel K T none F0 H0 F H σ z) (hz : z.env[i]? = some (.ow (.lst [.v (.int z0), .v (.int z1), .v (.int z2)]))) (b0 : Builtin.Int.intBits z0 ≤ 1048576) (b1 : 0 ≤ z1) (b2 : z1 ≤ 1099511627776) (b3 : 0 ≤ z2) (b4 : z2 ≤ (z.n : Int)) :
    ∃ sp, Fr H0 sp ∧ Rel K T (some sp) F0 H0 F H σ { z with env := z.env.set i (.sh (.v (.ref sp))) } := by
  obtain ⟨a, e1, ⟨u, hu, c⟩, hf, h0, _, pn⟩ := r.ow i _ hz
  have hlt : i < z.env.length := (List.getElem?_eq_some_iff.mp hz).1
  cases c with
  | @lst _ xs rr =>
    have ex : xs = [.int z0, .int z1, .int z2] := Reps.toV (vs := [.int z0, .int z1, .int z2]) rr
    subst ex
    refine ⟨a, h0, r.ok.inS hf ⟨z0, z1, z2, hu, b0, b1, b2, b3, b4⟩, by simpa using r.len, fun j d hj => ?_, fun j o hj => ?_, fun j k o o' b hjk hj hk => ?_, bs_set r.len (fun v h => nomatch h) r.bs⟩
    · by_cases e : i = j
      · subst e
        rw [List.getElem?_set_self hlt] at hj
        cases hj
        exact ⟨_, e1, .v _⟩
      · rw [List.getElem?_set_ne e] at hj
        exact r.sh j d hj
    · by_cases e : i = j
      · subst e
        rw [List.getElem?_set_self hlt] at hj
        cases hj
      · rw [List.getElem?_set_ne e] at hj
        obtain ⟨b, q1, q2⟩ := r.ow j o hj
        refine ⟨b, q1, q2.ho, q2.f, q2.h0, fun q => ?_, q2.pin⟩
        cases q
        exact r.apart i j _ _ _ e hz hj e1 q1
    · have hj2 : z.env[j]? = some (.ow o) := by
        by_cases e : i = j
        · subst e
          rw [List.getElem?_set_self hlt] at hj
          cases hj
        · rwa [List.getElem?_set_ne e] at hj
      have hk2 : z.env[k]? = some (.ow o') := by
        by_cases e : i = k
        · subst e
          rw [List.getElem?_set_self hlt] at hk
          cases hk
        · rwa [List.getElem?_set_ne e] at hk
      exact r.apart j k o o' b hjk hj2 hk2
end
section
variable {T : List (Addr × Str)} {X : Cx} {E : XK} {ss : List Stmt} {m : TDS} {mas : TDA} {e : Expr} {es : List Expr} {p pos : Pos} {k j : Nat} {x : Str}
/-- the own list at slot i is the stream from now on -/
@[reducible, simp] def bStrm (i : Nat) (m : TDS) : TDS := fun st D z EQ => st = none ∧ ∃ z0 z1 z2 : Int, z.env[i]? = some (.ow (.lst [.v (.int z0), .v (.int z1), .v (.int z2)])) ∧ Builtin.Int.intBits z0 ≤ 1048576 ∧ 0 ≤ z1 ∧ z1 ≤ 1099511627776 ∧ 0 ≤ z2 ∧ z2 ≤ (z.n : Int) ∧ ∀ sp : Addr, m (some sp) D { z with env := z.env.set i (.sh (.v (.ref sp))) } EQ
theorem db_strm (i : Nat) (h : DB T X E ss m) : DB T X E ss (bStrm i m) := by
  obtain ⟨t, p, q⟩ := h.ex
  refine ⟨⟨t, p, fun st F0 H0 F H σ z D EQ D' r er h k => ?_⟩⟩
  obtain ⟨rfl, z0, z1, z2, hz, b0, b1, b2, b3, b4, h2⟩ := h
  obtain ⟨sp, fr, r2⟩ := r.inS hz b0 b1 b2 b3 b4
  refine q (some sp) F0 H0 F H σ _ D EQ D' r2 (fun ex n F H d es ok => er ex n F H d es (ok.noS fr)) (h2 sp) ⟨fun σ1 H1 F1 z1 s1 r1 => k.nx σ1 H1 F1 z1 s1 (r1.noS fr), fun σ1 H1 F1 z1 s1 r1 => k.bk σ1 H1 F1 z1 s1 (r1.noS fr), fun σ1 H1 F1 z1 s1 r1 => k.ct σ1 H1 F1 z1 s1 (r1.noS fr), fun v H1 F1 rr n1 s1 ok1 rr1 => k.rt v H1 F1 rr n1 s1 (ok1.noS fr) ?_⟩
  cases rr1 with
  | sh a => exact .sh a
  | nw w => exact .nw w.noS
  | fr w => exact .fr w
/-- a def that a slot may hold -/
structure Heldd (P : Program) (w : World) (K : PySem.W.Frag) (T : List (Addr × Str)) (mg : Str → Option Value) (base : Heap) (k : Nat) (f : Addr) (sp : DSpec) : Prop where
  ex : ∃ (fd : FuncData) (ps : List Str), FnOk P w K mg base (L2.CX P w) k f fd ps (toSp K T sp) ∧ PySem.W.keepIn K (.ref f) = true ∧ Binds K fd ps []
def tCallV (K : PySem.W.Frag) (T : List (Addr × Str)) (i : Nat) (S : Addr → Option DSpec) (E : XK) (t : TA) : TE := fun σ H Q => ∃ f sp, σ[i]? = some (some (.ref f)) ∧ S f = some sp ∧ t σ H fun vs H1 => toSp K T sp (vs ++ []) H1 Q E
theorem pe_callV {S : Addr → Option DSpec} {i : Nat} {t : TA} (A : ∀ f sp, S f = some sp → Heldd X.prog X.w X.K T X.mg X.base k f sp) (hr : Room k X.A) (hN : X.N[i]? = some x) (hv : Vis X.env.scope x) (hx : Passes (L2.CX X.prog X.w) X E) (ha : PA X (e :: es) t)
    (hdb : (x == ("__debug__" : Str)) = false) (hcd : (x == ("__classdict__" : Str)) = false)
    (he : starEach (e :: es) X.env = (false, eval e X.env) :: starEach es X.env) (hpl : (backTo pos (starEach es X.env)).any (·.1) = false) : PE X (.Call (.Name x p) (e :: es) [] pos) (tCallV X.K T i S E t) := by
  refine ⟨fun pins s σ H Q I h => ?_⟩
  obtain ⟨f, sp, hs, hS, ht⟩ := h
  obtain ⟨fd, ps, F, hk, hb⟩ := (A f sp hS).ex
  exact (pe_callL F hr hN hv hk hb .nil hx ha hdb hcd he hpl).run pins s σ H Q I ⟨hs, ht⟩
/-- f(e, ..), the def stands in slot i -/
@[reducible, simp] def mCallV (i : Nat) (S : Addr → Option DSpec) (ma : TDA) : TDE := fun st z Q EQ => ∃ f sp, z.env[i]? = some (.sh (.v (.ref f))) ∧ S f = some sp ∧ ma st z (fun ds z1 => sp st z1.n ds (fun r n' => Q r.d { z1 with n := n' }) EQ) EQ
theorem de_callV {S : Addr → Option DSpec} (i : Nat) (A : ∀ f sp, S f = some sp → Heldd X.prog X.w X.K T X.mg X.base k f sp) (hr : Room j X.A) (hk : k ≤ j) (hx : Passes (L2.CX X.prog X.w) X E) (ha : DA T X E (e :: es) mas) (hN : X.N[i]? = some x := by rfl) (hv : Vis X.env.scope x := by first | exact Or.inl rfl | exact Or.inr (Or.inl rfl) | exact Or.inr (Or.inr rfl))
    (hdb : (x == ("__debug__" : Str)) = false := by decide) (hcd : (x == ("__classdict__" : Str)) = false := by decide)
    (he : starEach (e :: es) X.env = (false, eval e X.env) :: starEach es X.env := by rfl) (hpl : (backTo pos (starEach es X.env)).any (·.1) = false := by rfl) : DE T X E (.Call (.Name x p) (e :: es) [] pos) (mCallV i S mas) := by
  obtain ⟨ta, pa, qa⟩ := ha.ex
  refine ⟨⟨_, pe_callV A (hr.mono hk) hN hv hx pa hdb hcd he hpl, fun st F0 H0 F H σ z Q EQ R r er h k => ?_⟩⟩
  obtain ⟨f, sp, hz, hS, h2⟩ := h
  obtain ⟨v, hv1, hv2⟩ := r.sh i _ hz
  cases hv2
  refine ⟨f, sp, hv1, hS, ?_⟩
  refine qa st F0 H0 F H σ z _ EQ _ r er h2 fun vs H1 F1 ds z1 s1 r1 p1 h1 => call_sp r1 er p1 h1 fun v H2 F2 rr n' ok q qd => ?_
  obtain ⟨F3, s3, r3, rp⟩ := res_sh r1 ok q
  exact k v H2 F3 _ _ (s1.trans s3) r3 rp qd
end
end DL
end

section
set_option Elab.async false
set_option linter.all false
set_option maxRecDepth 100000
set_option maxHeartbeats 4000000
/-! DL20: own cells of which others hold the bare address: pinned, named by it, told for what they hold. -/
namespace DL
open PySem PySem.Spec PyProof.Rows L2
theorem upd_idem {H : Hp} {a : Addr} {u : HO} (h : H a = some u) : upd H a u = H := by
  funext b
  by_cases e : b = a
  · subst e; rw [upd_same, h]
  · rw [upd_ne e]
section
variable {K : PySem.W.Frag} {T : List (Addr × Str)} {st : Option Addr} {F0 H0 F H : Hp} {σ : Sg} {z : Z} {i : Nat} {o o' : D}
/-- the same cell, said otherwise -/
theorem Rel.say {a : Addr} (r : Rel K T st F0 H0 F H σ z) (h : z.env[i]? = some (.ow o)) (hσ : σ[i]? = some (some (.ref a))) (e : o'.un = o.un) (pn : ∀ b d, o' = .at b d → a = b) : Rel K T st F0 H0 F H σ { z with env := z.env.set i (.ow o') } := by
  obtain ⟨a2, hσ2, w⟩ := r.ow i o h
  rw [hσ] at hσ2
  cases hσ2
  obtain ⟨u, hu, c⟩ := w.ho
  have := r.putA (o' := o') (u' := u) h hσ (by rw [e]; exact c) pn
  rwa [upd_idem hu] at this
mutual
/-- the bare address a told for what it holds -/
def resD (a : Addr) (d : D) : D → D
  | .v (.ref b) => if b = a then d else .v (.ref b)
  | .lst ds => .lst (resDs a d ds)
  | .tup ds => .tup (resDs a d ds)
  | x => x
def resDs (a : Addr) (d : D) : List D → List D
  | [] => []
  | x :: xs => resD a d x :: resDs a d xs
end
mutual
theorem rep_res {a : Addr} {d : D} (h : Rep K F d (.ref a)) : ∀ {x : D} {v : V}, Rep K F x v → Rep K F (resD a d x) v
  | _, _, .v x => by
    cases x with
    | ref b =>
      simp only [resD]
      by_cases e : b = a
      · subst e
        rw [if_pos rfl]
        exact h
      · rw [if_neg e]
        exact .v _
    | _ => simp only [resD]; exact .v _
  | _, _, .lst hf r => by simp only [resD]; exact .lst hf (reps_res h r)
  | _, _, .tup hf r => by simp only [resD]; exact .tup hf (reps_res h r)
  | _, _, .dic hf hk r => by simp only [resD]; exact .dic hf hk r
  | _, _, .ins hf hk r => by simp only [resD]; exact .ins hf hk r
  | _, _, .at h2 => by simp only [resD]; exact .at h2
  | _, _, .lsz h2 => by simp only [resD]; exact .lsz h2
theorem reps_res {a : Addr} {d : D} (h : Rep K F d (.ref a)) : ∀ {xs : List D} {vs : List V}, Reps K F xs vs → Reps K F (resDs a d xs) vs
  | _, _, .nil => by simp only [resDs]; exact .nil
  | _, _, .cons r t => by simp only [resDs]; exact .cons (rep_res h r) (reps_res h t)
end
end
section
variable {T : List (Addr × Str)} {X : Cx} {E : XK} {e : Expr} {ss : List Stmt} {m : TDS} {me : TDE} {pos p : Pos} {x y : Str}
/-- an own cell is pinned: its address is a letter from now on -/
@[reducible, simp] def bPin (i : Nat) (m : TDS) : TDS := fun st Dn z EQ => ∃ o : D, z.env[i]? = some (.ow o) ∧ o.un = o ∧ ∀ a : Addr, m st Dn { z with env := z.env.set i (.ow (.at a o)) } EQ
theorem db_pin (i : Nat) (h : DB T X E ss m) : DB T X E ss (bPin i m) := by
  obtain ⟨t, p, q⟩ := h.ex
  refine ⟨⟨t, p, fun st F0 H0 F H σ z D EQ D' r er h k => ?_⟩⟩
  obtain ⟨o, hz, ho, h2⟩ := h
  obtain ⟨a, hσ, w⟩ := r.ow i _ hz
  exact q st F0 H0 F H σ _ D EQ D' (r.say (o' := .at a o) hz hσ ho.symm fun b d e => by cases e; rfl) er (h2 a) k
@[reducible, simp] def bUnpin (i : Nat) (m : TDS) : TDS := fun st Dn z EQ => ∃ (a : Addr) (d : D), z.env[i]? = some (.ow (.at a d)) ∧ d.un = d ∧ (∀ b x, d ≠ .at b x) ∧ m st Dn { z with env := z.env.set i (.ow d) } EQ
theorem db_unpin (i : Nat) (h : DB T X E ss m) : DB T X E ss (bUnpin i m) := by
  obtain ⟨t, p, q⟩ := h.ex
  refine ⟨⟨t, p, fun st F0 H0 F H σ z D EQ D' r er h k => ?_⟩⟩
  obtain ⟨a, d, hz, hd, hn, h2⟩ := h
  obtain ⟨b, hσ, w⟩ := r.ow i _ hz
  exact q st F0 H0 F H σ _ D EQ D' (r.say (o' := d) hz hσ hd fun b x e => absurd e (hn b x)) er h2 k
/-- a pinned own cell's name, by its bare address -/
@[reducible, simp] def mRef (i : Nat) : TDE := fun _ z Q _ => ∃ a d, z.env[i]? = some (.ow (.at a d)) ∧ Q (.v (.ref a)) z
theorem de_ref (i : Nat) (hN : X.N[i]? = some x := by rfl) (hv : Vis X.env.scope x := by first | exact Or.inl rfl | exact Or.inr (Or.inl rfl) | exact Or.inr (Or.inr rfl)) (hd : (x == ("__debug__" : Str)) = false := by decide)
    (hcd : (x == ("__classdict__" : Str)) = false := by decide) : DE T X E (.Name x pos) (mRef i) := by
  refine ⟨⟨_, pe_var hN hv hd hcd, fun st F0 H0 F H σ z Q EQ R r er h k => ?_⟩⟩
  obtain ⟨a, d, hz, h2⟩ := h
  obtain ⟨b, hσ, w⟩ := r.ow i _ hz
  have e := w.pin a d rfl
  subst e
  exact ⟨_, hσ, k _ H F _ z (Same.refl F) r (.v _) h2⟩
/-- slot j told with the cell at slot i told for what it holds (both to be read) -/
@[reducible, simp] def mRes (j i : Nat) : TDE := fun _ z Q _ => ∃ a d x, z.env[i]? = some (.sh (.at a d)) ∧ z.env[j]? = some (.sh x) ∧ Q (resD a d x) z
theorem de_res (j i : Nat) (hN : X.N[j]? = some x := by rfl) (hv : Vis X.env.scope x := by first | exact Or.inl rfl | exact Or.inr (Or.inl rfl) | exact Or.inr (Or.inr rfl)) (hd : (x == ("__debug__" : Str)) = false := by decide)
    (hcd : (x == ("__classdict__" : Str)) = false := by decide) : DE T X E (.Name x pos) (mRes j i) := by
  refine ⟨⟨_, pe_var hN hv hd hcd, fun st F0 H0 F H σ z Q EQ R r er h k => ?_⟩⟩
  obtain ⟨a, d, x, hz, hx, h2⟩ := h
  obtain ⟨v, hv1, hv2⟩ := r.sh i _ hz
  obtain ⟨u, hu1, hu2⟩ := r.sh j _ hx
  cases hv2 with
  | «at» hr => exact ⟨u, hu1, k _ H F _ z (Same.refl F) r (rep_res hr hu2) h2⟩
/-- what a slot to be read holds, the pin left out -/
@[reducible, simp] def mVarU (i : Nat) : TDE := fun _ z Q _ => ∃ d, z.env[i]? = some (.sh d) ∧ Q d.un z
theorem de_varU (i : Nat) (hN : X.N[i]? = some x := by rfl) (hv : Vis X.env.scope x := by first | exact Or.inl rfl | exact Or.inr (Or.inl rfl) | exact Or.inr (Or.inr rfl)) (hd : (x == ("__debug__" : Str)) = false := by decide)
    (hcd : (x == ("__classdict__" : Str)) = false := by decide) : DE T X E (.Name x pos) (mVarU i) := by
  refine ⟨⟨_, pe_var hN hv hd hcd, fun st F0 H0 F H σ z Q EQ R r er h k => ?_⟩⟩
  obtain ⟨d, hz, h2⟩ := h
  obtain ⟨v, hv1, hv2⟩ := r.sh i _ hz
  exact ⟨v, hv1, k _ H F _ z (Same.refl F) r hv2.un h2⟩
/-- x.append(e), x a pinned own list -/
@[reducible, simp] def mAppP (i : Nat) (me : TDE) : TDE := fun st z Q EQ => (∃ a ds, z.env[i]? = some (.ow (.at a (.lst ds)))) ∧ me st z (fun d z1 => ∃ a ds, z1.env[i]? = some (.ow (.at a (.lst ds))) ∧ ds.length < 1000000 ∧ Q (.v .non) (z1.put i (.ow (.at a (.lst (ds ++ [d])))))) EQ
theorem ow_lstP {K : PySem.W.Frag} {st : Option Addr} {F0 H0 F H : Hp} {σ : Sg} {z : Z} {i : Nat} {a : Addr} {ds : List D} (r : Rel K T st F0 H0 F H σ z) (h : z.env[i]? = some (.ow (.at a (.lst ds)))) : ∃ xs, σ[i]? = some (some (.ref a)) ∧ H a = some (.lst xs) ∧ Reps K F ds xs := by
  obtain ⟨b, e1, w⟩ := r.ow i _ h
  have e := w.pin a _ rfl
  subst e
  obtain ⟨u, hu, c⟩ := w.ho
  cases c with
  | lst rr => exact ⟨_, e1, hu, rr⟩
theorem de_appP (i : Nat) {apos : Pos} (he : DE T X E e me) (hN : X.N[i]? = some x := by rfl) (hv : Vis X.env.scope x := by first | exact Or.inl rfl | exact Or.inr (Or.inl rfl) | exact Or.inr (Or.inr rfl)) (hd : (x == ("__debug__" : Str)) = false := by decide) (hcd : (x == ("__classdict__" : Str)) = false := by decide)
    (hpa : ∀ {t : TE}, PE X e t → PE X (.Call (.Attribute (.Name x p) "append" apos) [e] [] pos) (tBM X.K "list" rAppend (tVar i) (tCons t tNil))) : DE T X E (.Call (.Attribute (.Name x p) "append" apos) [e] [] pos) (mAppP i me) := by
  obtain ⟨t, pt, q⟩ := he.ex
  refine ⟨⟨_, hpa pt, fun st F0 H0 F H σ z Q EQ R r er h k => ?_⟩⟩
  obtain ⟨⟨a0, ds0, h0⟩, h⟩ := h
  obtain ⟨xs, e1, hu, _⟩ := ow_lstP r h0
  refine ⟨.ref a0, e1, Or.inl ⟨rfl, _, SqL.of hu⟩, ?_⟩
  refine q st F0 H0 F H σ z _ EQ _ r er h fun v H1 F1 d z1 s1 r1 p1 h1 => ?_
  obtain ⟨a, ds, h2, hl, h3⟩ := h1
  obtain ⟨xs2, e2, hu2, rr⟩ := ow_lstP r1 h2
  rw [e1] at e2
  have ea : a0 = a := by cases e2; rfl
  subst ea
  refine ⟨a0, xs2, v, rfl, rfl, hu2, size_lt (by rw [← rr.length]; exact hl), ?_⟩
  exact k _ _ F1 _ _ s1 (r1.putA (o' := .at a0 (.lst (ds ++ [d]))) h2 e1 (.lst (rr.snoc p1)) fun b d e => by cases e; rfl) (.v _) h3
end
end DL
end

section
set_option Elab.async false
set_option linter.all false
set_option maxRecDepth 100000
set_option maxHeartbeats 4000000
/-! DL21: _law_met(lambda: ..) that is handed an own cell and gives it back in the error. -/
namespace DL
open PySem PySem.Spec PyProof.Rows L2
section
variable {T : List (Addr × Str)} {X : Cx} {E : XK} {e : Expr} {me : TDE}
/-- the pinned own cell at slot i is lent to e, which lets out an error that holds it -/
@[reducible, simp] def mMetB (i : Nat) (l : Met) (me : TDE) : TDE := fun st z Q _ => ∃ (a : Addr) (d : D), z.env[i]? = some (.ow (.at a d)) ∧ me st (Z.hd { z with env := z.env.set i (.sh (.at a d)) }) (fun _ _ => False) (fun ex n => ∃ C fld word, (C, fld, word) ∈ l ∧ ex = ⟨C, [(fld, .at a d)]⟩ ∧ Q (.tup [.v (.str word), .v (.ref a)]) { z with n := n })
theorem Rel.hide {K : PySem.W.Frag} {st : Option Addr} {F0 H0 F H : Hp} {σ : Sg} {z : Z} (r1 : Rel K T st F0 H0 F H σ z) : Rel K T st F H F H σ z.hd := by
  refine ⟨r1.ok.refl', by simpa using r1.len, fun i d hi => ?_, fun i o hi => ?_, fun i j o o' b hij hi => ?_, fun i kk d hi => ?_⟩
  · have hi : (z.env.map DV.hd)[i]? = some (.sh d) := hi
    rw [List.getElem?_map] at hi
    cases q : z.env[i]? with
    | none => rw [q] at hi; cases hi
    | some y =>
      rw [q] at hi
      cases y with
      | sh d' => cases hi; exact r1.sh i _ q
      | bs kk d' =>
        cases hi
        obtain ⟨v, h1, h2⟩ := r1.bs i _ _ q
        exact ⟨v, h1, h2.rep r1.ok.f0⟩
      | un => cases hi
      | ow o => cases hi
  · have hi : (z.env.map DV.hd)[i]? = some (.ow o) := hi
    rw [List.getElem?_map] at hi
    cases q : z.env[i]? with
    | none => rw [q] at hi; cases hi
    | some y => rw [q] at hi; cases y <;> cases hi
  · have hi : (z.env.map DV.hd)[i]? = some (.ow o) := hi
    rw [List.getElem?_map] at hi
    cases q : z.env[i]? with
    | none => rw [q] at hi; cases hi
    | some y => rw [q] at hi; cases y <;> cases hi
  · have hi : (z.env.map DV.hd)[i]? = some (.bs kk d) := hi
    rw [List.getElem?_map] at hi
    cases q : z.env[i]? with
    | none => rw [q] at hi; cases hi
    | some y => rw [q] at hi; cases y <;> cases hi
/-- _law_met(lambda: body), the own cell at slot i lent to the body -/
theorem de_metB {l : Met} {i : Nat} {x a : Str} {g c Pt : Addr} {k : Nat} {pg : Arguments} {bg : List Stmt} {sg : Scope} {dV kV doc pm cdv ct oc : Value} {an od : Option Addr} {osl : Array (Option Value)} {Ng : List Str}
    {params : Arguments} {body : Expr} {scope : Scope} {p lpos pos : Pos} (hg : Gl X x) (hm : X.mg x = some (.ref g)) (hk : PySem.W.keepIn X.K (.ref g) = true)
    (lk : X.K.lookup g = some ⟨oc, od, .func (PySem.W.fnOf x x pg bg sg dV kV doc pm an cdv ct), osl⟩) (hcg : PySem.W.codeIn X.K cdv x = true) (hb : L2.Binds X.K (PySem.W.fnOf x x pg bg sg dV kV doc pm an cdv ct) [a] []) (Sg : FnScope Ng [a] sg) (hNg : Ng[0]? = some a) (hva : Vis sg a)
    (hG : LamX.GivesTo X Ng x sg g cdv bg a (X.env.qual ++ "<lambda>") (TTmet X.K l)) (hx : ∀ r ∈ l, ∀ r' ∈ l, PySem.W.exmOne X.K (.ref r.1) (.ref r'.1) = some (decide (r.1 = r'.1))) (hnd : (l.map (·.1)).Nodup)
    (TB : LamX.TabB X.base X.mg c Pt) (hcode : X.env.code = .ref c) (hmT : (Pt, X.env.qual ++ "<lambda>") ∈ T) (hu : ∀ p ∈ T, p.1 = Pt → p.2 = X.env.qual ++ "<lambda>") (hr : Room (k + 2) X.A) (L : LamX.LamS X.env.scope scope) (hdef : defaultsOf params X.env = ([], []))
    (hbind : ∀ (q : Str) (cl : List (Str × Addr)) (pm cv ctv : Value), bindArgs (PySem.W.kla_fn "<lambda>" q params body scope cl pm cv ctv) ⟨[], []⟩ = pure [])
    (hbody : ∀ (A : Around) (outer : List Env) (s : Shared) (H : Hp) (E : XK) (f c' : Addr), Room k (A.deeper (LamX.lamEnv X scope s.heap.objs.size f c')) → DE T (LamX.lamCx X A outer s H E scope f c') E body me)
    (hdb : (x == ("__debug__" : Str)) = false := by decide) (hd : (a == ("__debug__" : Str)) = false := by decide) (hcd : (a == ("__classdict__" : Str)) = false := by decide) :
    DE T X E (.Call (.Name x p) [.Lambda params body scope lpos] [] pos) (mMetB i l me) := by
  refine ⟨⟨_, LamX.pe_lamcall (t := canL X.K T me) hg hm hk lk hcg hb Sg hNg hva hG TB hcode hmT hu hr L hdef hbind (fun A outer s H E f c' hr' => (hbody A outer s H E f c' hr').canL) hdb hd hcd, fun st F0 H0 F H σ z Q EQ R r er h k => ?_⟩⟩
  refine ⟨r.ok.tabs, fun H1 eN t1 => ?_⟩
  have r1 := r.extN eN t1
  obtain ⟨b, d, hz, h2⟩ := h
  obtain ⟨F1, b2, s1, r2, hσ, rp⟩ := r1.read hz
  have eb : b2 = b := by cases rp; rfl
  subst eb
  have back : ∀ (F' H' : Hp) (n : Nat), Ok T st F1 H1 F' H' n → Ok T st F H1 F H' n := fun F' H' n ok => ⟨fun x u hx => ok.sub x u (ok.f0 x u (s1 x u hx)), r1.ok.nt, fun _ _ h => h, fun _ _ h => .inl h, ok.keep, fun s hs => ⟨(r1.ok.strm s hs).1, (ok.strm s hs).2⟩, ok.tabs⟩
  have told : ∀ (word : Str) (F' H' : Hp) (n : Nat), Ok T st F1 H1 F' H' n → Q (.tup [.v (.str word), .v (.ref b2)]) { z with n := n } → ∀ p, H' p = none → R (.ref p) (upd H' p (.tup [.str word, .ref b2])) := fun word F' H' n ok hq p hp => by
    obtain ⟨r3, s3⟩ := (r1.after (back F' H' n ok)).laidF (u := .tup [.str word, .ref b2]) hp (fun ps q => by cases q)
    exact k _ _ _ _ _ s3 r3 (.tup (SqT.of upd_same) (.cons (.v _) (.cons (.v _) .nil))) hq
  refine ⟨fun cls dd H' => ∃ (C : Addr) (fld word : Str) (n : Nat) (F' : Hp) (x : Addr), cls = .ref C ∧ dd = some x ∧ (C, fld, word) ∈ l ∧ Ok T st F1 H1 F' H' n ∧ H' x = some (.xd [(fld, .ref b2)]) ∧ Q (.tup [.v (.str word), .v (.ref b2)]) { z with n := n },
    ⟨st, F1, H1, F1, _, _, _, r2.hide, ?_, h2, ?_⟩, ?_⟩
  · intro ex n F' H' x es ok h1 h2 h3 h4 h5
    obtain ⟨C, fld, word, hm, rfl, hq⟩ := h5
    cases es with
    | nil => simp at h3
    | cons e1 es =>
      cases es with
      | cons _ _ => simp at h3
      | nil =>
        obtain ⟨f1, v⟩ := e1
        simp at h3
        subst h3
        cases h4 with
        | cons rp2 _ =>
          cases rp2
          exact ⟨C, _, word, n, F', x, rfl, rfl, hm, ok, h1, hq⟩
  · intro v H' F' d z' s1 r' rp hq
    exact hq.elim
  · rintro cls dd H' ⟨C, fld, word, n, F', x, rfl, rfl, hm, ok, hx2, hq⟩
    exact metW_of (fun r hr => hx _ hm r hr) hnd hm hx2 (told word F' H' n ok hq)
end
end DL
end

section
set_option Elab.async false
set_option linter.all false
set_option maxRecDepth 100000
set_option maxHeartbeats 4000000
/-! DL22: calls of defs of two parameters, both named, the other way about. -/
namespace DL
open PySem PySem.Spec PyProof.Rows L2
@[reducible, simp] def swapD : List D → List D
  | [a, b] => [b, a]
  | _ => []
def swapV : List V → List V
  | [a, b] => [b, a]
  | _ => []
def swapU : List Value → List Value
  | [a, b] => [b, a]
  | _ => []
theorem swap_vals : ∀ {zs : List V} {ws : List Value}, Vals zs ws → Vals (swapV zs) (swapU ws)
  | _, _, .nil => .nil
  | _, _, .cons _ .nil => .nil
  | _, _, .cons a (.cons b .nil) => .cons b (.cons a .nil)
  | _, _, .cons _ (.cons _ (.cons _ _)) => .nil
theorem swap_reps {K : PySem.W.Frag} {F : Hp} : ∀ {ds : List D} {vs : List V}, Reps K F ds vs → Reps K F (swapD ds) (swapV vs)
  | _, _, .nil => .nil
  | _, _, .cons _ .nil => .nil
  | _, _, .cons a (.cons b .nil) => .cons b (.cons a .nil)
  | _, _, .cons _ (.cons _ (.cons _ _)) => .nil
section
variable {P : Program} {w : World} {K : PySem.W.Frag} {T : List (Addr × Str)} {mg : Str → Option Value} {base : Heap}
theorem mkKw {x p0 p1 : Str} {st : Stmt} {k : Nat} {sp : DSpec} (c : Fn P w K T mg base k x [p0, p1] sp) (F : FunAt K mg x st)
    (hb : ∀ (kV doc pm : Value) (an : Option Addr) (cdv ct u v : Value), bindArgs (PySem.W.fnOf x x (defArgs st) (defBody st) (defScope st) .none kV doc pm an cdv ct) ⟨[], [(p1, u), (p0, v)]⟩ = pure [(p0, v), (p1, u)]) : FnKw P w K T mg base k x [p0, p1] sp [p1, p0] swapD := by
  obtain ⟨f, fd, Fk, hm, hkp, hb0, _, oc, od, osl, lk⟩ := c.ex
  obtain ⟨f2, fd2, F2, hm2⟩ := F
  rw [hm] at hm2
  cases hm2
  obtain ⟨oc2, od2, kV, doc, pm, an, cdv, ct, osl2, e2, lk2, _⟩ := F2.ex
  rw [lk] at lk2
  have e3 : fd = fd2 := by
    injection lk2 with e
    injection e with _ _ e _
    injection e
  subst e3
  refine ⟨f, fd, fun _ ws => swapU ws, fun _ zs => swapV zs, Fk, hm, hkp, ⟨fun s us ws _ h0 h2 => ?_, fun _ r => swap_vals r⟩, fun F ds vs r => swap_reps r⟩
  match us, ws, h0, h2 with
  | [], [u, v], _, _ =>
    subst e2
    exact .of_eq (hb kV doc pm an cdv ct u v)
end
end DL
end

section
set_option Elab.async false
set_option linter.all false
set_option maxRecDepth 100000
set_option maxHeartbeats 4000000
/-! DL23: what the head tells: defs, classes, own errors, code objects with tables. -/
namespace DL
open PySem PySem.Spec PyProof.Rows L2 He
/-! ### own errors over a class over ValueError -/
def clsVE (K : PySem.W.Frag) (C : Addr) : Bool := match K.lookup C with
  | some ⟨.type t, _, .cls cd, sl⟩ => decide (t = "type") && (match cd.mro, sl.toList with
    | .ref C2 :: bm, [_, _, _, _, some (.builtin w), _] => decide (C2 = C) && (decide (w = "ValueError.__new__") && (!cd.hasDel && (cd.hasDict && (PySem.HandSPX.refsVE bm && eqO (PySem.W.alongIn K "__init__" bm) (some (some (.builtin "ValueError.__init__")))))))
    | _, _ => false)
  | _ => false
theorem clsVE_ok {K : PySem.W.Frag} {C : Addr} (h : clsVE K C = true) : ∃ nm q N bs bm sn sub ab col dd k0 k1 k2 k3 k5, K.lookup C = some (excClassObj nm q C N bs bm true sn sub ab col dd k0 k1 k2 k3 k5 "ValueError.__new__") ∧ PySem.HandSPX.refsVE bm = true ∧ PySem.W.alongIn K "__init__" bm = some (some (.builtin "ValueError.__init__")) := by
  unfold clsVE at h
  split at h
  · rename_i t dd cd sl ho
    obtain ⟨h0, h⟩ := ba h
    have h0 := of_decide_eq_true h0
    subst h0
    split at h
    · rename_i C2 bm k0 k1 k2 k3 w k5 hm hs
      obtain ⟨_, h⟩ := ba h
      obtain ⟨h1, h⟩ := ba h
      obtain ⟨h2, h⟩ := ba h
      obtain ⟨h3, h⟩ := ba h
      obtain ⟨h4, h⟩ := ba h
      obtain ⟨h5, h6⟩ := ba h
      have h1 := of_decide_eq_true h1
      have h2 := of_decide_eq_true h2
      subst h1 h2
      obtain ⟨nm, bs, mro, ns, qn, hd, sn, sub, ab, col, del⟩ := cd
      dsimp only at hm h3 h4
      subst hm
      have h3 : del = false := by simpa using h3
      subst h3 h4
      have hsl : sl = #[k0, k1, k2, k3, some (.builtin "ValueError.__new__"), k5] := by
        obtain ⟨l⟩ := sl
        simp only at hs
        rw [hs]
      subst hsl
      exact ⟨nm, qn, ns, bs, bm, sn, sub, ab, col, dd, k0, k1, k2, k3, k5, ho, h5, eqO_ok h6⟩
    · cases h
  · cases h
/-- a method that names its class: what is compared of it -/
abbrev FnC : Type := Option (Str × Str × Arguments × FuncBody × Scope × Addr × Value × Value × Addr)
def fnC (K : PySem.W.Frag) (p : Str × Option Str) : FnC := match K.lookup (fAd K p) with
  | some ⟨_, _, .func fd, _⟩ => some (fd.name, fd.qualname, fd.params, fd.body, fd.scope, fd.globals, fd.defaults, fd.kwdefaults, fd.builtins)
  | _ => none
structure ExD where
  cls : Str
  st : Stmt
def ExD.val (d : ExD) : FnC := some ("__init__", d.cls ++ ".__init__", defArgs d.st, .stmts (defBody d.st), defScope d.st, mainGlobals, .none, .none, builtinsNs)
/-- its cell holds the class, its code object names the program's file -/
def initB (K : PySem.W.Frag) (file : Str) (x : Str) : Bool := match K.lookup (ma K (ga K x) "__init__") with
  | some ⟨_, _, .func fd, _⟩ => (match fd.closure, fd.code with
    | [(nm, cc)], .ref cda => decide (nm = "__class__") && (PySem.W.codeIn K (.ref cda) (x ++ ".__init__") && ((match K.lookup cc with
        | some ⟨_, _, .cell (some (.ref C)), _⟩ => decide (C = ga K x)
        | _ => false) && (match K.lookup cda with
        | some ⟨_, _, .fields vs, _⟩ => (match vs[2]? with
          | some (Value.str f _) => file == f
          | _ => false)
        | _ => false)))
    | _, _ => false)
  | _ => false
def exB (K : PySem.W.Frag) (file : Str) (x fld : Str) : Bool :=
  clsVE K (ga K x) && (initB K file x && (eqO (PySem.W.findIn K (.ref (ga K x)) "__setattr__") (some (some (.builtin "object.__setattr__"))) && (eqO (PySem.W.findIn K (.ref (ga K x)) fld) (some none) && (eqO (PySem.W.findIn K (.ref (ga K x)) "__init__") (some (some (.ref (ma K (ga K x) "__init__")))) &&
    (decide (PySem.W.typeIn K (.ref (ma K (ga K x) "__init__")) = some (.type "function")) && (PySem.W.keepIn K (.ref (ga K x)) && (decide (PySem.W.subIn K (.ref (ga K x)) (.type "BaseException") = some true) && (decide (PySem.W.subIn K (.ref (ga K x)) (.type "ValueError") = some true) && (decide (PySem.W.mroIn K (ga K x) (.ref (ga K x)) = some true) &&
    (decide (PySem.W.typeIn K (.ref (ga K x)) = some (.type "type")) && (eqO (PySem.W.nsIn K mainGlobals x) (some (some (.ref (ga K x)))) && (eqO (PySem.W.nsIn K mainGlobals "super") (some none) && eqO (PySem.W.nsIn K cStatics "thirdparty.any") (some none)))))))))))))
end DL
end

section
set_option Elab.async false
set_option linter.all false
set_option maxRecDepth 100000
set_option maxHeartbeats 4000000
/-! DL24: -x. -/
namespace DL
open PySem PySem.Spec PyProof.Rows L2
section
variable {T : List (Addr × Str)} {X : Cx} {E : XK} {e : Expr} {pos : Pos} {me : TDE}
@[reducible, simp] def mNeg (me : TDE) : TDE := fun st z Q EQ => me st z (fun d z1 => ∃ i, d = .v (.int i) ∧ Q (.v (.int (-i))) z1) EQ
theorem de_neg (he : DE T X E e me) : DE T X E (.UnaryOp .USub e pos) (mNeg me) := by
  obtain ⟨t, p, q⟩ := he.ex
  refine ⟨⟨_, pe_un un_neg p, fun st F0 H0 F H σ z Q EQ R r er h k => ?_⟩⟩
  refine q st F0 H0 F H σ z _ EQ _ r er h fun v H1 F1 d z1 s1 r1 p1 h1 => ?_
  obtain ⟨i, rfl, h2⟩ := h1
  cases p1
  exact ⟨i, rfl, k _ H1 F1 _ z1 s1 r1 (.v _) h2⟩
end
end DL
end

section
set_option Elab.async false
set_option linter.all false
set_option maxRecDepth 100000
set_option maxHeartbeats 4000000
/-! DL25: defs whose code object has a name (lambdas in their bodies); a clause that hands out an error's field. -/
namespace DL
open PySem PySem.Spec PyProof.Rows L2
/-- a def of the top, its code object at c -/
def FunC (K : PySem.W.Frag) (mg : Str → Option Value) (x : Str) (st : Stmt) (c : Addr) : Prop := ∃ (f : Addr) (oc : Value) (od : Option Addr) (kV doc pm : Value) (an : Option Addr) (ct : Value) (osl : Array (Option Value)),
  K.lookup f = some ⟨oc, od, .func (PySem.W.fnOf x x (defArgs st) (defBody st) (defScope st) .none kV doc pm an (.ref c) ct), osl⟩ ∧ PySem.W.codeIn K (.ref c) x = true ∧ PySem.W.keepIn K (.ref f) = true ∧ mg x = some (.ref f)
section
variable {P : Program} {w : World} {K : PySem.W.Frag} {T : List (Addr × Str)} {mg : Str → Option Value} {base : Heap}
theorem mkFnC {x : Str} {st : Stmt} {c : Addr} {N ps : List Str} {k : Nat} {sp : DSpec} {m : TDS} (F : FunC K mg x st c) (S : FnScope N ps (defScope st)) (hb : BindsH x st ps) (len : ∀ s n ds Q EQ, sp s n ds Q EQ → ds.length = ps.length)
    (hbody : ∀ (f : Addr) (A : Around) (outer : List Env) (s : Shared) (H : Hp) (E : XK), Room k (A.deeper (envOfC x (defScope st) s.heap.objs.size f (.ref c))) → DB T (cxOf (L2.CX P w) P w K mg base N x (defScope st) f (.ref c) A outer s H E) E (defBody st) m)
    (hsp : ∀ s n ds Q EQ, sp s n ds Q EQ → m s { nx := fun z => Q (.sh (.v .non)) z.n, rt := Q } ⟨ds.map DV.sh ++ List.replicate (N.length - ds.length) .un, n⟩ EQ) :
    Fn P w K T mg base (k + 1) x ps sp := by
  obtain ⟨f, oc, od, kV, doc, pm, an, ct, osl, lk, hcd, hk, hm⟩ := F
  refine ⟨f, _, fn_of lk hcd S (fun vs H Q E h => ?_) fun A outer s H vs Q E hr h => ?_, hm, hk, .all fun us hl => hb kV doc pm an (.ref c) ct us hl, ⟨_, _, _, _, _, _, _, _, _, rfl⟩, _, _, _, lk⟩
  · obtain ⟨F', st', n, ds, Qd, EQ, ok, r, h1, h2⟩ := h
    rw [← r.length]
    exact len _ _ _ _ _ h1
  · obtain ⟨F', st', n, ds, Qd, EQ, ok, r, h1, h2, h3⟩ := h
    obtain ⟨t, pt, qt⟩ := (hbody f A outer s H E hr).ex
    exact ⟨t, pt, qt st' F' H F' H _ _ _ EQ _ (rel_start ok r) h3 (hsp st' n ds Qd EQ h1) ⟨fun σ H1 F1 z1 s1 r1 q => h2 .non H1 F1 (.sh (.v .non)) z1.n r1.ok (.sh (.v _)) q, fun _ _ _ _ _ _ q => q.elim, fun _ _ _ _ _ _ q => q.elim, fun v H1 F1 rr n1 s1 ok1 rr1 q => h2 v H1 F1 rr n1 ok1 rr1 q⟩⟩
end
theorem passLam {X : Cx} {A : Around} {outer : List Env} {s : Shared} {H : Hp} {E : XK} {scope : Scope} {f c' : Addr} : Passes (L2.CX (LamX.lamCx X A outer s H E scope f c').prog (LamX.lamCx X A outer s H E scope f c').w) (LamX.lamCx X A outer s H E scope f c') E :=
  passes_call (takes_of rfl rfl rfl rfl) fun _ _ _ _ h => h
/-- except C as n: return (word, n.fld) -/
theorem met_clause {X : Cx} {x n fld word : Str} {C : Addr} {i k j : Nat} {np hp p1 p2 p3 p4 p5 : Pos} (hc : Names X x (.ref C)) (hf : XfC X.K C) (hno : PySem.W.findIn X.K (.ref C) fld = some none) (hN : X.N[i]? = some n) (hv : Vis X.env.scope n) (hd : (n == ("__debug__" : Str)) = false) (hcd : (n == ("__classdict__" : Str)) = false)
    (hb : ∀ (e : Addr) (o : Obj) (pn : List (Addr × Obj)), attributeBase (.Name n p2) fld (X.suite e ((e, o) :: pn)).env (eval (.Name n p2) (X.suite e ((e, o) :: pn)).env) = eval (.Name n p2) (X.suite e ((e, o) :: pn)).env) {hds : List ExceptHandler} {l' : List (Value × (Addr → Value → Option Addr → TS))} (r : ClausesAs X n hds l') :
    ClausesAs X n (.ExceptHandler (some (.Name x np)) (some n) [.Return (some (.Tuple [.Constant (.str word) j p1, .Attribute (.Name n p2) fld p3] k p4)) p5] hp :: hds) ((.ref C, tsMet i C fld word) :: l') := by
  refine .cons hc (fun e o cls d pn hz hfs => ⟨fun pins s σ H D I h => ?_⟩) r
  obtain ⟨v, hv1, rfl, rfl, dd, fs, u, rfl, h1, h2, h3⟩ := h
  have pv : PE (X.suite e ((e, o) :: pn)) (.Name n p2) (tVar i) := pe_var (X := X.suite e ((e, o) :: pn)) hN hv hd hcd
  have hp := pss_one (ps_ret (pos := p5) (pe_tup (x1 := k) (pos := p4) (pa_cons (pe_str (x := word) (j := j) (pos := p1)) (pa_cons (pe_xf (pos := p3) hf hno hz hfs pv (hb e o pn)) pa_nil))))
  exact hp.run pins s σ H D I ⟨_, hv1, rfl, rfl, dd, fs, u, rfl, h1, h2, PySem.SXI.two_size _ _, h3⟩
end DL
end

section
set_option Elab.async false
set_option linter.all false
set_option maxRecDepth 100000
set_option maxHeartbeats 4000000
/-! DL28: the head's Hook: HeadHook4's, own errors' __init__ besides, the interpreter's statics looked at; what it tells as the walk wants it. -/
namespace DL
open PySem PySem.Spec PyProof.Rows L2 He
/-! ### an own error -/
theorem exB_ok {P : Program} {K : PySem.W.Frag} {h : Heap} {mg : Str → Option Value} (X : K.In h) (G : h.Ns mainGlobals mg) {x fld par : Str} {st : Stmt} {q1 q2 p0 p1 p2 p3 p4 p5 p6 p7 p8 p9 : Pos} {nms : List (Str × NameKind)}
    (hb : exB K P.main.file x fld = true) (hf : fnC K (x, some "__init__") = ExD.val ⟨x, st⟩)
    (hA : defArgs st = PySem.SXI.sA par q1 q2) (hB : defBody st = PySem.SXI.sB par fld p0 p1 p2 p3 p4 p5 p6 p7 p8 p9)
    (hS : defScope st = ({ kind := .function, names := nms, isGenerator := false, isCoroutine := false, more := [] } : Scope)) (hc : ∀ y ∈ nms, y.2 ≠ .cell) (h1 : nms.lookup ("self" : Str) = some .local) (h2 : nms.lookup par = some .local) (h3 : nms.lookup ("super" : Str) = some .globalImplicit) (h4 : nms.lookup ("__class__" : Str) = some .free)
    (hl : (p2.endLine == p4.line) = true)
    (hbnd : ∀ (qual : Str) (q1 q2 : Pos) (body : List Stmt) (scope : Scope) (doc pm : Value) (an : Option Addr) (cdv ct : Value) (cc : Addr) (x v : Value), bindArgs (PySem.W.ksFn "__init__" qual (PySem.SXI.sA par q1 q2) body scope .none .none doc pm an cdv ct cc) ⟨[x, v], []⟩ = pure [(("self" : Str), x), (par, v)])
    (ht : (P.main.scope.names.lookup ("super" : Str)).isSome = false) (hp1 : par ≠ "self") (hp2 : (par == ("__debug__" : Str)) = false) : PySem.SXI.SxTxt P K mg x par fld (ga K x) (ma K (ga K x) "__init__") := by
  unfold exB at hb
  obtain ⟨b1, hb⟩ := ba hb
  obtain ⟨b2, hb⟩ := ba hb
  obtain ⟨b3, hb⟩ := ba hb
  obtain ⟨b4, hb⟩ := ba hb
  obtain ⟨b5, hb⟩ := ba hb
  obtain ⟨b6, hb⟩ := ba hb
  obtain ⟨b7, hb⟩ := ba hb
  obtain ⟨b8, hb⟩ := ba hb
  obtain ⟨b9, hb⟩ := ba hb
  obtain ⟨b10, hb⟩ := ba hb
  obtain ⟨b11, hb⟩ := ba hb
  obtain ⟨b12, hb⟩ := ba hb
  obtain ⟨b13, b14⟩ := ba hb
  refine ⟨clsVE_ok b1, eqO_ok b3, eqO_ok b4, eqO_ok b5, of_decide_eq_true b6, b7, of_decide_eq_true b8, of_decide_eq_true b9, of_decide_eq_true b10, of_decide_eq_true b11, PySem.W.mg_of X G (eqO_ok b12), PySem.W.mg_none_of X G (eqO_ok b13), eqO_ok b14, ?_, hbnd, ht, hp1, hp2⟩
  unfold initB at b2
  unfold fnC at hf
  have hfa : fAd K (x, some "__init__") = ma K (ga K x) "__init__" := rfl
  rw [hfa] at hf
  split at b2
  · rename_i oc od fd osl lk
    rw [lk] at hf
    split at b2
    · rename_i nm cc cda hcl hcd
      obtain ⟨c1, b2⟩ := ba b2
      obtain ⟨c2, b2⟩ := ba b2
      obtain ⟨c3, c4⟩ := ba b2
      have c1 := of_decide_eq_true c1
      subst c1
      split at c3
      · rename_i ccl cld C csl lkc
        have c3 := of_decide_eq_true c3
        subst c3
        split at c4
        · rename_i dcl dcd vs dsl lkd
          split at c4
          · rename_i f tf hv
            obtain ⟨n1, n2, n3, n4, n5, n6, n7, n8, n9, n10, n11, n12, n13, n14, n15⟩ := fd
            dsimp only at hcl hcd
            subst hcl hcd
            have e2 : (some (n1, n2, n3, n4, n5, n6, n8, n9, n15) : FnC) = some (("__init__" : Str), x ++ ".__init__", defArgs st, FuncBody.stmts (defBody st), defScope st, mainGlobals, Value.none, Value.none, builtinsNs) := hf
            simp only [Option.some.injEq, Prod.mk.injEq] at e2
            obtain ⟨h1', h2', h3', h4', h5', h6', h7', h8', h9'⟩ := e2
            subst h1' h2' h3' h4' h5' h6' h7' h8' h9'
            refine ⟨oc, od, n10, n11, n12, cda, cc, n14, osl, x ++ ".__init__", defScope st, q1, q2, p0, p1, p2, p3, p4, p5, p6, p7, p8, p9, dcl, dcd, vs, dsl, f, tf, ccl, cld, csl, ?_, c2, lkd, hv, c4, lkc, ⟨nms, hS⟩, ?_, ?_, ?_, ?_, ?_, fun env => ⟨plainOf (.Call (.Name "super" p0) [] [] p1) env, ?_⟩⟩
            · rw [lk, ← hA, ← hB]
            · rw [hS]; exact hc
            · rw [hS]; exact h1
            · rw [hS]; exact h2
            · rw [hS]; exact h3
            · rw [hS]; exact h4
            · show (do
                let ov ← attributeBase (.Call (.Name "super" p0) [] [] p1) "__init__" env (eval (.Call (.Name "super" p0) [] [] p1) env)
                standAt p2.atName
                methodCall (.Call (.Name "super" p0) [] [] p1) "__init__" p2 p4 env ov 1 (backTo p4 (starEach [.Name par p3] env)) (backToKw p4 (keywordEach [] env))) = _
              congr 1
              funext ov
              congr 1
              funext _
              exact mcall_line (by rfl) hl
          · cases c4
        · cases c4
      · cases c3
    · cases b2
  · cases b2
/-! ### own classes, caught classes -/
def cfB (K : PySem.W.Frag) (C : Addr) : Bool :=
  eqO (PySem.W.findIn K (.ref C) "__class__") (some (some (.builtin "object.__class__"))) && (decide (PySem.W.specialIn K (.builtin "object.__class__") "__get__" = some (some (.builtin "getset_descriptor.__get__"))) && (decide (PySem.W.takesIn K (.builtin "object.__class__") = some true) && (decide (PySem.W.mroIn K C (.type "object") = some true) &&
    ((knownT.all fun t => decide (PySem.W.kitOne K (.type t) (.ref C) = some false)) && knownT.all fun t => decide (PySem.W.kitOne K (.ref C) (.type t) = some false)))))
theorem cfB_ok {K : PySem.W.Frag} {C : Addr} (c : Cls K C) (h : cfB K C = true) : CF K C := by
  unfold cfB at h
  obtain ⟨b1, h⟩ := ba h
  obtain ⟨b2, h⟩ := ba h
  obtain ⟨b3, h⟩ := ba h
  obtain ⟨b4, h⟩ := ba h
  obtain ⟨b5, b6⟩ := ba h
  exact ⟨c, eqO_ok b1, of_decide_eq_true b2, of_decide_eq_true b3, of_decide_eq_true b4, fun t ht => of_decide_eq_true (List.all_eq_true.mp b5 t ht), fun t ht => of_decide_eq_true (List.all_eq_true.mp b6 t ht)⟩
/-- the classes xs are told apart in an except -/
def exmB (K : PySem.W.Frag) (xs : List Str) : Bool := (xs.all fun x => xs.all fun y => decide (PySem.W.exmOne K (.ref (ga K x)) (.ref (ga K y)) = some (decide (ga K x = ga K y)))) && decide ((xs.map (ga K)).Nodup)
theorem exmB_ok {K : PySem.W.Frag} {xs : List Str} (h : exmB K xs = true) : (∀ x ∈ xs, ∀ y ∈ xs, PySem.W.exmOne K (.ref (ga K x)) (.ref (ga K y)) = some (decide (ga K x = ga K y))) ∧ (xs.map (ga K)).Nodup := by
  obtain ⟨h1, h2⟩ := ba h
  exact ⟨fun x hx y hy => of_decide_eq_true (List.all_eq_true.mp (List.all_eq_true.mp h1 x hx) y hy), of_decide_eq_true h2⟩
/-! ### the Hook -/
def obsE (n : Nat) (fa : List Fa) (fn : List DefD) (tf : List Defn) (ex : PySem.W.Frag → Bool) (es : List ExD) (g : Addr → Option Obj) : (AlT × Bool) × List FnC :=
  ((obsT fa fn [] (frT g (He5.asA g n)), ex (frT g (He5.asA g n)) && tabsB g tf (frT g (He5.asA g n))), es.map fun d => fnC (frT g (He5.asA g n)) (d.cls, some "__init__"))
def valE (fn : List DefD) (es : List ExD) (w : World) : (AlT × Bool) × List FnC := ((valT fn [] w, true), es.map ExD.val)
structure SaysE (fa : List Fa) (fn : List DefD) (tf : List Defn) (ex : PySem.W.Frag → Bool) (es : List ExD) (w : World) (h : Heap) (K : PySem.W.Frag) : Prop where
  x : SaysX fa fn [] tf ex w h K
  ec : ∀ d ∈ es, fnC K (d.cls, some "__init__") = d.val
theorem saysE_of {n : Nat} {fa : List Fa} {fn : List DefD} {tf : List Defn} {ex : PySem.W.Frag → Bool} {es : List ExD} {w : World} {h : Heap} (e : obsE n fa fn tf ex es h.get? = valE fn es w) : SaysE fa fn tf ex es w h (frT h.get? (He5.asA h.get? n)) := by
  have e1 : obsT fa fn [] (frT h.get? (He5.asA h.get? n)) = valT fn [] w := congrArg (fun z : (AlT × Bool) × List FnC => z.1.1) e
  have e2 : (ex (frT h.get? (He5.asA h.get? n)) && tabsB h.get? tf (frT h.get? (He5.asA h.get? n))) = true := congrArg (fun z : (AlT × Bool) × List FnC => z.1.2) e
  have e3 : (es.map fun d => fnC (frT h.get? (He5.asA h.get? n)) (d.cls, some "__init__")) = es.map ExD.val := congrArg (fun z : (AlT × Bool) × List FnC => z.2) e
  obtain ⟨h1, h2⟩ := ba e2
  have key : ∀ p ∈ tf, PySem.W.codeHdIn (frT h.get? (He5.asA h.get? n)) (cT (frT h.get? (He5.asA h.get? n)) p).1 (cT (frT h.get? (He5.asA h.get? n)) p).2 = true ∧ ∃ o, h.get? (cT (frT h.get? (He5.asA h.get? n)) p).2 = some o ∧ emptyTab o = true := fun p hp => by
    obtain ⟨h3, h4⟩ := ba (List.all_eq_true.mp h2 p hp)
    refine ⟨h3, ?_⟩
    cases q : h.get? (cT (frT h.get? (He5.asA h.get? n)) p).2 with
    | none =>
      rw [q] at h4
      cases h4
    | some o =>
      rw [q] at h4
      exact ⟨o, rfl, h4⟩
  refine ⟨⟨e1, h1, fun p hp => (key p hp).1, fun p hp => ?_, fun p hp => ?_⟩, fun d hd => ?_⟩
  · obtain ⟨_, o, q, z⟩ := key p hp
    exact frT_none q z
  · obtain ⟨_, o, q, z⟩ := key p hp
    rw [q, emptyTab_eq z]
  · obtain ⟨i, hi, ed⟩ := List.mem_iff_getElem.mp hd
    have e4 := congrArg (fun l : List FnC => l[i]?) e3
    simp only [List.getElem?_map, List.getElem?_eq_getElem hi, Option.map_some, Option.some.injEq, ed] at e4
    exact e4
def hookE (n : Nat) (fa : List Fa) (fn : List DefD) (tf : List Defn) (ex : PySem.W.Frag → Bool) (es : List ExD) : PySem.W.Hook where
  α := (AlT × Bool) × List FnC
  obs := fun s => obsE n fa fn tf ex es s.heap.get?
  val := fun w => valE fn es w
  says := fun w h => ∃ K : PySem.W.Frag, K.In h ∧ SaysE fa fn tf ex es w h K
  of := fun _ _ e => ⟨_, frT_in, saysE_of e⟩
  keeps := fun _ _ _ ⟨K, hK, c⟩ k => ⟨K, PySem.W.Frag.In.keeps hK k, ⟨⟨c.x.t, c.x.more, c.x.hd, c.x.out, fun p hp => k _ _ (c.x.empty p hp)⟩, c.ec⟩⟩
theorem obsE_eq {n : Nat} {fa : List Fa} {fn : List DefD} {tf : List Defn} {ex : PySem.W.Frag → Bool} {es : List ExD} {g : Addr → Option Obj} {s : Shared} (h : ∀ a, g a = s.heap.get? a) : obsE n fa fn tf ex es g = (hookE n fa fn tf ex es).obs s := by
  have e : g = s.heap.get? := funext h
  rw [e] <;> rfl
/-! ### the defs -/
def topD (x : Str) (st : Stmt) : DefD := ⟨(x, none), x, x, defArgs st, defBody st, defScope st, [], []⟩
def methD (c m : Str) (st : Stmt) : DefD := ⟨(c, some m), m, c ++ "." ++ m, defArgs st, defBody st, defScope st, [], []⟩
section
variable {fa : List Fa} {fn : List DefD} {tf : List Defn} {ex : PySem.W.Frag → Bool} {es : List ExD} {w : World} {h : Heap} {K : PySem.W.Frag} {mg : Str → Option Value}
theorem SaysE.fact (c : SaysE fa fn tf ex es w h K) (i : Nat) {f : Fa} (e : fa[i]? = some f) : f.ok K = true := c.x.t.d.fact i e
theorem SaysE.fun_ (c : SaysE fa fn tf ex es w h K) (X : K.In h) (G : h.Ns mainGlobals mg) {x : Str} {st : Stmt} (i j : Nat) (e : fn[i]? = some (topD x st)) (e2 : fa[j]? = some (.glo x)) : FunAt K mg x st := by
  obtain ⟨fd, F⟩ := c.x.t.d.def_ i e
  exact ⟨_, fd, He5.fun_of F, glo_ok X G (c.fact j e2)⟩
theorem SaysE.funC (c : SaysE fa fn tf ex es w h K) (X : K.In h) (G : h.Ns mainGlobals mg) {x : Str} {st : Stmt} (i j : Nat) (e : fn[i]? = some (topD x st)) (e2 : fa[j]? = some (.glo x)) : FunC K mg x st (codeOf K (x, none)) := by
  obtain ⟨fd, F⟩ := c.x.t.d.def_ i e
  obtain ⟨⟨oc, od, kV, doc, pm, an, cdv, ct, osl, rfl, lk, hcd⟩, kp⟩ := He5.fun_of F
  obtain ⟨c1, rfl⟩ := codeIn_ref hcd
  have ec : codeOf K (x, none) = c1 := codeOf_eq lk rfl
  rw [ec]
  exact ⟨_, oc, od, kV, doc, pm, an, ct, osl, lk, hcd, kp, glo_ok X G (c.fact j e2)⟩
theorem SaysE.meth (c : SaysE fa fn tf ex es w h K) {x m : Str} {st : Stmt} (i j : Nat) (e : fn[i]? = some (methD x m st)) (e2 : fa[j]? = some (.meth x m)) : MethAt K (ga K x) m (x ++ "." ++ m) st := by
  obtain ⟨fd, F⟩ := c.x.t.d.def_ i e
  exact ⟨_, fd, He5.fun_of F, meth_ok (c.fact j e2)⟩
theorem SaysE.init (c : SaysE fa fn tf ex es w h K) (X : K.In h) (G : h.Ns mainGlobals mg) {x : Str} {st : Stmt} (i j k : Nat) (e : fn[i]? = some (methD x "__init__" st)) (e2 : fa[j]? = some (.mkr x)) (e3 : fa[k]? = some (.glo x)) : InitAt K mg x (ga K x) (x ++ "." ++ "__init__") st := by
  obtain ⟨fd, F⟩ := c.x.t.d.def_ i e
  exact ⟨_, fd, He5.fun_of F, mkr_ok (c.fact j e2), glo_ok X G (c.fact k e3)⟩
end
end DL
end

section
set_option Elab.async false
set_option linter.all false
set_option maxRecDepth 100000
set_option maxHeartbeats 4000000
/-! DL29: new trees: expressions, returns whose lists and dicts are all new; scopes. -/
namespace DL
open PySem PySem.Spec PyProof.Rows L2
mutual
@[simp] def lfD : D → Bool
  | .v _ => true
  | .tup ds => lfDs ds
  | _ => false
@[simp] def lfDs : List D → Bool
  | [] => true
  | d :: ds => lfD d && lfDs ds
end
/-- a list of such -/
@[simp] def nwF : D → Bool
  | .lst ds => lfDs ds
  | _ => false
mutual
theorem repN_leaf {K : PySem.W.Frag} {F H0 : Hp} : ∀ {d : D} {v : V}, Rep K F d v → lfD d = true → RepN K F H0 d v
  | _, _, .v x, _ => .v x
  | _, _, .tup h r, e => .tup h (repsN_leaf r (by simpa using e))
  | _, _, .lst _ _, e => by simp at e
  | _, _, .dic _ _ _, e => by simp at e
  | _, _, .ins _ _ _, e => by simp at e
  | _, _, .at _, e => by simp at e
  | _, _, .lsz _, e => by simp at e
theorem repsN_leaf {K : PySem.W.Frag} {F H0 : Hp} : ∀ {ds : List D} {vs : List V}, Reps K F ds vs → lfDs ds = true → RepsN K F H0 ds vs
  | _, _, .nil, _ => .nil
  | _, _, .cons h t, e => by
    simp only [lfDs, Bool.and_eq_true] at e
    exact .cons (repN_leaf h e.1) (repsN_leaf t e.2)
end
theorem RepsN.append {K : PySem.W.Frag} {F H0 : Hp} : ∀ {ds es : List D} {xs ys : List V}, RepsN K F H0 ds xs → RepsN K F H0 es ys → RepsN K F H0 (ds ++ es) (xs ++ ys)
  | _, _, _, _, .nil, s => s
  | _, _, _, _, .cons h t, s => .cons h (RepsN.append t s)
/-- an expression whose lists, dicts are all new -/
structure DFr (T : List (Addr × Str)) (X : Cx) (E : XK) (e : Expr) (m : TDE) : Prop where
  ex : ∃ t : TE, PE X e t ∧ ∀ (st : Option Addr) (F0 H0 F H : Hp) (σ : Sg) (z : Z) (Q : D → Z → Prop) (EQ : TEX) (R : VK), Rel X.K T st F0 H0 F H σ z → ERel X.K T st F0 H0 E EQ → m st z Q EQ →
    (∀ v H' F' d z', Same F F' → Rel X.K T st F0 H0 F' H' σ z' → RepN X.K F' H0 d v → Q d z' → R v H') → t σ H R
section
variable {T : List (Addr × Str)} {X : Cx} {E : XK} {e a b : Expr} {es : List Expr} {ss : List Stmt} {pos p : Pos} {me ma mb : TDE} {mt mu : TDT} {mas : TDA} {ms : TDS} {k j : Nat} {x : Str} {ps : List Str} {sp : DSpec}
theorem DFr.sh (h : DFr T X E e me) : DE T X E e me := by
  obtain ⟨t, p, q⟩ := h.ex
  exact ⟨⟨t, p, fun st F0 H0 F H σ z Q EQ R r er h k => q st F0 H0 F H σ z Q EQ R r er h fun v H' F' d z' s r' rp => k v H' F' d z' s r' rp.rep⟩⟩
@[reducible, simp] def mLeaf (me : TDE) : TDE := fun st z Q EQ => me st z (fun d z1 => lfD d = true ∧ Q d z1) EQ
theorem dfr_leaf (h : DE T X E e me) : DFr T X E e (mLeaf me) := by
  obtain ⟨t, p, q⟩ := h.ex
  exact ⟨⟨t, p, fun st F0 H0 F H σ z Q EQ R r er h k => q st F0 H0 F H σ z _ EQ R r er h fun v H' F' d z' s r' rp hq => k v H' F' d z' s r' (repN_leaf rp hq.1) hq.2⟩⟩
/-- a new cell of leaves -/
theorem Rel.fixN {K : PySem.W.Frag} {st : Option Addr} {F0 H0 F H : Hp} {σ : Sg} {z : Z} {a : Addr} {ds : List D} {xs : List V} (r : Rel K T st F0 H0 F H σ z) (w : Nw K st F H0 H σ z a (.lst ds)) (hx : H a = some (.lst xs)) (rs : RepsN K F H0 ds xs) : ∃ F', Same F F' ∧ Rel K T st F0 H0 F' H σ z ∧ RepN K F' H0 (.lst ds) (.ref a) := by
  have f0 := w.own.h0
  obtain ⟨F', s, r', rp⟩ := r.fix w
  refine ⟨F', s, r', ?_⟩
  cases rp with
  | @lst _ xs' _ h rr =>
    have e : xs' = xs := by
      have q := r'.ok.sub _ _ h
      rw [hx] at q
      cases q
      rfl
    subst e
    exact .lst h f0 (rs.mono s fun _ _ _ q => q)
@[reducible, simp] def mNewF (me : TDE) : TDE := fun st z Q EQ => me st z (fun o z1 => nwF o = true ∧ Q o z1) EQ
theorem dfr_new (h : DN T X E e me) : DFr T X E e (mNewF me) := by
  obtain ⟨t, p, q⟩ := h.ex
  refine ⟨⟨t, p, fun st F0 H0 F H σ z Q EQ R r er h k => q st F0 H0 F H σ z _ EQ R r er h fun a H' F' o z' s r' w hq => ?_⟩⟩
  obtain ⟨hn, hq⟩ := hq
  cases o with
  | lst ds =>
    obtain ⟨u, hu, c⟩ := w.own.ho
    cases c with
    | @lst _ xs rr =>
      obtain ⟨F2, s2, r2, rp⟩ := r'.fixN w hu (repsN_leaf rr (by simpa using hn))
      exact k _ H' F2 _ _ (s.trans s2) r2 rp hq
  | _ => simp at hn
def canF (K : PySem.W.Frag) (T : List (Addr × Str)) (m : TDE) : TE := fun σ H R => ∃ (st : Option Addr) (F0 H0 F : Hp) (z : Z) (Q : D → Z → Prop), Rel K T st F0 H0 F H σ z ∧ m st z Q (fun _ _ => False) ∧ ∀ v H' F' d z', Same F F' → Rel K T st F0 H0 F' H' σ z' → RepN K F' H0 d v → Q d z' → R v H'
theorem DFr.can (h : DFr T X E0 e me) : PE X e (canF X.K T me) := by
  obtain ⟨t, p, q⟩ := h.ex
  refine ⟨fun pins s σ H R I h => ?_⟩
  obtain ⟨st, F0, H0, F, z, Q, r, hm, k⟩ := h
  exact p.run pins s σ H R I (q st F0 H0 F H σ z Q _ R r (fun _ _ _ _ _ _ _ _ _ _ _ z => z.elim) hm k)
theorem grd_frs {H0 H : Hp} {a : Addr} (ha : H a ≠ none) (hn : ∀ ps, H a ≠ some (.tbl ps)) : ∀ b, Fr (grd H0 H a) b → Fr H0 b := fun b h o' h' => by
  by_cases e : b = a
  · subst e
    cases q : H b with
    | none => exact absurd q ha
    | some u =>
      obtain ⟨ps, rfl⟩ := h u (by rw [grd_same]; exact q)
      exact absurd q (hn ps)
  · exact h o' (by rw [grd_ne e]; exact h')
theorem comp_okF {own : List (Str × Nat)} {ws : List Nat} {g : TDG} {st : Option Addr} {F0 H0 F1 H1 : Hp} {σ : Sg} {z1 : Z} {J : It} {ds : List D} {Q : D → Z → Prop} {K : PySem.W.Frag} {R : VK} (hw : ∀ i ∈ ws, i ∈ own.map (·.2)) (r1 : Rel K T st F0 H0 F1 H1 σ z1) (it : ItOk K T st F1 J ds)
    (h : compD g mt me (own.map (·.2)) st Q ds [] (z1.wipe (own.map (·.2)))) (k : ∀ v H' F' o z', Same F1 F' → Rel K T st F0 H0 F' H' σ z' → RepN K F' H0 o v → Q o z' → R v H') :
    ∀ Dl, H1 Dl = none → ∃ W : Nat → Nat → Hp → Prop, (∃ m, W 0 m (upd H1 Dl (.lst []))) ∧ ∀ i m H, W i m H →
      (J.stop i H ∧ R (.ref Dl) H) ∨ (J.go i H ∧ ∃ Nx : Hp → Prop, (∀ H', Nx H' → ∃ m', m' < m ∧ W (i + 1) m' H') ∧ ∀ x H', J.yld i H x H' → canG K T ws g x (L2.wipe σ (own.map (·.2))) H' fun σ2 H2 => L2.wipe σ2 (own.map (·.2)) = L2.wipe σ (own.map (·.2)) ∧ canT K T mt σ2 H2 fun b H3 =>
        if b = true then canF K T me σ2 H3 fun y H4 => ∃ acc, H4 Dl = some (.lst acc) ∧ acc.length < sizeLine ∧ Nx (upd H4 Dl (.lst (acc ++ [y]))) else Nx H3) := by
  intro Dl hD
  obtain ⟨vs, hvs⟩ : ∃ vs, vs = own.map (·.2) := ⟨_, rfl⟩
  rw [← hvs] at hw h ⊢
  obtain ⟨rs, ws0⟩ := r1.laid hD (Cell.lst (K := K) (F := F1) (ds := []) (xs := []) .nil)
  refine ⟨fun i m H => ∃ (F : Hp) (z : Z) (acc : List D), Same F1 F ∧ Rel K T st F0 H0 F H (L2.wipe σ vs) (z.wipe vs) ∧ Nw K st F H0 H (L2.wipe σ vs) (z.wipe vs) Dl (.lst acc) ∧ (∃ ys, H Dl = some (.lst ys) ∧ RepsN K F H0 acc ys) ∧ compD g mt me vs st Q (ds.drop i) acc (z.wipe vs) ∧ m = ds.length - i ∧ i ≤ ds.length,
    ⟨ds.length, F1, z1, [], Same.refl F1, rs.wipe rfl, ws0.wipe rfl, ⟨[], upd_same, .nil⟩, by rw [List.drop_zero]; exact h, rfl, Nat.zero_le _⟩, ?_⟩
  rintro i m H ⟨F, z, acc, s, r, w, ⟨ys, hys, rn⟩, hc, rfl, hi⟩
  by_cases hlt : i < ds.length
  · refine .inr ⟨it.go i H (s.trans r.ok.sub) hlt, fun H' => ∃ (F : Hp) (z : Z) (acc : List D), Same F1 F ∧ Rel K T st F0 H0 F H' (L2.wipe σ vs) (z.wipe vs) ∧ Nw K st F H0 H' (L2.wipe σ vs) (z.wipe vs) Dl (.lst acc) ∧ (∃ ys, H' Dl = some (.lst ys) ∧ RepsN K F H0 acc ys) ∧ compD g mt me vs st Q (ds.drop (i + 1)) acc (z.wipe vs), ?_, ?_⟩
    · rintro H' ⟨F', z', acc', s', r', w', n', hc'⟩
      exact ⟨ds.length - (i + 1), by omega, F', z', acc', s', r', w', n', hc', rfl, hlt⟩
    · intro x H' y
      obtain ⟨F', d, hd, ok, rp⟩ := it.yld i _ _ F H _ x H' s r.ok hlt y
      have r2 := r.after ok
      have w2 := w.after ok
      have s2 : Same F1 F' := s.trans ok.f0
      have hys2 : H' Dl = some (.lst ys) := ok.keep _ _ hys w.own.st (fun ps q => by cases q)
      have rn2 : RepsN K F' H0 acc ys := rn.mono ok.f0 fun _ _ _ q => q
      have e : ds.drop i = d :: ds.drop (i + 1) := by
        rw [List.drop_eq_getElem_cons hlt]
        have : ds[i] = d := (List.getElem?_eq_some_iff.mp hd).2
        rw [this]
      rw [e] at hc
      have f0 : F0 Dl = none := Same.none r2.ok.f0 w2.own.f
      have gf := grd_frs (H0 := H0) (H := H') (a := Dl) (by rw [hys2]; simp) (fun ps q => by rw [hys2] at q; cases q)
      refine ⟨st, F0, grd H0 H' Dl, F', _, d, _, r2.guard w2, rp, hc, fun σ2 z2 r3 ag h3 => ?_⟩
      have hwp : L2.wipe σ2 vs = L2.wipe σ vs := by
        rw [← wipe_wipe σ vs]
        exact wipe_eq ag.1 fun i hi => ag.2 i fun q => hi (hw i q)
      refine ⟨hwp, st, F0, grd H0 H' Dl, F', z2, _, r3, h3, fun b H3 n3 r4 h4 => ?_⟩
      have k3 : H3 Dl = some (.lst ys) := r4.ok.keep _ _ (by rw [grd_same]; exact hys2) w2.own.st (fun ps q => by cases q)
      cases b with
      | true =>
        refine iteT ?_
        refine ⟨st, F0, grd H0 H' Dl, F', _, _, r4, h4.1 rfl, fun v H4 F4 y z4 s4 r5 p5 h5 => ?_⟩
        have k4 : H4 Dl = some (.lst ys) := r5.ok.keep _ _ (by rw [grd_same]; exact hys2) w2.own.st (fun ps q => by cases q)
        obtain ⟨r6, w6⟩ := Rel.unguard w2.own s4 f0 r5
        obtain ⟨u, hu, c⟩ := w6.own.ho
        cases c with
        | @lst _ xs rr =>
          refine ⟨xs, hu, size_lt (by rw [← rr.length]; exact h5.1), ?_⟩
          obtain ⟨r7, w7⟩ := r6.putN w6 (Cell.lst (rr.snoc p5.rep))
          have ex : xs = ys := by
            rw [k4] at hu
            cases hu
            rfl
          subst ex
          exact ⟨F4, z4, acc ++ [y], s2.trans s4, r7.wipe hwp, w7.wipe hwp, ⟨_, upd_same, (rn2.mono s4 fun _ _ _ q => q).append (.cons (p5.mono (Same.refl F4) fun b _ _ q => gf b q) .nil)⟩, h5.2⟩
      | false =>
        refine iteF ?_
        obtain ⟨r6, w6⟩ := Rel.unguard w2.own (Same.refl F') f0 r4
        exact ⟨F', _, acc, s2, r6.wipe hwp, w6.wipe hwp, ⟨ys, k3, rn2⟩, h4.2 rfl⟩
  · have e : i = ds.length := by omega
    subst e
    rw [List.drop_length] at hc
    obtain ⟨F2, s3, r3, rp⟩ := r.unwipe.fixN w.unwipe hys rn
    exact .inl ⟨it.stop _ H (s.trans r.ok.sub) (Nat.le_refl _), k _ H F2 _ _ (s.trans s3) r3 rp hc⟩
theorem dfr_comp {scope : Scope} {own : List (Str × Nat)} {ws : List Nat} {g : TDG} {mi : TDA} {tg elt iter : Expr} {ifs : List Expr} (hc : X.calm = true) (hN : X.N.Nodup) (hi : DI T X E tg iter mi) (ok : BlkOk X.N X.env.scope scope own) (hw : ∀ i ∈ ws, i ∈ own.map (·.2))
    (hg : ∀ (s : Shared) (H : Hp) (C : Addr) (cl : List (Str × Addr)) (fp : List Addr), DG T (X.blk s H scope (compEnvC scope cl C X.env) fp) tg ws g) (ht : ∀ (s : Shared) (H : Hp) (C : Addr) (cl : List (Str × Addr)) (fp : List Addr), DTs T (X.blk s H scope (compEnvC scope cl C X.env) fp) ifs mt)
    (he : ∀ (s : Shared) (H : Hp) (C : Addr) (cl : List (Str × Addr)) (fp : List Addr), DFr T (X.blk s H scope (compEnvC scope cl C X.env) fp) E0 elt me) (hs : ∀ x, foldedSetIterable iter X.env x = pure x := by intro _; rfl) :
    DFr T X E (.ListComp elt [⟨tg, iter, ifs, 0⟩] scope pos) (mComp mi g mt me (own.map (·.2))) := by
  obtain ⟨wi, pi, qi⟩ := hi.ex
  refine ⟨⟨_, pe_lc (g := canG X.K T ws g) (tt := canT X.K T mt) (te := canF X.K T me) hc hN pi ok (fun s H C cl fp => (hg s H C cl fp).can) (fun s H C cl fp => (ht s H C cl fp).can) (fun s H C cl fp => (he s H C cl fp).can) hs, fun st F0 H0 F H σ z Q EQ R r er h k => ?_⟩⟩
  refine qi st F0 H0 F H σ z _ EQ _ r er h fun J H1 F1 ds z1 s1 r1 it h1 => ?_
  exact comp_okF hw r1 it h1 fun v H' F' o z' s => k v H' F' o z' (s1.trans s)
/-! ### calls, returns, slots -/
@[reducible, simp] def FrD : Res → Prop
  | .sh d => lfD d = true
  | .nw o => nwF o = true
  | .fr _ => True
@[reducible, simp] def mCallF (sp : DSpec) (ma : TDA) : TDE := fun st z Q EQ => ma st z (fun ds z1 => sp st z1.n ds (fun r n' => FrD r ∧ Q r.d { z1 with n := n' }) EQ) EQ
theorem res_fr {st : Option Addr} {F0 H0 F H F' H' : Hp} {σ : Sg} {z : Z} {v : V} {rr : Res} {n' : Nat} {K : PySem.W.Frag} (r : Rel K T st F0 H0 F H σ z) (ok : Ok T st F H F' H' n') (q : ResR K st F' H H' v rr) (f : FrD rr) : ∃ F2, Same F F2 ∧ Rel K T st F0 H0 F2 H' σ { z with n := n' } ∧ RepN K F2 H0 rr.d v := by
  have r1 := r.after ok
  cases q with
  | sh rp => exact ⟨F', ok.f0, r1, repN_leaf rp f⟩
  | fr w => exact ⟨F', ok.f0, r1, w.mono (Same.refl F') fun b _ _ q => r.ok.fr q⟩
  | @nw a o w =>
    cases o with
    | lst ds =>
      obtain ⟨u, hu, c⟩ := w.ho
      cases c with
      | @lst _ xs rs =>
        obtain ⟨F2, s2, r2, rp⟩ := r1.fixN (Nw.of_own r w) hu (repsN_leaf rs (by simpa using f))
        exact ⟨F2, ok.f0.trans s2, r2, rp⟩
    | _ => simp at f
theorem dfr_call (c : Fn X.prog X.w X.K T X.mg X.base k x ps sp) (hr : Room j X.A) (hk : k ≤ j) (hg : Gl X x) (hx : Passes (L2.CX X.prog X.w) X E) (ha : DA T X E (e :: es) mas) (hdb : (x == ("__debug__" : Str)) = false := by decide)
    (he : starEach (e :: es) X.env = (false, eval e X.env) :: starEach es X.env := by rfl) (hpl : (backTo pos (starEach es X.env)).any (·.1) = false := by rfl) : DFr T X E (.Call (.Name x p) (e :: es) [] pos) (mCallF sp mas) := by
  obtain ⟨f, fd, F, hm, hkp, hb, _⟩ := c.ex
  obtain ⟨ta, pa, qa⟩ := ha.ex
  refine ⟨⟨_, pe_call F (hr.mono hk) hg hm hkp hb .nil hx pa hdb he hpl, fun st F0 H0 F H σ z Q EQ R r er h k => ?_⟩⟩
  refine qa st F0 H0 F H σ z _ EQ _ r er h fun vs H1 F1 ds z1 s1 r1 p1 h1 => call_sp r1 er p1 h1 fun v H2 F2 rr n' ok q qd => ?_
  obtain ⟨F3, s3, r3, rp⟩ := res_fr r1 ok q qd.1
  exact k v H2 F3 _ _ (s1.trans s3) r3 rp qd.2
@[reducible, simp] def sRetF (me : TDE) : TDS := fun st D z EQ => me st z (fun d z1 => D.rt (.fr d) z1.n) EQ
theorem ds_retF (he : DFr T X E e me) : DS T X E (.Return (some e) pos) (sRetF me) := by
  obtain ⟨t, p, q⟩ := he.ex
  refine ⟨⟨_, ps_ret p, fun st F0 H0 F H σ z D EQ D' r er h k => ?_⟩⟩
  exact q st F0 H0 F H σ z _ EQ _ r er h fun v H1 F1 d z1 s1 r1 p1 h1 => k.rt v H1 F1 _ z1.n s1 r1.ok (.fr p1) h1
/-- a slot is set to a new tree -/
theorem Rel.setB {K : PySem.W.Frag} {st : Option Addr} {F0 H0 F H : Hp} {σ : Sg} {z : Z} {d : D} {v : V} (r : Rel K T st F0 H0 F H σ z) {i : Nat} (rp : RepN K F H0 d v) : Rel K T st F0 H0 F H (σ.set i (some v)) { z with env := z.env.set i (.bs false d) } := by
  have r1 := r.setS (i := i) rp.rep
  have out : ∀ {j : Nat} {x : DV}, ¬ j < z.env.length → (z.env.set i (.bs false d))[j]? = some x → False := fun hi hl => by
    rw [List.getElem?_eq_none (by rw [List.length_set]; omega)] at hl
    cases hl
  have other : ∀ {j : Nat} {x : DV}, j ≠ i → (z.env.set i (.bs false d))[j]? = some x → (z.env.set i (.sh d))[j]? = some x := fun hj hl => by
    rw [set_out hj] at hl ⊢
    exact hl
  have self : ∀ {x : DV}, (z.env.set i (.bs false d))[i]? = some x → x = .bs false d ∧ i < z.env.length := fun {x} hl => by
    by_cases hi : i < z.env.length
    · rw [set_self hi] at hl
      exact ⟨(Option.some.inj hl).symm, hi⟩
    · exact (out hi hl).elim
  refine ⟨r1.ok, by simpa using r1.len, fun j d' hj => ?_, fun j o hj => ?_, fun j l o o' b hjl hj hl h1 => ?_, fun j kk d' hj => ?_⟩
  · by_cases e : j = i
    · subst e
      cases (self hj).1
    · exact r1.sh j d' (other e hj)
  · by_cases e : j = i
    · subst e
      cases (self hj).1
    · exact r1.ow j o (other e hj)
  · by_cases e : j = i
    · subst e
      cases (self hj).1
    · by_cases e2 : l = i
      · subst e2
        cases (self hl).1
      · exact r1.apart j l o o' b hjl (other e hj) (other e2 hl) h1
  · by_cases e : j = i
    · subst e
      obtain ⟨q, hi⟩ := self hj
      cases q
      exact ⟨v, set_self (by rw [r.len]; exact hi), rp⟩
    · exact r1.bs j kk d' (other e hj)
@[reducible, simp] def sSetF (i : Nat) (me : TDE) : TDS := fun st D z EQ => me st z (fun d z1 => D.nx (z1.put i (.bs false d))) EQ
theorem ds_setF (i : Nat) {pos' : Pos} (hN : X.N.Nodup) (he : DFr T X E e me) (hi : X.N[i]? = some x := by rfl) (hx : Loc X.env.scope x := by first | exact Or.inl rfl | exact Or.inr rfl) (hs : swapsWith e (some (.Name x pos')) pos.line X.env = pure false := by rfl) (hf : X.fn x = true ∨ X.env.scope.names.lookup x = some .local := by first | exact .inl rfl | exact .inr rfl) :
    DS T X E (.Assign [.Name x pos'] e pos) (sSetF i me) := by
  obtain ⟨t, p, q⟩ := he.ex
  refine ⟨⟨_, ps_set hN hi hx p hs hf, fun st F0 H0 F H σ z D EQ D' r er h k => ?_⟩⟩
  exact q st F0 H0 F H σ z _ EQ _ r er h fun v H1 F1 d z1 s1 r1 p1 h1 => k.nx _ H1 F1 _ s1 (r1.setB p1) h1
/-! ### scopes -/
@[reducible, simp] def DV.ob : DV → DV
  | .sh d => .bs true d
  | .bs _ d => .bs true d
  | _ => .un
@[reducible, simp] def DV.sb : DV → DV
  | .bs _ d => .sh d
  | x => x
@[reducible, simp] def Z.ob (z : Z) : Z := { z with env := z.env.map DV.ob }
@[reducible, simp] def Z.sb (z : Z) : Z := { z with env := z.env.map DV.sb }
theorem map_some {α β : Type} {f : α → β} {l : List α} {i : Nat} {y : β} (h : (l.map f)[i]? = some y) : ∃ x, l[i]? = some x ∧ f x = y := by
  rw [List.getElem?_map] at h
  cases q : l[i]? with
  | none => rw [q] at h; cases h
  | some x => rw [q] at h; exact ⟨x, rfl, Option.some.inj h⟩
theorem Rel.scope {K : PySem.W.Frag} {st : Option Addr} {F0 H0 F H : Hp} {σ : Sg} {z : Z} (r : Rel K T st F0 H0 F H σ z) : Rel K T st F H F H σ z.ob := by
  refine ⟨r.ok.refl', by simpa using r.len, fun i d hi => ?_, fun i o hi => ?_, fun i j o o' b hij hi => ?_, fun i kk d hi => ?_⟩
  · obtain ⟨x, _, q⟩ := map_some (show (z.env.map DV.ob)[i]? = some (.sh d) from hi)
    cases x <;> cases q
  · obtain ⟨x, _, q⟩ := map_some (show (z.env.map DV.ob)[i]? = some (.ow o) from hi)
    cases x <;> cases q
  · obtain ⟨x, _, q⟩ := map_some (show (z.env.map DV.ob)[i]? = some (.ow o) from hi)
    cases x <;> cases q
  · obtain ⟨x, hx, q⟩ := map_some (show (z.env.map DV.ob)[i]? = some (.bs kk d) from hi)
    cases x with
    | sh d' => cases q; exact r.sh i _ hx
    | bs k2 d' =>
      cases q
      obtain ⟨v, h1, h2⟩ := r.bs i _ _ hx
      exact ⟨v, h1, h2.rep r.ok.f0⟩
    | un => cases q
    | ow o => cases q
theorem Rel.unscope {K : PySem.W.Frag} {st : Option Addr} {F0 H0 F H F' H' : Hp} {σ : Sg} {z : Z} {n : Nat} (ok : Ok T st F0 H0 F H n) (r : Rel K T st F H F' H' σ z) : Rel K T st F0 H0 F' H' σ z.sb := by
  have ow : ∀ {i : Nat} {o : D}, (z.env.map DV.sb)[i]? = some (.ow o) → z.env[i]? = some (.ow o) := fun {i o} hi => by
    obtain ⟨x, hx, q⟩ := map_some hi
    cases x <;> cases q
    exact hx
  refine ⟨ok.trans r.ok, by simpa using r.len, fun i d hi => ?_, fun i o hi => ?_, fun i j o o' b hij hi hj => ?_, fun i kk d hi => ?_⟩
  · obtain ⟨x, hx, q⟩ := map_some (show (z.env.map DV.sb)[i]? = some (.sh d) from hi)
    cases x with
    | sh d' => cases q; exact r.sh i _ hx
    | bs k2 d' =>
      cases q
      obtain ⟨v, h1, h2⟩ := r.bs i _ _ hx
      exact ⟨v, h1, h2.rep r.ok.f0⟩
    | un => cases q
    | ow o => cases q
  · obtain ⟨b, h1, w⟩ := r.ow i o (ow hi)
    exact ⟨b, h1, w.ho, w.f, ok.fr w.h0, w.st, w.pin⟩
  · exact r.apart i j o o' b hij (ow hi) (ow hj)
  · obtain ⟨x, _, q⟩ := map_some (show (z.env.map DV.sb)[i]? = some (.bs kk d) from hi)
    cases x <;> cases q
/-- a block whose base is where it begins: what is read then is read for ever -/
@[reducible, simp] def bScope (m : TDS) : TDS := fun st D z EQ => m st { nx := fun z1 => D.nx z1.sb, rt := D.rt, bk := fun z1 => D.bk z1.sb, ct := fun z1 => D.ct z1.sb } z.ob EQ
theorem db_scope (h : DB T X E ss ms) : DB T X E ss (bScope ms) := by
  obtain ⟨t, p, q⟩ := h.ex
  refine ⟨⟨t, p, fun st F0 H0 F H σ z D EQ D' r er h k => ?_⟩⟩
  refine q st F H F H σ z.ob _ EQ D' r.scope (er.after r.ok) h ⟨fun σ1 H1 F1 z1 s1 r1 hq => k.nx σ1 H1 F1 _ s1 (r1.unscope r.ok) hq, fun σ1 H1 F1 z1 s1 r1 hq => k.bk σ1 H1 F1 _ s1 (r1.unscope r.ok) hq, fun σ1 H1 F1 z1 s1 r1 hq => k.ct σ1 H1 F1 _ s1 (r1.unscope r.ok) hq, fun v H1 F1 rr n1 s1 ok1 rr1 hq => k.rt v H1 F1 rr n1 s1 (r.ok.trans ok1) ?_ hq⟩
  cases rr1 with
  | sh a => exact .sh a
  | nw w => exact .nw ⟨w.ho, w.f, r.ok.fr w.h0, w.st, w.pin⟩
  | fr w => exact .fr (w.mono (Same.refl F1) fun b _ _ q => r.ok.fr q)
end
end DL
end

section
set_option Elab.async false
set_option linter.all false
set_option maxRecDepth 100000
set_option maxHeartbeats 4000000
/-! DL30: a def that changes all lists of a thing, deep: `_law_spoiled`. -/
namespace DL
open PySem PySem.Spec PyProof.Rows L2
abbrev late : V := .str "late9"
def ScV : V → Prop
  | .non => True
  | .bl _ => True
  | .int _ => True
  | .str _ => True
  | _ => False
/-- a thing of at most k levels, w parts each; its lists stand at N, grown by at most J -/
def SpT (K : PySem.W.Frag) (N : Addr → Prop) (w J : Nat) (H : Hp) : Nat → V → Prop
  | 0, v => ScV v
  | k + 1, v => ScV v ∨ ∃ (a : Addr) (xs : List V), v = .ref a ∧ xs.length ≤ w ∧ (∀ x ∈ xs, SpT K N w J H k x) ∧ (SqT K H a xs ∨ (N a ∧ ∃ j, j ≤ J ∧ H a = some (.lst (xs ++ List.replicate j late))))
/-- nothing but lists at N has changed: each has grown by at most c -/
structure Spo (T : List (Addr × Str)) (N : Addr → Prop) (c : Nat) (H H' : Hp) : Prop where
  keep : ∀ a o, H a = some o → (∀ ps, o ≠ .tbl ps) → H' a = some o ∨ (N a ∧ ∃ ys i, i ≤ c ∧ o = .lst ys ∧ H' a = some (.lst (ys ++ List.replicate i late)))
  tabs : LamX.Tabs T H'
theorem Spo.refl {T : List (Addr × Str)} {N : Addr → Prop} {H : Hp} (t : LamX.Tabs T H) : Spo T N 0 H H := ⟨fun _ _ h _ => .inl h, t⟩
theorem Spo.of {T : List (Addr × Str)} {N : Addr → Prop} {H H' : Hp} (h : ∀ b o, H b = some o → (∀ ps, o ≠ .tbl ps) → H' b = some o) (t : LamX.Tabs T H') : Spo T N 0 H H' := ⟨fun a o e n => .inl (h a o e n), t⟩
theorem Spo.mono {T : List (Addr × Str)} {N : Addr → Prop} {c c' : Nat} {H H' : Hp} (s : Spo T N c H H') (h : c ≤ c') : Spo T N c' H H' := ⟨fun a o e n => (s.keep a o e n).imp id fun ⟨q, ys, i, h1, h2⟩ => ⟨q, ys, i, by omega, h2⟩, s.tabs⟩
theorem Spo.trans {T : List (Addr × Str)} {N : Addr → Prop} {c c' : Nat} {H H' H2 : Hp} (s : Spo T N c H H') (s2 : Spo T N c' H' H2) : Spo T N (c + c') H H2 := by
  refine ⟨fun a o e n => ?_, s2.tabs⟩
  rcases s.keep a o e n with h | ⟨q, ys, i, h1, rfl, h2⟩
  · exact (s2.keep a o h n).imp id fun ⟨q, ys, i, h1, h2⟩ => ⟨q, ys, i, by omega, h2⟩
  · rcases s2.keep a _ h2 (fun ps z => by cases z) with h3 | ⟨_, ys2, i2, h3, e2, h4⟩
    · exact .inr ⟨q, ys, i, by omega, rfl, h3⟩
    · cases e2
      exact .inr ⟨q, ys, i + i2, by omega, rfl, by rw [h4, List.append_assoc, List.replicate_append_replicate]⟩
theorem Spo.tup {K : PySem.W.Frag} {T : List (Addr × Str)} {N : Addr → Prop} {c : Nat} {H H' : Hp} {a : Addr} {xs : List V} (s : Spo T N c H H') (h : SqT K H a xs) : SqT K H' a xs := by
  rcases h with (h | ⟨o, h⟩) | h
  · rcases s.keep a _ h (fun ps z => by cases z) with q | ⟨_, _, _, _, e, _⟩
    · exact .inl (.inl q)
    · cases e
  · rcases s.keep a _ h (fun ps z => by cases z) with q | ⟨_, _, _, _, e, _⟩
    · exact .inl (.inr ⟨o, q⟩)
    · cases e
  · exact .inr h
theorem Spo.lst {T : List (Addr × Str)} {N : Addr → Prop} {c j : Nat} {H H' : Hp} {a : Addr} {xs : List V} (s : Spo T N c H H') (h : H a = some (.lst (xs ++ List.replicate j late))) : ∃ i, i ≤ c ∧ H' a = some (.lst (xs ++ List.replicate (j + i) late)) := by
  rcases s.keep a _ h (fun ps z => by cases z) with q | ⟨_, ys, i, h1, e, h2⟩
  · exact ⟨0, Nat.zero_le _, q⟩
  · cases e
    exact ⟨i, h1, by rw [h2, List.append_assoc, List.replicate_append_replicate]⟩
theorem SpT.spo {K : PySem.W.Frag} {T : List (Addr × Str)} {N : Addr → Prop} {w J c : Nat} {H H' : Hp} (s : Spo T N c H H') : ∀ (k : Nat) {v : V}, SpT K N w J H k v → SpT K N w (J + c) H' k v
  | 0, _, h => h
  | k + 1, v, h => by
    rcases h with h | ⟨a, xs, rfl, h1, h2, h3⟩
    · exact .inl h
    · refine .inr ⟨a, xs, rfl, h1, fun x hx => SpT.spo s k (h2 x hx), ?_⟩
      rcases h3 with h3 | ⟨n, j, hj, h3⟩
      · exact .inl (s.tup h3)
      · obtain ⟨i, hi, q⟩ := s.lst h3
        exact .inr ⟨n, j + i, by omega, q⟩
theorem SpT.sc {K : PySem.W.Frag} {N : Addr → Prop} {w J : Nat} {H : Hp} {v : V} (h : ScV v) : ∀ k, SpT K N w J H k v
  | 0 => h
  | _ + 1 => .inl h
/-- how much a list grows at most -/
def spB (w : Nat) : Nat → Nat
  | 0 => 0
  | k + 1 => w * spB w k + 1
def spSpoil (K : PySem.W.Frag) (T : List (Addr × Str)) (w k : Nat) : Sp := fun vs H Q _ => ∃ (v : V) (N : Addr → Prop) (J c : Nat), vs = [v] ∧ SpT K N w J H k v ∧ (c = spB w k ∨ (ScV v ∧ c = 0)) ∧ J + c + w + 10 ≤ 1000000 ∧ LamX.Tabs T H ∧ ∀ H', Spo T N c H H' → Q .non H'
section
variable {T : List (Addr × Str)} {X : Cx} {E : XK} {e : Expr}
/-- a test of the kind of what slot 0 holds -/
def tTy (K : PySem.W.Frag) (T : List (Addr × Str)) (ts : List String) : TT := fun σ H R => ∃ (v : V) (d : D) (t : String) (F : Hp), σ[0]? = some (some v) ∧ Same F H ∧ (∀ a ps, F a ≠ some (.tbl ps)) ∧ Rep K F d v ∧ tyS d = some t ∧ LamX.Tabs T H ∧ ∀ H', (∀ b o, H b = some o → (∀ ps, o ≠ .tbl ps) → H' b = some o) → LamX.Tabs T H' → R (isB t ts) H'
theorem DT.ty {ts : List String} (h : DT T X E e (tBool (mIs ts (mVar 0)))) : PT X e (tTy X.K T ts) := by
  obtain ⟨t0, p, q⟩ := h.ex
  refine ⟨fun pins s σ H R I hh => ?_⟩
  obtain ⟨v, d, t, F, h0, hs, hn, rp, ht, tb, k⟩ := hh
  have hl : 0 < σ.length := (List.getElem?_eq_some_iff.mp h0).1
  have un : ∀ {i : Nat} {x : DV}, (DV.sh d :: List.replicate (σ.length - 1) .un)[i]? = some x → (i = 0 ∧ x = .sh d) ∨ x = .un := fun {i x} hi => by
    cases i with
    | zero => simp at hi; exact .inl ⟨rfl, hi.symm⟩
    | succ i =>
      rw [List.getElem?_cons_succ] at hi
      exact .inr (List.eq_of_mem_replicate (List.mem_of_getElem? hi))
  have r : Rel X.K T none F H F H σ ⟨DV.sh d :: List.replicate (σ.length - 1) .un, 0⟩ := by
    refine ⟨⟨hs, hn, fun _ _ h => h, fun _ _ h => .inl h, fun _ _ h _ _ => h, nofun, tb⟩, by simp; omega, fun i d' hi => ?_, fun i o hi => ?_, fun i j o o' b hij hi => ?_, fun i kk d' hi => ?_⟩
    · rcases un hi with ⟨rfl, q⟩ | q
      · cases q
        exact ⟨v, h0, rp⟩
      · cases q
    · rcases un hi with ⟨_, q⟩ | q <;> cases q
    · rcases un hi with ⟨_, q⟩ | q <;> cases q
    · rcases un hi with ⟨_, q⟩ | q <;> cases q
  refine p.run pins s σ H R I (q none F H F H σ _ (fun b _ => b = isB t ts) (fun _ _ => False) R r (fun _ _ _ _ _ _ _ _ _ _ _ z => z.elim) ?_ fun b H' n' r' hb => ?_)
  · show ∃ _, _
    exact ⟨t, ht, _, rfl, rfl⟩
  · subst hb
    exact k H' (fun b o h h2 => r'.ok.keep b o h nofun h2) r'.ok.tabs
/-- what the def does -/
def tSpoil (K : PySem.W.Frag) (T : List (Addr × Str)) (w k ip : Nat) (E : XK) : TS :=
  tIfS (tTy K T ["dict"]) tNever (tIfS (tTy K T ["list", "tuple"])
    (tSeq (tFor (fun σ H R => (tVar 0) σ H fun x H1 => ∃ a, x = .ref a ∧ (((∃ xs, SqL K H1 a xs) ∧ R (Itl K a) H1) ∨ ((∃ xs, SqT K H1 a xs) ∧ R (Itt K a) H1))) (gName ip) (tDrop (tCall (spSpoil K T w k) [] E (tCons (tVar ip) tNil))))
      (tIfS (tTy K T ["list"]) (tDrop (tBM K "list" rAppend (tVar 0) (tCons (tC late) tNil))) tNext)) tNext)
theorem sc_ty {K : PySem.W.Frag} {v : V} (h : ScV v) : ∃ t, tyS (.v v) = some t ∧ isB t ["dict"] = false ∧ isB t ["list", "tuple"] = false := by
  cases v <;> first | exact h.elim | exact ⟨_, rfl, by decide, by decide⟩
/-- one list, looked at -/
def oneF (a : Addr) (o : HO) : Hp := fun b => if b = a then some o else none
theorem oneF_sub {H : Hp} {a : Addr} {o : HO} (h : H a = some o) : Same (oneF a o) H := fun b u hb => by
  unfold oneF at hb
  split at hb
  · rename_i e
    rw [e, h]
    exact hb
  · cases hb
theorem oneF_nt {a : Addr} {o : HO} (h : ∀ ps, o ≠ .tbl ps) : ∀ b ps, oneF a o b ≠ some (.tbl ps) := fun b ps hb => by
  unfold oneF at hb
  split at hb
  · cases hb
    exact h ps rfl
  · cases hb
theorem tup_look {K : PySem.W.Frag} {H : Hp} {a : Addr} {xs : List V} (h : SqT K H a xs) : ∃ F, Same F H ∧ (∀ b ps, F b ≠ some (.tbl ps)) ∧ Rep K F (.tup (xs.map D.v)) (.ref a) := by
  rcases h with (h | ⟨o, h⟩) | h
  · exact ⟨_, oneF_sub h, oneF_nt (fun ps q => by cases q), .tup (.inl (.inl (if_pos rfl))) (Reps.ofV xs)⟩
  · exact ⟨_, oneF_sub h, oneF_nt (fun ps q => by cases q), .tup (.inl (.inr ⟨o, if_pos rfl⟩)) (Reps.ofV xs)⟩
  · exact ⟨fun _ => none, fun _ _ q => by (cases q), fun _ _ q => by (cases q), .tup (.inr h) (Reps.ofV xs)⟩
theorem spoil_ok {K : PySem.W.Frag} {w k ip n : Nat} {E : XK} (hip : ip ≠ 0) (hn : ip < n) {v : V} {H : Hp} {Q : VK} (h : spSpoil K T w (k + 1) [v] H Q E) : tSpoil K T w k ip E { nx := fun _ H' => Q .non H', rt := Q } (some v :: List.replicate (n - 1) none) H := by
  obtain ⟨v', N, J, c, e, hs, hc, hb, tb, q⟩ := h
  cases e
  have hB : spB w (k + 1) = w * spB w k + 1 := rfl
  have slot : ∀ {σ : Sg}, σ = (some v :: List.replicate (n - 1) none : Sg) → σ[0]? = some (some v) := fun h => by rw [h]; rfl
  rcases hs with hs | ⟨a, xs, rfl, hw, hx, h3⟩
  · -- no list, no tuple
    obtain ⟨t, h1, h2, h4⟩ := sc_ty (K := K) hs
    refine ⟨v, _, t, fun _ => none, rfl, fun _ _ z => by (cases z), fun _ _ z => by (cases z), .v _, h1, tb, fun H1 k1 t1 => ?_⟩
    rw [h2]
    refine iteF ?_
    refine ⟨v, _, t, fun _ => none, rfl, fun _ _ z => by (cases z), fun _ _ z => by (cases z), .v _, h1, t1, fun H2 k2 t2 => ?_⟩
    rw [h4]
    refine iteF ?_
    exact q H2 ((Spo.of (fun b o e n => k2 b o (k1 b o e n) n) t2).mono (Nat.zero_le _))
  -- a list or a tuple: what a test tells of it
  have cB : c = spB w (k + 1) := hc.elim id fun z => z.1.elim
  rw [cB, hB] at hb
  have look : ∀ {H' : Hp} {c' : Nat}, Spo T N c' H H' → ∃ (d : D) (F : Hp), Same F H' ∧ (∀ b ps, F b ≠ some (.tbl ps)) ∧ Rep K F d (.ref a) ∧ (tyS d = some "list" ∧ N a ∧ (∃ j, j ≤ J + c' ∧ H' a = some (.lst (xs ++ List.replicate j late))) ∨ tyS d = some "tuple" ∧ SqT K H' a xs) := fun {H' c'} s => by
    rcases h3 with h3 | ⟨hN, j, hj, h3⟩
    · obtain ⟨F, f1, f2, f3⟩ := tup_look (s.tup h3)
      exact ⟨_, F, f1, f2, f3, .inr ⟨rfl, s.tup h3⟩⟩
    · obtain ⟨i, hi, h4⟩ := s.lst h3
      exact ⟨.lst ((xs ++ List.replicate (j + i) late).map D.v), _, oneF_sub h4, oneF_nt (fun ps q => by cases q), .lst (if_pos rfl) (Reps.ofV _), .inl ⟨rfl, hN, j + i, by omega, h4⟩⟩
  have s0 := Spo.refl (N := N) tb
  obtain ⟨d, F, f1, f2, f3, f4⟩ := look s0
  have ht : ∃ t, tyS d = some t ∧ isB t ["dict"] = false ∧ isB t ["list", "tuple"] = true := by
    rcases f4 with ⟨h, _⟩ | ⟨h, _⟩
    · exact ⟨_, h, by decide, by decide⟩
    · exact ⟨_, h, by decide, by decide⟩
  obtain ⟨t, t1, t2, t3⟩ := ht
  refine ⟨.ref a, d, t, F, rfl, f1, f2, f3, t1, tb, fun H1 k1 tb1 => ?_⟩
  rw [t2]
  refine iteF ?_
  have s1 : Spo T N 0 H H1 := Spo.of k1 tb1
  obtain ⟨d', F', g1, g2, g3, g4⟩ := look s1
  have ht' : ∃ t, tyS d' = some t ∧ isB t ["list", "tuple"] = true := by
    rcases g4 with ⟨h, _⟩ | ⟨h, _⟩
    · exact ⟨_, h, by decide⟩
    · exact ⟨_, h, by decide⟩
  obtain ⟨t', u1, u2⟩ := ht'
  refine ⟨.ref a, d', t', F', rfl, g1, g2, g3, u1, tb1, fun H2 k2 tb2 => ?_⟩
  rw [u2]
  refine iteT ?_
  have s2 : Spo T N 0 H H2 := (s1.trans (Spo.of k2 tb2)).mono (Nat.le_refl _)
  -- behind the loop
  have done : ∀ (σ : Sg) (H3 : Hp), σ[0]? = some (some (.ref a)) → Spo T N (w * spB w k) H H3 → (tIfS (tTy K T ["list"]) (tDrop (tBM K "list" rAppend (tVar 0) (tCons (tC late) tNil))) tNext) { nx := fun _ H' => Q .non H', rt := Q } σ H3 := fun σ H3 h0 s3 => by
    obtain ⟨d, F, f1, f2, f3, f4⟩ := look s3
    rcases f4 with ⟨ht, hN, j, hj, hl⟩ | ⟨ht, hl⟩
    · refine ⟨.ref a, d, _, F, h0, f1, f2, f3, ht, s3.tabs, fun H4 k4 tb4 => ?_⟩
      rw [show isB "list" ["list"] = true by decide]
      refine iteT ?_
      have hl4 := k4 a _ hl (fun ps z => by cases z)
      refine ⟨.ref a, h0, .inl ⟨rfl, _, SqL.of hl4⟩, ?_⟩
      refine ⟨a, _, late, rfl, rfl, hl4, size_lt (by simp; omega), ?_⟩
      refine q _ ?_
      rw [cB, hB]
      have s4 : Spo T N (w * spB w k) H H4 := (s3.trans (Spo.of k4 tb4)).mono (by omega)
      refine s4.trans ⟨fun b o e n => ?_, fun p hp => ?_⟩
      · by_cases hb : b = a
        · subst hb
          rw [hl4] at e
          cases e
          exact .inr ⟨hN, _, 1, Nat.le_refl _, rfl, upd_same⟩
        · exact .inl (by rw [upd_ne hb]; exact e)
      · obtain ⟨ps, p1, p2, p3⟩ := tb4 p hp
        have n1 : p.1 ≠ a := fun z => by rw [z, hl4] at p1; cases p1
        refine ⟨ps, by rw [upd_ne n1]; exact p1, p2, fun pos cv hcv => ?_⟩
        obtain ⟨cc, e1, e2⟩ := p3 pos cv hcv
        have nc : cc ≠ a := fun z => by
          rw [z, hl4] at e2
          unfold LamX.CodeO at e2
          cases e2
        exact ⟨cc, e1, by rw [upd_ne nc]; exact e2⟩
    · refine ⟨.ref a, d, _, F, h0, f1, f2, f3, ht, s3.tabs, fun H4 k4 tb4 => ?_⟩
      rw [show isB "tuple" ["list"] = false by decide]
      refine iteF ?_
      refine q _ ?_
      rw [cB, hB]
      exact (s3.trans (Spo.of k4 tb4)).mono (by omega)
  -- one part
  have part : ∀ (i : Nat) (x : V) (σ : Sg) (H3 : Hp) (c3 : Nat) (Nx : Sg → Hp → Prop), σ.length = n → σ[0]? = some (some (.ref a)) → Spo T N c3 H H3 → ((∃ y ∈ xs, x = y) ∧ c3 + spB w k ≤ w * spB w k ∨ x = late ∧ c3 ≤ w * spB w k) → (∀ σ' H', σ'.length = n → σ'[0]? = some (some (.ref a)) → Spo T N (c3 + (if x = late then 0 else spB w k)) H H' → Nx σ' H') →
      gName ip x σ H3 fun σ2 H2 => (tDrop (tCall (spSpoil K T w k) [] E (tCons (tVar ip) tNil))) { nx := Nx, rt := Q, ct := Nx, bk := fun _ H' => Q .non H' } σ2 H2 := fun i x σ H3 c3 Nx hlen h0 s3 hx' hN => by
    refine ⟨x, by rw [List.getElem?_set_self (by rw [hlen]; exact hn)], ?_⟩
    have e0 : (σ.set ip (some x))[0]? = some (some (.ref a)) := by rw [List.getElem?_set_ne hip]; exact h0
    by_cases hL : x = late
    · subst hL
      have hc3 : c3 ≤ w * spB w k := by rcases hx' with ⟨_, z⟩ | ⟨_, z⟩ <;> omega
      have sc : ScV late := True.intro
      refine ⟨late, N, J + c3, 0, rfl, SpT.sc sc k, .inr ⟨sc, rfl⟩, by omega, s3.tabs, fun H4 s4 => ?_⟩
      exact hN _ _ (by simpa using hlen) e0 (by simpa using s3.trans s4)
    · have hxm : SpT K N w J H k x ∧ c3 + spB w k ≤ w * spB w k := by
        rcases hx' with ⟨⟨y, hy, rfl⟩, z⟩ | z
        · exact ⟨hx _ hy, z⟩
        · exact absurd z.1 hL
      obtain ⟨hxm, hc3⟩ := hxm
      refine ⟨x, N, J + c3, spB w k, rfl, SpT.spo s3 k hxm, .inl rfl, by omega, s3.tabs, fun H4 s4 => ?_⟩
      exact hN _ _ (by simpa using hlen) e0 (by simpa [hL] using s3.trans s4)
  refine ⟨.ref a, rfl, a, rfl, ?_⟩
  have hmul : ∀ i, i < xs.length → i * spB w k + spB w k ≤ w * spB w k := fun i hlt => by
    have := Nat.mul_le_mul_right (spB w k) (show i + 1 ≤ w by omega)
    rw [Nat.add_mul, Nat.one_mul] at this
    exact this
  have hall : xs.length * spB w k ≤ w * spB w k := Nat.mul_le_mul_right _ hw
  rcases h3 with h3 | ⟨hN, j, hj, h3⟩
  · -- a tuple
    refine .inr ⟨⟨_, s2.tup h3⟩, fun i m σ H3 => σ.length = n ∧ σ[0]? = some (some (.ref a)) ∧ Spo T N (i * spB w k) H H3 ∧ i ≤ xs.length ∧ m = xs.length - i, ⟨_, by simp; omega, rfl, by simpa using s2, Nat.zero_le _, rfl⟩, ?_⟩
    rintro i m σ H3 ⟨hlen, h0, s3, hi, rfl⟩
    have sq : SqT K H3 a xs := s3.tup h3
    by_cases hlt : i < xs.length
    · refine .inr ⟨⟨xs, xs[i], sq, by simp [hlt]⟩, fun σ' H' => σ'.length = n ∧ σ'[0]? = some (some (.ref a)) ∧ Spo T N ((i + 1) * spB w k) H H', ?_, ?_⟩
      · rintro σ' H' ⟨a1, a2, a3⟩
        exact ⟨xs.length - (i + 1), by omega, a1, a2, a3, hlt, rfl⟩
      · rintro x H' ⟨rfl, hx2⟩
        have e := hx2 xs sq
        refine part i x σ _ _ _ hlen h0 s3 (.inl ⟨⟨x, List.mem_of_getElem? e, rfl⟩, hmul i hlt⟩) fun σ' H4 a1 a2 a3 => ⟨a1, a2, a3.mono ?_⟩
        rw [Nat.add_mul, Nat.one_mul]
        split <;> omega
    · have e : i = xs.length := by omega
      subst e
      refine .inl ⟨⟨xs, sq, Nat.le_refl _⟩, done σ H3 h0 (s3.mono hall)⟩
  · -- a list
    obtain ⟨i2, hi2, hl2⟩ := s2.lst h3
    refine .inl ⟨⟨_, SqL.of hl2⟩, fun i m σ H3 => σ.length = n ∧ σ[0]? = some (some (.ref a)) ∧ Spo T N (min i xs.length * spB w k) H H3 ∧ m = xs.length + j + w * spB w k - i, ⟨_, by simp; omega, rfl, by simpa using s2, rfl⟩, ?_⟩
    rintro i m σ H3 ⟨hlen, h0, s3, rfl⟩
    obtain ⟨i3, hi3, hl3⟩ := s3.lst h3
    have hmin : min i xs.length * spB w k ≤ w * spB w k := Nat.mul_le_mul_right _ (by omega)
    by_cases hlt : i < xs.length + (j + i3)
    · have hget : ∃ x, (xs ++ List.replicate (j + i3) late)[i]? = some x := ⟨_, List.getElem?_eq_getElem (by simpa using hlt)⟩
      obtain ⟨x0, hx0⟩ := hget
      refine .inr ⟨⟨_, x0, SqL.of hl3, hx0⟩, fun σ' H' => σ'.length = n ∧ σ'[0]? = some (some (.ref a)) ∧ Spo T N (min (i + 1) xs.length * spB w k) H H', ?_, ?_⟩
      · rintro σ' H' ⟨a1, a2, a3⟩
        exact ⟨xs.length + j + w * spB w k - (i + 1), by omega, a1, a2, a3, rfl⟩
      · rintro x H' ⟨rfl, hx2⟩
        have e := hx2 _ (SqL.of hl3)
        by_cases hl : i < xs.length
        · rw [List.getElem?_append_left hl] at e
          have m1 : min i xs.length = i := by omega
          have m2 : min (i + 1) xs.length = i + 1 := by omega
          rw [m1] at s3
          rw [m2]
          refine part i x σ _ _ _ hlen h0 s3 (.inl ⟨⟨x, List.mem_of_getElem? e, rfl⟩, hmul i hl⟩) fun σ' H4 a1 a2 a3 => ⟨a1, a2, a3.mono ?_⟩
          rw [Nat.add_mul, Nat.one_mul]
          split <;> omega
        · rw [List.getElem?_append_right (by omega)] at e
          have ex : x = late := List.eq_of_mem_replicate (List.mem_of_getElem? e)
          have m2 : min (i + 1) xs.length = min i xs.length := by omega
          rw [m2]
          refine part i x σ _ _ _ hlen h0 s3 (.inr ⟨ex, hmin⟩) fun σ' H4 a1 a2 a3 => ⟨a1, a2, a3.mono ?_⟩
          rw [if_pos ex]
          omega
    · refine .inl ⟨⟨_, SqL.of hl3, by simp; omega⟩, done σ H3 h0 (s3.mono hmin)⟩
end
end DL
end

section
set_option Elab.async false
set_option linter.all false
set_option maxRecDepth 100000
set_option maxHeartbeats 4000000
/-! DL31: blocks that may fall back to their base; spoiling in a scope. -/
namespace DL
open PySem PySem.Spec PyProof.Rows L2
/-- what SpT asks, by data -/
def SpD (w : Nat) : Nat → D → Prop
  | 0, d => ∃ x, d = .v x ∧ ScV x
  | k + 1, d => (∃ x, d = .v x ∧ ScV x) ∨ ∃ ds : List D, (d = .lst ds ∨ d = .tup ds) ∧ ds.length ≤ w ∧ ∀ e ∈ ds, SpD w k e
theorem RepsN.mem {K : PySem.W.Frag} {F H0 : Hp} : ∀ {ds : List D} {xs : List V}, RepsN K F H0 ds xs → ∀ x ∈ xs, ∃ d ∈ ds, RepN K F H0 d x
  | _, _, .nil, x, h => by cases h
  | _, _, .cons (d := d) h t, x, hx => by
    rcases List.mem_cons.mp hx with rfl | hx
    · exact ⟨d, List.mem_cons_self .., h⟩
    · obtain ⟨e, he, r⟩ := t.mem x hx
      exact ⟨e, List.mem_cons_of_mem _ he, r⟩
theorem RepsN.len {K : PySem.W.Frag} {F H0 : Hp} : ∀ {ds : List D} {xs : List V}, RepsN K F H0 ds xs → ds.length = xs.length
  | _, _, .nil => rfl
  | _, _, .cons _ t => congrArg (· + 1) t.len
theorem SpD.spT {K : PySem.W.Frag} {F H0 H : Hp} {w : Nat} (s : Same F H) : ∀ (k : Nat) {d : D} {v : V}, SpD w k d → RepN K F H0 d v → SpT K (Fr H0) w 0 H k v
  | 0, d, v, ⟨x, e, hx⟩, r => by
    subst e
    cases r
    exact hx
  | k + 1, d, v, h, r => by
    rcases h with ⟨x, rfl, hx⟩ | ⟨ds, e, hl, hd⟩
    · cases r
      exact .inl hx
    · rcases e with rfl | rfl
      · cases r with
        | lst h f rs => exact .inr ⟨_, _, rfl, by rw [← rs.len]; exact hl, fun x hx => (rs.mem x hx).elim fun e he => SpD.spT s k (hd e he.1) he.2, .inr ⟨f, 0, Nat.le_refl _, by simpa using s _ _ h⟩⟩
      · cases r with
        | tup h rs => exact .inr ⟨_, _, rfl, by rw [← rs.len]; exact hl, fun x hx => (rs.mem x hx).elim fun e he => SpD.spT s k (hd e he.1) he.2, .inl (SqT.same s h)⟩
/-- a statement, a block behind which F may have fallen back to the base -/
structure DSd (T : List (Addr × Str)) (X : Cx) (E : XK) (s : Stmt) (m : TDS) : Prop where
  ex : ∃ t : TS, PS X s t ∧ ∀ (st : Option Addr) (F0 H0 F H : Hp) (σ : Sg) (z : Z) (D : DEnds) (EQ : TEX) (D' : Ends), (∃ n0, Ok T st F0 H0 F0 H0 n0) → Rel X.K T st F0 H0 F H σ z → ERel X.K T st F0 H0 E EQ → m st D z EQ → EndsOk X.K T st F0 H0 F0 D D' → t D' σ H
structure DBd (T : List (Addr × Str)) (X : Cx) (E : XK) (s : List Stmt) (m : TDS) : Prop where
  ex : ∃ t : TS, PSs X s t ∧ ∀ (st : Option Addr) (F0 H0 F H : Hp) (σ : Sg) (z : Z) (D : DEnds) (EQ : TEX) (D' : Ends), (∃ n0, Ok T st F0 H0 F0 H0 n0) → Rel X.K T st F0 H0 F H σ z → ERel X.K T st F0 H0 E EQ → m st D z EQ → EndsOk X.K T st F0 H0 F0 D D' → t D' σ H
section
variable {T : List (Addr × Str)} {X : Cx} {E : XK} {e : Expr} {s : Stmt} {ss sa sb : List Stmt} {m m1 m2 ms : TDS} {mt : TDT} {pos p p2 p3 : Pos} {x y : Str} {k j w : Nat}
theorem dsd (h : DS T X E s m) : DSd T X E s m := by
  obtain ⟨t, p, q⟩ := h.ex
  exact ⟨⟨t, p, fun st F0 H0 F H σ z D EQ D' _ r er h k => q st F0 H0 F H σ z D EQ D' r er h (k.mono r.ok.f0)⟩⟩
theorem dbd (h : DB T X E ss m) : DBd T X E ss m := by
  obtain ⟨t, p, q⟩ := h.ex
  exact ⟨⟨t, p, fun st F0 H0 F H σ z D EQ D' _ r er h k => q st F0 H0 F H σ z D EQ D' r er h (k.mono r.ok.f0)⟩⟩
theorem dbd_one (h : DSd T X E s m) : DBd T X E [s] m := by
  obtain ⟨t, p, q⟩ := h.ex
  exact ⟨⟨t, pss_one p, q⟩⟩
theorem dbd_cons (h : DSd T X E s m1) (h2 : DBd T X E ss m2) : DBd T X E (s :: ss) (bCons m1 m2) := by
  obtain ⟨t, p, q⟩ := h.ex
  obtain ⟨u, p2, q2⟩ := h2.ex
  refine ⟨⟨_, pss_cons p p2, fun st F0 H0 F H σ z D EQ D' b0 r er h k => ?_⟩⟩
  exact q st F0 H0 F H σ z _ EQ _ b0 r er h ⟨fun σ1 H1 F1 z1 s1 r1 h1 => q2 st F0 H0 F1 H1 σ1 z1 D EQ D' b0 r1 er h1 k, k.bk, k.ct, k.rt⟩
theorem dsd_if (hc : DT T X E e mt) (ha : DBd T X E sa m1) (hb : DBd T X E sb m2) : DSd T X E (.If e sa sb pos) (sIf mt m1 m2) := by
  obtain ⟨t, p, q⟩ := hc.ex
  obtain ⟨ta, pa, qa⟩ := ha.ex
  obtain ⟨tb, pb, qb⟩ := hb.ex
  refine ⟨⟨_, ps_if p pa pb, fun st F0 H0 F H σ z D EQ D' b0 r er h k => q st F0 H0 F H σ z _ EQ _ r er h fun b H' n' r' h' => ?_⟩⟩
  cases b with
  | true => exact iteT (qa st F0 H0 F H' σ _ D EQ D' b0 r' er (h'.1 rfl) k)
  | false => exact iteF (qb st F0 H0 F H' σ _ D EQ D' b0 r' er (h'.2 rfl) k)
theorem db_scopeD (h : DBd T X E ss ms) : DB T X E ss (bScope ms) := by
  obtain ⟨t, p, q⟩ := h.ex
  refine ⟨⟨t, p, fun st F0 H0 F H σ z D EQ D' r er h k => ?_⟩⟩
  refine q st F H F H σ z.ob _ EQ D' ⟨_, r.ok.refl'⟩ r.scope (er.after r.ok) h ⟨fun σ1 H1 F1 z1 s1 r1 hq => k.nx σ1 H1 F1 _ s1 (r1.unscope r.ok) hq, fun σ1 H1 F1 z1 s1 r1 hq => k.bk σ1 H1 F1 _ s1 (r1.unscope r.ok) hq, fun σ1 H1 F1 z1 s1 r1 hq => k.ct σ1 H1 F1 _ s1 (r1.unscope r.ok) hq, fun v H1 F1 rr n1 s1 ok1 rr1 hq => k.rt v H1 F1 rr n1 s1 (r.ok.trans ok1) ?_ hq⟩
  cases rr1 with
  | sh a => exact .sh a
  | nw w => exact .nw ⟨w.ho, w.f, r.ok.fr w.h0, w.st, w.pin⟩
  | fr w => exact .fr (w.mono (Same.refl F1) fun b _ _ q => r.ok.fr q)
/-! ### falling back -/
@[reducible, simp] def DV.dp : DV → DV
  | .bs true d => .bs true d
  | .sh (.v x) => .sh (.v x)
  | _ => .un
@[reducible, simp] def Z.dp (z : Z) : Z := { z with env := z.env.map DV.dp }
theorem Rel.fall {K : PySem.W.Frag} {st : Option Addr} {F0 H0 F H H' : Hp} {σ : Sg} {z : Z} {c : Nat} (b0 : Same F0 H0) (r : Rel K T st F0 H0 F H σ z) (s : Spo T (Fr H0) c H H') (hst : ∀ sp, st = some sp → H' sp = H sp) : Rel K T st F0 H0 F0 H' σ z.dp := by
  have nf : ∀ {i : Nat} {x : DV}, (z.env.map DV.dp)[i]? = some x → x = .un ∨ (∃ d, x = .bs true d ∧ z.env[i]? = some (.bs true d)) ∨ ∃ v, x = .sh (.v v) ∧ z.env[i]? = some (.sh (.v v)) := fun {i x} hi => by
    obtain ⟨y, hy, q⟩ := map_some hi
    cases y with
    | bs b d =>
      cases b with
      | true => exact .inr (.inl ⟨d, q.symm, hy⟩)
      | false => exact .inl q.symm
    | sh d =>
      cases d with
      | v x => exact .inr (.inr ⟨x, q.symm, hy⟩)
      | _ => exact .inl q.symm
    | _ => exact .inl q.symm
  have keep : ∀ b o, H0 b = some o → H b = some o → (∀ ps, o ≠ .tbl ps) → H' b = some o := fun b o h0 h hn => by
    rcases s.keep b o h hn with q | ⟨q, _⟩
    · exact q
    · exact absurd rfl (q.ne h0 hn)
  refine ⟨⟨fun b o h => ?_, fun b ps h => r.ok.nt b ps (r.ok.f0 _ _ h), fun _ _ h => h, fun _ _ h => .inl h, fun b o h h1 h2 => keep b o h (r.ok.keep b o h h1 h2) h2, fun sp h => ?_, s.tabs⟩, by simpa using r.len, fun i d hi => ?_, fun i o hi => ?_, fun i j o o' b hij hi => ?_, fun i kk d hi => ?_⟩
  · have hF := r.ok.f0 b o h
    have hn : ∀ ps, o ≠ .tbl ps := fun ps e => r.ok.nt b ps (by rw [← e]; exact hF)
    rcases s.keep b o (r.ok.sub b o hF) hn with q | ⟨q, _⟩
    · exact q
    · exact absurd rfl (q.ne (b0 b o h) hn)
  · obtain ⟨h1, h2⟩ := r.ok.strm sp h
    refine ⟨?_, h2.at (hst sp h)⟩
    cases q : F0 sp with
    | none => rfl
    | some o => rw [r.ok.f0 _ _ q] at h1; cases h1
  · rcases nf (show (z.env.map DV.dp)[i]? = some (.sh d) from hi) with q | ⟨_, q, _⟩ | ⟨x, q, hz⟩
    · cases q
    · cases q
    · cases q
      obtain ⟨v, h1, h2⟩ := r.sh i _ hz
      cases h2
      exact ⟨_, h1, .v _⟩
  · rcases nf (show (z.env.map DV.dp)[i]? = some (.ow o) from hi) with q | ⟨_, q, _⟩ | ⟨_, q, _⟩ <;> cases q
  · rcases nf (show (z.env.map DV.dp)[i]? = some (.ow o) from hi) with q | ⟨_, q, _⟩ | ⟨_, q, _⟩ <;> cases q
  · rcases nf (show (z.env.map DV.dp)[i]? = some (.bs kk d) from hi) with q | ⟨d', q, hz⟩ | ⟨x, q, hz⟩
    · cases q
    · cases q
      obtain ⟨v, h1, h2⟩ := r.bs i _ _ hz
      exact ⟨v, h1, h2⟩
    · cases q
theorem spo_strm {st : Option Addr} {F0 H0 F H H' : Hp} {n c : Nat} (ok : Ok T st F0 H0 F H n) (s : Spo T (Fr H0) c H H') (h0 : ∀ sp, st = some sp → ∃ o, H0 sp = some o ∧ ∀ ps, o ≠ .tbl ps) : ∀ sp, st = some sp → H' sp = H sp := fun sp h => by
  obtain ⟨_, z0, z1, z2, h2, _⟩ := ok.strm sp h
  rcases s.keep sp _ h2 (fun ps z => by cases z) with q | ⟨q, _⟩
  · rw [q, h2]
  · obtain ⟨o, ho, hn⟩ := h0 sp h
    exact absurd rfl (q.ne ho hn)
/-- the def that spoils, by its promise -/
structure FnSp (P : Program) (w : World) (K : PySem.W.Frag) (T : List (Addr × Str)) (mg : Str → Option Value) (base : Heap) (k : Nat) (x : Str) (wd d : Nat) : Prop where
  ex : ∃ (f : Addr) (fd : FuncData), FnOk P w K mg base (L2.CX P w) k f fd ["thing"] (spSpoil K T wd d) ∧ mg x = some (.ref f) ∧ PySem.W.keepIn K (.ref f) = true ∧ Binds K fd ["thing"] []
@[reducible, simp] def sSpoil (i w d : Nat) : TDS := fun _ D z _ => ∃ x, z.env[i]? = some (.bs false x) ∧ SpD w d x ∧ spB w d + w + 10 ≤ 1000000 ∧ D.nx z.dp
theorem dsd_spoil (i : Nat) {d : Nat} (c : FnSp X.prog X.w X.K T X.mg X.base k x w d) (hr : Room j X.A) (hk : k ≤ j) (hg : Gl X x) (hx : Passes (L2.CX X.prog X.w) X E) (hN : X.N[i]? = some y := by rfl) (hv : Vis X.env.scope y := by first | exact Or.inl rfl | exact Or.inr (Or.inl rfl) | exact Or.inr (Or.inr rfl)) (hd : (y == ("__debug__" : Str)) = false := by decide) (hcd : (y == ("__classdict__" : Str)) = false := by decide) (hdb : (x == ("__debug__" : Str)) = false := by decide)
    (he : starEach [.Name y p2] X.env = (false, eval (.Name y p2) X.env) :: starEach [] X.env := by rfl) (hpl : (backTo p3 (starEach [] X.env)).any (·.1) = false := by rfl) (hs : swapsWith (.Call (.Name x p) [.Name y p2] [] p3) none pos.line X.env = pure false := by rfl) :
    DSd T X E (.Expr (.Call (.Name x p) [.Name y p2] [] p3) pos) (sSpoil i w d) := by
  obtain ⟨f, fd, F, hm, hkp, hb⟩ := c.ex
  refine ⟨⟨_, ps_expr (pe_call F (hr.mono hk) hg hm hkp hb .nil hx (pa_cons (pe_var hN hv hd hcd) pa_nil) hdb he hpl) hs, fun st F0 H0 F H σ z D EQ D' b0 r er h k => ?_⟩⟩
  obtain ⟨n0, o0⟩ := b0
  obtain ⟨x, hz, hsp, hl, hnx⟩ := h
  obtain ⟨v, h1, h2⟩ := r.bs i _ _ hz
  refine ⟨v, h1, v, Fr H0, 0, _, rfl, SpD.spT r.ok.sub _ hsp h2, .inl rfl, by omega, r.ok.tabs, fun H' s => ?_⟩
  exact k.nx σ H' F0 _ (Same.refl F0) (r.fall o0.sub s (spo_strm r.ok s fun sp h => by
    obtain ⟨_, z0, z1, z2, h2, _⟩ := o0.strm sp h
    exact ⟨_, h2, fun ps z => by cases z⟩)) hnx
end
end DL
end

section
set_option Elab.async false
set_option linter.all false
set_option maxRecDepth 100000
set_option maxHeartbeats 4000000
/-! DL32: a tuple of the top; == by an own __eq__; a, b = x, y with a new tree for the second; _law_met whose told thing is new; x[1].append(..) of a new tree. -/
namespace DL
open PySem PySem.Spec PyProof.Rows L2
section
variable {T : List (Addr × Str)} {X : Cx} {E : XK} {e a b : Expr} {ss : List Stmt} {pos p : Pos} {me ma mb : TDE} {mas : TDA} {ms : TDS} {k j : Nat} {x y : Str} {ps : List Str} {sp : DSpec}
/-- a name of the top that stands for a tuple -/
theorem de_gt {ds : List D} {xs : List V} (hg : Gl X x) (h : ∃ t, X.mg x = some (.ref t) ∧ ∀ F : Hp, SqT X.K F t xs) (hr : ∀ F : Hp, Reps X.K F ds xs) (hd : (x == ("__debug__" : Str)) = false := by decide) : DE T X E (.Name x pos) (mC (.tup ds)) := by
  obtain ⟨t, h1, h2⟩ := h
  exact ⟨⟨_, pe_gc (v := .ref t) hg ⟨_, h1, rfl⟩ hd, fun st F0 H0 F H σ z Q EQ R r er h k => k _ H F _ z (Same.refl F) r (.tup (h2 F) (hr F)) h⟩⟩
/-! ### an own == -/
def rEqM (C : Addr) (sp : Sp) (E : XK) : R2 := fun x y H Q => ∃ a b dx dy fs gs, x = .ref a ∧ y = .ref b ∧ H a = some (.ins C dx fs) ∧ H b = some (.ins C dy gs) ∧ sp [x, y] H Q E
theorem op_eqM {CX : CXT} {C f : Addr} {fd : FuncData} {sp : Sp} (F : FnOk X.prog X.w X.K X.mg X.base CX k f fd ps sp) (hs : PySem.W.findIn X.K (.ref C) "__eq__" = some (some (.ref f))) (hf : PySem.W.isFn X.K (.ref f) = true) (hb : Binds X.K fd ps []) (hx : Passes CX X E) (hr : Room k X.A) : OpR X (compareOp .Eq) (rEqM C sp E) := by
  intro pins s σ H x y v u Q I rx ry h
  obtain ⟨a, b, dx, dy, fs, gs, rfl, rfl, ha, hb', hsp⟩ := h
  cases rx
  cases ry
  obtain ⟨mA, J, _⟩ := ins_get I.hok ha
  obtain ⟨mB, J', _⟩ := ins_get I.hok hb'
  obtain ⟨od, J, _⟩ := J.look
  obtain ⟨od', J', _⟩ := J'.look
  obtain ⟨m, hF⟩ := I.fr
  refine PySem.W.cmp_K (op := .Eq) (tb := .ref C) hr.units0 hF I.ok.mod.kin J J'.type (by simp [PySem.W.notFirst]) hs hf ?_
  refine wpAny_mono (run_fn (us := [.ref a, .ref b]) (vs := [.ref a, .ref b]) (dvs := []) F hr hb .nil hx I (.cons rfl (.cons rfl .nil)) (by simpa using hsp)) (fun r s' q => ?_) fun _ _ z => z
  obtain ⟨z, H', I', rz, hz⟩ := id q
  cases z <;> (unfold L2.RelV at rz; first | (subst rz; exact q) | (obtain ⟨_, rz⟩ := rz; subst rz; exact q))
@[reducible, simp] def mEqM (C : Addr) (sp : DSpec) (ma mb : TDE) : TDE := fun st z Q EQ => ma st z (fun d z1 => mb st z1 (fun e z2 => ∃ fs gs, d = .ins C fs ∧ e = .ins C gs ∧ sp st z2.n [d, e] (fun r n' => Q r.d { z2 with n := n' }) EQ) EQ) EQ
theorem de_eqM {C : Addr} (c : MethP X.prog X.w X.K T X.mg X.base k C "__eq__" ps sp) (hr : Room j X.A) (hk : k ≤ j) (hx : Passes (L2.CX X.prog X.w) X E) (ha : DE T X E a ma) (hb : DE T X E b mb) (hm : behindInMarks .Eq b = false) : DE T X E (.Compare a [.Eq] [b] pos) (mEqM C sp ma mb) := by
  obtain ⟨f, M, c⟩ := c
  obtain ⟨fd, F, hbn⟩ := c.ex
  obtain ⟨ta, pa, qa⟩ := ha.ex
  obtain ⟨tb, pb, qb⟩ := hb.ex
  refine ⟨⟨_, pe_cmpR (op_eqM (C := C) F M.at_ M.fn hbn hx (hr.mono hk)) pa pb hm, fun st F0 H0 F H σ z Q EQ R r er h k => ?_⟩⟩
  refine qa st F0 H0 F H σ z _ EQ _ r er h fun v1 H1 F1 d1 z1 s1 r1 p1 h1 => ?_
  refine qb st F0 H0 F1 H1 σ z1 _ EQ _ r1 er h1 fun v2 H2 F2 d2 z2 s2 r2 p2 h2 => ?_
  obtain ⟨fs, gs, rfl, rfl, h3⟩ := h2
  have p1 := p1.mono s2
  cases p1 with
  | ins f1 k1 rr1 =>
    cases p2 with
    | ins f2 k2 rr2 =>
      refine ⟨_, _, _, _, _, _, rfl, rfl, r2.ok.sub _ _ f1, r2.ok.sub _ _ f2, ?_⟩
      have := call_sp (vs := [_, _]) (R := R) r2 er (.cons (.ins f1 k1 rr1) (.cons (.ins f2 k2 rr2) .nil)) h3 fun v H3 F3 rr n' ok q qd => by
        obtain ⟨F4, s4, r4, rp⟩ := res_sh r2 ok q
        exact k v H3 F4 _ _ ((s1.trans s2).trans s4) r4 rp qd
      simpa using this
/-! ### a, b = x, y, the second a new tree -/
@[reducible, simp] def sParF (i j : Nat) (ma mb : TDE) : TDS := fun st D z EQ => ma st z (fun d z1 => mb st z1 (fun e z2 => D.nx { z2 with env := (z2.env.set i (.sh d)).set j (.bs false e) }) EQ) EQ
theorem ds_parF (i j : Nat) {y : Str} {px py pt : Pos} {kt k2 pt2} (hc : X.calm = true) (hN : X.N.Nodup) (ha : DE T X E a ma) (hb : DFr T X E b mb) (hij : i ≠ j := by decide) (hi : X.N[i]? = some x := by rfl) (hj : X.N[j]? = some y := by rfl)
    (hx : X.env.scope.names.lookup x = some .local := by rfl) (hy : X.env.scope.names.lookup y = some .local := by rfl)
    (hw : swappedStores [.Tuple [.Name x px, .Name y py] kt pt] (.Tuple [a, b] k2 pt2) X.env = pure (some [x, y]) := by rfl)
    (hs : swapsWithSole [.Tuple [.Name x px, .Name y py] kt pt] (.Tuple [a, b] k2 pt2) pos.line X.env = pure false := by rfl)
    (he : starEach [a, b] X.env = (false, eval a X.env) :: starEach [b] X.env := by rfl) (he2 : starEach [b] X.env = (false, eval b X.env) :: starEach [] X.env := by rfl) :
    DS T X E (.Assign [.Tuple [.Name x px, .Name y py] kt pt] (.Tuple [a, b] k2 pt2) pos) (sParF i j ma mb) := by
  obtain ⟨ta, pa, qa⟩ := ha.ex
  obtain ⟨tb, pb, qb⟩ := hb.ex
  refine ⟨⟨_, ps_par hc hN hi hj hij hx hy (pa_cons pa (pa_cons pb pa_nil he2) he) hw hs, fun st F0 H0 F H σ z D EQ D' r er h k => ?_⟩⟩
  refine qa st F0 H0 F H σ z _ EQ _ r er h fun v1 H1 F1 d1 z1 s1 r1 p1 h1 => ?_
  refine qb st F0 H0 F1 H1 σ z1 _ EQ _ r1 er h1 fun v2 H2 F2 d2 z2 s2 r2 p2 h2 => ?_
  exact ⟨_, _, rfl, k.nx _ H2 F2 _ (s1.trans s2) ((r2.setS (p1.mono s2)).setB p2) h2⟩
/-! ### _law_met(lambda: ..), what it tells all new -/
theorem Rel.fallK {K : PySem.W.Frag} {st : Option Addr} {F0 H0 F H H' : Hp} {σ : Sg} {z : Z} (b0 : Same F0 H0) (r : Rel K T st F0 H0 F H σ z) (sk : ∀ b o, H b = some o → (∀ ps, o ≠ .tbl ps) → H' b = some o ∨ Fr H0 b) (tb : LamX.Tabs T H') (hst : ∀ sp, st = some sp → H' sp = H sp) : Rel K T st F0 H0 F0 H' σ z.dp := by
  have nf : ∀ {i : Nat} {x : DV}, (z.env.map DV.dp)[i]? = some x → x = .un ∨ (∃ d, x = .bs true d ∧ z.env[i]? = some (.bs true d)) ∨ ∃ v, x = .sh (.v v) ∧ z.env[i]? = some (.sh (.v v)) := fun {i x} hi => by
    obtain ⟨y, hy, q⟩ := map_some hi
    cases y with
    | bs b d =>
      cases b with
      | true => exact .inr (.inl ⟨d, q.symm, hy⟩)
      | false => exact .inl q.symm
    | sh d =>
      cases d with
      | v x => exact .inr (.inr ⟨x, q.symm, hy⟩)
      | _ => exact .inl q.symm
    | _ => exact .inl q.symm
  have keep : ∀ b o, H0 b = some o → H b = some o → (∀ ps, o ≠ .tbl ps) → H' b = some o := fun b o h0 h hn => by
    rcases sk b o h hn with q | q
    · exact q
    · exact absurd rfl (q.ne h0 hn)
  refine ⟨⟨fun b o h => ?_, fun b ps h => r.ok.nt b ps (r.ok.f0 _ _ h), fun _ _ h => h, fun _ _ h => .inl h, fun b o h h1 h2 => keep b o h (r.ok.keep b o h h1 h2) h2, fun sp h => ?_, tb⟩, by simpa using r.len, fun i d hi => ?_, fun i o hi => ?_, fun i j o o' b hij hi => ?_, fun i kk d hi => ?_⟩
  · have hF := r.ok.f0 b o h
    have hn : ∀ ps, o ≠ .tbl ps := fun ps e => r.ok.nt b ps (by rw [← e]; exact hF)
    rcases sk b o (r.ok.sub b o hF) hn with q | q
    · exact q
    · exact absurd rfl (q.ne (b0 b o h) hn)
  · obtain ⟨h1, h2⟩ := r.ok.strm sp h
    refine ⟨?_, h2.at (hst sp h)⟩
    cases q : F0 sp with
    | none => rfl
    | some o => rw [r.ok.f0 _ _ q] at h1; cases h1
  · rcases nf (show (z.env.map DV.dp)[i]? = some (.sh d) from hi) with q | ⟨_, q, _⟩ | ⟨x, q, hz⟩
    · cases q
    · cases q
    · cases q
      obtain ⟨v, h1, h2⟩ := r.sh i _ hz
      cases h2
      exact ⟨_, h1, .v _⟩
  · rcases nf (show (z.env.map DV.dp)[i]? = some (.ow o) from hi) with q | ⟨_, q, _⟩ | ⟨_, q, _⟩ <;> cases q
  · rcases nf (show (z.env.map DV.dp)[i]? = some (.ow o) from hi) with q | ⟨_, q, _⟩ | ⟨_, q, _⟩ <;> cases q
  · rcases nf (show (z.env.map DV.dp)[i]? = some (.bs kk d) from hi) with q | ⟨d', q, hz⟩ | ⟨x, q, hz⟩
    · cases q
    · cases q
      obtain ⟨v, h1, h2⟩ := r.bs i _ _ hz
      exact ⟨v, h1, h2⟩
    · cases q
/-- an expression that tells what a slot is to hold -/
structure DEX (T : List (Addr × Str)) (X : Cx) (E : XK) (e : Expr) (m : Option Addr → Z → (DV → Z → Prop) → TEX → Prop) : Prop where
  ex : ∃ t : TE, PE X e t ∧ ∀ (st : Option Addr) (F0 H0 F H : Hp) (σ : Sg) (z : Z) (Q : DV → Z → Prop) (EQ : TEX) (R : VK), Rel X.K T st F0 H0 F H σ z → ERel X.K T st F0 H0 E EQ → m st z Q EQ →
    (∀ v H' F' x z', Same F F' → Rel X.K T st F0 H0 F' H' σ z' → ((∃ d, x = .sh d ∧ Rep X.K F' d v) ∨ ∃ d, x = .bs false d ∧ RepN X.K F' H0 d v) → Q x z' → R v H') → t σ H R
@[reducible, simp] def sSetX (i : Nat) (m : Option Addr → Z → (DV → Z → Prop) → TEX → Prop) : TDS := fun st D z EQ => m st z (fun x z1 => D.nx (z1.put i x)) EQ
theorem ds_setX (i : Nat) {m : Option Addr → Z → (DV → Z → Prop) → TEX → Prop} {pos' : Pos} (hN : X.N.Nodup) (he : DEX T X E e m) (hi : X.N[i]? = some x := by rfl) (hx : Loc X.env.scope x := by first | exact Or.inl rfl | exact Or.inr rfl) (hs : swapsWith e (some (.Name x pos')) pos.line X.env = pure false := by rfl) (hf : X.fn x = true ∨ X.env.scope.names.lookup x = some .local := by first | exact .inl rfl | exact .inr rfl) :
    DS T X E (.Assign [.Name x pos'] e pos) (sSetX i m) := by
  obtain ⟨t, p, q⟩ := he.ex
  refine ⟨⟨_, ps_set hN hi hx p hs hf, fun st F0 H0 F H σ z D EQ D' r er h k => ?_⟩⟩
  refine q st F0 H0 F H σ z _ EQ _ r er h fun v H1 F1 x z1 s1 r1 p1 h1 => ?_
  rcases p1 with ⟨d, rfl, p1⟩ | ⟨d, rfl, p1⟩
  · exact k.nx _ H1 F1 _ s1 (r1.setS p1) h1
  · exact k.nx _ H1 F1 _ s1 (r1.setB p1) h1
def canLF (K : PySem.W.Frag) (T : List (Addr × Str)) (me : TDE) (E : XK) : TE := fun σ H R => ∃ (st : Option Addr) (F0 H0 F : Hp) (z : Z) (Q : D → Z → Prop) (EQ : TEX), Rel K T st F0 H0 F H σ z ∧ ERel K T st F0 H0 E EQ ∧ me st z Q EQ ∧ ∀ v H' F' d z', Same F F' → Rel K T st F0 H0 F' H' σ z' → RepN K F' H0 d v → Q d z' → R v H'
theorem DFr.canL (h : DFr T X E e me) : PE X e (canLF X.K T me E) := by
  obtain ⟨t, p, q⟩ := h.ex
  refine ⟨fun pins s σ H R I hh => ?_⟩
  obtain ⟨st, F0, H0, F, z, Q, EQ, r, er, hm, k⟩ := hh
  exact p.run pins s σ H R I (q st F0 H0 F H σ z Q EQ R r er hm k)
@[reducible, simp] def mMetX (l : Met) (me : TDE) : Option Addr → Z → (DV → Z → Prop) → TEX → Prop := fun st z Q _ => me st z.hd (fun d z1 => Q (.bs false (.tup [.v (.str "told"), d])) { z with n := z1.n }) (fun ex n => ∃ C fld word d, (C, fld, word) ∈ l ∧ ex = ⟨C, [(fld, d)]⟩ ∧ Q (.sh (.tup [.v (.str word), d])) { z with n := n })
theorem dex_met {l : Met} {x a : Str} {g c Pt : Addr} {k : Nat} {pg : Arguments} {bg : List Stmt} {sg : Scope} {dV kV doc pm cdv ct oc : Value} {an od : Option Addr} {osl : Array (Option Value)} {Ng : List Str}
    {params : Arguments} {body : Expr} {scope : Scope} {p lpos pos : Pos} (hg : Gl X x) (hm : X.mg x = some (.ref g)) (hk : PySem.W.keepIn X.K (.ref g) = true)
    (lk : X.K.lookup g = some ⟨oc, od, .func (PySem.W.fnOf x x pg bg sg dV kV doc pm an cdv ct), osl⟩) (hcg : PySem.W.codeIn X.K cdv x = true) (hb : L2.Binds X.K (PySem.W.fnOf x x pg bg sg dV kV doc pm an cdv ct) [a] []) (Sg : FnScope Ng [a] sg) (hNg : Ng[0]? = some a) (hva : Vis sg a)
    (hG : LamX.GivesTo X Ng x sg g cdv bg a (X.env.qual ++ "<lambda>") (TTmet X.K l)) (hx : ∀ r ∈ l, ∀ r' ∈ l, PySem.W.exmOne X.K (.ref r.1) (.ref r'.1) = some (decide (r.1 = r'.1))) (hnd : (l.map (·.1)).Nodup)
    (TB : LamX.TabB X.base X.mg c Pt) (hcode : X.env.code = .ref c) (hmT : (Pt, X.env.qual ++ "<lambda>") ∈ T) (hu : ∀ p ∈ T, p.1 = Pt → p.2 = X.env.qual ++ "<lambda>") (hr : Room (k + 2) X.A) (L : LamX.LamS X.env.scope scope) (hdef : defaultsOf params X.env = ([], []))
    (hbind : ∀ (q : Str) (cl : List (Str × Addr)) (pm cv ctv : Value), bindArgs (PySem.W.kla_fn "<lambda>" q params body scope cl pm cv ctv) ⟨[], []⟩ = pure [])
    (hbody : ∀ (A : Around) (outer : List Env) (s : Shared) (H : Hp) (E : XK) (f c' : Addr), Room k (A.deeper (LamX.lamEnv X scope s.heap.objs.size f c')) → DFr T (LamX.lamCx X A outer s H E scope f c') E body me)
    (hdb : (x == ("__debug__" : Str)) = false := by decide) (hd : (a == ("__debug__" : Str)) = false := by decide) (hcd : (a == ("__classdict__" : Str)) = false := by decide) :
    DEX T X E (.Call (.Name x p) [.Lambda params body scope lpos] [] pos) (mMetX l me) := by
  refine ⟨⟨_, LamX.pe_lamcall (t := canLF X.K T me) hg hm hk lk hcg hb Sg hNg hva hG TB hcode hmT hu hr L hdef hbind (fun A outer s H E f c hr' => (hbody A outer s H E f c hr').canL) hdb hd hcd, fun st F0 H0 F H σ z Q EQ R r er h k => ?_⟩⟩
  refine ⟨r.ok.tabs, fun H1 eN t1 => ?_⟩
  have r1 := r.extN eN t1
  have toldS : ∀ (word : Str) (F' H' : Hp) (n : Nat) (d : D) (v : V), Ok T st F H1 F' H' n → Rep X.K F' d v → Q (.sh (.tup [.v (.str word), d])) { z with n := n } → ∀ p, H' p = none → R (.ref p) (upd H' p (.tup [.str word, v])) := fun word F' H' n d v ok rp hq p hp => by
    obtain ⟨r2, s2⟩ := (r1.after ok).laidF (u := .tup [.str word, v]) hp (fun ps q => by cases q)
    exact k _ _ _ _ _ (ok.f0.trans s2) r2 (.inl ⟨_, rfl, .tup (SqT.of upd_same) (.cons (.v _) (.cons (rp.mono s2) .nil))⟩) hq
  have toldF : ∀ (F' H' : Hp) (n : Nat) (d : D) (v : V), Ok T st F H1 F' H' n → RepN X.K F' H1 d v → Q (.bs false (.tup [.v (.str "told"), d])) { z with n := n } → ∀ p, H' p = none → R (.ref p) (upd H' p (.tup [.str "told", v])) := fun F' H' n d v ok rp hq p hp => by
    obtain ⟨r2, s2⟩ := (r1.after ok).laidF (u := .tup [.str "told", v]) hp (fun ps q => by cases q)
    exact k _ _ _ _ _ (ok.f0.trans s2) r2 (.inr ⟨_, rfl, .tup (SqT.of upd_same) (.cons (.v _) (.cons (rp.mono s2 fun b _ _ q => r1.ok.fr q) .nil))⟩) hq
  refine ⟨fun cls dd H' => ∃ (C : Addr) (fld word : Str) (d : D) (n : Nat) (F' : Hp) (x : Addr) (v : V), cls = .ref C ∧ dd = some x ∧ (C, fld, word) ∈ l ∧ Ok T st F H1 F' H' n ∧ H' x = some (.xd [(fld, v)]) ∧ Rep X.K F' d v ∧ Q (.sh (.tup [.v (.str word), d])) { z with n := n },
    ⟨st, F, H1, F, z.hd, _, _, r1.hide, ?_, h, ?_⟩, ?_⟩
  · intro ex n F' H' x es ok h1 h2 h3 h4 h5
    obtain ⟨C, fld, word, d, hm, rfl, hq⟩ := h5
    cases es with
    | nil => simp at h3
    | cons e1 es =>
      cases es with
      | cons _ _ => simp at h3
      | nil =>
        obtain ⟨f1, v⟩ := e1
        simp at h3
        subst h3
        cases h4 with
        | cons rp _ => exact ⟨C, _, word, d, n, F', x, v, rfl, rfl, hm, ok, h1, rp, hq⟩
  · intro v H' F' d z' s1 r' rp hq
    exact ⟨PySem.SXI.two_size _ _, toldF F' H' z'.n d v r'.ok rp hq⟩
  · rintro cls dd H' ⟨C, fld, word, d, n, F', x, v, rfl, rfl, hm, ok, hx2, rp, hq⟩
    exact metW_of (fun r hr => hx _ hm r hr) hnd hm hx2 (toldS word F' H' n d v ok rp hq)
/-- x[1].append(w), x a new pair -/
@[reducible, simp] def sAppT (i : Nat) : TDS := fun _ D z _ => ∃ w ds, z.env[i]? = some (.bs false (.tup [w, .lst ds])) ∧ ds.length < 1000000 ∧ D.nx z.dp
theorem dsd_appT (i : Nat) {w : Str} {j1 j2 : Nat} {p1 p2 p3 apos cpos pos : Pos} (hN : X.N[i]? = some y := by rfl) (hv : Vis X.env.scope y := by first | exact Or.inl rfl | exact Or.inr (Or.inl rfl) | exact Or.inr (Or.inr rfl)) (hd : (y == ("__debug__" : Str)) = false := by decide) (hcd : (y == ("__classdict__" : Str)) = false := by decide)
    (hpa : ∀ {to t : TE}, PE X (.Subscript (.Name y p) (.Constant (.int 1) j1 p1) p2) to → PE X (.Constant (.str w) j2 p3) t → PE X (.Call (.Attribute (.Subscript (.Name y p) (.Constant (.int 1) j1 p1) p2) "append" apos) [.Constant (.str w) j2 p3] [] cpos) (tBM X.K "list" rAppend to (tCons t tNil)))
    (hs : swapsWith (.Call (.Attribute (.Subscript (.Name y p) (.Constant (.int 1) j1 p1) p2) "append" apos) [.Constant (.str w) j2 p3] [] cpos) none pos.line X.env = pure false := by rfl) :
    DSd T X E (.Expr (.Call (.Attribute (.Subscript (.Name y p) (.Constant (.int 1) j1 p1) p2) "append" apos) [.Constant (.str w) j2 p3] [] cpos) pos) (sAppT i) := by
  refine ⟨⟨_, ps_expr (hpa (pe_ix ix_tup (pe_var hN hv hd hcd) pe_int (by exact fun _ _ => rfl)) pe_str) hs, fun st F0 H0 F H σ z D EQ D' b0 r er h k => ?_⟩⟩
  obtain ⟨n0, o0⟩ := b0
  obtain ⟨w0, ds, hz, hl, hnx⟩ := h
  obtain ⟨v, h1, h2⟩ := r.bs i _ _ hz
  cases h2 with
  | tup ht rs =>
    cases rs with
    | cons q1 t1 =>
      cases t1 with
      | cons q2 t2 =>
        cases t2
        cases q2 with
        | @lst b xs _ hb fb rr =>
          have hH := r.ok.sub _ _ hb
          refine ⟨_, h1, _, _, _, _, rfl, rfl, SqT.same r.ok.sub ht, rfl, .inl ⟨rfl, _, SqL.of hH⟩, b, xs, _, rfl, rfl, hH, size_lt (by rw [← rr.len]; exact hl), ?_⟩
          refine k.nx σ _ F0 _ (Same.refl F0) (r.fallK o0.sub (fun c o hc hn => ?_) (fun q hq => ?_) fun sp hsp => ?_) hnx
          · by_cases e : c = b
            · subst e
              exact .inr fb
            · exact .inl (by rw [upd_ne e]; exact hc)
          · obtain ⟨ps, p1, p2, p3⟩ := r.ok.tabs q hq
            have n1 : q.1 ≠ b := fun z => by rw [z, hH] at p1; cases p1
            refine ⟨ps, by rw [upd_ne n1]; exact p1, p2, fun pos cv hcv => ?_⟩
            obtain ⟨cc, e1, e2⟩ := p3 pos cv hcv
            have nc : cc ≠ b := fun z => by
              rw [z, hH] at e2
              unfold LamX.CodeO at e2
              cases e2
            exact ⟨cc, e1, by rw [upd_ne nc]; exact e2⟩
          · refine upd_ne fun e => ?_
            obtain ⟨_, z0, z1, z2, h2, _⟩ := o0.strm sp hsp
            rw [e] at h2
            exact absurd rfl (fb.ne h2 (fun ps z => by cases z))
/-! ### abs, sum, enumerate of whole numbers -/
@[reducible, simp] def gAbs : GC := fun ds Q => ∃ i : Int, ds = [.v (.int i)] ∧ Q (.v (.int (if i < 0 then -i else i)))
theorem p_abs {K : PySem.W.Frag} : PC1 K (fun xs H Q => ∃ i, xs = [.int i] ∧ Q (.int (if i < 0 then -i else i)) H) gAbs := by
  intro F H ds vs Q R s rp h k
  obtain ⟨i, rfl, q⟩ := h
  cases rp with
  | cons r t => cases t; cases r; exact ⟨i, rfl, k _ _ (.v _) q⟩
@[reducible, simp] def gSum : GC := fun ds Q => ∃ ns : List Int, ds = [.lst (intsD ns)] ∧ Q (.v (.int ns.sum))
theorem p_sum {K : PySem.W.Frag} : PC1 K (rSum K) gSum := by
  intro F H ds vs Q R s rp h k
  obtain ⟨ns, rfl, q⟩ := h
  cases rp with
  | cons r t =>
    cases t
    cases r with
    | lst hf rr =>
      have e := reps_ints rr
      subst e
      exact ⟨_, ns, rfl, SqL.of (s _ _ hf), k _ _ (.v _) q⟩
theorem itok_enumZ {K : PySem.W.Frag} {st : Option Addr} {F1 : Hp} {a : Addr} {ns : List Int} (h : SqL K F1 a (ns.map V.int)) : ItOk K T st F1 (Ite K a) (enumD 0 (intsD ns)) where
  stop := fun i H s hi => ⟨_, SqL.same s h, by rw [enumD_len] at hi; simpa using hi⟩
  go := fun i H s hi => by
    rw [enumD_len] at hi
    have hi : i < ns.length := by simpa using hi
    exact ⟨_, (ns.map V.int)[i]'(by simpa using hi), SqL.same s h, by simp [hi]⟩
  yld := fun i F0 H0 F H n x H' s ok hi y => by
    obtain ⟨p, v, rfl, hp, rfl, hx⟩ := y
    have hx := hx _ (SqL.same ok.sub (SqL.same s h))
    rw [List.getElem?_map] at hx
    cases q : ns[i]? with
    | none => rw [q] at hx; cases hx
    | some m =>
      rw [q] at hx
      cases hx
      obtain ⟨k1, k2⟩ := laid_tup (ds := [.v (.int (i : Nat)), .v (.int m)]) ok hp (.cons (.v _) (.cons (.v _) .nil))
      exact ⟨_, _, by rw [enumD_get, Nat.zero_add]; simp [q], k1, k2⟩
@[reducible, simp] def iEnumZ (ma : TDA) : TDA := fun st z Q EQ => ma st z (fun ds z1 => ∃ ns : List Int, ds = [.lsz ns] ∧ Q (enumD 0 (intsD ns)) z1) EQ
theorem di_enumZ {elts : List Expr} {kk : Nat} {tpos : Pos} (hg : Gl X "enumerate") (hm : X.mg "enumerate" = none) (ha : DA T X E [e] mas) (hs : starEach [e] X.env = [(false, eval e X.env)] := by rfl) : DI T X E (.Tuple elts kk tpos) (.Call (.Name "enumerate" p) [e] [] pos) (iEnumZ mas) := by
  obtain ⟨t, pt, q⟩ := ha.ex
  refine ⟨⟨_, pi_enum hg hm pt hs, fun st F0 H0 F H σ z Q EQ R r er h k => ?_⟩⟩
  refine q st F0 H0 F H σ z _ EQ _ r er h fun vs H1 F1 ds z1 s1 r1 p1 h1 => ?_
  obtain ⟨es, rfl, h2⟩ := h1
  cases p1 with
  | cons p1 t1 =>
    cases t1
    cases p1 with
    | lsz hf => exact ⟨_, _, rfl, SqL.same r1.ok.sub hf, k _ H1 F1 _ z1 s1 r1 (itok_enumZ hf) h2⟩
/-! ### repr of lists and tuples; a call by one name -/
@[reducible, simp] def gRepr2 : GC := fun ds Q => ∃ d xs, ds = [d] ∧ (d = .lst xs ∨ d = .tup xs) ∧ plainD d = true ∧ SeqAt.shaped (pyD d) = true ∧ PyData.showable (pyD d) = true ∧ (PyData.shown (pyD d)).length ≤ sizeLine ∧ Q (.v (.str (PyData.shown (pyD d))))
theorem p_repr2 {K : PySem.W.Frag} : PC1 K (rRepr K) gRepr2 := by
  intro F H ds vs Q R s rp h k
  obtain ⟨d, xs, rfl, e, h1, h2, h3, h4, q⟩ := h
  cases rp with
  | cons r t =>
    cases t
    have hd := dp_rep s r h1
    rcases e with rfl | rfl
    · cases r with
      | lst hf rr => exact ⟨_, _, rfl, hd, h2, h3, h4, k _ _ (.v _) q⟩
    · cases r with
      | tup hf rr => exact ⟨_, _, rfl, hd, h2, h3, h4, k _ _ (.v _) q⟩
end
section
variable {P : Program} {w : World} {K : PySem.W.Frag} {T : List (Addr × Str)} {mg : Str → Option Value} {base : Heap}
theorem mkKw1 {x p0 : Str} {st : Stmt} {k : Nat} {sp : DSpec} (c : Fn P w K T mg base k x [p0] sp) (F : FunAt K mg x st)
    (hb : ∀ (kV doc pm : Value) (an : Option Addr) (cdv ct u : Value), bindArgs (PySem.W.fnOf x x (defArgs st) (defBody st) (defScope st) .none kV doc pm an cdv ct) ⟨[], [(p0, u)]⟩ = pure [(p0, u)]) : FnKw P w K T mg base k x [p0] sp [p0] id := by
  obtain ⟨f, fd, Fk, hm, hkp, hb0, _, oc, od, osl, lk⟩ := c.ex
  obtain ⟨f2, fd2, F2, hm2⟩ := F
  rw [hm] at hm2
  cases hm2
  obtain ⟨oc2, od2, kV, doc, pm, an, cdv, ct, osl2, e2, lk2, _⟩ := F2.ex
  rw [lk] at lk2
  have e3 : fd = fd2 := by
    injection lk2 with e
    injection e with _ _ e _
    injection e
  subst e3
  refine ⟨f, fd, fun _ ws => ws, fun _ zs => zs, Fk, hm, hkp, ⟨fun s us ws _ h0 h2 => ?_, fun _ r => r⟩, fun F ds vs r => r⟩
  match us, ws, h0, h2 with
  | [], [u], _, _ =>
    subst e2
    exact .of_eq (hb kV doc pm an cdv ct u)
end
end DL
end

section
set_option Elab.async false
set_option linter.all false
set_option maxRecDepth 100000
set_option maxHeartbeats 4000000
/-! DL33: a, b = x, [..] where a name is a cell. -/
namespace DL
open PySem PySem.Spec PyProof.Rows L2
section
variable {T : List (Addr × Str)} {X : Cx} {E : XK} {e a b : Expr} {pos p : Pos} {ma mb : TDE} {x y : Str}
@[reducible, simp] def sParC (i j : Nat) (ma mb : TDE) : TDS := fun st D z EQ => ma st z (fun d z1 => mb st z1 (fun o z2 => D.nx ((z2.put j (.ow o)).put i (.sh d))) EQ) EQ
theorem ds_parC (i j : Nat) {px py pt : Pos} {kt k2 pt2} (hc : X.calm = true) (hN : X.N.Nodup) (ha : DE T X E a ma) (hb : DN T X E b mb) (hij : i ≠ j := by decide) (hi : X.N[i]? = some x := by rfl) (hj : X.N[j]? = some y := by rfl)
    (hx : Loc X.env.scope x := by first | exact Or.inl rfl | exact Or.inr rfl) (hy : Loc X.env.scope y := by first | exact Or.inl rfl | exact Or.inr rfl) (hfx : X.fn x = true ∨ X.env.scope.names.lookup x = some .local := by first | exact .inl rfl | exact .inr rfl) (hfy : X.fn y = true ∨ X.env.scope.names.lookup y = some .local := by first | exact .inl rfl | exact .inr rfl)
    (hw : swappedStores [.Tuple [.Name x px, .Name y py] kt pt] (.Tuple [a, b] k2 pt2) X.env = pure none := by rfl)
    (hs : swapsWithSole [.Tuple [.Name x px, .Name y py] kt pt] (.Tuple [a, b] k2 pt2) pos.line X.env = pure false := by rfl)
    (h1 : (assignEach [.Tuple [.Name x px, .Name y py] kt pt] X.env).map (·.2) = [assign (.Tuple [.Name x px, .Name y py] kt pt) X.env] := by rfl)
    (hn : (assignEach [.Name x px, .Name y py] X.env).length = 2 := by rfl) (hst : (assignEach [.Name x px, .Name y py] X.env).findIdx? (·.1) = none := by rfl)
    (he : starEach [a, b] X.env = (false, eval a X.env) :: starEach [b] X.env := by rfl) (he2 : starEach [b] X.env = (false, eval b X.env) :: starEach [] X.env := by rfl)
    (hpg : ∀ {t1 t2 : TG}, PG X (.Name x px) t1 → PG X (.Name y py) t2 → PGs X [.Name x px, .Name y py] (gCons t1 (gCons t2 gNil))) :
    DS T X E (.Assign [.Tuple [.Name x px, .Name y py] kt pt] (.Tuple [a, b] k2 pt2) pos) (sParC i j ma mb) := by
  obtain ⟨ta, pa, qa⟩ := ha.ex
  obtain ⟨tb, pb, qb⟩ := hb.ex
  refine ⟨⟨_, ps_asg (pe_tup (pa_cons pa (pa_cons pb pa_nil he2) he)) (pg_tup hc (hpg (pg_name hN hi hx hfx) (pg_name hN hj hy hfy)) hn hst) hs hw h1, fun st F0 H0 F H σ z D EQ D' r er h k => ?_⟩⟩
  refine qa st F0 H0 F H σ z _ EQ _ r er h fun v1 H1 F1 d z1 s1 r1 p1 h1 => ?_
  refine qb st F0 H0 F1 H1 σ z1 _ EQ _ r1 er h1 fun c H2 F2 o z2 s2 r2 w2 h2 => ?_
  refine ⟨PySem.SXI.two_size _ _, fun p hp => ⟨p, _, rfl, SqT.of upd_same, rfl, _, _, rfl, _, _, rfl, rfl, ?_⟩⟩
  have r3 := (r2.setN (i := j) w2).setS (i := i) (p1.mono s2)
  rw [List.set_comm _ _ (Ne.symm hij)] at r3
  obtain ⟨r4, s4⟩ := r3.laidF (u := .tup [v1, .ref c]) hp (fun ps q => by cases q)
  exact k.nx _ _ _ _ ((s1.trans s2).trans s4) r4 h2
end
end DL
end

section
set_option Elab.async false
set_option linter.all false
set_option maxRecDepth 100000
set_option maxHeartbeats 4000000
/-! DL34: one expression read in two ways; a slot told by a pinned own cell. -/
namespace DL
open PySem PySem.Spec PyProof.Rows L2
section
variable {T : List (Addr × Str)} {X : Cx} {E : XK} {e : Expr} {pos : Pos} {m1 m2 : TDE} {x : Str}
@[reducible, simp] def mEither (m1 m2 : TDE) : TDE := fun st z Q EQ => m1 st z Q EQ ∨ m2 st z Q EQ
theorem de_either (h1 : DE T X E e m1) (h2 : DE T X E e m2) : DE T X E e (mEither m1 m2) := by
  obtain ⟨t1, p1, q1⟩ := h1.ex
  obtain ⟨t2, p2, q2⟩ := h2.ex
  refine ⟨⟨fun σ H R => t1 σ H R ∨ t2 σ H R, ⟨fun pins s σ H R I h => ?_⟩, fun st F0 H0 F H σ z Q EQ R r er h k => ?_⟩⟩
  · rcases h with h | h
    · exact p1.run pins s σ H R I h
    · exact p2.run pins s σ H R I h
  · rcases h with h | h
    · exact .inl (q1 st F0 H0 F H σ z Q EQ R r er h k)
    · exact .inr (q2 st F0 H0 F H σ z Q EQ R r er h k)
/-- slot j, the pinned cell at slot i told by its address and what it holds -/
@[reducible, simp] def mResA (j i : Nat) : TDE := fun _ z Q _ => ∃ a d x, z.env[i]? = some (.sh (.at a d)) ∧ z.env[j]? = some (.sh x) ∧ Q (resD a (.at a d) x) z
theorem de_resA (j i : Nat) (hN : X.N[j]? = some x := by rfl) (hv : Vis X.env.scope x := by first | exact Or.inl rfl | exact Or.inr (Or.inl rfl) | exact Or.inr (Or.inr rfl)) (hd : (x == ("__debug__" : Str)) = false := by decide)
    (hcd : (x == ("__classdict__" : Str)) = false := by decide) : DE T X E (.Name x pos) (mResA j i) := by
  refine ⟨⟨_, pe_var hN hv hd hcd, fun st F0 H0 F H σ z Q EQ R r er h k => ?_⟩⟩
  obtain ⟨a, d, x, hz, hx, h2⟩ := h
  obtain ⟨v, hv1, hv2⟩ := r.sh i _ hz
  obtain ⟨u, hu1, hu2⟩ := r.sh j _ hx
  cases hv2 with
  | «at» hr => exact ⟨u, hu1, k _ H F _ z (Same.refl F) r (rep_res (.at hr) hu2) h2⟩
/-- slot j, the pinned own cell at slot i read on the way -/
@[reducible, simp] def mResO (j i : Nat) : TDE := fun _ z Q _ => ∃ a d x, z.env[i]? = some (.ow (.at a d)) ∧ (z.put i (.sh (.at a d))).env[j]? = some (.sh x) ∧ Q (resD a d x) (z.put i (.sh (.at a d)))
theorem de_resO (j i : Nat) (hN : X.N[j]? = some x := by rfl) (hv : Vis X.env.scope x := by first | exact Or.inl rfl | exact Or.inr (Or.inl rfl) | exact Or.inr (Or.inr rfl)) (hd : (x == ("__debug__" : Str)) = false := by decide)
    (hcd : (x == ("__classdict__" : Str)) = false := by decide) : DE T X E (.Name x pos) (mResO j i) := by
  refine ⟨⟨_, pe_var hN hv hd hcd, fun st F0 H0 F H σ z Q EQ R r er h k => ?_⟩⟩
  obtain ⟨a, d, x, hz, hx, h2⟩ := h
  obtain ⟨F1, b2, s1, r2, hσ, rp⟩ := r.read hz
  have eb : b2 = a := by cases rp; rfl
  subst eb
  obtain ⟨u, hu1, hu2⟩ := r2.sh j _ hx
  cases rp with
  | «at» hr => exact ⟨u, hu1, k _ H F1 _ _ s1 r2 (rep_res hr hu2) h2⟩
end
end DL
end

section
set_option Elab.async false
set_option linter.all false
set_option maxRecDepth 100000
set_option maxHeartbeats 4000000
/-! DL35: a tuple of texts at the top, as the head leaves it. -/
namespace DL
open PySem PySem.Spec PyProof.Rows L2 He
def strsB : List Str → List Value → Bool
  | [], [] => true
  | z :: zs, .str y _ :: us => decide (y = z) && strsB zs us
  | _, _ => false
theorem strsB_ok : ∀ {zs : List Str} {us : List Value}, strsB zs us = true → Vals (zs.map V.str) us
  | [], [], _ => .nil
  | z :: zs, .str y t :: us, h => by
    simp only [strsB, Bool.and_eq_true, decide_eq_true_eq] at h
    obtain ⟨rfl, h⟩ := h
    exact .cons ⟨t, rfl⟩ (strsB_ok h)
  | [], _ :: _, h => by cases h
  | _ :: _, [], h => by cases h
  | _ :: _, .none :: _, h => by cases h
  | _ :: _, .bool _ :: _, h => by cases h
  | _ :: _, .int _ _ :: _, h => by cases h
  | _ :: _, .ref _ :: _, h => by cases h
def tupB (K : PySem.W.Frag) (x : Str) (zs : List Str) : Bool := match K.lookup (ga K x) with
  | some ⟨c, _, .seq its _, _⟩ => decide (c = .type "tuple") && (decide (its.size ≤ 1000) && strsB zs its.toList)
  | _ => false
theorem tupB_ok {K : PySem.W.Frag} {x : Str} {zs : List Str} (h : tupB K x zs = true) : ∀ F : Hp, SqT K F (ga K x) (zs.map V.str) := by
  unfold tupB at h
  split at h
  · rename_i c d its n sl lk
    simp only [Bool.and_eq_true, decide_eq_true_eq] at h
    obtain ⟨h1, h2, h3⟩ := h
    exact fun F => .inr ⟨_, its, n, lk, h1, rfl, by rw [sizeLine_eq]; exact Nat.le_trans h2 (by decide), strsB_ok h3⟩
  · cases h
end DL
end

section
set_option Elab.async false
set_option linter.all false
set_option maxRecDepth 100000
set_option maxHeartbeats 4000000
/-! DL36: while. -/
namespace DL
open PySem PySem.Spec PyProof.Rows L2
section
variable {T : List (Addr × Str)} {X : Cx} {E : XK} {c : Expr} {body : List Stmt} {mt : TDT} {mb : TDS} {pos : Pos}
/-- while, by an invariant that tells how many turns are left at most -/
def sWhile (mt : TDT) (mb : TDS) : TDS := fun st D z EQ => ∃ I : Nat → Z → Prop, (∃ k, I k z) ∧ ∀ k z, I k z → mt st z (fun b n => (b = true → mb st { nx := fun z1 => ∃ k', k' < k ∧ I k' z1, rt := D.rt, bk := D.nx, ct := fun z1 => ∃ k', k' < k ∧ I k' z1 } { z with n := n } EQ) ∧ (b = false → D.nx { z with n := n })) EQ
theorem ds_while (hp : PassesOwn (model X.prog X.w) X.A X.env X.xe) (hc : DT T X E c mt) (hb : DB T X E body mb) : DS T X E (.While c body [] pos) (sWhile mt mb) := by
  obtain ⟨t, p, q⟩ := hc.ex
  obtain ⟨tb, pb, qb⟩ := hb.ex
  refine ⟨⟨_, ps_while hp p pb, fun st F0 H0 F H σ z D EQ D' r er h k => ?_⟩⟩
  obtain ⟨I, ⟨k0, i0⟩, turn⟩ := h
  refine ⟨fun m σ H => ∃ F1 z, Same F F1 ∧ Rel X.K T st F0 H0 F1 H σ z ∧ I m z, ⟨k0, F, z, Same.refl F, r, i0⟩, ?_⟩
  rintro m σ1 H1 ⟨F1, z1, s1, r1, i1⟩
  refine q st F0 H0 F1 H1 σ1 z1 _ EQ _ r1 er (turn m z1 i1) fun b H2 n2 r2 h2 => ?_
  cases b with
  | true =>
    refine iteT ⟨fun σ' H' => ∃ m', m' < m ∧ ∃ F1 z, Same F F1 ∧ Rel X.K T st F0 H0 F1 H' σ' z ∧ I m' z, fun σ' H' h => h, ?_⟩
    refine qb st F0 H0 F1 H2 σ1 _ _ EQ _ r2 er (h2.1 rfl) ⟨fun σ5 H5 F5 z5 s5 r5 h5 => ?_, fun σ5 H5 F5 z5 s5 r5 h5 => k.nx σ5 H5 F5 z5 (s1.trans s5) r5 h5, fun σ5 H5 F5 z5 s5 r5 h5 => ?_, fun v H5 F5 rr n5 s5 ok5 rr5 h5 => k.rt v H5 F5 rr n5 (s1.trans s5) ok5 rr5 h5⟩
    · obtain ⟨m', hm, hi⟩ := h5
      exact ⟨m', hm, F5, z5, s1.trans s5, r5, hi⟩
    · obtain ⟨m', hm, hi⟩ := h5
      exact ⟨m', hm, F5, z5, s1.trans s5, r5, hi⟩
  | false => exact iteF (k.nx σ1 H2 F1 _ s1 r2 (h2.2 rfl))
theorem while_ind {mt : TDT} {mb : TDS} {st : Option Addr} {D : DEnds} {EQ : TEX} {z : Z} (I : Nat → Z → Prop) (k : Nat) (h0 : I k z)
    (h : ∀ k z, I k z → mt st z (fun b n => (b = true → mb st { nx := fun z1 => ∃ k', k' < k ∧ I k' z1, rt := D.rt, bk := D.nx, ct := fun z1 => ∃ k', k' < k ∧ I k' z1 } { z with n := n } EQ) ∧ (b = false → D.nx { z with n := n })) EQ) : sWhile mt mb st D z EQ := ⟨I, ⟨k, h0⟩, h⟩
end
end DL
end

section
set_option Elab.async false
set_option linter.all false
set_option maxRecDepth 100000
set_option maxHeartbeats 4000000
namespace K01
open PySem PySem.Spec PyProof.Rows L2 DL

abbrev topS (i : Nat) : Stmt := PySem.Challenge.pw_marksinturn_k01_whole_questions_made.main.body.getD i (.Pass ⟨0,0,0,0⟩)
structure Ad where
  C : Addr
  CM : Addr
  CW : Addr
  CG : Addr
structure BF (P : Program) (K : PySem.W.Frag) (mg : Str → Option Value) (a : Ad) : Prop where
  x_BadMarks : ∃ fI, PySem.SXI.SxTxt P K mg "BadMarks" "index" "index" a.CM fI
  x_BadWishes : ∃ fI, PySem.SXI.SxTxt P K mg "BadWishes" "index" "index" a.CW fI
  x_BadGuards : ∃ fI, PySem.SXI.SxTxt P K mg "BadGuards" "index" "index" a.CG fI
  Question : CF K a.C
  mg_Question : mg "Question" = some (.ref a.C)
  na_own_marks : NoAttr K a.C "own_marks"
  na_own_names : NoAttr K a.C "own_names"
  na_own_wishes : NoAttr K a.C "own_wishes"
  na_own_guards : NoAttr K a.C "own_guards"
  isinstance : mg "isinstance" = none
  all : mg "all" = none
  any : mg "any" = none
  int : mg "int" = none
  bool : mg "bool" = none
  str : mg "str" = none
  list : mg "list" = none
  tuple : mg "tuple" = none
  dict : mg "dict" = none
  len : mg "len" = none
  enumerate : mg "enumerate" = none
  zip : mg "zip" = none
  range : mg "range" = none
  max : mg "max" = none
  sorted : mg "sorted" = none
  sum : mg "sum" = none
  repr : mg "repr" = none
  abs : mg "abs" = none
  FIRST : ∃ u, mg "FIRST" = some u ∧ RelV (.str "abcdefghijklmnopqrstuvwxyz") u
  LATER : ∃ u, mg "LATER" = some u ∧ RelV (.str "abcdefghijklmnopqrstuvwxyz0123456789") u
  is_integer : FunAt K mg "is_integer" (topS 4)
  is_list : FunAt K mg "is_list" (topS 5)
  is_name : FunAt K mg "is_name" (topS 6)
  is_hand : FunAt K mg "is_hand" (topS 13)
  checked_marks : FunAt K mg "checked_marks" (topS 14)
  is_literal : FunAt K mg "is_literal" (topS 15)
  as_clause : FunAt K mg "as_clause" (topS 16)
  clauses_of : FunAt K mg "clauses_of" (topS 17)
  checked_wishes : FunAt K mg "checked_wishes" (topS 18)
  checked_guards : FunAt K mg "checked_guards" (topS 19)
  _law_stream : FunAt K mg "_law_stream" (topS 22)
  _law_draw : FunAt K mg "_law_draw" (topS 23)
  _law_pick : FunAt K mg "_law_pick" (topS 24)
  _law_mixed : FunAt K mg "_law_mixed" (topS 25)
  _law_same : FunAt K mg "_law_same" (topS 26)
  _law_each_once : FunAt K mg "_law_each_once" (topS 27)
  _law_q_names : FunAt K mg "_law_q_names" (topS 28)
  _law_q_hand : FunAt K mg "_law_q_hand" (topS 29)
  _law_q_clause : FunAt K mg "_law_q_clause" (topS 30)
  _law_q_clauses : FunAt K mg "_law_q_clauses" (topS 31)
  _law_q_drawn : FunAt K mg "_law_q_drawn" (topS 32)
  _law_q_loose : FunAt K mg "_law_q_loose" (topS 33)
  _law_q_made : FunAt K mg "_law_q_made" (topS 34)
  _law_bent_marks : FunAt K mg "_law_bent_marks" (topS 35)
  _law_bent_clauses : FunAt K mg "_law_bent_clauses" (topS 36)
  _law_met : FunAt K mg "_law_met" (topS 37)
  _law_parts : FunAt K mg "_law_parts" (topS 38)
  _law_told_right : FunAt K mg "_law_told_right" (topS 39)
  _law_apart : FunAt K mg "_law_apart" (topS 40)
  _law_late : FunAt K mg "_law_late" (topS 41)
  _law_near : FunAt K mg "_law_near" (topS 42)
  _law_ordered : FunAt K mg "_law_ordered" (topS 43)
  _law_like : FunAt K mg "_law_like" (topS 44)
  _law_refused_right : FunAt K mg "_law_refused_right" (topS 45)
  law : FunAt K mg "law" (topS 46)

abbrev LT (d : D) (es : List D) : Prop := d = .lst es ∨ d = .tup es
theorem seq_lt {d : D} {es : List D} (h : LT d es) : seqOf d = some es := by rcases h with rfl | rfl <;> rfl
theorem ty_lt {d : D} {es : List D} (h : LT d es) : ∃ t, tyS d = some t ∧ isB t ["list", "tuple"] = true := by
  rcases h with rfl | rfl
  · exact ⟨_, rfl, by decide⟩
  · exact ⟨_, rfl, by decide⟩
theorem loose_lt {xs : List D} {d : D} (h : Loose (.lst xs) d) : ∃ es, LT d es ∧ Looses xs es := (loose_lst h).elim fun es q => ⟨es, q.2, q.1⟩
/-- a thing's kind is one of those known, not among ts -/
def Kn (d : D) (ts : List String) : Prop := ∃ t, tyS d = some t ∧ isB t ts = false
/-- whether any thing is a name -/
inductive NameB : D → Bool → Prop
  | good (x : Str) (h : goodName x) : NameB (strD x) true
  | non (d : D) (h : Kn d ["str"]) : NameB d false
  | no (x : Str) (hl : x.length ≤ 1000000) (h : x.length = 0 ∨ 9 ≤ x.length ∨ (0 < x.length ∧ x.length < 9 ∧ ∃ c, atI x.cps.toList 0 = some c ∧ c ∉ ("abcdefghijklmnopqrstuvwxyz" : Str).cps.toList)) : NameB (strD x) false
/-- whether any thing is a hand -/
inductive HandB : D → Bool → Prop
  | good (h : Hand) (d : D) (hl : Loose (handD h) d) (hg : h.good = true) : HandB d true
  | str (x : Str) (h : ¬ (x = "we" ∨ x = "they")) : HandB (strD x) false
  | non (d : D) (h : Kn d ["str"]) (h2 : Kn d ["list", "tuple"]) : HandB d false
  | len (es : List D) (d : D) (h : LT d es) (h2 : es.length ≠ 2) (hl : es.length ≤ 1000) : HandB d false
  | part (x y d : D) (h : LT d [x, y]) (tx ty : String) (hx : tyS x = some tx) (hy : tyS y = some ty) (h2 : (isB tx ["int"] && !isB tx ["bool"] && (isB ty ["int"] && !isB ty ["bool"])) = false) : HandB d false
  | num (i j : Int) (d : D) (h : LT d [iD i, iD j]) (h2 : ¬ (0 < i ∧ i < j)) : HandB d false

section
variable {P : Program} {w : World} {K : PySem.W.Frag} {T : List (Addr × Str)} {mg : Str → Option Value} {base : Heap} {a : Ad}
theorem sc_is_integer : FnScope ["thing"] ["thing"] (defScope (topS 4)) := ⟨rfl, rfl, rfl, by decide +kernel, rfl, by decide +kernel, by decide +kernel⟩
theorem bd_is_integer : BindsH "is_integer" (topS 4) ["thing"] := fun _ _ _ _ _ _ us hl => match us, hl with | [_], _ => rfl
@[simp] def sp_is_integer : DSpec := fun _ n ds Q _ => ∃ d t, ds = [d] ∧ tyS d = some t ∧ Q (.sh (blD (isB t ["int"] && !isB t ["bool"]))) n
theorem f_is_integer (B : BF P K mg a) : Fn P w K T mg base 1 "is_integer" ["thing"] (sp_is_integer) := by
  refine mkFn B.is_integer sc_is_integer bd_is_integer ?_ (fun f cdv A outer s H E hr => (db_one (ds_ret (de_and (de_is1 (by rfl) B.isinstance (by rfl) B.int (de_var 0)) (de_one (de_not (de_is1 (by rfl) B.isinstance (by rfl) B.bool (de_var 0)))))))) ?_
  · intro s n ds Q EQ h
    dsimp only [sp_is_integer] at h
    obtain ⟨_, _, rfl, _⟩ := h; rfl
  · intro s n ds Q EQ h
    dsimp only [sp_is_integer] at h
    obtain ⟨d, t, rfl, ht, h⟩ := h
    simp [-isB]
    cases e : isB t ["int"] with
    | true => exact ⟨t, ht, fun _ => ⟨t, ht, by rw [e, Bool.true_and] at h; exact h⟩, fun q => absurd q (by rw [e]; decide)⟩
    | false => exact ⟨t, ht, fun q => absurd q (by rw [e]; decide), fun _ => by rw [e, Bool.false_and] at h; exact h⟩

theorem sc_is_list : FnScope ["thing"] ["thing"] (defScope (topS 5)) := ⟨rfl, rfl, rfl, by decide +kernel, rfl, by decide +kernel, by decide +kernel⟩
theorem bd_is_list : BindsH "is_list" (topS 5) ["thing"] := fun _ _ _ _ _ _ us hl => match us, hl with | [_], _ => rfl
@[simp] def sp_is_list : DSpec := fun _ n ds Q _ => ∃ d t, ds = [d] ∧ tyS d = some t ∧ Q (.sh (blD (isB t ["list", "tuple"]))) n
theorem f_is_list (B : BF P K mg a) : Fn P w K T mg base 1 "is_list" ["thing"] (sp_is_list) := by
  refine mkFn B.is_list sc_is_list bd_is_list ?_ (fun f cdv A outer s H E hr => (db_one (ds_ret (de_isT (ts := ["list", "tuple"]) (by rfl) B.isinstance (de_var 0) (pa_cons (pe_ty (by rfl) B.list) (pa_cons (pe_ty (by rfl) B.tuple) pa_nil)) (fun _ _ _ h => h))))) ?_
  · intro s n ds Q EQ h
    dsimp only [sp_is_list] at h
    obtain ⟨_, _, rfl, _⟩ := h; rfl
  · intro s n ds Q EQ h
    dsimp only [sp_is_list] at h
    obtain ⟨d, t, rfl, ht, h⟩ := h
    exact ⟨t, ht, h⟩

theorem sc_is_name : FnScope ["thing", "sign"] ["thing"] (defScope (topS 6)) := ⟨rfl, rfl, rfl, by decide +kernel, rfl, by decide +kernel, by decide +kernel⟩
theorem bd_is_name : BindsH "is_name" (topS 6) ["thing"] := fun _ _ _ _ _ _ us hl => match us, hl with | [_], _ => rfl
def sp_is_name : DSpec := fun _ n ds Q _ => ∃ d b, ds = [d] ∧ NameB d b ∧ Q (.sh (blD b)) n
theorem f_is_name (B : BF P K mg a) : Fn P w K T mg base 1 "is_name" ["thing"] (sp_is_name) := by
  refine mkFn B.is_name sc_is_name bd_is_name ?_ (fun f cdv A outer s H E hr => (db_cons (ds_if (DW.t (dw_or (dt_not (dt_val (de_is1 (by rfl) B.isinstance (by rfl) B.str (de_var 0)))) (dw_or (dt_not (dt_chain op_lt p_I0 op_lt p_I0 de_int (de_cb call_lenAll (by rfl) B.len (by rfl) p_len (da_cons (de_var 0) da_nil)) de_int)) (dw_or1 (dt_cmp op_notIn_sign p_notInSign (de_ix ix_str p_ixS (de_var 0) de_int) (de_c (pe_gc (by rfl) B.FIRST)) (by rfl)))))) (db_one (ds_ret de_bl)) db_nil) (db_one (ds_ret (de_cb (cr_all (by rfl)) (by rfl) B.all (by rfl) p_all (da_cons (dn_comp (ws := [1]) (by rfl) sc_is_name.nd (di_str (de_var 0)) (blkOk_by (own := [("sign", 1)]) (by rfl)) (by decide) (fun _ _ _ _ _ => (dg_name 1 sc_is_name.nd)) (fun _ _ _ _ _ => dts_nil) (fun _ _ _ _ _ => (de_cmp op_in_sign p_inSign (de_var 1) (de_c (pe_gc (by rfl) B.LATER)) (by rfl)))).sh da_nil)))))) ?_
  · intro s n ds Q EQ h
    dsimp only [sp_is_name] at h
    obtain ⟨_, _, rfl, _⟩ := h; rfl
  · intro s n ds Q EQ h
    dsimp only [sp_is_name] at h
    obtain ⟨d, b, rfl, hb, h⟩ := h
    cases hb with
    | good x hg =>
      obtain ⟨h1, h2, ⟨c, hc, hm⟩, h4⟩ := hg
      simp [hc, hm]
      refine ⟨by omega, fun _ => ⟨by omega, fun _ => ⟨by omega, .inl ⟨by simpa using hm, ?_⟩⟩⟩, by omega⟩
      have hx : x.cps.toList.length < 9 := h2
      refine comp_mapL (fun _ => blD true) (by omega) (fun c hc R R2 h3 h5 => ?_) ?_
      · refine h5 _ ?_
        have := h4 c hc
        simp at this ⊢
        simp [this]
        exact h3 _ rfl
      · refine ⟨_, rfl, _, bls_map (g := fun _ => true) _, ?_⟩
        rw [show (List.map (fun _ => true) x.cps.toList).all id = true from List.all_eq_true.mpr (by simp)]
        exact h
    | non d hk =>
      obtain ⟨t, h1, h2⟩ := hk
      simp
      exact ⟨_, h1, fun _ => h, fun e => absurd h2 (by rw [e]; decide)⟩
    | no x hl hx =>
      simp
      refine ⟨hl, fun h0 => ⟨fun _ => h, fun h9 => ⟨hl, ?_⟩⟩, fun _ => h⟩
      rcases hx with hx | hx | ⟨h1, h2, c, h3, h4⟩
      · omega
      · omega
      · exact ⟨c, h3, .inr ⟨by simpa using h4, h⟩⟩

theorem sc_is_hand : FnScope ["thing", "part"] ["thing"] (defScope (topS 13)) := ⟨rfl, rfl, rfl, by decide +kernel, rfl, by decide +kernel, by decide +kernel⟩
theorem bd_is_hand : BindsH "is_hand" (topS 13) ["thing"] := fun _ _ _ _ _ _ us hl => match us, hl with | [_], _ => rfl
def sp_is_hand : DSpec := fun _ n ds Q _ => ∃ d b, ds = [d] ∧ HandB d b ∧ Q (.sh (blD b)) n
theorem f_is_hand (B : BF P K mg a) : Fn P w K T mg base 2 "is_hand" ["thing"] (sp_is_hand) := by
  refine mkFn B.is_hand sc_is_hand bd_is_hand ?_ (fun f cdv A outer s H E hr => (db_cons (ds_if (dt_val (de_is1 (by rfl) B.isinstance (by rfl) B.str (de_var 0))) (db_one (ds_ret (de_cmp op_in_seq (p_inSeq (neg := false)) (de_var 0) (de_tupC (dk_consC de_str (dk_consC de_str dk_nilC))) (by rfl)))) db_nil) (db_cons (ds_if (DW.t (dw_or (dt_not (dt_val (de_call (f_is_list B) hr (by decide) (by rfl) passX (da_cons (de_var 0) da_nil)))) (dw_or (dt_cmp op_ne p_ne (de_cb call_lenAll (by rfl) B.len (by rfl) p_len (da_cons (de_var 0) da_nil)) de_int (by rfl)) (dw_or1 (dt_not (dt_val (de_cb (cr_all (by rfl)) (by rfl) B.all (by rfl) p_all (da_cons (dn_comp (ws := [1]) (by rfl) sc_is_hand.nd (di_seq (de_var 0)) (blkOk_by (own := [("part", 1)]) (by rfl)) (by decide) (fun _ _ _ _ _ => (dg_name 1 sc_is_hand.nd)) (fun _ _ _ _ _ => dts_nil) (fun _ _ _ _ _ => (de_call (f_is_integer B) hr (by decide) (by rfl) passL (da_cons (de_var 1) da_nil)))).sh da_nil)))))))) (db_one (ds_ret de_bl)) db_nil) (db_one (ds_ret (de_chain op_lt p_I0 op_lt p_I0 de_int (de_ix ix_any p_ixA (de_var 0) de_int) (de_ix ix_any p_ixA (de_var 0) de_int))))))) ?_
  · intro s n ds Q EQ h
    dsimp only [sp_is_hand] at h
    obtain ⟨_, _, rfl, _⟩ := h; rfl
  · intro s n ds Q EQ h
    dsimp only [sp_is_hand] at h
    obtain ⟨d, b, rfl, hb, h⟩ := h
    have go : ∀ t, (t = "list" ∨ t = "tuple") → (isB t ["list", "tuple"] = true ∧ isB t ["str"] = false) := by rintro t (rfl | rfl) <;> decide
    cases hb with
    | good hd d hl hg =>
      cases hd with
      | we =>
        cases hl
        simpa using h
      | they =>
        cases hl
        simpa using h
      | ch i j =>
        simp [Hand.good] at hg
        have key : LT d [iD i, iD j] := by
          cases hl with
          | tl hh =>
            cases hh with | cons h1 hh => cases hh with | cons h2 hh => cases hh; cases h1; cases h2; exact .inl rfl
          | tt hh =>
            cases hh with | cons h1 hh => cases hh with | cons h2 hh => cases hh; cases h1; cases h2; exact .inr rfl
        rcases key with rfl | rfl
        · simp [compD, hg.1, hg.2.1]
          exact ⟨by simpa using h, fun q => by omega⟩
        · simp [compD, hg.1, hg.2.1]
          exact ⟨by simpa using h, fun q => by omega⟩
    | str x hx =>
      simp
      have e : (("we" : Str) == x || ("they" : Str) == x) = false := by
        rw [Bool.or_eq_false_iff]
        exact ⟨beq_eq_false_iff_ne.mpr fun q => hx (.inl q.symm), beq_eq_false_iff_ne.mpr fun q => hx (.inr q.symm)⟩
      rw [e]
      exact h
    | non d h1 h2 =>
      obtain ⟨t, ht, hb⟩ := h1
      obtain ⟨t', ht', hb'⟩ := h2
      rw [ht] at ht'
      cases ht'
      simp [-isB]
      exact ⟨t, ht, fun q => absurd q (by rw [hb]; decide), fun _ => ⟨t, ht, fun _ => h, fun q => absurd q (by rw [hb']; decide)⟩⟩
    | len es d hd h2 hl =>
      rcases hd with rfl | rfl
      · simp
        exact ⟨by omega, .inr ⟨by omega, h⟩⟩
      · simp
        exact ⟨by omega, .inr ⟨by omega, h⟩⟩
    | part x y d hd tx ty hx hy h2 =>
      have key : (tx = "int" ∨ tx = "bool" → tx = "bool") ∨ (ty = "int" ∨ ty = "bool" → ty = "bool") := by
        simp at h2
        by_cases q : (tx = "int" ∨ tx = "bool") ∧ ¬ tx = "bool"
        · exact .inr fun q2 => h2 q.1 q.2 q2
        · exact .inl fun q2 => Classical.byContradiction fun q3 => q ⟨q2, q3⟩
      rcases hd with rfl | rfl
      · simp [compD]
        refine ⟨tx, hx, ty, hy, fun _ => h, fun q1 q2 q3 q4 => ?_⟩
        rcases key with k | k
        · exact absurd (k q1) q2
        · exact absurd (k q3) q4
      · simp [compD]
        refine ⟨tx, hx, ty, hy, fun _ => h, fun q1 q2 q3 q4 => ?_⟩
        rcases key with k | k
        · exact absurd (k q1) q2
        · exact absurd (k q3) q4
    | num i j d hd h2 =>
      rcases hd with rfl | rfl
      all_goals
        simp [compD]
        refine ⟨fun q => ?_, fun _ => h⟩
        rw [decide_eq_false (fun q2 => h2 ⟨q, q2⟩)]
        exact h


end
end K01
end

section
set_option Elab.async false
set_option linter.all false
set_option maxRecDepth 100000
set_option maxHeartbeats 4000000
/-! DL37: instances whose fields are new trees; more expressions with new results. -/
namespace DL
open PySem PySem.Spec PyProof.Rows L2
mutual
/-- no instance within -/
@[simp] def noI : D → Bool
  | .v _ => true
  | .lst ds => noIs ds
  | .tup ds => noIs ds
  | _ => false
@[simp] def noIs : List D → Bool
  | [] => true
  | d :: ds => noI d && noIs ds
end
mutual
theorem RepN.drop {K : PySem.W.Frag} {F F' H0 : Hp} (e : ∀ a o, F a = some o → (∀ C dx fs, o ≠ .ins C dx fs) → F' a = some o) : ∀ {d : D} {v : V}, RepN K F H0 d v → noI d = true → RepN K F' H0 d v
  | _, _, .v x, _ => .v x
  | _, _, .lst h f r, q => .lst (e _ _ h (fun _ _ _ z => by cases z)) f (r.drop e (by simpa using q))
  | _, _, .tup h r, q => .tup (by
      rcases h with (h | ⟨o, h⟩) | h
      · exact .inl (.inl (e _ _ h (fun _ _ _ z => by cases z)))
      · exact .inl (.inr ⟨o, e _ _ h (fun _ _ _ z => by cases z)⟩)
      · exact .inr h) (r.drop e (by simpa using q))
  | _, _, .dic _ _ _ _, q => by simp at q
  | _, _, .ins _ _ _ _, q => by simp at q
theorem RepsN.drop {K : PySem.W.Frag} {F F' H0 : Hp} (e : ∀ a o, F a = some o → (∀ C dx fs, o ≠ .ins C dx fs) → F' a = some o) : ∀ {ds : List D} {xs : List V}, RepsN K F H0 ds xs → noIs ds = true → RepsN K F' H0 ds xs
  | _, _, .nil, _ => .nil
  | _, _, .cons h t, q => by
    simp only [noIs, Bool.and_eq_true] at q
    exact .cons (h.drop e q.1) (t.drop e q.2)
end
/-- an __init__ under way: slot 0 is the instance, its fields are new trees -/
structure InitS (K : PySem.W.Frag) (T : List (Addr × Str)) (st : Option Addr) (F0 H0 F H : Hp) (σ : Sg) (x C : Addr) (fs : List (Str × D)) (z : Z) : Prop where
  rel : Rel K T st F0 H0 F H σ z
  un0 : z.env[0]? = some .un
  pl : ∀ (i : Nat) (v : DV), z.env[i]? = some v → v = DV.un ∨ ∃ d, v = DV.sh d
  at0 : σ[0]? = some (some (.ref x))
  ex : ∃ dx vs, H x = some (.ins C dx vs) ∧ vs.map (·.1) = fs.map (·.1) ∧ RepsN K F H0 (fs.map (·.2)) (vs.map (·.2))
  f : F x = none
  h0 : Fr H0 x
  st : st ≠ some x
abbrev TDI := Option Addr → List (Str × D) → Z → (List (Str × D) → Nat → Prop) → TEX → Prop
structure DIn (T : List (Addr × Str)) (X : Cx) (E : XK) (C : Addr) (ss : List Stmt) (m : TDI) : Prop where
  ex : ∃ t : TS, PSs X ss t ∧ ∀ (st : Option Addr) (F0 H0 F H : Hp) (σ : Sg) (x : Addr) (fs : List (Str × D)) (z : Z) (D : List (Str × D) → Nat → Prop) (EQ : TEX) (D' : Ends), InitS X.K T st F0 H0 F H σ x C fs z → ERel X.K T st F0 H0 E EQ → m st fs z D EQ →
    (∀ σ H' F' fs' z', InitS X.K T st F0 H0 F' H' σ x C fs' z' → D fs' z'.n → D'.nx σ H') → t D' σ H
section
variable {T : List (Addr × Str)} {X : Cx} {E : XK} {e a b : Expr} {es : List Expr} {ss : List Stmt} {pos p : Pos} {me ma mb : TDE} {mt : TDT} {mas : TDA} {k j : Nat} {x : Str} {ps : List Str}
@[reducible, simp] def inNil : TDI := fun _ fs z D _ => D fs z.n
@[reducible, simp] def inCons (C : Addr) (f : Str) (me : TDE) (m : TDI) : TDI := fun st fs z D EQ => me st (z.put 0 (.sh (.ins C fs))) (fun d z1 => noI d = true ∧ fs.lookup f = none ∧ fs.length < 1000 ∧ m st (fs ++ [(f, d)]) { z with n := z1.n } D EQ) EQ
theorem in_nil {C : Addr} : DIn T X E C [] inNil := ⟨⟨_, pss_nil, fun st F0 H0 F H σ x fs z D EQ D' s er h k => k σ H F fs z s h⟩⟩
theorem in_cons {C : Addr} {f y : Str} {m : TDI} {p' : Pos} (cl : Cls X.K C) (na : NoAttr X.K C f) (hN : X.N[0]? = some y) (he : DFr T X E e me) (hr : DIn T X E C ss m) (hv : Vis X.env.scope y := by first | exact Or.inl rfl | exact Or.inr (Or.inl rfl) | exact Or.inr (Or.inr rfl)) (hd : (y == ("__debug__" : Str)) = false := by decide) (hcd : (y == ("__classdict__" : Str)) = false := by decide)
    (hs : swapsWith e (some (.Attribute (.Name y p) f p')) pos.line X.env = pure false := by rfl) : DIn T X E C (.Assign [.Attribute (.Name y p) f p'] e pos :: ss) (inCons C f me m) := by
  obtain ⟨t, pt, q⟩ := he.ex
  obtain ⟨u, pu, qu⟩ := hr.ex
  refine ⟨⟨_, pss_cons (ps_fld (pe_var hN hv hd hcd) pt hs) pu, fun st F0 H0 F H σ x fs z D EQ D' s er h k => ?_⟩⟩
  obtain ⟨dx, vs, hx, hk, rs⟩ := s.ex
  have hi0 : 0 < z.env.length := (List.getElem?_eq_some_iff.mp s.un0).1
  have ss1 : Same F (upd F x (.ins C dx vs)) := fun b v hb => by rw [upd_ne (ne_of_none hb s.f)]; exact hb
  have no : ∀ (i : Nat) (o : DL.D), (z.env.set 0 (DV.sh (.ins C fs)))[i]? ≠ some (DV.ow o) := fun i o hi => by
    by_cases e : i = 0
    · subst e; rw [set_self hi0] at hi; cases hi
    · rw [set_out e] at hi
      rcases s.pl i _ hi with q | ⟨d, q⟩ <;> cases q
  have r1 : Rel X.K T st F0 H0 (upd F x (.ins C dx vs)) H σ (z.put 0 (.sh (.ins C fs))) := by
    refine ⟨s.rel.ok.frz hx s.f s.h0 s.st (fun ps q => by cases q), by rw [List.length_set]; exact s.rel.len, fun i d hi => ?_, fun i o hi => absurd hi (no i o), fun i j o o' b hij hi => absurd hi (no i o), fun i kk d hi => ?_⟩
    · have hi : (z.env.set 0 (.sh (.ins C fs)))[i]? = some (.sh d) := hi
      by_cases e : i = 0
      · subst e
        rw [set_self hi0] at hi
        cases hi
        exact ⟨_, s.at0, .ins upd_same hk (rs.rep.mono ss1)⟩
      · rw [set_out e] at hi
        obtain ⟨v, h1, h2⟩ := s.rel.sh i d hi
        exact ⟨v, h1, h2.mono ss1⟩
    · have hi : (z.env.set 0 (.sh (.ins C fs)))[i]? = some (.bs kk d) := hi
      by_cases e : i = 0
      · subst e; rw [set_self hi0] at hi; cases hi
      · rw [set_out e] at hi
        rcases s.pl i _ hi with q | ⟨d', q⟩ <;> cases q
  refine q st F0 H0 _ H σ _ _ EQ _ r1 er h fun v H2 F2 d z2 s2 r2 rn hq => ?_
  obtain ⟨hno, hl, hlen, hm⟩ := hq
  have hx2 : F2 x = some (.ins C dx vs) := s2 _ _ upd_same
  have hH2 : H2 x = some (.ins C dx vs) := r2.ok.sub _ _ hx2
  have hl2 : vs.lookup f = none := (look_fs hk rs.rep).2 hl
  have hlen2 : vs.length < 1000 := by have := congrArg List.length hk; simp at this; omega
  refine ⟨_, s.at0, x, C, dx, vs, rfl, hH2, cl, na, hlen2, ?_⟩
  rw [putF_new hl2]
  obtain ⟨F3, hF3⟩ : ∃ F3 : Hp, F3 = fun b => if b = x then none else F2 b := ⟨_, rfl⟩
  have f3x : F3 x = none := by rw [hF3]; exact if_pos rfl
  have f3 : ∀ b, b ≠ x → F3 b = F2 b := fun b hb => by rw [hF3]; exact if_neg hb
  have f32 : Same F3 F2 := fun b o hb => by
    by_cases e : b = x
    · subst e; rw [f3x] at hb; cases hb
    · rw [f3 b e] at hb; exact hb
  have ss3 : Same F F3 := fun b o hb => by
    have e := ne_of_none hb s.f
    rw [f3 b e]
    exact s2 b o (ss1 b o hb)
  have ok3 : Ok T st F0 H0 F3 H2 z2.n := ⟨fun b o hb => r2.ok.sub b o (f32 b o hb), fun b ps hb => r2.ok.nt b ps (f32 _ _ hb), fun b o hb => ss3 b o (s.rel.ok.f0 b o hb), fun b o hb => r2.ok.new b o (f32 b o hb), r2.ok.keep, (fun sp hsp => by
    obtain ⟨g1, g2⟩ := r2.ok.strm sp hsp
    refine ⟨?_, g2⟩
    cases q : F3 sp with
    | none => rfl
    | some o =>
      rw [f32 _ _ q] at g1
      cases g1), r2.ok.tabs⟩
  have ok4 : Ok T st F0 H0 F3 (upd H2 x (.ins C dx (vs ++ [(f, v)]))) z2.n := ok3.put hH2 (fun ps q => by cases q) f3x s.h0 s.st (fun c q z => by unfold LamX.CodeO at z; cases z)
  have S3 : InitS X.K T st F0 H0 F3 (upd H2 x (.ins C dx (vs ++ [(f, v)]))) σ x C (fs ++ [(f, d)]) { z with n := z2.n } := by
    refine ⟨⟨ok4, s.rel.len, fun i d hi => ?_, fun i o hi => ?_, fun i j o o' b hij hi => ?_, fun i kk d hi => ?_⟩, s.un0, s.pl, s.at0, ⟨dx, _, upd_same, by simp [hk], ?_⟩, f3x, s.h0, s.st⟩
    · obtain ⟨w, h1, h2⟩ := s.rel.sh i d hi
      exact ⟨w, h1, h2.mono ss3⟩
    · rcases s.pl i _ hi with q | ⟨d', q⟩ <;> cases q
    · rcases s.pl i _ hi with q | ⟨d', q⟩ <;> cases q
    · rcases s.pl i _ hi with q | ⟨d', q⟩ <;> cases q
    · rw [List.map_append, List.map_append]
      exact (rs.mono ss3 fun _ _ _ q => q).append (.cons (rn.drop (fun b o hb hn => by
        have e : b ≠ x := fun e => by
          subst e
          rw [hx2] at hb
          cases hb
          exact hn _ _ _ rfl
        rw [f3 b e]; exact hb) hno) .nil)
  exact qu st F0 H0 F3 _ σ x _ _ D EQ D' S3 er hm k
end
/-! ### the promise of such an __init__ -/
def toIf (K : PySem.W.Frag) (T : List (Addr × Str)) (C : Addr) (sp : ISpec) : Sp := fun vs H Q E =>
  ∃ (H1 : Hp) (x dx : Addr) (ws : List V), vs = .ref x :: ws ∧ H1 x = none ∧ H1 dx = none ∧ dx ≠ x ∧ H = upd (upd H1 dx (.own x)) x (.ins C dx []) ∧
  ∃ (F : Hp) (st : Option Addr) (n : Nat) (ds : List D) (Qd : List (Str × D) → Nat → Prop) (EQ : TEX), Ok T st F H1 F H1 n ∧ Reps K F ds ws ∧ sp st n ds Qd EQ ∧
    (∀ H' F' fs n', Ok T st F H1 F' H' n' → (∃ dx vs, H' x = some (.ins C dx vs) ∧ vs.map (·.1) = fs.map (·.1) ∧ RepsN K F' H1 (fs.map (·.2)) (vs.map (·.2))) → F' x = none → Qd fs n' → Q .non H') ∧ ERel K T st F H1 E EQ
theorem init_okF {P : Program} {w : World} {K : PySem.W.Frag} {T : List (Addr × Str)} {mg : Str → Option Value} {base : Heap} {x qual : Str} {st : Stmt} {f C : Addr} {fd : FuncData} {N ps : List Str} {y : Str} {k : Nat} {sp : ISpec} {m : TDI} (F : Fun K x qual st f fd) (S : FnScope N (y :: ps) (defScope st)) (len : ∀ s n ds Q EQ, sp s n ds Q EQ → ds.length = ps.length)
    (hbody : ∀ (cdv : Value) (A : Around) (outer : List Env) (s : Shared) (H : Hp) (E : XK), Room k (A.deeper (envOfC qual (defScope st) s.heap.objs.size f cdv)) → DIn T (cxOf (L2.CX P w) P w K mg base N qual (defScope st) f cdv A outer s H E) E C (defBody st) m)
    (hsp : ∀ s n ds Q EQ, sp s n ds Q EQ → m s [] ⟨.un :: (ds.map DV.sh ++ List.replicate (N.length - (ds.length + 1)) .un), n⟩ Q EQ) :
    FnOk P w K mg base (L2.CX P w) (k + 1) f fd (y :: ps) (toIf K T C sp) := by
  refine F.okX S (fun vs H Q E h => ?_) fun cdv A outer s H vs Q E hr h => ?_
  · obtain ⟨H1, x, dx, ws, rfl, _, _, _, _, F', st', n, ds, Qd, EQ, ok, r, h1, h2⟩ := h
    rw [List.length_cons, ← r.length, len _ _ _ _ _ h1, List.length_cons]
  · obtain ⟨H1, x, dx, ws, rfl, hx, hdx, hne, rfl, F', st', n, ds, Qd, EQ, ok, r, h1, h2, h3⟩ := h
    obtain ⟨t, pt, qt⟩ := (hbody cdv A outer s _ E hr).ex
    have ok1 : Ok T st' F' H1 F' (upd H1 dx (.own x)) n := ok.laid hdx
    have hx1 : upd H1 dx (.own x) x = none := by rw [upd_ne (Ne.symm hne)]; exact hx
    have ok2 : Ok T st' F' H1 F' (upd (upd H1 dx (.own x)) x (.ins C dx [])) n := ok1.laid hx1
    have base := rel_start (N := N.tail) ok r
    have hstart : L2.start N (V.ref x :: ws) = some (V.ref x) :: L2.start N.tail ws := by
      unfold L2.start
      simp [Nat.sub_sub, Nat.add_comm]
    have hb2 : (ds.map DV.sh ++ List.replicate (N.length - (ds.length + 1)) .un) = (ds.map DV.sh ++ List.replicate (N.tail.length - ds.length) .un) := by
      rw [List.length_tail, Nat.sub_sub, Nat.add_comm 1]
    have pl : ∀ (i : Nat) (v : DV), (DV.un :: (ds.map DV.sh ++ List.replicate (N.length - (ds.length + 1)) .un))[i]? = some v → v = .un ∨ ∃ d, v = .sh d := fun i v hi => by
      have := List.mem_of_getElem? hi
      simp only [List.mem_cons, List.mem_append, List.mem_map, List.mem_replicate] at this
      rcases this with q | ⟨d, _, q⟩ | ⟨_, q⟩
      · exact .inl q
      · exact .inr ⟨d, q.symm⟩
      · exact .inl q
    have rel : Rel K T st' F' H1 F' (upd (upd H1 dx (.own x)) x (.ins C dx [])) (L2.start N (V.ref x :: ws)) ⟨.un :: (ds.map DV.sh ++ List.replicate (N.length - (ds.length + 1)) .un), n⟩ := by
      refine ⟨ok2, ?_, fun i d hi => ?_, fun i o hi => ?_, fun i j o o' b hij hi => ?_, fun i kk d hi => ?_⟩
      · rw [hstart, hb2]
        simpa using base.len
      · have hi : (DV.un :: (ds.map DV.sh ++ List.replicate (N.length - (ds.length + 1)) .un))[i]? = some (.sh d) := hi
        rw [hb2] at hi
        rw [hstart]
        cases i with
        | zero => simp at hi
        | succ i => exact base.sh i d (by simpa using hi)
      · rcases pl i _ hi with q | ⟨d, q⟩ <;> cases q
      · rcases pl i _ hi with q | ⟨d, q⟩ <;> cases q
      · rcases pl i _ hi with q | ⟨d, q⟩ <;> cases q
    refine ⟨t, pt, qt st' F' H1 F' _ _ x [] _ _ EQ _ ⟨rel, rfl, pl, by rw [hstart]; rfl, ⟨dx, [], upd_same, rfl, .nil⟩, Same.none ok.sub hx, .of hx, fun q => (ok.strm x q).2.some hx⟩ h3 (hsp st' n ds Qd EQ h1) fun σ H' F2 fs' z' s' q => ?_⟩
    exact h2 H' F2 fs' z'.n s'.rel.ok s'.ex s'.f q
/-- a class at C whose __init__ makes new trees of all fields -/
structure ClF (P : Program) (w : World) (K : PySem.W.Frag) (T : List (Addr × Str)) (mg : Str → Option Value) (base : Heap) (k : Nat) (x : Str) (C : Addr) (ps : List Str) (sp : ISpec) : Prop where
  ex : ∃ (f : Addr) (fd : FuncData), FnOk P w K mg base (L2.CX P w) k f fd ps (toIf K T C sp) ∧ Binds K fd ps [] ∧ Mk K C f ∧ mg x = some (.ref C)
section
variable {T : List (Addr × Str)} {X : Cx} {E : XK} {e a b : Expr} {es : List Expr} {ss : List Stmt} {pos p : Pos} {me ma mb : TDE} {mt : TDT} {mas : TDA} {k j : Nat} {x : Str} {ps : List Str}
theorem dfr_make {C : Addr} {sp : ISpec} (c : ClF X.prog X.w X.K T X.mg X.base k x C ps sp) (hr : Room j X.A) (hk : k + 1 ≤ j) (hg : Gl X x) (hx : Passes (L2.CX X.prog X.w) X E) (ha : DA T X E (e :: es) mas) (hdb : (x == ("__debug__" : Str)) = false := by decide)
    (he : starEach (e :: es) X.env = (false, eval e X.env) :: starEach es X.env := by rfl) (hpl : (backTo pos (starEach es X.env)).any (·.1) = false := by rfl) : DFr T X E (.Call (.Name x p) (e :: es) [] pos) (mMake C sp mas) := by
  obtain ⟨f, fd, F, hb, M, hm⟩ := c.ex
  obtain ⟨ta, pa, qa⟩ := ha.ex
  refine ⟨⟨_, pe_make M F (hr.mono hk) hg hm hb .nil hx pa hdb he hpl, fun st F0 H0 F H σ z Q EQ R r er h k => ?_⟩⟩
  refine qa st F0 H0 F H σ z _ EQ _ r er h fun vs H1 F1 ds z1 s1 r1 p1 h1 => fun x dx hx hdx hne => ?_
  rw [List.append_nil]
  refine ⟨H1, x, dx, vs, rfl, hx, hdx, hne, rfl, F1, st, z1.n, ds, _, EQ, r1.ok.refl', p1, h1, fun H2 F2 fs n' ok w hf q => ⟨rfl, ?_⟩, er.after r1.ok⟩
  obtain ⟨dx', es', hx2, hk, rs⟩ := w
  have r2 := r1.after ok
  have h0 : Fr H0 x := r1.ok.fr (.of hx)
  have ss2 : Same F2 (upd F2 x (.ins C dx' es')) := fun b v hb => by rw [upd_ne (ne_of_none hb hf)]; exact hb
  have r3 : Rel X.K T st F0 H0 (upd F2 x (.ins C dx' es')) H2 σ { z1 with n := n' } := by
    have hst : st ≠ some x := fun q => by
      obtain ⟨g1, z0, g2⟩ := r1.ok.strm x q
      exact (r1.ok.strm x q).2.some hx
    have own : ∀ (i : Nat) (o : DL.D), z1.env[i]? = some (DV.ow o) → ∀ a : Addr, σ[i]? = some (some (V.ref a)) → a ≠ x := fun i o hi a ha e => by
      obtain ⟨a', h1, w⟩ := r1.ow i o hi
      rw [ha] at h1
      cases h1
      obtain ⟨u, hu, _⟩ := w.ho
      rw [e, hx] at hu
      cases hu
    refine ⟨r2.ok.frz hx2 hf h0 hst (fun ps q => by cases q), r2.len, fun i d hi => ?_, fun i o hi => ?_, r2.apart, fun i kk d hi => ?_⟩
    · obtain ⟨v, g1, g2⟩ := r2.sh i d hi
      exact ⟨v, g1, g2.mono ss2⟩
    · obtain ⟨a, g1, w⟩ := r2.ow i o hi
      have ne := own i o hi a g1
      exact ⟨a, g1, ⟨let ⟨u, hu, c⟩ := w.ho; ⟨u, hu, c.mono ss2⟩, by rw [upd_ne ne]; exact w.f, w.h0, w.st, w.pin⟩⟩
    · obtain ⟨v, g1, g2⟩ := r2.bs i kk d hi
      exact ⟨v, g1, g2.mono ss2⟩
  exact k _ H2 _ _ _ ((s1.trans ok.f0).trans ss2) r3 (.ins upd_same h0 hk (rs.mono ss2 fun b _ _ q => r1.ok.fr q)) q
/-! ### more expressions whose lists are new -/
theorem dfr_if {c : Expr} (hc : DT T X E c mt) (ha : DFr T X E a ma) (hb : DFr T X E b mb) : DFr T X E (.IfExp c a b pos) (mIf mt ma mb) := by
  obtain ⟨t, p, q⟩ := hc.ex
  obtain ⟨ta, pa, qa⟩ := ha.ex
  obtain ⟨tb, pb, qb⟩ := hb.ex
  refine ⟨⟨_, pe_ifExp p pa pb, fun st F0 H0 F H σ z Q EQ R r er h k => q st F0 H0 F H σ z _ EQ _ r er h fun b H' n' r' h' => ?_⟩⟩
  cases b with
  | true => exact iteT (qa st F0 H0 F H' σ _ Q EQ R r' er (h'.1 rfl) k)
  | false => exact iteF (qb st F0 H0 F H' σ _ Q EQ R r' er (h'.2 rfl) k)
@[reducible, simp] def mVarF (i : Nat) : TDE := fun _ z Q _ => ∃ d, z.env[i]? = some (.bs false d) ∧ Q d z
theorem dfr_var (i : Nat) (hN : X.N[i]? = some x := by rfl) (hv : Vis X.env.scope x := by first | exact Or.inl rfl | exact Or.inr (Or.inl rfl) | exact Or.inr (Or.inr rfl)) (hd : (x == ("__debug__" : Str)) = false := by decide)
    (hcd : (x == ("__classdict__" : Str)) = false := by decide) : DFr T X E (.Name x pos) (mVarF i) := by
  refine ⟨⟨_, pe_var hN hv hd hcd, fun st F0 H0 F H σ z Q EQ R r er h k => ?_⟩⟩
  obtain ⟨d, hz, h2⟩ := h
  obtain ⟨v, h1, rn⟩ := r.bs i _ _ hz
  exact ⟨v, h1, k _ H F _ z (Same.refl F) r rn h2⟩
end
end DL
end

section
set_option Elab.async false
set_option linter.all false
set_option maxRecDepth 100000
set_option maxHeartbeats 4000000
/-! DL38: a dict of pairs with like keys; l.index(x) by ==; methods with new results; makers by ClF at the top. -/
namespace DL
open PySem PySem.Spec PyProof.Rows L2
theorem putD_len (kvs : List (Key × D)) (k : Key) (d : D) : (putD kvs k d).length ≤ kvs.length + 1 := by
  unfold putD
  split <;> simp
theorem mergeD_len : ∀ (acc more : List (Key × D)), (mergeD acc more).length ≤ acc.length + more.length
  | acc, [] => by simp [mergeD]
  | acc, kv :: more => by
    have h1 := mergeD_len (putD acc kv.1 kv.2) more
    have h2 := putD_len acc kv.1 kv.2
    show (mergeD (putD acc kv.1 kv.2) more).length ≤ _
    simp only [List.length_cons]
    omega
theorem dcomp_foldL {α : Type} {g : TDG} {mk mv : TDE} {vs : List Nat} {st : Option Addr} {Q : D → Z → Prop} {z : Z} (kf : α → Key) (vf : α → D) {xs : List α} {h : α → D} (hl : xs.length ≤ 1000000)
    (hs : ∀ x ∈ xs, ∀ (R : List (Key × D) → Z → Prop) (R2 : Z → Prop) (acc : List (Key × D)), acc.length < 1000000 → R (putD acc (kf x) (vf x)) z →
      (∀ z1, mk st z1 (fun y z2 => mv st z2 (fun v z3 => ∃ key, y = kD key ∧ acc.length < 1000000 ∧ R (putD acc key v) (z3.wipe vs)) (fun _ _ => False)) (fun _ _ => False) → R2 z1) → g (h x) z R2)
    (hq : Q (.dic (mergeD [] (xs.map fun x => (kf x, vf x)))) z) : dcompD g tAll mk mv vs st Q (xs.map h) [] z := by
  have key : ∀ (es : List α) (acc : List (Key × D)), acc.length + es.length ≤ 1000000 → (∀ d ∈ es, d ∈ xs) → Q (.dic (mergeD acc (es.map fun x => (kf x, vf x)))) z → dcompD g tAll mk mv vs st Q (es.map h) acc z := by
    intro es
    induction es with
    | nil => intro acc _ _ h; simpa [dcompD, mergeD] using h
    | cons d es ih =>
      intro acc hl hm hq
      simp only [List.length_cons] at hl
      show g (h d) z fun z1 => tAll st z1 _ _
      refine hs d (hm d (List.mem_cons_self ..)) (fun kvs z2 => dcompD g tAll mk mv vs st Q (es.map h) kvs z2) _ acc (by omega) ?_ (fun z1 h1 => ⟨fun _ => h1, fun q => by cases q⟩)
      have hp := putD_len acc (kf d) (vf d)
      refine ih _ (by omega) (fun e he => hm e (List.mem_cons_of_mem _ he)) ?_
      exact hq
  exact key xs [] (by simpa using hl) (fun _ h => h) hq
section
variable {T : List (Addr × Str)} {X : Cx} {E : XK} {e a b o : Expr} {es : List Expr} {pos p apos cpos : Pos} {me ma mb mo : TDE} {mas : TDA} {k j : Nat} {x m : Str} {ps : List Str} {sp : DSpec} {C : Addr}
/-- l.index(x): the first place of an equal one -/
@[reducible, simp] def mIdxD (mo me : TDE) : TDE := fun st z Q EQ => mo st z (fun d z1 => ∃ es, d = .lst es ∧ me st z1 (fun e z2 => ∃ (jj : Nat) (zz : PyData), plainDs es = true ∧ plainD e = true ∧ SeqAt.shaped (.list (pyDs es)) = true ∧ SeqAt.shaped (pyD e) = true ∧ (pyDs es)[jj]? = some zz ∧ PyData.eqv zz (pyD e) = true ∧
  (∀ (m : Nat) (z' : PyData), m < jj → (pyDs es)[m]? = some z' → PyData.eqv z' (pyD e) = false) ∧ Q (.v (.int (jj : Nat))) z2) EQ) EQ
theorem de_indexD (hu : X.A.units + 65 < cLine) (ho : DE T X E o mo) (he : DE T X E e me)
    (hpa : ∀ {to t : TE}, MtR X "list.index" (rIndexD X.K) → PE X o to → PE X e t → PE X (.Call (.Attribute o "index" apos) [e] [] cpos) (tBM X.K "list" (rIndexD X.K) to (tCons t tNil))) : DE T X E (.Call (.Attribute o "index" apos) [e] [] cpos) (mIdxD mo me) := by
  obtain ⟨to, po, qo⟩ := ho.ex
  obtain ⟨t, pt, q⟩ := he.ex
  refine ⟨⟨_, hpa (mt_indexD hu) po pt, fun st F0 H0 F H σ z Q EQ R r er h k => ?_⟩⟩
  refine qo st F0 H0 F H σ z _ EQ _ r er h fun v H1 F1 d z1 s1 r1 p1 h1 => ?_
  obtain ⟨es, rfl, h1⟩ := h1
  cases p1 with
  | lst hf rr =>
    refine ⟨.inl ⟨rfl, _, SqL.of (r1.ok.sub _ _ hf)⟩, ?_⟩
    refine q st F0 H0 F1 H1 σ z1 _ EQ _ r1 er h1 fun v2 H2 F2 d2 z2 s2 r2 p2 h2 => ?_
    obtain ⟨jj, zz, c1, c2, c3, c4, c5, c6, c7, hq⟩ := h2
    have d1 := dp_rep (H := H2) r2.ok.sub (Rep.lst (s2 _ _ hf) (rr.mono s2)) (show plainD (.lst es) = true by simpa [plainD] using c1)
    have d2 := dp_rep (H := H2) r2.ok.sub p2 c2
    simp only [pyD] at d1
    exact ⟨_, v2, _, _, jj, zz, rfl, rfl, d1, d2, c3, c4, c5, c6, c7, k _ H2 F2 _ z2 (s1.trans s2) r2 (.v _) hq⟩
/-- a method whose result is new -/
@[reducible, simp] def mMethF (C : Addr) (m : Str) (sp : DSpec) (me : TDE) : TDE := fun st z Q EQ => me st z (fun d z1 => ∃ fs, d = .ins C fs ∧ fs.lookup m = none ∧ sp st z1.n [d] (fun r n' => FrD r ∧ Q r.d { z1 with n := n' }) EQ) EQ
theorem dfr_methE (cl : Cls X.K C) (c : MethP X.prog X.w X.K T X.mg X.base k C m ps sp) (hr : Room j X.A) (hk : k ≤ j) (hx : Passes (L2.CX X.prog X.w) X E) (he : DE T X E e me)
    (hp : ∀ {f : Addr} {fd : FuncData} {ta : TE}, Meth X.K C m f → FnOk X.prog X.w X.K X.mg X.base (L2.CX X.prog X.w) k f fd ps (toSp X.K T sp) → Binds X.K fd ps [] → PE X e ta → PE X (.Call (.Attribute e m apos) [] [] pos) (tMeth C m (toSp X.K T sp) [] E ta tNil)) :
    DFr T X E (.Call (.Attribute e m apos) [] [] pos) (mMethF C m sp me) := by
  obtain ⟨f, hm, c⟩ := c
  obtain ⟨fd, F, hb⟩ := c.ex
  obtain ⟨ta, pa, qa⟩ := he.ex
  refine ⟨⟨_, hp hm F hb pa, fun st F0 H0 F H σ z Q EQ R r er h k => ?_⟩⟩
  refine qa st F0 H0 F H σ z _ EQ _ r er h fun v H1 F1 d z1 s1 r1 p1 h1 => ?_
  obtain ⟨fs, rfl, hl, h2⟩ := h1
  cases p1 with
  | ins hf hkk rr =>
    refine ⟨_, _, _, rfl, r1.ok.sub _ _ hf, (look_fs hkk rr).2 hl, ?_⟩
    refine call_sp (vs := [_]) r1 er (.cons (.ins hf hkk rr) .nil) h2 fun v H2 F2 rr2 n' ok q qd => ?_
    obtain ⟨F3, s3, r3, rp⟩ := res_fr r1 ok q qd.1
    exact k v H2 F3 _ _ (s1.trans s3) r3 rp qd.2
end
section
variable {P : Program} {w : World} {K : PySem.W.Frag} {T : List (Addr × Str)} {mg : Str → Option Value} {base : Heap}
theorem mkInitF {C : Addr} {x qual : Str} {st : Stmt} {N ps : List Str} {y : Str} {k : Nat} {sp : ISpec} {m : TDI} (F : InitAt K mg x C qual st) (S : FnScope N (y :: ps) (defScope st)) (hb : BindsQ "__init__" qual st (y :: ps)) (len : ∀ s n ds Q EQ, sp s n ds Q EQ → ds.length = ps.length)
    (hbody : ∀ (f : Addr) (cdv : Value) (A : Around) (outer : List Env) (s : Shared) (H : Hp) (E : XK), Room k (A.deeper (envOfC qual (defScope st) s.heap.objs.size f cdv)) → DIn T (cxOf (L2.CX P w) P w K mg base N qual (defScope st) f cdv A outer s H E) E C (defBody st) m)
    (hsp : ∀ s n ds Q EQ, sp s n ds Q EQ → m s [] ⟨.un :: (ds.map DV.sh ++ List.replicate (N.length - (ds.length + 1)) .un), n⟩ Q EQ) :
    ClF P w K T mg base (k + 1) x C (y :: ps) sp := by
  obtain ⟨f, fd, F, M, hm⟩ := F
  exact ⟨f, fd, init_okF F S len (hbody f) hsp, F.binds hb, M, hm⟩
end
end DL
end

section
set_option Elab.async false
set_option linter.all false
set_option maxRecDepth 100000
set_option maxHeartbeats 4000000
namespace K01
open PySem PySem.Spec PyProof.Rows L2 DL

/-- whether any thing is a literal of some names -/
inductive LitB (names : List Str) : D → Bool → Prop
  | good (p : Str × Bool) (d : D) (hl : Loose (litD p) d) (hm : p.1 ∈ names) : LitB names d true
  | non (d : D) (h : Kn d ["list", "tuple"]) : LitB names d false
  | len (es : List D) (d : D) (h : LT d es) (h2 : es.length ≠ 2) (hl : es.length ≤ 1000) : LitB names d false
  | mark (x y d : D) (h : LT d [x, y]) (h2 : Kn x ["str"]) : LitB names d false
  | other (m : Str) (y d : D) (h : LT d [strD m, y]) (h2 : m ∉ names) : LitB names d false
  | val (m : Str) (y d : D) (h : LT d [strD m, y]) (h2 : m ∈ names) (h3 : Kn y ["bool"]) : LitB names d false
/-- any thing as a clause of some names -/
inductive ClO (names : List Str) : D → Option Cl → Prop
  | good (c : Cl) (d : D) (hl : Loose (clD c) d) (hm : ∀ p ∈ c, p.1 ∈ names) (nd : (c.map (·.1)).Nodup) (len : c.length ≤ 1000) : ClO names d (some c)
  | non (d : D) (h : Kn d ["list", "tuple"]) : ClO names d none
  | bad (es : List D) (d : D) (h : LT d es) (hl : es.length ≤ 1000) (bs : List Bool) (hb : Paired (LitB names) es bs) (hn : false ∈ bs) : ClO names d none
  | twice (c : Cl) (d : D) (hl : Loose (clD c) d) (hm : ∀ p ∈ c, p.1 ∈ names) (len : c.length ≤ 1000) (h2 : (mergeD [] (c.map fun p => ((Sum.inr p.1 : Key), blD p.2))).length < c.length) : ClO names d none
def clO (names : List Str) : Option Cl → D
  | some c => clD (ordered names c)
  | none => .v .non
theorem lfDs_of : ∀ {ds : List D}, (∀ d ∈ ds, lfD d = true) → lfDs ds = true
  | [], _ => rfl
  | d :: ds, h => by simp [h d (List.mem_cons_self ..), lfDs_of fun e he => h e (List.mem_cons_of_mem _ he)]
theorem paired_list {α β : Type} {R : α → β → Prop} : ∀ {xs : List α} {bs : List β}, Paired R xs bs → ∃ l : List (α × β), l.map (·.1) = xs ∧ l.map (·.2) = bs ∧ ∀ p ∈ l, R p.1 p.2
  | _, _, .nil => ⟨[], rfl, rfl, nofun⟩
  | _, _, .cons (a := a) (b := b) h t => by
    obtain ⟨l, h1, h2, h3⟩ := paired_list t
    refine ⟨(a, b) :: l, by simp [h1], by simp [h2], fun p hp => ?_⟩
    rcases List.mem_cons.mp hp with rfl | hp
    · exact h
    · exact h3 p hp

section
variable {P : Program} {w : World} {K : PySem.W.Frag} {T : List (Addr × Str)} {mg : Str → Option Value} {base : Heap} {a : Ad}
theorem sc_is_literal : FnScope ["names", "thing"] ["names", "thing"] (defScope (topS 15)) := ⟨rfl, rfl, rfl, by decide +kernel, rfl, by decide +kernel, by decide +kernel⟩
theorem bd_is_literal : BindsH "is_literal" (topS 15) ["names", "thing"] := fun _ _ _ _ _ _ us hl => match us, hl with | [_, _], _ => rfl
def sp_is_literal : DSpec := fun _ n ds Q _ => ∃ (names : List Str) (d : D) (b : Bool), ds = [.lst (names.map strD), d] ∧ LitB names d b ∧ Q (.sh (blD b)) n
theorem f_is_literal (B : BF P K mg a) : Fn P w K T mg base 2 "is_literal" ["names", "thing"] (sp_is_literal) := by
  refine mkFn B.is_literal sc_is_literal bd_is_literal ?_ (fun f cdv A outer s H E hr => (db_cons (ds_if (DW.t (dw_or (dt_not (dt_val (de_call (f_is_list B) hr (by decide) (by rfl) passX (da_cons (de_var 1) da_nil)))) (dw_or (dt_cmp op_ne p_ne (de_cb call_lenAll (by rfl) B.len (by rfl) p_len (da_cons (de_var 1) da_nil)) de_int (by rfl)) (dw_or1 (dt_not (dt_val (de_is1 (by rfl) B.isinstance (by rfl) B.str (de_ix ix_any p_ixA (de_var 1) de_int)))))))) (db_one (ds_ret de_bl)) db_nil) (db_one (ds_ret (de_and (de_cmp op_in_seq (p_inSeq (neg := false)) (de_ix ix_any p_ixA (de_var 1) de_int) (de_var 0) (by rfl)) (de_one (de_is1 (by rfl) B.isinstance (by rfl) B.bool (de_ix ix_any p_ixA (de_var 1) de_int)))))))) ?_
  · intro s n ds Q EQ h
    dsimp only [sp_is_literal] at h
    obtain ⟨_, _, _, rfl, _⟩ := h; rfl
  · intro s n ds Q EQ h
    dsimp only [sp_is_literal] at h
    obtain ⟨names, d, b, rfl, hb, h⟩ := h
    cases hb with
    | good p d hl hm =>
      rcases loose_lit hl with rfl | rfl
      · simp [hm]
        exact ⟨fun _ _ _ => by simpa using h, fun q => absurd rfl (q _ hm)⟩
      · simp [hm]
        exact ⟨fun _ _ _ => by simpa using h, fun q => absurd rfl (q _ hm)⟩
    | non d hk =>
      obtain ⟨t, ht, hb⟩ := hk
      simp [-isB]
      exact ⟨t, ht, fun _ => h, fun q => absurd q (by rw [hb]; decide)⟩
    | len es d hd h2 hl =>
      rcases hd with rfl | rfl
      all_goals
        simp
        exact ⟨by omega, .inr ⟨by omega, h⟩⟩
    | mark x y d hd hk =>
      obtain ⟨t, ht, hb⟩ := hk
      rcases hd with rfl | rfl
      all_goals
        simp [-isB]
        exact ⟨fun _ => h, fun _ => ⟨t, ht, fun _ => h, fun q => absurd q (by rw [hb]; decide)⟩⟩
    | other m y d hd hm =>
      rcases hd with rfl | rfl
      all_goals
        simp [hm]
        exact ⟨fun x hx e => absurd (e ▸ hx) hm, fun _ => h⟩
    | val m y d hd hm hk =>
      obtain ⟨t, ht, hb⟩ := hk
      rcases hd with rfl | rfl
      all_goals
        simp [hm, -isB]
        exact ⟨fun _ => h, fun _ => ⟨fun _ => h, fun _ => ⟨fun _ _ _ => ⟨t, ht, by rw [hb]; exact h⟩, fun _ => h⟩⟩⟩

theorem sc_as_clause : FnScope ["names", "thing", "one", "truths", "mark", "truth"] ["names", "thing"] (defScope (topS 16)) := ⟨rfl, rfl, rfl, by decide +kernel, rfl, by decide +kernel, by decide +kernel⟩
theorem bd_as_clause : BindsH "as_clause" (topS 16) ["names", "thing"] := fun _ _ _ _ _ _ us hl => match us, hl with | [_, _], _ => rfl
def sp_as_clause : DSpec := fun _ n ds Q _ => ∃ (names : List Str) (d : D) (o : Option Cl), ds = [.lst (names.map strD), d] ∧ ClO names d o ∧ names.length ≤ 1000 ∧ (o = none → Q (.sh (.v .non)) n ∧ Q (.fr (.v .non)) n) ∧ ∀ c, o = some c → Q (.fr (clD (ordered names c))) n
theorem f_as_clause (B : BF P K mg a) : Fn P w K T mg base 3 "as_clause" ["names", "thing"] (sp_as_clause) := by
  refine mkFn B.as_clause sc_as_clause bd_as_clause ?_ (fun f cdv A outer s H E hr => (db_cons (ds_if (DW.t (dw_or (dt_not (dt_val (de_call (f_is_list B) hr (by decide) (by rfl) passX (da_cons (de_var 1) da_nil)))) (dw_or1 (dt_not (dt_val (de_cb (cr_all (by rfl)) (by rfl) B.all (by rfl) p_all (da_cons (dn_comp (ws := [2]) (by rfl) sc_as_clause.nd (di_seq (de_var 1)) (blkOk_by (own := [("one", 2)]) (by rfl)) (by decide) (fun _ _ _ _ _ => (dg_name 2 sc_as_clause.nd)) (fun _ _ _ _ _ => dts_nil) (fun _ _ _ _ _ => (de_call (f_is_literal B) hr (by decide) (by rfl) passL (da_cons (de_var 0) (da_cons (de_var 2) da_nil))))).sh da_nil))))))) (db_one (ds_ret de_non)) db_nil) (db_cons (ds_setN 3 sc_as_clause.nd (dn_dcomp (ws := [4, 5]) (by rfl) sc_as_clause.nd (di_seq (de_var 1)) (blkOk_by (own := [("mark", 4), ("truth", 5)]) (by rfl)) (by decide) (fun _ _ _ _ _ => (dg_tup2 (by rfl) (dg_name 4 sc_as_clause.nd) (dg_name 5 sc_as_clause.nd))) (fun _ _ _ _ _ => dts_nil) (fun _ _ _ _ _ => (de_var 4)) (fun _ _ _ _ _ => (de_var 5)))) (db_frz 3 (db_one (ds_retF (dfr_if (dt_cmp op_eq p_eq (de_cb call_lenAll (by rfl) B.len (by rfl) p_len (da_cons (de_var 3) da_nil)) (de_cb call_lenAll (by rfl) B.len (by rfl) p_len (da_cons (de_var 1) da_nil)) (by rfl)) (dfr_new (dn_comp (ws := [4]) (by rfl) sc_as_clause.nd (di_seq (de_var 0)) (blkOk_by (own := [("mark", 4)]) (by rfl)) (by decide) (fun _ _ _ _ _ => (dg_name 4 sc_as_clause.nd)) (fun _ _ _ _ _ => (dts_one (dt_inD (hu_of hr) (de_var 4) (de_var 3)))) (fun _ _ _ _ _ => (de_tup (da_cons (de_var 4) (da_cons (de_at (hu_of hr) (de_var 3) (de_var 4)) da_nil)))))) (dfr_leaf de_non)))))))) ?_
  · intro s n ds Q EQ h
    dsimp only [sp_as_clause] at h
    obtain ⟨_, _, _, rfl, _⟩ := h; rfl
  · intro s n ds Q EQ h
    dsimp only [sp_as_clause] at h
    obtain ⟨names, d, o, rfl, ho, hn, hno, hyes⟩ := h
    have kinds : (Kn d ["list", "tuple"] ∧ o = none) ∨ (∃ (es : List D) (bs : List Bool), LT d es ∧ es.length ≤ 1000 ∧ Paired (LitB names) es bs ∧ false ∈ bs ∧ o = none) ∨
      ∃ c : Cl, Loose (clD c) d ∧ (∀ p ∈ c, p.1 ∈ names) ∧ c.length ≤ 1000 ∧ ((mergeD [] (c.map fun p => ((Sum.inr p.1 : Key), blD p.2))).length < c.length → Q (.fr (.v .non)) n) ∧ (c.length = (mergeD [] (c.map fun p => ((Sum.inr p.1 : Key), blD p.2))).length → Q (.fr (clD (ordered names c))) n) ∧ (mergeD [] (c.map fun p => ((Sum.inr p.1 : Key), blD p.2))).length ≤ c.length ∧ ((mergeD [] (c.map fun p => ((Sum.inr p.1 : Key), blD p.2))).length = c.length → (c.map (·.1)).Nodup) := by
      cases ho with
      | non d hk => exact .inl ⟨hk, rfl⟩
      | bad es d hd hl bs hb hf => exact .inr (.inl ⟨es, bs, hd, hl, hb, hf, rfl⟩)
      | good c d hl hm nd len =>
        have e : (mergeD [] (c.map fun p => ((Sum.inr p.1 : Key), blD p.2))).length = c.length := by rw [trD_merge c nd, List.length_map]
        exact .inr (.inr ⟨c, hl, hm, len, fun q => by omega, fun q => hyes c rfl, by omega, fun _ => nd⟩)
      | twice c d hl hm len h2 => exact .inr (.inr ⟨c, hl, hm, len, fun _ => (hno rfl).2, fun q => by omega, by omega, fun q => by omega⟩)
    rcases kinds with ⟨⟨t, ht, hb⟩, e⟩ | ⟨es, bs, hd, hl, hb, hf, e⟩ | ⟨c, hl, hm, hc, k1, k2, k3, k4⟩
    · simp [-isB]
      exact ⟨t, ht, fun _ => (hno e).1, fun q => absurd q (by rw [hb]; decide)⟩
    · obtain ⟨l, hl1, hl2, hl3⟩ := paired_list hb
      have hll : l.length ≤ 1000 := by rw [← List.length_map (f := (·.1)), hl1]; exact hl
      subst hl1
      subst hl2
      rcases hd with rfl | rfl
      all_goals
        simp
        refine comp_mapL (fun p => blD p.2) (by omega) (fun x hx R R2 h3 h5 => ?_) ?_
        · refine h5 _ ?_
          simp
          exact ⟨names, x.1, x.2, rfl, hl3 x hx, h3 _ rfl⟩
        refine ⟨_, rfl, _, bls_map (g := fun p : D × Bool => p.2) _, ?_⟩
        exact ⟨fun _ => (hno e).1, fun q => absurd hf q⟩
    · obtain ⟨es, hes, hd⟩ := loose_lst hl
      obtain ⟨l, hl1, hl2, hl3⟩ := looses_pairs hes
      subst hl2
      have hll : l.length ≤ 1000 := by rw [← List.length_map (f := (·.1)), hl1]; exact hc
      rcases hd with rfl | rfl
      all_goals
        simp
        refine comp_mapL (fun _ => blD true) (by omega) (fun x hx R R2 h3 h5 => ?_) ?_
        · refine h5 _ ?_
          simp
          exact ⟨names, x.2, true, rfl, .good x.1 _ (hl3 x hx) (hm x.1 (by rw [← hl1]; exact List.mem_map_of_mem hx)), h3 _ rfl⟩
        refine ⟨_, rfl, _, bls_map (g := fun _ => true) _, ?_⟩
        simp
        refine dcomp_foldL (fun x => .inr x.1.1) (fun x => blD x.1.2) (by omega) (fun x hx R R2 acc ha h3 h5 => ?_) ?_
        · rcases loose_lit (hl3 x hx) with e | e
          all_goals
            rw [e]
            refine ⟨(strD x.1.1, blD x.1.2), by simp, h5 _ ?_⟩
            simp
            exact ⟨ha, h3⟩
        have e : (l.map fun x => ((Sum.inr x.1.1 : Key), blD x.1.2)) = c.map fun p => (Sum.inr p.1, blD p.2) := by rw [← hl1]; simp
        rw [e]
        have e2 : List.length c = l.length := by rw [← hl1]; simp
        rw [e2] at k1 k2 k3 k4
        generalize hM : mergeD [] (c.map fun p => ((Sum.inr p.1 : Key), blD p.2)) = M at k1 k2 k3 k4 ⊢
        refine ⟨_, rfl, ?_⟩
        simp
        refine ⟨by omega, by omega, fun q => ?_, fun q => ?_⟩
        · have nd := k4 (by omega)
          rw [trD_merge c nd] at hM
          subst hM
          refine comp_fmapL (fun m => (c.lookup m).map fun b => litD (m, b)) (by omega) (fun m hmm R R0 R2 h1 h2 h3 => h3 _ ?_) ?_
          · cases hk : List.lookup m c with
            | none =>
              simp [hk]
              exact h2 _ (by simp [hk]) rfl
            | some b =>
              simp [hk]
              exact h1 _ _ (by simp [hk]) rfl
          · rw [ordered_map]
            have lf : lfDs ((ordered names c).map litD) = true := lfDs_of fun d hd => by
              obtain ⟨p, _, rfl⟩ := List.mem_map.mp hd
              rfl
            exact ⟨lf, k2 (by omega)⟩
        · exact k1 (by omega)


end
end K01
end

section
set_option Elab.async false
set_option linter.all false
set_option maxRecDepth 100000
set_option maxHeartbeats 4000000
namespace K01
open PySem PySem.Spec PyProof.Rows L2 DL
theorem bCut {ms mb : TDS} {st : Option Addr} {D : DEnds} {z : Z} {EQ : TEX} (I : Z → Prop) (h : ∀ C : Z → Prop, (∀ z1, I z1 → C z1) → ms st { D with nx := C } z EQ) (k : ∀ z1, I z1 → mb st D z1 EQ) : bCons ms mb st D z EQ := h _ k
/-- any thing as clauses of some names -/
inductive ClsO (names : List Str) : D → List (Option Cl) → Prop
  | non (d : D) (h : Kn d ["list", "tuple"]) : ClsO names d [none]
  | lst (es : List D) (d : D) (os : List (Option Cl)) (h : LT d es) (hp : Paired (ClO names) es os) (hl : os.length ≤ 1000) : ClsO names d os
/-- the first one that is none -/
def firstNone (os : List (Option Cl)) (i : Nat) : Prop := os[i]? = some none ∧ ∀ m, m < i → os[m]? ≠ some none
theorem clO_eqv (names : List Str) (o : Option Cl) : PyData.eqv (pyD (clO names o)) (pyD (.v .non)) = o.isNone := by
  cases o with
  | none => rfl
  | some c => simp [clO, pyD, PyData.eqv]
theorem nn_eqv : PyData.eqv (pyD (.v .non)) (pyD (.v .non)) = true := by simp [pyD, PyData.eqv]
theorem pyDs_map {α : Type} (f : α → D) : ∀ l : List α, pyDs (l.map f) = l.map fun x => pyD (f x)
  | [] => rfl
  | x :: l => by simp [pyDs, pyDs_map f l]
theorem clO_sh {names : List Str} (hx : ∀ x ∈ names, PyData.strOk x = true) (o : Option Cl) : ShD 2 (clO names o) := by
  cases o with
  | none => exact sh_non 2
  | some c => exact sh_cl fun p hp => hx _ (ordered_mem hp)
theorem clOs_sh {names : List Str} (hx : ∀ x ∈ names, PyData.strOk x = true) (os : List (Option Cl)) : ShD 3 (.lst (os.map (clO names))) := sh_lst (sh_map fun o _ => clO_sh hx o)
theorem clsO_somes {names : List Str} {os : List (Option Cl)} (h : none ∉ os) : ∃ cs : List Cl, os = cs.map some := by
  induction os with
  | nil => exact ⟨[], rfl⟩
  | cons o os ih =>
    obtain ⟨cs, e⟩ := ih fun q => h (List.mem_cons_of_mem _ q)
    cases o with
    | none => exact absurd (List.mem_cons_self ..) h
    | some c => exact ⟨c :: cs, by simp [e]⟩
theorem first_of {os : List (Option Cl)} (h : none ∈ os) : ∃ i, firstNone os i := by
  induction os with
  | nil => cases h
  | cons o os ih =>
    cases o with
    | none => exact ⟨0, rfl, nofun⟩
    | some c =>
      obtain ⟨i, h1, h2⟩ := ih (by simpa using h)
      refine ⟨i + 1, by simpa using h1, fun m hm => ?_⟩
      cases m with
      | zero => simp
      | succ m => simpa using h2 m (by omega)
theorem any_none {names : List Str} (os : List (Option Cl)) : (pyDs (os.map (clO names))).any (fun z => PyData.eqv z (pyD (.v .non))) = decide (none ∈ os) := by
  rw [pyDs_map, List.any_map]
  induction os with
  | nil => rfl
  | cons o os ih =>
    rw [List.any_cons, ih]
    have := clO_eqv names o
    simp only [Function.comp, this]
    cases o <;> simp

section
variable {P : Program} {w : World} {K : PySem.W.Frag} {T : List (Addr × Str)} {mg : Str → Option Value} {base : Heap} {a : Ad}
theorem sc_clauses_of : FnScope ["names", "clauses", "clause"] ["names", "clauses"] (defScope (topS 17)) := ⟨rfl, rfl, rfl, by decide +kernel, rfl, by decide +kernel, by decide +kernel⟩
theorem bd_clauses_of : BindsH "clauses_of" (topS 17) ["names", "clauses"] := fun _ _ _ _ _ _ us hl => match us, hl with | [_, _], _ => rfl
def sp_clauses_of : DSpec := fun _ n ds Q _ => ∃ (names : List Str) (d : D) (os : List (Option Cl)), ds = [.lst (names.map strD), d] ∧ ClsO names d os ∧ names.length ≤ 1000 ∧ Q (.fr (.lst (os.map (clO names)))) n
theorem f_clauses_of (B : BF P K mg a) : Fn P w K T mg base 4 "clauses_of" ["names", "clauses"] (sp_clauses_of) := by
  refine mkFn B.clauses_of sc_clauses_of bd_clauses_of ?_ (fun f cdv A outer s H E hr => (db_one (ds_retF (dfr_if (dt_val (de_call (f_is_list B) hr (by decide) (by rfl) passX (da_cons (de_var 1) da_nil))) (dfr_comp (ws := [2]) (by rfl) sc_clauses_of.nd (di_seq (de_var 1)) (blkOk_by (own := [("clause", 2)]) (by rfl)) (by decide) (fun _ _ _ _ _ => (dg_name 2 sc_clauses_of.nd)) (fun _ _ _ _ _ => dts_nil) (fun _ _ _ _ _ => (dfr_call (f_as_clause B) hr (by decide) (by rfl) passL (da_cons (de_var 0) (da_cons (de_var 2) da_nil))))) (dfr_new (dn_lst (da_cons de_non da_nil))))))) ?_
  · intro s n ds Q EQ h
    dsimp only [sp_clauses_of] at h
    obtain ⟨_, _, _, rfl, _⟩ := h; rfl
  · intro s n ds Q EQ h
    dsimp only [sp_clauses_of] at h
    obtain ⟨names, d, os, rfl, ho, hn, h⟩ := h
    cases ho with
    | non d hk =>
      obtain ⟨t, ht, hb⟩ := hk
      simp [-isB]
      exact ⟨t, ht, fun q => absurd q (by rw [hb]; decide), fun _ => h⟩
    | lst es d os hd hp hl =>
      obtain ⟨l, hl1, hl2, hl3⟩ := paired_list hp
      have hll : l.length ≤ 1000 := by rw [← List.length_map (f := (·.2)), hl2]; exact hl
      subst hl1
      subst hl2
      have fin : ∀ d, LT d (l.map (·.1)) → compD (gNm 2) tAll (mCallF sp_as_clause (mCons (mVar 0) (mCons (mVar 2) mNil))) [2] s (fun d z1 => Q (.fr d) z1.n) (l.map (·.1)) [] ⟨[.sh (.lst (names.map strD)), .sh d, .un], n⟩ := fun d hd => by
        refine comp_mapL (fun x => clO names x.2) (by omega) (fun x hx R R2 h3 h5 => ?_) ?_
        · refine h5 _ ?_
          simp
          refine ⟨names, x.1, x.2, rfl, hl3 x hx, hn, fun e => ?_, fun c e => ⟨trivial, ?_⟩⟩
          · rw [e] at h3
            exact ⟨⟨rfl, h3 _ rfl⟩, trivial, h3 _ rfl⟩
          · rw [e] at h3
            exact h3 _ rfl
        · simpa [List.map_map, Function.comp_def] using h
      rcases hd with rfl | rfl
      · simp
        exact fin _ (.inl rfl)
      · simp
        exact fin _ (.inr rfl)

theorem sc_checked_wishes : FnScope ["names", "wishes", "found"] ["names", "wishes"] (defScope (topS 18)) := ⟨rfl, rfl, rfl, by decide +kernel, rfl, by decide +kernel, by decide +kernel⟩
theorem bd_checked_wishes : BindsH "checked_wishes" (topS 18) ["names", "wishes"] := fun _ _ _ _ _ _ us hl => match us, hl with | [_, _], _ => rfl
def sp_checked_wishes (a : Ad) : DSpec := fun _ n ds Q EQ => ∃ (names : List Str) (d : D) (os : List (Option Cl)), ds = [.lst (names.map strD), d] ∧ ClsO names d os ∧ names.length ≤ 1000 ∧ (∀ x ∈ names, PyData.strOk x = true) ∧ (∀ i, firstNone os i → EQ ⟨a.CW, [("index", iD i)]⟩ n) ∧ (∀ cs : List Cl, os = cs.map some → Q (.fr (.lst ((cs.map (ordered names)).map clD))) n)
theorem f_checked_wishes (B : BF P K mg a) : Fn P w K T mg base 5 "checked_wishes" ["names", "wishes"] (sp_checked_wishes a) := by
  refine mkFn B.checked_wishes sc_checked_wishes bd_checked_wishes ?_ (fun f cdv A outer s H E hr => (db_cons (ds_setF 2 sc_checked_wishes.nd (dfr_call (f_clauses_of B) hr (by decide) (by rfl) passX (da_cons (de_var 0) (da_cons (de_var 1) da_nil)))) (db_cons (ds_if (dt_cmp (op_inD (hu65 hr)) p_inDeep de_non (de_var 2) (by rfl)) (db_one (ds_raise (by rfl) B.x_BadWishes hr takeX (da_cons (de_indexD (hu65 hr) (de_var 2) de_non (fun hm h1 h2 => pe_bm PySem.F.plainAttrs_list PySem.F.slot_list_index PySem.F.type_list_index hm h1 (pa_cons h2 pa_nil))) da_nil) (by rfl))) db_nil) (db_one (ds_retF (dfr_var 2)))))) ?_
  · intro s n ds Q EQ h
    dsimp only [sp_checked_wishes] at h
    obtain ⟨_, _, _, rfl, _⟩ := h; rfl
  · intro s n ds Q EQ h
    dsimp only [sp_checked_wishes] at h
    obtain ⟨names, d, os, rfl, ho, hn, hx, h1, h2⟩ := h
    refine bCut (fun z => z = ⟨[.sh (.lst (names.map strD)), .sh d, .bs false (.lst (os.map (clO names)))], n⟩) (fun C hC => ?_) (fun z hz => ?_)
    · simp
      exact ⟨names, d, os, rfl, ho, hn, ⟨trivial, hC _ rfl⟩⟩
    subst hz
    have sh := clOs_sh hx os
    have e2 := any_none (names := names) os
    have pl : plainDs (os.map (clO names)) = true := (sh_all (k := 2) (ds := os.map (clO names)) (sh_map fun o _ => clO_sh hx o)).1
    have shp : SeqAt.shaped (.list (pyDs (os.map (clO names)))) = true := sh.shaped
    by_cases hq : none ∈ os
    · obtain ⟨i, f1, f2⟩ := first_of hq
      have gi : (pyDs (os.map (clO names)))[i]? = some (pyD (.v .non)) := by
        rw [pyDs_map, List.getElem?_map, f1]
        rfl
      have gm : ∀ (m : Nat) (z' : PyData), m < i → (pyDs (os.map (clO names)))[m]? = some z' → PyData.eqv z' (pyD (.v .non)) = false := fun m z' hm hz => by
        rw [pyDs_map, List.getElem?_map] at hz
        cases q : os[m]? with
        | none => rw [q] at hz; cases hz
        | some o =>
          rw [q] at hz
          cases hz
          rw [clO_eqv]
          cases o with
          | none => exact absurd q (f2 m hm)
          | some c => rfl
      simp
      refine ⟨rfl, pl, (sh_non 0).shaped, shp, fun _ _ _ => ⟨pl, rfl, shp, (sh_non 0).shaped, i, _, gi, nn_eqv, gm, h1 i ⟨f1, f2⟩⟩, fun q => absurd (q (pyD (.v .non)) (List.mem_of_getElem? gi)) (by rw [nn_eqv]; decide)⟩
    · obtain ⟨cs, e⟩ := clsO_somes (names := names) hq
      have gn : ∀ x ∈ pyDs (os.map (clO names)), PyData.eqv x (pyD (.v .non)) = false := fun x hx => by
        have e3 : (pyDs (os.map (clO names))).any (fun z => PyData.eqv z (pyD (.v .non))) = false := by rw [e2]; exact decide_eq_false hq
        rw [List.any_eq_false] at e3
        simpa using e3 x hx
      have h3 := h2 cs e
      have e4 : (cs.map (ordered names)).map clD = os.map (clO names) := by rw [e]; simp [Function.comp_def, clO]
      rw [e4] at h3
      simp
      exact ⟨rfl, pl, (sh_non 0).shaped, shp, fun x hx hy => absurd hy (by rw [gn x hx]; decide), fun _ => h3⟩

theorem sc_checked_guards : FnScope ["names", "guards", "found"] ["names", "guards"] (defScope (topS 19)) := ⟨rfl, rfl, rfl, by decide +kernel, rfl, by decide +kernel, by decide +kernel⟩
theorem bd_checked_guards : BindsH "checked_guards" (topS 19) ["names", "guards"] := fun _ _ _ _ _ _ us hl => match us, hl with | [_, _], _ => rfl
def sp_checked_guards (a : Ad) : DSpec := fun _ n ds Q EQ => ∃ (names : List Str) (d : D) (os : List (Option Cl)), ds = [.lst (names.map strD), d] ∧ ClsO names d os ∧ names.length ≤ 1000 ∧ (∀ x ∈ names, PyData.strOk x = true) ∧ (∀ i, firstNone os i → EQ ⟨a.CG, [("index", iD i)]⟩ n) ∧ (∀ cs : List Cl, os = cs.map some → Q (.fr (.lst ((cs.map (ordered names)).map clD))) n)
theorem f_checked_guards (B : BF P K mg a) : Fn P w K T mg base 5 "checked_guards" ["names", "guards"] (sp_checked_guards a) := by
  refine mkFn B.checked_guards sc_checked_guards bd_checked_guards ?_ (fun f cdv A outer s H E hr => (db_cons (ds_setF 2 sc_checked_guards.nd (dfr_call (f_clauses_of B) hr (by decide) (by rfl) passX (da_cons (de_var 0) (da_cons (de_var 1) da_nil)))) (db_cons (ds_if (dt_cmp (op_inD (hu65 hr)) p_inDeep de_non (de_var 2) (by rfl)) (db_one (ds_raise (by rfl) B.x_BadGuards hr takeX (da_cons (de_indexD (hu65 hr) (de_var 2) de_non (fun hm h1 h2 => pe_bm PySem.F.plainAttrs_list PySem.F.slot_list_index PySem.F.type_list_index hm h1 (pa_cons h2 pa_nil))) da_nil) (by rfl))) db_nil) (db_one (ds_retF (dfr_var 2)))))) ?_
  · intro s n ds Q EQ h
    dsimp only [sp_checked_guards] at h
    obtain ⟨_, _, _, rfl, _⟩ := h; rfl
  · intro s n ds Q EQ h
    dsimp only [sp_checked_guards] at h
    obtain ⟨names, d, os, rfl, ho, hn, hx, h1, h2⟩ := h
    refine bCut (fun z => z = ⟨[.sh (.lst (names.map strD)), .sh d, .bs false (.lst (os.map (clO names)))], n⟩) (fun C hC => ?_) (fun z hz => ?_)
    · simp
      exact ⟨names, d, os, rfl, ho, hn, ⟨trivial, hC _ rfl⟩⟩
    subst hz
    have sh := clOs_sh hx os
    have e2 := any_none (names := names) os
    have pl : plainDs (os.map (clO names)) = true := (sh_all (k := 2) (ds := os.map (clO names)) (sh_map fun o _ => clO_sh hx o)).1
    have shp : SeqAt.shaped (.list (pyDs (os.map (clO names)))) = true := sh.shaped
    by_cases hq : none ∈ os
    · obtain ⟨i, f1, f2⟩ := first_of hq
      have gi : (pyDs (os.map (clO names)))[i]? = some (pyD (.v .non)) := by
        rw [pyDs_map, List.getElem?_map, f1]
        rfl
      have gm : ∀ (m : Nat) (z' : PyData), m < i → (pyDs (os.map (clO names)))[m]? = some z' → PyData.eqv z' (pyD (.v .non)) = false := fun m z' hm hz => by
        rw [pyDs_map, List.getElem?_map] at hz
        cases q : os[m]? with
        | none => rw [q] at hz; cases hz
        | some o =>
          rw [q] at hz
          cases hz
          rw [clO_eqv]
          cases o with
          | none => exact absurd q (f2 m hm)
          | some c => rfl
      simp
      refine ⟨rfl, pl, (sh_non 0).shaped, shp, fun _ _ _ => ⟨pl, rfl, shp, (sh_non 0).shaped, i, _, gi, nn_eqv, gm, h1 i ⟨f1, f2⟩⟩, fun q => absurd (q (pyD (.v .non)) (List.mem_of_getElem? gi)) (by rw [nn_eqv]; decide)⟩
    · obtain ⟨cs, e⟩ := clsO_somes (names := names) hq
      have gn : ∀ x ∈ pyDs (os.map (clO names)), PyData.eqv x (pyD (.v .non)) = false := fun x hx => by
        have e3 : (pyDs (os.map (clO names))).any (fun z => PyData.eqv z (pyD (.v .non))) = false := by rw [e2]; exact decide_eq_false hq
        rw [List.any_eq_false] at e3
        simpa using e3 x hx
      have h3 := h2 cs e
      have e4 : (cs.map (ordered names)).map clD = os.map (clO names) := by rw [e]; simp [Function.comp_def, clO]
      rw [e4] at h3
      simp
      exact ⟨rfl, pl, (sh_non 0).shaped, shp, fun x hx hy => absurd hy (by rw [gn x hx]; decide), fun _ => h3⟩


end
end K01
end

section
set_option Elab.async false
set_option linter.all false
set_option maxRecDepth 100000
set_option maxHeartbeats 4000000
namespace K01
open PySem PySem.Spec PyProof.Rows L2 DL

/-- what is no mark behind marks of such names -/
inductive MkB (names : List Str) : D → Prop
  | non (d : D) (h : Kn d ["list", "tuple"]) : MkB names d
  | len (es : List D) (d : D) (h : LT d es) (h2 : es.length ≠ 2) (hl : es.length ≤ 1000) : MkB names d
  | name (x y d : D) (h : LT d [x, y]) (h2 : NameB x false) : MkB names d
  | dup (m : Str) (y d : D) (h : LT d [strD m, y]) (hg : goodName m) (h2 : m ∈ names) : MkB names d
  | hand (m : Str) (y d : D) (h : LT d [strD m, y]) (hg : goodName m) (hn : m ∉ names) (h2 : HandB y false) : MkB names d
/-- any thing as marks: the first index that is wrong, or the marks -/
inductive MksO : D → Sum Nat (List (Str × Hand)) → Prop
  | non (d : D) (h : Kn d ["list", "tuple"]) : MksO d (.inl 0)
  | bad (pre : List (Str × Hand)) (es : List D) (x : D) (post : List D) (d : D) (h : LT d (es ++ x :: post)) (hl : Looses (pre.map markD) es) (nd : (pre.map (·.1)).Nodup) (gd : ∀ p ∈ pre, goodName p.1 ∧ p.2.good = true) (len : pre.length ≤ 1000) (hx : MkB (pre.map (·.1)) x) : MksO d (.inl pre.length)
  | good (ms : List (Str × Hand)) (d : D) (hl : Loose (.lst (ms.map markD)) d) (nd : (ms.map (·.1)).Nodup) (gd : ∀ p ∈ ms, goodName p.1 ∧ p.2.good = true) (len : ms.length ≤ 1000) : MksO d (.inr ms)
abbrev mdD (dn : List (Str × Hand)) : D := .dic (dn.map fun p => ((Sum.inr p.1 : Key), handD p.2))
theorem lk_no {dn : List (Str × Hand)} {m : Str} (h : m ∉ dn.map (·.1)) : lookD (dn.map fun p => ((Sum.inr p.1 : Key), handD p.2)) (.inr m) = none := by
  unfold lookD
  rw [Option.map_eq_none_iff, List.find?_eq_none]
  rintro ⟨k, d⟩ hk e
  obtain ⟨p, hp, e2⟩ := List.mem_map.mp hk
  simp at e e2
  exact h (List.mem_map.mpr ⟨p, hp, by have := e2.1.trans e; cases this; rfl⟩)
theorem lk_yes {dn : List (Str × Hand)} {m : Str} (h : m ∈ dn.map (·.1)) : ∃ v, lookD (dn.map fun p => ((Sum.inr p.1 : Key), handD p.2)) (.inr m) = some v := by
  unfold lookD
  obtain ⟨p, hp, rfl⟩ := List.mem_map.mp h
  cases q : List.find? (fun kv => decide (kv.1 = Sum.inr p.1)) (dn.map fun p => ((Sum.inr p.1 : Key), handD p.2)) with
  | none =>
    rw [List.find?_eq_none] at q
    exact absurd (decide_eq_true rfl) (q _ (List.mem_map.mpr ⟨p, hp, rfl⟩))
  | some x => exact ⟨_, rfl⟩

section
variable {P : Program} {w : World} {K : PySem.W.Frag} {T : List (Addr × Str)} {mg : Str → Option Value} {base : Heap} {a : Ad}
theorem sc_checked_marks : FnScope ["marks", "found", "index", "pair"] ["marks"] (defScope (topS 14)) := ⟨rfl, rfl, rfl, by decide +kernel, rfl, by decide +kernel, by decide +kernel⟩
theorem bd_checked_marks : BindsH "checked_marks" (topS 14) ["marks"] := fun _ _ _ _ _ _ us hl => match us, hl with | [_], _ => rfl
def sp_checked_marks (a : Ad) : DSpec := fun _ n ds Q EQ => ∃ (d : D) (o : Sum Nat (List (Str × Hand))), ds = [d] ∧ MksO d o ∧ (∀ i, o = .inl i → EQ ⟨a.CM, [("index", iD (i : Nat))]⟩ n) ∧ (∀ ms, o = .inr ms → Q (.nw (.lst (ms.map markD))) n)
theorem f_checked_marks (B : BF P K mg a) : Fn P w K T mg base 3 "checked_marks" ["marks"] (sp_checked_marks a) := by
  refine mkFn B.checked_marks sc_checked_marks bd_checked_marks ?_ (fun f cdv A outer s H E hr => (db_cons (ds_if (dt_not (dt_val (de_call (f_is_list B) hr (by decide) (by rfl) passX (da_cons (de_var 0) da_nil)))) (db_one (ds_raise (by rfl) B.x_BadMarks hr takeX (da_cons de_int da_nil) (by rfl))) db_nil) (db_cons (ds_setN 1 sc_checked_marks.nd dn_dic) (db_cons (ds_for ownX (by rfl) (di_enumA (by rfl) B.enumerate (da_cons (de_var 0) da_nil)) (dg_tup2 (by rfl) (dg_name 2 sc_checked_marks.nd) (dg_name 3 sc_checked_marks.nd)) (db_cons (ds_if (DW.t (dw_or (dt_not (dt_val (de_call (f_is_list B) hr (by decide) (by rfl) passX (da_cons (de_var 3) da_nil)))) (dw_or (dt_cmp op_ne p_ne (de_cb call_lenAll (by rfl) B.len (by rfl) p_len (da_cons (de_var 3) da_nil)) de_int (by rfl)) (dw_or (dt_not (dt_val (de_call (f_is_name B) hr (by decide) (by rfl) passX (da_cons (de_ix ix_any p_ixA (de_var 3) de_int) da_nil)))) (dw_or (dt_inD (hu_of hr) (de_ix ix_any p_ixA (de_var 3) de_int) (de_var 1)) (dw_or1 (dt_not (dt_val (de_call (f_is_hand B) hr (by decide) (by rfl) passX (da_cons (de_ix ix_any p_ixA (de_var 3) de_int) da_nil)))))))))) (db_one (ds_raise (by rfl) B.x_BadMarks hr takeX (da_cons (de_var 2) da_nil) (by rfl))) db_nil) (db_one (ds_put 1 (hu_of hr) (de_ix ix_any p_ixA (de_var 3) de_int) (de_if (dt_val (de_is1 (by rfl) B.isinstance (by rfl) B.str (de_ix ix_any p_ixA (de_var 3) de_int))) (de_ix ix_any p_ixA (de_var 3) de_int) (de_tuple (by rfl) B.tuple (da_cons (de_ix ix_any p_ixA (de_var 3) de_int) da_nil))))))) (db_one (ds_retN (dn_items (de_var 1) (fun h => LiI.pe_listItems (by rfl) h (by rfl) B.list (by rfl))))))))) ?_
  · intro s n ds Q EQ h
    dsimp only [sp_checked_marks] at h
    obtain ⟨_, _, rfl, _⟩ := h; rfl
  · intro s n ds Q EQ h
    dsimp only [sp_checked_marks] at h
    obtain ⟨d, o, rfl, ho, h1, h2⟩ := h
    have kinds : (Kn d ["list", "tuple"] ∧ o = .inl 0) ∨ ∃ (ms : List (Str × Hand)) (l : List ((Str × Hand) × D)) (tl : List D), LT d (l.map (·.2) ++ tl) ∧ l.map (·.1) = ms ∧ (∀ x ∈ l, Loose (markD x.1) x.2) ∧ (ms.map (·.1)).Nodup ∧ (∀ p ∈ ms, goodName p.1 ∧ p.2.good = true) ∧ ms.length ≤ 1000 ∧
        ((tl = [] ∧ o = .inr ms) ∨ ∃ x post, tl = x :: post ∧ MkB (ms.map (·.1)) x ∧ o = .inl ms.length) := by
      cases ho with
      | non d hk => exact .inl ⟨hk, rfl⟩
      | bad pre es x post d hd hl nd gd len hx =>
        obtain ⟨l, e1, e2, e3⟩ := looses_pairs hl
        exact .inr ⟨pre, l, x :: post, by rw [e2]; exact hd, e1, e3, nd, gd, len, .inr ⟨x, post, rfl, hx, rfl⟩⟩
      | good ms d hl nd gd len =>
        obtain ⟨es, le, hd⟩ := loose_lst hl
        obtain ⟨l, e1, e2, e3⟩ := looses_pairs le
        exact .inr ⟨ms, l, [], by rw [e2, List.append_nil]; exact hd, e1, e3, nd, gd, len, .inl ⟨rfl, rfl⟩⟩
    rcases kinds with ⟨⟨t, ht, hb⟩, e⟩ | ⟨ms, l, tl, hd, e1, e3, nd, gd, hl, ho⟩
    · simp [-isB]
      exact ⟨t, ht, fun _ => h1 0 e, fun q => absurd q (by rw [hb]; decide)⟩
    have hsq := seq_lt hd
    obtain ⟨t, ht, hb⟩ := ty_lt hd
    simp [-isB]
    refine ⟨t, ht, fun q => absurd q (by rw [hb]; decide), fun _ => ?_⟩
    simp [hsq]
    refine for_ind (fun ds z => ∃ (rest : List ((Str × Hand) × D)) (dn : List (Str × Hand)) (x y : DV), ds = enumD dn.length (rest.map (·.2) ++ tl) ∧ dn ++ rest.map (·.1) = ms ∧ (∀ x ∈ rest, Loose (markD x.1) x.2) ∧ z = ⟨[.sh d, .ow (mdD dn), x, y], n⟩) ?_ ?_ _ _ ⟨l, [], .un, .un, rfl, by simpa using e1, e3, rfl⟩
    · rintro z ⟨rest, dn, x, y, q1, q2, q3, rfl⟩
      cases rest with
      | cons r rest => simp [enumD] at q1
      | nil =>
        rcases ho with ⟨rfl, ho⟩ | ⟨x, post, rfl, _⟩
        · simp at q2
          subst q2
          simp
          refine ⟨by omega, ?_⟩
          rw [show itemsD (dn.map fun p => ((Sum.inr p.1 : Key), handD p.2)) = dn.map markD from by simp [itemsD, Function.comp_def]]
          exact h2 _ ho
        · simp [enumD] at q1
    · rintro d1 ds z C hC ⟨rest, dn, x, y, q1, q2, q3, rfl⟩
      cases rest with
      | nil =>
        rcases ho with ⟨rfl, ho⟩ | ⟨x, post, rfl, hx, ho⟩
        · simp [enumD] at q1
        · simp [enumD] at q1
          obtain ⟨rfl, rfl⟩ := q1
          simp at q2
          subst q2
          have h3 := h1 _ ho
          cases hx with
          | non x hk =>
            obtain ⟨t, ht, hb⟩ := hk
            simp [-isB]
            exact ⟨t, ht, fun _ => h3, fun q => absurd q (by rw [hb]; decide)⟩
          | len es x hx h2 hl =>
            obtain ⟨t, ht, hb⟩ := ty_lt hx
            have hln : lenD x = some es.length := by rcases hx with rfl | rfl <;> rfl
            simp [-isB, ht, hln]
            exact ⟨fun _ => h3, fun _ => ⟨by omega, .inr ⟨by omega, h3⟩⟩⟩
          | name x y d hx hn =>
            rcases hx with rfl | rfl
            all_goals
              simp [-handD]
              exact ⟨_, _, rfl, hn, .inl ⟨rfl, h3⟩⟩
          | dup m y d hx hg hm =>
            obtain ⟨v, hv⟩ := lk_yes hm
            rcases hx with rfl | rfl
            all_goals
              simp [hv, -handD]
              exact ⟨_, _, rfl, .good _ hg, .inr ⟨rfl, h3⟩⟩
          | hand m y d hx hg hm hn =>
            have hv := lk_no hm
            rcases hx with rfl | rfl
            all_goals
              simp [hv, -handD]
              exact ⟨_, _, rfl, .good _ hg, .inr ⟨rfl, _, _, rfl, hn, .inl ⟨rfl, h3⟩⟩⟩
      | cons r rest =>
        simp [enumD] at q1
        obtain ⟨rfl, rfl⟩ := q1
        obtain ⟨m, pd⟩ := r
        have lp : Loose (markD m) pd := q3 (m, pd) (List.mem_cons_self ..)
        obtain ⟨ps, lps, hpd⟩ := loose_tup lp
        cases lps with
        | cons l1 t1 =>
          cases t1 with
          | cons l2 t2 =>
            cases t2
            cases l1
            rename_i hd2
            have hm : m ∈ ms := by rw [← q2]; simp
            obtain ⟨g1, g2⟩ := gd m hm
            have hnew : (Sum.inr m.1 : Key) ∉ (dn.map fun p => ((Sum.inr p.1 : Key), handD p.2)).map (·.1) := fun q => by
              obtain ⟨z, hz, e⟩ := List.mem_map.mp q
              obtain ⟨p, hp, rfl⟩ := List.mem_map.mp hz
              have e : p.1 = m.1 := Sum.inr.inj e
              rw [← q2, List.map_append, List.nodup_append] at nd
              exact nd.2.2 p.1 (List.mem_map.mpr ⟨p, hp, rfl⟩) m.1 (by simp) e
            have hmn : m.1 ∉ dn.map (·.1) := fun q => by
              obtain ⟨p, hp, e⟩ := List.mem_map.mp q
              rw [← q2, List.map_append, List.nodup_append] at nd
              exact nd.2.2 p.1 (List.mem_map.mpr ⟨p, hp, rfl⟩) m.1 (by simp) e
            have hlen : dn.length < 1000000 := by
              have := congrArg List.length q2
              simp at this
              omega
            have fin : ∀ x y, C ⟨[.sh d, .ow (.dic (putD (dn.map fun p => ((Sum.inr p.1 : Key), handD p.2)) (.inr m.1) (handD m.2))), x, y], n⟩ := fun x y => by
              rw [putD_new hnew]
              refine hC _ ⟨rest, dn ++ [m], x, y, by simp, by simpa using q2, fun z hz => q3 z (List.mem_cons_of_mem _ hz), by simp⟩
            have hv := lk_no hmn
            obtain ⟨nm, hand⟩ := m
            rcases hpd with rfl | rfl
            all_goals
              simp [hv, -handD]
              refine ⟨_, _, rfl, .good _ g1, .inr ⟨rfl, _, _, rfl, .good hand _ l2 g2, .inr ⟨rfl, ?_⟩⟩⟩
              cases hand with
              | we =>
                cases l2
                simp [-handD]
                exact ⟨hlen, fin _ _⟩
              | they =>
                cases l2
                simp [-handD]
                exact ⟨hlen, fin _ _⟩
              | ch i j =>
                obtain ⟨es2, le2, hd3⟩ := loose_tup l2
                cases le2 with
                | cons a1 b1 =>
                  cases b1 with
                  | cons a2 b2 =>
                    cases b2
                    cases a1
                    cases a2
                    rcases hd3 with rfl | rfl
                    · simp [-handD]
                      exact ⟨hlen, fin _ _⟩
                    · simp [-handD]
                      exact ⟨hlen, fin _ _⟩


end
end K01
end

section
set_option Elab.async false
set_option linter.all false
set_option maxRecDepth 100000
set_option maxHeartbeats 4000000
namespace K01
open PySem PySem.Spec PyProof.Rows L2 DL

structure BQ (P : Program) (K : PySem.W.Frag) (mg : Str → Option Value) (a : Ad) : Prop extends BF P K mg a where
  q_init : InitAt K mg "Question" a.C "Question.__init__" (inClass (topS 20) 0)
  m_marks : MethAt K a.C "marks" "Question.marks" (inClass (topS 20) 1)
  m_wishes : MethAt K a.C "wishes" "Question.wishes" (inClass (topS 20) 2)
  m_guards : MethAt K a.C "guards" "Question.guards" (inClass (topS 20) 3)
  m_parts : MethAt K a.C "parts" "Question.parts" (inClass (topS 20) 4)
  m_eq : MethAt K a.C "__eq__" "Question.__eq__" (inClass (topS 20) 5)
def mkQ (ms : List (Str × Hand)) (ws gs : List Cl) : Qn := ⟨ms, ws.map (ordered (ms.map (·.1))), gs.map (ordered (ms.map (·.1)))⟩
abbrev fieldsD (q : Qn) : List (Str × D) := [("own_marks", .lst (q.marks.map markD)), ("own_names", .lst (q.names.map strD)), ("own_wishes", .lst (q.wishes.map clD)), ("own_guards", .lst (q.guards.map clD))]
theorem mk_lf (ms : List (Str × Hand)) : lfDs (ms.map markD) = true := lfDs_of fun d hd => by
  obtain ⟨⟨m, h⟩, _, rfl⟩ := List.mem_map.mp hd
  cases h <;> rfl
theorem noIs_of : ∀ {ds : List D}, (∀ d ∈ ds, noI d = true) → noIs ds = true
  | [], _ => rfl
  | d :: ds, h => by simp [h d (List.mem_cons_self ..), noIs_of fun e he => h e (List.mem_cons_of_mem _ he)]
theorem no_marks (ms : List (Str × Hand)) : noI (.lst (ms.map markD)) = true := by
  rw [noI]
  refine noIs_of fun d hd => ?_
  obtain ⟨⟨m, h⟩, _, rfl⟩ := List.mem_map.mp hd
  cases h <;> rfl
theorem no_names (ms : List Str) : noI (.lst (ms.map strD)) = true := by
  rw [noI]
  refine noIs_of fun d hd => ?_
  obtain ⟨m, _, rfl⟩ := List.mem_map.mp hd
  rfl
theorem no_cls (cs : List Cl) : noI (.lst (cs.map clD)) = true := by
  rw [noI]
  refine noIs_of fun d hd => ?_
  obtain ⟨c, _, rfl⟩ := List.mem_map.mp hd
  show noIs (c.map litD) = true
  refine noIs_of fun d hd => ?_
  obtain ⟨p, _, rfl⟩ := List.mem_map.mp hd
  rfl
theorem lf_names (ms : List Str) : lfDs (ms.map strD) = true := lfDs_of fun d hd => by
  obtain ⟨m, _, rfl⟩ := List.mem_map.mp hd
  rfl

section
variable {P : Program} {w : World} {K : PySem.W.Frag} {T : List (Addr × Str)} {mg : Str → Option Value} {base : Heap} {a : Ad}
theorem sc_Question___init__ : FnScope ["self", "marks", "wishes", "guards", "name", "hand"] ["self", "marks", "wishes", "guards"] (defScope (inClass (topS 20) 0)) := ⟨rfl, rfl, rfl, by decide +kernel, rfl, by decide +kernel, by decide +kernel⟩
theorem bd_Question___init__ : BindsQ "__init__" "Question.__init__" (inClass (topS 20) 0) ["self", "marks", "wishes", "guards"] := fun _ _ _ _ _ _ us hl => match us, hl with | [_, _, _, _], _ => rfl
def sp_Q_init (a : Ad) : ISpec := fun _ n ds Q EQ => ∃ (d1 d2 d3 : D) (o1 : Sum Nat (List (Str × Hand))), ds = [d1, d2, d3] ∧ MksO d1 o1 ∧ (∀ i, o1 = .inl i → EQ ⟨a.CM, [("index", iD (i : Nat))]⟩ n) ∧ ∀ ms, o1 = .inr ms →
  ∃ o2, ClsO (ms.map (·.1)) d2 o2 ∧ (∀ i, firstNone o2 i → EQ ⟨a.CW, [("index", iD (i : Nat))]⟩ n) ∧ ∀ ws : List Cl, o2 = ws.map some →
  ∃ o3, ClsO (ms.map (·.1)) d3 o3 ∧ (∀ i, firstNone o3 i → EQ ⟨a.CG, [("index", iD (i : Nat))]⟩ n) ∧ ∀ gs : List Cl, o3 = gs.map some → Q (fieldsD (mkQ ms ws gs)) n
theorem f_Q_init (B : BQ P K mg a) : ClF P w K T mg base 6 "Question" a.C ["self", "marks", "wishes", "guards"] (sp_Q_init a) := by
  refine mkInitF B.q_init sc_Question___init__ bd_Question___init__ ?_ (fun f cdv A outer s H E hr => (in_cons B.Question.cl B.na_own_marks rfl (dfr_call (f_checked_marks B.toBF) hr (by decide) (by rfl) passX (da_cons (de_var 1) da_nil)) (in_cons B.Question.cl B.na_own_names rfl (dfr_new (dn_comp (ws := [4, 5]) (by rfl) sc_Question___init__.nd (di_seq (de_fld B.Question.cl B.na_own_marks (de_var 0))) (blkOk_by (own := [("name", 4), ("hand", 5)]) (by rfl)) (by decide) (fun _ _ _ _ _ => (dg_tup2 (by rfl) (dg_name 4 sc_Question___init__.nd) (dg_name 5 sc_Question___init__.nd))) (fun _ _ _ _ _ => dts_nil) (fun _ _ _ _ _ => (de_var 4)))) (in_cons B.Question.cl B.na_own_wishes rfl (dfr_call (f_checked_wishes B.toBF) hr (by decide) (by rfl) passX (da_cons (de_fld B.Question.cl B.na_own_names (de_var 0)) (da_cons (de_var 2) da_nil))) (in_cons B.Question.cl B.na_own_guards rfl (dfr_call (f_checked_guards B.toBF) hr (by decide) (by rfl) passX (da_cons (de_fld B.Question.cl B.na_own_names (de_var 0)) (da_cons (de_var 3) da_nil))) in_nil))))) ?_
  · intro s n ds Q EQ h
    dsimp only [sp_Q_init] at h
    obtain ⟨_, _, _, _, rfl, _⟩ := h; rfl
  · intro s n ds Q EQ h
    dsimp only [sp_Q_init] at h
    obtain ⟨d1, d2, d3, o1, rfl, m1, e1, h⟩ := h
    have hms : ∀ ms, o1 = .inr ms → ms.length ≤ 1000 ∧ ∀ p ∈ ms, goodName p.1 ∧ p.2.good = true := fun ms e => by
      cases m1 <;> cases e
      exact ⟨by assumption, by assumption⟩
    refine ⟨d1, o1, rfl, m1, e1, fun ms ho => ?_⟩
    obtain ⟨hl, hg⟩ := hms ms ho
    obtain ⟨o2, m2, e2, h⟩ := h ms ho
    refine ⟨mk_lf ms, no_marks ms, rfl, by simp, ?_⟩
    simp
    refine comp_mapL (fun p => strD p.1) (by omega) (fun p hp R R2 h1 h2 => ?_) ?_
    · refine ⟨(strD p.1, handD p.2), by simp, h2 _ ?_⟩
      exact h1 _ rfl
    have sok : ∀ x ∈ ms.map (·.1), PyData.strOk x = true := fun x hx => by
      obtain ⟨p, hp, rfl⟩ := List.mem_map.mp hx
      exact good_ok (hg p hp).1
    have en : (ms.map fun p => strD p.1) = (ms.map (·.1)).map strD := by simp
    rw [en]
    have lfn := lf_names (ms.map (·.1))
    have non := no_names (ms.map (·.1))
    rw [noI] at non
    refine ⟨lfn, non, by decide, ?_⟩
    simp [-List.map_map]
    refine ⟨_, rfl, _, _, o2, rfl, m2, by simpa using hl, sok, e2, fun ws hw => ?_⟩
    obtain ⟨o3, m3, e3, h⟩ := h ws hw
    have now := no_cls (ws.map (ordered (ms.map (·.1))))
    rw [noI] at now
    refine ⟨trivial, now, ⟨by decide, by decide⟩, ?_⟩
    refine ⟨_, rfl, _, _, o3, rfl, m3, by simpa using hl, sok, e3, fun gs hgs => ?_⟩
    have nog := no_cls (gs.map (ordered (ms.map (·.1))))
    rw [noI] at nog
    exact ⟨trivial, nog, ⟨by decide, by decide, by decide⟩, h gs hgs⟩

theorem sc_Question_marks : FnScope ["self"] ["self"] (defScope (inClass (topS 20) 1)) := ⟨rfl, rfl, rfl, by decide +kernel, rfl, by decide +kernel, by decide +kernel⟩
theorem bd_Question_marks : BindsQ "marks" "Question.marks" (inClass (topS 20) 1) ["self"] := fun _ _ _ _ _ _ us hl => match us, hl with | [_], _ => rfl
def sp_Q_marks (a : Ad) : DSpec := fun _ n ds Q _ => ∃ q : Qn, ds = [qD a.C q] ∧ q.Ok ∧ Q (.nw (.lst (q.marks.map markD))) n
theorem f_Q_marks (B : BQ P K mg a) : MethP P w K T mg base 1 a.C "marks" ["self"] (sp_Q_marks a) := by
  refine mkMeth B.m_marks sc_Question_marks bd_Question_marks ?_ (fun f cdv A outer s H E hr => (db_one (ds_retN (dn_ct (call_list_of) (by rfl) B.list (by rfl) p_list (da_cons (de_fld B.Question.cl B.na_own_marks (de_var 0)) da_nil))))) ?_
  · intro s n ds Q EQ h
    dsimp only [sp_Q_marks] at h
    obtain ⟨_, rfl, _⟩ := h; rfl
  · intro s n ds Q EQ h
    dsimp only [sp_Q_marks] at h
    obtain ⟨q, rfl, ok, h⟩ := h
    simp
    exact h

theorem sc_Question_wishes : FnScope ["self", "clause"] ["self"] (defScope (inClass (topS 20) 2)) := ⟨rfl, rfl, rfl, by decide +kernel, rfl, by decide +kernel, by decide +kernel⟩
theorem bd_Question_wishes : BindsQ "wishes" "Question.wishes" (inClass (topS 20) 2) ["self"] := fun _ _ _ _ _ _ us hl => match us, hl with | [_], _ => rfl
def sp_Q_wishes (a : Ad) : DSpec := fun _ n ds Q _ => ∃ q : Qn, ds = [qD a.C q] ∧ q.Ok ∧ Q (.fr (.lst (q.wishes.map clD))) n
theorem f_Q_wishes (B : BQ P K mg a) : MethP P w K T mg base 1 a.C "wishes" ["self"] (sp_Q_wishes a) := by
  refine mkMeth B.m_wishes sc_Question_wishes bd_Question_wishes ?_ (fun f cdv A outer s H E hr => (db_one (ds_retF (dfr_comp (ws := [1]) (by rfl) sc_Question_wishes.nd (di_seq (de_fld B.Question.cl B.na_own_wishes (de_var 0))) (blkOk_by (own := [("clause", 1)]) (by rfl)) (by decide) (fun _ _ _ _ _ => (dg_name 1 sc_Question_wishes.nd)) (fun _ _ _ _ _ => dts_nil) (fun _ _ _ _ _ => (dfr_new (dn_ct (call_list_of) (by rfl) B.list (by rfl) p_list (da_cons (de_var 1) da_nil)))))))) ?_
  · intro s n ds Q EQ h
    dsimp only [sp_Q_wishes] at h
    obtain ⟨_, rfl, _⟩ := h; rfl
  · intro s n ds Q EQ h
    dsimp only [sp_Q_wishes] at h
    obtain ⟨q, rfl, ok, h⟩ := h
    simp
    refine comp_mapL (f := clD) (by have := ok.wl; omega) (fun c hc R R2 h1 h2 => ?_) (by simpa using h)
    simp
    refine h2 _ ?_
    simp
    refine ⟨lfDs_of fun d hd => ?_, h1 _ rfl⟩
    obtain ⟨p, _, rfl⟩ := List.mem_map.mp hd
    rfl

theorem sc_Question_guards : FnScope ["self", "clause"] ["self"] (defScope (inClass (topS 20) 3)) := ⟨rfl, rfl, rfl, by decide +kernel, rfl, by decide +kernel, by decide +kernel⟩
theorem bd_Question_guards : BindsQ "guards" "Question.guards" (inClass (topS 20) 3) ["self"] := fun _ _ _ _ _ _ us hl => match us, hl with | [_], _ => rfl
def sp_Q_guards (a : Ad) : DSpec := fun _ n ds Q _ => ∃ q : Qn, ds = [qD a.C q] ∧ q.Ok ∧ Q (.fr (.lst (q.guards.map clD))) n
theorem f_Q_guards (B : BQ P K mg a) : MethP P w K T mg base 1 a.C "guards" ["self"] (sp_Q_guards a) := by
  refine mkMeth B.m_guards sc_Question_guards bd_Question_guards ?_ (fun f cdv A outer s H E hr => (db_one (ds_retF (dfr_comp (ws := [1]) (by rfl) sc_Question_guards.nd (di_seq (de_fld B.Question.cl B.na_own_guards (de_var 0))) (blkOk_by (own := [("clause", 1)]) (by rfl)) (by decide) (fun _ _ _ _ _ => (dg_name 1 sc_Question_guards.nd)) (fun _ _ _ _ _ => dts_nil) (fun _ _ _ _ _ => (dfr_new (dn_ct (call_list_of) (by rfl) B.list (by rfl) p_list (da_cons (de_var 1) da_nil)))))))) ?_
  · intro s n ds Q EQ h
    dsimp only [sp_Q_guards] at h
    obtain ⟨_, rfl, _⟩ := h; rfl
  · intro s n ds Q EQ h
    dsimp only [sp_Q_guards] at h
    obtain ⟨q, rfl, ok, h⟩ := h
    simp
    refine comp_mapL (f := clD) (by have := ok.gl; omega) (fun c hc R R2 h1 h2 => ?_) (by simpa using h)
    simp
    refine h2 _ ?_
    simp
    refine ⟨lfDs_of fun d hd => ?_, h1 _ rfl⟩
    obtain ⟨p, _, rfl⟩ := List.mem_map.mp hd
    rfl


end
end K01
end

section
set_option Elab.async false
set_option linter.all false
set_option maxRecDepth 100000
set_option maxHeartbeats 4000000
/-! DL39: != of instances with an own == ; an instance == a text. -/
namespace DL
open PySem PySem.Spec PyProof.Rows L2
def Cx.in1 (X : Cx) : Cx := { X with A := X.A.in1 }
theorem inv_in1 {X : Cx} {pins : List (Addr × Obj)} {σ : Sg} {H : Hp} {s : Shared} (I : Inv X pins σ H s) : Inv (Cx.in1 X) pins σ H s :=
  ⟨⟨I.ok.mod, I.ok.kind, I.ok.glob, I.ok.blt, I.ok.above, I.ok.inj, I.ok.has, I.ok.cab, I.ok.hd, I.ok.frames, I.ok.stk, I.ok.exf, I.ok.bs, I.ok.bsz, I.ok.noex, I.ok.exfs, I.ok.funs, I.ok.frf⟩, I.os, I.bare, I.base, I.loc, I.cell, I.free, I.freeC, I.pin, I.hok, I.len⟩
theorem inv_out1 {X : Cx} {pins : List (Addr × Obj)} {σ : Sg} {H : Hp} {s : Shared} (ok : X.Ok) (I : Inv (Cx.in1 X) pins σ H s) : Inv X pins σ H s :=
  ⟨ok, I.os, I.bare, I.base, I.loc, I.cell, I.free, I.freeC, I.pin, I.hok, I.len⟩
theorem run_in1 {X : Cx} {CX : CXT} {E : XK} {k : Nat} {f : Addr} {fd : FuncData} {ps : List Str} {sp : Sp} {pins : List (Addr × Obj)} {σ : Sg} {H : Hp} {s : Shared} {Q : VK} {us : List Value} {vs : List V} (F : FnOk X.prog X.w X.K X.mg X.base CX k f fd ps sp) (hr : Room (k + 1) X.A) (hb : Binds X.K fd ps []) (hx : Passes CX X E)
    (I : Inv X pins σ H s) (r : Vals vs us) (h : sp vs H Q E) : wpAny (model X.prog X.w) X.A.in1 (call (.ref f) us) (EP X pins σ Q) X.xe s := by
  have hx' : Passes CX (Cx.in1 X) E := fun pins σ H s e s' I' q => hx pins σ H s e s' (inv_out1 I.ok I') q
  have := run_fn (X := Cx.in1 X) (us := us) (vs := vs) (dvs := []) (Q := Q) F hr.in1 hb .nil hx' (inv_in1 I) r (by simpa using h)
  exact wpAny_mono this (fun v s' q => by
    obtain ⟨z, H', I', rz, hz⟩ := q
    exact ⟨z, H', inv_out1 I.ok I', rz, hz⟩) fun _ _ z => z
theorem csib2 {M : Model} {A : Around} {E : Value → Shared → Prop} {s : Shared} {self : Value} {name : PySem.Str} {id : String} {args : List Value} {Q : Option Value → Shared → Prop} (sp : PySem.W.Looks M s.heap (specialOf self name) (some (.builtin id))) (hb : bindSpecial (.builtin id) self = pure (.builtin id, [self]))
    (hc : wpAny M A (call (.builtin id) ([self] ++ args)) (fun v => Q (some v)) E s) : wpAny M A (callSpecialIfBound? self name args) Q E s := by
  simp only [callSpecialIfBound?, bindSpecialIfBound?]
  refine wpAny_holding (wpAny_bind (wpAny_bind (sp.here ?_)))
  refine wpAny_bind (wpAny_askSetting (wpAny_ite ?_))
  have fin : wpAny M A (call (.builtin id) ([self] ++ args) >>= fun v => pure (some v)) Q E s := wpAny_bind (wpAny_mono hc (fun v s' h' => wpAny_pure h') fun _ _ h' => h')
  split
  · exact wpAny_bind (wpAny_of_eq hb (wpAny_pure (by exact fin)))
  · exact wpAny_tryCatch (wpAny_bind (wpAny_of_eq hb (wpAny_pure (by exact fin))))
section
variable {T : List (Addr × Str)} {X : Cx} {E : XK} {e a b : Expr} {pos p : Pos} {ma mb : TDE} {k j : Nat} {x y : Str} {ps : List Str} {sp : DSpec}
def rNeM (C : Addr) (sp : Sp) (E : XK) : R2 := fun x y H Q => ∃ a b dx dy fs gs, x = .ref a ∧ y = .ref b ∧ H a = some (.ins C dx fs) ∧ H b = some (.ins C dy gs) ∧ sp [x, y] H (fun v H' => ∃ t, v = .bl t ∧ Q (.bl (!t)) H') E
theorem op_neM {CX : CXT} {C f : Addr} {fd : FuncData} {sp : Sp} (F : FnOk X.prog X.w X.K X.mg X.base CX k f fd ps sp) (hs : PySem.W.findIn X.K (.ref C) "__eq__" = some (some (.ref f))) (hf : PySem.W.isFn X.K (.ref f) = true) (hb : Binds X.K fd ps []) (hx : Passes CX X E) (hr : Room (k + 1) X.A)
    (hne : PySem.W.findIn X.K (.ref C) "__ne__" = some (some (.builtin "object.__ne__"))) (hm : PySem.W.mroIn X.K C (.type "object") = some true) : OpR X (compareOp .NotEq) (rNeM C sp E) := by
  intro pins s σ H x y v u Q I rx ry h
  obtain ⟨a, b, dx, dy, fs, gs, rfl, rfl, ha, hb', hsp⟩ := h
  cases rx
  cases ry
  obtain ⟨mA, J, _⟩ := ins_get I.hok ha
  obtain ⟨mB, J', _⟩ := ins_get I.hok hb'
  obtain ⟨od, J, _⟩ := J.look
  obtain ⟨od', J', _⟩ := J'.look
  obtain ⟨m, hF⟩ := I.fr
  have XX := I.ok.mod.kin.keeps hF.keep
  have hu : X.A.units < cLine := hr.units0
  have hu1 : X.A.in1.units < cLine := hr.in1.units0
  have hcall : wpAny (model X.prog X.w) X.A.in1 (call (.ref f) [.ref a, .ref b]) (EP X pins σ fun v H' => ∃ t, v = .bl t ∧ Q (.bl (!t)) H') X.xe s := run_in1 (us := [.ref a, .ref b]) (vs := [.ref a, .ref b]) F hr hb hx I (.cons rfl (.cons rfl .nil)) hsp
  have one : wpAny (model X.prog X.w) X.A (tryCompare (.ref a) "__ne__" (.ref b)) (fun r s' => ∃ v, r = some v ∧ EP X pins σ Q v s') X.xe s := by
    unfold tryCompare
    refine wpAny_bind (csib2 (id := "object.__ne__") (by unfold specialOf; exact J.type.andThen (PySem.W.looks_findIn XX hne)) (PySem.F.cmp_object.ne.bind _) ?_)
    refine wpAny_call (codeAny_call_builtin PySem.F.cmp_object.ne.plain PySem.F.cmpEntry_ne (PySem.W.check_slot PySem.F.cmpKind_ne PySem.F.cmpSplit_ne (J.type.andThen (PySem.W.looks_mroIn XX hm)) (PySem.F.cmpArgs_ne _ _) ?_))
    show wpAny (model X.prog X.w) X.A.in1 (Builtin.«object.__ne__» ⟨[.ref a, .ref b], []⟩) _ _ _
    unfold Builtin.«object.__ne__»
    refine wpAny_bind (m := slotArgs "__ne__" 1 _) (wpAny_pure ?_)
    refine wpAny_bind (wpAny_cRoomFor hu1 ?_)
    refine wpAny_bind (PySem.W.ifBound_K XX J hs hf (wpAny_mono hcall (fun v s' q => ?_) fun _ _ z => z))
    obtain ⟨z, H', I', rz, t, rfl, hq⟩ := q
    have e : v = .bool t := rz
    subst e
    refine wpAny_bind (wpAny_pure ?_)
    exact wpAny_pure (wpAny_pure ⟨_, rfl, .bl (!t), H', I', rfl, hq⟩)
  show wpAny (model X.prog X.w) X.A (richCompare .NotEq (.ref a) (.ref b)) _ _ _
  unfold richCompare
  simp only [oneThing_ref]
  refine wpAny_holding (wpAny_bind (wpAny_cRoomFor hu ?_))
  refine wpAny_bind (J.type.here (wpAny_bind (J'.type.here ?_)))
  simp only [bne_self_eq_false, Bool.false_eq_true, if_false]
  refine wpAny_bind (wpAny_pure ?_)
  simp only [Bool.false_eq_true, if_false]
  refine wpAny_bind (wpAny_mono one (fun r s' z => ?_) fun _ _ e => e)
  obtain ⟨v, rfl, hq⟩ := z
  exact wpAny_pure hq
@[reducible, simp] def mNeM (C : Addr) (sp : DSpec) (ma mb : TDE) : TDE := fun st z Q EQ => ma st z (fun d z1 => mb st z1 (fun e z2 => ∃ fs gs, d = .ins C fs ∧ e = .ins C gs ∧ sp st z2.n [d, e] (fun r n' => ∃ t, r = .sh (.v (.bl t)) ∧ Q (.v (.bl (!t))) { z2 with n := n' }) EQ) EQ) EQ
theorem de_neM {C : Addr} (c : MethP X.prog X.w X.K T X.mg X.base k C "__eq__" ps sp) (hr : Room j X.A) (hk : k + 1 ≤ j) (hx : Passes (L2.CX X.prog X.w) X E) (hne : PySem.W.findIn X.K (.ref C) "__ne__" = some (some (.builtin "object.__ne__"))) (hmr : PySem.W.mroIn X.K C (.type "object") = some true)
    (ha : DE T X E a ma) (hb : DE T X E b mb) (hm : behindInMarks .NotEq b = false) : DE T X E (.Compare a [.NotEq] [b] pos) (mNeM C sp ma mb) := by
  obtain ⟨f, M, c⟩ := c
  obtain ⟨fd, F, hbn⟩ := c.ex
  obtain ⟨ta, pa, qa⟩ := ha.ex
  obtain ⟨tb, pb, qb⟩ := hb.ex
  refine ⟨⟨_, pe_cmpR (op_neM (C := C) F M.at_ M.fn hbn hx (hr.mono hk) hne hmr) pa pb hm, fun st F0 H0 F H σ z Q EQ R r er h k => ?_⟩⟩
  refine qa st F0 H0 F H σ z _ EQ _ r er h fun v1 H1 F1 d1 z1 s1 r1 p1 h1 => ?_
  refine qb st F0 H0 F1 H1 σ z1 _ EQ _ r1 er h1 fun v2 H2 F2 d2 z2 s2 r2 p2 h2 => ?_
  obtain ⟨fs, gs, rfl, rfl, h3⟩ := h2
  have p1 := p1.mono s2
  cases p1 with
  | ins f1 k1 rr1 =>
    cases p2 with
    | ins f2 k2 rr2 =>
      refine ⟨_, _, _, _, _, _, rfl, rfl, r2.ok.sub _ _ f1, r2.ok.sub _ _ f2, ?_⟩
      have := call_sp (vs := [_, _]) (R := fun v H' => ∃ t, v = .bl t ∧ R (.bl (!t)) H') r2 er (.cons (.ins f1 k1 rr1) (.cons (.ins f2 k2 rr2) .nil)) h3 fun v H3 F3 rr n' ok q qd => by
        obtain ⟨t, rfl, qd⟩ := qd
        obtain ⟨F4, s4, r4, rp⟩ := res_sh r2 ok q
        cases rp
        exact ⟨t, rfl, k _ H3 F4 _ _ ((s1.trans s2).trans s4) r4 (.v _) qd⟩
      simpa using this
def rEqS (C : Addr) (sp : Sp) (E : XK) : R2 := fun x y H Q => ∃ a dx fs t, x = .ref a ∧ y = .str t ∧ H a = some (.ins C dx fs) ∧ sp [x, y] H Q E
theorem op_eqS {CX : CXT} {C f : Addr} {fd : FuncData} {sp : Sp} (F : FnOk X.prog X.w X.K X.mg X.base CX k f fd ps sp) (hs : PySem.W.findIn X.K (.ref C) "__eq__" = some (some (.ref f))) (hf : PySem.W.isFn X.K (.ref f) = true) (hb : Binds X.K fd ps []) (hx : Passes CX X E) (hr : Room k X.A) (hn : PySem.W.notFirst X.K C (.type "str") = true) : OpR X (compareOp .Eq) (rEqS C sp E) := by
  intro pins s σ H x y v u Q I rx ry h
  obtain ⟨a, dx, fs, t, rfl, rfl, ha, hsp⟩ := h
  cases rx
  obtain ⟨tag, e⟩ := ry
  have e : u = .str t tag := e
  subst e
  obtain ⟨mA, J, _⟩ := ins_get I.hok ha
  obtain ⟨od, J, _⟩ := J.look
  obtain ⟨m, hF⟩ := I.fr
  refine PySem.W.cmp_K (op := .Eq) (tb := .type "str") hr.units0 hF I.ok.mod.kin J (PySem.W.Looks.of_pure rfl) hn hs hf ?_
  refine wpAny_mono (run_fn (us := [.ref a, .str t tag]) (vs := [.ref a, .str t]) (dvs := []) F hr hb .nil hx I (.cons rfl (.cons ⟨_, rfl⟩ .nil)) (by simpa using hsp)) (fun r s' q => ?_) fun _ _ z => z
  obtain ⟨z, H', I', rz, hz⟩ := id q
  cases z <;> (unfold L2.RelV at rz; first | (subst rz; exact q) | (obtain ⟨_, rz⟩ := rz; subst rz; exact q))
@[reducible, simp] def mEqS (C : Addr) (sp : DSpec) (ma mb : TDE) : TDE := fun st z Q EQ => ma st z (fun d z1 => mb st z1 (fun e z2 => ∃ fs t, d = .ins C fs ∧ e = .v (.str t) ∧ sp st z2.n [d, e] (fun r n' => Q r.d { z2 with n := n' }) EQ) EQ) EQ
theorem de_eqS {C : Addr} (c : MethP X.prog X.w X.K T X.mg X.base k C "__eq__" ps sp) (hr : Room j X.A) (hk : k ≤ j) (hx : Passes (L2.CX X.prog X.w) X E) (hn : PySem.W.notFirst X.K C (.type "str") = true) (ha : DE T X E a ma) (hb : DE T X E b mb) (hm : behindInMarks .Eq b = false) : DE T X E (.Compare a [.Eq] [b] pos) (mEqS C sp ma mb) := by
  obtain ⟨f, M, c⟩ := c
  obtain ⟨fd, F, hbn⟩ := c.ex
  obtain ⟨ta, pa, qa⟩ := ha.ex
  obtain ⟨tb, pb, qb⟩ := hb.ex
  refine ⟨⟨_, pe_cmpR (op_eqS (C := C) F M.at_ M.fn hbn hx (hr.mono hk) hn) pa pb hm, fun st F0 H0 F H σ z Q EQ R r er h k => ?_⟩⟩
  refine qa st F0 H0 F H σ z _ EQ _ r er h fun v1 H1 F1 d1 z1 s1 r1 p1 h1 => ?_
  refine qb st F0 H0 F1 H1 σ z1 _ EQ _ r1 er h1 fun v2 H2 F2 d2 z2 s2 r2 p2 h2 => ?_
  obtain ⟨fs, t, rfl, rfl, h3⟩ := h2
  have p1 := p1.mono s2
  cases p2
  cases p1 with
  | ins f1 k1 rr1 =>
    refine ⟨_, _, _, _, rfl, rfl, r2.ok.sub _ _ f1, ?_⟩
    have := call_sp (vs := [_, _]) (R := R) r2 er (.cons (.ins f1 k1 rr1) (.cons (.v _) .nil)) h3 fun v H3 F3 rr n' ok q qd => by
      obtain ⟨F4, s4, r4, rp⟩ := res_sh r2 ok q
      exact k v H3 F4 _ _ ((s1.trans s2).trans s4) r4 rp qd
    simpa using this
end
end DL
end

section
set_option Elab.async false
set_option linter.all false
set_option maxRecDepth 100000
set_option maxHeartbeats 4000000
namespace K01
open PySem PySem.Spec PyProof.Rows L2 DL

def metL (a : Ad) : Met := [(a.CM, "index", "marks"), (a.CW, "index", "wishes"), (a.CG, "index", "guards")]
theorem metL_m (a : Ad) : ((a.CM, "index", "marks") : Addr × Str × Str) ∈ metL a := by simp [metL]
theorem metL_w (a : Ad) : ((a.CW, "index", "wishes") : Addr × Str × Str) ∈ metL a := by simp [metL]
theorem metL_g (a : Ad) : ((a.CG, "index", "guards") : Addr × Str × Str) ∈ metL a := by simp [metL]
@[reducible, simp] def rawD (q : Qn) : D := .tup [.lst (q.marks.map markD), .lst (q.wishes.map clD), .lst (q.guards.map clD)]
theorem ok_str {q : Qn} (ok : q.Ok) : ∀ x ∈ q.names, PyData.strOk x = true := fun x hx => by
  obtain ⟨p, hp, rfl⟩ := List.mem_map.mp hx
  exact good_ok (ok.good p hp).1
structure BM (P : Program) (K : PySem.W.Frag) (mg : Str → Option Value) (a : Ad) : Prop extends BQ P K mg a where
  xm : XfC K a.CM
  xw : XfC K a.CW
  xg : XfC K a.CG
  ne : PySem.W.findIn K (.ref a.C) "__ne__" = some (some (.builtin "object.__ne__"))
  mro : PySem.W.mroIn K a.C (.type "object") = some true
  nstr : PySem.W.notFirst K a.C (.type "str") = true
  ntup : PySem.W.notFirst K a.C (.type "tuple") = true
  exm : ∀ r ∈ metL a, ∀ r' ∈ metL a, PySem.W.exmOne K (.ref r.1) (.ref r'.1) = some (decide (r.1 = r'.1))
  nd : ((metL a).map (·.1)).Nodup
section
variable {T : List (Addr × Str)} {X : Cx} {E : XK} {a : Ad} {P : Program}
theorem sc_met : FnScope ["ask", "e"] ["ask"] (defScope (topS 37)) := ⟨rfl, rfl, rfl, by decide +kernel, rfl, by decide +kernel, by decide +kernel⟩
theorem bd_met : BindsH "_law_met" (topS 37) ["ask"] := fun _ _ _ _ _ _ us hl => match us, hl with | [_], _ => rfl
theorem gives_met (B : BM P X.K X.mg a) (g : Addr) (cdg : Value) (q : Str) : LamX.GivesTo X ["ask", "e"] "_law_met" (defScope (topS 37)) g cdg (defBody (topS 37)) "ask" q (TTmet X.K (metL a)) := by
  obtain ⟨_, hm⟩ := B.x_BadMarks
  obtain ⟨_, hw⟩ := B.x_BadWishes
  obtain ⟨_, hg⟩ := B.x_BadGuards
  refine met_gives (Ng := ["ask", "e"]) (e := "e") (by decide) rfl (by rfl) (fun f => rfl) fun s H => ?_
  refine .cons (fun r => met_clause (X := (cxOf C8.CX0 X.prog X.w X.K X.mg X.base ["ask", "e"] "_law_met" (defScope (topS 37)) g cdg X.A X.stack s H C8.E0).nox) (i := 1) ⟨by rfl, by decide, .inl hm.gC⟩ B.xm hm.noF rfl (.inl (by rfl)) (by decide) (by decide) (fun _ _ _ => by rfl) r) ?_
  refine .cons (fun r => met_clause (X := (cxOf C8.CX0 X.prog X.w X.K X.mg X.base ["ask", "e"] "_law_met" (defScope (topS 37)) g cdg X.A X.stack s H C8.E0).nox) (i := 1) ⟨by rfl, by decide, .inl hw.gC⟩ B.xw hw.noF rfl (.inl (by rfl)) (by decide) (by decide) (fun _ _ _ => by rfl) r) ?_
  refine .cons (fun r => met_clause (X := (cxOf C8.CX0 X.prog X.w X.K X.mg X.base ["ask", "e"] "_law_met" (defScope (topS 37)) g cdg X.A X.stack s H C8.E0).nox) (i := 1) ⟨by rfl, by decide, .inl hg.gC⟩ B.xg hg.noF rfl (.inl (by rfl)) (by decide) (by decide) (fun _ _ _ => by rfl) r) ?_
  exact .nil
variable {me : TDE} {c Pt : Addr} {k i : Nat} {params : Arguments} {body : Expr} {scope : Scope} {p lpos pos : Pos}
theorem de_lm (B : BM P X.K X.mg a) (hg : Gl X "_law_met") (TB : LamX.TabB X.base X.mg c Pt) (hcode : X.env.code = .ref c) (hmT : (Pt, X.env.qual ++ "<lambda>") ∈ T) (hu : ∀ p ∈ T, p.1 = Pt → p.2 = X.env.qual ++ "<lambda>") (hr : Room (k + 2) X.A) (L : LamX.LamS X.env.scope scope) (hdef : defaultsOf params X.env = ([], []))
    (hbind : ∀ (q : Str) (cl : List (Str × Addr)) (pm cv ctv : Value), bindArgs (PySem.W.kla_fn "<lambda>" q params body scope cl pm cv ctv) ⟨[], []⟩ = pure [])
    (hbody : ∀ (A : Around) (outer : List Env) (s : Shared) (H : Hp) (E : XK) (f c' : Addr), Room k (A.deeper (LamX.lamEnv X scope s.heap.objs.size f c')) → DE T (LamX.lamCx X A outer s H E scope f c') E body me) :
    DE T X E (.Call (.Name "_law_met" p) [.Lambda params body scope lpos] [] pos) (mMet (metL a) me) := by
  obtain ⟨g, fd, F, hm⟩ := B._law_met
  have F' := F
  obtain ⟨oc, od, kV, doc, pm, an, cdv, ct, osl, rfl, lk, hcd⟩ := F'.ex
  exact de_met hg hm F.kp lk hcd (F.binds bd_met) sc_met rfl (.inl (by rfl)) (gives_met B g cdv _) B.exm B.nd TB hcode hmT hu hr L hdef hbind hbody
theorem de_lmB (i : Nat) (B : BM P X.K X.mg a) (hg : Gl X "_law_met") (TB : LamX.TabB X.base X.mg c Pt) (hcode : X.env.code = .ref c) (hmT : (Pt, X.env.qual ++ "<lambda>") ∈ T) (hu : ∀ p ∈ T, p.1 = Pt → p.2 = X.env.qual ++ "<lambda>") (hr : Room (k + 2) X.A) (L : LamX.LamS X.env.scope scope) (hdef : defaultsOf params X.env = ([], []))
    (hbind : ∀ (q : Str) (cl : List (Str × Addr)) (pm cv ctv : Value), bindArgs (PySem.W.kla_fn "<lambda>" q params body scope cl pm cv ctv) ⟨[], []⟩ = pure [])
    (hbody : ∀ (A : Around) (outer : List Env) (s : Shared) (H : Hp) (E : XK) (f c' : Addr), Room k (A.deeper (LamX.lamEnv X scope s.heap.objs.size f c')) → DE T (LamX.lamCx X A outer s H E scope f c') E body me) :
    DE T X E (.Call (.Name "_law_met" p) [.Lambda params body scope lpos] [] pos) (mMetB i (metL a) me) := by
  obtain ⟨g, fd, F, hm⟩ := B._law_met
  have F' := F
  obtain ⟨oc, od, kV, doc, pm, an, cdv, ct, osl, rfl, lk, hcd⟩ := F'.ex
  exact de_metB hg hm F.kp lk hcd (F.binds bd_met) sc_met rfl (.inl (by rfl)) (gives_met B g cdv _) B.exm B.nd TB hcode hmT hu hr L hdef hbind hbody
theorem dex_lm (B : BM P X.K X.mg a) (hg : Gl X "_law_met") (TB : LamX.TabB X.base X.mg c Pt) (hcode : X.env.code = .ref c) (hmT : (Pt, X.env.qual ++ "<lambda>") ∈ T) (hu : ∀ p ∈ T, p.1 = Pt → p.2 = X.env.qual ++ "<lambda>") (hr : Room (k + 2) X.A) (L : LamX.LamS X.env.scope scope) (hdef : defaultsOf params X.env = ([], []))
    (hbind : ∀ (q : Str) (cl : List (Str × Addr)) (pm cv ctv : Value), bindArgs (PySem.W.kla_fn "<lambda>" q params body scope cl pm cv ctv) ⟨[], []⟩ = pure [])
    (hbody : ∀ (A : Around) (outer : List Env) (s : Shared) (H : Hp) (E : XK) (f c' : Addr), Room k (A.deeper (LamX.lamEnv X scope s.heap.objs.size f c')) → DFr T (LamX.lamCx X A outer s H E scope f c') E body me) :
    DEX T X E (.Call (.Name "_law_met" p) [.Lambda params body scope lpos] [] pos) (mMetX (metL a) me) := by
  obtain ⟨g, fd, F, hm⟩ := B._law_met
  have F' := F
  obtain ⟨oc, od, kV, doc, pm, an, cdv, ct, osl, rfl, lk, hcd⟩ := F'.ex
  exact dex_met hg hm F.kp lk hcd (F.binds bd_met) sc_met rfl (.inl (by rfl)) (gives_met B g cdv _) B.exm B.nd TB hcode hmT hu hr L hdef hbind hbody
end

section
variable {P : Program} {w : World} {K : PySem.W.Frag} {T : List (Addr × Str)} {mg : Str → Option Value} {base : Heap} {a : Ad}
theorem noq {x : Str} {D1 D2 D3 D4 : D} (h : x ≠ "own_marks" ∧ x ≠ "own_names" ∧ x ≠ "own_wishes" ∧ x ≠ "own_guards") : ∀ (a : Str) (b : D), (a = "own_marks" ∧ b = D1 ∨ a = "own_names" ∧ b = D2 ∨ a = "own_wishes" ∧ b = D3 ∨ a = "own_guards" ∧ b = D4) → ¬ x = a := by
  rintro a b (⟨rfl, _⟩ | ⟨rfl, _⟩ | ⟨rfl, _⟩ | ⟨rfl, _⟩)
  · exact h.1
  · exact h.2.1
  · exact h.2.2.1
  · exact h.2.2.2
theorem sc_Question_parts : FnScope ["self"] ["self"] (defScope (inClass (topS 20) 4)) := ⟨rfl, rfl, rfl, by decide +kernel, rfl, by decide +kernel, by decide +kernel⟩
theorem bd_Question_parts : BindsQ "parts" "Question.parts" (inClass (topS 20) 4) ["self"] := fun _ _ _ _ _ _ us hl => match us, hl with | [_], _ => rfl
def sp_Q_parts (a : Ad) : DSpec := fun _ n ds Q _ => ∃ q : Qn, ds = [qD a.C q] ∧ q.Ok ∧ Q (.sh (rawD q)) n
theorem f_Q_parts (B : BM P K mg a) : MethP P w K T mg base 1 a.C "parts" ["self"] (sp_Q_parts a) := by
  refine mkMeth B.m_parts sc_Question_parts bd_Question_parts ?_ (fun f cdv A outer s H E hr => (db_one (ds_ret (de_tup (da_cons (de_fld B.Question.cl B.na_own_marks (de_var 0)) (da_cons (de_fld B.Question.cl B.na_own_wishes (de_var 0)) (da_cons (de_fld B.Question.cl B.na_own_guards (de_var 0)) da_nil))))))) ?_
  · intro s n ds Q EQ h
    dsimp only [sp_Q_parts] at h
    obtain ⟨_, rfl, _⟩ := h; rfl
  · intro s n ds Q EQ h
    dsimp only [sp_Q_parts] at h
    obtain ⟨q, rfl, ok, h⟩ := h
    simp
    exact h
theorem raw_sh {q : Qn} (ok : q.Ok) : ShD 5 (rawD q) := by
  have s := ok_str ok
  have cl : ∀ cs : List Cl, (∀ c ∈ cs, (c.map (·.1)).Sublist q.names) → ShD 4 (.lst (cs.map clD)) := fun cs h => (sh_lst (sh_map fun c hc => sh_cl fun p hp => s _ ((h c hc).subset (List.mem_map_of_mem hp)))).mono (by decide)
  refine sh_tup fun d hd => ?_
  simp at hd
  rcases hd with rfl | rfl | rfl
  · exact (sh_lst (k := 2) (sh_map fun p hp => (rp_mark (ok.good p hp).1 (ok.good p hp).2).2)).mono (by decide)
  · exact cl _ ok.ws
  · exact cl _ ok.gs
theorem sc_Question_eq : FnScope ["self", "other"] ["self", "other"] (defScope (inClass (topS 20) 5)) := ⟨rfl, rfl, rfl, by decide +kernel, rfl, by decide +kernel, by decide +kernel⟩
theorem bd_Question_eq : BindsQ "__eq__" "Question.__eq__" (inClass (topS 20) 5) ["self", "other"] := fun _ _ _ _ _ _ us hl => match us, hl with | [_, _], _ => rfl
/-- the other: a question, or a text -/
inductive EqA (a : Ad) (q : Qn) : D → Bool → Prop
  | q (q2 : Qn) (ok : q2.Ok) : EqA a q (qD a.C q2) (PyData.eqv (pyD (rawD q)) (pyD (rawD q2)))
  | str (x : Str) : EqA a q (strD x) false
  | tup (ts : List D) : EqA a q (.tup ts) false
def sp_Q_eq (a : Ad) : DSpec := fun _ n ds Q _ => ∃ (q : Qn) (e : D) (b : Bool), ds = [qD a.C q, e] ∧ q.Ok ∧ EqA a q e b ∧ Q (.sh (blD b)) n
theorem f_Q_eq (B : BM P K mg a) : MethP P w K T mg base 3 a.C "__eq__" ["self", "other"] (sp_Q_eq a) := by
  refine mkMeth B.m_eq sc_Question_eq bd_Question_eq ?_ (fun f cdv A outer s H E hr => (db_one (ds_ret (de_and (de_isC B.Question (by rfl) B.isinstance (by rfl) B.mg_Question (de_var 1)) (de_one (de_cmp (op_eqD (hu64 hr)) p_eqD (de_methE B.Question.cl (f_Q_parts B) hr (by decide) passX (de_var 0) (fun hm F hb pa => pe_meth0 pa B.Question.cl hm F (hr.mono (by decide)) hb .nil passX)) (de_methE B.Question.cl (f_Q_parts B) hr (by decide) passX (de_var 1) (fun hm F hb pa => pe_meth0 pa B.Question.cl hm F (hr.mono (by decide)) hb .nil passX)) (by rfl))))))) ?_
  · intro s n ds Q EQ h
    dsimp only [sp_Q_eq] at h
    obtain ⟨_, _, _, rfl, _⟩ := h; rfl
  · intro s n ds Q EQ h
    dsimp only [sp_Q_eq] at h
    obtain ⟨q, e, b, rfl, ok, hb, h⟩ := h
    cases hb with
    | q q2 ok2 =>
      simp [-rawD, -qD]
      have sr := raw_sh ok
      have sr2 := raw_sh ok2
      refine .inl ⟨noq (by decide +kernel), q, rfl, ok, ?_⟩
      refine ⟨noq (by decide +kernel), q2, rfl, ok2, ?_⟩
      exact ⟨sr.1, sr2.1, sr.shaped, sr2.shaped, h⟩
    | str x =>
      simp [-rawD, -qD]
      exact h
    | tup ts =>
      simp [-rawD, -qD]
      exact h


end
end K01
end

section
set_option Elab.async false
set_option linter.all false
set_option maxRecDepth 100000
set_option maxHeartbeats 4000000
/-! DL40: a, b = [..], [..], both own. -/
namespace DL
open PySem PySem.Spec PyProof.Rows L2
section
variable {T : List (Addr × Str)} {X : Cx} {E : XK} {e a b : Expr} {pos p : Pos} {ma mb : TDE} {x y : Str}
theorem Nw.setN {K : PySem.W.Frag} {st : Option Addr} {F H0 H : Hp} {σ : Sg} {z : Z} {c c2 : Addr} {o o2 : D} (w : Nw K st F H0 H σ z c2 o2) (ne : c ≠ c2) (i : Nat) (hl : σ.length = z.env.length) : Nw K st F H0 H (σ.set i (some (.ref c))) { z with env := z.env.set i (.ow o) } c2 o2 := by
  refine ⟨w.own, fun l o' hz hs => ?_⟩
  have hz : (z.env.set i (.ow o))[l]? = some (.ow o') := hz
  by_cases e : l = i
  · subst e
    by_cases hi : l < z.env.length
    · rw [set_self (by rw [hl]; exact hi)] at hs
      cases hs
      exact ne rfl
    · rw [List.getElem?_eq_none (by rw [List.length_set]; omega)] at hz
      cases hz
  · rw [set_out e] at hz hs
    exact w.ap l o' hz hs
@[reducible, simp] def sParNN (i j : Nat) (ma mb : TDE) : TDS := fun st D z EQ => ma st z (fun o1 z1 => mb st z1 (fun o2 z2 => D.nx ((z2.put i (.ow o1)).put j (.ow o2))) EQ) EQ
theorem ds_parNN (i j : Nat) {px py pt : Pos} {kt k2 pt2} (hc : X.calm = true) (hN : X.N.Nodup) (ha : DN T X E a ma) (hb : DN T X E b mb) (hij : i ≠ j := by decide) (hi : X.N[i]? = some x := by rfl) (hj : X.N[j]? = some y := by rfl)
    (hx : X.env.scope.names.lookup x = some .local := by rfl) (hy : X.env.scope.names.lookup y = some .local := by rfl)
    (hw : swappedStores [.Tuple [.Name x px, .Name y py] kt pt] (.Tuple [a, b] k2 pt2) X.env = pure (some [x, y]) := by rfl)
    (hs : swapsWithSole [.Tuple [.Name x px, .Name y py] kt pt] (.Tuple [a, b] k2 pt2) pos.line X.env = pure false := by rfl)
    (hpa : ∀ {ta tb : TE}, PE X a ta → PE X b tb → PA X [a, b] (tCons ta (tCons tb tNil)) := by intro _ _ h h2; exact pa_cons h (pa_cons h2 pa_nil)) :
    DS T X E (.Assign [.Tuple [.Name x px, .Name y py] kt pt] (.Tuple [a, b] k2 pt2) pos) (sParNN i j ma mb) := by
  obtain ⟨ta, pa, qa⟩ := ha.ex
  obtain ⟨tb, pb, qb⟩ := hb.ex
  refine ⟨⟨_, ps_par hc hN hi hj hij hx hy (hpa pa pb) hw hs, fun st F0 H0 F H σ z D EQ D' r er h k => ?_⟩⟩
  refine qa st F0 H0 F H σ z _ EQ _ r er h fun c H1 F1 o z1 s1 r1 w1 h1 => ?_
  have f0 : F0 c = none := Same.none r1.ok.f0 w1.own.f
  obtain ⟨u, hu, cu⟩ := w1.own.ho
  refine qb st F0 (grd H0 H1 c) F1 H1 σ z1 _ EQ _ (r1.guard w1) (ERel.guard er w1.own.h0) h1 fun c2 H2 F2 o2 z2 s2 r2 w2 h2 => ?_
  obtain ⟨r3, w3⟩ := Rel.unguard w1.own s2 f0 r2
  have gf := grd_frs (H0 := H0) (H := H1) (a := c) (by rw [hu]; simp) (fun ps q => by rw [hu] at q; cases q; exact cu.nt ps rfl)
  have ne : c ≠ c2 := fun e => by
    have := w2.own.h0 u (by rw [← e, grd_same]; exact hu)
    obtain ⟨ps, q⟩ := this
    exact cu.nt ps q
  have w2' : Nw X.K st F2 H0 H2 σ z2 c2 o2 := ⟨⟨w2.own.ho, w2.own.f, gf _ w2.own.h0, w2.own.st, w2.own.pin⟩, w2.ap⟩
  refine ⟨_, _, rfl, k.nx _ H2 F2 _ (s1.trans s2) ((r3.setN (i := i) w3).setN (i := j) (w2'.setN (o := o) ne i r3.len)) h2⟩
end
end DL
end

section
set_option Elab.async false
set_option linter.all false
set_option maxRecDepth 100000
set_option maxHeartbeats 4000000
namespace K01
open PySem PySem.Spec PyProof.Rows L2 DL

section
variable {P : Program} {w : World} {K : PySem.W.Frag} {T : List (Addr × Str)} {mg : Str → Option Value} {base : Heap} {a : Ad}
theorem bits_div (v : Int) {m : Int} (h : 0 < m) : Builtin.Int.intBits (v / m) ≤ Builtin.Int.intBits v := by
  have e : (v / m).natAbs ≤ v.natAbs := Int.natAbs_ediv_le_natAbs v m
  unfold Builtin.Int.intBits
  by_cases h0 : v / m = 0
  · simp [h0]
  · have hv : v ≠ 0 := fun q => h0 (by rw [q]; simp)
    have h1 : ((v / m) == 0) = false := by simpa using h0
    have h2 : (v == 0) = false := by simpa using hv
    rw [h1, h2]
    have h3 : v.natAbs < 2 ^ (v.natAbs.log2 + 1) := Nat.lt_log2_self
    have h4 : (v / m).natAbs.log2 < v.natAbs.log2 + 1 := (Nat.log2_lt (by omega)).mpr (Nat.lt_of_le_of_lt e h3)
    simp
    omega

theorem sc__law_draw : FnScope ["stream", "many", "digit", "spread"] ["stream", "many"] (defScope (topS 23)) := ⟨rfl, rfl, rfl, by decide +kernel, rfl, by decide +kernel, by decide +kernel⟩
theorem bd__law_draw : BindsH "_law_draw" (topS 23) ["stream", "many"] := fun _ _ _ _ _ _ us hl => match us, hl with | [_, _], _ => rfl
def sp__law_draw : DSpec := fun st n ds Q EQ => ∃ (sp : Addr) (m : Int), st = some sp ∧ ds = [.v (.ref sp), iD m] ∧ 0 < m ∧ m ≤ 1000000 ∧ n ≤ 1000000 ∧ ∀ k : Nat, (k : Int) < m → Q (.sh (iD k)) (n + 1)
theorem f__law_draw (B : BF P K mg a) : Fn P w K T mg base 1 "_law_draw" ["stream", "many"] (sp__law_draw) := by
  refine mkFn B._law_draw sc__law_draw bd__law_draw ?_ (fun f cdv A outer s H E hr => (db_cons (ds_if (dt_cmp op_gt p_I0 (de_strm 0 0) de_int (by rfl)) (db_cons (ds_set 2 sc__law_draw.nd (de_op op_mod p_I (de_ct call_int1 (by rfl) B.int (by rfl) p_int (da_cons (de_strm 0 0) da_nil)) (de_var 1))) (db_cons (ds_strm0 0 (de_op op_fdivW p_I (de_strm 0 0) (de_var 1))) (db_one (ds_ret (de_var 2))))) db_nil) (db_cons (ds_strm2 0 (de_op op_add p_I0 (de_strm 0 2) de_int)) (db_cons (ds_set 3 sc__law_draw.nd (de_op op_mod p_I (de_op op_pow p_I (de_ct call_int1 (by rfl) B.int (by rfl) p_int (da_cons (de_op op_add p_I0 (de_op op_add p_I0 (de_strm 0 1) (de_op op_mul p_I de_int (de_strm 0 2))) de_int) da_nil)) de_int) de_int)) (db_one (ds_ret (de_op op_mod p_I (de_op op_fdivW p_I (de_op op_mod p_I (de_ct call_int1 (by rfl) B.int (by rfl) p_int (da_cons (de_op op_mul p_I (de_op op_add p_I0 (de_var 3) (de_strm 0 2)) de_int) da_nil)) de_int) de_int) (de_var 1)))))))) ?_
  · intro s n ds Q EQ h
    dsimp only [sp__law_draw] at h
    obtain ⟨_, _, _, rfl, _⟩ := h; rfl
  · intro s n ds Q EQ h
    dsimp only [sp__law_draw] at h
    obtain ⟨sp, m, rfl, rfl, h0, h1, hn, h⟩ := h
    simp
    have hlog : ∀ j : Int, 0 < j → j ≤ 1000000 → j.natAbs.log2 < 9000 := fun j g1 g2 => by
      have : j.natAbs.log2 < 20 := (Nat.log2_lt (by omega)).mpr (by omega)
      omega
    intro v hv
    refine ⟨fun hpos v2 hv2 => ⟨h0, fun v1 hv1 => ⟨⟨h0, hlog m h0 h1⟩, ?_, n + 1, by omega, ?_⟩⟩, fun hneg w hw => ⟨?_, n + 1, ?_, ?_⟩⟩
    · exact Nat.le_trans (bits_div v1 h0) hv1
    · have e1 : 0 ≤ v2 % m := Int.emod_nonneg _ (by omega)
      have e2 : v2 % m < m := Int.emod_lt_of_pos _ h0
      have := h (v2 % m).toNat (by omega)
      rwa [Int.toNat_of_nonneg e1] at this
    · have := hw.1; omega
    · have := hw.2; omega
    · intro u hu u2 hu2
      have g1 := hu.1; have g2 := hu.2; have g3 := hu2.1; have g4 := hu2.2
      have g4' : u2 ≤ 1000001 := by omega
      refine ⟨.inl (by omega), ⟨by omega, by omega, by omega⟩, fun u3 hu3 => ⟨.inr (by omega), ?_, h0, ?_⟩⟩
      · exact ⟨by decide, hlog 7 (by decide) (by decide)⟩
      · generalize ((u + 7919 * u2 + 104729) ^ 5 % 2147483647 + u3) * 40692 % 2147483629 / 7 = q
        have e1 : 0 ≤ q % m := Int.emod_nonneg _ (by omega)
        have e2 : q % m < m := Int.emod_lt_of_pos _ h0
        have := h (q % m).toNat (by omega)
        rwa [Int.toNat_of_nonneg e1] at this


end
end K01
end

section
set_option Elab.async false
set_option linter.all false
set_option maxRecDepth 100000
set_option maxHeartbeats 4000000
namespace K01
open PySem PySem.Spec PyProof.Rows L2 DL

section
variable {P : Program} {w : World} {K : PySem.W.Frag} {T : List (Addr × Str)} {mg : Str → Option Value} {base : Heap} {a : Ad}
theorem nil_ok : plainD (.lst []) = true ∧ SeqAt.shaped (pyD (.lst [])) = true := ⟨(sh_lst (k := 0) (ds := []) nofun).1, (sh_lst (k := 0) (ds := []) nofun).shaped⟩
theorem nil_eqv (ds : List D) : PyData.eqv (pyD (.lst ds)) (pyD (.lst [])) = ds.isEmpty := by
  cases ds <;> simp [pyD, pyDs, PyData.eqv, PyData.eqvAll]
theorem perm_erase {α : Type} : ∀ (l : List α) (k : Nat) (h : k < l.length), ([l[k]] ++ l.eraseIdx k).Perm l
  | a :: l, 0, _ => by simp
  | a :: l, k + 1, h => by
    have ih := perm_erase l k (by simpa using h)
    simp only [List.getElem_cons_succ, List.eraseIdx_cons_succ, List.singleton_append] at ih ⊢
    exact (List.Perm.swap _ _ _).trans (ih.cons a)

theorem sc__law_pick : FnScope ["stream", "some"] ["stream", "some"] (defScope (topS 24)) := ⟨rfl, rfl, rfl, by decide +kernel, rfl, by decide +kernel, by decide +kernel⟩
theorem bd__law_pick : BindsH "_law_pick" (topS 24) ["stream", "some"] := fun _ _ _ _ _ _ us hl => match us, hl with | [_, _], _ => rfl
def sp__law_pick : DSpec := fun st n ds Q EQ => ∃ (sp : Addr) (xs : List D), st = some sp ∧ ds = [.v (.ref sp), .lst xs] ∧ xs ≠ [] ∧ xs.length ≤ 1000 ∧ n + 1 ≤ 1000000 ∧ ∀ d ∈ xs, Q (.sh d) (n + 1)
theorem f__law_pick (B : BF P K mg a) : Fn P w K T mg base 2 "_law_pick" ["stream", "some"] (sp__law_pick) := by
  refine mkFn B._law_pick sc__law_pick bd__law_pick ?_ (fun f cdv A outer s H E hr => (db_one (ds_ret (de_ix ix_list p_ixL (de_var 1) (de_call (f__law_draw B) hr (by decide) (by rfl) passX (da_cons (de_var 0) (da_cons (de_cb call_lenAll (by rfl) B.len (by rfl) p_len (da_cons (de_var 1) da_nil)) da_nil))))))) ?_
  · intro s n ds Q EQ h
    dsimp only [sp__law_pick] at h
    obtain ⟨_, _, _, rfl, _⟩ := h; rfl
  · intro s n ds Q EQ h
    dsimp only [sp__law_pick] at h
    obtain ⟨sp, xs, rfl, rfl, h0, h1, hn, h⟩ := h
    have hp : 0 < xs.length := List.length_pos_iff.mpr h0
    simp
    refine ⟨by omega, sp, _, rfl, rfl, by omega, by omega, by omega, fun k hk => ?_⟩
    have hk' : k < xs.length := by omega
    refine ⟨(k : Int), rfl, xs[k], ?_, h _ (List.getElem_mem hk')⟩
    unfold atI ixN
    rw [if_pos (by omega), if_pos (by omega)]
    simp [hk']

theorem sc__law_mixed : FnScope ["stream", "some", "rest", "found"] ["stream", "some"] (defScope (topS 25)) := ⟨rfl, rfl, rfl, by decide +kernel, rfl, by decide +kernel, by decide +kernel⟩
theorem bd__law_mixed : BindsH "_law_mixed" (topS 25) ["stream", "some"] := fun _ _ _ _ _ _ us hl => match us, hl with | [_, _], _ => rfl
def sp__law_mixed : DSpec := fun st n ds Q EQ => ∃ (sp : Addr) (xs : List D), st = some sp ∧ ds = [.v (.ref sp), .lst xs] ∧ xs.length ≤ 1000 ∧ n + xs.length ≤ 1000000 ∧ ShDs 3 xs ∧ ∀ ys, ys.Perm xs → Q (.nw (.lst ys)) (n + xs.length)
theorem f__law_mixed (B : BF P K mg a) : Fn P w K T mg base 2 "_law_mixed" ["stream", "some"] (sp__law_mixed) := by
  refine mkFn B._law_mixed sc__law_mixed bd__law_mixed ?_ (fun f cdv A outer s H E hr => (db_cons (ds_parNN 2 3 (by rfl) sc__law_mixed.nd (dn_ct (call_list_of) (by rfl) B.list (by rfl) p_list (da_cons (de_var 1) da_nil)) (dn_lst da_nil)) (db_cons (ds_while ownX (dt_cmp (op_neD (hu64 hr)) p_neD (de_var 2) (dn_lst da_nil).sh (by rfl)) (db_one (ds_expr (de_app 3 (de_pop 2 (de_call (f__law_draw B) hr (by decide) (by rfl) passX (da_cons (de_var 0) (da_cons (de_lenO 2 (by rfl) B.len) da_nil))) (hpa := fun h => pe_bm PySem.F.plainAttrs_list PySem.F.slot_list_pop PySem.F.type_list_pop mt_popAt (pv 2) (pa_cons h pa_nil))) (hpa := fun h => pe_bm PySem.F.plainAttrs_list PySem.F.slot_list_append PySem.F.type_list_append mt_append (pv 3) (pa_cons h pa_nil)))))) (db_one (ds_retV 3))))) ?_
  · intro s n ds Q EQ h
    dsimp only [sp__law_mixed] at h
    obtain ⟨_, _, _, rfl, _⟩ := h; rfl
  · intro s n ds Q EQ h
    dsimp only [sp__law_mixed] at h
    obtain ⟨sp, xs, rfl, rfl, h1, hn, hsh, h⟩ := h
    refine bCut (fun z => z = ⟨[.sh (.v (.ref sp)), .sh (.lst xs), .ow (.lst xs), .ow (.lst [])], n⟩) (fun C hC => ?_) (fun z hz => ?_)
    · simp
      exact hC _ rfl
    subst hz
    refine bCut (fun z => ∃ ys : List D, ys.Perm xs ∧ z = ⟨[.sh (.v (.ref sp)), .sh (.lst xs), .ow (.lst []), .ow (.lst ys)], n + xs.length⟩) (fun C hC => ?_) (fun z hz => ?_)
    · refine while_ind (fun k z => ∃ rest acc : List D, (acc ++ rest).Perm xs ∧ rest.length = k ∧ z = ⟨[.sh (.v (.ref sp)), .sh (.lst xs), .ow (.lst rest), .ow (.lst acc)], n + acc.length⟩) xs.length ⟨xs, [], by simp, rfl, by simp⟩ ?_
      rintro k z ⟨rest, acc, hp, rfl, rfl⟩
      have hlen : acc.length + rest.length = xs.length := by have := hp.length_eq; simpa using this
      have sr : ShD 4 (.lst rest) := sh_lst fun d hd => hsh d (hp.mem_iff.mp (List.mem_append_right _ hd))
      simp
      refine ⟨sr.1, nil_ok.1, sr.shaped, nil_ok.2, ?_⟩
      rw [nil_eqv]
      cases rest with
      | nil =>
        refine .inl ⟨rfl, hC _ ⟨acc, by simpa using hp, ?_⟩⟩
        simp at hlen
        rw [hlen]
      | cons d0 rest =>
        simp only [List.length_cons] at hlen
        refine .inr ⟨rfl, by simp; omega, sp, rest.length + 1, rfl, rfl, by omega, by omega, by omega, fun k hk => ?_⟩
        have hk' : k < (d0 :: rest).length := by simp; omega
        refine ⟨_, k, rfl, by omega, rfl, (d0 :: rest)[k], by simp [hk'], by omega, ((d0 :: rest).eraseIdx k).length, ?_, _, _, ?_, rfl, ⟨rfl, rfl⟩, by simp [Nat.add_assoc]⟩
        · rw [List.length_eraseIdx]; simp only [hk', if_true]; simp
        · refine List.Perm.trans ?_ hp
          rw [List.append_assoc]
          refine List.Perm.append_left _ ?_
          exact perm_erase (d0 :: rest) k hk'
    obtain ⟨ys, hp, rfl⟩ := hz
    simp
    exact h ys hp


end
end K01
end

section
set_option Elab.async false
set_option linter.all false
set_option maxRecDepth 100000
set_option maxHeartbeats 4000000
namespace K01
open PySem PySem.Spec PyProof.Rows L2 DL

def namesC : List Str := ["a", "b", "x", "y1", "lamp", "eightsgn", "eightsga", "we", "wish", "guard", "q0", "they", "ab", "z", "m", "chance"]
theorem namesC_good : ∀ x ∈ namesC, goodName x := fun x hx => goodB_ok (by
  have : namesC.all goodB = true := by decide +kernel
  exact List.all_eq_true.mp this x hx)
theorem namesC_nd : namesC.Nodup := by decide +kernel

section
variable {P : Program} {w : World} {K : PySem.W.Frag} {T : List (Addr × Str)} {mg : Str → Option Value} {base : Heap} {a : Ad}
theorem sc__law_q_names : FnScope ["stream", "many", "some"] ["stream", "many"] (defScope (topS 28)) := ⟨rfl, rfl, rfl, by decide +kernel, rfl, by decide +kernel, by decide +kernel⟩
theorem bd__law_q_names : BindsH "_law_q_names" (topS 28) ["stream", "many"] := fun _ _ _ _ _ _ us hl => match us, hl with | [_, _], _ => rfl
def sp__law_q_names : DSpec := fun st n ds Q EQ => ∃ (sp : Addr) (m : Int), st = some sp ∧ ds = [.v (.ref sp), iD m] ∧ 0 ≤ m ∧ m ≤ 16 ∧ n + 16 ≤ 1000000 ∧ ∀ names : List Str, names.Nodup → (∀ x ∈ names, x ∈ namesC) → names.length = m.toNat → Q (.nw (.lst (names.map strD))) (n + 16)
theorem f__law_q_names (B : BF P K mg a) : Fn P w K T mg base 3 "_law_q_names" ["stream", "many"] (sp__law_q_names) := by
  refine mkFn B._law_q_names sc__law_q_names bd__law_q_names ?_ (fun f cdv A outer s H E hr => (db_cons (ds_setN 2 sc__law_q_names.nd (dn_lstC (dk_consC de_str (dk_consC de_str (dk_consC de_str (dk_consC de_str (dk_consC de_str (dk_consC de_str (dk_consC de_str (dk_consC de_str (dk_consC de_str (dk_consC de_str (dk_consC de_str (dk_consC de_str (dk_consC de_str (dk_consC de_str dk_nilC)))))))))))))))) (db_frz 2 (db_one (ds_retN (dn_slice (dn_call (f__law_mixed B) hr (by decide) (by rfl) passX (da_cons (de_var 0) (da_cons (dn_op op_cat p_cat (de_var 2) (dn_lstC (dk_consC de_str (dk_consC de_str dk_nilC))).sh).sh da_nil))).sh do_none (do_some (de_var 1)))))))) ?_
  · intro s n ds Q EQ h
    dsimp only [sp__law_q_names] at h
    obtain ⟨_, _, _, rfl, _⟩ := h; rfl
  · intro s n ds Q EQ h
    dsimp only [sp__law_q_names] at h
    obtain ⟨sp, m, rfl, rfl, h0, h1, hn, h⟩ := h
    simp
    refine ⟨sp, namesC.map strD, rfl, rfl, by decide, hn, sh_map fun x hx => sh_str 3 _ (good_ok (namesC_good x hx)), fun ys hp => ?_⟩
    obtain ⟨l, hl, rfl⟩ := perm_strs hp
    simp
    rw [cut_to h0, ← List.map_take]
    refine h _ ((List.take_sublist _ _).nodup (hl.nodup_iff.mpr namesC_nd)) (fun x hx => (hl.mem_iff.mp (List.mem_of_mem_take hx))) ?_
    have := hl.length_eq
    simp [namesC] at this
    rw [List.length_take, this]
    omega

theorem sc__law_q_hand : FnScope ["stream", "is_chance"] ["stream", "is_chance"] (defScope (topS 29)) := ⟨rfl, rfl, rfl, by decide +kernel, rfl, by decide +kernel, by decide +kernel⟩
theorem bd__law_q_hand : BindsH "_law_q_hand" (topS 29) ["stream", "is_chance"] := fun _ _ _ _ _ _ us hl => match us, hl with | [_, _], _ => rfl
def sp__law_q_hand : DSpec := fun st n ds Q EQ => ∃ (sp : Addr) (b : Bool), st = some sp ∧ ds = [.v (.ref sp), blD b] ∧ n + 2 ≤ 1000000 ∧ ∀ (h : Hand) (n' : Nat), h.good = true → n ≤ n' → n' ≤ n + 2 → Q (.sh (handD h)) n'
theorem f__law_q_hand (B : BF P K mg a) : Fn P w K T mg base 3 "_law_q_hand" ["stream", "is_chance"] (sp__law_q_hand) := by
  refine mkFn B._law_q_hand sc__law_q_hand bd__law_q_hand ?_ (fun f cdv A outer s H E hr => (db_cons (ds_if (DW.t (dw_and (dt_val (de_var 1)) (dw_and1 (dt_cmp op_eq p_eq (de_call (f__law_draw B) hr (by decide) (by rfl) passX (da_cons (de_var 0) (da_cons de_int da_nil))) de_int (by rfl))))) (db_one (ds_ret (de_call (f__law_pick B) hr (by decide) (by rfl) passX (da_cons (de_var 0) (da_cons (dn_lstC (dk_consC (de_tupC (dk_consC de_int (dk_consC de_int dk_nilC))) (dk_consC (de_tupC (dk_consC de_int (dk_consC de_int dk_nilC))) (dk_consC (de_tupC (dk_consC de_int (dk_consC de_int dk_nilC))) (dk_consC (de_tupC (dk_consC de_int (dk_consC de_int dk_nilC))) (dk_consC (de_tupC (dk_consC de_int (dk_consC de_int dk_nilC))) (dk_consC (de_tupC (dk_consC de_int (dk_consC de_int dk_nilC))) dk_nilC))))))).sh da_nil))))) db_nil) (db_one (ds_ret (de_call (f__law_pick B) hr (by decide) (by rfl) passX (da_cons (de_var 0) (da_cons (dn_lstC (dk_consC de_str (dk_consC de_str dk_nilC))).sh da_nil))))))) ?_
  · intro s n ds Q EQ h
    dsimp only [sp__law_q_hand] at h
    obtain ⟨_, _, _, rfl, _⟩ := h; rfl
  · intro s n ds Q EQ h
    dsimp only [sp__law_q_hand] at h
    obtain ⟨sp, b, rfl, rfl, hn, h⟩ := h
    have pick : ∀ (n' : Nat) (z : List D), n ≤ n' → n' + 1 ≤ n + 2 → (z = [strD "we", strD "they"] ∨ z = [.tup [iD 1, iD 2], .tup [iD 1, iD 3], .tup [iD 2, iD 4], .tup [iD 3, iD 4], .tup [iD 999, iD 1000], .tup [iD 2, iD 5]]) →
        sp__law_pick (some sp) n' [.v (.ref sp), .lst z] (fun r n' => Q (.sh r.d) n') EQ := by
      intro n' z h1 h2 hz
      refine ⟨sp, z, rfl, rfl, ?_, ?_, by omega, fun d hd => ?_⟩
      · rcases hz with rfl | rfl <;> simp
      · rcases hz with rfl | rfl <;> simp
      · rcases hz with rfl | rfl
        · simp at hd
          rcases hd with rfl | rfl
          · exact h .we _ rfl (by omega) (by omega)
          · exact h .they _ rfl (by omega) (by omega)
        · simp at hd
          rcases hd with rfl | rfl | rfl | rfl | rfl | rfl
          · exact h (.ch 1 2) _ rfl (by omega) (by omega)
          · exact h (.ch 1 3) _ rfl (by omega) (by omega)
          · exact h (.ch 2 4) _ rfl (by omega) (by omega)
          · exact h (.ch 3 4) _ rfl (by omega) (by omega)
          · exact h (.ch 999 1000) _ rfl (by omega) (by omega)
          · exact h (.ch 2 5) _ rfl (by omega) (by omega)
    cases b with
    | false =>
      simp
      exact pick n _ (by omega) (by omega) (.inl rfl)
    | true =>
      simp
      refine ⟨sp, 3, rfl, rfl, by decide, by decide, by omega, fun k hk => ?_⟩
      simp
      refine ⟨fun _ => pick (n + 1) _ (by omega) (by omega) (.inr rfl), fun _ => pick (n + 1) _ (by omega) (by omega) (.inl rfl)⟩


end
end K01
end

section
set_option Elab.async false
set_option linter.all false
set_option maxRecDepth 100000
set_option maxHeartbeats 4000000
namespace K01
open PySem PySem.Spec PyProof.Rows L2 DL

section
variable {P : Program} {w : World} {K : PySem.W.Frag} {T : List (Addr × Str)} {mg : Str → Option Value} {base : Heap} {a : Ad}
theorem sc__law_q_clause : FnScope ["stream", "names", "most", "many", "some", "at"] ["stream", "names", "most"] (defScope (topS 30)) := ⟨rfl, rfl, rfl, by decide +kernel, rfl, by decide +kernel, by decide +kernel⟩
theorem bd__law_q_clause : BindsH "_law_q_clause" (topS 30) ["stream", "names", "most"] := fun _ _ _ _ _ _ us hl => match us, hl with | [_, _, _], _ => rfl
def sp__law_q_clause : DSpec := fun st n ds Q EQ => ∃ (sp : Addr) (names : List Str) (m : Int), st = some sp ∧ ds = [.v (.ref sp), .lst (names.map strD), iD m] ∧ names.length ≤ 20 ∧ 0 ≤ m ∧ m ≤ 20 ∧ n + 50 ≤ 1000000 ∧ ∀ (c : Cl) (n' : Nat), (c.map (·.1)).Sublist names → n ≤ n' → n' ≤ n + 50 → Q (.nw (clD c)) n'
theorem f__law_q_clause (B : BF P K mg a) : Fn P w K T mg base 3 "_law_q_clause" ["stream", "names", "most"] (sp__law_q_clause) := by
  refine mkFn B._law_q_clause sc__law_q_clause bd__law_q_clause ?_ (fun f cdv A outer s H E hr => (db_cons (ds_set 3 sc__law_q_clause.nd (de_call (f__law_pick B) hr (by decide) (by rfl) passX (da_cons (de_var 0) (da_cons (dn_lst (da_cons de_int (da_cons de_int (da_cons de_int (da_cons de_int (da_cons de_int (da_cons de_int (da_cons (de_var 2) da_nil)))))))).sh da_nil)))) (db_cons (ds_setN 4 sc__law_q_clause.nd (dn_slice (dn_call (f__law_mixed B) hr (by decide) (by rfl) passX (da_cons (de_var 0) (da_cons (dn_listRg (by rfl) (by rfl) B.list (by rfl) B.range (de_cb call_lenAll (by rfl) B.len (by rfl) p_len (da_cons (de_var 1) da_nil))).sh da_nil))).sh do_none (do_some (de_var 3)))) (db_frz 4 (db_one (ds_retN (dn_comp (ws := [5]) (by rfl) sc__law_q_clause.nd (di_seq (dn_cb cr_sorted (by rfl) B.sorted (by rfl) p_sorted (da_cons (de_var 4) da_nil)).sh) (blkOk_by (own := [("at", 5)]) (by rfl)) (by decide) (fun _ _ _ _ _ => (dg_name 5 sc__law_q_clause.nd)) (fun _ _ _ _ _ => dts_nil) (fun _ _ _ _ _ => (de_tup (da_cons (de_ix ix_list p_ixL (de_var 1) (de_var 5)) (da_cons (de_cmp op_eq p_eq (de_call (f__law_draw B) hr (by decide) (by rfl) passL (da_cons (de_var 0) (da_cons de_int da_nil))) de_int (by rfl)) da_nil))))))))))) ?_
  · intro s n ds Q EQ h
    dsimp only [sp__law_q_clause] at h
    obtain ⟨_, _, _, _, rfl, _⟩ := h; rfl
  · intro s n ds Q EQ h
    dsimp only [sp__law_q_clause] at h
    obtain ⟨sp, names, m, rfl, rfl, hl, h0, h1, hn, h⟩ := h
    simp
    
    have pick : ∀ i : Int, 0 ≤ i → i ≤ 20 → names.length ≤ 1000000 ∧ ∃ n_1 : Nat, (names.length : Int) = n_1 ∧ n_1 ≤ 1000000 ∧ sp__law_mixed (some sp) (n + 1) [.v (.ref sp), .lst ((List.range n_1).map fun i : Nat => D.v (.int (i : Int)))]
       (fun r_1 n' => ∃ o, r_1 = .nw o ∧ ∃ i', D.v (.int i) = .v (.int i') ∧ ∃ ds, o = .lst ds ∧ ∃ x, allL iOf (cutD ds none (some i')) = some x ∧ x.length < 64 ∧ ∀ ns' : List Int, ns'.Perm x → ns'.Pairwise (· ≤ ·) →
          compD (gNm 5) tAll (mTup (mCons (mOp gIxL (mVar 1) (mVar 5)) (mCons (mOp gEq (mCall sp__law_draw (mCons (mVar 0) (mCons (mC (iD 2)) mNil))) (mC (iD 0))) mNil))) [5] (some sp) (fun o z1 => Q (.nw o) z1.n) (ns'.map fun n => .v (.int n)) []
            { env := [.sh (.v (.ref sp)), .sh (.lst (names.map strD)), .sh (iD m), .sh (iD i), .sh (.lst (cutD ds none (some i'))), .un], n := n' }) EQ := by
      intro i hi0 hi
      refine ⟨by omega, names.length, rfl, by omega, sp, _, rfl, rfl, by simp; omega, by simp; omega, sh_map fun x _ => sh_int 3 _, fun ys hp => ⟨_, rfl, i, rfl, ys, rfl, ?_⟩⟩
      obtain ⟨l, hl, rfl⟩ := perm_places hp
      have hlen := hl.length_eq
      simp at hlen
      rw [cut_to hi0, ← List.map_take]
      refine ⟨_, all_ints _, by rw [List.length_take]; omega, fun ns hn hs => ?_⟩
      obtain ⟨pl, rfl, hpw, hlt⟩ := sorted_places hl hn hs
      have sub := rising_sub (⟨#[]⟩ : Str) names pl hpw hlt
      have len := sub.length_le
      rw [List.length_map] at len
      refine comp_ind (fun ds acc z => ∃ (rest : List Nat) (c : Cl), ds = rest.map (fun i : Nat => iD i) ∧ acc = c.map litD ∧ (c.map (·.1)) ++ rest.map (fun i => names.getD i (⟨#[]⟩ : Str)) = pl.map (fun i => names.getD i (⟨#[]⟩ : Str)) ∧ (∀ x ∈ rest, x < names.length) ∧ z = ⟨[.sh (.v (.ref sp)), .sh (.lst (names.map strD)), .sh (iD m), .sh (iD i), .sh (.lst ((l.take i.toNat).map fun x => iD x)), .un], n + 1 + names.length + c.length⟩) ?_ ?_ _ _ _ ⟨pl, [], by simp, rfl, rfl, hlt, by simp⟩
      · rintro acc z ⟨rest, c, h1, rfl, h3, h4, rfl⟩
        have : rest = [] := by simpa using h1.symm
        subst this
        simp at h3
        have e := congrArg List.length h3
        simp at e
        exact h c _ (by rw [h3]; exact sub) (by simp; omega) (by simp; omega)
      · rintro d ds acc z C hC ⟨rest, c, h1, rfl, h3, h4, rfl⟩
        cases rest with
        | nil => simp at h1
        | cons i rest =>
          simp at h1
          obtain ⟨rfl, rfl⟩ := h1
          have e := congrArg List.length h3
          simp at e
          have hi := h4 i (List.mem_cons_self ..)
          simp
          refine ⟨_, atI_nat strD (⟨#[]⟩ : Str) names hi, sp, 2, rfl, rfl, by decide, by decide, by omega, fun k hk => ⟨_, rfl, by simp, by omega, ?_⟩⟩
          refine hC _ _ ⟨rest, c ++ [(names.getD i (⟨#[]⟩ : Str), decide (V.int k = V.int 0))], rfl, by simp, by simpa using h3, fun x hx => h4 x (List.mem_cons_of_mem _ hx), ?_⟩
          simp [Nat.add_assoc]
    refine ⟨sp, _, rfl, rfl, by simp, by simp, by omega, fun d hd => ?_⟩
    simp at hd
    rcases hd with rfl | rfl | rfl | rfl
    · exact pick 1 (by decide) (by decide)
    · exact pick 2 (by decide) (by decide)
    · exact pick 3 (by decide) (by decide)
    · exact pick m h0 h1


end
end K01
end

section
set_option Elab.async false
set_option linter.all false
set_option maxRecDepth 100000
set_option maxHeartbeats 4000000
namespace K01
open PySem PySem.Spec PyProof.Rows L2 DL

theorem perm_map' {α β : Type} {f : α → β} {ys zs : List β} (h : ys.Perm zs) : ∀ l : List α, zs = l.map f → ∃ l' : List α, l'.Perm l ∧ ys = l'.map f := by
  induction h with
  | nil => intro l e; exact ⟨l, List.Perm.refl _, e⟩
  | cons x h ih =>
    intro l e
    cases l with
    | nil => cases e
    | cons a l =>
      simp at e
      obtain ⟨rfl, e⟩ := e
      obtain ⟨l', p, rfl⟩ := ih l e
      exact ⟨a :: l', p.cons a, rfl⟩
  | swap x y t =>
    intro l e
    cases l with
    | nil => cases e
    | cons a l =>
      cases l with
      | nil => simp at e
      | cons b l =>
        simp at e
        obtain ⟨rfl, rfl, rfl⟩ := e
        exact ⟨b :: a :: l, List.Perm.swap .., rfl⟩
  | trans h1 h2 ih1 ih2 =>
    intro l e
    obtain ⟨l2, p2, e2⟩ := ih2 l e
    obtain ⟨l1, p1, e1⟩ := ih1 l2 e2
    exact ⟨l1, p1.trans p2, e1⟩

section
variable {P : Program} {w : World} {K : PySem.W.Frag} {T : List (Addr × Str)} {mg : Str → Option Value} {base : Heap} {a : Ad}
theorem sc__law_q_clauses : FnScope ["stream", "names", "many", "most", "found", "k"] ["stream", "names", "many", "most"] (defScope (topS 31)) := ⟨rfl, rfl, rfl, by decide +kernel, rfl, by decide +kernel, by decide +kernel⟩
theorem bd__law_q_clauses : BindsH "_law_q_clauses" (topS 31) ["stream", "names", "many", "most"] := fun _ _ _ _ _ _ us hl => match us, hl with | [_, _, _, _], _ => rfl
def sp__law_q_clauses : DSpec := fun st n ds Q EQ => ∃ (sp : Addr) (names : List Str) (many most : Int), st = some sp ∧ ds = [.v (.ref sp), .lst (names.map strD), iD many, iD most] ∧ names.length ≤ 20 ∧ (∀ x ∈ names, goodName x) ∧ 0 ≤ many ∧ many ≤ 20 ∧ 0 ≤ most ∧ most ≤ 20 ∧ n + 1100 ≤ 1000000 ∧ ∀ (cs : List Cl) (n' : Nat), (∀ c ∈ cs, (c.map (·.1)).Sublist names) → (cs.length : Int) ≤ many + 2 → n ≤ n' → n' ≤ n + 1100 → Q (.nw (.lst (cs.map clD))) n'
theorem f__law_q_clauses (B : BF P K mg a) : Fn P w K T mg base 4 "_law_q_clauses" ["stream", "names", "many", "most"] (sp__law_q_clauses) := by
  refine mkFn B._law_q_clauses sc__law_q_clauses bd__law_q_clauses ?_ (fun f cdv A outer s H E hr => (db_cons (ds_comp 4 (ws := [5]) (by rfl) sc__law_q_clauses.nd (di_range1 (by rfl) B.range (da_cons (de_var 2) da_nil)) (blkOk_by (own := [("k", 5)]) (by rfl)) (by decide) (fun _ _ _ _ _ => (dg_name 5 sc__law_q_clauses.nd)) (fun _ _ _ _ _ => dts_nil) (fun _ _ _ _ _ => (de_call (f__law_q_clause B) hr (by decide) (by rfl) passL (da_cons (de_var 0) (da_cons (de_var 1) (da_cons (de_var 3) da_nil))))) (hsw := sw_true rfl rfl rfl rfl)) (db_cons (ds_if (DW.t (dw_and (dt_cmp (op_neD (hu64 hr)) p_neD (de_var 4) (dn_lst da_nil).sh (by rfl)) (dw_and1 (dt_cmp op_eq p_eq (de_call (f__law_draw B) hr (by decide) (by rfl) passX (da_cons (de_var 0) (da_cons de_int da_nil))) de_int (by rfl))))) (db_one (ds_expr (de_app 4 (dn_ct (call_list_of) (by rfl) B.list (by rfl) p_list (da_cons (by exact de_itemO 4 (f__law_pick B) hr (by decide) (by rfl) passL (de_var 0)) da_nil)).sh (hpa := fun h => pe_bm PySem.F.plainAttrs_list PySem.F.slot_list_append PySem.F.type_list_append mt_append (pv 4) (pa_cons h pa_nil))))) db_nil) (db_cons (ds_if (dt_cmp op_eq p_eq (de_call (f__law_draw B) hr (by decide) (by rfl) passX (da_cons (de_var 0) (da_cons de_int da_nil))) de_int (by rfl)) (db_one (ds_expr (de_app 4 (dn_lst da_nil).sh (hpa := fun h => pe_bm PySem.F.plainAttrs_list PySem.F.slot_list_append PySem.F.type_list_append mt_append (pv 4) (pa_cons h pa_nil))))) db_nil) (db_frz 4 (db_one (ds_retN (dn_call (f__law_mixed B) hr (by decide) (by rfl) passX (da_cons (de_var 0) (da_cons (de_var 4) da_nil)))))))))) ?_
  · intro s n ds Q EQ h
    dsimp only [sp__law_q_clauses] at h
    obtain ⟨_, _, _, _, _, rfl, _⟩ := h; rfl
  · intro s n ds Q EQ h
    dsimp only [sp__law_q_clauses] at h
    obtain ⟨sp, names, many, most, rfl, rfl, hl, hg, h0, h1, h2, h3, hn, h⟩ := h
    refine bCut (fun z => ∃ (cs : List Cl) (n' : Nat), z = ⟨[.sh (.v (.ref sp)), .sh (.lst (names.map strD)), .sh (iD many), .sh (iD most), .ow (.lst (cs.map clD)), .un], n'⟩ ∧ (cs.length : Int) = many ∧ (∀ c ∈ cs, (c.map (·.1)).Sublist names) ∧ n ≤ n' ∧ n' ≤ n + 1000) (fun C hC => ?_) (fun z hz => ?_)
    · simp
      refine ⟨by omega, by omega, ?_⟩
      refine comp_ind (fun ds acc z => ∃ (cs : List Cl) (n' : Nat), z = ⟨[.sh (.v (.ref sp)), .sh (.lst (names.map strD)), .sh (iD many), .sh (iD most), .un, .un], n'⟩ ∧ acc = cs.map clD ∧ (cs.length + ds.length : Int) = many ∧ (∀ c ∈ cs, (c.map (·.1)).Sublist names) ∧ n ≤ n' ∧ n' ≤ n + 50 * cs.length) ?_ ?_ _ _ _ ⟨[], n, rfl, rfl, by simp [rangeD]; omega, by simp, Nat.le_refl _, by simp⟩
      · rintro acc z ⟨cs, n', rfl, rfl, e, hs, hn1, hn2⟩
        simp at e
        exact hC _ ⟨cs, n', rfl, e, hs, hn1, by omega⟩
      · rintro d ds acc z C' hC' ⟨cs, n', rfl, rfl, e, hs, hn1, hn2⟩
        simp at e
        simp
        refine ⟨sp, names, most, rfl, rfl, hl, h2, h3, by omega, fun c m hc hm1 hm2 => ⟨by omega, hC' _ _ ⟨cs ++ [c], m, rfl, by simp, by simp; omega, ?_, by omega, by simp; omega⟩⟩⟩
        intro x hx
        rcases List.mem_append.mp hx with hx | hx
        · exact hs x hx
        · rw [List.mem_singleton.mp hx]; exact hc
    obtain ⟨cs, n', rfl, hc, hs, hn1, hn2⟩ := hz
    refine bCut (fun z => ∃ (cs : List Cl) (n' : Nat), z = ⟨[.sh (.v (.ref sp)), .sh (.lst (names.map strD)), .sh (iD many), .sh (iD most), .ow (.lst (cs.map clD)), .un], n'⟩ ∧ (cs.length : Int) ≤ many + 1 ∧ (∀ c ∈ cs, (c.map (·.1)).Sublist names) ∧ n ≤ n' ∧ n' ≤ n + 1002) (fun C hC => ?_) (fun z hz => ?_)
    · simp
      have sh : ShD 3 (.lst (cs.map clD)) := sh_lst (sh_map fun c hc => sh_cl fun p hp => good_ok (hg _ ((hs c hc).subset (List.mem_map_of_mem hp))))
      refine ⟨sh.1, rfl, sh.shaped, (sh_lst (k := 0) (ds := []) (fun _ h => nomatch h)).shaped, ?_⟩
      cases cs with
      | nil => exact .inl ⟨by simp [pyD, pyDs, PyData.eqv, PyData.eqvAll], hC _ ⟨[], n', rfl, by simp; omega, hs, hn1, by omega⟩⟩
      | cons c cs =>
        refine .inr ⟨by simp [pyD, pyDs, PyData.eqv, PyData.eqvAll], sp, 9, rfl, rfl, by decide, by decide, by omega, fun k hk => ⟨_, rfl, by simp, fun _ vs hv => ⟨sp, _, rfl, rfl, ?_, ?_, by omega, fun d hd => ?_⟩, fun _ => hC _ ⟨_, _, rfl, by omega, hs, by omega, by omega⟩⟩⟩
        · intro e; simp at e; subst e; simp at hv
        · simp [hv]; simp at hc; omega
        · obtain ⟨v, hv1, rfl⟩ := List.mem_map.mp hd
          obtain ⟨j, hj, rfl⟩ := List.mem_iff_getElem.mp hv1
          have hj' : j < (c :: cs).length := by rw [← hv]; exact hj
          refine ⟨j, _, rfl, List.getElem?_eq_getElem hj, _, ⟨(c :: cs)[j], List.getElem?_eq_getElem hj', rfl⟩, ?_⟩
          refine ⟨_, rfl, by simp at hc ⊢; omega, hC _ ⟨(c :: cs) ++ [(c :: cs)[j]], n' + 1 + 1, by simp, by simp at hc ⊢; omega, ?_, by omega, by omega⟩⟩
          intro x hx
          rcases List.mem_append.mp hx with hx | hx
          · exact hs x hx
          · rw [List.mem_singleton.mp hx]; exact hs _ (List.getElem_mem _)
    obtain ⟨cs, n', rfl, hc, hs, hn1, hn2⟩ := hz
    refine bCut (fun z => ∃ (cs : List Cl) (n' : Nat), z = ⟨[.sh (.v (.ref sp)), .sh (.lst (names.map strD)), .sh (iD many), .sh (iD most), .ow (.lst (cs.map clD)), .un], n'⟩ ∧ (cs.length : Int) ≤ many + 2 ∧ (∀ c ∈ cs, (c.map (·.1)).Sublist names) ∧ n ≤ n' ∧ n' ≤ n + 1003) (fun C hC => ?_) (fun z hz => ?_)
    · simp
      refine ⟨sp, 25, rfl, rfl, by decide, by decide, by omega, fun k hk => ⟨_, rfl, by simp, fun _ => ⟨by omega, hC _ ⟨cs ++ [[]], n' + 1, by simp, by simp; omega, ?_, by omega, by omega⟩⟩, fun _ => hC _ ⟨cs, _, rfl, by omega, hs, by omega, by omega⟩⟩⟩
      intro x hx
      rcases List.mem_append.mp hx with hx | hx
      · exact hs x hx
      · rw [List.mem_singleton.mp hx]; simp
    obtain ⟨cs, n', rfl, hc, hs, hn1, hn2⟩ := hz
    simp
    refine ⟨sp, _, rfl, rfl, by simp; omega, by simp; omega, sh_map fun c hc => (sh_cl fun p hp => good_ok (hg _ ((hs c hc).subset (List.mem_map_of_mem hp)))).mono (by decide), fun ys hp => ⟨_, rfl, ?_⟩⟩
    obtain ⟨l, hl', rfl⟩ := perm_map' hp _ rfl
    have e := hl'.length_eq
    exact h l _ (fun c hc => hs c (hl'.mem_iff.mp hc)) (by omega) (by omega) (by simp; omega)


end
end K01
end

section
set_option Elab.async false
set_option linter.all false
set_option maxRecDepth 100000
set_option maxHeartbeats 4000000
namespace K01
open PySem PySem.Spec PyProof.Rows L2 DL

section
variable {P : Program} {w : World} {K : PySem.W.Frag} {T : List (Addr × Str)} {mg : Str → Option Value} {base : Heap} {a : Ad}
theorem sc__law_q_drawn : FnScope ["stream", "many", "is_chance", "names", "marks", "name", "wishes", "way"] ["stream", "many", "is_chance"] (defScope (topS 32)) := ⟨rfl, rfl, rfl, by decide +kernel, rfl, by decide +kernel, by decide +kernel⟩
theorem bd__law_q_drawn : BindsH "_law_q_drawn" (topS 32) ["stream", "many", "is_chance"] := fun _ _ _ _ _ _ us hl => match us, hl with | [_, _, _], _ => rfl
def sp__law_q_drawn : DSpec := fun st n ds Q EQ => ∃ (sp : Addr) (m : Int) (b : Bool), st = some sp ∧ ds = [.v (.ref sp), iD m, blD b] ∧ 0 ≤ m ∧ m ≤ 16 ∧ n + 2300 ≤ 1000000 ∧ ∀ (q : Qn) (n' : Nat), q.Ok → (∀ x ∈ q.names, x ∈ namesC) → q.marks.length = m.toNat → q.wishes.length ≤ 20 → q.guards.length ≤ 5 → n ≤ n' → n' ≤ n + 2300 → Q (.sh (.tup [.lst (q.marks.map markD), .lst (q.wishes.map clD), .lst (q.guards.map clD)])) n'
theorem f__law_q_drawn (B : BF P K mg a) : Fn P w K T mg base 5 "_law_q_drawn" ["stream", "many", "is_chance"] (sp__law_q_drawn) := by
  refine mkFn B._law_q_drawn sc__law_q_drawn bd__law_q_drawn ?_ (fun f cdv A outer s H E hr => (db_cons (ds_setN 3 sc__law_q_drawn.nd (dn_call (f__law_q_names B) hr (by decide) (by rfl) passX (da_cons (de_var 0) (da_cons (de_var 1) da_nil)))) (db_frz 3 (db_cons (ds_comp 4 (ws := [5]) (by rfl) sc__law_q_drawn.nd (di_seq (de_var 3)) (blkOk_by (own := [("name", 5)]) (by rfl)) (by decide) (fun _ _ _ _ _ => (dg_name 5 sc__law_q_drawn.nd)) (fun _ _ _ _ _ => dts_nil) (fun _ _ _ _ _ => (de_tup (da_cons (de_var 5) (da_cons (de_call (f__law_q_hand B) hr (by decide) (by rfl) passL (da_cons (de_var 0) (da_cons (de_var 2) da_nil))) da_nil)))) (hsw := sw_true rfl rfl rfl rfl)) (db_frz 4 (db_cons (ds_setN 6 sc__law_q_drawn.nd (dn_call (f__law_q_clauses B) hr (by decide) (by rfl) passX (da_cons (de_var 0) (da_cons (de_var 3) (da_cons (de_call (f__law_draw B) hr (by decide) (by rfl) passX (da_cons (de_var 0) (da_cons (de_op op_add p_I0 (de_var 1) de_int) da_nil))) (da_cons de_int da_nil)))))) (db_frz 6 (db_cons (ds_set 7 sc__law_q_drawn.nd (de_call (f__law_draw B) hr (by decide) (by rfl) passX (da_cons (de_var 0) (da_cons de_int da_nil)))) (db_one (ds_ret (de_tup (da_cons (de_var 4) (da_cons (de_var 6) (da_cons (dn_if (dt_cmp op_eq p_eq (de_var 7) de_int (by rfl)) (dn_call (f__law_q_clauses B) hr (by decide) (by rfl) passX (da_cons (de_var 0) (da_cons (de_var 3) (da_cons (de_call (f__law_draw B) hr (by decide) (by rfl) passX (da_cons (de_var 0) (da_cons de_int da_nil))) (da_cons de_int da_nil))))) (dn_lst da_nil)).sh da_nil)))))))))))))) ?_
  · intro s n ds Q EQ h
    dsimp only [sp__law_q_drawn] at h
    obtain ⟨_, _, _, _, rfl, _⟩ := h; rfl
  · intro s n ds Q EQ h
    dsimp only [sp__law_q_drawn] at h
    obtain ⟨sp, m, b, rfl, rfl, h0, h1, hn, h⟩ := h
    refine bCut (fun z => ∃ (names : List Str), z = ⟨[.sh (.v (.ref sp)), .sh (iD m), .sh (blD b), .ow (.lst (names.map strD)), .un, .un, .un, .un], n + 16⟩ ∧ names.Nodup ∧ (∀ x ∈ names, x ∈ namesC) ∧ names.length = m.toNat) (fun C hC => ?_) (fun z hz => ?_)
    · simp
      refine ⟨sp, m, rfl, rfl, h0, h1, by omega, fun names nd gd len => ⟨_, rfl, hC _ ⟨names, rfl, nd, gd, len⟩⟩⟩
    obtain ⟨names, rfl, nd, gc, len⟩ := hz
    have gd : ∀ x ∈ names, goodName x := fun x hx => namesC_good x (gc x hx)
    have hl : names.length ≤ 16 := by omega
    refine ⟨_, rfl, ?_⟩
    refine bCut (fun z => ∃ (ms : List (Str × Hand)) (n' : Nat), z = ⟨[.sh (.v (.ref sp)), .sh (iD m), .sh (blD b), .sh (.lst (names.map strD)), .ow (.lst (ms.map markD)), .un, .un, .un], n'⟩ ∧ ms.map (·.1) = names ∧ (∀ p ∈ ms, p.2.good = true) ∧ n ≤ n' ∧ n' ≤ n + 48) (fun C hC => ?_) (fun z hz => ?_)
    · simp
      refine comp_ind (fun ds acc z => ∃ (ms : List (Str × Hand)) (rest : List Str) (n' : Nat), z = ⟨[.sh (.v (.ref sp)), .sh (iD m), .sh (blD b), .sh (.lst (names.map strD)), .un, .un, .un, .un], n'⟩ ∧ ds = rest.map strD ∧ acc = ms.map markD ∧ ms.map (·.1) ++ rest = names ∧ (∀ p ∈ ms, p.2.good = true) ∧ n ≤ n' ∧ n' ≤ n + 16 + 2 * ms.length) ?_ ?_ _ _ _ ⟨[], names, n + 16, rfl, rfl, rfl, rfl, by simp, by omega, by simp⟩
      · rintro acc z ⟨ms, rest, n', rfl, h1, rfl, h2, h3, h4, h5⟩
        have : rest = [] := by simpa using h1.symm
        subst this
        simp at h2
        have e := congrArg List.length h2
        simp at e
        exact hC _ ⟨ms, n', rfl, h2, h3, h4, by omega⟩
      · rintro d ds acc z C' hC' ⟨ms, rest, n', rfl, h1, rfl, h2, h3, h4, h5⟩
        cases rest with
        | nil => simp at h1
        | cons x rest =>
          simp at h1
          obtain ⟨rfl, rfl⟩ := h1
          have e := congrArg List.length h2
          simp at e
          simp
          refine ⟨sp, b, rfl, rfl, by omega, fun hd n2 hg h6 h7 => ⟨by omega, hC' _ _ ⟨ms ++ [(x, hd)], rest, n2, rfl, rfl, by simp, by simpa using h2, ?_, by omega, by simp; omega⟩⟩⟩
          intro p hp
          rcases List.mem_append.mp hp with hp | hp
          · exact h3 p hp
          · rw [List.mem_singleton.mp hp]; exact hg
    obtain ⟨ms, n', rfl, hm, hgd, hn1, hn2⟩ := hz
    refine ⟨_, rfl, ?_⟩
    simp
    have len' : ms.length = m.toNat := by rw [← len, ← hm, List.length_map]
    have ok : ∀ ws gs : List Cl, (∀ c ∈ ws, (c.map (·.1)).Sublist names) → (∀ c ∈ gs, (c.map (·.1)).Sublist names) → ws.length ≤ 20 → gs.length ≤ 5 → (⟨ms, ws, gs⟩ : Qn).Ok := by
      intro ws gs h1 h2 h3 h4
      have e : (⟨ms, ws, gs⟩ : Qn).names = names := hm
      refine ⟨by rw [e]; exact nd, fun p hp => ⟨gd _ (by rw [← hm]; exact List.mem_map_of_mem hp), hgd p hp⟩, ?_, ?_, ?_, by rw [e]; exact h1, by rw [e]; exact h2⟩
      · show ms.length ≤ 1000; omega
      · show ws.length ≤ 1000; omega
      · show gs.length ≤ 1000; omega
    refine ⟨sp, m + 2, rfl, rfl, by omega, by omega, by omega, fun k hk => ⟨sp, names, k, 4, rfl, rfl, by omega, gd, by omega, by omega, by decide, by decide, by omega, fun ws n2 hws hwl h2 h3 => ⟨_, rfl, sp, 3, rfl, rfl, by decide, by decide, by omega, fun way hway => ⟨_, rfl, by simp, fun _ => ?_, fun _ => ?_⟩⟩⟩⟩
    · refine ⟨sp, 3, rfl, rfl, by decide, by decide, by omega, fun j hj => ⟨sp, names, j, 4, rfl, rfl, by omega, gd, by omega, by omega, by decide, by decide, by omega, fun gs n3 hgs hgl h4 h5 => ⟨_, rfl, ?_⟩⟩⟩
      exact h ⟨ms, ws, gs⟩ _ (ok ws gs hws hgs (by omega) (by omega)) (fun x hx => gc x (by rw [← hm]; exact hx)) len' (by show ws.length ≤ 20; omega) (by show gs.length ≤ 5; omega) (by omega) (by omega)
    · exact h ⟨ms, ws, []⟩ _ (ok ws [] hws (fun _ h => nomatch h) (by omega) (by decide)) (fun x hx => gc x (by rw [← hm]; exact hx)) len' (by show ws.length ≤ 20; omega) (Nat.zero_le 5) (by omega) (by omega)


end
end K01
end

section
set_option Elab.async false
set_option linter.all false
set_option maxRecDepth 100000
set_option maxHeartbeats 4000000
/-! DL41: new trees: tuple(x), (a, b, c), [a, b]. -/
namespace DL
open PySem PySem.Spec PyProof.Rows L2
section
variable {T : List (Addr × Str)} {X : Cx} {E : XK} {e a b : Expr} {es : List Expr} {pos p : Pos} {me ma mb : TDE} {mas : TDA} {x y : Str}
@[reducible, simp] def mTupF (me : TDE) : TDE := fun st z Q EQ => me st z (fun d z1 => ∃ ds, d = .lst ds ∧ Q (.tup ds) z1) EQ
theorem dfr_tuple (hgl : Gl X "tuple") (hm : X.mg "tuple" = none) (ha : DFr T X E e me) (hpa : ∀ {t : TE}, PE X e t → PA X [e] (tCons t tNil) := by intro _ h; exact pa_cons h pa_nil)
    (he : starEach [e] X.env = (false, eval e X.env) :: starEach [] X.env := by rfl) (hpl : (backTo pos (starEach [] X.env)).any (·.1) = false := by rfl) : DFr T X E (.Call (.Name "tuple" p) [e] [] pos) (mTupF me) := by
  obtain ⟨ta, pa, qa⟩ := ha.ex
  refine ⟨⟨_, pe_callTy call_tuple_of hgl hm rfl (hpa pa) (by decide) (by decide) he hpl, fun st F0 H0 F H σ z Q EQ R r er h k => ?_⟩⟩
  refine qa st F0 H0 F H σ z _ EQ _ r er h fun v H1 F1 d z1 s1 r1 p1 h1 => ?_
  obtain ⟨ds, rfl, q⟩ := h1
  cases p1 with
  | lst hf f0 rr =>
    refine ⟨_, _, rfl, .inl ⟨SqL.of (r1.ok.sub _ _ hf), fun l hl => ?_⟩⟩
    obtain ⟨r2, s2⟩ := r1.laidF (u := .tup _) hl (fun ps q => by cases q)
    exact k _ _ _ _ z1 (s1.trans s2) r2 (.tup (SqT.of upd_same) (rr.mono s2 fun _ _ _ q => q)) q
/-- arguments whose lists are all new -/
structure DAF (T : List (Addr × Str)) (X : Cx) (E : XK) (es : List Expr) (m : TDA) : Prop where
  ex : ∃ t : TA, PA X es t ∧ ∀ (st : Option Addr) (F0 H0 F H : Hp) (σ : Sg) (z : Z) (Q : List D → Z → Prop) (EQ : TEX) (R : List V → Hp → Prop), Rel X.K T st F0 H0 F H σ z → ERel X.K T st F0 H0 E EQ → m st z Q EQ →
    (∀ vs H' F' ds z', Same F F' → Rel X.K T st F0 H0 F' H' σ z' → RepsN X.K F' H0 ds vs → Q ds z' → R vs H') → t σ H R
theorem daf_nil : DAF T X E [] mNil := ⟨⟨_, pa_nil, fun st F0 H0 F H σ z Q EQ R r er h k => k [] H F [] z (Same.refl F) r .nil h⟩⟩
theorem daf_cons (he : DFr T X E e me) (ha : DAF T X E es mas) (hs : starEach (e :: es) X.env = (false, eval e X.env) :: starEach es X.env := by rfl) : DAF T X E (e :: es) (mCons me mas) := by
  obtain ⟨te, pe, qe⟩ := he.ex
  obtain ⟨ta, pa, qa⟩ := ha.ex
  refine ⟨⟨_, pa_cons pe pa hs, fun st F0 H0 F H σ z Q EQ R r er h k => ?_⟩⟩
  refine qe st F0 H0 F H σ z _ EQ _ r er h fun v H1 F1 d z1 s1 r1 p1 h1 => ?_
  refine qa st F0 H0 F1 H1 σ z1 _ EQ _ r1 er h1 fun vs H2 F2 ds z2 s2 r2 p2 h2 => ?_
  exact k (v :: vs) H2 F2 (d :: ds) z2 (s1.trans s2) r2 (.cons (p1.mono s2 fun _ _ _ q => q) p2) h2
theorem dfr_tup {k} (ha : DAF T X E es mas) : DFr T X E (.Tuple es k pos) (mTup mas) := by
  obtain ⟨ta, pa, qa⟩ := ha.ex
  refine ⟨⟨_, pe_tup pa, fun st F0 H0 F H σ z Q EQ R r er h k => ?_⟩⟩
  refine qa st F0 H0 F H σ z _ EQ _ r er h fun vs H1 F1 ds z1 s1 r1 p1 h1 => ⟨size_ok (by rw [← p1.len]; exact h1.1), fun p hp => ?_⟩
  obtain ⟨r2, s2⟩ := r1.laidF (u := .tup vs) hp (fun ps q => by cases q)
  exact k _ _ _ (.tup ds) z1 (s1.trans s2) r2 (.tup (SqT.of upd_same) (p1.mono s2 fun _ _ _ q => q)) h1.2
theorem dfr_lst (ha : DAF T X E es mas) : DFr T X E (.List es pos) (mLst mas) := by
  obtain ⟨ta, pa, qa⟩ := ha.ex
  refine ⟨⟨_, pe_lst pa, fun st F0 H0 F H σ z Q EQ R r er h k => ?_⟩⟩
  refine qa st F0 H0 F H σ z _ EQ _ r er h fun vs H1 F1 ds z1 s1 r1 p1 h1 => ⟨size_ok (by rw [← p1.len]; exact h1.1), fun p hp => ?_⟩
  obtain ⟨r2, s2⟩ := r1.laidF (u := .lst vs) hp (fun ps q => by cases q)
  exact k _ _ _ (.lst ds) z1 (s1.trans s2) r2 (.lst upd_same (r1.ok.dom p hp) (p1.mono s2 fun _ _ _ q => q)) h1.2
end
section
variable {T : List (Addr × Str)} {X : Cx} {E : XK} {me : TDE} {mt : TDT} {scope : Scope} {own : List (Str × Nat)} {ws : List Nat} {g : TDG} {mi : TDA} {tg elt iter : Expr} {ifs : List Expr} {pos : Pos}
theorem ds_compF (i : Nat) {y : Str} {py spos : Pos} (hc : X.calm = true) (hN : X.N.Nodup) (hi : DI T X E tg iter mi) (ok : BlkOk X.N X.env.scope scope own) (hw : ∀ i ∈ ws, i ∈ own.map (·.2))
    (hg : ∀ (s : Shared) (H : Hp) (C : Addr) (cl : List (Str × Addr)) (fp : List Addr), DG T (X.blk s H scope (compEnvC scope cl C X.env) fp) tg ws g) (ht : ∀ (s : Shared) (H : Hp) (C : Addr) (cl : List (Str × Addr)) (fp : List Addr), DTs T (X.blk s H scope (compEnvC scope cl C X.env) fp) ifs mt)
    (he : ∀ (s : Shared) (H : Hp) (C : Addr) (cl : List (Str × Addr)) (fp : List Addr), DFr T (X.blk s H scope (compEnvC scope cl C X.env) fp) E0 elt me)
    (hy : X.N[i]? = some y := by rfl) (hyl : X.env.scope.names.lookup y = some .local := by rfl) (hsw : swapsWith (.ListComp elt [⟨tg, iter, ifs, 0⟩] scope pos) (some (.Name y py)) spos.line X.env = pure true := by exact sw_true rfl rfl rfl) (hs : ∀ x, foldedSetIterable iter X.env x = pure x := by intro _; rfl) :
    DS T X E (.Assign [.Name y py] (.ListComp elt [⟨tg, iter, ifs, 0⟩] scope pos) spos) (sSetF i (mComp mi g mt me (own.map (·.2)))) := by
  obtain ⟨wi, pi, qi⟩ := hi.ex
  refine ⟨⟨_, ps_setLc (g := canG X.K T ws g) (tt := canT X.K T mt) (te := canF X.K T me) hc hN hy hyl hsw pi ok (fun s H C cl fp => (hg s H C cl fp).can) (fun s H C cl fp => (ht s H C cl fp).can) (fun s H C cl fp => (he s H C cl fp).can) hs, fun st F0 H0 F H σ z D0 EQ D' r er h k => ?_⟩⟩
  refine qi st F0 H0 F H σ z _ EQ _ r er h fun J H1 F1 ds z1 s1 r1 it h1 => ?_
  exact comp_okF (R := fun x H1 => gName i x σ H1 D'.nx) hw r1 it h1 fun v H' F' o z' s r' w q => k.nx _ H' F' _ (s1.trans s) (r'.setB w) q
end
end DL
end

section
set_option Elab.async false
set_option linter.all false
set_option maxRecDepth 100000
set_option maxHeartbeats 4000000
namespace K01
open PySem PySem.Spec PyProof.Rows L2 DL

/-- scalars, lists and tuples of at most j levels; s tells how many draws a loosened copy takes at most -/
def Lz : Nat → Nat → D → Prop
  | 0, _, _ => False
  | j + 1, s, d => (∃ x : Str, d = strD x) ∨ (∃ x : Bool, d = blD x) ∨ (∃ x : Int, d = iD x) ∨ ∃ (ds : List D) (t : Nat), (d = .lst ds ∨ d = .tup ds) ∧ ds.length * t + 1 ≤ s ∧ ds.length ≤ 1000 ∧ ∀ e ∈ ds, Lz j t e
def sp__law_q_loose (j : Nat) : DSpec := fun st n ds Q EQ => ∃ (sp : Addr) (d : D) (s : Nat), st = some sp ∧ ds = [.v (.ref sp), d] ∧ Lz j s d ∧ n + s ≤ 1000000 ∧ ∀ (e : D) (n' : Nat), Loose d e → n ≤ n' → n' ≤ n + s → Q (.fr e) n'
theorem looses_snoc {d e : D} (h2 : Loose d e) : ∀ {ds es : List D}, Looses ds es → Looses (ds ++ [d]) (es ++ [e])
  | _, _, .nil => .cons h2 .nil
  | _, _, .cons h t => .cons h (looses_snoc h2 t)
theorem looses_len : ∀ {ds es : List D}, Looses ds es → es.length = ds.length
  | _, _, .nil => rfl
  | _, _, .cons h t => congrArg (· + 1) (looses_len t)

section
variable {P : Program} {w : World} {K : PySem.W.Frag} {T : List (Addr × Str)} {mg : Str → Option Value} {base : Heap} {a : Ad}
theorem sc__law_q_loose : FnScope ["stream", "thing", "found", "part"] ["stream", "thing"] (defScope (topS 33)) := ⟨rfl, rfl, rfl, by decide +kernel, rfl, by decide +kernel, by decide +kernel⟩
theorem bd__law_q_loose : BindsH "_law_q_loose" (topS 33) ["stream", "thing"] := fun _ _ _ _ _ _ us hl => match us, hl with | [_, _], _ => rfl
theorem f__law_q_loose (B : BF P K mg a) (j : Nat) (rec : Fn P w K T mg base (j + 2) "_law_q_loose" ["stream", "thing"] (sp__law_q_loose j)) : Fn P w K T mg base (j + 3) "_law_q_loose" ["stream", "thing"] (sp__law_q_loose (j + 1)) := by
  refine mkFn B._law_q_loose sc__law_q_loose bd__law_q_loose ?_ (fun f cdv A outer s H E hr => (db_cons (ds_if (dt_val (de_isT (ts := ["list", "tuple"]) (by rfl) B.isinstance (de_var 1) (pa_cons (pe_ty (by rfl) B.list) (pa_cons (pe_ty (by rfl) B.tuple) pa_nil)) (fun _ _ _ h => h))) (db_cons (ds_compF 2 (ws := [3]) (by rfl) sc__law_q_loose.nd (di_seq (de_var 1)) (blkOk_by (own := [("part", 3)]) (by rfl)) (by decide) (fun _ _ _ _ _ => (dg_name 3 sc__law_q_loose.nd)) (fun _ _ _ _ _ => dts_nil) (fun _ _ _ _ _ => (dfr_call rec hr (Nat.le_refl _) (by rfl) passL (da_cons (de_var 0) (da_cons (de_var 3) da_nil)))) (hsw := sw_true rfl rfl rfl rfl)) (db_one (ds_retF (dfr_if (dt_cmp op_eq p_eq (de_call (f__law_draw B) hr (by omega) (by rfl) passX (da_cons (de_var 0) (da_cons de_int da_nil))) de_int (by rfl)) (dfr_var 2) (dfr_tuple (by rfl) B.tuple (dfr_var 2)))))) db_nil) (db_one (ds_retF (dfr_leaf (de_var 1)))))) ?_
  · intro s n ds Q EQ h
    dsimp only [sp__law_q_loose] at h
    obtain ⟨_, _, _, _, rfl, _⟩ := h; rfl
  · intro s n ds Q EQ h
    dsimp only [sp__law_q_loose] at h
    obtain ⟨sp, d, s, rfl, rfl, hz, hn, h⟩ := h
    rcases hz with ⟨x, rfl⟩ | ⟨x, rfl⟩ | ⟨x, rfl⟩ | ⟨ds, t, hd, hs, hl, hz⟩
    · simp
      exact h _ _ (.v _) (by omega) (by omega)
    · simp
      exact h _ _ (.v _) (by omega) (by omega)
    · simp
      exact h _ _ (.v _) (by omega) (by omega)
    rcases hd with rfl | rfl
    · simp
      refine comp_ind (fun ds' acc z => ∃ (dn : List D) (m : Nat), dn ++ ds' = ds ∧ Looses dn acc ∧ z = ⟨[.sh (.v (.ref sp)), .sh (.lst ds), .un, .un], m⟩ ∧ n ≤ m ∧ m ≤ n + dn.length * t) ?_ ?_ _ _ _ ⟨[], n, rfl, .nil, rfl, Nat.le_refl _, by simp⟩
      · rintro acc z ⟨dn, m, e, lo, rfl, h1, h2⟩
        rw [List.append_nil] at e
        subst e
        simp
        refine ⟨sp, 2, rfl, rfl, by decide, by decide, by omega, fun k hk => ⟨_, rfl, by simp, fun _ => h _ _ (.ll lo) (by omega) (by omega), fun _ => h _ _ (.lt lo) (by omega) (by omega)⟩⟩
      · rintro d ds' acc z C hC ⟨dn, m, e, lo, rfl, h1, h2⟩
        have hd : d ∈ ds := by rw [← e]; simp
        have hlen := congrArg List.length e
        simp at hlen
        have hb : (dn.length + 1) * t ≤ ds.length * t := Nat.mul_le_mul_right t (by omega)
        rw [Nat.add_mul, Nat.one_mul] at hb
        have ha := looses_len lo
        simp
        refine ⟨sp, d, t, rfl, rfl, hz d hd, by omega, fun e' m' lo' h3 h4 => ⟨trivial, by omega, hC _ _ ⟨dn ++ [d], m', by simp [e], looses_snoc lo' lo, rfl, by omega, ?_⟩⟩⟩
        rw [List.length_append, Nat.add_mul]
        simp
        omega
    · simp
      refine comp_ind (fun ds' acc z => ∃ (dn : List D) (m : Nat), dn ++ ds' = ds ∧ Looses dn acc ∧ z = ⟨[.sh (.v (.ref sp)), .sh (.tup ds), .un, .un], m⟩ ∧ n ≤ m ∧ m ≤ n + dn.length * t) ?_ ?_ _ _ _ ⟨[], n, rfl, .nil, rfl, Nat.le_refl _, by simp⟩
      · rintro acc z ⟨dn, m, e, lo, rfl, h1, h2⟩
        rw [List.append_nil] at e
        subst e
        simp
        refine ⟨sp, 2, rfl, rfl, by decide, by decide, by omega, fun k hk => ⟨_, rfl, by simp, fun _ => h _ _ (.tl lo) (by omega) (by omega), fun _ => h _ _ (.tt lo) (by omega) (by omega)⟩⟩
      · rintro d ds' acc z C hC ⟨dn, m, e, lo, rfl, h1, h2⟩
        have hd : d ∈ ds := by rw [← e]; simp
        have hlen := congrArg List.length e
        simp at hlen
        have hb : (dn.length + 1) * t ≤ ds.length * t := Nat.mul_le_mul_right t (by omega)
        rw [Nat.add_mul, Nat.one_mul] at hb
        have ha := looses_len lo
        simp
        refine ⟨sp, d, t, rfl, rfl, hz d hd, by omega, fun e' m' lo' h3 h4 => ⟨trivial, by omega, hC _ _ ⟨dn ++ [d], m', by simp [e], looses_snoc lo' lo, rfl, by omega, ?_⟩⟩⟩
        rw [List.length_append, Nat.add_mul]
        simp
        omega


end
end K01
end

section
set_option Elab.async false
set_option linter.all false
set_option maxRecDepth 100000
set_option maxHeartbeats 4000000
namespace K01
open PySem PySem.Spec PyProof.Rows L2 DL
section
variable {P : Program} {w : World} {K : PySem.W.Frag} {T : List (Addr × Str)} {mg : Str → Option Value} {base : Heap} {a : Ad}
theorem f__law_q_loose0 (B : BF P K mg a) : Fn P w K T mg base 2 "_law_q_loose" ["stream", "thing"] (sp__law_q_loose 0) := by
  refine mkFn B._law_q_loose sc__law_q_loose bd__law_q_loose ?_ (fun f cdv A outer s H E hr => db_never) ?_
  · intro s n ds Q EQ h
    dsimp only [sp__law_q_loose] at h
    obtain ⟨_, _, _, _, rfl, _⟩ := h; rfl
  · intro s n ds Q EQ h
    dsimp only [sp__law_q_loose] at h
    obtain ⟨_, _, _, _, _, hz, _⟩ := h
    exact hz.elim
theorem f__law_q_loose_at (B : BF P K mg a) : ∀ j, Fn P w K T mg base (j + 2) "_law_q_loose" ["stream", "thing"] (sp__law_q_loose j)
  | 0 => f__law_q_loose0 B
  | j + 1 => f__law_q_loose B j (f__law_q_loose_at B j)
/-- what the questions are made of -/
theorem lz_name (j s : Nat) (x : Str) : Lz (j + 1) s (strD x) := .inl ⟨x, rfl⟩
theorem lz_bl (j s : Nat) (x : Bool) : Lz (j + 1) s (blD x) := .inr (.inl ⟨x, rfl⟩)
theorem lz_int (j s : Nat) (x : Int) : Lz (j + 1) s (iD x) := .inr (.inr (.inl ⟨x, rfl⟩))
theorem lz_tup {j t s : Nat} {ds : List D} (h : ∀ e ∈ ds, Lz j t e) (hs : ds.length * t + 1 ≤ s) (hl : ds.length ≤ 1000) : Lz (j + 1) s (.tup ds) := .inr (.inr (.inr ⟨ds, t, .inr rfl, hs, hl, h⟩))
theorem lz_lst {j t s : Nat} {ds : List D} (h : ∀ e ∈ ds, Lz j t e) (hs : ds.length * t + 1 ≤ s) (hl : ds.length ≤ 1000) : Lz (j + 1) s (.lst ds) := .inr (.inr (.inr ⟨ds, t, .inl rfl, hs, hl, h⟩))
theorem lz_lit (p : Str × Bool) : Lz 2 1 (litD p) := lz_tup (t := 0) (fun e he => by
  simp at he
  rcases he with rfl | rfl
  · exact lz_name ..
  · exact lz_bl ..) (by simp) (by simp)
theorem lz_cl (c : Cl) (h : c.length ≤ 16) : Lz 3 17 (clD c) := lz_lst (t := 1) (fun e he => by
  obtain ⟨p, _, rfl⟩ := List.mem_map.mp he
  exact lz_lit p) (by simp; omega) (by simp; omega)
theorem lz_cls (cs : List Cl) (h : ∀ c ∈ cs, c.length ≤ 16) (hl : cs.length ≤ 20) : Lz 4 341 (.lst (cs.map clD)) := lz_lst (t := 17) (fun e he => by
  obtain ⟨p, hp, rfl⟩ := List.mem_map.mp he
  exact lz_cl p (h p hp)) (by simp; omega) (by simp; omega)
theorem lz_mark (p : Str × Hand) : Lz 3 3 (markD p) := lz_tup (t := 1) (fun e he => by
  simp at he
  rcases he with rfl | rfl
  · exact lz_name ..
  · cases p.2 with
    | we => exact lz_name ..
    | they => exact lz_name ..
    | ch i j => exact lz_tup (t := 0) (fun e he => by
        simp at he
        rcases he with rfl | rfl
        · exact lz_int ..
        · exact lz_int ..) (by simp) (by simp)) (by simp) (by simp)
theorem lz_marks (ms : List (Str × Hand)) (hl : ms.length ≤ 16) : Lz 4 49 (.lst (ms.map markD)) := lz_lst (t := 3) (fun e he => by
  obtain ⟨p, hp, rfl⟩ := List.mem_map.mp he
  exact lz_mark p) (by simp; omega) (by simp; omega)
end
end K01
end

section
set_option Elab.async false
set_option linter.all false
set_option maxRecDepth 100000
set_option maxHeartbeats 4000000
namespace K01
open PySem PySem.Spec PyProof.Rows L2 DL

/-- clauses whose literals stand in another order -/
def Mixed (cs' cs : List Cl) : Prop := Paired (fun c' c : Cl => c'.Perm c) cs' cs
theorem mixed_len : ∀ {cs' cs : List Cl}, Mixed cs' cs → cs'.length = cs.length
  | _, _, .nil => rfl
  | _, _, .cons _ t => congrArg (· + 1) (mixed_len t)
theorem mixed_snoc {c' c : Cl} (h : c'.Perm c) : ∀ {cs' cs : List Cl}, Mixed cs' cs → Mixed (cs' ++ [c']) (cs ++ [c])
  | _, _, .nil => .cons h .nil
  | _, _, .cons a t => .cons a (mixed_snoc h t)
theorem mixed_ordered {names : List Str} (hn : names.Nodup) : ∀ {cs' cs : List Cl}, Mixed cs' cs → (∀ c ∈ cs, (c.map (·.1)).Sublist names) → cs = cs'.map (ordered names)
  | _, _, .nil, _ => rfl
  | _, _, .cons h t, hc => by
    rw [List.map_cons, ordered_perm hn (hc _ (List.mem_cons_self ..)) h, ← mixed_ordered hn t fun c hc' => hc c (List.mem_cons_of_mem _ hc')]
theorem mixed_each {P : Cl → Prop} (hp : ∀ c' c : Cl, c'.Perm c → P c → P c') : ∀ {cs' cs : List Cl}, Mixed cs' cs → (∀ c ∈ cs, P c) → ∀ c ∈ cs', P c
  | _, _, .nil, _, c, h => by cases h
  | _, _, .cons h t, hc, c, hm => by
    rcases List.mem_cons.mp hm with rfl | hm
    · exact hp _ _ h (hc _ (List.mem_cons_self ..))
    · exact mixed_each hp t (fun c hc' => hc c (List.mem_cons_of_mem _ hc')) c hm
/-- what is drawn: few marks, few clauses -/
structure Few (q : Qn) : Prop where
  ok : q.Ok
  m : q.marks.length ≤ 16
  w : q.wishes.length ≤ 20
  g : q.guards.length ≤ 20
theorem clsO_good {names : List Str} {ws : List Cl} {d : D} (hl : Loose (.lst (ws.map clD)) d) (h : ∀ c ∈ ws, (∀ p ∈ c, p.1 ∈ names) ∧ (c.map (·.1)).Nodup ∧ c.length ≤ 1000) (len : ws.length ≤ 1000) : ClsO names d (ws.map some) := by
  obtain ⟨es, hd, hes⟩ := loose_lt hl
  refine .lst es d _ hd ?_ (by simpa using len)
  clear hl hd len
  induction ws generalizing es with
  | nil => cases hes; exact .nil
  | cons c ws ih =>
    cases hes with
    | cons h1 t =>
      obtain ⟨g1, g2, g3⟩ := h c (List.mem_cons_self ..)
      exact .cons (.good c _ h1 g1 g2 g3) (ih (fun c hc => h c (List.mem_cons_of_mem _ hc)) _ t)
theorem first_some {ws : List Cl} {i : Nat} (h : firstNone (ws.map some) i) : False := by
  obtain ⟨h1, _⟩ := h
  rw [List.getElem?_map] at h1
  cases q : ws[i]? with
  | none => rw [q] at h1; cases h1
  | some c => rw [q] at h1; cases h1
theorem somes_inj : ∀ {ws vs : List Cl}, ws.map some = vs.map some → ws = vs
  | [], [], _ => rfl
  | [], _ :: _, h => by simp at h
  | _ :: _, [], h => by simp at h
  | c :: ws, d :: vs, h => by
    simp at h
    rw [h.1, somes_inj h.2]
theorem init_good (a : Ad) {st : Option Addr} {n : Nat} {q : Qn} (ok : q.Ok) {ws gs : List Cl} {d1 d2 d3 : D} (l1 : Loose (.lst (q.marks.map markD)) d1) (l2 : Loose (.lst (ws.map clD)) d2) (l3 : Loose (.lst (gs.map clD)) d3)
    (hw : ∀ c ∈ ws, (∀ p ∈ c, p.1 ∈ q.names) ∧ (c.map (·.1)).Nodup ∧ c.length ≤ 1000) (hg : ∀ c ∈ gs, (∀ p ∈ c, p.1 ∈ q.names) ∧ (c.map (·.1)).Nodup ∧ c.length ≤ 1000) (lw : ws.length ≤ 1000) (lg : gs.length ≤ 1000) (ew : q.wishes = ws.map (ordered q.names)) (eg : q.guards = gs.map (ordered q.names))
    {Q : List (Str × D) → Nat → Prop} {EQ : TEX} (h : Q (fieldsD q) n) : sp_Q_init a st n [d1, d2, d3] Q EQ := by
  refine ⟨d1, d2, d3, _, rfl, .good q.marks _ l1 ok.nd ok.good ok.len, nofun, fun ms e => ?_⟩
  cases e
  refine ⟨_, clsO_good l2 hw lw, fun i hi => (first_some hi).elim, fun ws' e => ?_⟩
  have e := somes_inj e
  subst e
  refine ⟨_, clsO_good l3 hg lg, fun i hi => (first_some hi).elim, fun gs' e => ?_⟩
  have e := somes_inj e
  subst e
  have e : mkQ q.marks ws gs = q := by
    obtain ⟨ms, w, g⟩ := q
    show (⟨ms, ws.map (ordered (ms.map (·.1))), gs.map (ordered (ms.map (·.1)))⟩ : Qn) = ⟨ms, w, g⟩
    rw [show w = ws.map (ordered (ms.map (·.1))) from ew, show g = gs.map (ordered (ms.map (·.1))) from eg]
  rw [e]
  exact h
theorem Few.cl {q : Qn} (f : Few q) {c : Cl} (h : c ∈ q.wishes ∨ c ∈ q.guards) : c.length ≤ 16 := by
  have e : (c.map (·.1)).Sublist q.names := h.elim (f.ok.ws c) (f.ok.gs c)
  have := e.length_le
  have hm := f.m
  unfold Qn.names at this
  simp at this
  omega

section
variable {P : Program} {w : World} {K : PySem.W.Frag} {T : List (Addr × Str)} {mg : Str → Option Value} {base : Heap} {a : Ad}
theorem sc__law_q_made : FnScope ["stream", "question", "both", "clauses", "clause"] ["stream", "question"] (defScope (topS 34)) := ⟨rfl, rfl, rfl, by decide +kernel, rfl, by decide +kernel, by decide +kernel⟩
theorem bd__law_q_made : BindsH "_law_q_made" (topS 34) ["stream", "question"] := fun _ _ _ _ _ _ us hl => match us, hl with | [_, _], _ => rfl
def sp__law_q_made (a : Ad) : DSpec := fun st n ds Q _ => ∃ (sp : Addr) (q : Qn), st = some sp ∧ ds = [.v (.ref sp), rawD q] ∧ Few q ∧ n + 1500 ≤ 1000000 ∧ ∀ m, n ≤ m → m ≤ n + 1500 → Q (.fr (qD a.C q)) m
theorem f__law_q_made (B : BQ P K mg a) : Fn P w K T mg base 8 "_law_q_made" ["stream", "question"] (sp__law_q_made a) := by
  refine mkFn B._law_q_made sc__law_q_made bd__law_q_made ?_ (fun f cdv A outer s H E hr => (db_cons (ds_setN 2 sc__law_q_made.nd (dn_lst da_nil)) (db_cons (ds_for ownX (by rfl) (di_seq (de_sliceT (de_var 1) (do_some de_int) do_none)) (dg_name 3 sc__law_q_made.nd) (db_one (ds_expr (de_app 2 (de_call (f__law_q_loose_at B.toBF 4) hr (by decide) (by rfl) passX (da_cons (de_var 0) (da_cons (dn_comp (ws := [4]) (by rfl) sc__law_q_made.nd (di_seq (de_var 3)) (blkOk_by (own := [("clause", 4)]) (by rfl)) (by decide) (fun _ _ _ _ _ => (dg_name 4 sc__law_q_made.nd)) (fun _ _ _ _ _ => dts_nil) (fun _ _ _ _ _ => (de_call (f__law_mixed B.toBF) hr (by decide) (by rfl) passL (da_cons (de_var 0) (da_cons (de_var 4) da_nil))))).sh da_nil))) (hpa := fun h => pe_bm PySem.F.plainAttrs_list PySem.F.slot_list_append PySem.F.type_list_append mt_append (pv 2) (pa_cons h pa_nil)))))) (db_one (ds_retF (dfr_make (f_Q_init B) hr (by decide) (by rfl) passX (da_cons (de_call (f__law_q_loose_at B.toBF 4) hr (by decide) (by rfl) passX (da_cons (de_var 0) (da_cons (de_ix ix_tup p_ixT (de_var 1) de_int) da_nil))) (da_cons (de_ix ix_list p_ixL (de_var 2) de_int) (da_cons (de_ix ix_list p_ixL (de_var 2) de_int) da_nil))))))))) ?_
  · intro s n ds Q EQ h
    dsimp only [sp__law_q_made] at h
    obtain ⟨_, _, _, rfl, _⟩ := h; rfl
  · intro s n ds Q EQ h
    dsimp only [sp__law_q_made] at h
    obtain ⟨sp, q, rfl, rfl, few, hn, h⟩ := h
    have hcl := fun c h => few.cl (c := c) h
    refine bCut (fun z => z = ⟨[.sh (.v (.ref sp)), .sh (rawD q), .ow (.lst []), .un, .un], n⟩) (fun C hC => ?_) (fun z hz => ?_)
    · simp
      exact hC _ rfl
    subst hz
    refine bCut (fun z => ∃ (d2 d3 : D) (ws gs : List Cl) (m : Nat) (x y : DV), Mixed ws q.wishes ∧ Mixed gs q.guards ∧ Loose (.lst (ws.map clD)) d2 ∧ Loose (.lst (gs.map clD)) d3 ∧ n ≤ m ∧ m ≤ n + 1322 ∧ z = ⟨[.sh (.v (.ref sp)), .sh (rawD q), .ow (.lst [d2, d3]), x, y], m⟩) (fun C hC => ?_) (fun z hz => ?_)
    · simp [-rawD]
      refine ⟨by decide, ?_⟩
      rw [show DL.cutD [D.lst (q.marks.map markD), D.lst (q.wishes.map clD), D.lst (q.guards.map clD)] (some 1) none = [q.wishes, q.guards].map (fun cs => D.lst (cs.map clD)) from rfl]
      refine for_ind (fun ds z => ∃ (dn : List (List Cl × D)) (rest : List (List Cl)) (m : Nat) (x y : DV), ds = rest.map (fun cs => D.lst (cs.map clD)) ∧ dn.map (·.1) ++ rest = [q.wishes, q.guards] ∧ (∀ p ∈ dn, ∃ cs', Mixed cs' p.1 ∧ Loose (.lst (cs'.map clD)) p.2) ∧ z = ⟨[.sh (.v (.ref sp)), .sh (rawD q), .ow (.lst (dn.map (·.2))), x, y], m⟩ ∧ n ≤ m ∧ m ≤ n + 661 * dn.length) ?_ ?_ _ _ ⟨[], _, n, .un, .un, rfl, rfl, by simp, rfl, Nat.le_refl _, by simp⟩
      · rintro z ⟨dn, rest, m, x, y, q1, q2, q3, rfl, q4, q5⟩
        have : rest = [] := by simpa using q1.symm
        subst this
        rw [List.append_nil] at q2
        obtain ⟨p1, p2, rfl⟩ : ∃ p1 p2, dn = [p1, p2] := by
          rcases dn with _ | ⟨p1, _ | ⟨p2, _ | ⟨p3, dn⟩⟩⟩
          · simp at q2
          · simp at q2
          · exact ⟨_, _, rfl⟩
          · simp at q2
        simp at q2
        obtain ⟨w1, a1, b1⟩ := q3 p1 (by simp)
        obtain ⟨w2, a2, b2⟩ := q3 p2 (by simp)
        rw [q2.1] at a1
        rw [q2.2] at a2
        simp at q5
        exact hC _ ⟨p1.2, p2.2, w1, w2, m, x, y, a1, a2, b1, b2, q4, by omega, rfl⟩
      · rintro d ds z C2 hC2 ⟨dn, rest, m, x, y, q1, q2, q3, rfl, q4, q5⟩
        cases rest with
        | nil => simp at q1
        | cons cs rest =>
          simp at q1
          obtain ⟨rfl, rfl⟩ := q1
          have hlen : dn.length ≤ 1 := by
            have := congrArg List.length q2
            simp at this
            omega
          have hcs : cs ∈ [q.wishes, q.guards] := by rw [← q2]; simp
          have hsub : ∀ c ∈ cs, ∀ p ∈ c, p.1 ∈ q.names := by
            simp at hcs
            rcases hcs with rfl | rfl
            · exact fun c hc p hp => (few.ok.ws c hc).subset (List.mem_map_of_mem hp)
            · exact fun c hc p hp => (few.ok.gs c hc).subset (List.mem_map_of_mem hp)
          have hc : cs.length ≤ 20 ∧ ∀ c ∈ cs, c.length ≤ 16 := by
            simp at hcs
            rcases hcs with rfl | rfl
            · exact ⟨few.w, fun c hc => few.cl (.inl hc)⟩
            · exact ⟨few.g, fun c hc => few.cl (.inr hc)⟩
          simp [-rawD]
          refine comp_ind (fun ds acc z => ∃ (cd cr cl : List Cl) (m2 : Nat), ds = cr.map clD ∧ cd ++ cr = cs ∧ acc = cl.map clD ∧ Mixed cl cd ∧ z = ⟨[.sh (.v (.ref sp)), .sh (rawD q), .ow (.lst (dn.map (·.2))), .sh (.lst (cs.map clD)), .un], m2⟩ ∧ m ≤ m2 ∧ m2 ≤ m + 16 * cd.length) ?_ ?_ _ _ _ ⟨[], cs, [], m, rfl, rfl, rfl, .nil, rfl, Nat.le_refl _, by simp⟩
          · rintro acc z ⟨cd, cr, cl, m2, r1, r2, rfl, r4, rfl, r5, r6⟩
            have : cr = [] := by simpa using r1.symm
            subst this
            rw [List.append_nil] at r2
            subst r2
            have hl := mixed_len r4
            have hc2 := mixed_each (P := fun c => c.length ≤ 16) (fun c' c p h => by rw [p.length_eq]; exact h) r4 hc.2
            have h16 : 16 * cd.length ≤ 320 := by omega
            simp [-rawD]
            refine ⟨sp, .lst (cl.map clD), 341, rfl, rfl, lz_cls cl hc2 (by omega), by omega, fun e m3 lo t1 t2 => ?_⟩
            refine ⟨by omega, hC2 _ ⟨dn ++ [(cd, e)], rest, m3, .sh (.lst (cd.map clD)), .un, rfl, by simpa using q2, fun p hp => ?_, by simp, by omega, by simp; omega⟩⟩
            rcases List.mem_append.mp hp with hp | hp
            · exact q3 p hp
            · simp at hp
              subst hp
              exact ⟨cl, r4, lo⟩
          · rintro d ds acc z C3 hC3 ⟨cd, cr, cl, m2, r1, r2, rfl, r4, rfl, r5, r6⟩
            cases cr with
            | nil => simp at r1
            | cons c cr =>
              simp at r1
              obtain ⟨rfl, rfl⟩ := r1
              have hm : c ∈ cs := by rw [← r2]; simp
              have hcc := hc.2 c hm
              have hcd := congrArg List.length r2
              have hl := mixed_len r4
              simp at hcd
              have h16 : 16 * cd.length ≤ 320 := by omega
              simp [-rawD]
              refine ⟨sp, c.map litD, rfl, by simp, by simp; omega, by simp; omega, sh_map fun p hp => (sh_lit (ok_str few.ok _ (hsub c hm p hp))).mono (by decide), fun ys hp => ?_⟩
              obtain ⟨c', pc, rfl⟩ := perm_map' hp c rfl
              simp [-rawD]
              refine ⟨by omega, hC3 _ _ ⟨cd ++ [c], cr, cl ++ [c'], m2 + c.length, rfl, by simpa using r2, by simp, mixed_snoc pc r4, rfl, by omega, by simp; omega⟩⟩
    obtain ⟨d2, d3, ws, gs, m, x, y, m1, m2, l2, l3, n1, n2, rfl⟩ := hz
    simp [-rawD]
    have pc : ∀ {cs' cs : List Cl}, Mixed cs' cs → (∀ c ∈ cs, (c.map (·.1)).Sublist q.names ∧ c.length ≤ 16) → ∀ c ∈ cs', (∀ p ∈ c, p.1 ∈ q.names) ∧ (c.map (·.1)).Nodup ∧ c.length ≤ 1000 := fun hm hc c hc' => by
      refine mixed_each (P := fun c => (∀ p ∈ c, p.1 ∈ q.names) ∧ (c.map (·.1)).Nodup ∧ c.length ≤ 1000) (fun c' c p h => ⟨fun x hx => h.1 x (p.mem_iff.mp hx), (p.map (fun x : Str × Bool => x.1)).nodup_iff.mpr h.2.1, by rw [p.length_eq]; exact h.2.2⟩) hm (fun c hc2 => ?_) c hc'
      obtain ⟨h1, h2⟩ := hc c hc2
      exact ⟨fun p hp => h1.subset (List.mem_map.mpr ⟨p, hp, rfl⟩), h1.nodup few.ok.nd, by omega⟩
    have lw := mixed_len m1
    have lg := mixed_len m2
    have fw := few.w
    have fg := few.g
    refine ⟨sp, _, 49, rfl, rfl, lz_marks _ few.m, by omega, fun d1 m3 l1 t1 t2 => ?_⟩
    exact init_good a few.ok l1 l2 l3 (pc m1 (fun c hc => ⟨few.ok.ws c hc, hcl c (.inl hc)⟩)) (pc m2 (fun c hc => ⟨few.ok.gs c hc, hcl c (.inr hc)⟩)) (by omega) (by omega) (mixed_ordered few.ok.nd m1 few.ok.ws) (mixed_ordered few.ok.nd m2 few.ok.gs) (h m3 (by omega) (by omega))


end
end K01
end

section
set_option Elab.async false
set_option linter.all false
set_option maxRecDepth 100000
set_option maxHeartbeats 4000000
namespace K01
open PySem PySem.Spec PyProof.Rows L2 DL

/-- data of at most j levels, like to itself -/
def Sm : Nat → D → Prop
  | 0, _ => False
  | j + 1, d => d = .v .non ∨ (∃ x : Str, d = strD x) ∨ (∃ x : Bool, d = blD x) ∨ (∃ x : Int, d = iD x) ∨ ∃ ds : List D, (d = .lst ds ∨ d = .tup ds) ∧ ds.length ≤ 1000 ∧ ∀ e ∈ ds, Sm j e
def sp__law_same (j : Nat) : DSpec := fun _ n ds Q _ => ∃ d : D, ds = [d, d] ∧ Sm j d ∧ Q (.sh (blD true)) n
theorem zipD_self : ∀ ds : List D, zipD ds ds = ds.map fun d => .tup [d, d]
  | [] => rfl
  | d :: ds => by rw [List.map_cons, ← zipD_self ds]; rfl

section
variable {P : Program} {w : World} {K : PySem.W.Frag} {T : List (Addr × Str)} {mg : Str → Option Value} {base : Heap} {a : Ad}
theorem sc__law_same : FnScope ["found", "wanted", "x", "y"] ["found", "wanted"] (defScope (topS 26)) := ⟨rfl, rfl, rfl, by decide +kernel, rfl, by decide +kernel, by decide +kernel⟩
theorem bd__law_same : BindsH "_law_same" (topS 26) ["found", "wanted"] := fun _ _ _ _ _ _ us hl => match us, hl with | [_, _], _ => rfl
theorem f__law_same (B : BF P K mg a) (j : Nat) (rec : Fn P w K T mg base (j + 1) "_law_same" ["found", "wanted"] (sp__law_same j)) : Fn P w K T mg base (j + 2) "_law_same" ["found", "wanted"] (sp__law_same (j + 1)) := by
  refine mkFn B._law_same sc__law_same bd__law_same ?_ (fun f cdv A outer s H E hr => (db_cons (ds_if (dt_val (de_isT (ts := ["list", "tuple"]) (by rfl) B.isinstance (de_var 1) (pa_cons (pe_ty (by rfl) B.list) (pa_cons (pe_ty (by rfl) B.tuple) pa_nil)) (fun _ _ _ h => h))) (db_cons (ds_if (DW.t (dw_or (dt_cmp op_ne p_ne (de_is1 (by rfl) B.isinstance (by rfl) B.list (de_var 0)) (de_is1 (by rfl) B.isinstance (by rfl) B.list (de_var 1)) (by rfl)) (dw_or1 (dt_cmp op_ne p_ne (de_is1 (by rfl) B.isinstance (by rfl) B.tuple (de_var 0)) (de_is1 (by rfl) B.isinstance (by rfl) B.tuple (de_var 1)) (by rfl))))) (db_one (ds_ret de_bl)) db_nil) (db_one (ds_ret (de_and (de_cmp op_eq p_eq (de_cb call_lenAll (by rfl) B.len (by rfl) p_len (da_cons (de_var 0) da_nil)) (de_cb call_lenAll (by rfl) B.len (by rfl) p_len (da_cons (de_var 1) da_nil)) (by rfl)) (de_one (de_cb (cr_all (by rfl)) (by rfl) B.all (by rfl) p_all (da_cons (dn_comp (ws := [2, 3]) (by rfl) sc__law_same.nd (di_zipB (by rfl) B.zip (da_cons (de_var 0) (da_cons (de_var 1) da_nil))) (blkOk_by (own := [("x", 2), ("y", 3)]) (by rfl)) (by decide) (fun _ _ _ _ _ => (dg_tup2 (by rfl) (dg_name 2 sc__law_same.nd) (dg_name 3 sc__law_same.nd))) (fun _ _ _ _ _ => dts_nil) (fun _ _ _ _ _ => (de_call rec hr (Nat.le_refl _) (by rfl) passL (da_cons (de_var 2) (da_cons (de_var 3) da_nil))))).sh da_nil))))))) db_nil) (db_cons (ds_if (dt_val (de_is1 (by rfl) B.isinstance (by rfl) B.dict (de_var 1))) db_never db_nil) (db_cons (ds_if (dt_val (de_is1 (by rfl) B.isinstance (by rfl) B.int (de_var 1))) (db_one (ds_ret (de_and (de_is1 (by rfl) B.isinstance (by rfl) B.int (de_var 0)) (de_and (de_cmp op_eq p_eq (de_is1 (by rfl) B.isinstance (by rfl) B.bool (de_var 0)) (de_is1 (by rfl) B.isinstance (by rfl) B.bool (de_var 1)) (by rfl)) (de_one (de_cmp op_eq p_eq (de_var 0) (de_var 1) (by rfl))))))) db_nil) (db_one (ds_ret (de_and (de_not (de_isT (ts := ["int", "list", "tuple", "dict"]) (by rfl) B.isinstance (de_var 0) (pa_cons (pe_ty (by rfl) B.int) (pa_cons (pe_ty (by rfl) B.list) (pa_cons (pe_ty (by rfl) B.tuple) (pa_cons (pe_ty (by rfl) B.dict) pa_nil)))) (fun _ _ _ h => h))) (de_one (de_cmp op_eq p_eq (de_var 0) (de_var 1) (by rfl)))))))))) ?_
  · intro s n ds Q EQ h
    dsimp only [sp__law_same] at h
    obtain ⟨_, rfl, _⟩ := h; rfl
  · intro s n ds Q EQ h
    dsimp only [sp__law_same] at h
    obtain ⟨d, rfl, hs, h⟩ := h
    rcases hs with rfl | ⟨x, rfl⟩ | ⟨x, rfl⟩ | ⟨x, rfl⟩ | ⟨ds, hd, hl, hs⟩
    · simp
      exact ⟨rfl, h⟩
    · simp
      exact h
    · simp
      exact h
    · simp
      exact h
    · rcases hd with rfl | rfl
      · simp
        refine ⟨by omega, _, _, ⟨rfl, rfl⟩, _, _, .inl ⟨rfl, rfl⟩, ?_⟩
        rw [zipD_self]
        refine comp_mapL (f := fun _ => blD true) (by omega) (fun e he R R2 h1 h2 => ?_) ?_
        · simp
          exact h2 _ ⟨e, rfl, hs e he, h1 _ rfl⟩
        · refine ⟨_, rfl, ds.map fun _ => true, allL_map (h := fun _ : D => blD true) (g := fun _ => true) (f := blOf) (fun _ => rfl) ds, ?_⟩
          rw [show (ds.map fun _ => true).all id = true by simp]
          exact h
      · simp
        refine ⟨by omega, _, _, ⟨rfl, rfl⟩, _, _, .inr ⟨rfl, rfl⟩, ?_⟩
        rw [zipD_self]
        refine comp_mapL (f := fun _ => blD true) (by omega) (fun e he R R2 h1 h2 => ?_) ?_
        · simp
          exact h2 _ ⟨e, rfl, hs e he, h1 _ rfl⟩
        · refine ⟨_, rfl, ds.map fun _ => true, allL_map (h := fun _ : D => blD true) (g := fun _ => true) (f := blOf) (fun _ => rfl) ds, ?_⟩
          rw [show (ds.map fun _ => true).all id = true by simp]
          exact h

theorem f__law_same0 (B : BF P K mg a) : Fn P w K T mg base 1 "_law_same" ["found", "wanted"] (sp__law_same 0) := by
  refine mkFn B._law_same sc__law_same bd__law_same ?_ (fun f cdv A outer s H E hr => db_never) ?_
  · intro s n ds Q EQ h
    dsimp only [sp__law_same] at h
    obtain ⟨_, rfl, _⟩ := h; rfl
  · intro s n ds Q EQ h
    dsimp only [sp__law_same] at h
    obtain ⟨_, _, hz, _⟩ := h
    exact hz.elim
theorem f__law_same_at (B : BF P K mg a) : ∀ j, Fn P w K T mg base (j + 1) "_law_same" ["found", "wanted"] (sp__law_same j)
  | 0 => f__law_same0 B
  | j + 1 => f__law_same B j (f__law_same_at B j)


end
end K01
end

section
set_option Elab.async false
set_option linter.all false
set_option maxRecDepth 100000
set_option maxHeartbeats 4000000
namespace K01
open PySem PySem.Spec PyProof.Rows L2 DL

theorem abs_bits (x : Int) : Builtin.Int.intBits (if x < 0 then -x else x) = Builtin.Int.intBits x := by
  unfold Builtin.Int.intBits
  split <;> simp

section
variable {P : Program} {w : World} {K : PySem.W.Frag} {T : List (Addr × Str)} {mg : Str → Option Value} {base : Heap} {a : Ad}
theorem sc__law_stream : FnScope ["script", "k", "cell", "mixed", "at", "one"] ["script", "k"] (defScope (topS 22)) := ⟨rfl, rfl, rfl, by decide +kernel, rfl, by decide +kernel, by decide +kernel⟩
theorem bd__law_stream : BindsH "_law_stream" (topS 22) ["script", "k"] := fun _ _ _ _ _ _ us hl => match us, hl with | [_, _], _ => rfl
def sp__law_stream : DSpec := fun _ n ds Q _ => ∃ (xs : List Int) (t : Int), ds = [.lsz xs, iD t] ∧ xs.length ≤ 63 ∧ 0 ≤ t ∧ t ≤ 10 ∧ (∀ x ∈ xs, Builtin.Int.intBits x ≤ 1048576) ∧ ∀ z0 z1 : Int, Builtin.Int.intBits z0 ≤ 1048576 → 0 ≤ z1 → z1 ≤ 1099511627776 → Q (.nw (.lst [iD z0, iD z1, iD 0])) n
theorem f__law_stream (B : BF P K mg a) : Fn P w K T mg base 1 "_law_stream" ["script", "k"] (sp__law_stream) := by
  refine mkFn B._law_stream sc__law_stream bd__law_stream ?_ (fun f cdv A outer s H E hr => (db_cons (ds_set 2 sc__law_stream.nd (de_if (dt_cmp op_lt p_I0 (de_var 1) (de_cb call_lenAll (by rfl) B.len (by rfl) p_lenZ (da_cons (de_var 0) da_nil)) (by rfl)) (de_cb call_abs (by rfl) B.abs (by rfl) p_abs (da_cons (de_ix ix_list p_ixZ (de_var 0) (de_var 1)) da_nil)) (de_op op_add p_I0 (de_op op_mod p_I (de_ct call_int1 (by rfl) B.int (by rfl) p_int (da_cons (de_cb (cr_sum (by rfl)) (by rfl) B.sum (by rfl) p_sum (da_cons (dn_sliceZ (de_var 0) do_none (do_some de_int)).sh da_nil)) da_nil)) de_int) (de_op op_mul p_I de_int (de_var 1))))) (db_cons (ds_set 3 sc__law_stream.nd (de_op op_mod p_I (de_cb (cr_sum (by rfl)) (by rfl) B.sum (by rfl) p_sum (da_cons (dn_comp (ws := [4, 5]) (by rfl) sc__law_stream.nd (di_enumZ (by rfl) B.enumerate (da_cons (de_var 0) da_nil)) (blkOk_by (own := [("at", 4), ("one", 5)]) (by rfl)) (by decide) (fun _ _ _ _ _ => (dg_tup2 (by rfl) (dg_name 4 sc__law_stream.nd) (dg_name 5 sc__law_stream.nd))) (fun _ _ _ _ _ => dts_nil) (fun _ _ _ _ _ => (de_op op_mul p_I (de_op op_add p_I0 (de_var 4) de_int) (de_ct call_int1 (by rfl) B.int (by rfl) p_int (da_cons (de_cb call_abs (by rfl) B.abs (by rfl) p_abs (da_cons (de_var 5) da_nil)) da_nil))))).sh da_nil)) de_int)) (db_one (ds_retN (dn_lst (da_cons (de_if (dt_cmp op_ge p_I0 (de_var 2) (de_op op_pow p_I de_int de_int) (by rfl)) (de_var 2) de_int) (da_cons (de_op op_add p_I0 (de_op op_mod p_I (de_ct call_int1 (by rfl) B.int (by rfl) p_int (da_cons (de_op op_add p_I0 (de_var 2) (de_var 3)) da_nil)) de_int) (de_op op_mul p_I de_int (de_var 1))) (da_cons de_int da_nil))))))))) ?_
  · intro s n ds Q EQ h
    dsimp only [sp__law_stream] at h
    obtain ⟨_, _, rfl, _⟩ := h; rfl
  · intro s n ds Q EQ h
    dsimp only [sp__law_stream] at h
    obtain ⟨xs, t, rfl, hl, h0, h1, hb, h⟩ := h
    have small : ∀ x : Int, 0 ≤ x → x ≤ 2000000 → Builtin.Int.intBits x ≤ 1048576 := fun x g1 g2 => Nat.le_trans (PySem.intBits_le_64 (by omega) (by omega)) (by decide)
    refine bCut (fun z => ∃ cell : Int, Builtin.Int.intBits cell ≤ 1048576 ∧ z = ⟨[.sh (.lsz xs), .sh (iD t), .sh (iD cell), .un, .un, .un], n⟩) (fun C hC => ?_) (fun z hz => ?_)
    · simp
      refine ⟨fun ht => ?_, fun ht => ?_⟩
      · have hk : t.toNat < xs.length := by omega
        have ha : atI xs t = some (xs.getD t.toNat 0) := by
          have := atI_nat (fun x => x) 0 xs hk
          rw [List.map_id'] at this
          rwa [Int.toNat_of_nonneg h0] at this
        refine ⟨_, ha, hC _ ⟨_, ?_, rfl⟩⟩
        rw [abs_bits]
        refine hb _ ?_
        rw [List.getD, List.getElem?_eq_getElem hk]
        exact List.getElem_mem hk
      · rw [cut_to (by decide), ← List.map_take]
        refine ⟨xs.take 1, rfl, ?_⟩
        have e1 := Int.emod_nonneg ((xs.take 1).sum) (show (1000003 : Int) ≠ 0 by decide)
        have e2 := Int.emod_lt_of_pos ((xs.take 1).sum) (show (0 : Int) < 1000003 by decide)
        exact ⟨.inl ⟨by decide, by decide⟩, hC _ ⟨_, small _ (by omega) (by omega), rfl⟩⟩
    obtain ⟨cell, c1, rfl⟩ := hz
    refine bCut (fun z => ∃ (mix : Int), 0 ≤ mix ∧ mix ≤ 2147483647 ∧ z = ⟨[.sh (.lsz xs), .sh (iD t), .sh (iD cell), .sh (iD mix), .un, .un], n⟩) (fun C hC => ?_) (fun z hz => ?_)
    · simp
      refine comp_ind (fun ds acc z => ∃ (i : Nat) (l ns : List Int), ds = enumD i (l.map iD) ∧ acc = ns.map iD ∧ i + l.length ≤ 63 ∧ ns.length ≤ i ∧ z = ⟨[.sh (.lsz xs), .sh (iD t), .sh (iD cell), .un, .un, .un], n⟩) ?_ ?_ _ _ _ ⟨0, xs, [], rfl, rfl, by simp; omega, Nat.le_refl _, rfl⟩
      · rintro acc z ⟨i, l, ns, q1, rfl, q3, q4, rfl⟩
        refine ⟨ns, rfl, hC _ ⟨_, Int.emod_nonneg _ (by decide), ?_, rfl⟩⟩
        have := Int.emod_lt_of_pos ns.sum (show (0 : Int) < 2147483647 by decide)
        omega
      · rintro d ds acc z C2 hC2 ⟨i, l, ns, q1, rfl, q3, q4, rfl⟩
        cases l with
        | nil => simp [enumD] at q1
        | cons v l =>
          simp [enumD] at q1
          obtain ⟨rfl, rfl⟩ := q1
          simp at q3
          simp
          refine ⟨.inl ⟨by omega, by omega⟩, by omega, ?_⟩
          exact hC2 _ _ ⟨i + 1, l, ns ++ [((i : Int) + 1) * (if v < 0 then -v else v)], rfl, by simp, by omega, by simp; omega, rfl⟩
    obtain ⟨mix, d1, d2, rfl⟩ := hz
    simp
    obtain ⟨u, hu⟩ : ∃ u, u = cell + mix := ⟨_, rfl⟩
    rw [← hu]
    have e1 := Int.emod_nonneg u (show (2147483647 : Int) ≠ 0 by decide)
    have e2 := Int.emod_lt_of_pos u (show (0 : Int) < 2147483647 by decide)
    refine ⟨⟨by decide, by decide, by decide⟩, fun _ => ⟨.inl ⟨by decide, by decide⟩, h _ _ c1 (by omega) (by omega)⟩, fun _ => ⟨.inl ⟨by decide, by decide⟩, h _ _ (small 0 (by decide) (by decide)) (by omega) (by omega)⟩⟩


end
end K01
end

section
set_option Elab.async false
set_option linter.all false
set_option maxRecDepth 100000
set_option maxHeartbeats 4000000
/-! DL42: sorted(e, key=lambda y: x.index(y[0])). -/
namespace DL
open PySem PySem.Spec PyProof.Rows L2
/-- l.index(x), run -/
theorem index_run {prog : Program} {w : World} {A : Around} {E : Value → Shared → Prop} {s : Shared} {Q : Value → Shared → Prop} {l : Addr} {its : List Value} {n : Nat} {dd : Option Addr} {sls : Array (Option Value)} {uy : Value} {ds : List PyData} {d : PyData} {as bs : List Addr} {j : Nat} {z : PyData}
    (ho : s.heap.get? l = some { cls := .type "list", dict := dd, data := .seq its.toArray n, slots := sls }) (h4 : ReadsAll s.heap its ds as) (r1 : Reads s.heap uy d bs) (hlen : ds.length ≤ sizeLine) (hu : A.units + 65 < cLine) (sl : SeqAt.shaped (.list ds) = true) (sd : SeqAt.shaped d = true)
    (hz : ds[j]? = some z) (hzj : PyData.eqv z d = true) (hno : ∀ (m : Nat) (z' : PyData), m < j → ds[m]? = some z' → PyData.eqv z' d = false) (q : Q (.int (j : Nat) s.toks) { s with toks := s.toks + 1 }) :
    wpAny (model prog w) A (call (.builtin "list.index") [.ref l, uy]) Q E s := by
  have hxs : PyData.canLayAll0 ds = true := SeqAt.canLay_of_shaped sl
  have hroom : A.units + 1 + min (PyData.depthAll ds) d.depth < cLine := room_in_shaped sd hu
  have hn : its.length = ds.length := SeqAt.ReadsAll.length ds its as h4
  have hmap : its.map (SeqAt.readOf s.heap) = ds := SeqAt.readsAll_map ds its as hxs h4
  have hsl := sizeLine_eq
  obtain ⟨hjd, _⟩ := List.getElem?_eq_some_iff.mp hz
  have hjl : j < its.length := by omega
  have hj : j < its.toArray.size := by simpa using hjl
  have at_ : ∀ (m : Nat) (hm : m < its.toArray.size) (z' : PyData), ds[m]? = some z' → SeqAt.readOf s.heap its.toArray[m] = z' := by
    intro m hm z' hz'
    have hml : m < its.length := by simpa using hm
    rw [← hmap, List.getElem?_map, List.getElem?_eq_getElem hml] at hz'
    have e1 : SeqAt.readOf s.heap its[m] = z' := Option.some.inj (show some (SeqAt.readOf s.heap its[m]) = some z' from hz')
    simpa using e1
  refine call_meets PySem.F.slot_list_index ⟨_, ho, rfl⟩ PySem.F.entry_list_index (PySem.F.args_list_index_2 _ _)
    (SeqAt.list_indexAt l its.toArray n dd sls uy (fun u => PyData.eqv (SeqAt.readOf s.heap u) d) j hj (by omega) ?_ ?_) ⟨ho, SeqAt.items_eqAt (vs := its.toArray) (show ReadsAll s.heap its.toArray.toList ds as from h4) r1 hxs (SeqAt.canLay_of_shaped sd) hroom, ?_⟩
  · show PyData.eqv (SeqAt.readOf s.heap its.toArray[j]) d = true
    rw [at_ j hj z hz]
    exact hzj
  · intro m hm hmj
    have hmd : m < ds.length := by omega
    have hz' : ds[m]? = some ds[m] := List.getElem?_eq_getElem hmd
    show PyData.eqv (SeqAt.readOf s.heap its.toArray[m]) d = false
    rw [at_ m hm _ hz']
    exact hno m _ hmj hz'
  · exact q
/-- x.index(y[0]), run -/
theorem idx_body {prog : Program} {w : World} {A : Around} {E : Value → Shared → Prop} {s : Shared} {Q : Value → Shared → Prop} {env : Env} {x y : Str} {px py pc ps apos cpos : Pos} {jj : Nat} {l t : Addr} {its tis : List Value} {n : Nat} {sls : Array (Option Value)} {uy : Value} {ds : List PyData} {d : PyData} {as bs : List Addr} {j : Nat} {z : PyData}
    (hx : ∀ (Q : Value → Shared → Prop), Q (.ref l) s → wpAny (model prog w) A (eval (.Name x px) env) Q E s) (hy : ∀ (Q : Value → Shared → Prop), Q (.ref t) s → wpAny (model prog w) A (eval (.Name y py) env) Q E s)
    (ho : s.heap.get? l = some { cls := .type "list", dict := none, data := .seq its.toArray n, slots := sls }) (ht : IsTup s.heap t tis.toArray) (ht0 : tis[0]? = some uy) (hts : tis.length < 1000)
    (h4 : ReadsAll s.heap its ds as) (r1 : ∀ tk, Reads { s with toks := tk }.heap uy d bs) (hlen : ds.length ≤ sizeLine) (hu : A.units + 65 < cLine) (sl : SeqAt.shaped (.list ds) = true) (sd : SeqAt.shaped d = true)
    (hz : ds[j]? = some z) (hzj : PyData.eqv z d = true) (hno : ∀ (m : Nat) (z' : PyData), m < j → ds[m]? = some z' → PyData.eqv z' d = false) (q : ∀ tk tk', Q (.int (j : Nat) tk') { s with toks := tk })
    (hbase : attributeBase (.Name x px) "index" env (eval (.Name x px) env) = eval (.Name x px) env) (hline : (apos.endLine == cpos.line) = true) :
    wpAny (model prog w) A (eval (.Call (.Attribute (.Name x px) "index" apos) [.Subscript (.Name y py) (.Constant (.int 0) jj pc) ps] [] cpos) env) Q E s := by
  refine wpAny_Call_method_late hbase (by rfl) hline rfl (hx _ ?_)
  refine ⟨"list", "list.index", PySem.F.plainAttrs_list, PySem.F.slot_list_index, PySem.F.type_list_index, ⟨_, ho, rfl⟩, fun a e => ?_, ?_⟩
  · cases e
    exact ⟨_, ho, rfl⟩
  refine Calls.callWith_builtin (by rfl) (Calls.evalArgs_plain (Calls.spliced_cons (Subscript_ (hy _ (wpAny_Constant_int ?_)))))
  have h0 : 0 < tis.length := (List.getElem?_eq_some_iff.mp ht0).1
  refine subscriptTail_builtinR (x := uy) (s := { s with toks := s.toks + 1 }) (show Shared.TypeIs { s with toks := s.toks + 1 } (.ref t) "tuple" from ht.typeIs) slot_tuple_getitem.lookup
    (PyProof.Rows.getItem_tuple (j := 0) (s := { s with toks := s.toks + 1 }) (items := tis.toArray) ht (by decide) (by decide) (seqIx (n := tis.toArray.size) (k := 0) (by simpa using h0)) (by simpa using ht0) ⟨rfl, ?_⟩) (by rfl)
  refine Calls.spliced_nil ?_
  exact index_run (s := { s with toks := s.toks + 1 }) ho h4 (r1 _) hlen hu sl sd hz hzj hno (q _ _)
/-- such a lambda called -/
theorem lam_idx_call {prog : Program} {w : World} {A : Around} {F : Value → Shared → Prop} {s : Shared} {q : Str} {params : Arguments} {scope : Scope} {cl : List (Str × Addr)} {pm ctv : Value} {f c' cx : Addr} {x y : Str} {px py pc ps apos cpos : Pos} {jj : Nat} {l t : Addr} {its tis : List Value} {n : Nat} {sls : Array (Option Value)} {uy : Value} {ds : List PyData} {d : PyData} {as bs : List Addr} {j : Nat} {z : PyData}
    (hroom : A.depth < recursionLimit) (hu : A.units + 70 < cLine) (nl : s.heap.NoLimit) (hf : s.heap.get? f = some (PySem.W.kla_obj "<lambda>" q params (.Call (.Attribute (.Name x px) "index" apos) [.Subscript (.Name y py) (.Constant (.int 0) jj pc) ps] [] cpos) scope cl pm c' ctv)) (hcd : s.heap.CodeRec (.ref c') q)
    (hbind : bindArgs (PySem.W.kla_fn "<lambda>" q params (.Call (.Attribute (.Name x px) "index" apos) [.Subscript (.Name y py) (.Constant (.int 0) jj pc) ps] [] cpos) scope cl pm (.ref c') ctv) ⟨[.ref t], []⟩ = pure [(y, .ref t)])
    (hk : scope.kind = .function) (hco : scope.isCoroutine = false) (hgen : scope.isGenerator = false) (hcell : ∀ y ∈ scope.names, y.2 ≠ .cell) (hly : scope.names.lookup y = some .local) (hlx : scope.names.lookup x = some .free) (hcx : cl.lookup x = some cx) (hcv : s.heap.IsCell cx (some (.ref l)))
    (ho : s.heap.get? l = some { cls := .type "list", dict := none, data := .seq its.toArray n, slots := sls }) (ht : IsTup s.heap t tis.toArray) (ht0 : tis[0]? = some uy) (hts : tis.length < 1000)
    (h4 : ReadsAll s.heap its ds as) (r1 : Reads s.heap uy d bs) (hlen : ds.length ≤ sizeLine) (sl : SeqAt.shaped (.list ds) = true) (sd : SeqAt.shaped d = true)
    (hz : ds[j]? = some z) (hzj : PyData.eqv z d = true) (hno : ∀ (m : Nat) (z' : PyData), m < j → ds[m]? = some z' → PyData.eqv z' d = false)
    (hline : (apos.endLine == cpos.line) = true) (hdx : (x == ("__debug__" : Str)) = false) (hdy : (y == ("__debug__" : Str)) = false) (hcx2 : (x == ("__classdict__" : Str)) = false)
    (hbase : ∀ env : Env, attributeBase (.Name x px) "index" env (eval (.Name x px) env) = eval (.Name x px) env) :
    wpAny (model prog w) A (call (.ref f) [.ref t]) (PySem.W.KeyPure (.int (j : Nat)) s) F s := by
  refine wpAny_call (PySem.W.kla_callFunE hroom hf rfl hco hgen rfl hcd ?_)
  rw [hbind]
  refine wpAny_pure (wpAny_newFunctionEnv hcell (fun b hb => ?_) (fun h₁ hns hsb => ⟨nl.fresh _ hsb, ?_⟩) hk)
  · simp at hb
    subst hb
    exact hly
  have kp : ∀ b o, s.heap.get? b = some o → h₁.get? b = some o := fun b o e => hsb.extBut b o (Nat.ne_of_lt (Heap.lt_size e)) (Heap.get?_push_of_some _ e)
  refine PySem.W.kla_codeExpr ?_
  have hnl : h₁.Ns s.heap.objs.size fun z => [(y, Value.ref t)].reverse.lookup z := hns
  have hrd : ReadsAll h₁ its ds as := PyProof.Rows.ReadsAll.keeps kp h4
  have hcv1 : h₁.IsCell cx (some (.ref l)) := by
    obtain ⟨o, h1, h2⟩ := hcv
    exact ⟨o, kp _ _ h1, h2⟩
  have hun : (A.deeper (newEnv scope s.heap.objs.size mainGlobals cl (q ++ ".<locals>.") (some f) (.ref c') none builtinsNs)).units + 65 < cLine := by
    show A.units + 3 + 65 < cLine
    omega
  exact idx_body (l := l) (t := t) (bs := bs) (fun Q' hq => wpAny_Name (wpAny_loadName_free hk hlx hcx hcv1 hq hcx2) hdx) (fun Q' hq => wpAny_Name (wpAny_loadName_local (m := fun z => [(y, Value.ref t)].reverse.lookup z) hk hly hnl (by simp [List.lookup]) hq) hdy) (kp _ _ ho) (ht.keeps kp) ht0 hts hrd (fun tk => PyProof.Rows.Reads.keeps kp r1) hlen hun sl sd hz hzj hno (fun tk tk' => ⟨h₁, tk, rfl, kp, .int _ _⟩) (hbase _) hline
end DL
end

section
set_option Elab.async false
set_option linter.all false
set_option maxRecDepth 100000
set_option maxHeartbeats 4000000
/-! DL43: sorted(e, key=lambda y: x.index(y[0])), as an expression. -/
namespace DL
open PySem PySem.Spec PyProof.Rows L2 LamX
/-- the lambda's names: y its parameter, x captured from sc -/
def lam1B (sc scope : Scope) (x y : Str) : Bool :=
  decide (scope.kind = .function) && !scope.isCoroutine && !scope.isGenerator && decide (scope.names.lookup y = some .local) && decide (scope.names.lookup x = some .free) && decide (sc.names.lookup x = some .cell) && scope.names.all fun z => !decide (z.2 = .cell) && (!decide (z.2 = .free) || decide (sc.names.lookup z.1 = some .cell) || decide (sc.names.lookup z.1 = some .free))
structure Lam1 (sc scope : Scope) (x y : Str) : Prop where
  kind : scope.kind = .function
  co : scope.isCoroutine = false
  gen : scope.isGenerator = false
  yl : scope.names.lookup y = some .local
  xf : scope.names.lookup x = some .free
  xc : sc.names.lookup x = some .cell
  own : ∀ z ∈ scope.names, z.2 ≠ .cell
  free : ∀ z ∈ scope.names, z.2 = .free → sc.names.lookup z.1 = some .cell ∨ sc.names.lookup z.1 = some .free
theorem lam1_by {sc scope : Scope} {x y : Str} (h : lam1B sc scope x y = true) : Lam1 sc scope x y := by
  unfold lam1B at h
  simp only [Bool.and_eq_true, Bool.or_eq_true, Bool.not_eq_true', decide_eq_true_eq, decide_eq_false_iff_not, List.all_eq_true] at h
  obtain ⟨⟨⟨⟨⟨⟨h1, h2⟩, h3⟩, h4⟩, h5⟩, h6⟩, h7⟩ := h
  refine ⟨h1, h2, h3, h4, h5, h6, fun z hz => (h7 z hz).1, fun z hz e => ?_⟩
  rcases (h7 z hz).2 with (q | q) | q
  · exact absurd e q
  · exact .inl q
  · exact .inr q
def tSortIdx (K : PySem.W.Frag) (T : List (Addr × Str)) (te : TE) (i : Nat) : TE := fun σ H Q => te σ H fun v H1 => Tabs T H1 ∧ ∀ H2, ExtN H1 H2 → Tabs T H2 → ∃ (l nl : Addr) (ps : List (V × Nat)) (ns : List Str), v = .ref l ∧ SqL K H2 l (ps.map (·.1)) ∧ σ[i]? = some (some (.ref nl)) ∧ SqL K H2 nl (ns.map V.str) ∧ ps.length ≤ 1000 ∧ ns.length ≤ 1000 ∧ SeqAt.shaped (.list (ns.map PyData.str)) = true ∧
  (∀ p ∈ ps, ∃ (t : Addr) (m : Str) (r : List V), p.1 = .ref t ∧ SqT K H2 t (.str m :: r) ∧ r.length ≤ 100 ∧ SeqAt.shaped (.str m) = true ∧ ns[p.2]? = some m ∧ ∀ j, j < p.2 → ns[j]? ≠ some m) ∧ ps.Pairwise (fun a b => a.2 ≤ b.2) ∧ ∀ p, H2 p = none → Q (.ref p) (upd H2 p (.lst (ps.map (·.1))))
theorem dp_strs {K : PySem.W.Frag} {H : Hp} : ∀ ns : List Str, DpAll K H (ns.map V.str) (ns.map PyData.str)
  | [] => .nil
  | n :: ns => .cons (.str n) (dp_strs ns)
theorem each_of {us : List Value} : ∀ {ps : List (V × Nat)}, Vals (ps.map (·.1)) us → PySem.W.EachIs (fun u (p : V × Nat) => RelV p.1 u) us ps := by
  intro ps
  induction ps generalizing us with
  | nil => intro h; cases h; exact .nil
  | cons p ps ih =>
    intro h
    cases h with
    | cons h t => exact .cons h (ih t)
theorem vals_of {us : List Value} : ∀ {ps : List (V × Nat)}, PySem.W.EachIs (fun u (p : V × Nat) => RelV p.1 u) us ps → Vals (ps.map (·.1)) us := by
  intro ps
  induction ps generalizing us with
  | nil => intro h; cases h; exact .nil
  | cons p ps ih =>
    intro h
    cases h with
    | cons h t => exact .cons h (ih t)
section
variable {T : List (Addr × Str)} {X : Cx} {e : Expr} {te : TE} {x y : Str} {i jj : Nat} {p px py pc ps apos cpos lpos kpos pos : Pos} {params : Arguments} {scope : Scope} {c P : Addr} {k : Nat}
theorem pe_sortIdx (hg : Gl X "sorted") (hm : X.mg "sorted" = none) (TB : TabB X.base X.mg c P) (hcode : X.env.code = .ref c) (hmT : (P, X.env.qual ++ "<lambda>") ∈ T) (hu : ∀ p ∈ T, p.1 = P → p.2 = X.env.qual ++ "<lambda>") (hr : Room k X.A) (L : Lam1 X.env.scope scope x y) (hdef : defaultsOf params X.env = ([], []))
    (hbind : ∀ (q : Str) (cl : List (Str × Addr)) (pm cv ctv u : Value), bindArgs (PySem.W.kla_fn "<lambda>" q params (.Call (.Attribute (.Name x px) "index" apos) [.Subscript (.Name y py) (.Constant (.int 0) jj pc) ps] [] cpos) scope cl pm cv ctv) ⟨[u], []⟩ = pure [(y, u)])
    (he : PE X e te) (hN : X.N[i]? = some x) (hdx : (x == ("__debug__" : Str)) = false) (hdy : (y == ("__debug__" : Str)) = false) (hcx2 : (x == ("__classdict__" : Str)) = false) (hline : (apos.endLine == cpos.line) = true)
    (hbase : ∀ env : Env, attributeBase (.Name x px) "index" env (eval (.Name x px) env) = eval (.Name x px) env)
    (hse : starEach [e] X.env = (false, eval e X.env) :: starEach [] X.env := by rfl)
    (hks : (backToKw pos (keywordEach [⟨some "key", .Lambda params (.Call (.Attribute (.Name x px) "index" apos) [.Subscript (.Name y py) (.Constant (.int 0) jj pc) ps] [] cpos) scope lpos, kpos⟩] X.env)).filterMap (·.1) = [("key" : Str)] := by rfl)
    (he1 : backTo pos (starEach [e] X.env) = (false, eval e X.env) :: backTo pos (starEach [] X.env) := by rfl) (hpl : (backTo pos (starEach [e] X.env)).any (·.1) = false := by rfl)
    (hall : (backToKw pos (keywordEach [⟨some "key", .Lambda params (.Call (.Attribute (.Name x px) "index" apos) [.Subscript (.Name y py) (.Constant (.int 0) jj pc) ps] [] cpos) scope lpos, kpos⟩] X.env)).all (·.1.isSome) = true := by rfl) (hnone : (backToKw pos (keywordEach [⟨some "key", .Lambda params (.Call (.Attribute (.Name x px) "index" apos) [.Subscript (.Name y py) (.Constant (.int 0) jj pc) ps] [] cpos) scope lpos, kpos⟩] X.env)).any (·.1.isNone) = false := by rfl) :
    PE X (.Call (.Name "sorted" p) [e] [⟨some "key", .Lambda params (.Call (.Attribute (.Name x px) "index" apos) [.Subscript (.Name y py) (.Constant (.int 0) jj pc) ps] [] cpos) scope lpos, kpos⟩] pos) (tSortIdx X.K T te i) := by
  refine ⟨fun pins s σ H Q I h => ?_⟩
  refine wpAny_Call_Name_kw (ld_blt (u := .builtin "sorted") I hg hm (by rfl) ?_ (by decide) (by decide))
  refine PyProof.Rows.callWith_kw ?_ he1 hpl hall hnone
  rw [he1]
  refine Calls.spliced_cons (thn (he.run pins s σ H _ I h) fun v s1 ⟨v0, H1, I1, r1, hT1, q1⟩ => Calls.spliced_nil ?_)
  rw [hks]
  show wpAny _ _ (evalAll ((do let v ← eval (.Lambda params (.Call (.Attribute (.Name x px) "index" apos) [.Subscript (.Name y py) (.Constant (.int 0) jj pc) ps] [] cpos) scope lpos) X.env; standAt pos; pure v) :: [])) _ _ s1
  have hfree : ∀ z ∈ scope.names, z.2 = .free → ∃ c, X.env.cells.lookup z.1 = some c := fun z hz ez => by
    rcases L.free z hz ez with k | k
    · exact I.ok.has _ (.inl k)
    · exact I.ok.has _ (.inr k)
  refine wpAny_evalAll_cons (wpAny_bind (lam_make2 I1 TB hcode hmT hu hT1 hdef hfree fun f c' pm ctv H2 s' I2 eN T2 hf hfn hfr hco => wpAny_bind (wpAny_standAt (wpAny_pure (wpAny_evalAll_nil ?_)))))
  obtain ⟨l, nl, prs, ns, rfl, hl, hσ, hns, hlen, hnl, hsh, hps, hpw, hq⟩ := q1 H2 eN T2
  obtain rfl : v = .ref l := r1
  show wpAny (model X.prog X.w) X.A (call (.builtin "sorted") [.ref l] [(Str.ofString "key", .ref f)]) _ _ s'
  obtain ⟨its, rv, hL, hz⟩ := I2.list hl
  obtain ⟨⟨oc, vs, tt, hoc, hdc, hvc⟩, _, _⟩ := I2.hok c' _ hco
  -- the captured list
  obtain ⟨m, hn, hlk⟩ := I2.loc
  obtain ⟨u, ru, lk⟩ := hlk i x _ hN hσ (.inr (.inl L.xc))
  obtain rfl : u = .ref nl := ru
  have hcell : ∃ cx, (cloFrom X.env.cells scope.names []).lookup x = some cx ∧ s'.heap.IsCell cx (some (.ref nl)) := by
    have cm : ∀ {y c}, (cloFrom X.env.cells scope.names []).lookup y = some c → X.env.cells.lookup y = some c := fun {y c} e => by
      rcases cloFrom_mem (PySem.mem_of_lookup e) with hm | ⟨h1, h2⟩
      · cases hm
      · obtain ⟨c1, hc⟩ := hfree _ h1 rfl
        have hc : X.env.cells.lookup y = some c1 := hc
        have e2 : c = c1 := by
          rw [h2, hc] <;> rfl
        rw [e2]
        exact hc
    have hy : (x, NameKind.free) ∈ scope.names := PySem.mem_of_lookup L.xf
    obtain ⟨cx, hcx⟩ : ∃ c, (cloFrom X.env.cells scope.names []).lookup x = some c := mem_lookup (cloFrom_has (cells := X.env.cells) (acc := []) hy)
    refine ⟨cx, hcx, ?_⟩
    have c1 := cm hcx
    rcases lk with ⟨k', _⟩ | ⟨_, c3, e', zc⟩
    · have k' : X.env.scope.names.lookup x = some .local := k'
      rw [L.xc] at k'
      cases k'
    · rw [c1] at e'
      cases e'
      exact zc
  obtain ⟨cx, hcx, hcv⟩ := hcell
  obtain ⟨its2, rv2, ⟨⟨cls, dd, data, sls⟩, n2, ho2, hc2, hdn2, hdt2⟩, hlen2⟩ := I2.list hns
  simp only at hc2 hdt2 hdn2
  subst hc2 hdt2 hdn2
  obtain ⟨as, h4⟩ := Dp.readsAll I2 _ _ its2 (dp_strs ns) rv2
  have kN := I2.nolimit
  refine PySem.W.sorted_key_data (b := false) (R := fun u (p : V × Nat) => RelV p.1 u) (bs := prs) (fun p => .int (p.2 : Int)) hL.isList (each_of rv) ?_ ?_ ?_ ?_ (PyProof.Rows.ksk_s1 _ _) (fun _ => PyProof.Rows.ksk_l1 _ _) (fun a => PyProof.Rows.ksk_t1 f a) ?_ ?_
  · intro d hd d' hd'
    obtain ⟨p, _, rfl⟩ := List.mem_map.mp hd
    obtain ⟨p', _, rfl⟩ := List.mem_map.mp hd'
    simp [PySem.W.alike]
  · refine .inr fun d hd => ?_
    obtain ⟨p, _, rfl⟩ := List.mem_map.mp hd
    exact ⟨by simp, fun xs => by simp⟩
  · have := sizeLine_eq
    omega
  · intro p hp
    have := hr.un
    simp only [PyData.depth]
    omega
  · intro v p hR hp h tk kp
    obtain ⟨t, mk, rr, ep, hq2, hl2, hsd, hk1, hk2⟩ := hps p hp
    obtain rfl : v = .ref t := by rw [ep] at hR; exact hR
    obtain ⟨its3, rv3, pl3, hz3⟩ := I2.tuple hq2
    cases its3 with
    | nil => cases rv3
    | cons u0 its3 =>
      cases rv3 with
      | cons ru0 rv3 =>
        obtain ⟨tag, rfl⟩ := (show ∃ tag, u0 = .str mk tag from ru0)
        have hl3 : its3.length ≤ 100 := by rw [← rv3.length]; exact hl2
        have eqs : ∀ a b : Str, PyData.eqv (.str a) (.str b) = true ↔ a = b := fun a b => by simp [PyData.eqv]
        have hu2 : X.A.in1.in1.units + 70 < cLine := by
          have := hr.un
          show X.A.units + 1 + 1 + 70 < cLine
          omega
        exact lam_idx_call (s := { s' with heap := h, toks := tk }) (l := nl) (its := its2) (tis := .str mk tag :: its3) (uy := .str mk tag) (ds := ns.map PyData.str) (d := .str mk) (j := p.2) (z := .str mk) (bs := []) (by have := hr.dp; show X.A.depth < _; omega) hu2 (kN.keeps kp) (kp _ _ hf) ⟨c', oc, vs, tt, rfl, kp _ _ hoc, hdc, hvc⟩ (hbind _ _ _ _ _ _) L.kind L.co L.gen L.own L.yl L.xf hcx (by
          obtain ⟨o, h1, h2⟩ := hcv
          exact ⟨o, kp _ _ h1, h2⟩) (kp _ _ ho2) (pl3.keeps kp) rfl (by simp; omega) (PyProof.Rows.ReadsAll.keeps kp h4) (.str _ _) (by rw [List.length_map]; have := sizeLine_eq; omega) hsh hsd (by rw [List.getElem?_map, hk1]; rfl) ((eqs _ _).mpr rfl) (fun mm z' hm hz' => by
          rw [List.getElem?_map] at hz'
          cases q : ns[mm]? with
          | none => rw [q] at hz'; cases hz'
          | some a =>
            rw [q] at hz'
            cases hz'
            exact Bool.eq_false_iff.mpr fun q2 => hk2 mm hm (by rw [q, (eqs _ _).mp q2])) hline hdx hdy hcx2 hbase
  · intro out cc h' tk kp hnew hat hol hE
    rw [PySem.W.dataLe_int, List.mergeSort_of_pairwise (by simpa using hpw)] at hE
    have hl2 : (prs.map (·.1)).length ≤ sizeLine := by rw [List.length_map]; have := sizeLine_eq; omega
    exact ⟨.ref _, upd H2 (s'.heap.objs.size + 1) (.lst (prs.map (·.1))), I2.laid (t' := tk) kp (Nat.le_succ _) ⟨hl2, out, cc, vals_of hE, hat⟩, rfl, hq _ (I2.hok.fresh (Nat.le_succ _))⟩
end
end DL
end

section
set_option Elab.async false
set_option linter.all false
set_option maxRecDepth 100000
set_option maxHeartbeats 4000000
/-! DL44: sorted(e, key=lambda y: x.index(y[0])), by data: a clause in the names' order. -/
namespace DL
open PySem PySem.Spec PyProof.Rows L2 LamX
theorem sub_idx {names l : List Str} (h : l.Sublist names) (nd : names.Nodup) : (l.map fun x => names.idxOf x).Pairwise (· ≤ ·) := by
  induction h with
  | slnil => exact .nil
  | @cons l names a h ih =>
    rw [List.nodup_cons] at nd
    have e : l.map (fun x => (a :: names).idxOf x) = (l.map fun x => names.idxOf x).map (· + 1) := by
      rw [List.map_map]
      refine List.map_congr_left fun x hx => ?_
      have hne : a ≠ x := fun q => nd.1 (q ▸ h.subset hx)
      have hb : (a == x) = false := beq_eq_false_iff_ne.mpr hne
      simp [List.idxOf_cons, hb]
    rw [e, List.pairwise_map]
    exact (ih nd.2).imp fun h => by omega
  | @cons_cons l names a h ih =>
    rw [List.nodup_cons] at nd
    have e : l.map (fun x => (a :: names).idxOf x) = (l.map fun x => names.idxOf x).map (· + 1) := by
      rw [List.map_map]
      refine List.map_congr_left fun x hx => ?_
      have hne : a ≠ x := fun q => nd.1 (q ▸ h.subset hx)
      have hb : (a == x) = false := beq_eq_false_iff_ne.mpr hne
      simp [List.idxOf_cons, hb]
    rw [List.map_cons, e, List.pairwise_cons]
    refine ⟨fun y hy => by simp, ?_⟩
    rw [List.pairwise_map]
    exact (ih nd.2).imp fun h => by omega
theorem py_strs (names : List Str) : pyD (.lst (names.map strD)) = .list (names.map PyData.str) := by
  simp only [pyD]
  congr 1
  induction names with
  | nil => rfl
  | cons n names ih => simp [pyDs, ih, pyD]
section
variable {T : List (Addr × Str)} {X : Cx} {E : XK} {e : Expr} {me : TDE} {x y : Str} {i jj : Nat} {p px py pc ps apos cpos lpos kpos pos : Pos} {params : Arguments} {scope : Scope} {c P : Addr} {k : Nat}
@[reducible, simp] def mSortIdx (i : Nat) (me : TDE) : TDE := fun st z Q EQ => me st z (fun d z1 => ∃ (names : List Str) (c : DL.Cl), z1.env[i]? = some (.sh (.lst (names.map strD))) ∧ d = clD c ∧ (c.map (·.1)).Sublist names ∧ names.Nodup ∧ c.length ≤ 1000 ∧ names.length ≤ 1000 ∧ (∀ x ∈ names, PyData.strOk x = true) ∧ Q (clD c) z1) EQ
theorem dn_sortIdx (hg : Gl X "sorted") (hm : X.mg "sorted" = none) (TB : TabB X.base X.mg c P) (hcode : X.env.code = .ref c) (hmT : (P, X.env.qual ++ "<lambda>") ∈ T) (hu : ∀ p ∈ T, p.1 = P → p.2 = X.env.qual ++ "<lambda>") (hr : Room k X.A) (L : Lam1 X.env.scope scope x y) (hdef : defaultsOf params X.env = ([], []))
    (hbind : ∀ (q : Str) (cl : List (Str × Addr)) (pm cv ctv u : Value), bindArgs (PySem.W.kla_fn "<lambda>" q params (.Call (.Attribute (.Name x px) "index" apos) [.Subscript (.Name y py) (.Constant (.int 0) jj pc) ps] [] cpos) scope cl pm cv ctv) ⟨[u], []⟩ = pure [(y, u)])
    (he : DE T X E e me) (hN : X.N[i]? = some x) (hdx : (x == ("__debug__" : Str)) = false) (hdy : (y == ("__debug__" : Str)) = false) (hcx2 : (x == ("__classdict__" : Str)) = false) (hline : (apos.endLine == cpos.line) = true)
    (hbase : ∀ env : Env, attributeBase (.Name x px) "index" env (eval (.Name x px) env) = eval (.Name x px) env)
    (hse : starEach [e] X.env = (false, eval e X.env) :: starEach [] X.env := by rfl)
    (hks : (backToKw pos (keywordEach [⟨some "key", .Lambda params (.Call (.Attribute (.Name x px) "index" apos) [.Subscript (.Name y py) (.Constant (.int 0) jj pc) ps] [] cpos) scope lpos, kpos⟩] X.env)).filterMap (·.1) = [("key" : Str)] := by rfl)
    (he1 : backTo pos (starEach [e] X.env) = (false, eval e X.env) :: backTo pos (starEach [] X.env) := by rfl) (hpl : (backTo pos (starEach [e] X.env)).any (·.1) = false := by rfl)
    (hall : (backToKw pos (keywordEach [⟨some "key", .Lambda params (.Call (.Attribute (.Name x px) "index" apos) [.Subscript (.Name y py) (.Constant (.int 0) jj pc) ps] [] cpos) scope lpos, kpos⟩] X.env)).all (·.1.isSome) = true := by rfl) (hnone : (backToKw pos (keywordEach [⟨some "key", .Lambda params (.Call (.Attribute (.Name x px) "index" apos) [.Subscript (.Name y py) (.Constant (.int 0) jj pc) ps] [] cpos) scope lpos, kpos⟩] X.env)).any (·.1.isNone) = false := by rfl) :
    DN T X E (.Call (.Name "sorted" p) [e] [⟨some "key", .Lambda params (.Call (.Attribute (.Name x px) "index" apos) [.Subscript (.Name y py) (.Constant (.int 0) jj pc) ps] [] cpos) scope lpos, kpos⟩] pos) (mSortIdx i me) := by
  obtain ⟨te, pe, qe⟩ := he.ex
  refine ⟨⟨_, pe_sortIdx hg hm TB hcode hmT hu hr L hdef hbind pe hN hdx hdy hcx2 hline hbase hse hks he1 hpl hall hnone, fun st F0 H0 F H σ z Q EQ R r er h k => ?_⟩⟩
  refine qe st F0 H0 F H σ z _ EQ _ r er h fun v H1 F1 d z1 s1 r1 p1 h1 => ?_
  obtain ⟨names, cl, hz, rfl, hsub, nd, hcl, hnl, hok, hq⟩ := h1
  refine ⟨r1.ok.tabs, fun H2 eN T2 => ?_⟩
  have r2 := r1.extN eN T2
  obtain ⟨v2, hσ, rp2⟩ := r2.sh i _ hz
  cases p1 with
  | @lst l xs _ hf rr =>
    cases rp2 with
    | @lst nl xs2 _ hf2 rr2 =>
      have ex2 : xs2 = names.map V.str := by
        have : Reps X.K F1 ((names.map V.str).map D.v) xs2 := by rw [List.map_map]; exact rr2
        exact this.toV
      subst ex2
      have hlen : xs.length = cl.length := by rw [← rr.length, List.length_map]
      have hfst : (xs.zip (cl.map fun p => names.idxOf p.1)).map (·.1) = xs := by
        rw [List.map_fst_zip]
        simp [hlen]
      refine ⟨l, nl, xs.zip (cl.map fun p => names.idxOf p.1), names, rfl, by rw [hfst]; exact SqL.of (r2.ok.sub _ _ hf), hσ, SqL.of (r2.ok.sub _ _ hf2), by rw [List.length_zip]; omega, hnl, ?_, ?_, ?_, ?_⟩
      · have := (sh_lst (k := 0) (sh_map fun x hx => sh_str 0 x (hok x hx))).shaped
        rwa [py_strs] at this
      · intro q hq2
        obtain ⟨n, hn, rfl⟩ := List.mem_iff_getElem.mp hq2
        rw [List.getElem_zip]
        rw [List.length_zip, List.length_map] at hn
        have hnc : n < cl.length := by omega
        have hnx : n < xs.length := by omega
        obtain ⟨x0, e1, rp0⟩ := rr.get (i := n) (d := litD cl[n]) (by simp [hnc])
        have ex0 : xs[n] = x0 := by
          rw [List.getElem?_eq_getElem hnx] at e1
          exact Option.some.inj e1
        have hmem : (cl[n]).1 ∈ names := hsub.subset (List.mem_map_of_mem (List.getElem_mem hnc))
        have hidx : names.idxOf (cl[n]).1 < names.length := List.idxOf_lt_length_of_mem hmem
        have hget : names[names.idxOf (cl[n]).1] = (cl[n]).1 := List.getElem_idxOf hidx
        cases rp0 with
        | tup hsq rt =>
          cases rt with
          | cons ra rt =>
            cases ra
            refine ⟨_, (cl[n]).1, _, ex0, SqT.same r2.ok.sub hsq, ?_, (sh_str 0 _ (hok _ hmem)).shaped, ?_, ?_⟩
            · rw [← rt.length]; simp
            · simp [hidx, hget]
            · intro j hj q
              simp only [List.getElem_map] at hj
              obtain ⟨hj2, q⟩ := List.getElem?_eq_some_iff.mp q
              have := (List.getElem_inj (i := j) (j := names.idxOf (cl[n]).1) nd).mp (by rw [q, hget])
              omega
      · rw [List.pairwise_iff_getElem]
        intro a b ha hb hab
        rw [List.getElem_zip, List.getElem_zip]
        have hp := sub_idx hsub nd
        rw [List.map_map, List.pairwise_iff_getElem] at hp
        rw [List.length_zip, List.length_map] at ha hb
        have := hp a b (by simp; omega) (by simp; omega) hab
        simpa using this
      · intro p hp
        rw [hfst]
        obtain ⟨r3, w⟩ := r2.laid hp (Cell.lst rr)
        exact k _ _ _ _ _ s1 r3 w hq
end
end DL
end

section
set_option Elab.async false
set_option linter.all false
set_option maxRecDepth 100000
set_option maxHeartbeats 4000000
namespace K01
open PySem PySem.Spec PyProof.Rows L2 DL

section
variable {P : Program} {w : World} {K : PySem.W.Frag} {T : List (Addr × Str)} {mg : Str → Option Value} {base : Heap} {a : Ad}
theorem sc__law_each_once : FnScope ["some", "found", "thing"] ["some"] (defScope (topS 27)) := ⟨rfl, rfl, rfl, by decide +kernel, rfl, by decide +kernel, by decide +kernel⟩
theorem bd__law_each_once : BindsH "_law_each_once" (topS 27) ["some"] := fun _ _ _ _ _ _ us hl => match us, hl with | [_], _ => rfl
def sp__law_each_once : DSpec := fun _ n ds Q _ => ∃ (names : List Str), ds = [.lst (names.map strD)] ∧ names.Nodup ∧ names.length ≤ 1000 ∧ Q (.nw (.lst (names.map strD))) n
theorem f__law_each_once (B : BF P K mg a) : Fn P w K T mg base 1 "_law_each_once" ["some"] (sp__law_each_once) := by
  refine mkFn B._law_each_once sc__law_each_once bd__law_each_once ?_ (fun f cdv A outer s H E hr => (db_cons (ds_setN 1 sc__law_each_once.nd (dn_lst da_nil)) (db_cons (ds_for ownX (by rfl) (di_seq (de_var 0)) (dg_name 2 sc__law_each_once.nd) (db_one (ds_expr (de_ext 1 (dn_if (dt_cmp op_notIn_seq (p_inSeq (neg := true)) (de_var 2) (de_var 1) (by rfl)) (dn_lst (da_cons (de_var 2) da_nil)) (dn_lst da_nil)).sh (hpa := fun h => pe_bm PySem.F.plainAttrs_list PySem.F.slot_list_extend PySem.F.type_list_extend mt_extend (pv 1) (pa_cons h pa_nil)))))) (db_one (ds_retV 1))))) ?_
  · intro s n ds Q EQ h
    dsimp only [sp__law_each_once] at h
    obtain ⟨_, rfl, _⟩ := h; rfl
  · intro s n ds Q EQ h
    dsimp only [sp__law_each_once] at h
    obtain ⟨names, rfl, nd, hl, h⟩ := h
    refine bCut (fun z => z = ⟨[.sh (.lst (names.map strD)), .ow (.lst []), .un], n⟩) (fun C hC => ?_) (fun z hz => ?_)
    · simp
      exact hC _ rfl
    subst hz
    refine bCut (fun z => ∃ x2, z = ⟨[.sh (.lst (names.map strD)), .ow (.lst (names.map strD)), x2], n⟩) (fun C hC => ?_) (fun z hz => ?_)
    · simp
      refine for_ind (fun ds z => ∃ (dn rest : List Str) (x2 : DV), ds = rest.map strD ∧ dn ++ rest = names ∧ z = ⟨[.sh (.lst (names.map strD)), .ow (.lst (dn.map strD)), x2], n⟩) ?_ ?_ _ _ ⟨[], names, .un, rfl, rfl, rfl⟩
      · rintro z ⟨dn, rest, x2, h1, h2, rfl⟩
        have : rest = [] := by simpa using h1.symm
        subst this
        rw [List.append_nil] at h2
        subst h2
        exact hC _ ⟨_, rfl⟩
      · rintro d ds z C2 hC2 ⟨dn, rest, x2, h1, h2, rfl⟩
        cases rest with
        | nil => simp at h1
        | cons x rest =>
          simp at h1
          obtain ⟨rfl, rfl⟩ := h1
          have hnot : x ∉ dn := fun q => by
            rw [← h2, List.nodup_append] at nd
            exact nd.2.2 x q x (List.mem_cons_self ..) rfl
          have hlen := congrArg List.length h2
          simp at hlen
          simp
          refine .inr ⟨fun a ha e => hnot (e ▸ ha), by omega, ?_⟩
          exact hC2 _ ⟨dn ++ [x], rest, .sh (strD x), rfl, by simpa using h2, by simp⟩
    obtain ⟨x2, rfl⟩ := hz
    simp
    exact h

theorem sc__law_parts : FnScope ["question"] ["question"] (defScope (topS 38)) := ⟨rfl, rfl, rfl, by decide +kernel, rfl, by decide +kernel, by decide +kernel⟩
theorem bd__law_parts : BindsH "_law_parts" (topS 38) ["question"] := fun _ _ _ _ _ _ us hl => match us, hl with | [_], _ => rfl
def sp__law_parts (a : Ad) : DSpec := fun _ n ds Q _ => ∃ (q : Qn), ds = [qD a.C q] ∧ q.Ok ∧ Q (.fr (rawD q)) n
theorem f__law_parts (B : BM P K mg a) : Fn P w K T mg base 3 "_law_parts" ["question"] (sp__law_parts a) := by
  refine mkFn B._law_parts sc__law_parts bd__law_parts ?_ (fun f cdv A outer s H E hr => (db_one (ds_retF (dfr_tup (daf_cons (dfr_methE B.Question.cl (f_Q_marks B.toBQ) hr (by decide) passX (de_var 0) (fun hm F hb pa => pe_meth0 pa B.Question.cl hm F (hr.mono (by decide)) hb .nil passX)) (daf_cons (dfr_methE B.Question.cl (f_Q_wishes B.toBQ) hr (by decide) passX (de_var 0) (fun hm F hb pa => pe_meth0 pa B.Question.cl hm F (hr.mono (by decide)) hb .nil passX)) (daf_cons (dfr_methE B.Question.cl (f_Q_guards B.toBQ) hr (by decide) passX (de_var 0) (fun hm F hb pa => pe_meth0 pa B.Question.cl hm F (hr.mono (by decide)) hb .nil passX)) daf_nil))))))) ?_
  · intro s n ds Q EQ h
    dsimp only [sp__law_parts] at h
    obtain ⟨_, rfl, _⟩ := h; rfl
  · intro s n ds Q EQ h
    dsimp only [sp__law_parts] at h
    obtain ⟨q, rfl, ok, h⟩ := h
    simp [-rawD, -qD]
    refine ⟨noq (by decide +kernel), q, rfl, ok, ⟨mk_lf _, ?_⟩⟩
    refine ⟨noq (by decide +kernel), q, rfl, ok, ⟨trivial, ?_⟩⟩
    exact ⟨noq (by decide +kernel), q, rfl, ok, ⟨trivial, h⟩⟩

theorem sc__law_ordered : FnScope ["names", "clause"] ["names", "clause"] (defScope (topS 43)) := ⟨rfl, rfl, rfl, by decide +kernel, rfl, by decide +kernel, by decide +kernel⟩
theorem bd__law_ordered : BindsH "_law_ordered" (topS 43) ["names", "clause"] := fun _ _ _ _ _ _ us hl => match us, hl with | [_, _], _ => rfl
def sp__law_ordered : DSpec := fun _ n ds Q _ => ∃ (names : List Str) (c : Cl), ds = [.lst (names.map strD), clD c] ∧ (c.map (·.1)).Sublist names ∧ names.Nodup ∧ c.length ≤ 1000 ∧ names.length ≤ 1000 ∧ (∀ x ∈ names, PyData.strOk x = true) ∧ Q (.nw (clD c)) n
theorem f__law_ordered (B : BF P K mg a) (c Pt : Addr) (F : FunC K mg "_law_ordered" (topS 43) c) (tb : LamX.TabB base mg c Pt) (hT : (Pt, (("_law_ordered" : Str) ++ ".<locals>.") ++ "<lambda>") ∈ T) (hU : ∀ p ∈ T, p.1 = Pt → p.2 = (("_law_ordered" : Str) ++ ".<locals>.") ++ "<lambda>") : Fn P w K T mg base 1 "_law_ordered" ["names", "clause"] (sp__law_ordered) := by
  refine mkFnC F sc__law_ordered bd__law_ordered ?_ (fun f A outer s H E hr => (db_one (ds_retN (dn_sortIdx (i := 0) (by rfl) B.sorted tb rfl hT hU hr (lam1_by (by kernel_rfl)) (by rfl) (fun _ _ _ _ _ _ => rfl) (de_var 1) rfl (by decide) (by decide) (by decide) (by rfl) (fun _ => by rfl))))) ?_
  · intro s n ds Q EQ h
    dsimp only [sp__law_ordered] at h
    obtain ⟨_, _, rfl, _⟩ := h; rfl
  · intro s n ds Q EQ h
    dsimp only [sp__law_ordered] at h
    obtain ⟨names, c, rfl, h1, h2, h3, h4, h5, h⟩ := h
    simp
    exact ⟨names, rfl, c, rfl, h1, h2, h3, h4, h5, h⟩


end
end K01
end

section
set_option Elab.async false
set_option linter.all false
set_option maxRecDepth 100000
set_option maxHeartbeats 4000000
namespace K01
open PySem PySem.Spec PyProof.Rows L2 DL

/-- rows of things and the index that is due -/
abbrev rowsD (rs : List (D × Nat)) : List D := rs.map fun p => .tup [p.1, iD (p.2 : Nat)]
abbrev mkL (p : Str × Hand) : D := .lst [strD p.1, handD p.2]
abbrev zBM (sp : Addr) (q : Qn) (n : Nat) (x3 x4 x5 x6 x7 x8 x9 x10 : DV) : Z := ⟨[.sh (.v (.ref sp)), .sh (rawD q), .sh (.lst (q.marks.map mkL)), x3, x4, x5, x6, x7, x8, x9, x10], n⟩
def oddM0 : List D := [.v .non, iD 5, strD "we x", .dic [], blD true]
def oddM1 : List D := [.v .non, iD 5, strD "a", .lst [], .lst [strD "n1"], .lst [strD "n1", strD "we", iD 1], .lst [strD "N", strD "we"], .lst [strD "", strD "we"], .lst [strD "ninesigns", strD "we"], .lst [iD 5, strD "we"]]
def oddM2 : List D := [.lst [strD "n1", strD "us"], .lst [strD "n1", .v .non], .lst [strD "n1", .tup [iD 1, iD 1]], .lst [strD "n1", .tup [iD 0, iD 2]], .lst [strD "n1", .tup [iD 3, iD 2]], .lst [strD "n1", .tup [iD 1, iD 2, iD 3]]]
def oddM3 : List D := [.lst [strD "n1", .tup [blD true, iD 2]], .lst [strD "n1", .tup [strD "1", iD 2]], .lst [strD "n1", .tup [iD 1, .v .non]], .lst [strD "n1", .lst []], .lst [.lst [strD "n1"], strD "we"], .lst [strD "1a", strD "they"]]
/-- what is no mark, by what the law asks of it -/
inductive OddM (names : List Str) (m0 : Str × Hand) : D → Prop
  | other (d : D) (t : String) (ht : tyS d = some t) (hb : isB t ["list"] = false) (hm : ∀ ns : List Str, (∀ x ∈ ns, x ∈ names) → MkB ns d) : OddM names m0 d
  | list (xs : List D) (hs : ShD 5 (.lst (DL.cutD xs none (some 1)))) (he : PyData.eqv (pyD (.lst (DL.cutD xs none (some 1)))) (pyD (.lst [strD m0.1])) = false) (hm : ∀ ns : List Str, (∀ x ∈ ns, x ∈ names) → MkB ns (.lst xs)) : OddM names m0 (.lst xs)
  | dup : OddM names m0 (.lst [strD m0.1, strD "they"])
theorem loose_self : ∀ d : D, (∀ ds, d ≠ .lst ds) → True := fun _ _ => trivial
theorem loose_hand (h : Hand) : Loose (handD h) (handD h) := by
  cases h with
  | we => exact .v _
  | they => exact .v _
  | ch i j => exact .tt (.cons (.v _) (.cons (.v _) .nil))
theorem loose_mkL : ∀ ms : List (Str × Hand), Looses (ms.map markD) (ms.map mkL)
  | [] => .nil
  | p :: ms => .cons (.tl (.cons (.v _) (.cons (loose_hand p.2) .nil))) (loose_mkL ms)
theorem sh_one {k : Nat} {a : D} (h : ShD k a) : ShDs k [a] := fun d hd => by rw [List.mem_singleton.mp hd]; exact h
theorem cut_from {ds : List D} (k : Nat) (h : k ≤ ds.length) : DL.cutD ds (some (k : Int)) none = ds.drop k := by
  unfold DL.cutD HT.sIx
  simp
  rw [Nat.min_eq_left h]
  exact List.take_of_length_le (by simp)
theorem cut1 (x : D) (xs : List D) : DL.cutD (x :: xs) none (some 1) = [x] := by
  rw [cut_to (by decide)]
  rfl
theorem odd_list {names : List Str} {m0 : Str × Hand} (x : D) (xs : List D) (hx : ShD 3 x) (he : PyData.eqv (pyD x) (.str m0.1) = false) (hm : ∀ ns : List Str, (∀ x ∈ ns, x ∈ names) → MkB ns (.lst (x :: xs))) : OddM names m0 (.lst (x :: xs)) := by
  refine .list _ ?_ ?_ hm
  · rw [cut1]
    exact (sh_lst (sh_one hx)).mono (by decide)
  · rw [cut1]
    simp [pyD, pyDs, PyData.eqv, PyData.eqvAll]
    simpa [pyD] using he
theorem no_namesC : ∀ y ∈ ([("n1" : Str), "N", "", "ninesigns", "1a"] : List Str), y ∉ namesC := by decide +kernel
theorem good_n1 : goodName "n1" := goodB_ok (by decide +kernel)
theorem hand_str (x : Str) (h : ¬ (x = "we" ∨ x = "they")) : HandB (strD x) false := .str x h
theorem kn {d : D} {ts : List String} (t : String) (h : tyS d = some t) (hb : isB t ts = false) : Kn d ts := ⟨t, h, hb⟩
theorem oddM_ok {names : List Str} {m0 : Str × Hand} (hc : ∀ x ∈ names, x ∈ namesC) (hm : m0.1 ∈ namesC) : ∀ o ∈ oddM1 ++ oddM2 ++ oddM3, OddM names m0 o := fun o ho => by
  have ne : ∀ y ∈ ([("n1" : Str), "N", "", "ninesigns", "1a"] : List Str), PyData.eqv (.str y) (.str m0.1) = false := fun y hy => by
    have : y ≠ m0.1 := fun e => no_namesC y hy (e ▸ hm)
    simpa [PyData.eqv] using this
  have n1n : ∀ ns : List Str, (∀ x ∈ ns, x ∈ names) → ("n1" : Str) ∉ ns := fun ns hn q => no_namesC _ (by simp) (hc _ (hn _ q))
  have sh : ∀ y : Str, y ∈ ([("n1" : Str), "N", "", "ninesigns", "1a"] : List Str) → ShD 3 (strD y) := fun y hy => sh_str 3 y (by
    have : ∀ y ∈ ([("n1" : Str), "N", "", "ninesigns", "1a"] : List Str), PyData.strOk y = true := by decide +kernel
    exact this y hy)
  have lst : ∀ (y : Str) (xs : List D), y ∈ ([("n1" : Str), "N", "", "ninesigns", "1a"] : List Str) → (∀ ns : List Str, (∀ x ∈ ns, x ∈ names) → MkB ns (.lst (strD y :: xs))) → OddM names m0 (.lst (strD y :: xs)) := fun y xs hy h => odd_list _ _ (sh y hy) (by simpa [pyD] using ne y hy) h
  have hnd : ∀ d : D, HandB d false → OddM names m0 (.lst [strD "n1", d]) := fun d hd => lst "n1" _ (by simp) fun ns hn => .hand "n1" d _ (.inl rfl) good_n1 (n1n ns hn) hd
  simp only [oddM1, oddM2, oddM3, List.mem_cons, List.mem_append, List.not_mem_nil, or_false] at ho
  rcases ho with (((rfl | rfl | rfl | rfl | rfl | rfl | rfl | rfl | rfl | rfl) | (rfl | rfl | rfl | rfl | rfl | rfl)) | (rfl | rfl | rfl | rfl | rfl | rfl))
  · exact .other _ "NoneType" rfl (by decide) fun ns hn => .non _ (kn "NoneType" rfl (by decide))
  · exact .other _ "int" rfl (by decide) fun ns hn => .non _ (kn "int" rfl (by decide))
  · exact .other _ "str" rfl (by decide) fun ns hn => .non _ (kn "str" rfl (by decide))
  · exact .list [] (by rw [show DL.cutD [] none (some 1) = [] from rfl]; exact (sh_lst (k := 0) (ds := []) nofun).mono (by decide)) (by rw [show DL.cutD [] none (some 1) = [] from rfl]; simp [pyD, pyDs, PyData.eqv, PyData.eqvAll]) fun ns hn => .len [] _ (.inl rfl) (by simp) (by simp)
  · exact lst "n1" [] (by simp) fun ns hn => .len _ _ (.inl rfl) (by simp) (by simp)
  · exact lst "n1" _ (by simp) fun ns hn => .len _ _ (.inl rfl) (by simp) (by simp)
  · exact lst "N" _ (by simp) fun ns hn => .name _ _ _ (.inl rfl) (.no _ (by decide +kernel) (.inr (.inr ⟨by decide +kernel, by decide +kernel, 78, by decide +kernel, by decide +kernel⟩)))
  · exact lst "" _ (by simp) fun ns hn => .name _ _ _ (.inl rfl) (.no _ (by decide +kernel) (.inl (by decide +kernel)))
  · exact lst "ninesigns" _ (by simp) fun ns hn => .name _ _ _ (.inl rfl) (.no _ (by decide +kernel) (.inr (.inl (by decide +kernel))))
  · exact odd_list _ _ (sh_int 3 5) (by simp [pyD, PyData.eqv]) fun ns hn => .name _ _ _ (.inl rfl) (.non _ (kn "int" rfl (by decide)))
  · exact hnd _ (.str _ (by decide +kernel))
  · exact hnd _ (.non _ (kn "NoneType" rfl (by decide)) (kn "NoneType" rfl (by decide)))
  · exact hnd _ (.num 1 1 _ (.inr rfl) (by decide))
  · exact hnd _ (.num 0 2 _ (.inr rfl) (by decide))
  · exact hnd _ (.num 3 2 _ (.inr rfl) (by decide))
  · exact hnd _ (.len [iD 1, iD 2, iD 3] _ (.inr rfl) (by simp) (by simp))
  · exact hnd _ (.part _ _ _ (.inr rfl) "bool" "int" rfl rfl (by decide))
  · exact hnd _ (.part _ _ _ (.inr rfl) "str" "int" rfl rfl (by decide))
  · exact hnd _ (.part _ _ _ (.inr rfl) "int" "NoneType" rfl rfl (by decide))
  · exact hnd _ (.len [] _ (.inl rfl) (by simp) (by simp))
  · exact odd_list _ _ ((sh_lst (k := 0) (sh_one (sh_str 0 _ (by decide +kernel)))).mono (by decide)) (by simp [pyD, PyData.eqv]) fun ns hn => .name _ _ _ (.inl rfl) (.non _ (kn "list" rfl (by decide)))
  · exact lst "1a" _ (by simp) fun ns hn => .name _ _ _ (.inl rfl) (.no _ (by decide +kernel) (.inr (.inr ⟨by decide +kernel, by decide +kernel, 49, by decide +kernel, by decide +kernel⟩)))
theorem oddM0_ok : ∀ p ∈ oddM0.map (fun d => (d, 0)), MksO p.1 (.inl p.2) := fun p hp => by
  obtain ⟨o, ho, rfl⟩ := List.mem_map.mp hp
  refine .non _ ?_
  simp only [oddM0, List.mem_cons, List.not_mem_nil, or_false] at ho
  rcases ho with rfl | rfl | rfl | rfl | rfl
  · exact kn "NoneType" rfl (by decide)
  · exact kn "int" rfl (by decide)
  · exact kn "str" rfl (by decide)
  · exact kn "dict" rfl (by decide)
  · exact kn "bool" rfl (by decide)

section
variable {P : Program} {w : World} {K : PySem.W.Frag} {T : List (Addr × Str)} {mg : Str → Option Value} {base : Heap} {a : Ad}
theorem sc__law_bent_marks : FnScope ["stream", "question", "marks", "pair", "found", "odd", "odds", "name", "hand", "at", "here"] ["stream", "question"] (defScope (topS 35)) := ⟨rfl, rfl, rfl, by decide +kernel, rfl, by decide +kernel, by decide +kernel⟩
theorem bd__law_bent_marks : BindsH "_law_bent_marks" (topS 35) ["stream", "question"] := fun _ _ _ _ _ _ us hl => match us, hl with | [_, _], _ => rfl
def sp__law_bent_marks : DSpec := fun st n ds Q _ => ∃ (sp : Addr) (q : Qn), st = some sp ∧ ds = [.v (.ref sp), rawD q] ∧ q.Ok ∧ (∀ x ∈ q.names, x ∈ namesC) ∧ q.marks ≠ [] ∧ q.marks.length ≤ 16 ∧ n + 1 ≤ 1000000 ∧ ∀ rs : List (D × Nat), (∀ p ∈ rs, MksO p.1 (.inl p.2)) → rs.length ≤ 100 → Q (.nw (.lst (rowsD rs))) (n + 1)
theorem f__law_bent_marks (B : BF P K mg a) : Fn P w K T mg base 3 "_law_bent_marks" ["stream", "question"] (sp__law_bent_marks) := by
  refine mkFn B._law_bent_marks sc__law_bent_marks bd__law_bent_marks ?_ (fun f cdv A outer s H E hr => (db_cons (ds_comp 2 (ws := [3]) (by rfl) sc__law_bent_marks.nd (di_seq (de_ix ix_tup p_ixT (de_var 1) de_int)) (blkOk_by (own := [("pair", 3)]) (by rfl)) (by decide) (fun _ _ _ _ _ => (dg_name 3 sc__law_bent_marks.nd)) (fun _ _ _ _ _ => dts_nil) (fun _ _ _ _ _ => (dn_ct (call_list_of) (by rfl) B.list (by rfl) p_list (da_cons (de_var 3) da_nil)).sh) (hsw := sw_true rfl rfl rfl rfl)) (db_frz 2 (db_cons (ds_comp 4 (ws := [5]) (by rfl) sc__law_bent_marks.nd (di_seq (de_tup (da_cons de_non (da_cons de_int (da_cons de_str (da_cons dn_dic.sh (da_cons de_bl da_nil))))))) (blkOk_by (own := [("odd", 5)]) (by rfl)) (by decide) (fun _ _ _ _ _ => (dg_name 5 sc__law_bent_marks.nd)) (fun _ _ _ _ _ => dts_nil) (fun _ _ _ _ _ => (de_tup (da_cons (de_var 5) (da_cons de_int da_nil)))) (hsw := sw_true rfl rfl rfl rfl)) (db_cons (ds_setN 6 sc__law_bent_marks.nd (dn_lst (da_cons de_non (da_cons de_int (da_cons de_str (da_cons (dn_lst da_nil).sh (da_cons (dn_lst (da_cons de_str da_nil)).sh (da_cons (dn_lstC (dk_consC de_str (dk_consC de_str (dk_consC de_int dk_nilC)))).sh (da_cons (dn_lstC (dk_consC de_str (dk_consC de_str dk_nilC))).sh (da_cons (dn_lstC (dk_consC de_str (dk_consC de_str dk_nilC))).sh (da_cons (dn_lstC (dk_consC de_str (dk_consC de_str dk_nilC))).sh (da_cons (dn_lstC (dk_consC de_int (dk_consC de_str dk_nilC))).sh da_nil)))))))))))) (db_cons (ds_expr (de_ext 6 (dn_lstC (dk_consC (de_shC (dn_lstC (dk_consC de_str (dk_consC de_str dk_nilC)))) (dk_consC (de_shC (dn_lstC (dk_consC de_str (dk_consC de_non dk_nilC)))) (dk_consC (de_shC (dn_lstC (dk_consC de_str (dk_consC (de_tupC (dk_consC de_int (dk_consC de_int dk_nilC))) dk_nilC)))) (dk_consC (de_shC (dn_lstC (dk_consC de_str (dk_consC (de_tupC (dk_consC de_int (dk_consC de_int dk_nilC))) dk_nilC)))) (dk_consC (de_shC (dn_lstC (dk_consC de_str (dk_consC (de_tupC (dk_consC de_int (dk_consC de_int dk_nilC))) dk_nilC)))) (dk_consC (de_shC (dn_lstC (dk_consC de_str (dk_consC (de_tupC (dk_consC de_int (dk_consC de_int (dk_consC de_int dk_nilC)))) dk_nilC)))) dk_nilC))))))).sh (hpa := fun h => pe_bm PySem.F.plainAttrs_list PySem.F.slot_list_extend PySem.F.type_list_extend mt_extend (pv 6) (pa_cons h pa_nil)))) (db_cons (ds_expr (de_ext 6 (dn_lst (da_cons (dn_lstC (dk_consC de_str (dk_consC (de_tupC (dk_consC de_bl (dk_consC de_int dk_nilC))) dk_nilC))).sh (da_cons (dn_lstC (dk_consC de_str (dk_consC (de_tupC (dk_consC de_str (dk_consC de_int dk_nilC))) dk_nilC))).sh (da_cons (dn_lstC (dk_consC de_str (dk_consC (de_tupC (dk_consC de_int (dk_consC de_non dk_nilC))) dk_nilC))).sh (da_cons (dn_lst (da_cons de_str (da_cons (dn_lst da_nil).sh da_nil))).sh (da_cons (dn_lstC (dk_consC (de_shC (dn_lstC (dk_consC de_str dk_nilC))) (dk_consC de_str dk_nilC))).sh (da_cons (dn_lstC (dk_consC de_str (dk_consC de_str dk_nilC))).sh da_nil))))))).sh (hpa := fun h => pe_bm PySem.F.plainAttrs_list PySem.F.slot_list_extend PySem.F.type_list_extend mt_extend (pv 6) (pa_cons h pa_nil)))) (db_cons (ds_expr (de_ext 6 (dn_comp (ws := [7, 8]) (by rfl) sc__law_bent_marks.nd (di_seq (dn_slice (de_var 2) do_none (do_some de_int)).sh) (blkOk_by (own := [("name", 7), ("hand", 8)]) (by rfl)) (by decide) (fun _ _ _ _ _ => (dg_tup2 (by rfl) (dg_name 7 sc__law_bent_marks.nd) (dg_name 8 sc__law_bent_marks.nd))) (fun _ _ _ _ _ => dts_nil) (fun _ _ _ _ _ => (dn_lst (da_cons (de_var 7) (da_cons de_str da_nil))).sh)).sh (hpa := fun h => pe_bm PySem.F.plainAttrs_list PySem.F.slot_list_extend PySem.F.type_list_extend mt_extend (pv 6) (pa_cons h pa_nil)))) (db_cons (ds_set 9 sc__law_bent_marks.nd (de_call (f__law_draw B) hr (by decide) (by rfl) passX (da_cons (de_var 0) (da_cons (de_op op_add p_I0 (de_cb call_lenAll (by rfl) B.len (by rfl) p_len (da_cons (de_var 2) da_nil)) de_int) da_nil)))) (db_cons (ds_for ownX (by rfl) (di_seq (de_var 6)) (dg_name 5 sc__law_bent_marks.nd) (db_cons (ds_set 10 sc__law_bent_marks.nd (de_if (DW.t (dw_and (dt_val (de_is1 (by rfl) B.isinstance (by rfl) B.list (de_var 5))) (dw_and1 (dt_cmp (op_eqD (hu64 hr)) p_eqD (dn_slice (de_var 5) do_none (do_some de_int)).sh (dn_lst (da_cons (de_ix ix_list p_ixL (de_ix ix_list p_ixL (de_var 2) de_int) de_int) da_nil)).sh (by rfl))))) (de_cb call_lenAll (by rfl) B.len (by rfl) p_len (da_cons (de_var 2) da_nil)) (de_var 9))) (db_one (ds_expr (de_app 4 (de_tup (da_cons (dn_op op_cat p_cat (dn_op op_cat p_cat (dn_slice (de_var 2) do_none (do_some (de_var 10))).sh (dn_lst (da_cons (de_var 5) (da_cons de_non da_nil))).sh).sh (dn_slice (de_var 2) (do_some (de_var 10)) do_none).sh).sh (da_cons (de_var 10) da_nil))) (hpa := fun h => pe_bm PySem.F.plainAttrs_list PySem.F.slot_list_append PySem.F.type_list_append mt_append (pv 4) (pa_cons h pa_nil))))))) (db_one (ds_retV 4)))))))))))) ?_
  · intro s n ds Q EQ h
    dsimp only [sp__law_bent_marks] at h
    obtain ⟨_, _, _, rfl, _⟩ := h; rfl
  · intro s n ds Q EQ h
    dsimp only [sp__law_bent_marks] at h
    obtain ⟨sp, q, rfl, rfl, ok, hc, hne, hl, hn, h⟩ := h
    refine bCut (fun z => z = ⟨[.sh (.v (.ref sp)), .sh (rawD q), .ow (.lst (q.marks.map mkL)), .un, .un, .un, .un, .un, .un, .un, .un], n⟩) (fun C hC => ?_) (fun z hz => ?_)
    · simp [-rawD]
      refine comp_mapL (h := markD) (f := mkL) (by omega) (fun p hp R R2 h1 h2 => ?_) (by simpa [-rawD] using hC _ rfl)
      refine h2 _ ?_
      simp [-rawD]
      exact h1 _ rfl
    subst hz
    refine ⟨_, rfl, ?_⟩
    refine bCut (fun z => z = zBM sp q n .un (.ow (.lst (rowsD (oddM0.map fun d => (d, 0))))) .un .un .un .un .un .un) (fun C hC => ?_) (fun z hz => ?_)
    · simp [-rawD]
      refine comp_map (fun d => .tup [d, iD 0]) (by decide) (fun d hd R R2 h1 h2 => ?_) (hC _ rfl)
      refine h2 _ ?_
      simp [-rawD]
      exact h1 _ rfl
    subst hz
    refine bCut (fun z => z = zBM sp q n .un (.ow (.lst (rowsD (oddM0.map fun d => (d, 0))))) .un (.ow (.lst oddM1)) .un .un .un .un) (fun C hC => ?_) (fun z hz => ?_)
    · simp [-rawD]
      exact hC _ rfl
    subst hz
    generalize hr0 : oddM0.map (fun d => (d, 0)) = r0
    refine bCut (fun z => z = zBM sp q n .un (.ow (.lst (rowsD r0))) .un (.ow (.lst (oddM1 ++ oddM2))) .un .un .un .un) (fun C hC => ?_) (fun z hz => ?_)
    · simp [-rawD]
      exact ⟨by decide, hC _ rfl⟩
    subst hz
    refine bCut (fun z => z = zBM sp q n .un (.ow (.lst (rowsD r0))) .un (.ow (.lst (oddM1 ++ oddM2 ++ oddM3))) .un .un .un .un) (fun C hC => ?_) (fun z hz => ?_)
    · simp [-rawD, -List.append_assoc]
      exact ⟨by decide, hC _ rfl⟩
    subst hz
    generalize ho1 : oddM1 ++ oddM2 ++ oddM3 = o1
    have l1 : o1.length = 22 := by rw [← ho1]; decide
    have lr0 : r0.length = 5 := by rw [← hr0]; decide
    obtain ⟨m0, rest, hm⟩ : ∃ m0 rest, q.marks = m0 :: rest := by
      cases e : q.marks with
      | nil => exact absurd e hne
      | cons m0 rest => exact ⟨_, _, rfl⟩
    refine bCut (fun z => z = zBM sp q n .un (.ow (.lst (rowsD r0))) .un (.ow (.lst (o1 ++ [.lst [strD m0.1, strD "they"]]))) .un .un .un .un) (fun C hC => ?_) (fun z hz => ?_)
    · simp [-rawD]
      rw [cut_to (by decide), hm]
      refine comp_mapL (h := mkL) (xs := [m0]) (f := fun p => .lst [strD p.1, strD "they"]) (by simp) (fun p hp R R2 h1 h2 => ?_) ?_
      · refine ⟨(strD p.1, handD p.2), by simp, h2 _ ?_⟩
        exact ⟨by simp, h1 _ rfl⟩
      · refine ⟨o1, _, rfl, by simp, by simp; omega, ?_⟩
        rw [← hm]
        exact hC _ rfl
    subst hz
    refine bCut (fun z => ∃ k : Nat, k ≤ q.marks.length ∧ z = zBM sp q (n + 1) .un (.ow (.lst (rowsD r0))) .un (.ow (.lst (o1 ++ [.lst [strD m0.1, strD "they"]]))) .un .un (.sh (iD k)) .un) (fun C hC => ?_) (fun z hz => ?_)
    · simp [-rawD]
      refine ⟨by omega, sp, (q.marks.length : Int) + 1, rfl, rfl, by omega, by omega, by omega, fun k hk => hC _ ⟨k, by omega, rfl⟩⟩
    obtain ⟨k, hk, rfl⟩ := hz
    refine bCut (fun z => ∃ (rs : List (D × Nat)) (x5 x7 x8 x10 x6 : DV), (∀ p ∈ rs, MksO p.1 (.inl p.2)) ∧ rs.length ≤ 100 ∧ z = zBM sp q (n + 1) .un (.ow (.lst (rowsD rs))) x5 x6 x7 x8 (.sh (iD k)) x10) (fun C hC => ?_) (fun z hz => ?_)
    · simp [-rawD]
      refine for_ind (fun ds z => (∀ o ∈ ds, OddM q.names m0 o) ∧ ∃ (rs : List (D × Nat)) (os : List D) (x5 x10 : DV), (∀ p ∈ rs, MksO p.1 (.inl p.2)) ∧ rs.length + ds.length ≤ 100 ∧ z = zBM sp q (n + 1) .un (.ow (.lst (rowsD rs))) x5 (.sh (.lst os)) .un .un (.sh (iD k)) x10) ?_ ?_ _ _ ⟨?_, r0, _, .un, .un, ?_, by simp; omega, rfl⟩
      · rintro z ⟨_, rs, os, x5, x10, h1, h2, rfl⟩
        exact hC _ ⟨rs, _, _, _, _, _, h1, by simpa using h2, rfl⟩
      · rintro d ds z C2 hC2 ⟨hds, rs, os, x5, x10, h1, h2, rfl⟩
        have hd := hds d (List.mem_cons_self ..)
        simp at h2
        refine bCut (fun z => ∃ k2 : Nat, k2 ≤ q.marks.length ∧ MkB ((q.marks.take k2).map (·.1)) d ∧ z = zBM sp q (n + 1) .un (.ow (.lst (rowsD rs))) (.sh d) (.sh (.lst os)) .un .un (.sh (iD k)) (.sh (iD k2))) (fun C3 hC3 => ?_) (fun z hz => ?_)
        · have sub : ∀ k : Nat, ∀ x ∈ (q.marks.take k).map (·.1), x ∈ q.names := fun k x hx => ((List.take_sublist k q.marks).map _).subset hx
          have hat : atI (q.marks.map mkL) 0 = some (mkL m0) := by
            have := atI_nat mkL ((⟨#[]⟩ : Str), Hand.we) q.marks (i := 0) (by rw [hm]; simp)
            rw [hm] at this ⊢
            simpa using this
          have sm : ShD 5 (.lst [strD m0.1]) := (sh_lst (k := 0) (sh_one (sh_str 0 _ (good_ok (ok.good m0 (by rw [hm]; exact List.mem_cons_self ..)).1)))).mono (by decide)
          cases hd with
          | other _ t ht hb hmk =>
            simp [-rawD, -isB]
            refine ⟨t, ht, fun q2 => absurd q2 (by rw [hb]; decide), fun _ => ?_⟩
            exact hC3 _ ⟨k, hk, hmk _ (sub k), rfl⟩
          | list xs hs he hmk =>
            simp [-rawD, hat]
            refine ⟨hs.1, sm.1, hs.shaped, sm.shaped, ?_⟩
            rw [show PyData.eqv (pyD (.lst (DL.cutD xs none (some 1)))) (pyD (.lst [.v (.str m0.1)])) = false from he]
            exact ⟨nofun, fun _ => hC3 _ ⟨k, hk, hmk _ (sub k), rfl⟩⟩
          | dup =>
            simp [-rawD, hat]
            rw [cut1]
            rw [show PyData.eqv (pyD (.lst [.v (.str m0.1)])) (pyD (.lst [.v (.str m0.1)])) = true from PySem.SeqAt.eqv_refl _ sm.2.1]
            refine ⟨sm.1, sm.1, sm.shaped, sm.shaped, fun _ => ⟨by omega, hC3 _ ⟨q.marks.length, Nat.le_refl _, ?_, rfl⟩⟩, nofun⟩
            rw [List.take_length]
            exact .dup m0.1 _ _ (.inl rfl) (ok.good m0 (by rw [hm]; exact List.mem_cons_self ..)).1 (by rw [hm]; simp)
        obtain ⟨k2, hk2, hmk, rfl⟩ := hz
        simp [-rawD]
        rw [cut_to (by omega), cut_from k2 (by simpa using hk2), ← List.map_take, ← List.map_drop]
        simp only [Int.toNat_natCast]
        have e1 : (q.marks.take k2).length = k2 := by rw [List.length_take]; omega
        have e2 := (List.take_sublist k2 q.marks)
        refine ⟨by rw [List.length_map]; omega, by rw [List.length_map, List.length_map, List.length_drop]; omega, by omega, ?_⟩
        refine hC2 _ ⟨fun o ho => hds o (List.mem_cons_of_mem _ ho), rs ++ [(.lst ((q.marks.take k2).map mkL ++ d :: .v .non :: (q.marks.drop k2).map mkL), k2)], os, .sh d, .sh (iD k2), fun p hp => ?_, by simp; omega, by simp⟩
        rcases List.mem_append.mp hp with hp | hp
        · exact h1 p hp
        · rw [List.mem_singleton.mp hp]
          have := MksO.bad (q.marks.take k2) ((q.marks.take k2).map mkL) d (.v .non :: (q.marks.drop k2).map mkL) _ (.inl rfl) (loose_mkL _) ((e2.map _).nodup ok.nd) (fun p hp => ok.good p (e2.subset hp)) (by rw [e1]; omega) hmk
          rw [e1] at this
          exact this
      · have hm0 : m0 ∈ q.marks := by rw [hm]; exact List.mem_cons_self ..
        have hmc : m0.1 ∈ namesC := hc _ (List.mem_map_of_mem hm0)
        intro o ho
        rcases List.mem_append.mp ho with ho | ho
        · rw [← ho1] at ho
          exact oddM_ok hc hmc o ho
        · rw [List.mem_singleton.mp ho]
          exact .dup
      · intro p hp
        rw [← hr0] at hp
        exact oddM0_ok p hp
    obtain ⟨rs, x5, x7, x8, x10, x6, h1, h2, rfl⟩ := hz
    simp [-rawD]
    exact h rs h1 h2


end
end K01
end

section
set_option Elab.async false
set_option linter.all false
set_option maxRecDepth 100000
set_option maxHeartbeats 4000000
namespace K01
open PySem PySem.Spec PyProof.Rows L2 DL

/-- things that are no clauses of some names, and the first index that is wrong -/
def BadCls (names : List Str) (d : D) (i : Nat) : Prop := ∃ os, ClsO names d os ∧ firstNone os i
def oddC0 : List D := [.v .non, iD 5, strD "wish", .dic [], blD true]
def oddC1 (m : Str) : List D := [.v .non, iD 5, strD "a", .dic [], .lst [strD m], .lst [.tup [strD m]], .lst [.tup [strD m, iD 1]], .lst [.tup [strD m, .v .non]], .lst [.tup [strD m, blD true, blD true]], .lst [.tup [strD "n1", blD true]]]
def oddC2 (m : Str) : List D := [.lst [.tup [strD m, blD true], .tup [strD m, blD false]], .lst [.tup [strD m, blD true], .tup [strD m, blD true]], .lst [.tup [iD 5, blD true]], .lst [.tup [.lst [strD m], blD true]], .lst [.tup [strD m, strD "Yes"]]]
theorem oddC0_ok (names : List Str) : ∀ o ∈ oddC0, BadCls names o 0 := fun o ho => by
  have go : Kn o ["list", "tuple"] → BadCls names o 0 := fun h => ⟨[none], .non _ h, rfl, nofun⟩
  simp only [oddC0, List.mem_cons, List.not_mem_nil, or_false] at ho
  rcases ho with rfl | rfl | rfl | rfl | rfl
  · exact go (kn "NoneType" rfl (by decide))
  · exact go (kn "int" rfl (by decide))
  · exact go (kn "str" rfl (by decide))
  · exact go (kn "dict" rfl (by decide))
  · exact go (kn "bool" rfl (by decide))
theorem loose_lit' (p : Str × Bool) : Loose (litD p) (litD p) := .tt (.cons (.v _) (.cons (.v _) .nil))
theorem loose_cl (c : Cl) : Loose (clD c) (clD c) := by
  refine .ll ?_
  induction c with
  | nil => exact .nil
  | cons p c ih => exact .cons (loose_lit' p) ih
theorem oddC_ok {names : List Str} {m : Str} (hm : m ∈ names) (hn : ("n1" : Str) ∉ names) : ∀ o ∈ oddC1 m ++ oddC2 m, ClO names o none := fun o ho => by
  have one : ∀ x : D, LitB names x false → ClO names (.lst [x]) none := fun x h => .bad [x] _ (.inl rfl) (by simp) [false] (.cons h .nil) (by simp)
  have tw : ∀ b : Bool, ClO names (.lst [.tup [strD m, blD true], .tup [strD m, blD b]]) none := fun b => .twice [(m, true), (m, b)] _ (loose_cl _) (fun p hp => by
    simp only [List.mem_cons, List.not_mem_nil, or_false] at hp
    rcases hp with rfl | rfl <;> exact hm) (by simp) (by simp [mergeD, putD])
  simp only [oddC1, oddC2, List.mem_cons, List.mem_append, List.not_mem_nil, or_false] at ho
  rcases ho with (rfl | rfl | rfl | rfl | rfl | rfl | rfl | rfl | rfl | rfl) | (rfl | rfl | rfl | rfl | rfl)
  · exact .non _ (kn "NoneType" rfl (by decide))
  · exact .non _ (kn "int" rfl (by decide))
  · exact .non _ (kn "str" rfl (by decide))
  · exact .non _ (kn "dict" rfl (by decide))
  · exact one _ (.non _ (kn "str" rfl (by decide)))
  · exact one _ (.len [strD m] _ (.inr rfl) (by simp) (by simp))
  · exact one _ (.val m _ _ (.inr rfl) hm (kn "int" rfl (by decide)))
  · exact one _ (.val m _ _ (.inr rfl) hm (kn "NoneType" rfl (by decide)))
  · exact one _ (.len [strD m, blD true, blD true] _ (.inr rfl) (by simp) (by simp))
  · exact one _ (.other "n1" _ _ (.inr rfl) hn)
  · exact tw false
  · exact tw true
  · exact one _ (.mark _ _ _ (.inr rfl) (kn "int" rfl (by decide)))
  · exact one _ (.mark _ _ _ (.inr rfl) (kn "list" rfl (by decide)))
  · exact one _ (.val m _ _ (.inr rfl) hm (kn "str" rfl (by decide)))
theorem cl_self {names : List Str} (nd : names.Nodup) (hl : names.length ≤ 1000) {c : Cl} (h : (c.map (·.1)).Sublist names) : ClO names (clD c) (some c) :=
  .good c _ (loose_cl c) (fun p hp => h.subset (List.mem_map_of_mem hp)) (h.nodup nd) (by have := h.length_le; rw [List.length_map] at this; omega)
theorem cls_self {names : List Str} (nd : names.Nodup) (hl : names.length ≤ 1000) : ∀ {cs : List Cl}, (∀ c ∈ cs, (c.map (·.1)).Sublist names) → Paired (ClO names) (cs.map clD) (cs.map some)
  | [], _ => .nil
  | c :: cs, h => .cons (cl_self nd hl (h c (List.mem_cons_self ..))) (cls_self nd hl fun c hc => h c (List.mem_cons_of_mem _ hc))
theorem paired_app {α β : Type} {R : α → β → Prop} {ys : List α} {ds : List β} (h2 : Paired R ys ds) : ∀ {xs : List α} {bs : List β}, Paired R xs bs → Paired R (xs ++ ys) (bs ++ ds)
  | _, _, .nil => h2
  | _, _, .cons h t => .cons h (paired_app h2 t)
/-- clauses with a thing between that is none, and one behind -/
theorem bad_cls {names : List Str} (nd : names.Nodup) (hl : names.length ≤ 1000) {cs : List Cl} (h : ∀ c ∈ cs, (c.map (·.1)).Sublist names) (hc : cs.length ≤ 100) {o : D} (ho : ClO names o none) {k : Nat} (hk : k ≤ cs.length) : BadCls names (.lst ((cs.take k).map clD ++ [o] ++ (cs.drop k).map clD ++ [.v .non])) k := by
  refine ⟨(cs.take k).map some ++ [none] ++ (cs.drop k).map some ++ [none], .lst _ _ _ (.inl rfl) ?_ ?_, ?_, ?_⟩
  · exact paired_app (.cons (.non _ (kn "NoneType" rfl (by decide))) .nil) (paired_app (cls_self nd hl fun c hc => h c (List.mem_of_mem_drop hc)) (paired_app (.cons ho .nil) (cls_self nd hl fun c hc => h c (List.mem_of_mem_take hc))))
  · simp; omega
  · have e : ((cs.take k).map (some : Cl → Option Cl)).length = k := by rw [List.length_map, List.length_take]; omega
    rw [List.append_assoc, List.append_assoc, List.getElem?_append_right (by omega), e, Nat.sub_self]
    rfl
  · intro m hm
    have e : ((cs.take k).map (some : Cl → Option Cl)).length = k := by rw [List.length_map, List.length_take]; omega
    rw [List.append_assoc, List.append_assoc, List.getElem?_append_left (by omega), List.getElem?_map]
    cases (List.take k cs)[m]? <;> simp
abbrev zBC (sp : Addr) (q : Qn) (cs : List Cl) (n : Nat) (x3 x4 x5 x6 x7 x8 x9 x10 : DV) : Z := ⟨[.sh (.v (.ref sp)), .sh (rawD q), .sh (.lst (cs.map clD)), x3, x4, x5, x6, x7, x8, x9, x10], n⟩

section
variable {P : Program} {w : World} {K : PySem.W.Frag} {T : List (Addr × Str)} {mg : Str → Option Value} {base : Heap} {a : Ad}
theorem sc__law_bent_clauses : FnScope ["stream", "question", "clauses", "found", "names", "odd", "name", "hand", "one", "odds", "at"] ["stream", "question", "clauses"] (defScope (topS 36)) := ⟨rfl, rfl, rfl, by decide +kernel, rfl, by decide +kernel, by decide +kernel⟩
theorem bd__law_bent_clauses : BindsH "_law_bent_clauses" (topS 36) ["stream", "question", "clauses"] := fun _ _ _ _ _ _ us hl => match us, hl with | [_, _, _], _ => rfl
def sp__law_bent_clauses : DSpec := fun st n ds Q _ => ∃ (sp : Addr) (q : Qn) (cs : List Cl), st = some sp ∧ ds = [.v (.ref sp), rawD q, .lst (cs.map clD)] ∧ q.Ok ∧ (∀ x ∈ q.names, x ∈ namesC) ∧ q.marks ≠ [] ∧ q.marks.length ≤ 16 ∧ (∀ c ∈ cs, (c.map (·.1)).Sublist q.names) ∧ cs.length ≤ 20 ∧ n + 1 ≤ 1000000 ∧ ∀ rs : List (D × Nat), (∀ p ∈ rs, BadCls q.names p.1 p.2) → rs.length ≤ 100 → Q (.nw (.lst (rowsD rs))) (n + 1)
theorem f__law_bent_clauses (B : BF P K mg a) : Fn P w K T mg base 3 "_law_bent_clauses" ["stream", "question", "clauses"] (sp__law_bent_clauses) := by
  refine mkFn B._law_bent_clauses sc__law_bent_clauses bd__law_bent_clauses ?_ (fun f cdv A outer s H E hr => (db_cons (ds_parNN 3 4 (by rfl) sc__law_bent_clauses.nd (dn_comp (ws := [5]) (by rfl) sc__law_bent_clauses.nd (di_seq (de_tup (da_cons de_non (da_cons de_int (da_cons de_str (da_cons dn_dic.sh (da_cons de_bl da_nil))))))) (blkOk_by (own := [("odd", 5)]) (by rfl)) (by decide) (fun _ _ _ _ _ => (dg_name 5 sc__law_bent_clauses.nd)) (fun _ _ _ _ _ => dts_nil) (fun _ _ _ _ _ => (de_tup (da_cons (de_var 5) (da_cons de_int da_nil))))) (dn_comp (ws := [6, 7]) (by rfl) sc__law_bent_clauses.nd (di_seq (de_ix ix_tup p_ixT (de_var 1) de_int)) (blkOk_by (own := [("name", 6), ("hand", 7)]) (by rfl)) (by decide) (fun _ _ _ _ _ => (dg_tup2 (by rfl) (dg_name 6 sc__law_bent_clauses.nd) (dg_name 7 sc__law_bent_clauses.nd))) (fun _ _ _ _ _ => dts_nil) (fun _ _ _ _ _ => (de_var 6)))) (db_frz 3 (db_frz 4 (db_cons (ds_set 8 sc__law_bent_clauses.nd (de_if (dt_cmp (op_neD (hu64 hr)) p_neD (de_var 4) (dn_lst da_nil).sh (by rfl)) (de_ix ix_list p_ixL (de_var 4) de_int) de_str)) (db_cons (ds_setN 9 sc__law_bent_clauses.nd (dn_lst (da_cons de_non (da_cons de_int (da_cons de_str (da_cons dn_dic.sh (da_cons (dn_lst (da_cons (de_var 8) da_nil)).sh (da_cons (dn_lst (da_cons (de_tup (da_cons (de_var 8) da_nil)) da_nil)).sh (da_cons (dn_lst (da_cons (de_tup (da_cons (de_var 8) (da_cons de_int da_nil))) da_nil)).sh (da_cons (dn_lst (da_cons (de_tup (da_cons (de_var 8) (da_cons de_non da_nil))) da_nil)).sh (da_cons (dn_lst (da_cons (de_tup (da_cons (de_var 8) (da_cons de_bl (da_cons de_bl da_nil)))) da_nil)).sh (da_cons (dn_lst (da_cons (de_tupC (dk_consC de_str (dk_consC de_bl dk_nilC))) da_nil)).sh da_nil)))))))))))) (db_cons (ds_expr (de_ext 9 (dn_lst (da_cons (dn_lst (da_cons (de_tup (da_cons (de_var 8) (da_cons de_bl da_nil))) (da_cons (de_tup (da_cons (de_var 8) (da_cons de_bl da_nil))) da_nil))).sh (da_cons (dn_lst (da_cons (de_tup (da_cons (de_var 8) (da_cons de_bl da_nil))) (da_cons (de_tup (da_cons (de_var 8) (da_cons de_bl da_nil))) da_nil))).sh (da_cons (dn_lst (da_cons (de_tupC (dk_consC de_int (dk_consC de_bl dk_nilC))) da_nil)).sh (da_cons (dn_lst (da_cons (de_tup (da_cons (dn_lst (da_cons (de_var 8) da_nil)).sh (da_cons de_bl da_nil))) da_nil)).sh (da_cons (dn_lst (da_cons (de_tup (da_cons (de_var 8) (da_cons de_str da_nil))) da_nil)).sh da_nil)))))).sh (hpa := fun h => pe_bm PySem.F.plainAttrs_list PySem.F.slot_list_extend PySem.F.type_list_extend mt_extend (pv 9) (pa_cons h pa_nil)))) (db_cons (ds_set 10 sc__law_bent_clauses.nd (de_call (f__law_draw B) hr (by decide) (by rfl) passX (da_cons (de_var 0) (da_cons (de_op op_add p_I0 (de_cb call_lenAll (by rfl) B.len (by rfl) p_len (da_cons (de_var 2) da_nil)) de_int) da_nil)))) (db_frz 9 (db_one (ds_retN (dn_op op_cat p_cat (de_var 3) (dn_comp (ws := [5]) (by rfl) sc__law_bent_clauses.nd (di_seq (de_var 9)) (blkOk_by (own := [("odd", 5)]) (by rfl)) (by decide) (fun _ _ _ _ _ => (dg_name 5 sc__law_bent_clauses.nd)) (fun _ _ _ _ _ => dts_nil) (fun _ _ _ _ _ => (de_tup (da_cons (dn_op op_cat p_cat (dn_op op_cat p_cat (dn_op op_cat p_cat (dn_slice (de_var 2) do_none (do_some (de_var 10))).sh (dn_lst (da_cons (de_var 5) da_nil)).sh).sh (dn_slice (de_var 2) (do_some (de_var 10)) do_none).sh).sh (dn_lst (da_cons de_non da_nil)).sh).sh (da_cons (de_var 10) da_nil))))).sh)))))))))))) ?_
  · intro s n ds Q EQ h
    dsimp only [sp__law_bent_clauses] at h
    obtain ⟨_, _, _, _, rfl, _⟩ := h; rfl
  · intro s n ds Q EQ h
    dsimp only [sp__law_bent_clauses] at h
    obtain ⟨sp, q, cs, rfl, rfl, ok, hc, hne, hl, hcs, hcl, hn, h⟩ := h
    obtain ⟨m0, rest, hm⟩ : ∃ m0 rest, q.marks = m0 :: rest := by
      cases e : q.marks with
      | nil => exact absurd e hne
      | cons m0 rest => exact ⟨_, _, rfl⟩
    refine bCut (fun z => z = zBC sp q cs n (.ow (.lst (rowsD (oddC0.map fun d => (d, 0))))) (.ow (.lst (q.names.map strD))) .un .un .un .un .un .un) (fun C hC => ?_) (fun z hz => ?_)
    · simp [-rawD]
      refine comp_map (fun d => .tup [d, iD 0]) (by decide) (fun d hd R R2 h1 h2 => ?_) ?_
      · refine h2 _ ?_
        simp [-rawD]
        exact h1 _ rfl
      · refine ⟨_, rfl, _, rfl, _, rfl, ?_⟩
        refine comp_mapL (h := markD) (f := fun p => strD p.1) (by omega) (fun p hp R R2 h1 h2 => ?_) ?_
        · refine ⟨(strD p.1, handD p.2), by simp, h2 _ ?_⟩
          exact h1 _ rfl
        · have en : (q.marks.map fun p => strD p.1) = q.names.map strD := by simp [Qn.names, Function.comp_def]
          rw [en]
          exact hC _ rfl
    subst hz
    refine ⟨_, rfl, _, rfl, ?_⟩
    generalize hr0 : oddC0.map (fun d => (d, 0)) = r0
    have lr0 : r0.length = 5 := by rw [← hr0]; decide
    have hnm : q.names = m0.1 :: rest.map (·.1) := by rw [Qn.names, hm]; rfl
    have hmn : m0.1 ∈ q.names := by rw [hnm]; exact List.mem_cons_self ..
    have hnl : q.names.length ≤ 16 := by rw [Qn.names, List.length_map]; exact hl
    have sn : ShD 1 (.lst (q.names.map strD)) := sh_lst (sh_map fun x hx => sh_str 0 _ (ok_str ok x hx))
    refine bCut (fun z => z = zBC sp q cs n (.sh (.lst (rowsD r0))) (.sh (.lst (q.names.map strD))) .un .un .un (.sh (strD m0.1)) .un .un) (fun C hC => ?_) (fun z hz => ?_)
    · simp [-rawD]
      refine ⟨sn.1, nil_ok.1, sn.shaped, nil_ok.2, ?_⟩
      rw [nil_eqv]
      have e : (q.names.map strD).isEmpty = false := by rw [hnm]; rfl
      refine .inr ⟨e, ?_⟩
      have := atI_nat strD (⟨#[]⟩ : Str) q.names (i := 0) (by rw [hnm]; simp)
      refine ⟨_, this, hC _ ?_⟩
      rw [hnm]
      rfl
    subst hz
    refine bCut (fun z => z = zBC sp q cs n (.sh (.lst (rowsD r0))) (.sh (.lst (q.names.map strD))) .un .un .un (.sh (strD m0.1)) (.ow (.lst (oddC1 m0.1))) .un) (fun C hC => ?_) (fun z hz => ?_)
    · simp [-rawD]
      exact hC _ rfl
    subst hz
    refine bCut (fun z => z = zBC sp q cs n (.sh (.lst (rowsD r0))) (.sh (.lst (q.names.map strD))) .un .un .un (.sh (strD m0.1)) (.ow (.lst (oddC1 m0.1 ++ oddC2 m0.1))) .un) (fun C hC => ?_) (fun z hz => ?_)
    · simp [-rawD]
      exact ⟨by simp [oddC1], hC _ rfl⟩
    subst hz
    have hodd := oddC_ok hmn (fun q2 => no_namesC _ (by simp) (hc _ q2))
    have l1 : (oddC1 m0.1 ++ oddC2 m0.1).length = 15 := rfl
    generalize oddC1 m0.1 ++ oddC2 m0.1 = o1 at hodd l1 ⊢
    refine bCut (fun z => ∃ k : Nat, k ≤ cs.length ∧ z = zBC sp q cs (n + 1) (.sh (.lst (rowsD r0))) (.sh (.lst (q.names.map strD))) .un .un .un (.sh (strD m0.1)) (.ow (.lst o1)) (.sh (iD k))) (fun C hC => ?_) (fun z hz => ?_)
    · simp [-rawD]
      refine ⟨by omega, sp, (cs.length : Int) + 1, rfl, rfl, by omega, by omega, by omega, fun k hk => hC _ ⟨k, by omega, rfl⟩⟩
    obtain ⟨k, hk, rfl⟩ := hz
    refine ⟨_, rfl, ?_⟩
    simp [-rawD]
    refine comp_map (fun d => .tup [.lst ((cs.take k).map clD ++ [d] ++ (cs.drop k).map clD ++ [.v .non]), iD k]) (by omega) (fun d hd R R2 h1 h2 => ?_) ?_
    · refine h2 _ ?_
      simp [-rawD]
      rw [cut_to (by omega), cut_from k (by simpa using hk), ← List.map_take, ← List.map_drop]
      simp only [Int.toNat_natCast, List.length_map, List.length_take, List.length_drop]
      refine ⟨by omega, by omega, by omega, ?_⟩
      have := h1 ⟨[.sh (.v (.ref sp)), .sh (rawD q), .sh (.lst (cs.map clD)), .sh (.lst (rowsD r0)), .sh (.lst (q.names.map strD)), .sh d, .un, .un, .sh (strD m0.1), .sh (.lst o1), .sh (iD k)], n + 1⟩ rfl
      simpa [-rawD] using this
    · refine ⟨_, rfl, by simp; omega, ?_⟩
      have e : rowsD r0 ++ o1.map (fun d => D.tup [.lst ((cs.take k).map clD ++ [d] ++ (cs.drop k).map clD ++ [.v .non]), iD k]) = rowsD (r0 ++ o1.map fun d => (.lst ((cs.take k).map clD ++ [d] ++ (cs.drop k).map clD ++ [.v .non]), k)) := by
        simp [rowsD, Function.comp_def]
      rw [e]
      refine h _ (fun p hp => ?_) (by simp; omega)
      rcases List.mem_append.mp hp with hp | hp
      · rw [← hr0] at hp
        obtain ⟨o, ho, rfl⟩ := List.mem_map.mp hp
        exact oddC0_ok _ o ho
      · obtain ⟨o, ho, rfl⟩ := List.mem_map.mp hp
        exact bad_cls ok.nd (by omega) hcs (by omega) (hodd o ho) hk


end
end K01
end

section
set_option Elab.async false
set_option linter.all false
set_option maxRecDepth 100000
set_option maxHeartbeats 4000000
/-! DL45: a, b, c = x; targets of three. -/
namespace DL
open PySem PySem.Spec PyProof.Rows L2
section
variable {T : List (Addr × Str)} {X : Cx} {E : XK} {a b c e : Expr} {me : TDE} {pos p : Pos} {ma mb mc : TDG}
@[reducible, simp] def gP3 (m1 m2 m3 : TDG) : TDG := fun d z Q => ∃ x y w, d = .tup [x, y, w] ∧ m1 x z (fun z1 => m2 y z1 (fun z2 => m3 w z2 Q))
theorem dg_tup3 {kk : Nat} {ws us vs : List Nat} (hc : X.calm = true) (h1 : DG T X a ws ma) (h2 : DG T X b us mb) (hv : DG T X c vs mc) (h3 : (assignEach [a, b, c] X.env).length = 3 := by rfl) (h4 : (assignEach [a, b, c] X.env).findIdx? (·.1) = none := by rfl)
    (h5 : ∀ {t u w : TG}, PG X a t → PG X b u → PG X c w → PGs X [a, b, c] (gCons t (gCons u (gCons w gNil))) := by exact fun p q r => pgs_cons p (pgs_cons q (pgs_cons r pgs_nil))) : DG T X (.Tuple [a, b, c] kk pos) (ws ++ (us ++ vs)) (gP3 ma mb mc) := by
  obtain ⟨t, p, q⟩ := h1.ex
  obtain ⟨u, p2, q2⟩ := h2.ex
  obtain ⟨w, p3, q3⟩ := hv.ex
  refine ⟨⟨_, pg_tup hc (h5 p p2 p3) h3 h4, fun st F0 H0 F H σ z d v Q R r rp h k => ?_⟩⟩
  obtain ⟨x, y, y3, rfl, hm⟩ := h
  cases rp with
  | tup hf rr =>
    refine ⟨_, _, rfl, SqT.same r.ok.sub hf, rr.length.symm.trans rfl, ?_⟩
    cases rr with
    | cons rx rr =>
      cases rr with
      | cons ry rr =>
        cases rr with
        | cons rw rr =>
          cases rr
          exact ⟨_, _, rfl, q st F0 H0 F H σ z x _ _ _ r rx hm fun σ1 z1 r1 a1 m1 => ⟨_, _, rfl, q2 st F0 H0 F H σ1 z1 y _ _ _ r1 ry m1 fun σ2 z2 r2 a2 m2 => ⟨_, _, rfl, q3 st F0 H0 F H σ2 z2 y3 _ Q _ r2 rw m2 fun σ3 z3 r3 a3 h3 => ⟨rfl, k σ3 z3 r3 (a1.trans (a2.trans a3)) h3⟩⟩⟩⟩
@[reducible, simp] def sTgt (g : TDG) (me : TDE) : TDS := fun st D z EQ => me st z (fun d z1 => g d z1 D.nx) EQ
theorem ds_tgt {tg : Expr} {ws : List Nat} {g : TDG} (hg : DG T X tg ws g) (he : DE T X E e me) (hs : swapsWithSole [tg] e pos.line X.env = pure false := by rfl) (hw : swappedStores [tg] e X.env = pure none := by rfl)
    (h1 : (assignEach [tg] X.env).map (·.2) = [assign tg X.env] := by rfl) : DS T X E (.Assign [tg] e pos) (sTgt g me) := by
  obtain ⟨t, pt, q⟩ := he.ex
  obtain ⟨gt, pg, qg⟩ := hg.ex
  refine ⟨⟨_, ps_asg pt pg hs hw h1, fun st F0 H0 F H σ z D EQ D' r er h k => ?_⟩⟩
  refine q st F0 H0 F H σ z _ EQ _ r er h fun v H1 F1 d z1 s1 r1 p1 h1 => ?_
  exact qg st F0 H0 F1 H1 σ z1 d v _ _ r1 p1 h1 fun σ2 z2 r2 _ h2 => k.nx σ2 H1 F1 z2 s1 r2 h2
end
end DL
end

section
set_option Elab.async false
set_option linter.all false
set_option maxRecDepth 100000
set_option maxHeartbeats 4000000
namespace K01
open PySem PySem.Spec PyProof.Rows L2 DL

theorem loose_marks (ms : List (Str × Hand)) : Loose (.lst (ms.map markD)) (.lst (ms.map markD)) := by
  refine .ll ?_
  induction ms with
  | nil => exact .nil
  | cons p ms ih => exact .cons (.tt (.cons (.v _) (.cons (loose_hand p.2) .nil))) ih
theorem first_one {os : List (Option Cl)} {i j : Nat} (h : firstNone os i) (h2 : firstNone os j) : i = j := by
  rcases Nat.lt_trichotomy i j with q | q | q
  · exact absurd h.1 (h2.2 i q)
  · exact q
  · exact absurd h2.1 (h.2 j q)

section
variable {P : Program} {w : World} {K : PySem.W.Frag} {T : List (Addr × Str)} {mg : Str → Option Value} {base : Heap} {a : Ad}
theorem sc__law_refused_right : FnScope ["stream", "question", "odd", "index", "marks", "wishes", "guards"] ["stream", "question"] (defScope (topS 45)) := ⟨rfl, rfl, rfl, by decide +kernel, rfl, by decide +kernel, by decide +kernel⟩
theorem bd__law_refused_right : BindsH "_law_refused_right" (topS 45) ["stream", "question"] := fun _ _ _ _ _ _ us hl => match us, hl with | [_, _], _ => rfl
def sp__law_refused_right : DSpec := fun st n ds Q _ => ∃ (sp : Addr) (q : Qn), st = some sp ∧ ds = [.v (.ref sp), rawD q] ∧ Few q ∧ (∀ x ∈ q.names, x ∈ namesC) ∧ q.marks ≠ [] ∧ n + 3 ≤ 1000000 ∧ Q (.sh (blD true)) (n + 3)
theorem f__law_refused_right (B : BM P K mg a) (c Pt : Addr) (F : FunC K mg "_law_refused_right" (topS 45) c) (tb : LamX.TabB base mg c Pt) (hT : (Pt, (("_law_refused_right" : Str) ++ ".<locals>.") ++ "<lambda>") ∈ T) (hU : ∀ p ∈ T, p.1 = Pt → p.2 = (("_law_refused_right" : Str) ++ ".<locals>.") ++ "<lambda>") : Fn P w K T mg base 10 "_law_refused_right" ["stream", "question"] (sp__law_refused_right) := by
  refine mkFnC F sc__law_refused_right bd__law_refused_right ?_ (fun f A outer s H E hr => (db_cons (ds_for ownX (by rfl) (di_seq (dn_call (f__law_bent_marks B.toBF) hr (by decide) (by rfl) passX (da_cons (de_var 0) (da_cons (de_var 1) da_nil))).sh) (dg_tup2 (by rfl) (dg_name 2 sc__law_refused_right.nd) (dg_name 3 sc__law_refused_right.nd)) (db_one (ds_if (dt_not (dt_val (de_call (f__law_same_at B.toBF 4) hr (by decide) (by rfl) passX (da_cons (de_lm (k := 7) B (by rfl) tb rfl hT hU (hr.mono (by decide)) (LamX.lamS_by (by kernel_rfl)) (by rfl) (fun _ _ _ _ _ => rfl) (fun A outer s H E f c hr => (dfr_make (f_Q_init B.toBQ) hr (by decide) (by rfl) passLam (da_cons (de_var 2) (da_cons de_non (da_cons de_non da_nil)))).sh)) (da_cons (de_tup (da_cons de_str (da_cons (de_var 3) da_nil))) da_nil))))) (db_one (ds_ret de_bl)) db_nil))) (db_cons (ds_tgt (dg_tup3 (by rfl) (dg_name 4 sc__law_refused_right.nd) (dg_name 5 sc__law_refused_right.nd) (dg_name 6 sc__law_refused_right.nd)) (de_var 1)) (db_cons (ds_for ownX (by rfl) (di_seq (dn_call (f__law_bent_clauses B.toBF) hr (by decide) (by rfl) passX (da_cons (de_var 0) (da_cons (de_var 1) (da_cons (de_var 5) da_nil)))).sh) (dg_tup2 (by rfl) (dg_name 2 sc__law_refused_right.nd) (dg_name 3 sc__law_refused_right.nd)) (db_one (ds_if (dt_not (dt_val (de_call (f__law_same_at B.toBF 4) hr (by decide) (by rfl) passX (da_cons (de_lm (k := 7) B (by rfl) tb rfl hT hU (hr.mono (by decide)) (LamX.lamS_by (by kernel_rfl)) (by rfl) (fun _ _ _ _ _ => rfl) (fun A outer s H E f c hr => (dfr_make (f_Q_init B.toBQ) hr (by decide) (by rfl) passLam (da_cons (de_var 4) (da_cons (de_var 2) (da_cons de_non da_nil)))).sh)) (da_cons (de_tup (da_cons de_str (da_cons (de_var 3) da_nil))) da_nil))))) (db_one (ds_ret de_bl)) db_nil))) (db_cons (ds_for ownX (by rfl) (di_seq (dn_call (f__law_bent_clauses B.toBF) hr (by decide) (by rfl) passX (da_cons (de_var 0) (da_cons (de_var 1) (da_cons (de_var 6) da_nil)))).sh) (dg_tup2 (by rfl) (dg_name 2 sc__law_refused_right.nd) (dg_name 3 sc__law_refused_right.nd)) (db_one (ds_if (dt_not (dt_val (de_call (f__law_same_at B.toBF 4) hr (by decide) (by rfl) passX (da_cons (de_lm (k := 7) B (by rfl) tb rfl hT hU (hr.mono (by decide)) (LamX.lamS_by (by kernel_rfl)) (by rfl) (fun _ _ _ _ _ => rfl) (fun A outer s H E f c hr => (dfr_make (f_Q_init B.toBQ) hr (by decide) (by rfl) passLam (da_cons (de_var 4) (da_cons (de_var 5) (da_cons (de_var 2) da_nil)))).sh)) (da_cons (de_tup (da_cons de_str (da_cons (de_var 3) da_nil))) da_nil))))) (db_one (ds_ret de_bl)) db_nil))) (db_one (ds_ret de_bl))))))) ?_
  · intro s n ds Q EQ h
    dsimp only [sp__law_refused_right] at h
    obtain ⟨_, _, _, rfl, _⟩ := h; rfl
  · intro s n ds Q EQ h
    dsimp only [sp__law_refused_right] at h
    obtain ⟨sp, q, rfl, rfl, few, hc, hne, hn, h⟩ := h
    have sm : ∀ (w : Str) (i : Nat), Sm 4 (.tup [strD w, iD i]) := fun w i => .inr (.inr (.inr (.inr ⟨_, .inr rfl, by simp, fun e he => by
      simp only [List.mem_cons, List.not_mem_nil, or_false] at he
      rcases he with rfl | rfl
      · exact .inr (.inl ⟨_, rfl⟩)
      · exact .inr (.inr (.inr (.inl ⟨_, rfl⟩)))⟩)))
    refine bCut (fun z => ∃ x2 x3, z = ⟨[.sh (.v (.ref sp)), .sh (rawD q), x2, x3, .un, .un, .un], n + 1⟩) (fun C hC => ?_) (fun z hz => ?_)
    · simp [-rawD]
      refine ⟨sp, q, rfl, rfl, few.ok, hc, hne, few.m, by omega, fun rs hrs hl => ⟨_, rfl, _, rfl, ?_⟩⟩
      refine for_ind (fun ds z => ∃ (rest : List (D × Nat)) (x2 x3 : DV), ds = rowsD rest ∧ (∀ p ∈ rest, MksO p.1 (.inl p.2)) ∧ z = ⟨[.sh (.v (.ref sp)), .sh (rawD q), x2, x3, .un, .un, .un], n + 1⟩) ?_ ?_ _ _ ⟨rs, .un, .un, rfl, hrs, rfl⟩
      · rintro z ⟨rest, x2, x3, _, _, rfl⟩
        exact hC _ ⟨_, _, rfl⟩
      · rintro d ds z C2 hC2 ⟨rest, x2, x3, h1, h2, rfl⟩
        cases rest with
        | nil => simp at h1
        | cons p rest =>
          simp at h1
          obtain ⟨rfl, rfl⟩ := h1
          refine ⟨(p.1, iD p.2), by simp, ?_⟩
          have hp := h2 p (List.mem_cons_self ..)
          simp [-rawD]
          refine ⟨_, _, _, _, rfl, hp, fun i e => ?_, nofun⟩
          cases e
          refine ⟨_, _, _, metL_m a, _, rfl, ?_⟩
          exact ⟨_, rfl, sm "marks" p.2, .inr ⟨rfl, hC2 _ ⟨rest, .sh p.1, .sh (iD p.2), rfl, fun p hp => h2 p (List.mem_cons_of_mem _ hp), rfl⟩⟩⟩
    obtain ⟨x2, x3, rfl⟩ := hz
    refine bCut (fun z => ∃ x2 x3, z = ⟨[.sh (.v (.ref sp)), .sh (rawD q), x2, x3, .sh (.lst (q.marks.map markD)), .sh (.lst (q.wishes.map clD)), .sh (.lst (q.guards.map clD))], n + 1⟩) (fun C hC => ?_) (fun z hz => ?_)
    · exact ⟨_, _, _, rfl, hC _ ⟨x2, x3, rfl⟩⟩
    obtain ⟨x2, x3, rfl⟩ := hz
    have goodM : MksO (.lst (q.marks.map markD)) (.inr q.marks) := .good _ _ (loose_marks _) few.ok.nd few.ok.good few.ok.len
    have goodC : ∀ cs : List Cl, cs.length ≤ 20 → (∀ c ∈ cs, (c.map (·.1)).Sublist q.names) → ClsO (q.marks.map (·.1)) (.lst (cs.map clD)) (cs.map some) := fun cs hl hs => .lst _ _ _ (.inl rfl) (cls_self few.ok.nd (by rw [Qn.names, List.length_map]; exact few.ok.len) hs) (by simp; omega)
    refine bCut (fun z => ∃ x2 x3, z = ⟨[.sh (.v (.ref sp)), .sh (rawD q), x2, x3, .sh (.lst (q.marks.map markD)), .sh (.lst (q.wishes.map clD)), .sh (.lst (q.guards.map clD))], n + 2⟩) (fun C hC => ?_) (fun z hz => ?_)
    · simp [-rawD]
      refine ⟨sp, q, q.wishes, rfl, rfl, few.ok, hc, hne, few.m, few.ok.ws, few.w, by omega, fun rs hrs hl => ⟨_, rfl, _, rfl, ?_⟩⟩
      refine for_ind (fun ds z => ∃ (rest : List (D × Nat)) (x2 x3 : DV), ds = rowsD rest ∧ (∀ p ∈ rest, BadCls q.names p.1 p.2) ∧ z = ⟨[.sh (.v (.ref sp)), .sh (rawD q), x2, x3, .sh (.lst (q.marks.map markD)), .sh (.lst (q.wishes.map clD)), .sh (.lst (q.guards.map clD))], n + 2⟩) ?_ ?_ _ _ ⟨rs, x2, x3, rfl, hrs, rfl⟩
      · rintro z ⟨rest, x2, x3, _, _, rfl⟩
        exact hC _ ⟨_, _, rfl⟩
      · rintro d ds z C2 hC2 ⟨rest, x2, x3, h1, h2, rfl⟩
        cases rest with
        | nil => simp at h1
        | cons p rest =>
          simp at h1
          obtain ⟨rfl, rfl⟩ := h1
          refine ⟨(p.1, iD p.2), by simp, ?_⟩
          obtain ⟨os, o1, o2⟩ := h2 p (List.mem_cons_self ..)
          simp [-rawD]
          refine ⟨_, _, _, _, rfl, goodM, nofun, fun ms e => ?_⟩
          cases e
          refine ⟨os, o1, fun i hi => ?_, fun ws e => ?_⟩
          · cases first_one o2 hi
            refine ⟨_, _, _, metL_w a, _, rfl, ?_⟩
            exact ⟨_, rfl, sm "wishes" p.2, .inr ⟨rfl, hC2 _ ⟨rest, .sh p.1, .sh (iD p.2), rfl, fun p hp => h2 p (List.mem_cons_of_mem _ hp), rfl⟩⟩⟩
          · rw [e] at o2
            exact (first_some o2).elim
    obtain ⟨x2, x3, rfl⟩ := hz
    refine bCut (fun z => ∃ z0, z = ⟨z0, n + 3⟩) (fun C hC => ?_) (fun z hz => ?_)
    · simp [-rawD]
      refine ⟨sp, q, q.guards, rfl, rfl, few.ok, hc, hne, few.m, few.ok.gs, few.g, by omega, fun rs hrs hl => ⟨_, rfl, _, rfl, ?_⟩⟩
      refine for_ind (fun ds z => ∃ (rest : List (D × Nat)) (x2 x3 : DV), ds = rowsD rest ∧ (∀ p ∈ rest, BadCls q.names p.1 p.2) ∧ z = ⟨[.sh (.v (.ref sp)), .sh (rawD q), x2, x3, .sh (.lst (q.marks.map markD)), .sh (.lst (q.wishes.map clD)), .sh (.lst (q.guards.map clD))], n + 3⟩) ?_ ?_ _ _ ⟨rs, x2, x3, rfl, hrs, rfl⟩
      · rintro z ⟨rest, x2, x3, _, _, rfl⟩
        exact hC _ ⟨_, rfl⟩
      · rintro d ds z C2 hC2 ⟨rest, x2, x3, h1, h2, rfl⟩
        cases rest with
        | nil => simp at h1
        | cons p rest =>
          simp at h1
          obtain ⟨rfl, rfl⟩ := h1
          refine ⟨(p.1, iD p.2), by simp, ?_⟩
          obtain ⟨os, o1, o2⟩ := h2 p (List.mem_cons_self ..)
          simp [-rawD]
          refine ⟨_, _, _, _, rfl, goodM, nofun, fun ms e => ?_⟩
          cases e
          refine ⟨_, goodC _ few.w few.ok.ws, fun i hi => (first_some hi).elim, fun ws e => ?_⟩
          refine ⟨os, o1, fun i hi => ?_, fun ws e => ?_⟩
          · cases first_one o2 hi
            refine ⟨_, _, _, metL_g a, _, rfl, ?_⟩
            exact ⟨_, rfl, sm "guards" p.2, .inr ⟨rfl, hC2 _ ⟨rest, .sh p.1, .sh (iD p.2), rfl, fun p hp => h2 p (List.mem_cons_of_mem _ hp), rfl⟩⟩⟩
          · rw [e] at o2
            exact (first_some o2).elim
    obtain ⟨z0, rfl⟩ := hz
    simp
    exact h


end
end K01
end

section
set_option Elab.async false
set_option linter.all false
set_option maxRecDepth 100000
set_option maxHeartbeats 4000000
/-! DL46: x[::-1]; an instance == a tuple. -/
namespace DL
open PySem PySem.Spec PyProof.Rows L2
theorem Reps.reverse {K : PySem.W.Frag} {F : Hp} {ds : List D} {xs : List V} (r : Reps K F ds xs) : Reps K F ds.reverse xs.reverse := by
  induction r using Reps.rec (motive_1 := fun _ _ _ => True) with
  | nil => exact .nil
  | cons h t _ ih => rw [List.reverse_cons, List.reverse_cons]; exact ih.append (.one h)
  | _ => trivial
section
variable {T : List (Addr × Str)} {X : Cx} {E : XK} {e a b : Expr} {me ma mb : TDE} {pos : Pos} {k j : Nat} {ps : List Str} {sp : DSpec}
@[reducible, simp] def mRev (me : TDE) : TDE := fun st z Q EQ => me st z (fun d z1 => ∃ ds, d = .lst ds ∧ Q (.lst ds.reverse) z1) EQ
theorem dn_rev {kk : Nat} {p1 p2 p3 : Pos} (he : DE T X E e me) : DN T X E (.Subscript e (.Slice none none (some (.UnaryOp .USub (.Constant (.int 1) kk p1) p2)) p3) pos) (mRev me) := by
  obtain ⟨t, pt, q⟩ := he.ex
  refine ⟨⟨_, pe_revL pt, fun st F0 H0 F H σ z Q EQ R r er h k => ?_⟩⟩
  refine q st F0 H0 F H σ z _ EQ _ r er h fun v H1 F1 d z1 s1 r1 p1 h1 => ?_
  obtain ⟨ds, rfl, h4⟩ := h1
  cases p1 with
  | lst hf rr =>
    refine ⟨_, _, rfl, SqL.of (r1.ok.sub _ _ hf), fun p hp => ?_⟩
    obtain ⟨r4, w⟩ := r1.laid hp (Cell.lst rr.reverse)
    exact k p _ F1 _ z1 s1 r4 w h4
def rEqT (C : Addr) (sp : Sp) (E : XK) (K : PySem.W.Frag) : R2 := fun x y H Q => ∃ a dx fs t ys, x = .ref a ∧ y = .ref t ∧ H a = some (.ins C dx fs) ∧ SqT K H t ys ∧ sp [x, y] H Q E
theorem op_eqT {CX : CXT} {C f : Addr} {fd : FuncData} {sp : Sp} (F : FnOk X.prog X.w X.K X.mg X.base CX k f fd ps sp) (hs : PySem.W.findIn X.K (.ref C) "__eq__" = some (some (.ref f))) (hf : PySem.W.isFn X.K (.ref f) = true) (hb : Binds X.K fd ps []) (hx : Passes CX X E) (hr : Room k X.A) (hn : PySem.W.notFirst X.K C (.type "tuple") = true) : OpR X (compareOp .Eq) (rEqT C sp E X.K) := by
  intro pins s σ H x y v u Q I rx ry h
  obtain ⟨a, dx, fs, t, ys, rfl, rfl, ha, ht, hsp⟩ := h
  cases rx
  cases ry
  obtain ⟨mA, J, _⟩ := ins_get I.hok ha
  obtain ⟨od, J, _⟩ := J.look
  obtain ⟨its, _, ⟨o, ho, hc, _⟩, _⟩ := I.tuple ht
  obtain ⟨m, hF⟩ := I.fr
  have hl : PySem.W.Looks (model X.prog X.w) s.heap (typeOf (.ref t)) (.type "tuple") := hc ▸ (PySem.W.Looks.ld ho).andThen .now
  refine PySem.W.cmp_K (op := .Eq) (tb := .type "tuple") hr.units0 hF I.ok.mod.kin J hl hn hs hf ?_
  refine wpAny_mono (run_fn (us := [.ref a, .ref t]) (vs := [.ref a, .ref t]) (dvs := []) F hr hb .nil hx I (.cons rfl (.cons rfl .nil)) (by simpa using hsp)) (fun r s' q => ?_) fun _ _ z => z
  obtain ⟨z, H', I', rz, hz⟩ := id q
  cases z <;> (unfold L2.RelV at rz; first | (subst rz; exact q) | (obtain ⟨_, rz⟩ := rz; subst rz; exact q))
@[reducible, simp] def mEqT (C : Addr) (sp : DSpec) (ma mb : TDE) : TDE := fun st z Q EQ => ma st z (fun d z1 => mb st z1 (fun e z2 => ∃ fs ts, d = .ins C fs ∧ e = .tup ts ∧ sp st z2.n [d, e] (fun r n' => Q r.d { z2 with n := n' }) EQ) EQ) EQ
theorem de_eqT {C : Addr} (c : MethP X.prog X.w X.K T X.mg X.base k C "__eq__" ps sp) (hr : Room j X.A) (hk : k ≤ j) (hx : Passes (L2.CX X.prog X.w) X E) (hn : PySem.W.notFirst X.K C (.type "tuple") = true) (ha : DE T X E a ma) (hb : DE T X E b mb) (hm : behindInMarks .Eq b = false) : DE T X E (.Compare a [.Eq] [b] pos) (mEqT C sp ma mb) := by
  obtain ⟨f, M, c⟩ := c
  obtain ⟨fd, F, hbn⟩ := c.ex
  obtain ⟨ta, pa, qa⟩ := ha.ex
  obtain ⟨tb, pb, qb⟩ := hb.ex
  refine ⟨⟨_, pe_cmpR (op_eqT (C := C) F M.at_ M.fn hbn hx (hr.mono hk) hn) pa pb hm, fun st F0 H0 F H σ z Q EQ R r er h k => ?_⟩⟩
  refine qa st F0 H0 F H σ z _ EQ _ r er h fun v1 H1 F1 d1 z1 s1 r1 p1 h1 => ?_
  refine qb st F0 H0 F1 H1 σ z1 _ EQ _ r1 er h1 fun v2 H2 F2 d2 z2 s2 r2 p2 h2 => ?_
  obtain ⟨fs, ts, rfl, rfl, h3⟩ := h2
  have p1 := p1.mono s2
  cases p1 with
  | ins f1 k1 rr1 =>
    cases p2 with
    | tup f2 rr2 =>
      refine ⟨_, _, _, _, _, rfl, rfl, r2.ok.sub _ _ f1, SqT.same r2.ok.sub f2, ?_⟩
      have := call_sp (vs := [_, _]) (R := R) r2 er (.cons (.ins f1 k1 rr1) (.cons (.tup f2 rr2) .nil)) h3 fun v H3 F3 rr n' ok q qd => by
        obtain ⟨F4, s4, r4, rp⟩ := res_sh r2 ok q
        exact k v H3 F4 _ _ ((s1.trans s2).trans s4) r4 rp qd
      simpa using this
end
end DL
end

section
set_option Elab.async false
set_option linter.all false
set_option maxRecDepth 100000
set_option maxHeartbeats 4000000
namespace K01
open PySem PySem.Spec PyProof.Rows L2 DL

abbrev zNr (sp : Addr) (q : Qn) (n : Nat) (found : List Qn) (x6 x7 x8 x9 : DV) : Z := ⟨[.sh (.v (.ref sp)), .sh (rawD q), .sh (.lst (q.marks.map markD)), .sh (.lst (q.wishes.map clD)), .sh (.lst (q.guards.map clD)), .ow (.lst (found.map rawD)), x6, x7, x8, x9], n⟩
def handsC : List Hand := [.we, .they, .ch 1 2, .ch 2 4, .ch 1 3]
theorem handsC_good : ∀ h ∈ handsC, h.good = true := by decide
/-- a question near to a drawn one -/
structure NearQ (q : Qn) : Prop where
  ok : q.Ok
  m : q.marks.length ≤ 17
  w : q.wishes.length ≤ 50
  g : q.guards.length ≤ 50
theorem cut_from' (ds : List D) (k : Nat) : DL.cutD ds (some (k : Int)) none = ds.drop k := by
  rcases Nat.le_total k ds.length with h | h
  · exact cut_from k h
  · unfold DL.cutD
    rw [List.drop_eq_nil_of_le h]
    have e : HT.sIx ds.length 0 (some (k : Int)) = ds.length := by
      unfold HT.sIx
      dsimp only
      rw [if_neg (by omega)]
      omega
    rw [e, List.drop_length]
    simp
theorem near_c {q : Qn} (f : Few q) {ws gs : List Cl} (hw : ∀ c ∈ ws, (c.map (·.1)).Sublist q.names) (hg : ∀ c ∈ gs, (c.map (·.1)).Sublist q.names) (lw : ws.length ≤ 50) (lg : gs.length ≤ 50) : NearQ ⟨q.marks, ws, gs⟩ :=
  ⟨⟨f.ok.nd, f.ok.good, f.ok.len, by show ws.length ≤ 1000; omega, by show gs.length ≤ 1000; omega, hw, hg⟩, by have := f.m; show q.marks.length ≤ 17; omega, lw, lg⟩
theorem near_m {q : Qn} (f : Few q) {ms : List (Str × Hand)} (hn : ms.map (·.1) = q.names) (hg : ∀ p ∈ ms, goodName p.1 ∧ p.2.good = true) : NearQ ⟨ms, q.wishes, q.guards⟩ := by
  have hl : ms.length = q.marks.length := by
    have := congrArg List.length hn
    unfold Qn.names at this
    simpa using this
  have e : Qn.names ⟨ms, q.wishes, q.guards⟩ = q.names := hn
  have hm := f.m
  have hw := f.w
  have hg' := f.g
  exact ⟨⟨by rw [e]; exact f.ok.nd, hg, by show ms.length ≤ 1000; omega, f.ok.wl, f.ok.gl, by rw [e]; exact f.ok.ws, by rw [e]; exact f.ok.gs⟩, by show ms.length ≤ 17; omega, by show q.wishes.length ≤ 50; omega, by show q.guards.length ≤ 50; omega⟩
theorem near_r {q : Qn} (f : Few q) : NearQ ⟨q.marks.reverse, [], []⟩ := by
  have hm := f.m
  refine ⟨⟨?_, fun p hp => f.ok.good p (by simpa using hp), by simp; omega, by simp, by simp, nofun, nofun⟩, by simp; omega, by simp, by simp⟩
  have := f.ok.nd
  unfold Qn.names at this ⊢
  rw [List.map_reverse]
  exact (List.reverse_perm _).nodup_iff.mpr this
theorem near_n {q : Qn} (f : Few q) (hc : ∀ x ∈ q.names, x ∈ namesC) : NearQ ⟨q.marks ++ [(("n1" : Str), Hand.we)], q.wishes, q.guards⟩ := by
  have hm := f.m
  have hw := f.w
  have hg := f.g
  have e : Qn.names ⟨q.marks ++ [(("n1" : Str), Hand.we)], q.wishes, q.guards⟩ = q.names ++ [("n1" : Str)] := by simp [Qn.names]
  have sub : q.names.Sublist (q.names ++ [("n1" : Str)]) := List.sublist_append_left ..
  refine ⟨⟨?_, fun p hp => ?_, by simp; omega, f.ok.wl, f.ok.gl, ?_, ?_⟩, by simp; omega, by show q.wishes.length ≤ 50; omega, by show q.guards.length ≤ 50; omega⟩
  · rw [e, List.nodup_append]
    refine ⟨f.ok.nd, by simp, fun x hx y hy e => ?_⟩
    rw [List.mem_singleton.mp hy] at e
    exact no_namesC "n1" (by simp) (e ▸ hc x hx)
  · rcases List.mem_append.mp hp with hp | hp
    · exact f.ok.good p hp
    · rw [List.mem_singleton.mp hp]
      exact ⟨good_n1, rfl⟩
  · rw [e]; exact fun c hc => (f.ok.ws c hc).trans sub
  · rw [e]; exact fun c hc => (f.ok.gs c hc).trans sub
theorem set_names {ms : List (Str × Hand)} {k : Nat} {p0 : Str × Hand} (h : ms[k]? = some p0) (x : Hand) : (ms.take k ++ (p0.1, x) :: ms.drop (k + 1)).map (·.1) = ms.map (·.1) := by
  obtain ⟨hk, e⟩ := List.getElem?_eq_some_iff.mp h
  have : ms = ms.take k ++ p0 :: ms.drop (k + 1) := by
    rw [← e]
    simp
  conv => rhs; rw [this]
  simp
theorem near_snoc {fs : List Qn} (h : ∀ r ∈ fs, NearQ r) {r : Qn} (hr : NearQ r) : ∀ x ∈ fs ++ [r], NearQ x := fun x hx => by
  rcases List.mem_append.mp hx with hx | hx
  · exact h x hx
  · rw [List.mem_singleton.mp hx]; exact hr
theorem sh_hand {h : Hand} (hg : h.good = true) : ShD 1 (handD h) := by
  cases h with
  | we => exact sh_str 1 _ (by decide +kernel)
  | they => exact sh_str 1 _ (by decide +kernel)
  | ch i j =>
    refine sh_tup fun d hd => ?_
    (
      simp only [List.mem_cons, List.not_mem_nil, or_false] at hd
      rcases hd with rfl | rfl
      · exact sh_int 0 _
      · exact sh_int 0 _)
theorem fm_if {α : Type} (c : α → Bool) (f : α → D) : ∀ xs : List α, xs.filterMap (fun h => if c h = true then none else some (f h)) = (xs.filter (fun h => !c h)).map f
  | [] => rfl
  | x :: xs => by
    rw [List.filterMap_cons, List.filter_cons]
    cases e : c x <;> simp [fm_if c f xs]
theorem two_hands (h : Hand) : handsC.filter (fun x => !PyData.eqv (pyD (handD x)) (pyD (handD h))) ≠ [] := by
  have e : ∀ x ∈ handsC, PyData.eqv (pyD (handD x)) (pyD (handD h)) = false → handsC.filter (fun x => !PyData.eqv (pyD (handD x)) (pyD (handD h))) ≠ [] := fun x hx he => List.ne_nil_of_mem (List.mem_filter.mpr ⟨hx, by rw [he]; rfl⟩)
  cases h with
  | we => exact e .they (by simp [handsC]) (by decide +kernel)
  | they => exact e .we (by simp [handsC]) (by decide +kernel)
  | ch i j => exact e .we (by simp [handsC]) (by simp [pyD, PyData.eqv])
theorem fst_tail {c : Cl} {l : List Str} (h : (c.map (·.1)).Sublist l) : ((c.drop 1).map (·.1)).Sublist l := ((List.drop_sublist 1 c).map _).trans h

section
variable {P : Program} {w : World} {K : PySem.W.Frag} {T : List (Addr × Str)} {mg : Str → Option Value} {base : Heap} {a : Ad}
theorem sc__law_near : FnScope ["stream", "question", "marks", "wishes", "guards", "found", "at", "some", "hand", "other"] ["stream", "question"] (defScope (topS 42)) := ⟨rfl, rfl, rfl, by decide +kernel, rfl, by decide +kernel, by decide +kernel⟩
theorem bd__law_near : BindsH "_law_near" (topS 42) ["stream", "question"] := fun _ _ _ _ _ _ us hl => match us, hl with | [_, _], _ => rfl
def sp__law_near : DSpec := fun st n ds Q _ => ∃ (sp : Addr) (q : Qn), st = some sp ∧ ds = [.v (.ref sp), rawD q] ∧ Few q ∧ (∀ x ∈ q.names, x ∈ namesC) ∧ n + 2 ≤ 1000000 ∧ ∀ (rs : List Qn) (m : Nat), (∀ r ∈ rs, NearQ r) → rs.length ≤ 20 → n ≤ m → m ≤ n + 2 → Q (.nw (.lst (rs.map rawD))) m
theorem f__law_near (B : BF P K mg a) : Fn P w K T mg base 3 "_law_near" ["stream", "question"] (sp__law_near) := by
  refine mkFn B._law_near sc__law_near bd__law_near ?_ (fun f cdv A outer s H E hr => (db_cons (ds_tgt (dg_tup3 (by rfl) (dg_name 2 sc__law_near.nd) (dg_name 3 sc__law_near.nd) (dg_name 4 sc__law_near.nd)) (de_var 1)) (db_cons (ds_setN 5 sc__law_near.nd (dn_lst (da_cons (de_tup (da_cons (de_var 2) (da_cons (de_var 4) (da_cons (de_var 3) da_nil)))) (da_cons (de_tup (da_cons (de_var 2) (da_cons (dn_op op_cat p_cat (de_var 3) (dn_lst (da_cons (dn_lst da_nil).sh da_nil)).sh).sh (da_cons (de_var 4) da_nil)))) (da_cons (de_tup (da_cons (de_var 2) (da_cons (dn_slice (de_var 3) (do_some de_int) do_none).sh (da_cons (de_var 4) da_nil)))) da_nil))))) (db_cons (ds_expr (de_ext 5 (dn_lst (da_cons (de_tup (da_cons (dn_rev (de_var 2)).sh (da_cons (dn_lst da_nil).sh (da_cons (dn_lst da_nil).sh da_nil)))) (da_cons (de_tup (da_cons (de_var 2) (da_cons (dn_rev (de_var 3)).sh (da_cons (de_var 4) da_nil)))) (da_cons (de_tup (da_cons (de_var 2) (da_cons (dn_op op_cat p_cat (de_var 3) (dn_slice (de_var 3) do_none (do_some de_int)).sh).sh (da_cons (de_var 4) da_nil)))) da_nil)))).sh (hpa := fun h => pe_bm PySem.F.plainAttrs_list PySem.F.slot_list_extend PySem.F.type_list_extend mt_extend (pv 5) (pa_cons h pa_nil)))) (db_cons (ds_expr (de_app 5 (de_tup (da_cons (de_var 2) (da_cons (de_var 3) (da_cons (dn_op op_cat p_cat (de_var 4) (dn_lst (da_cons (dn_lst da_nil).sh da_nil)).sh).sh da_nil)))) (hpa := fun h => pe_bm PySem.F.plainAttrs_list PySem.F.slot_list_append PySem.F.type_list_append mt_append (pv 5) (pa_cons h pa_nil)))) (db_cons (ds_expr (de_app 5 (de_tup (da_cons (dn_op op_cat p_cat (de_var 2) (dn_lst (da_cons (de_tupC (dk_consC de_str (dk_consC de_str dk_nilC))) da_nil)).sh).sh (da_cons (de_var 3) (da_cons (de_var 4) da_nil)))) (hpa := fun h => pe_bm PySem.F.plainAttrs_list PySem.F.slot_list_append PySem.F.type_list_append mt_append (pv 5) (pa_cons h pa_nil)))) (db_cons (ds_if (dt_cmp (op_neD (hu64 hr)) p_neD (de_var 2) (dn_lst da_nil).sh (by rfl)) (db_cons (ds_set 6 sc__law_near.nd (de_call (f__law_draw B) hr (by decide) (by rfl) passX (da_cons (de_var 0) (da_cons (de_cb call_lenAll (by rfl) B.len (by rfl) p_len (da_cons (de_var 2) da_nil)) da_nil)))) (db_cons (ds_comp 7 (ws := [8]) (by rfl) sc__law_near.nd (di_seq (de_tupC (dk_consC de_str (dk_consC de_str (dk_consC (de_tupC (dk_consC de_int (dk_consC de_int dk_nilC))) (dk_consC (de_tupC (dk_consC de_int (dk_consC de_int dk_nilC))) (dk_consC (de_tupC (dk_consC de_int (dk_consC de_int dk_nilC))) dk_nilC))))))) (blkOk_by (own := [("hand", 8)]) (by rfl)) (by decide) (fun _ _ _ _ _ => (dg_name 8 sc__law_near.nd)) (fun _ _ _ _ _ => (dts_one (dt_cmp (op_neD (hu64 hr)) p_neD (de_var 8) (de_ix ix_tup p_ixT (de_ix ix_list p_ixL (de_var 2) (de_var 6)) de_int) (by rfl)))) (fun _ _ _ _ _ => (de_var 8)) (hsw := sw_true rfl rfl rfl rfl)) (db_frz 7 (db_cons (ds_set 9 sc__law_near.nd (de_tup (da_cons (de_ix ix_tup p_ixT (de_ix ix_list p_ixL (de_var 2) (de_var 6)) de_int) (da_cons (de_call (f__law_pick B) hr (by decide) (by rfl) passX (da_cons (de_var 0) (da_cons (de_var 7) da_nil))) da_nil)))) (db_one (ds_expr (de_app 5 (de_tup (da_cons (dn_op op_cat p_cat (dn_op op_cat p_cat (dn_slice (de_var 2) do_none (do_some (de_var 6))).sh (dn_lst (da_cons (de_var 9) da_nil)).sh).sh (dn_slice (de_var 2) (do_some (de_op op_add p_I0 (de_var 6) de_int)) do_none).sh).sh (da_cons (de_var 3) (da_cons (de_var 4) da_nil)))) (hpa := fun h => pe_bm PySem.F.plainAttrs_list PySem.F.slot_list_append PySem.F.type_list_append mt_append (pv 5) (pa_cons h pa_nil))))))))) db_nil) (db_cons (ds_if (DW.t (dw_and (dt_cmp (op_neD (hu64 hr)) p_neD (de_var 3) (dn_lst da_nil).sh (by rfl)) (dw_and1 (dt_cmp (op_neD (hu64 hr)) p_neD (de_ix ix_list p_ixL (de_var 3) de_int) (dn_lst da_nil).sh (by rfl))))) (db_cons (ds_expr (de_app 5 (de_tup (da_cons (de_var 2) (da_cons (dn_op op_cat p_cat (dn_lst (da_cons (dn_op op_cat p_cat (dn_lst (da_cons (de_tup (da_cons (de_ix ix_tup p_ixT (de_ix ix_list p_ixL (de_ix ix_list p_ixL (de_var 3) de_int) de_int) de_int) (da_cons (de_not (de_ix ix_tup p_ixT (de_ix ix_list p_ixL (de_ix ix_list p_ixL (de_var 3) de_int) de_int) de_int)) da_nil))) da_nil)).sh (dn_slice (de_ix ix_list p_ixL (de_var 3) de_int) (do_some de_int) do_none).sh).sh da_nil)).sh (dn_slice (de_var 3) (do_some de_int) do_none).sh).sh (da_cons (de_var 4) da_nil)))) (hpa := fun h => pe_bm PySem.F.plainAttrs_list PySem.F.slot_list_append PySem.F.type_list_append mt_append (pv 5) (pa_cons h pa_nil)))) (db_one (ds_expr (de_app 5 (de_tup (da_cons (de_var 2) (da_cons (dn_op op_cat p_cat (dn_lst (da_cons (dn_slice (de_ix ix_list p_ixL (de_var 3) de_int) (do_some de_int) do_none).sh da_nil)).sh (dn_slice (de_var 3) (do_some de_int) do_none).sh).sh (da_cons (de_var 4) da_nil)))) (hpa := fun h => pe_bm PySem.F.plainAttrs_list PySem.F.slot_list_append PySem.F.type_list_append mt_append (pv 5) (pa_cons h pa_nil)))))) db_nil) (db_one (ds_retV 5)))))))))) ?_
  · intro s n ds Q EQ h
    dsimp only [sp__law_near] at h
    obtain ⟨_, _, _, rfl, _⟩ := h; rfl
  · intro s n ds Q EQ h
    dsimp only [sp__law_near] at h
    obtain ⟨sp, q, rfl, rfl, few, hc, hn, h⟩ := h
    have fw := few.w
    have fg := few.g
    have fm := few.m
    have l0 : ∀ c ∈ ([] : List Cl), (c.map (·.1)).Sublist q.names := nofun
    have l1 : ∀ c ∈ ([[]] : List Cl), (c.map (·.1)).Sublist q.names := fun c hc => by rw [List.mem_singleton.mp hc]; exact List.nil_sublist _
    have app : ∀ {xs ys : List Cl}, (∀ c ∈ xs, (c.map (·.1)).Sublist q.names) → (∀ c ∈ ys, (c.map (·.1)).Sublist q.names) → ∀ c ∈ xs ++ ys, (c.map (·.1)).Sublist q.names := fun h1 h2 c hc => (List.mem_append.mp hc).elim (h1 c) (h2 c)
    have drp : ∀ {xs : List Cl} (k : Nat), (∀ c ∈ xs, (c.map (·.1)).Sublist q.names) → ∀ c ∈ xs.drop k, (c.map (·.1)).Sublist q.names := fun k h1 c hc => h1 c (List.mem_of_mem_drop hc)
    have tak : ∀ {xs : List Cl} (k : Nat), (∀ c ∈ xs, (c.map (·.1)).Sublist q.names) → ∀ c ∈ xs.take k, (c.map (·.1)).Sublist q.names := fun k h1 c hc => h1 c (List.mem_of_mem_take hc)
    have c1 : ∀ ds : List D, DL.cutD ds (some 1) none = ds.drop 1 := fun ds => cut_from' ds 1
    have c2 : ∀ ds : List D, DL.cutD ds none (some 1) = ds.take 1 := fun ds => cut_to (by decide)
    refine bCut (fun z => z = ⟨[.sh (.v (.ref sp)), .sh (rawD q), .sh (.lst (q.marks.map markD)), .sh (.lst (q.wishes.map clD)), .sh (.lst (q.guards.map clD)), .un, .un, .un, .un, .un], n⟩) (fun C hC => ?_) (fun z hz => ?_)
    · exact ⟨_, _, _, rfl, hC _ rfl⟩
    subst hz
    refine bCut (fun z => z = zNr sp q n [⟨q.marks, q.guards, q.wishes⟩, ⟨q.marks, q.wishes ++ [[]], q.guards⟩, ⟨q.marks, q.wishes.drop 1, q.guards⟩] .un .un .un .un) (fun C hC => ?_) (fun z hz => ?_)
    · simp [-rawD, c1]
      exact ⟨by omega, hC _ (by simp)⟩
    subst hz
    refine bCut (fun z => z = zNr sp q n ([⟨q.marks, q.guards, q.wishes⟩, ⟨q.marks, q.wishes ++ [[]], q.guards⟩, ⟨q.marks, q.wishes.drop 1, q.guards⟩] ++ [⟨q.marks.reverse, [], []⟩, ⟨q.marks, q.wishes.reverse, q.guards⟩, ⟨q.marks, q.wishes ++ q.wishes.take 1, q.guards⟩]) .un .un .un .un) (fun C hC => ?_) (fun z hz => ?_)
    · simp [-rawD, c2]
      exact ⟨by omega, hC _ (by simp)⟩
    subst hz
    obtain ⟨fs, hfs⟩ : ∃ fs : List Qn, fs = [⟨q.marks, q.guards, q.wishes⟩, ⟨q.marks, q.wishes ++ [[]], q.guards⟩, ⟨q.marks, q.wishes.drop 1, q.guards⟩] ++ [⟨q.marks.reverse, [], []⟩, ⟨q.marks, q.wishes.reverse, q.guards⟩, ⟨q.marks, q.wishes ++ q.wishes.take 1, q.guards⟩] := ⟨_, rfl⟩
    rw [← hfs]
    have nfs : (∀ r ∈ fs, NearQ r) ∧ fs.length = 6 := by
      subst hfs
      refine ⟨fun r hr => ?_, rfl⟩
      simp only [List.cons_append, List.nil_append, List.mem_cons, List.not_mem_nil, or_false] at hr
      rcases hr with rfl | rfl | rfl | rfl | rfl | rfl
      · exact near_c few few.ok.gs few.ok.ws (by omega) (by omega)
      · exact near_c few (app few.ok.ws l1) few.ok.gs (by simp; omega) (by omega)
      · exact near_c few (drp 1 few.ok.ws) few.ok.gs (by simp; omega) (by omega)
      · exact near_r few
      · exact near_c few (fun c hc => few.ok.ws c (by simpa using hc)) few.ok.gs (by simp; omega) (by omega)
      · exact near_c few (app few.ok.ws (tak 1 few.ok.ws)) few.ok.gs (by simp; omega) (by omega)
    obtain ⟨nfs, lfs⟩ := nfs
    clear hfs
    refine bCut (fun z => z = zNr sp q n (fs ++ [⟨q.marks, q.wishes, q.guards ++ [[]]⟩]) .un .un .un .un) (fun C hC => ?_) (fun z hz => ?_)
    · simp [-rawD]
      exact ⟨by omega, by omega, hC _ (by simp)⟩
    subst hz
    refine bCut (fun z => z = zNr sp q n (fs ++ [⟨q.marks, q.wishes, q.guards ++ [[]]⟩] ++ [⟨q.marks ++ [(("n1" : Str), Hand.we)], q.wishes, q.guards⟩]) .un .un .un .un) (fun C hC => ?_) (fun z hz => ?_)
    · simp [-rawD, -List.append_assoc]
      exact ⟨by omega, by omega, hC _ (by simp)⟩
    subst hz
    obtain ⟨gs, hgs⟩ : ∃ gs : List Qn, gs = fs ++ [⟨q.marks, q.wishes, q.guards ++ [[]]⟩] ++ [⟨q.marks ++ [(("n1" : Str), Hand.we)], q.wishes, q.guards⟩] := ⟨_, rfl⟩
    rw [← hgs]
    have ngs : (∀ r ∈ gs, NearQ r) ∧ gs.length = 8 := by
      subst hgs
      exact ⟨near_snoc (near_snoc nfs (near_c few few.ok.ws (app few.ok.gs l1) (by omega) (by simp; omega))) (near_n few hc), by simp [lfs]⟩
    obtain ⟨ngs, lgs⟩ := ngs
    clear hgs
    refine bCut (fun z => ∃ (rs : List Qn) (m : Nat) (x6 x7 x8 x9 : DV), (∀ r ∈ rs, NearQ r) ∧ rs.length ≤ 9 ∧ n ≤ m ∧ m ≤ n + 2 ∧ z = zNr sp q m rs x6 x7 x8 x9) (fun C hC => ?_) (fun z hz => ?_)
    · have sM := sh_lst (sh_map fun p (hp : p ∈ q.marks) => (rp_mark (few.ok.good p hp).1 (few.ok.good p hp).2).2)
      refine ⟨by simp, sM.1, nil_ok.1, sM.shaped, nil_ok.2, _, rfl, fun hne => ?_, fun _ => hC _ ⟨gs, n, .un, .un, .un, .un, ngs, by omega, Nat.le_refl _, by omega, rfl⟩⟩
      have hpos : 0 < q.marks.length := by
        rw [nil_eqv] at hne
        cases e : q.marks with
        | nil => rw [e] at hne; simp at hne
        | cons => simp
      refine bCut (fun z => ∃ k : Nat, k < q.marks.length ∧ z = zNr sp q (n + 1) gs (.sh (iD k)) .un .un .un) (fun C2 hC2 => ?_) (fun z hz => ?_)
      · simp [-rawD]
        refine ⟨by omega, sp, (q.marks.length : Int), rfl, rfl, by omega, by omega, by omega, fun k hk => ?_⟩
        exact hC2 _ ⟨k, by omega, rfl⟩
      obtain ⟨k, hk', rfl⟩ := hz
      obtain ⟨p0, hp0⟩ : ∃ p0, q.marks[k]? = some p0 := ⟨_, List.getElem?_eq_getElem hk'⟩
      have hp0m : p0 ∈ q.marks := List.mem_of_getElem? hp0
      have hat : atI (q.marks.map markD) (k : Int) = some (markD p0) := by
        have := atI_nat markD p0 q.marks hk'
        rw [this, List.getD, hp0]
        rfl
      refine bCut (fun z => ∃ (hs : List Hand), hs ≠ [] ∧ hs.length ≤ 5 ∧ (∀ h ∈ hs, h.good = true) ∧ z = zNr sp q (n + 1) gs (.sh (iD k)) (.ow (.lst (hs.map handD))) .un .un) (fun C2 hC2 => ?_) (fun z hz => ?_)
      · have step : mComp (iSeq (mC (.tup (handsC.map handD)))) (gNm 8) (tBool (mOp (gEqD true) (mVar 8) (mOp gIxT (mOp gIxL (mVar 2) (mVar 6)) (mC (D.v (V.int 1)))))) (mVar 8) (List.map (fun x => x.snd) [(Str.ofString "hand", 8)]) (some sp) (zNr sp q (n + 1) gs (.sh (iD k)) .un .un .un) (fun o z => C2 (z.put 7 (.ow o))) EQ := by
          refine ⟨_, rfl, ?_⟩
          refine comp_fmapL (xs := handsC) (h := handD) (fun h => if PyData.eqv (pyD (handD h)) (pyD (handD p0.2)) then none else some (handD h)) (by decide) (fun h hh R R0 R2 h1 h2 h3 => ?_) ?_
          · refine h3 _ ?_
            simp [-rawD, -handD, hat]
            have a1 := sh_hand (handsC_good h hh)
            have a2 := sh_hand (few.ok.good p0 hp0m).2
            refine ⟨a1.1, a2.1, a1.shaped, a2.shaped, ?_⟩
            cases e : PyData.eqv (pyD (handD h)) (pyD (handD p0.2)) with
            | true => exact .inl ⟨rfl, h2 _ (by rw [e]; rfl) rfl⟩
            | false => exact .inr ⟨rfl, h1 _ _ (by rw [e]; rfl) rfl⟩
          · rw [fm_if (fun h => PyData.eqv (pyD (handD h)) (pyD (handD p0.2)))]
            exact hC2 _ ⟨_, two_hands p0.2, Nat.le_trans (List.length_filter_le ..) (by decide), fun h hh => handsC_good h (List.mem_filter.mp hh).1, rfl⟩
        exact step
      obtain ⟨hs, hs0, hs1, hs2, rfl⟩ := hz
      simp [-rawD, hat, hs0]
      refine ⟨sp, hs.map handD, rfl, rfl, by simpa using hs0, by rw [List.length_map]; omega, by omega, fun d hd => ?_⟩
      obtain ⟨h1, hh1, rfl⟩ := List.mem_map.mp hd
      have c3 : ∀ ds : List D, DL.cutD ds (some ((k : Int) + 1)) none = ds.drop (k + 1) := fun ds => by simpa using cut_from' ds (k + 1)
      have c4 : ∀ ds : List D, DL.cutD ds none (some (k : Int)) = ds.take k := fun ds => by simpa using cut_to (ds := ds) (i := (k : Int)) (by omega)
      rw [c3, c4]
      refine ⟨by simp; omega, by simp; omega, by omega, ?_⟩
      have nm := near_m few (ms := q.marks.take k ++ (p0.1, h1) :: q.marks.drop (k + 1)) (set_names hp0 h1) fun p hp => by
        rcases List.mem_append.mp hp with hp | hp
        · exact few.ok.good p (List.mem_of_mem_take hp)
        · rcases List.mem_cons.mp hp with rfl | hp
          · exact ⟨(few.ok.good p0 hp0m).1, hs2 _ hh1⟩
          · exact few.ok.good p (List.mem_of_mem_drop hp)
      exact hC _ ⟨gs ++ [⟨q.marks.take k ++ (p0.1, h1) :: q.marks.drop (k + 1), q.wishes, q.guards⟩], n + 2, .sh (iD k), .sh (.lst (hs.map handD)), .un, .sh (.tup [strD p0.1, handD h1]), near_snoc ngs nm, by simp [lgs], by omega, by omega, by simp⟩
    obtain ⟨rs, m, x6, x7, x8, x9, h1, h2, h3, h4, rfl⟩ := hz
    refine bCut (fun z => ∃ (rs : List Qn) (x6 x7 x8 x9 : DV), (∀ r ∈ rs, NearQ r) ∧ rs.length ≤ 11 ∧ z = zNr sp q m rs x6 x7 x8 x9) (fun C hC => ?_) (fun z hz => ?_)
    · have skip := hC _ ⟨rs, x6, x7, x8, x9, h1, by omega, rfl⟩
      have sW : ShD 4 (.lst (q.wishes.map clD)) := (sh_lst (sh_map fun c hc => sh_cl fun p hp => ok_str few.ok _ ((few.ok.ws c hc).subset (List.mem_map_of_mem hp)))).mono (by decide)
      refine ⟨by simp, sW.1, nil_ok.1, sW.shaped, nil_ok.2, _, rfl, fun hb => ?_, fun _ => ⟨nofun, fun _ => skip⟩⟩
      obtain ⟨c, ws, hws⟩ : ∃ c ws, q.wishes = c :: ws := by
        rw [nil_eqv] at hb
        cases e : q.wishes with
        | nil => rw [e] at hb; simp at hb
        | cons c ws => exact ⟨_, _, rfl⟩
      have hat2 : atI (q.wishes.map clD) 0 = some (clD c) := by rw [hws]; simp [atI, ixN]
      have sC : ShD 4 (clD c) := (sh_cl fun p hp => ok_str few.ok _ ((few.ok.ws c (by rw [hws]; exact List.mem_cons_self ..)).subset (List.mem_map_of_mem hp))).mono (by decide)
      refine ⟨_, _, _, rfl, rfl, hat2, by simp, sC.1, nil_ok.1, sC.shaped, nil_ok.2, _, rfl, fun hb => ?_, fun _ => skip⟩
      obtain ⟨l, c', hcl⟩ : ∃ l c', c = l :: c' := by
        rw [nil_eqv] at hb
        cases e : c with
        | nil => rw [e] at hb; simp at hb
        | cons l c' => exact ⟨_, _, rfl⟩
      subst hcl
      have hsub := few.ok.ws (l :: c') (by rw [hws]; exact List.mem_cons_self ..)
      have hws' : ∀ c ∈ ws, (c.map (·.1)).Sublist q.names := fun c hc => few.ok.ws c (by rw [hws]; exact List.mem_cons_of_mem _ hc)
      have hlw : ws.length ≤ 19 := by
        have := few.w
        rw [hws] at this
        simp at this
        omega
      have lc := few.cl (c := l :: c') (.inl (by rw [hws]; exact List.mem_cons_self ..))
      simp at lc
      refine bCut (fun z => z = zNr sp q m (rs ++ [⟨q.marks, ((l.1, !l.2) :: c') :: ws, q.guards⟩]) x6 x7 x8 x9) (fun C2 hC2 => ?_) (fun z hz => ?_)
      · simp [-rawD, hat2, c1]
        have e2 : (q.wishes.map clD).tail = ws.map clD := by rw [hws]; rfl
        rw [e2]
        cases e : l.2 with
        | false => exact .inl ⟨rfl, by omega, by omega, by omega, hC2 _ (by simp [e])⟩
        | true => exact .inr ⟨rfl, by omega, by omega, by omega, hC2 _ (by simp [e])⟩
      subst hz
      simp [-rawD, hat2, c1]
      have e2 : (q.wishes.map clD).tail = ws.map clD := by rw [hws]; rfl
      rw [e2]
      refine ⟨by omega, by omega, hC _ ⟨rs ++ [⟨q.marks, ((l.1, !l.2) :: c') :: ws, q.guards⟩] ++ [⟨q.marks, c' :: ws, q.guards⟩], x6, x7, x8, x9, near_snoc (near_snoc h1 ?_) ?_, by simp; omega, by simp⟩⟩
      · refine near_c few (fun c hc => ?_) few.ok.gs (by simp; omega) (by omega)
        rcases List.mem_cons.mp hc with rfl | hc
        · exact hsub
        · exact hws' c hc
      · refine near_c few (fun c hc => ?_) few.ok.gs (by simp; omega) (by omega)
        rcases List.mem_cons.mp hc with rfl | hc
        · exact (List.sublist_cons_self ..).trans hsub
        · exact hws' c hc
    obtain ⟨rs, x6, x7, x8, x9, h1, h2, rfl⟩ := hz
    simp [-rawD]
    exact h _ _ h1 (by omega) h3 h4


end
end K01
end

section
set_option Elab.async false
set_option linter.all false
set_option maxRecDepth 100000
set_option maxHeartbeats 4000000
namespace K01
open PySem PySem.Spec PyProof.Rows L2 DL

theorem loose_cls : ∀ cs : List Cl, Looses (cs.map clD) (cs.map clD)
  | [] => .nil
  | c :: cs => .cons (loose_cl c) (loose_cls cs)
theorem init_near (a : Ad) {st : Option Addr} {n : Nat} {r : Qn} (hr : NearQ r) {Q : List (Str × D) → Nat → Prop} {EQ : TEX} (h : Q (fieldsD r) n) : sp_Q_init a st n [.lst (r.marks.map markD), .lst (r.wishes.map clD), .lst (r.guards.map clD)] Q EQ := by
  have hw := hr.w
  have hg := hr.g
  have hm := hr.m
  have nl : r.names.length = r.marks.length := by simp [Qn.names]
  have one : ∀ cs : List Cl, (∀ c ∈ cs, (c.map (·.1)).Sublist r.names) → ∀ c ∈ cs, (∀ p ∈ c, p.1 ∈ r.names) ∧ (c.map (·.1)).Nodup ∧ c.length ≤ 1000 := fun cs h c hc => ⟨fun p hp => (h c hc).subset (List.mem_map_of_mem hp), (h c hc).nodup hr.ok.nd, by
    have := (h c hc).length_le
    rw [List.length_map, nl] at this
    omega⟩
  have self : ∀ cs : List Cl, (∀ c ∈ cs, (c.map (·.1)).Sublist r.names) → cs = cs.map (ordered r.names) := fun cs h => by
    conv => lhs; rw [← List.map_id cs]
    exact List.map_congr_left fun c hc => (ordered_self hr.ok.nd (h c hc)).symm
  exact init_good a hr.ok (loose_marks _) (.ll (loose_cls _)) (.ll (loose_cls _)) (one _ hr.ok.ws) (one _ hr.ok.gs) (by omega) (by omega) (self _ hr.ok.ws) (self _ hr.ok.gs) h

theorem iCut {mt : TDT} {m1 m2 : TDS} {st : Option Addr} {Ds : DEnds} {z : Z} {EQ : TEX} (J : Bool → Nat → Prop) (h1 : ∀ R : Bool → Nat → Prop, (∀ b n, J b n → R b n) → mt st z R EQ)
    (h2 : ∀ b n, J b n → (b = true → m1 st Ds { z with n := n } EQ) ∧ (b = false → m2 st Ds { z with n := n } EQ)) : sIf mt m1 m2 st Ds z EQ := h1 _ h2

section
variable {P : Program} {w : World} {K : PySem.W.Frag} {T : List (Addr × Str)} {mg : Str → Option Value} {base : Heap} {a : Ad}
theorem sc__law_like : FnScope ["stream", "question", "made", "marks", "wishes", "guards", "names", "name", "hand", "order", "clause", "due"] ["stream", "question"] (defScope (topS 44)) := ⟨rfl, rfl, rfl, by decide +kernel, rfl, by decide +kernel, by decide +kernel⟩
theorem bd__law_like : BindsH "_law_like" (topS 44) ["stream", "question"] := fun _ _ _ _ _ _ us hl => match us, hl with | [_, _], _ => rfl
def sp__law_like : DSpec := fun st n ds Q _ => ∃ (sp : Addr) (q : Qn), st = some sp ∧ ds = [.v (.ref sp), rawD q] ∧ Few q ∧ (∀ x ∈ q.names, x ∈ namesC) ∧ n + 3010 ≤ 1000000 ∧ ∀ m, n ≤ m → m ≤ n + 3010 → Q (.sh (blD true)) m
theorem f__law_like (B : BM P K mg a) (cO PO : Addr) (FO : FunC K mg "_law_ordered" (topS 43) cO) (tbO : LamX.TabB base mg cO PO) (hTO : (PO, (("_law_ordered" : Str) ++ ".<locals>.") ++ "<lambda>") ∈ T) (hUO : ∀ p ∈ T, p.1 = PO → p.2 = (("_law_ordered" : Str) ++ ".<locals>.") ++ "<lambda>") : Fn P w K T mg base 9 "_law_like" ["stream", "question"] (sp__law_like) := by
  refine mkFn B._law_like sc__law_like bd__law_like ?_ (fun f cdv A outer s H E hr => (db_cons (ds_setF 2 sc__law_like.nd (dfr_call (f__law_q_made B.toBQ) hr (by decide) (by rfl) passX (da_cons (de_var 0) (da_cons (de_var 1) da_nil)))) (db_cons (ds_for ownX (by rfl) (di_seq (dn_call (f__law_near B.toBF) hr (by decide) (by rfl) passX (da_cons (de_var 0) (da_cons (de_var 1) da_nil))).sh) (dg_tup3 (by rfl) (dg_name 3 sc__law_like.nd) (dg_name 4 sc__law_like.nd) (dg_name 5 sc__law_like.nd)) (db_cons (ds_setN 6 sc__law_like.nd (dn_comp (ws := [7, 8]) (by rfl) sc__law_like.nd (di_seq (de_var 3)) (blkOk_by (own := [("name", 7), ("hand", 8)]) (by rfl)) (by decide) (fun _ _ _ _ _ => (dg_tup2 (by rfl) (dg_name 7 sc__law_like.nd) (dg_name 8 sc__law_like.nd))) (fun _ _ _ _ _ => dts_nil) (fun _ _ _ _ _ => (de_var 7)))) (db_frz 6 (db_one (ds_if (DW.t (dw_and (dt_cmp (op_neD (hu64 hr)) p_neD (de_tup (da_cons (de_var 3) (da_cons (de_var 4) (da_cons (de_var 5) da_nil)))) (de_var 1) (by rfl)) (dw_and1 (dt_cmp op_eq p_eq (de_cb call_lenAll (by rfl) B.len (by rfl) p_len (da_cons (de_var 6) da_nil)) (de_cb call_lenAll (by rfl) B.len (by rfl) p_len (da_cons (dn_call (f__law_each_once B.toBF) hr (by decide) (by rfl) passX (da_cons (de_var 6) da_nil)).sh da_nil)) (by rfl))))) (db_cons (ds_comp 9 (ws := [10]) (by rfl) sc__law_like.nd (di_seq (de_var 4)) (blkOk_by (own := [("clause", 10)]) (by rfl)) (by decide) (fun _ _ _ _ _ => (dg_name 10 sc__law_like.nd)) (fun _ _ _ _ _ => dts_nil) (fun _ _ _ _ _ => (dn_call (f__law_ordered B.toBF cO PO FO tbO hTO hUO) hr (by decide) (by rfl) passL (da_cons (de_var 6) (da_cons (de_var 10) da_nil))).sh) (hsw := sw_true rfl rfl rfl rfl)) (db_frz 9 (db_cons (ds_set 11 sc__law_like.nd (de_cmp (op_eqD (hu64 hr)) p_eqD (de_tup (da_cons (de_var 3) (da_cons (de_var 9) (da_cons (de_var 5) da_nil)))) (de_var 1) (by rfl))) (db_one (ds_if (DW.t (dw_or (dt_cmp op_ne p_ne (de_eqM (f_Q_eq B) hr (by decide) passX (de_var 2) (dfr_make (f_Q_init B.toBQ) hr (by decide) (by rfl) passX (da_cons (de_var 3) (da_cons (de_var 4) (da_cons (de_var 5) da_nil)))).sh (by rfl)) (de_var 11) (by rfl)) (dw_or1 (dt_cmp op_ne p_ne (de_eqM (f_Q_eq B) hr (by decide) passX (dfr_make (f_Q_init B.toBQ) hr (by decide) (by rfl) passX (da_cons (de_var 3) (da_cons (de_var 4) (da_cons (de_var 5) da_nil)))).sh (de_var 2) (by rfl)) (de_var 11) (by rfl))))) (db_one (ds_ret de_bl)) db_nil))))) db_nil))))) (db_one (ds_ret (de_and (de_not (de_eqT (f_Q_eq B) hr (by decide) passX B.ntup (de_var 2) (de_var 1) (by rfl))) (de_and (de_not (de_eqS (f_Q_eq B) hr (by decide) passX B.nstr (de_var 2) de_str (by rfl))) (de_one (de_eqM (f_Q_eq B) hr (by decide) passX (de_var 2) (dfr_call (f__law_q_made B.toBQ) hr (by decide) (by rfl) passX (da_cons (de_var 0) (da_cons (de_var 1) da_nil))).sh (by rfl)))))))))) ?_
  · intro s n ds Q EQ h
    dsimp only [sp__law_like] at h
    obtain ⟨_, _, _, rfl, _⟩ := h; rfl
  · intro s n ds Q EQ h
    dsimp only [sp__law_like] at h
    obtain ⟨sp, q, rfl, rfl, few, hc, hn, h⟩ := h
    refine bCut (fun z => ∃ m, n ≤ m ∧ m ≤ n + 1500 ∧ z = ⟨[.sh (.v (.ref sp)), .sh (rawD q), .bs false (qD a.C q), .un, .un, .un, .un, .un, .un, .un, .un, .un], m⟩) (fun C hC => ?_) (fun z hz => ?_)
    · simp [-rawD, -qD]
      exact ⟨sp, q, rfl, rfl, few, by omega, fun m h1 h2 => ⟨trivial, hC _ ⟨m, h1, h2, rfl⟩⟩⟩
    obtain ⟨m, hm1, hm2, rfl⟩ := hz
    have sq := raw_sh few.ok
    refine bCut (fun z => ∃ (m : Nat) (x3 x4 x5 x6 x7 x8 x9 x10 x11 : DV), n ≤ m ∧ m ≤ n + 1502 ∧ z = ⟨[.sh (.v (.ref sp)), .sh (rawD q), .bs false (qD a.C q), x3, x4, x5, x6, x7, x8, x9, x10, x11], m⟩) (fun C hC => ?_) (fun z hz => ?_)
    · simp [-rawD, -qD]
      refine ⟨sp, q, rfl, rfl, few, hc, by omega, fun rs m2 hrs hl h1 h2 => ⟨_, rfl, _, rfl, ?_⟩⟩
      refine for_ind (fun ds z => ∃ (rest : List Qn) (x3 x4 x5 x6 x7 x8 x9 x10 x11 : DV), ds = rest.map rawD ∧ (∀ r ∈ rest, NearQ r) ∧ z = ⟨[.sh (.v (.ref sp)), .sh (rawD q), .bs false (qD a.C q), x3, x4, x5, x6, x7, x8, x9, x10, x11], m2⟩) ?_ ?_ _ _ ⟨rs, _, _, _, _, _, _, _, _, _, rfl, hrs, rfl⟩
      · rintro z ⟨rest, x3, x4, x5, x6, x7, x8, x9, x10, x11, _, _, rfl⟩
        exact hC _ ⟨m2, _, _, _, _, _, _, _, _, _, by omega, by omega, rfl⟩
      · rintro d ds z C2 hC2 ⟨rest, x3, x4, x5, x6, x7, x8, x9, x10, x11, h1, h2, rfl⟩
        cases rest with
        | nil => simp at h1
        | cons r rest =>
          simp [-rawD] at h1
          obtain ⟨rfl, rfl⟩ := h1
          have hr := h2 r (List.mem_cons_self ..)
          have sr := raw_sh hr.ok
          have hm := hr.m
          have hw := hr.w
          have hg := hr.g
          have nl : r.names.length = r.marks.length := by simp [Qn.names]
          have enl : r.names.map strD = r.marks.map (fun p => strD p.1) := by simp [Qn.names]
          have next : ∀ x6 x7 x8 x9 x10 x11, C2 ⟨[.sh (.v (.ref sp)), .sh (rawD q), .bs false (qD a.C q), .sh (.lst (r.marks.map markD)), .sh (.lst (r.wishes.map clD)), .sh (.lst (r.guards.map clD)), x6, x7, x8, x9, x10, x11], m2⟩ := fun _ _ _ _ _ _ => hC2 _ ⟨rest, _, _, _, _, _, _, _, _, _, rfl, fun r hr => h2 r (List.mem_cons_of_mem _ hr), rfl⟩
          refine ⟨_, _, _, rfl, ?_⟩
          refine bCut (fun z => ∃ x7 x8, z = ⟨[.sh (.v (.ref sp)), .sh (rawD q), .bs false (qD a.C q), .sh (.lst (r.marks.map markD)), .sh (.lst (r.wishes.map clD)), .sh (.lst (r.guards.map clD)), .ow (.lst (r.names.map strD)), x7, x8, x9, x10, x11], m2⟩) (fun C3 hC3 => ?_) (fun z hz => ?_)
          · simp [-rawD, -qD]
            refine comp_mapL (h := DL.markD) (f := fun p => strD p.1) (by omega) (fun p hp R R2 g1 g2 => ?_) (by
              have := hC3 _ ⟨DV.un, DV.un, rfl⟩
              rw [show r.names.map strD = r.marks.map (fun p => strD p.1) by simp [Qn.names]] at this
              exact this)
            refine ⟨(strD p.1, handD p.2), by simp, g2 _ ?_⟩
            exact g1 _ rfl
          obtain ⟨x7', x8', rfl⟩ := hz
          refine ⟨_, rfl, ?_⟩
          refine iCut (fun b k => k = m2 ∧ b = !PyData.eqv (pyD (rawD r)) (pyD (rawD q))) (fun R hR => ?_) (fun b k hb => ?_)
          · refine ⟨by simp, sr.1, sq.1, sr.shaped, sq.shaped, _, rfl, fun hb => ?_, fun hb => hR _ _ ⟨rfl, hb.symm⟩⟩
            have hR := hR true m2 ⟨rfl, hb.symm⟩
            simp [-rawD, -qD]
            refine ⟨by rw [nl]; omega, r.names, rfl, hr.ok.nd, by rw [nl]; omega, ?_⟩
            simp
            exact ⟨by rw [nl]; omega, hR⟩
          obtain ⟨rfl, rfl⟩ := hb
          refine ⟨fun hb => ?_, fun _ => next _ _ _ _ _ _⟩
          have hb : PyData.eqv (pyD (rawD r)) (pyD (rawD q)) = false := by simpa [-rawD] using hb
          refine bCut (fun z => z = ⟨[.sh (.v (.ref sp)), .sh (rawD q), .bs false (qD a.C q), .sh (.lst (r.marks.map markD)), .sh (.lst (r.wishes.map clD)), .sh (.lst (r.guards.map clD)), .sh (.lst (r.names.map strD)), x7', x8', .ow (.lst (r.wishes.map clD)), .un, x11], k⟩) (fun C3 hC3 => ?_) (fun z hz => ?_)
          · simp [-rawD, -qD]
            refine comp_mapL (h := clD) (f := clD) (by omega) (fun c hc R R2 g1 g2 => ?_) (by simpa [-rawD, -qD] using hC3 _ rfl)
            refine g2 _ ?_
            simp [-rawD, -qD]
            refine ⟨r.names, c, rfl, hr.ok.ws c hc, hr.ok.nd, ?_, by rw [nl]; omega, ok_str hr.ok, ?_⟩
            · have := (hr.ok.ws c hc).length_le
              rw [List.length_map, nl] at this
              omega
            · simp
              exact g1 _ rfl
          subst hz
          refine ⟨_, rfl, ?_⟩
          refine bCut (fun z => z = ⟨[.sh (.v (.ref sp)), .sh (rawD q), .bs false (qD a.C q), .sh (.lst (r.marks.map markD)), .sh (.lst (r.wishes.map clD)), .sh (.lst (r.guards.map clD)), .sh (.lst (r.names.map strD)), x7', x8', .sh (.lst (r.wishes.map clD)), .un, .sh (blD false)], k⟩) (fun C3 hC3 => ?_) (fun z hz => ?_)
          · refine ⟨by simp, sr.1, sq.1, sr.shaped, sq.shaped, ?_⟩
            have g : ∀ b, b = false → C3 ⟨[.sh (.v (.ref sp)), .sh (rawD q), .bs false (qD a.C q), .sh (.lst (r.marks.map markD)), .sh (.lst (r.wishes.map clD)), .sh (.lst (r.guards.map clD)), .sh (.lst (r.names.map strD)), x7', x8', .sh (.lst (r.wishes.map clD)), .un, .sh (blD b)], k⟩ := fun b e => by rw [e]; exact hC3 _ rfl
            exact g _ hb
          subst hz
          refine iCut (fun b n => n = k ∧ b = false) (fun R hR => ?_) (fun b n hb => ?_)
          · have hb2 : PyData.eqv (pyD (rawD q)) (pyD (rawD r)) = false := by rw [PySem.W.eqv_comm]; exact hb
            simp [-rawD, -qD]
            refine init_near a hr ?_
            refine ⟨q, qD a.C r, _, rfl, few.ok, .q r hr.ok, ?_⟩
            rw [hb2]
            refine ⟨_, rfl, rfl, .inl ⟨rfl, ?_⟩⟩
            refine init_near a hr ?_
            refine ⟨r, qD a.C q, _, rfl, hr.ok, .q q few.ok, ?_⟩
            rw [hb]
            exact ⟨_, rfl, rfl, .inl ⟨rfl, hR _ _ ⟨rfl, rfl⟩⟩⟩
          obtain ⟨rfl, rfl⟩ := hb
          exact ⟨nofun, fun _ => next _ _ _ _ _ _⟩
    obtain ⟨m3, x3, x4, x5, x6, x7, x8, x9, x10, x11, h1, h2, rfl⟩ := hz
    simp [-rawD, -qD]
    refine ⟨q, rawD q, false, rfl, few.ok, .tup _, .inl ⟨rfl, ?_⟩⟩
    refine ⟨q, strD "question", false, rfl, few.ok, .str _, .inl ⟨rfl, ?_⟩⟩
    refine ⟨sp, q, rfl, rfl, few, by omega, fun m4 g1 g2 => ?_⟩
    refine ⟨trivial, ⟨_, rfl⟩, ?_⟩
    refine ⟨q, qD a.C q, _, rfl, few.ok, .q q few.ok, ?_⟩
    rw [PySem.SeqAt.eqv_refl _ sq.2.1]
    exact h _ (by omega) (by omega)


end
end K01
end

section
set_option Elab.async false
set_option linter.all false
set_option maxRecDepth 100000
set_option maxHeartbeats 4000000
/-! DL47: `_law_late` (no dict branch), loops over what is spoiled, the fall that keeps what is newer. -/
namespace DLt
open PySem PySem.Spec PyProof.Rows L2 DL
abbrev late : V := .str "late"
/-- a thing of at most k levels, w parts each; its lists stand at N, grown by at most J -/
def SpT (K : PySem.W.Frag) (N : Addr → Prop) (w J : Nat) (H : Hp) : Nat → V → Prop
  | 0, v => ScV v
  | k + 1, v => ScV v ∨ ∃ (a : Addr) (xs : List V), v = .ref a ∧ xs.length ≤ w ∧ (∀ x ∈ xs, SpT K N w J H k x) ∧ (SqT K H a xs ∨ (N a ∧ ∃ j, j ≤ J ∧ H a = some (.lst (xs ++ List.replicate j late))))
/-- nothing but lists at N has changed: each has grown by at most c -/
structure Spo (T : List (Addr × Str)) (N : Addr → Prop) (c : Nat) (H H' : Hp) : Prop where
  keep : ∀ a o, H a = some o → (∀ ps, o ≠ .tbl ps) → H' a = some o ∨ (N a ∧ ∃ ys i, i ≤ c ∧ o = .lst ys ∧ H' a = some (.lst (ys ++ List.replicate i late)))
  tabs : LamX.Tabs T H'
theorem Spo.refl {T : List (Addr × Str)} {N : Addr → Prop} {H : Hp} (t : LamX.Tabs T H) : Spo T N 0 H H := ⟨fun _ _ h _ => .inl h, t⟩
theorem Spo.of {T : List (Addr × Str)} {N : Addr → Prop} {H H' : Hp} (h : ∀ b o, H b = some o → (∀ ps, o ≠ .tbl ps) → H' b = some o) (t : LamX.Tabs T H') : Spo T N 0 H H' := ⟨fun a o e n => .inl (h a o e n), t⟩
theorem Spo.mono {T : List (Addr × Str)} {N : Addr → Prop} {c c' : Nat} {H H' : Hp} (s : Spo T N c H H') (h : c ≤ c') : Spo T N c' H H' := ⟨fun a o e n => (s.keep a o e n).imp id fun ⟨q, ys, i, h1, h2⟩ => ⟨q, ys, i, by omega, h2⟩, s.tabs⟩
theorem Spo.trans {T : List (Addr × Str)} {N : Addr → Prop} {c c' : Nat} {H H' H2 : Hp} (s : Spo T N c H H') (s2 : Spo T N c' H' H2) : Spo T N (c + c') H H2 := by
  refine ⟨fun a o e n => ?_, s2.tabs⟩
  rcases s.keep a o e n with h | ⟨q, ys, i, h1, rfl, h2⟩
  · exact (s2.keep a o h n).imp id fun ⟨q, ys, i, h1, h2⟩ => ⟨q, ys, i, by omega, h2⟩
  · rcases s2.keep a _ h2 (fun ps z => by cases z) with h3 | ⟨_, ys2, i2, h3, e2, h4⟩
    · exact .inr ⟨q, ys, i, by omega, rfl, h3⟩
    · cases e2
      exact .inr ⟨q, ys, i + i2, by omega, rfl, by rw [h4, List.append_assoc, List.replicate_append_replicate]⟩
theorem Spo.tup {K : PySem.W.Frag} {T : List (Addr × Str)} {N : Addr → Prop} {c : Nat} {H H' : Hp} {a : Addr} {xs : List V} (s : Spo T N c H H') (h : SqT K H a xs) : SqT K H' a xs := by
  rcases h with (h | ⟨o, h⟩) | h
  · rcases s.keep a _ h (fun ps z => by cases z) with q | ⟨_, _, _, _, e, _⟩
    · exact .inl (.inl q)
    · cases e
  · rcases s.keep a _ h (fun ps z => by cases z) with q | ⟨_, _, _, _, e, _⟩
    · exact .inl (.inr ⟨o, q⟩)
    · cases e
  · exact .inr h
theorem Spo.lst {T : List (Addr × Str)} {N : Addr → Prop} {c j : Nat} {H H' : Hp} {a : Addr} {xs : List V} (s : Spo T N c H H') (h : H a = some (.lst (xs ++ List.replicate j late))) : ∃ i, i ≤ c ∧ H' a = some (.lst (xs ++ List.replicate (j + i) late)) := by
  rcases s.keep a _ h (fun ps z => by cases z) with q | ⟨_, ys, i, h1, e, h2⟩
  · exact ⟨0, Nat.zero_le _, q⟩
  · cases e
    exact ⟨i, h1, by rw [h2, List.append_assoc, List.replicate_append_replicate]⟩
theorem SpT.spo {K : PySem.W.Frag} {T : List (Addr × Str)} {N : Addr → Prop} {w J c : Nat} {H H' : Hp} (s : Spo T N c H H') : ∀ (k : Nat) {v : V}, SpT K N w J H k v → SpT K N w (J + c) H' k v
  | 0, _, h => h
  | k + 1, v, h => by
    rcases h with h | ⟨a, xs, rfl, h1, h2, h3⟩
    · exact .inl h
    · refine .inr ⟨a, xs, rfl, h1, fun x hx => SpT.spo s k (h2 x hx), ?_⟩
      rcases h3 with h3 | ⟨n, j, hj, h3⟩
      · exact .inl (s.tup h3)
      · obtain ⟨i, hi, q⟩ := s.lst h3
        exact .inr ⟨n, j + i, by omega, q⟩
theorem SpT.sc {K : PySem.W.Frag} {N : Addr → Prop} {w J : Nat} {H : Hp} {v : V} (h : ScV v) : ∀ k, SpT K N w J H k v
  | 0 => h
  | _ + 1 => .inl h
/-- how much a list grows at most -/
def spB (w : Nat) : Nat → Nat
  | 0 => 0
  | k + 1 => w * spB w k + 1
def spSpoil (K : PySem.W.Frag) (T : List (Addr × Str)) (w k : Nat) : Sp := fun vs H Q _ => ∃ (v : V) (N : Addr → Prop) (J c : Nat), vs = [v] ∧ SpT K N w J H k v ∧ (c = spB w k ∨ (ScV v ∧ c = 0)) ∧ J + c + w + 10 ≤ 1000000 ∧ LamX.Tabs T H ∧ ∀ H', Spo T N c H H' → Q .non H'

section
variable {T : List (Addr × Str)} {X : Cx} {E : XK} {e : Expr} {K : PySem.W.Frag}
/-- `for part in ..: late(part)` -/
def tLoop (K : PySem.W.Frag) (T : List (Addr × Str)) (w k ip : Nat) (te : TE) (E : XK) : TS :=
  tFor (fun σ H R => te σ H fun x H1 => ∃ a, x = .ref a ∧ (((∃ xs, SqL K H1 a xs) ∧ R (Itl K a) H1) ∨ ((∃ xs, SqT K H1 a xs) ∧ R (Itt K a) H1))) (gName ip) (tDrop (tCall (spSpoil K T w k) [] E (tCons (tVar ip) tNil)))
/-- what a loop asks of its walk -/
abbrev loopR (g : TG) (tb : TS) (D : Ends) (σ : Sg) : It → Hp → Prop := fun J H1 => ∃ W : Nat → Nat → Sg → Hp → Prop, (∃ m, W 0 m σ H1) ∧ ∀ i m σ H, W i m σ H →
  (J.stop i H ∧ D.nx σ H) ∨ (J.go i H ∧ ∃ N : Sg → Hp → Prop, (∀ σ' H', N σ' H' → ∃ m', m' < m ∧ W (i + 1) m' σ' H') ∧ ∀ x H', J.yld i H x H' → g x σ H' fun σ2 H2 => tb { D with nx := N, ct := N, bk := D.nx } σ2 H2)
theorem loop_in {w k ip J : Nat} {N : Addr → Prop} {H : Hp} {a : Addr} {xs : List V} {σ0 : Sg} {D : Ends} (hn : ip < σ0.length) (hw : xs.length ≤ w) (hx : ∀ x ∈ xs, SpT K N w J H k x)
    (h3 : SqT K H a xs ∨ (N a ∧ ∃ j, j ≤ J ∧ H a = some (.lst (xs ++ List.replicate j late)))) (hb : J + w * spB w k + w + 11 ≤ 1000000) (tb : LamX.Tabs T H)
    (kk : ∀ σ H', σ.length = σ0.length → (∀ j, j ≠ ip → σ[j]? = σ0[j]?) → Spo T N (w * spB w k) H H' → D.nx σ H') :
    ∃ a', V.ref a = .ref a' ∧ (((∃ xs, SqL K H a' xs) ∧ loopR (gName ip) (tDrop (tCall (spSpoil K T w k) [] E (tCons (tVar ip) tNil))) D σ0 (Itl K a') H) ∨ ((∃ xs, SqT K H a' xs) ∧ loopR (gName ip) (tDrop (tCall (spSpoil K T w k) [] E (tCons (tVar ip) tNil))) D σ0 (Itt K a') H)) := by
  have s0 := Spo.refl (N := N) tb
  have part : ∀ (i : Nat) (x : V) (σ : Sg) (H3 : Hp) (c3 : Nat) (Nx : Sg → Hp → Prop), σ.length = σ0.length → (∀ j, j ≠ ip → σ[j]? = σ0[j]?) → Spo T N c3 H H3 → ((∃ y ∈ xs, x = y) ∧ c3 + spB w k ≤ w * spB w k ∨ x = late ∧ c3 ≤ w * spB w k) → (∀ σ' H', σ'.length = σ0.length → (∀ j, j ≠ ip → σ'[j]? = σ0[j]?) → Spo T N (c3 + (if x = late then 0 else spB w k)) H H' → Nx σ' H') →
      gName ip x σ H3 fun σ2 H2 => (tDrop (tCall (spSpoil K T w k) [] E (tCons (tVar ip) tNil))) { D with nx := Nx, ct := Nx, bk := D.nx } σ2 H2 := fun i x σ H3 c3 Nx hlen h0 s3 hx' hN => by
    refine ⟨x, by rw [List.getElem?_set_self (by rw [hlen]; exact hn)], ?_⟩
    have e0 : ∀ j, j ≠ ip → (σ.set ip (some x))[j]? = σ0[j]? := fun j hj => by rw [List.getElem?_set_ne (Ne.symm hj)]; exact h0 j hj
    by_cases hL : x = late
    · subst hL
      have hc3 : c3 ≤ w * spB w k := by rcases hx' with ⟨_, z⟩ | ⟨_, z⟩ <;> omega
      have sc : ScV late := True.intro
      refine ⟨late, N, J + c3, 0, rfl, SpT.sc sc k, .inr ⟨sc, rfl⟩, by omega, s3.tabs, fun H4 s4 => ?_⟩
      exact hN _ _ (by simpa using hlen) e0 (by simpa using s3.trans s4)
    · have hxm : SpT K N w J H k x ∧ c3 + spB w k ≤ w * spB w k := by
        rcases hx' with ⟨⟨y, hy, rfl⟩, z⟩ | z
        · exact ⟨hx _ hy, z⟩
        · exact absurd z.1 hL
      obtain ⟨hxm, hc3⟩ := hxm
      refine ⟨x, N, J + c3, spB w k, rfl, SpT.spo s3 k hxm, .inl rfl, by omega, s3.tabs, fun H4 s4 => ?_⟩
      exact hN _ _ (by simpa using hlen) e0 (by simpa [hL] using s3.trans s4)
  have hmul : ∀ i, i < xs.length → i * spB w k + spB w k ≤ w * spB w k := fun i hlt => by
    have := Nat.mul_le_mul_right (spB w k) (show i + 1 ≤ w by omega)
    rw [Nat.add_mul, Nat.one_mul] at this
    exact this
  have hall : xs.length * spB w k ≤ w * spB w k := Nat.mul_le_mul_right _ hw
  refine ⟨a, rfl, ?_⟩
  rcases h3 with h3 | ⟨hN, j, hj, h3⟩
  · -- a tuple
    refine .inr ⟨⟨_, h3⟩, fun i m σ H3 => σ.length = σ0.length ∧ (∀ j, j ≠ ip → σ[j]? = σ0[j]?) ∧ Spo T N (i * spB w k) H H3 ∧ i ≤ xs.length ∧ m = xs.length - i, ⟨_, rfl, fun _ _ => rfl, by simpa using s0, Nat.zero_le _, rfl⟩, ?_⟩
    rintro i m σ H3 ⟨hlen, h0, s3, hi, rfl⟩
    have sq : SqT K H3 a xs := s3.tup h3
    by_cases hlt : i < xs.length
    · refine .inr ⟨⟨xs, xs[i], sq, by simp [hlt]⟩, fun σ' H' => σ'.length = σ0.length ∧ (∀ j, j ≠ ip → σ'[j]? = σ0[j]?) ∧ Spo T N ((i + 1) * spB w k) H H', ?_, ?_⟩
      · rintro σ' H' ⟨a1, a2, a3⟩
        exact ⟨xs.length - (i + 1), by omega, a1, a2, a3, hlt, rfl⟩
      · rintro x H' ⟨rfl, hx2⟩
        have e := hx2 xs sq
        refine part i x σ _ _ _ hlen h0 s3 (.inl ⟨⟨x, List.mem_of_getElem? e, rfl⟩, hmul i hlt⟩) fun σ' H4 a1 a2 a3 => ⟨a1, a2, a3.mono ?_⟩
        rw [Nat.add_mul, Nat.one_mul]
        split <;> omega
    · have e : i = xs.length := by omega
      subst e
      exact .inl ⟨⟨xs, sq, Nat.le_refl _⟩, kk σ H3 hlen h0 (s3.mono hall)⟩
  · -- a list
    refine .inl ⟨⟨_, SqL.of h3⟩, fun i m σ H3 => σ.length = σ0.length ∧ (∀ j, j ≠ ip → σ[j]? = σ0[j]?) ∧ Spo T N (min i xs.length * spB w k) H H3 ∧ m = xs.length + j + w * spB w k - i, ⟨_, rfl, fun _ _ => rfl, by simpa using s0, rfl⟩, ?_⟩
    rintro i m σ H3 ⟨hlen, h0, s3, rfl⟩
    obtain ⟨i3, hi3, hl3⟩ := s3.lst h3
    have hmin : min i xs.length * spB w k ≤ w * spB w k := Nat.mul_le_mul_right _ (by omega)
    by_cases hlt : i < xs.length + (j + i3)
    · have hget : ∃ x, (xs ++ List.replicate (j + i3) late)[i]? = some x := ⟨_, List.getElem?_eq_getElem (by simpa using hlt)⟩
      obtain ⟨x0, hx0⟩ := hget
      refine .inr ⟨⟨_, x0, SqL.of hl3, hx0⟩, fun σ' H' => σ'.length = σ0.length ∧ (∀ j, j ≠ ip → σ'[j]? = σ0[j]?) ∧ Spo T N (min (i + 1) xs.length * spB w k) H H', ?_, ?_⟩
      · rintro σ' H' ⟨a1, a2, a3⟩
        exact ⟨xs.length + j + w * spB w k - (i + 1), by omega, a1, a2, a3, rfl⟩
      · rintro x H' ⟨rfl, hx2⟩
        have e := hx2 _ (SqL.of hl3)
        by_cases hl : i < xs.length
        · rw [List.getElem?_append_left hl] at e
          have m1 : min i xs.length = i := by omega
          have m2 : min (i + 1) xs.length = i + 1 := by omega
          rw [m1] at s3
          rw [m2]
          refine part i x σ _ _ _ hlen h0 s3 (.inl ⟨⟨x, List.mem_of_getElem? e, rfl⟩, hmul i hl⟩) fun σ' H4 a1 a2 a3 => ⟨a1, a2, a3.mono ?_⟩
          rw [Nat.add_mul, Nat.one_mul]
          split <;> omega
        · rw [List.getElem?_append_right (by omega)] at e
          have ex : x = late := List.eq_of_mem_replicate (List.mem_of_getElem? e)
          have m2 : min (i + 1) xs.length = min i xs.length := by omega
          rw [m2]
          refine part i x σ _ _ _ hlen h0 s3 (.inr ⟨ex, hmin⟩) fun σ' H4 a1 a2 a3 => ⟨a1, a2, a3.mono ?_⟩
          rw [if_pos ex]
          omega
    · exact .inl ⟨⟨_, SqL.of hl3, by simp; omega⟩, kk σ H3 hlen h0 (s3.mono hmin)⟩
/-- what the def does -/
def tSpoil (K : PySem.W.Frag) (T : List (Addr × Str)) (w k ip : Nat) (E : XK) : TS :=
  tSeq (tIfS (tTy K T ["list", "tuple"]) (tLoop K T w k ip (tVar 0) E) tNext)
    (tIfS (tTy K T ["list"]) (tDrop (tBM K "list" rAppend (tVar 0) (tCons (tC late) tNil))) tNext)
theorem sc_ty {K : PySem.W.Frag} {v : V} (h : ScV v) : ∃ t, tyS (.v v) = some t ∧ isB t ["list", "tuple"] = false ∧ isB t ["list"] = false := by
  cases v <;> first | exact h.elim | exact ⟨_, rfl, by decide, by decide⟩
theorem spoil_sc {w k n : Nat} {E : XK} {v : V} {H : Hp} {Q : VK} {tl : TS} {ta : TS} (h : spSpoil K T w k [v] H Q E) (hs : ScV v) : (tSeq (tIfS (tTy K T ["list", "tuple"]) tl tNext) (tIfS (tTy K T ["list"]) ta tNext)) { nx := fun _ H' => Q .non H', rt := Q } (some v :: List.replicate n none) H := by
  obtain ⟨v', N, J, c, e, _, hc, hb, tb, q⟩ := h
  cases e
  obtain ⟨t, h1, h2, h4⟩ := sc_ty (K := K) hs
  refine ⟨v, _, t, fun _ => none, rfl, fun _ _ z => by (cases z), fun _ _ z => by (cases z), .v _, h1, tb, fun H1 k1 t1 => ?_⟩
  rw [h2]
  refine iteF ?_
  refine ⟨v, _, t, fun _ => none, rfl, fun _ _ z => by (cases z), fun _ _ z => by (cases z), .v _, h1, t1, fun H2 k2 t2 => ?_⟩
  rw [h4]
  refine iteF ?_
  exact q H2 ((Spo.of (fun b o e n => k2 b o (k1 b o e n) n) t2).mono (Nat.zero_le _))
theorem spoil_ok {w k ip n : Nat} {E : XK} (hip : ip ≠ 0) (hn : ip < n) {v : V} {H : Hp} {Q : VK} (h : spSpoil K T w (k + 1) [v] H Q E) : tSpoil K T w k ip E { nx := fun _ H' => Q .non H', rt := Q } (some v :: List.replicate (n - 1) none) H := by
  have h00 := h
  obtain ⟨v', N, J, c, e, hs, hc, hb, tb, q⟩ := h
  cases e
  have hB : spB w (k + 1) = w * spB w k + 1 := rfl
  rcases hs with hs | ⟨a, xs, rfl, hw, hx, h3⟩
  · exact spoil_sc h00 hs
  have cB : c = spB w (k + 1) := hc.elim id fun z => z.1.elim
  rw [cB, hB] at hb
  have look : ∀ {H' : Hp} {c' : Nat}, Spo T N c' H H' → ∃ (d : D) (F : Hp), Same F H' ∧ (∀ b ps, F b ≠ some (.tbl ps)) ∧ Rep K F d (.ref a) ∧ (tyS d = some "list" ∧ N a ∧ (∃ j, j ≤ J + c' ∧ H' a = some (.lst (xs ++ List.replicate j late))) ∨ tyS d = some "tuple" ∧ SqT K H' a xs) := fun {H' c'} s => by
    rcases h3 with h3 | ⟨hN, j, hj, h3⟩
    · obtain ⟨F, f1, f2, f3⟩ := tup_look (s.tup h3)
      exact ⟨_, F, f1, f2, f3, .inr ⟨rfl, s.tup h3⟩⟩
    · obtain ⟨i, hi, h4⟩ := s.lst h3
      exact ⟨.lst ((xs ++ List.replicate (j + i) late).map D.v), _, oneF_sub h4, oneF_nt (fun ps q => by cases q), .lst (if_pos rfl) (Reps.ofV _), .inl ⟨rfl, hN, j + i, by omega, h4⟩⟩
  have s0 := Spo.refl (N := N) tb
  obtain ⟨d, F, f1, f2, f3, f4⟩ := look s0
  have ht : ∃ t, tyS d = some t ∧ isB t ["list", "tuple"] = true := by
    rcases f4 with ⟨h, _⟩ | ⟨h, _⟩
    · exact ⟨_, h, by decide⟩
    · exact ⟨_, h, by decide⟩
  obtain ⟨t, t1, t3⟩ := ht
  refine ⟨.ref a, d, t, F, rfl, f1, f2, f3, t1, tb, fun H1 k1 tb1 => ?_⟩
  rw [t3]
  refine iteT ?_
  have s1 : Spo T N 0 H H1 := Spo.of k1 tb1
  refine ⟨.ref a, rfl, ?_⟩
  refine loop_in (N := N) (J := J) (by simp; omega) hw (fun x hx' => by simpa using SpT.spo s1 k (hx x hx')) ?_ (by omega) tb1 fun σ H3 hlen h0 s13 => ?_
  · rcases h3 with h3 | ⟨hN, j, hj, h3⟩
    · exact .inl (s1.tup h3)
    · obtain ⟨i, hi, h4⟩ := s1.lst h3
      exact .inr ⟨hN, j + i, by omega, h4⟩
  have s3 : Spo T N (w * spB w k) H H3 := (s1.trans s13).mono (by omega)
  have h0 : σ[0]? = some (some (.ref a)) := h0 0 (Ne.symm hip)
  obtain ⟨d, F, f1, f2, f3, f4⟩ := look s3
  rcases f4 with ⟨ht, hN, j, hj, hl⟩ | ⟨ht, hl⟩
  · refine ⟨.ref a, d, _, F, h0, f1, f2, f3, ht, s3.tabs, fun H4 k4 tb4 => ?_⟩
    rw [show isB "list" ["list"] = true by decide]
    refine iteT ?_
    have hl4 := k4 a _ hl (fun ps z => by cases z)
    refine ⟨.ref a, h0, .inl ⟨rfl, _, SqL.of hl4⟩, ?_⟩
    refine ⟨a, _, late, rfl, rfl, hl4, size_lt (by simp; omega), ?_⟩
    refine q _ ?_
    rw [cB, hB]
    have s4 : Spo T N (w * spB w k) H H4 := (s3.trans (Spo.of k4 tb4)).mono (by omega)
    refine s4.trans ⟨fun b o e n => ?_, fun p hp => ?_⟩
    · by_cases hb : b = a
      · subst hb
        rw [hl4] at e
        cases e
        exact .inr ⟨hN, _, 1, Nat.le_refl _, rfl, upd_same⟩
      · exact .inl (by rw [upd_ne hb]; exact e)
    · obtain ⟨ps, p1, p2, p3⟩ := tb4 p hp
      have n1 : p.1 ≠ a := fun z => by rw [z, hl4] at p1; cases p1
      refine ⟨ps, by rw [upd_ne n1]; exact p1, p2, fun pos cv hcv => ?_⟩
      obtain ⟨cc, e1, e2⟩ := p3 pos cv hcv
      have nc : cc ≠ a := fun z => by
        rw [z, hl4] at e2
        unfold LamX.CodeO at e2
        cases e2
      exact ⟨cc, e1, by rw [upd_ne nc]; exact e2⟩
  · refine ⟨.ref a, d, _, F, h0, f1, f2, f3, ht, s3.tabs, fun H4 k4 tb4 => ?_⟩
    rw [show isB "tuple" ["list"] = false by decide]
    refine iteF ?_
    refine q _ ?_
    rw [cB, hB]
    exact (s3.trans (Spo.of k4 tb4)).mono (by omega)
/-! ### in blocks -/
theorem spT_of {F H0 H : Hp} {N : Addr → Prop} {w : Nat} (hN : ∀ b xs, F b = some (.lst xs) → Fr H0 b → N b) (s : Same F H) : ∀ (k : Nat) {d : D} {v : V}, SpD w k d → RepN K F H0 d v → SpT K N w 0 H k v
  | 0, d, v, ⟨x, e, hx⟩, r => by
    subst e
    cases r
    exact hx
  | k + 1, d, v, h, r => by
    rcases h with ⟨x, rfl, hx⟩ | ⟨ds, e, hl, hd⟩
    · cases r
      exact .inl hx
    · rcases e with rfl | rfl
      · cases r with
        | lst h f rs => exact .inr ⟨_, _, rfl, by rw [← rs.len]; exact hl, fun x hx => (rs.mem x hx).elim fun e he => spT_of hN s k (hd e he.1) he.2, .inr ⟨hN _ _ h f, 0, Nat.le_refl _, by simpa using s _ _ h⟩⟩
      · cases r with
        | tup h rs => exact .inr ⟨_, _, rfl, by rw [← rs.len]; exact hl, fun x hx => (rs.mem x hx).elim fun e he => spT_of hN s k (hd e he.1) he.2, .inl (SqT.same s h)⟩
theorem rel_fall {K : PySem.W.Frag} {st : Option Addr} {F0 H0 F H H' : Hp} {σ : Sg} {z : Z} {c : Nat} (b0 : Same F0 H0) (r : Rel K T st F0 H0 F H σ z) (s : Spo T (Fr H0) c H H') (hst : ∀ sp, st = some sp → H' sp = H sp) : Rel K T st F0 H0 F0 H' σ z.dp := by
  have nf : ∀ {i : Nat} {x : DV}, (z.env.map DV.dp)[i]? = some x → x = .un ∨ (∃ d, x = .bs true d ∧ z.env[i]? = some (.bs true d)) ∨ ∃ v, x = .sh (.v v) ∧ z.env[i]? = some (.sh (.v v)) := fun {i x} hi => by
    obtain ⟨y, hy, q⟩ := map_some hi
    cases y with
    | bs b d =>
      cases b with
      | true => exact .inr (.inl ⟨d, q.symm, hy⟩)
      | false => exact .inl q.symm
    | sh d =>
      cases d with
      | v x => exact .inr (.inr ⟨x, q.symm, hy⟩)
      | _ => exact .inl q.symm
    | _ => exact .inl q.symm
  have keep : ∀ b o, H0 b = some o → H b = some o → (∀ ps, o ≠ .tbl ps) → H' b = some o := fun b o h0 h hn => by
    rcases s.keep b o h hn with q | ⟨q, _⟩
    · exact q
    · exact absurd rfl (q.ne h0 hn)
  refine ⟨⟨fun b o h => ?_, fun b ps h => r.ok.nt b ps (r.ok.f0 _ _ h), fun _ _ h => h, fun _ _ h => .inl h, fun b o h h1 h2 => keep b o h (r.ok.keep b o h h1 h2) h2, fun sp h => ?_, s.tabs⟩, by simpa using r.len, fun i d hi => ?_, fun i o hi => ?_, fun i j o o' b hij hi => ?_, fun i kk d hi => ?_⟩
  · have hF := r.ok.f0 b o h
    have hn : ∀ ps, o ≠ .tbl ps := fun ps e => r.ok.nt b ps (by rw [← e]; exact hF)
    rcases s.keep b o (r.ok.sub b o hF) hn with q | ⟨q, _⟩
    · exact q
    · exact absurd rfl (q.ne (b0 b o h) hn)
  · obtain ⟨h1, h2⟩ := r.ok.strm sp h
    refine ⟨?_, h2.at (hst sp h)⟩
    cases q : F0 sp with
    | none => rfl
    | some o => rw [r.ok.f0 _ _ q] at h1; cases h1
  · rcases nf (show (z.env.map DV.dp)[i]? = some (.sh d) from hi) with q | ⟨_, q, _⟩ | ⟨x, q, hz⟩
    · cases q
    · cases q
    · cases q
      obtain ⟨v, h1, h2⟩ := r.sh i _ hz
      cases h2
      exact ⟨_, h1, .v _⟩
  · rcases nf (show (z.env.map DV.dp)[i]? = some (.ow o) from hi) with q | ⟨_, q, _⟩ | ⟨_, q, _⟩ <;> cases q
  · rcases nf (show (z.env.map DV.dp)[i]? = some (.ow o) from hi) with q | ⟨_, q, _⟩ | ⟨_, q, _⟩ <;> cases q
  · rcases nf (show (z.env.map DV.dp)[i]? = some (.bs kk d) from hi) with q | ⟨d', q, hz⟩ | ⟨x, q, hz⟩
    · cases q
    · cases q
      obtain ⟨v, h1, h2⟩ := r.bs i _ _ hz
      exact ⟨v, h1, h2⟩
    · cases q
theorem spo_strm {st : Option Addr} {F0 H0 F H H' : Hp} {n c : Nat} (ok : Ok T st F0 H0 F H n) (s : Spo T (Fr H0) c H H') (h0 : ∀ sp, st = some sp → ∃ o, H0 sp = some o ∧ ∀ ps, o ≠ .tbl ps) : ∀ sp, st = some sp → H' sp = H sp := fun sp h => by
  obtain ⟨_, z0, z1, z2, h2, _⟩ := ok.strm sp h
  rcases s.keep sp _ h2 (fun ps z => by cases z) with q | ⟨q, _⟩
  · rw [q, h2]
  · obtain ⟨o, ho, hn⟩ := h0 sp h
    exact absurd rfl (q.ne ho hn)
/-- the def that spoils, by its promise -/
structure FnSp (P : Program) (w : World) (K : PySem.W.Frag) (T : List (Addr × Str)) (mg : Str → Option Value) (base : Heap) (k : Nat) (x : Str) (wd d : Nat) : Prop where
  ex : ∃ (f : Addr) (fd : FuncData), FnOk P w K mg base (L2.CX P w) k f fd ["thing"] (spSpoil K T wd d) ∧ mg x = some (.ref f) ∧ PySem.W.keepIn K (.ref f) = true ∧ Binds K fd ["thing"] []
theorem rel_unset {st : Option Addr} {F0 H0 F H : Hp} {σ σ' : Sg} {z : Z} {i : Nat} (r : Rel K T st F0 H0 F H σ z) (hl : σ'.length = σ.length) (h : ∀ j, j ≠ i → σ'[j]? = σ[j]?) : Rel K T st F0 H0 F H σ' (z.put i .un) := by
  refine r.forget (by rw [hl, r.len, List.length_set]) fun j x hj hx => ?_
  by_cases e : j = i
  · subst e
    by_cases hlt : j < z.env.length
    · rw [List.getElem?_set_self hlt] at hj
      cases hj
      exact absurd rfl hx
    · rw [List.getElem?_eq_none (by rw [List.length_set]; omega)] at hj
      cases hj
  · rw [List.getElem?_set_ne (Ne.symm e)] at hj
    exact ⟨hj, h j e⟩
end
end DLt
end

section
set_option Elab.async false
set_option linter.all false
set_option maxRecDepth 100000
set_option maxHeartbeats 4000000
/-! DL48: loops that spoil new things; a block with two bases. -/
namespace DLt
open PySem PySem.Spec PyProof.Rows L2 DL
/-- the part of F that stands unchanged in H -/
noncomputable def unch (F H : Hp) : Hp := fun b => by classical exact if H b = F b then F b else none
theorem unch_sub {F H : Hp} {b : Addr} {o : HO} (h : unch F H b = some o) : F b = some o ∧ H b = some o := by
  unfold unch at h
  by_cases e : H b = F b
  · rw [if_pos e] at h
    exact ⟨h, e.trans h⟩
  · rw [if_neg e] at h
    cases h
theorem unch_of {F H : Hp} {b : Addr} {o : HO} (h : F b = some o) (h2 : H b = some o) : unch F H b = some o := by
  unfold unch
  rw [if_pos (h2.trans h.symm)]
  exact h
theorem sqT_re {K : PySem.W.Frag} {F F' : Hp} {a : Addr} {xs : List V} (e : ∀ b o, F b = some o → (∀ ys, o ≠ .lst ys) → F' b = some o) (h : SqT K F a xs) : SqT K F' a xs := by
  rcases h with (h | ⟨o, h⟩) | h
  · exact .inl (.inl (e _ _ h nofun))
  · exact .inl (.inr ⟨o, e _ _ h nofun⟩)
  · exact .inr h
mutual
theorem RepN.re {K : PySem.W.Frag} {F F' H H0 : Hp} (e : ∀ b o, F b = some o → (∀ ys, o ≠ .lst ys) → F' b = some o) (e2 : ∀ b o, F b = some o → Fr H b → F' b = some o) (g : ∀ b, Fr H b → Fr H0 b) : ∀ {d : D} {v : V}, RepN K F H d v → RepN K F' H0 d v
  | _, _, .v x => .v x
  | _, _, .lst h f r => .lst (e2 _ _ h f) (g _ f) (RepsN.re e e2 g r)
  | _, _, .tup h r => .tup (sqT_re e h) (RepsN.re e e2 g r)
  | _, _, .dic h f k r => .dic (e2 _ _ h f) (g _ f) k (RepsN.re e e2 g r)
  | _, _, .ins h f k r => .ins (e2 _ _ h f) (g _ f) k (RepsN.re e e2 g r)
theorem RepsN.re {K : PySem.W.Frag} {F F' H H0 : Hp} (e : ∀ b o, F b = some o → (∀ ys, o ≠ .lst ys) → F' b = some o) (e2 : ∀ b o, F b = some o → Fr H b → F' b = some o) (g : ∀ b, Fr H b → Fr H0 b) : ∀ {ds : List D} {xs : List V}, RepsN K F H ds xs → RepsN K F' H0 ds xs
  | _, _, .nil => .nil
  | _, _, .cons h t => .cons (RepN.re e e2 g h) (RepsN.re e e2 g t)
end
section
variable {T : List (Addr × Str)} {X : Cx} {E : XK} {e : Expr} {s1 s2 s3 : Stmt} {ss : List Stmt} {me : TDE} {m1 m2 m3 mp : TDS} {pos p p2 p3 p4 py pe' : Pos} {x y yh : Str} {k j w : Nat}
@[reducible, simp] def sForF (i w d : Nat) (me : TDE) : TDS := fun st De z EQ => me st z (fun dd z1 => ∃ ds : List D, (dd = .lst ds ∨ dd = .tup ds) ∧ i < z1.env.length ∧ ds.length ≤ w ∧ (∀ e ∈ ds, SpD w d e) ∧ w * spB w d + w + 11 ≤ 1000000 ∧ De.nx (z1.dp.put i .un)) EQ
theorem dsd_forF (i : Nat) {d : Nat} (c : FnSp X.prog X.w X.K T X.mg X.base k x w d) (hp : PassesOwn (model X.prog X.w) X.A X.env X.xe) (hc : X.calm = true) (hr : Room j X.A) (hk : k ≤ j) (hg : Gl X x) (hx : Passes (L2.CX X.prog X.w) X E) (hN : X.N.Nodup) (he : DFr T X E e me) (hi : X.N[i]? = some y := by rfl) (hy : Loc X.env.scope y := by first | exact Or.inl rfl | exact Or.inr rfl) (hv : Vis X.env.scope y := by first | exact Or.inl rfl | exact Or.inr (Or.inl rfl) | exact Or.inr (Or.inr rfl)) (hd : (y == ("__debug__" : Str)) = false := by decide) (hcd : (y == ("__classdict__" : Str)) = false := by decide) (hdb : (x == ("__debug__" : Str)) = false := by decide)
    (hst : starEach [.Name y p2] X.env = (false, eval (.Name y p2) X.env) :: starEach [] X.env := by rfl) (hpl : (backTo p3 (starEach [] X.env)).any (·.1) = false := by rfl) (hs : swapsWith (.Call (.Name x p) [.Name y p2] [] p3) none p4.line X.env = pure false := by rfl) (hfs : ∀ z, foldedSetIterable e X.env z = pure z := by intro _; rfl) (hfn : X.fn y = true ∨ X.env.scope.names.lookup y = some .local := by first | exact .inl rfl | exact .inr rfl) :
    DSd T X E (.For (.Name y py) e [.Expr (.Call (.Name x p) [.Name y p2] [] p3) p4] [] pos) (sForF i w d me) := by
  obtain ⟨f, fd, F, hm, hkp, hb⟩ := c.ex
  obtain ⟨t, pt, q⟩ := he.ex
  refine ⟨⟨_, ps_for hp hc (thnPI pt) (pg_name hN hi hy hfn) (pss_one (ps_expr (pe_call F (hr.mono hk) hg hm hkp hb .nil hx (pa_cons (pe_var hi hv hd hcd) pa_nil) hdb hst hpl) hs)) hfs, fun st F0 H0 F H σ z De EQ D' b0 r er h k => ?_⟩⟩
  obtain ⟨n0, o0⟩ := b0
  refine q st F0 H0 F H σ z _ EQ _ r er h fun v H1 F1 dd z1 s1 r1 pp h1 => ?_
  obtain ⟨ds, hdd, hil, hl, hsp, hbd, hnx⟩ := h1
  have fin : ∀ (σ' : Sg) (H' : Hp), σ'.length = σ.length → (∀ j, j ≠ i → σ'[j]? = σ[j]?) → Spo T (Fr H0) (w * spB w d) H1 H' → D'.nx σ' H' := fun σ' H' hlen hσ s => by
    have rf := rel_fall o0.sub r1 s (spo_strm r1.ok s fun sp h => by
      obtain ⟨_, z0, z1, z2, h2, _⟩ := o0.strm sp h
      exact ⟨_, h2, fun ps z => by cases z⟩)
    exact k.nx σ' H' F0 _ (Same.refl F0) (rel_unset rf hlen hσ) hnx
  have hlt : i < σ.length := by rw [r1.len]; exact hil
  rcases hdd with rfl | rfl
  · cases pp with
    | lst hf f rr =>
      exact loop_in (N := Fr H0) (J := 0) hlt (by rw [← rr.len]; exact hl) (fun x hx => (rr.mem x hx).elim fun e he => spT_of (fun _ _ _ h => h) r1.ok.sub _ (hsp e he.1) he.2) (.inr ⟨f, 0, Nat.le_refl _, by simpa using r1.ok.sub _ _ hf⟩) (by omega) r1.ok.tabs fin
  · cases pp with
    | tup hf rr =>
      exact loop_in (N := Fr H0) (J := 0) hlt (by rw [← rr.len]; exact hl) (fun x hx => (rr.mem x hx).elim fun e he => spT_of (fun _ _ _ h => h) r1.ok.sub _ (hsp e he.1) he.2) (.inl (SqT.same r1.ok.sub hf)) (by omega) r1.ok.tabs fin
@[reducible, simp] def dq : DV → DV
  | .bs false d => .bs false d
  | .sh (.v x) => .sh (.v x)
  | .bs true (.v x) => .sh (.v x)
  | _ => .un
@[reducible, simp] def sTwo (iq ih iy w d : Nat) (m1 m2 m3 mp : TDS) : TDS := fun st De z EQ => ∃ (tq dhs : List D), z.env[iq]? = some (.bs true (.tup tq)) ∧ z.env[ih]? = some (.bs false (.lst dhs)) ∧ iy < z.env.length ∧ dhs.length ≤ w ∧ (∀ e ∈ dhs, SpD w d e) ∧ w * spB w d + w + 11 ≤ 1000000 ∧ ∀ a b : Addr,
  m1 st { nx := fun z1 => m2 st { nx := fun z2 => m3 st { nx := fun z3 => iy < z3.env.length ∧ z3.env[iq]? = some (.bs true (.at b (.tup tq))) ∧ z3.env[ih]? = some (.bs true (.at a (.lst dhs))) ∧ mp st De { env := ((z3.env.map dq).set iq (.bs true (.tup tq))).set iy .un, n := z3.n } EQ, rt := De.rt } z2 EQ, rt := De.rt } z1 EQ, rt := De.rt } { env := ((z.env.map DV.ob).set iq (.bs true (.at b (.tup tq)))).set ih (.bs true (.at a (.lst dhs))), n := z.n } EQ
theorem rel_pin {K : PySem.W.Frag} {st : Option Addr} {F0 H0 F H : Hp} {σ : Sg} {z : Z} {i : Nat} {b : Addr} {d : D} (r : Rel K T st F0 H0 F H σ z) (hi : σ[i]? = some (some (.ref b))) (rp : Rep K F0 d (.ref b)) : Rel K T st F0 H0 F H σ { env := z.env.set i (.bs true (.at b d)), n := z.n } := by
  have hlt : i < z.env.length := by
    have := (List.getElem?_eq_some_iff.mp hi).1
    rw [r.len] at this
    exact this
  have self : ∀ {x : DV}, (z.env.set i (.bs true (.at b d)))[i]? = some x → x = .bs true (.at b d) := fun {x} h => by
    rw [List.getElem?_set_self hlt] at h
    cases h
    rfl
  have other : ∀ {j : Nat} {x : DV}, j ≠ i → (z.env.set i (.bs true (.at b d)))[j]? = some x → z.env[j]? = some x := fun hj h => by
    rw [List.getElem?_set_ne (Ne.symm hj)] at h
    exact h
  refine ⟨r.ok, by rw [r.len]; simp, fun j d' hj => ?_, fun j o hj => ?_, fun j l o o' c hjl hj hl => ?_, fun j kk d' hj => ?_⟩
  · by_cases e : j = i
    · subst e; cases self hj
    · exact r.sh j d' (other e hj)
  · by_cases e : j = i
    · subst e; cases self hj
    · exact r.ow j o (other e hj)
  · have e1 : j ≠ i := fun e => by subst e; cases self hj
    have e2 : l ≠ i := fun e => by subst e; cases self hl
    exact r.apart j l o o' c hjl (other e1 hj) (other e2 hl)
  · by_cases e : j = i
    · subst e
      cases self hj
      exact ⟨_, hi, .at rp⟩
    · exact r.bs j kk d' (other e hj)
theorem res_base {K : PySem.W.Frag} {st : Option Addr} {F1 H0 H H1 : Hp} {v : V} {rr : Res} (g : ∀ x, Fr H x → Fr H0 x) (h : ResR K st F1 H H1 v rr) : ResR K st F1 H0 H1 v rr := by
  cases h with
  | sh a => exact .sh a
  | nw w => exact .nw ⟨w.ho, w.f, g _ w.h0, w.st, w.pin⟩
  | fr w => exact .fr (w.mono (Same.refl F1) fun b _ _ q => g _ q)
theorem dbd_two (iq ih iy : Nat) {d : Nat} (c : FnSp X.prog X.w X.K T X.mg X.base k x w d) (hp : PassesOwn (model X.prog X.w) X.A X.env X.xe) (hc : X.calm = true) (hr : Room j X.A) (hk : k ≤ j) (hg : Gl X x) (hx : Passes (L2.CX X.prog X.w) X E) (hN : X.N.Nodup)
    (h1 : DS T X E s1 m1) (h2 : DS T X E s2 m2) (h3 : DS T X E s3 m3) (hpo : DBd T X E ss mp)
    (hih : X.N[ih]? = some yh := by rfl) (hvh : Vis X.env.scope yh := by first | exact Or.inl rfl | exact Or.inr (Or.inl rfl) | exact Or.inr (Or.inr rfl)) (hdh : (yh == ("__debug__" : Str)) = false := by decide) (hcdh : (yh == ("__classdict__" : Str)) = false := by decide)
    (hi : X.N[iy]? = some y := by rfl) (hy : Loc X.env.scope y := by first | exact Or.inl rfl | exact Or.inr rfl) (hv : Vis X.env.scope y := by first | exact Or.inl rfl | exact Or.inr (Or.inl rfl) | exact Or.inr (Or.inr rfl)) (hd : (y == ("__debug__" : Str)) = false := by decide) (hcd : (y == ("__classdict__" : Str)) = false := by decide) (hdb : (x == ("__debug__" : Str)) = false := by decide) (hne : iq ≠ ih ∧ iq ≠ iy ∧ ih ≠ iy := by decide)
    (hst : starEach [.Name y p2] X.env = (false, eval (.Name y p2) X.env) :: starEach [] X.env := by rfl) (hpl : (backTo p3 (starEach [] X.env)).any (·.1) = false := by rfl) (hs : swapsWith (.Call (.Name x p) [.Name y p2] [] p3) none p4.line X.env = pure false := by rfl) (hfs : ∀ z, foldedSetIterable (.Name yh pe') X.env z = pure z := by intro _; rfl) (hfn : X.fn y = true ∨ X.env.scope.names.lookup y = some .local := by first | exact .inl rfl | exact .inr rfl) :
    DBd T X E (s1 :: s2 :: s3 :: .For (.Name y py) (.Name yh pe') [.Expr (.Call (.Name x p) [.Name y p2] [] p3) p4] [] pos :: ss) (sTwo iq ih iy w d m1 m2 m3 mp) := by
  obtain ⟨f, fd, FF, hm, hkp, hb⟩ := c.ex
  obtain ⟨t1, p1, q1⟩ := h1.ex
  obtain ⟨t2, pp2, q2⟩ := h2.ex
  obtain ⟨t3, pp3, q3⟩ := h3.ex
  obtain ⟨tp, pp, qp⟩ := hpo.ex
  obtain ⟨n1, n2, n3⟩ := hne
  refine ⟨⟨_, pss_cons p1 (pss_cons pp2 (pss_cons pp3 (pss_cons (ps_for hp hc (thnPI (pe_var hih hvh hdh hcdh)) (pg_name hN hi hy hfn) (pss_one (ps_expr (pe_call FF (hr.mono hk) hg hm hkp hb .nil hx (pa_cons (pe_var hi hv hd hcd) pa_nil) hdb hst hpl) hs)) hfs) pp))), fun st F0 H0 F H σ z De EQ D' b0 r er h k => ?_⟩⟩
  obtain ⟨tq, dhs, hq, hh, hyl, hw, hsp, hbd, h⟩ := h
  obtain ⟨vq, sq1, rq⟩ := r.bs iq _ _ hq
  obtain ⟨vh, sh1, rh⟩ := r.bs ih _ _ hh
  have rq : Rep X.K F0 (.tup tq) vq := rq
  have rh : RepN X.K F H0 (.lst dhs) vh := rh
  obtain ⟨b, rfl⟩ : ∃ b, vq = .ref b := by cases rq; exact ⟨_, rfl⟩
  obtain ⟨a, rfl⟩ : ∃ a, vh = .ref a := by cases rh; exact ⟨_, rfl⟩
  have h := h a b
  have rs := rel_pin (i := ih) (rel_pin (i := iq) r.scope sq1 (rq.mono r.ok.f0)) sh1 rh.rep
  have er' := er.after r.ok
  have rt : ∀ {F1 : Hp}, Same F F1 → ∀ v H' F' rr n', Same F1 F' → Ok T st F H F' H' n' → ResR X.K st F' H H' v rr → De.rt rr n' → D'.rt v H' := fun {F1} s0 v H' F' rr n' s1 ok1 rr1 hq => k.rt v H' F' rr n' (r.ok.f0.trans (s0.trans s1)) (r.ok.trans ok1) (res_base (fun _ q => r.ok.fr q) rr1) hq
  refine q1 st F H F H σ _ _ EQ _ rs er' h ⟨fun σ1 H1 F1 z1 s1 r1 g1 => ?_, fun _ _ _ _ _ _ q => q.elim, fun _ _ _ _ _ _ q => q.elim, rt (Same.refl F)⟩
  refine q2 st F H F1 H1 σ1 z1 _ EQ _ r1 er' g1 ⟨fun σ2 H2 F2 z2 s2 r2 g2 => ?_, fun _ _ _ _ _ _ q => q.elim, fun _ _ _ _ _ _ q => q.elim, rt s1⟩
  refine q3 st F H F2 H2 σ2 z2 _ EQ _ r2 er' g2 ⟨fun σ3 H3 F3 z3 s3 r3 g3 => ?_, fun _ _ _ _ _ _ q => q.elim, fun _ _ _ _ _ _ q => q.elim, rt (s1.trans s2)⟩
  obtain ⟨gl, gq, gh, g3⟩ := g3
  have ea : σ3[ih]? = some (some (.ref a)) := by
    obtain ⟨v, e1, e2⟩ := r3.bs ih _ _ gh
    have e2 : Rep X.K F (.at a (.lst dhs)) v := e2
    cases e2
    exact e1
  have eb : σ3[iq]? = some (some (.ref b)) := by
    obtain ⟨v, e1, e2⟩ := r3.bs iq _ _ gq
    have e2 : Rep X.K F (.at b (.tup tq)) v := e2
    cases e2
    exact e1
  have sF3 : Same F F3 := s1.trans (s2.trans s3)
  cases rh with
  | lst hf ff rr =>
  have hsub : Same F H := r.ok.sub
  refine ⟨.ref a, ea, loop_in (N := fun c => Fr H0 c ∧ ∃ xs, H c = some (.lst xs)) (J := 0) (by rw [r3.len]; exact gl) (by rw [← rr.len]; exact hw) (fun x hx => (rr.mem x hx).elim fun e he => spT_of (fun c xs h1 h2 => ⟨h2, xs, hsub _ _ h1⟩) (sF3.trans r3.ok.sub) _ (hsp e he.1) he.2) (.inr ⟨⟨ff, _, hsub _ _ hf⟩, 0, Nat.le_refl _, by simpa using r3.ok.sub _ _ (sF3 _ _ hf)⟩) (by omega) r3.ok.tabs fun σ' H' hlen hσ s => ?_⟩
  obtain ⟨n0, o0⟩ := b0
  have keepH : ∀ c o, H0 c = some o → H3 c = some o → (∀ ps, o ≠ .tbl ps) → H' c = some o := fun c o h0 h3 hn => by
    rcases s.keep c o h3 hn with q | ⟨q, _⟩
    · exact q
    · exact absurd rfl (q.1.ne h0 hn)
  have keep3 : ∀ c o, H0 c = some o → st ≠ some c → (∀ ps, o ≠ .tbl ps) → H3 c = some o := fun c o h0 hs hn => r3.ok.keep c o (r.ok.keep c o h0 hs hn) hs hn
  have nl : ∀ c o, F3 c = some o → (∀ ys, o ≠ .lst ys) → unch F3 H' c = some o := fun c o h1 h2 => by
    refine unch_of h1 ?_
    rcases s.keep c o (r3.ok.sub _ _ h1) (fun ps e => r3.ok.nt c ps (by rw [h1, e])) with q | ⟨_, ys, _, _, e, _⟩
    · exact q
    · exact absurd e (h2 ys)
  have nw : ∀ c o, F3 c = some o → Fr H c → unch F3 H' c = some o := fun c o h1 h2 => by
    refine unch_of h1 ?_
    rcases s.keep c o (r3.ok.sub _ _ h1) (fun ps e => r3.ok.nt c ps (by rw [h1, e])) with q | ⟨⟨_, xs, q⟩, _⟩
    · exact q
    · obtain ⟨ps, e⟩ := h2 _ q
      cases e
  have get : ∀ {i : Nat} {v : DV}, (((z3.env.map dq).set iq (.bs true (.tup tq))).set iy .un)[i]? = some v → v ≠ .un → i ≠ iy ∧ ((i = iq ∧ v = .bs true (.tup tq)) ∨ (i ≠ iq ∧ (z3.env.map dq)[i]? = some v)) := fun {i v} hv hu => by
    have e1 : i ≠ iy := fun e => by
      subst e
      by_cases hlt : i < ((z3.env.map dq).set iq (.bs true (.tup tq))).length
      · rw [List.getElem?_set_self hlt] at hv
        cases hv
        exact hu rfl
      · rw [List.getElem?_eq_none (by rw [List.length_set]; omega)] at hv
        cases hv
    rw [List.getElem?_set_ne (Ne.symm e1)] at hv
    refine ⟨e1, ?_⟩
    by_cases e2 : i = iq
    · subst e2
      refine .inl ⟨rfl, ?_⟩
      by_cases hlt : i < (z3.env.map dq).length
      · rw [List.getElem?_set_self hlt] at hv
        cases hv
        rfl
      · rw [List.getElem?_eq_none (by rw [List.length_set]; omega)] at hv
        cases hv
    · rw [List.getElem?_set_ne (Ne.symm e2)] at hv
      exact .inr ⟨e2, hv⟩
  have rel : Rel X.K T st F0 H0 (unch F3 H') H' σ' { env := ((z3.env.map dq).set iq (.bs true (.tup tq))).set iy .un, n := z3.n } := by
    refine ⟨⟨fun c o h => (unch_sub h).2, fun c ps h => r3.ok.nt c ps (unch_sub h).1, fun c o h => ?_, fun c o h => ?_, fun c o h0 hs hn => keepH c o h0 (keep3 c o h0 hs hn) hn, fun sp h => ⟨?_, ?_⟩, s.tabs⟩, by rw [hlen, r3.len]; simp, fun i dd hi => ?_, fun i o hi => ?_, fun i l o o' c hil hi hl => ?_, fun i kk dd hi => ?_⟩
    · have hn : ∀ ps, o ≠ .tbl ps := fun ps e => o0.nt c ps (by rw [h, e])
      have hs : st ≠ some c := fun e => by
        have := (o0.strm c e).1
        rw [h] at this
        cases this
      have h0 := o0.sub c o h
      exact unch_of (sF3 _ _ (r.ok.f0 c o h)) (keepH c o h0 (keep3 c o h0 hs hn) hn)
    · rcases r3.ok.new c o (unch_sub h).1 with q | q
      · exact r.ok.new c o q
      · exact .inr (r.ok.fr q)
    · cases e : unch F3 H' sp with
      | none => rfl
      | some o =>
        have := (unch_sub e).1
        rw [(r3.ok.strm sp h).1] at this
        cases this
    · obtain ⟨z0, z1', z2', e3, e4⟩ := (r3.ok.strm sp h).2
      obtain ⟨y0, y1, y2, e5, _⟩ := (o0.strm sp h).2
      refine StrmOk.at ⟨z0, z1', z2', e3, e4⟩ ?_
      rcases s.keep sp _ e3 (fun ps q => by cases q) with q | ⟨q, _⟩
      · rw [q, e3]
      · exact absurd rfl (q.1.ne e5 (fun ps q => by cases q))
    · obtain ⟨e1, ⟨rfl, q⟩ | ⟨e2, q⟩⟩ := get hi nofun
      · cases q
      · obtain ⟨x, hx, q⟩ := map_some q
        rw [hσ i e1]
        cases x with
        | un => cases q
        | ow => cases q
        | sh d0 =>
          cases d0 <;> cases q
          obtain ⟨v, h1, h2⟩ := r3.sh i _ hx
          cases h2
          exact ⟨_, h1, .v _⟩
        | bs kk d0 =>
          cases kk with
          | false => cases q
          | true =>
            cases d0 <;> cases q
            obtain ⟨v, h1, h2⟩ := r3.bs i _ _ hx
            have h2 : Rep X.K F _ v := h2
            cases h2
            exact ⟨_, h1, .v _⟩
    · obtain ⟨e1, ⟨rfl, q⟩ | ⟨e2, q⟩⟩ := get hi nofun
      · cases q
      · obtain ⟨x, hx, q⟩ := map_some q
        cases x with
        | un => cases q
        | ow => cases q
        | sh d0 => cases d0 <;> cases q
        | bs kk d0 =>
          cases kk with
          | false => cases q
          | true => cases d0 <;> cases q
    · obtain ⟨e1, ⟨rfl, q⟩ | ⟨e2, q⟩⟩ := get hi nofun
      · cases q
      · obtain ⟨x, hx, q⟩ := map_some q
        cases x with
        | un => cases q
        | ow => cases q
        | sh d0 => cases d0 <;> cases q
        | bs kk d0 =>
          cases kk with
          | false => cases q
          | true => cases d0 <;> cases q
    · obtain ⟨e1, ⟨rfl, q⟩ | ⟨e2, q⟩⟩ := get hi nofun
      · cases q
        exact ⟨_, by rw [hσ i e1]; exact eb, rq⟩
      · obtain ⟨x, hx, q⟩ := map_some q
        rw [hσ i e1]
        cases x with
        | un => cases q
        | ow => cases q
        | sh d0 => cases d0 <;> cases q
        | bs kk d0 =>
          cases kk with
          | false =>
            cases q
            obtain ⟨v, h1, h2⟩ := r3.bs i _ _ hx
            have h2 : RepN X.K F3 H _ v := h2
            exact ⟨_, h1, DLt.RepN.re nl nw (fun c q => r.ok.fr q) h2⟩
          | true => cases d0 <;> cases q
  exact qp st F0 H0 _ H' σ' _ De EQ D' ⟨n0, o0⟩ rel er g3 k
end
end DLt
end

section
set_option Elab.async false
set_option linter.all false
set_option maxRecDepth 100000
set_option maxHeartbeats 4000000
/-! DL49: C(k3 = .., k2 = .., k1 = ..), pinned slots of the base. -/
namespace DLt
open PySem PySem.Spec PyProof.Rows L2 DL
theorem vals_app {a b : List V} {x y : List Value} (h : Vals a x) (h2 : Vals b y) : Vals (a ++ b) (x ++ y) := by
  induction h with
  | nil => exact h2
  | cons r _ ih => exact .cons r ih
theorem vals_rev {a : List V} {x : List Value} (h : Vals a x) : Vals a.reverse x.reverse := by
  induction h with
  | nil => exact .nil
  | cons r _ ih => rw [List.reverse_cons, List.reverse_cons]; exact vals_app ih (.cons r .nil)
/-- a class whose __init__ makes new trees of all fields, called by its parameters' names, the last one first -/
structure ClK (P : Program) (w : World) (K : PySem.W.Frag) (T : List (Addr × Str)) (mg : Str → Option Value) (base : Heap) (k : Nat) (x : Str) (C : Addr) (ps ks : List Str) (sp : ISpec) : Prop where
  ex : ∃ (f : Addr) (fd : FuncData), FnOk P w K mg base (L2.CX P w) k f fd ps (toIf K T C sp) ∧ KBn K fd ps 1 ks (fun us ws => us ++ ws.reverse) (fun vs zs => vs ++ zs.reverse) ∧ Mk K C f ∧ mg x = some (.ref C)
section
variable {P : Program} {w : World} {K : PySem.W.Frag} {T : List (Addr × Str)} {mg : Str → Option Value} {base : Heap}
theorem mkInitFK {C : Addr} {x qual : Str} {st : Stmt} {N ps : List Str} {y : Str} {k : Nat} {sp : ISpec} {m : TDI} (F : InitAt K mg x C qual st) (S : FnScope N (y :: ps) (defScope st))
    (hb : ∀ (kV doc pm : Value) (an : Option Addr) (cdv ct u : Value) (ws : List Value), ws.length = ps.reverse.length → bindArgs (PySem.W.fnOf "__init__" qual (defArgs st) (defBody st) (defScope st) .none kV doc pm an cdv ct) ⟨[u], ps.reverse.zip ws⟩ = pure ((y :: ps).zip (u :: ws.reverse)))
    (len : ∀ s n ds Q EQ, sp s n ds Q EQ → ds.length = ps.length)
    (hbody : ∀ (f : Addr) (cdv : Value) (A : Around) (outer : List Env) (s : Shared) (H : Hp) (E : XK), Room k (A.deeper (envOfC qual (defScope st) s.heap.objs.size f cdv)) → DIn T (cxOf (L2.CX P w) P w K mg base N qual (defScope st) f cdv A outer s H E) E C (defBody st) m)
    (hsp : ∀ s n ds Q EQ, sp s n ds Q EQ → m s [] ⟨.un :: (ds.map DV.sh ++ List.replicate (N.length - (ds.length + 1)) .un), n⟩ Q EQ) :
    ClK P w K T mg base (k + 1) x C (y :: ps) ps.reverse sp := by
  obtain ⟨f, fd, F, M, hm⟩ := F
  refine ⟨f, fd, init_okF F S len (hbody f) hsp, ?_, M, hm⟩
  obtain ⟨oc2, od2, kV, doc, pm, an, cdv, ct, osl2, e2, lk2, _⟩ := F.ex
  subst e2
  refine ⟨fun s us ws _ h0 h2 => ?_, fun r r2 => vals_app r (vals_rev r2)⟩
  match us, h0 with
  | [u], _ => exact .of_eq (hb kV doc pm an cdv ct u ws h2)
end
section
variable {T : List (Addr × Str)} {X : Cx} {E : XK} {e a b : Expr} {pos p : Pos} {me : TDE} {mas : TDA} {k j : Nat} {x y : Str} {ps ks : List Str}
@[reducible, simp] def mMakeK (C : Addr) (n : Nat) (sp : ISpec) (ma : TDA) : TDE := fun st z Q EQ => ma st z (fun ds z1 => ds.length = n ∧ sp st z1.n ds.reverse (fun fs n' => Q (.ins C fs) { z1 with n := n' }) EQ) EQ
theorem dfr_makeKw {C : Addr} {sp : ISpec} {kws : List Keyword} (c : ClK X.prog X.w X.K T X.mg X.base k x C ps ks sp) (hr : Room j X.A) (hk : k + 1 ≤ j) (hg : Gl X x) (hx : Passes (L2.CX X.prog X.w) X E) (ha : DK T X E kws mas)
    (hall : (backToKw pos (keywordEach kws X.env)).all (·.1.isSome) = true := by rfl) (hks : (backToKw pos (keywordEach kws X.env)).filterMap (·.1) = ks := by rfl) (hdb : (x == ("__debug__" : Str)) = false := by decide)
    (hpl : ((backTo pos (starEach [] X.env)).any (·.1) || (backToKw pos (keywordEach kws X.env)).any (·.1.isNone)) = false := by rfl) : DFr T X E (.Call (.Name x p) [] kws pos) (mMakeK C ks.length sp mas) := by
  obtain ⟨f, fd, F, hb, M, hm⟩ := c.ex
  obtain ⟨ta, pa, qa⟩ := ha.ex
  refine ⟨⟨_, pe_makeK0 M F (hr.mono hk) hg hm hb hx pa hall hks hdb hpl, fun st F0 H0 F H σ z Q EQ R r er h k => ?_⟩⟩
  refine qa st F0 H0 F H σ z _ EQ _ r er h fun vs H1 F1 ds z1 s1 r1 p1 h1 => ⟨rfl, by rw [← p1.length]; exact h1.1, fun x dx hx hdx hne => ?_⟩
  obtain ⟨_, h1⟩ := h1
  refine ⟨H1, x, dx, vs.reverse, rfl, hx, hdx, hne, rfl, F1, st, z1.n, ds.reverse, _, EQ, r1.ok.refl', p1.reverse, h1, fun H2 F2 fs n' ok w hf q => ⟨rfl, ?_⟩, er.after r1.ok⟩
  obtain ⟨dx', es', hx2, hk, rs⟩ := w
  have r2 := r1.after ok
  have h0 : Fr H0 x := r1.ok.fr (.of hx)
  have ss2 : Same F2 (upd F2 x (.ins C dx' es')) := fun b v hb => by rw [upd_ne (ne_of_none hb hf)]; exact hb
  have r3 : Rel X.K T st F0 H0 (upd F2 x (.ins C dx' es')) H2 σ { z1 with n := n' } := by
    have hst : st ≠ some x := fun q => by
      obtain ⟨g1, z0, g2⟩ := r1.ok.strm x q
      exact (r1.ok.strm x q).2.some hx
    have own : ∀ (i : Nat) (o : DL.D), z1.env[i]? = some (DV.ow o) → ∀ a : Addr, σ[i]? = some (some (V.ref a)) → a ≠ x := fun i o hi a ha e => by
      obtain ⟨a', h1, w⟩ := r1.ow i o hi
      rw [ha] at h1
      cases h1
      obtain ⟨u, hu, _⟩ := w.ho
      rw [e, hx] at hu
      cases hu
    refine ⟨r2.ok.frz hx2 hf h0 hst (fun ps q => by cases q), r2.len, fun i d hi => ?_, fun i o hi => ?_, r2.apart, fun i kk d hi => ?_⟩
    · obtain ⟨v, g1, g2⟩ := r2.sh i d hi
      exact ⟨v, g1, g2.mono ss2⟩
    · obtain ⟨a, g1, w⟩ := r2.ow i o hi
      have ne := own i o hi a g1
      exact ⟨a, g1, ⟨let ⟨u, hu, c⟩ := w.ho; ⟨u, hu, c.mono ss2⟩, by rw [upd_ne ne]; exact w.f, w.h0, w.st, w.pin⟩⟩
    · obtain ⟨v, g1, g2⟩ := r2.bs i kk d hi
      exact ⟨v, g1, g2.mono ss2⟩
  exact k _ H2 _ _ _ ((s1.trans ok.f0).trans ss2) r3 (.ins upd_same h0 hk (rs.mono ss2 fun b _ _ q => r1.ok.fr q)) q
/-- a pinned slot of the base, the pin left out -/
@[reducible, simp] def mVarP (i : Nat) : TDE := fun _ z Q _ => ∃ a d, z.env[i]? = some (.bs true (.at a d)) ∧ Q d z
theorem de_varP (i : Nat) (hN : X.N[i]? = some x := by rfl) (hv : Vis X.env.scope x := by first | exact Or.inl rfl | exact Or.inr (Or.inl rfl) | exact Or.inr (Or.inr rfl)) (hd : (x == ("__debug__" : Str)) = false := by decide)
    (hcd : (x == ("__classdict__" : Str)) = false := by decide) : DE T X E (.Name x pos) (mVarP i) := by
  refine ⟨⟨_, pe_var hN hv hd hcd, fun st F0 H0 F H σ z Q EQ R r er h k => ?_⟩⟩
  obtain ⟨a, d, hz, h2⟩ := h
  obtain ⟨v, hv1, hv2⟩ := r.bs i _ _ hz
  have hv2 : Rep X.K F0 (.at a d) v := hv2
  refine ⟨v, hv1, k _ H F _ z (Same.refl F) r ?_ h2⟩
  cases hv2 with
  | «at» h => exact h.mono r.ok.f0
end
end DLt
end

section
set_option Elab.async false
set_option linter.all false
set_option maxRecDepth 100000
set_option maxHeartbeats 4000000
namespace K01
open PySem PySem.Spec PyProof.Rows L2 DL
section
variable {P : Program} {w : World} {K : PySem.W.Frag} {T : List (Addr × Str)} {mg : Str → Option Value} {base : Heap} {a : Ad}
theorem sc__law_late : FnScope ["thing", "part"] ["thing"] (defScope (topS 41)) := ⟨rfl, rfl, rfl, by decide +kernel, rfl, by decide +kernel, by decide +kernel⟩
theorem bd__law_late : BindsH "_law_late" (topS 41) ["thing"] := fun _ _ _ _ _ _ us hl => match us, hl with | [_], _ => rfl
theorem f_late0 (B : BF P K mg a) (wd : Nat) : DLt.FnSp P w K T mg base 1 "_law_late" wd 0 := by
  obtain ⟨f, fd, F, hm⟩ := B._law_late
  refine ⟨f, fd, F.okX sc__law_late (fun vs H Q E h => by obtain ⟨_, _, _, _, rfl, _⟩ := h; rfl) (fun cdv A outer s H vs Q E hr h => ⟨_, pss_cons (ps_if (DT.ty (T := T) (E := E) (dt_val (de_isT (ts := ["list", "tuple"]) (by rfl) B.isinstance (de_var 0) (pa_cons (pe_ty (by rfl) B.list) (pa_cons (pe_ty (by rfl) B.tuple) pa_nil)) (fun _ _ _ h => h)))) pss_never pss_nil) (pss_one (ps_if (DT.ty (T := T) (E := E) (dt_val (de_is1 (by rfl) B.isinstance (by rfl) B.list (de_var 0)))) (pss_one (ps_expr (pe_bm PySem.F.plainAttrs_list PySem.F.slot_list_append PySem.F.type_list_append mt_append (pe_var (i := 0) rfl (by first | exact Or.inl rfl | exact Or.inr (Or.inl rfl) | exact Or.inr (Or.inr rfl))) (pa_cons pe_str pa_nil)) (by rfl))) pss_nil)), ?_⟩), hm, F.kp, F.binds bd__law_late⟩
  have h0 := h
  obtain ⟨v, _, _, _, rfl, hs, _⟩ := h0
  exact DLt.spoil_sc h hs
theorem f_late1 (B : BF P K mg a) (wd k d : Nat) (c : DLt.FnSp P w K T mg base k "_law_late" wd d) : DLt.FnSp P w K T mg base (k + 1) "_law_late" wd (d + 1) := by
  obtain ⟨f, fd, F, hm⟩ := B._law_late
  obtain ⟨f', fd', F', hm', hkp, hb⟩ := c
  refine ⟨f, fd, F.okX sc__law_late (fun vs H Q E h => by obtain ⟨_, _, _, _, rfl, _⟩ := h; rfl) (fun cdv A outer s H vs Q E hr h => ⟨_, pss_cons (ps_if (DT.ty (T := T) (E := E) (dt_val (de_isT (ts := ["list", "tuple"]) (by rfl) B.isinstance (de_var 0) (pa_cons (pe_ty (by rfl) B.list) (pa_cons (pe_ty (by rfl) B.tuple) pa_nil)) (fun _ _ _ h => h)))) (pss_one (ps_for ownX (by rfl) (thnPI (pe_var (i := 0) rfl (by first | exact Or.inl rfl | exact Or.inr (Or.inl rfl) | exact Or.inr (Or.inr rfl)))) (pg_name (i := 1) sc__law_late.nd (by rfl) (by first | exact Or.inl rfl | exact Or.inr rfl)) (pss_one (ps_expr (pe_call F' hr (by rfl) hm' hkp hb .nil passX (pa_cons (pe_var (i := 1) rfl (by first | exact Or.inl rfl | exact Or.inr (Or.inl rfl) | exact Or.inr (Or.inr rfl))) pa_nil)) (by rfl))))) pss_nil) (pss_one (ps_if (DT.ty (T := T) (E := E) (dt_val (de_is1 (by rfl) B.isinstance (by rfl) B.list (de_var 0)))) (pss_one (ps_expr (pe_bm PySem.F.plainAttrs_list PySem.F.slot_list_append PySem.F.type_list_append mt_append (pe_var (i := 0) rfl (by first | exact Or.inl rfl | exact Or.inr (Or.inl rfl) | exact Or.inr (Or.inr rfl))) (pa_cons pe_str pa_nil)) (by rfl))) pss_nil)), ?_⟩), hm, F.kp, F.binds bd__law_late⟩
  have h0 := h
  obtain ⟨v, _, _, _, rfl, _⟩ := h0
  exact DLt.spoil_ok (n := 2) (by decide) (by decide) h
theorem f_late (B : BF P K mg a) (wd : Nat) : ∀ d, DLt.FnSp P w K T mg base (d + 1) "_law_late" wd d
  | 0 => f_late0 B wd
  | d + 1 => f_late1 B wd (d + 1) d (f_late B wd d)
end
end K01
end

section
set_option Elab.async false
set_option linter.all false
set_option maxRecDepth 100000
set_option maxHeartbeats 4000000
/-! DL50: x = [e]; x.extend(e'), new trees all of them. -/
namespace DLt
open PySem PySem.Spec PyProof.Rows L2 DL
section
variable {T : List (Addr × Str)} {X : Cx} {E : XK} {e0 e1 : Expr} {ss : List Stmt} {m0 m1 : TDE} {ms : TDS} {pos p p' p0 pos2 apos cpos : Pos} {x : Str}
@[reducible, simp] def bLE (i : Nat) (m0 m1 : TDE) (ms : TDS) : TDS := fun st De z EQ => m0 st z (fun d z1 => i < z1.env.length ∧ ∀ v0 : V, m1 st (z1.put i (.ow (.lst [.v v0]))) (fun d' z2 => ∃ ds : List D, d' = .lst ds ∧ ds.length < 900000 ∧ z2.env[i]? = some (.ow (.lst [.v v0])) ∧ ms st De (z2.put i (.bs false (.lst (d :: ds)))) EQ) EQ) EQ
theorem dbd_le (i : Nat) (hN : X.N.Nodup) (he0 : DFr T X E e0 m0) (he1 : DFr T X E e1 m1) (h2 : DBd T X E ss ms)
    (hi : X.N[i]? = some x := by rfl) (hx : Loc X.env.scope x := by first | exact Or.inl rfl | exact Or.inr rfl) (hs : swapsWith (.List [e0] p0) (some (.Name x p')) pos.line X.env = pure false := by rfl) (hf : X.fn x = true ∨ X.env.scope.names.lookup x = some .local := by first | exact .inl rfl | exact .inr rfl)
    (hs2 : swapsWith (.Call (.Attribute (.Name x p) "extend" apos) [e1] [] cpos) none pos2.line X.env = pure false := by rfl)
    (hst : starEach [e0] X.env = (false, eval e0 X.env) :: starEach [] X.env := by rfl)
    (hpa : ∀ {t : TE}, PE X e1 t → PE X (.Call (.Attribute (.Name x p) "extend" apos) [e1] [] cpos) (tBM X.K "list" rExtend (tVar i) (tCons t tNil))) :
    DBd T X E (.Assign [.Name x p'] (.List [e0] p0) pos :: .Expr (.Call (.Attribute (.Name x p) "extend" apos) [e1] [] cpos) pos2 :: ss) (bLE i m0 m1 ms) := by
  obtain ⟨t0, q0, c0⟩ := he0.ex
  obtain ⟨t1, q1, c1⟩ := he1.ex
  obtain ⟨t2, q2, c2⟩ := h2.ex
  refine ⟨⟨_, pss_cons (ps_set hN hi hx (pe_lst (pa_cons q0 pa_nil hst)) hs hf) (pss_cons (ps_expr (hpa q1) hs2) q2), fun st F0 H0 F H σ z De EQ D' b0 r er h k => ?_⟩⟩
  refine c0 st F0 H0 F H σ z _ EQ _ r er h fun v0 H1 F1 d z1 s1 r1 p1 g1 => ?_
  refine ⟨size_ok (by simp), fun a ha => ?_⟩
  obtain ⟨r2, w⟩ := r1.laid ha (Cell.lst (.cons (.v v0) .nil))
  have r3 := r2.setN (i := i) w
  obtain ⟨hlt, g1⟩ := g1
  have ea : (σ.set i (some (V.ref a)))[i]? = some (some (.ref a)) := List.getElem?_set_self (by rw [r1.len]; exact hlt)
  have ha2 : (upd H1 a (.lst [v0])) a = some (.lst [v0]) := upd_same
  refine ⟨.ref a, ea, .inl ⟨rfl, _, SqL.of ha2⟩, ?_⟩
  refine c1 st F0 H0 F1 _ _ _ _ EQ _ r3 er (g1 v0) fun v1 H2 F2 d' z2 s2 r4 p2 g2 => ?_
  obtain ⟨ds, rfl, hl, hz2, g3⟩ := g2
  obtain ⟨a2, xs2, e2, hu2, rr⟩ := ow_lst r4 hz2
  rw [ea] at e2
  have ea2 : a = a2 := by cases e2; rfl
  subst ea2
  have ex : xs2 = [v0] := by
    cases rr with
    | cons h t => cases h; cases t; rfl
  subst ex
  cases p2 with
  | @lst b ys _ hf2 ff rs =>
    have hlen := rs.len
    refine ⟨a, _, [v0], ys, rfl, rfl, hu2, r4.ok.sub _ _ hf2, size_ok (by simp; omega), ?_⟩
    have r5 := r4.put hz2 ea (.lst ((Reps.cons (.v v0) .nil).append (Reps.ofV ys)))
    have hz5 : ({ z2 with env := z2.env.set i (.ow (.lst ([.v v0] ++ ys.map D.v))) } : Z).env[i]? = some (.ow (.lst ([.v v0] ++ ys.map D.v))) := List.getElem?_set_self (List.getElem?_eq_some_iff.mp hz2).1
    obtain ⟨b2, e5, ow5⟩ := r5.ow i _ hz5
    obtain ⟨F3, a3, s3, r6, e6, q6⟩ := r5.read hz5
    rw [ea] at e5 e6
    have e5 : b2 = a := by cases e5; rfl
    have e6 : a3 = a := by cases e6; rfl
    subst e5 e6
    have rp : RepN X.K F3 H0 (.lst (d :: ds)) (.ref a3) := by
      cases q6 with
      | lst h r =>
        have := Reps.toV (vs := v0 :: ys) r
        subst this
        exact .lst h ow5.h0 (.cons (p1.mono (s2.trans s3) (fun _ _ _ h => h)) (rs.mono s3 (fun _ _ _ h => h)))
    have r7 := r6.setB (i := i) rp
    have eσ : (σ.set i (some (V.ref a3))).set i (some (V.ref a3)) = σ.set i (some (V.ref a3)) := by rw [List.set_set]
    rw [eσ] at r7
    have ez : ({ env := (z2.env.set i (.ow (.lst ([.v v0] ++ ys.map D.v)))).set i (.sh (.lst ([.v v0] ++ ys.map D.v))), n := z2.n } : Z).env.set i (.bs false (.lst (d :: ds))) = z2.env.set i (.bs false (.lst (d :: ds))) := by
      simp
    have r8 : Rel X.K T st F0 H0 F3 (upd H2 a3 (.lst ([v0] ++ ys))) (σ.set i (some (V.ref a3))) (z2.put i (.bs false (.lst (d :: ds)))) := by
      have r7 := r7
      simp only [List.set_set] at r7
      exact r7
    exact c2 st F0 H0 F3 _ _ _ De EQ D' b0 r8 er g3 k
end
end DLt
end

section
set_option Elab.async false
set_option linter.all false
set_option maxRecDepth 100000
set_option maxHeartbeats 4000000
/-! DL51: what is passed loosely can be shown, compared, spoiled as well as what it stands for. -/
namespace DLt
open PySem PySem.Spec PyProof.Rows L2 DL
mutual
theorem loose_rp : ∀ {d e : D}, Loose d e → (PyData.showable (pyD e) = PyData.showable (pyD d) ∧ PyData.intsShort 13 (pyD e) = PyData.intsShort 13 (pyD d) ∧ PyData.weight (pyD e) = PyData.weight (pyD d)) ∧ plainD e = plainD d ∧ (pyD e).canLay0 = (pyD d).canLay0 ∧ (pyD e).depth = (pyD d).depth
  | _, _, .v x => ⟨⟨rfl, rfl, rfl⟩, rfl, rfl, rfl⟩
  | _, _, .ll h => by
    obtain ⟨⟨a1, a2, a3⟩, a4, a5, a6⟩ := looses_rp h
    simp only [pyD, PyData.showable, PyData.intsShort, PyData.weight, plainD, PyData.canLay0, PyData.depth, a1, a2, a3, a4, a5, a6, and_self]
  | _, _, .lt h => by
    obtain ⟨⟨a1, a2, a3⟩, a4, a5, a6⟩ := looses_rp h
    simp only [pyD, PyData.showable, PyData.intsShort, PyData.weight, plainD, PyData.canLay0, PyData.depth, a1, a2, a3, a4, a5, a6, and_self]
  | _, _, .tl h => by
    obtain ⟨⟨a1, a2, a3⟩, a4, a5, a6⟩ := looses_rp h
    simp only [pyD, PyData.showable, PyData.intsShort, PyData.weight, plainD, PyData.canLay0, PyData.depth, a1, a2, a3, a4, a5, a6, and_self]
  | _, _, .tt h => by
    obtain ⟨⟨a1, a2, a3⟩, a4, a5, a6⟩ := looses_rp h
    simp only [pyD, PyData.showable, PyData.intsShort, PyData.weight, plainD, PyData.canLay0, PyData.depth, a1, a2, a3, a4, a5, a6, and_self]
theorem looses_rp : ∀ {ds es : List D}, Looses ds es → (PyData.showableAll (pyDs es) = PyData.showableAll (pyDs ds) ∧ PyData.intsShortAll 13 (pyDs es) = PyData.intsShortAll 13 (pyDs ds) ∧ PyData.weightAll (pyDs es) = PyData.weightAll (pyDs ds)) ∧ plainDs es = plainDs ds ∧ PyData.canLayAll0 (pyDs es) = PyData.canLayAll0 (pyDs ds) ∧ PyData.depthAll (pyDs es) = PyData.depthAll (pyDs ds)
  | _, _, .nil => ⟨⟨rfl, rfl, rfl⟩, rfl, rfl, rfl⟩
  | _, _, .cons h t => by
    obtain ⟨⟨b1, b2, b3⟩, b4, b5, b6⟩ := loose_rp h
    obtain ⟨⟨a1, a2, a3⟩, a4, a5, a6⟩ := looses_rp t
    simp only [pyDs, PyData.showableAll, PyData.intsShortAll, PyData.weightAll, plainDs, PyData.canLayAll0, PyData.depthAll, a1, a2, a3, a4, a5, a6, b1, b2, b3, b4, b5, b6, and_self]
end
theorem RpD.loose {w : Nat} {d e : D} (h : RpD w d) (l : Loose d e) : RpD w e := by
  obtain ⟨⟨a1, a2, a3⟩, _⟩ := loose_rp l
  exact ⟨a1 ▸ h.sh, a2 ▸ h.sm, a3 ▸ h.wt⟩
theorem ShD.loose {k : Nat} {d e : D} (h : ShD k d) (l : Loose d e) : ShD k e := by
  obtain ⟨_, a4, a5, a6⟩ := loose_rp l
  exact ⟨a4 ▸ h.1, a5 ▸ h.2.1, a6 ▸ h.2.2⟩
theorem looses_mem : ∀ {ds es : List D}, Looses ds es → ∀ e ∈ es, ∃ d ∈ ds, Loose d e
  | _, _, .nil, e, h => by cases h
  | _, _, .cons (d := d) h t, e, he => by
    rcases List.mem_cons.mp he with rfl | he
    · exact ⟨d, List.mem_cons_self .., h⟩
    · obtain ⟨d', hd, l⟩ := looses_mem t e he
      exact ⟨d', List.mem_cons_of_mem _ hd, l⟩
theorem looses_ln : ∀ {ds es : List D}, Looses ds es → es.length = ds.length
  | _, _, .nil => rfl
  | _, _, .cons _ t => congrArg (· + 1) (looses_ln t)
theorem SpD.loose {w : Nat} : ∀ {k : Nat} {d e : D}, SpD w k d → Loose d e → SpD w k e
  | 0, _, _, ⟨x, rfl, hx⟩, l => by cases l; exact ⟨x, rfl, hx⟩
  | k + 1, _, _, .inl ⟨x, rfl, hx⟩, l => by cases l; exact .inl ⟨x, rfl, hx⟩
  | k + 1, _, _, .inr ⟨ds, e, hl, hd⟩, l => by
    have go : ∀ {es : List D}, Looses ds es → es.length ≤ w ∧ ∀ e ∈ es, SpD w k e := fun h => ⟨by rw [looses_ln h]; exact hl, fun e he => by
      obtain ⟨d, hdm, lo⟩ := looses_mem h e he
      exact SpD.loose (hd d hdm) lo⟩
    rcases e with rfl | rfl
    · cases l with
      | ll h => exact .inr ⟨_, .inl rfl, (go h).1, (go h).2⟩
      | lt h => exact .inr ⟨_, .inr rfl, (go h).1, (go h).2⟩
    · cases l with
      | tl h => exact .inr ⟨_, .inl rfl, (go h).1, (go h).2⟩
      | tt h => exact .inr ⟨_, .inr rfl, (go h).1, (go h).2⟩
theorem SpD.lift {w : Nat} : ∀ {k : Nat} {d : D}, SpD w k d → SpD w (k + 1) d
  | 0, _, ⟨x, e, hx⟩ => .inl ⟨x, e, hx⟩
  | k + 1, _, .inl h => .inl h
  | k + 1, _, .inr ⟨ds, e, hl, hd⟩ => .inr ⟨ds, e, hl, fun d hm => SpD.lift (hd d hm)⟩
end DLt
end

section
set_option Elab.async false
set_option linter.all false
set_option maxRecDepth 100000
set_option maxHeartbeats 4000000
namespace K01
open PySem PySem.Spec PyProof.Rows L2 DL

theorem hu66 {k : Nat} {A : Around} (r : Room k A) : A.units + 66 < cLine := by have := r.un; omega
theorem sm_str (j : Nat) (x : Str) : Sm (j + 1) (strD x) := .inr (.inl ⟨x, rfl⟩)
theorem sm_bl (j : Nat) (x : Bool) : Sm (j + 1) (blD x) := .inr (.inr (.inl ⟨x, rfl⟩))
theorem sm_int (j : Nat) (x : Int) : Sm (j + 1) (iD x) := .inr (.inr (.inr (.inl ⟨x, rfl⟩)))
theorem sm_lst {j : Nat} {ds : List D} (hl : ds.length ≤ 1000) (h : ∀ e ∈ ds, Sm j e) : Sm (j + 1) (.lst ds) := .inr (.inr (.inr (.inr ⟨ds, .inl rfl, hl, h⟩)))
theorem sm_tup {j : Nat} {ds : List D} (hl : ds.length ≤ 1000) (h : ∀ e ∈ ds, Sm j e) : Sm (j + 1) (.tup ds) := .inr (.inr (.inr (.inr ⟨ds, .inr rfl, hl, h⟩)))
theorem sm_lit (j : Nat) (p : Str × Bool) : Sm (j + 2) (litD p) := sm_tup (by simp) fun e he => by
  simp at he
  rcases he with rfl | rfl
  · exact sm_str _ _
  · exact sm_bl _ _
theorem sm_cl (j : Nat) (c : Cl) (h : c.length ≤ 1000) : Sm (j + 3) (clD c) := sm_lst (by simpa using h) fun e he => by
  obtain ⟨p, _, rfl⟩ := List.mem_map.mp he
  exact sm_lit _ p
theorem sm_mark (j : Nat) (p : Str × Hand) : Sm (j + 3) (markD p) := sm_tup (by simp) fun e he => by
  simp only [List.mem_cons, List.not_mem_nil, or_false] at he
  rcases he with rfl | rfl
  · exact sm_str _ _
  · cases p.2 with
    | we => exact sm_str _ _
    | they => exact sm_str _ _
    | ch i k =>
      refine sm_tup (by simp) fun e he => ?_
      simp at he
      rcases he with rfl | rfl
      · exact sm_int _ _
      · exact sm_int _ _
theorem sm_cls (j : Nat) (cs : List Cl) (h : ∀ c ∈ cs, c.length ≤ 1000) (hl : cs.length ≤ 1000) : Sm (j + 4) (.lst (cs.map clD)) := sm_lst (by simpa using hl) fun e he => by
  obtain ⟨c, hc, rfl⟩ := List.mem_map.mp he
  exact sm_cl _ c (h c hc)
theorem sm_raw (j : Nat) {q : Qn} (few : Few q) : Sm (j + 5) (rawD q) := sm_tup (by simp) fun e he => by
  have hm := few.m
  have hw := few.w
  have hg := few.g
  simp only [List.mem_cons, List.not_mem_nil, or_false] at he
  rcases he with rfl | rfl | rfl
  · refine sm_lst (by rw [List.length_map]; omega) fun e he => ?_
    obtain ⟨p, _, rfl⟩ := List.mem_map.mp he
    exact sm_mark _ p
  · exact sm_cls _ _ (fun c hc => by have := few.cl (.inl hc); omega) (by omega)
  · exact sm_cls _ _ (fun c hc => by have := few.cl (.inr hc); omega) (by omega)
theorem mCut {m : TDE} {st : Option Addr} {z : Z} {EQ : TEX} {KK : D → Z → Prop} (I : D → Z → Prop) (h0 : ∀ R : D → Z → Prop, (∀ d z1, I d z1 → R d z1) → m st z R EQ) (h1 : ∀ d z1, I d z1 → KK d z1) : m st z KK EQ := h0 _ h1
theorem sCut {m : TDS} {st : Option Addr} {z : Z} {EQ : TEX} {R : Res → Nat → Prop} {C0 : Z → Prop} (I : Z → Prop) (h0 : ∀ C : Z → Prop, (∀ z1, I z1 → C z1) → m st { nx := C, rt := R } z EQ) (h1 : ∀ z1, I z1 → C0 z1) : m st { nx := C0, rt := R } z EQ := h0 _ h1
/-! what may be spoiled -/
theorem sp_sc {x : V} (h : ScV x) : ∀ k, DL.SpD 20 k (.v x)
  | 0 => ⟨x, rfl, h⟩
  | _ + 1 => .inl ⟨x, rfl, h⟩
theorem sp_str (k : Nat) (x : Str) : DL.SpD 20 k (strD x) := sp_sc (show ScV (.str x) from True.intro) k
theorem sp_bl (k : Nat) (x : Bool) : DL.SpD 20 k (blD x) := sp_sc (show ScV (.bl x) from True.intro) k
theorem sp_int (k : Nat) (x : Int) : DL.SpD 20 k (iD x) := sp_sc (show ScV (.int x) from True.intro) k
theorem sp_lit (p : Str × Bool) : DL.SpD 20 1 (litD p) := .inr ⟨_, .inr rfl, by simp, fun e he => by
  simp at he
  rcases he with rfl | rfl
  · exact sp_str 0 _
  · exact sp_bl 0 _⟩
theorem sp_cl (c : Cl) (h : c.length ≤ 16) : DL.SpD 20 2 (clD c) := .inr ⟨_, .inl rfl, by simp; omega, fun e he => by
  obtain ⟨p, _, rfl⟩ := List.mem_map.mp he
  exact sp_lit p⟩
theorem sp_cls (cs : List Cl) (h : ∀ c ∈ cs, c.length ≤ 16) (hl : cs.length ≤ 20) : DL.SpD 20 3 (.lst (cs.map clD)) := .inr ⟨_, .inl rfl, by simpa using hl, fun e he => by
  obtain ⟨c, hc, rfl⟩ := List.mem_map.mp he
  exact sp_cl c (h c hc)⟩
theorem sp_mark (p : Str × Hand) : DL.SpD 20 2 (markD p) := .inr ⟨_, .inr rfl, by simp, fun e he => by
  simp only [List.mem_cons, List.not_mem_nil, or_false] at he
  rcases he with rfl | rfl
  · exact sp_str 1 _
  · cases p.2 with
    | we => exact sp_str 1 _
    | they => exact sp_str 1 _
    | ch i k => exact .inr ⟨_, .inr rfl, by simp, fun e he => by
        simp at he
        rcases he with rfl | rfl
        · exact sp_int 0 _
        · exact sp_int 0 _⟩⟩
theorem sp_marks (ms : List (Str × Hand)) (hl : ms.length ≤ 16) : DL.SpD 20 3 (.lst (ms.map markD)) := .inr ⟨_, .inl rfl, by simp; omega, fun e he => by
  obtain ⟨p, _, rfl⟩ := List.mem_map.mp he
  exact sp_mark p⟩

section
variable {P : Program} {w : World} {K : PySem.W.Frag} {T : List (Addr × Str)} {mg : Str → Option Value} {base : Heap} {a : Ad}
theorem bk_Q_init : ∀ (kV doc pm : Value) (an : Option Addr) (cdv ct u : Value) (ws : List Value), ws.length = (["marks", "wishes", "guards"] : List Str).reverse.length → bindArgs (PySem.W.fnOf "__init__" "Question.__init__" (defArgs (inClass (topS 20) 0)) (defBody (inClass (topS 20) 0)) (defScope (inClass (topS 20) 0)) .none kV doc pm an cdv ct) ⟨[u], (["marks", "wishes", "guards"] : List Str).reverse.zip ws⟩ = pure ((["self", "marks", "wishes", "guards"] : List Str).zip (u :: ws.reverse)) := fun _ _ _ _ _ _ _ ws hl => match ws, hl with | [_, _, _], _ => rfl
theorem f_Q_initK (B : BQ P K mg a) : DLt.ClK P w K T mg base 6 "Question" a.C ["self", "marks", "wishes", "guards"] ["guards", "wishes", "marks"] (sp_Q_init a) := by
  refine DLt.mkInitFK (ps := ["marks", "wishes", "guards"]) B.q_init sc_Question___init__ bk_Q_init ?_ (fun f cdv A outer s H E hr => (in_cons B.Question.cl B.na_own_marks rfl (dfr_call (f_checked_marks B.toBF) hr (by decide) (by rfl) passX (da_cons (de_var 1) da_nil)) (in_cons B.Question.cl B.na_own_names rfl (dfr_new (dn_comp (ws := [4, 5]) (by rfl) sc_Question___init__.nd (di_seq (de_fld B.Question.cl B.na_own_marks (de_var 0))) (blkOk_by (own := [("name", 4), ("hand", 5)]) (by rfl)) (by decide) (fun _ _ _ _ _ => (dg_tup2 (by rfl) (dg_name 4 sc_Question___init__.nd) (dg_name 5 sc_Question___init__.nd))) (fun _ _ _ _ _ => dts_nil) (fun _ _ _ _ _ => (de_var 4)))) (in_cons B.Question.cl B.na_own_wishes rfl (dfr_call (f_checked_wishes B.toBF) hr (by decide) (by rfl) passX (da_cons (de_fld B.Question.cl B.na_own_names (de_var 0)) (da_cons (de_var 2) da_nil))) (in_cons B.Question.cl B.na_own_guards rfl (dfr_call (f_checked_guards B.toBF) hr (by decide) (by rfl) passX (da_cons (de_fld B.Question.cl B.na_own_names (de_var 0)) (da_cons (de_var 3) da_nil))) in_nil))))) ?_
  · intro s n ds Q EQ h
    dsimp only [sp_Q_init] at h
    obtain ⟨_, _, _, _, rfl, _⟩ := h; rfl
  · intro s n ds Q EQ h
    dsimp only [sp_Q_init] at h
    obtain ⟨d1, d2, d3, o1, rfl, m1, e1, h⟩ := h
    have hms : ∀ ms, o1 = .inr ms → ms.length ≤ 1000 ∧ ∀ p ∈ ms, goodName p.1 ∧ p.2.good = true := fun ms e => by
      cases m1 <;> cases e
      exact ⟨by assumption, by assumption⟩
    refine ⟨d1, o1, rfl, m1, e1, fun ms ho => ?_⟩
    obtain ⟨hl, hg⟩ := hms ms ho
    obtain ⟨o2, m2, e2, h⟩ := h ms ho
    refine ⟨mk_lf ms, no_marks ms, rfl, by simp, ?_⟩
    simp
    refine comp_mapL (fun p => strD p.1) (by omega) (fun p hp R R2 h1 h2 => ?_) ?_
    · refine ⟨(strD p.1, handD p.2), by simp, h2 _ ?_⟩
      exact h1 _ rfl
    have sok : ∀ x ∈ ms.map (·.1), PyData.strOk x = true := fun x hx => by
      obtain ⟨p, hp, rfl⟩ := List.mem_map.mp hx
      exact good_ok (hg p hp).1
    have en : (ms.map fun p => strD p.1) = (ms.map (·.1)).map strD := by simp
    rw [en]
    have lfn := lf_names (ms.map (·.1))
    have non := no_names (ms.map (·.1))
    rw [noI] at non
    refine ⟨lfn, non, by decide, ?_⟩
    simp [-List.map_map]
    refine ⟨_, rfl, _, _, o2, rfl, m2, by simpa using hl, sok, e2, fun ws hw => ?_⟩
    obtain ⟨o3, m3, e3, h⟩ := h ws hw
    have now := no_cls (ws.map (ordered (ms.map (·.1))))
    rw [noI] at now
    refine ⟨trivial, now, ⟨by decide, by decide⟩, ?_⟩
    refine ⟨_, rfl, _, _, o3, rfl, m3, by simpa using hl, sok, e3, fun gs hgs => ?_⟩
    have nog := no_cls (gs.map (ordered (ms.map (·.1))))
    rw [noI] at nog
    exact ⟨trivial, nog, ⟨by decide, by decide, by decide⟩, h gs hgs⟩


theorem sc__law_told_right : FnScope ["stream", "question", "handed", "one", "some", "was", "made", "again"] ["stream", "question"] (defScope (topS 39)) := ⟨rfl, rfl, rfl, by decide +kernel, rfl, by decide +kernel, by decide +kernel⟩
theorem bd__law_told_right : BindsH "_law_told_right" (topS 39) ["stream", "question"] := fun _ _ _ _ _ _ us hl => match us, hl with | [_, _], _ => rfl
def sp__law_told_right : DSpec := fun st n ds Q _ => ∃ (sp : Addr) (q : Qn), st = some sp ∧ ds = [.v (.ref sp), rawD q] ∧ Few q ∧ n + 1500 ≤ 1000000 ∧ ∀ m, n ≤ m → m ≤ n + 1500 → Q (.sh (blD true)) m
theorem f__law_told_right (B : BM P K mg a) : FnR P w K T mg base 12 "_law_told_right" ["stream", "question"] (sp__law_told_right) := by
  refine mkFnR B._law_told_right sc__law_told_right bd__law_told_right ?_ (fun f cdv A outer s H E hg hr => (db_scopeD (DLt.dbd_le 2 sc__law_told_right.nd (dfr_call (f__law_q_loose_at B.toBF 4) hr (by decide) (by rfl) passX (da_cons (de_var 0) (da_cons (de_ix ix_tup p_ixT (de_var 1) de_int) da_nil))) (dfr_comp (ws := [4]) (by rfl) sc__law_told_right.nd (di_seq (de_sliceT (de_var 1) (do_some de_int) do_none)) (blkOk_by (own := [("some", 4)]) (by rfl)) (by decide) (fun _ _ _ _ _ => (dg_name 4 sc__law_told_right.nd)) (fun _ _ _ _ _ => dts_nil) (fun _ _ _ _ _ => (dfr_call (f__law_q_loose_at B.toBF 4) hr (by decide) (by rfl) passL (da_cons (de_var 0) (da_cons (dn_comp (ws := [3]) (by rfl) sc__law_told_right.nd (di_seq (de_var 4)) (blkOk_by (own := [("one", 3)]) (by rfl)) (by decide) (fun _ _ _ _ _ => (dg_name 3 sc__law_told_right.nd)) (fun _ _ _ _ _ => dts_nil) (fun _ _ _ _ _ => (dn_call (f__law_mixed B.toBF) hr (by decide) (by rfl) passL (da_cons (de_var 0) (da_cons (de_var 3) da_nil))).sh)).sh da_nil))))) (DLt.dbd_two 1 2 4 (f_late B.toBF 20 3) ownX (by rfl) hr (by decide) (by rfl) passX sc__law_told_right.nd (ds_parF 5 6 (by rfl) sc__law_told_right.nd (de_cb (cr_repr hg (hu66 hr)) (by rfl) B.repr (by rfl) p_repr2 (da_cons (DLt.de_varP 2) da_nil)) (dfr_make (f_Q_init B.toBQ) hr (by decide) (by rfl) passX (da_cons (de_ix ix_list p_ixL (DLt.de_varP 2) de_int) (da_cons (de_ix ix_list p_ixL (DLt.de_varP 2) de_int) (da_cons (de_ix ix_list p_ixL (DLt.de_varP 2) de_int) da_nil))))) (ds_setF 7 sc__law_told_right.nd (DLt.dfr_makeKw (f_Q_initK B.toBQ) hr (by decide) (by rfl) passX (dk_cons (de_ix ix_tup p_ixT (DLt.de_varP 1) de_int) (dk_cons (de_ix ix_tup p_ixT (DLt.de_varP 1) de_int) (dk_cons (de_ix ix_tup p_ixT (DLt.de_varP 1) de_int) dk_nil))))) (ds_if (DW.t (dw_or (dt_cmp op_ne p_ne (de_cb (cr_repr hg (hu66 hr)) (by rfl) B.repr (by rfl) p_repr2 (da_cons (DLt.de_varP 2) da_nil)) (de_var 5) (by rfl)) (dw_or1 (dt_not (dt_val (de_call (f__law_same_at B.toBF 8) hr (by decide) (by rfl) passX (da_cons (dn_lst (da_cons (dfr_call (f__law_parts B) hr (by decide) (by rfl) passX (da_cons (de_var 6) da_nil)).sh (da_cons (dfr_call (f__law_parts B) hr (by decide) (by rfl) passX (da_cons (de_var 7) da_nil)).sh da_nil))).sh (da_cons (dn_lst (da_cons (DLt.de_varP 1) (da_cons (DLt.de_varP 1) da_nil))).sh da_nil)))))))) (db_one (ds_ret de_bl)) db_nil) (dbd (db_scopeD (dbd_cons (DLt.dsd_forF 4 (f_late B.toBF 20 3) ownX (by rfl) hr (by decide) (by rfl) passX sc__law_told_right.nd (dfr_call (f__law_parts B) hr (by decide) (by rfl) passX (da_cons (de_var 6) da_nil))) (dbd_one (dsd (ds_ret (de_and (de_call (f__law_same_at B.toBF 8) hr (by decide) (by rfl) passX (da_cons (dfr_call (f__law_parts B) hr (by decide) (by rfl) passX (da_cons (de_var 6) da_nil)).sh (da_cons (de_var 1) da_nil))) (de_and (de_eqM (f_Q_eq B) hr (by decide) passX (de_var 6) (de_var 7) (by rfl)) (de_one (de_not (de_neM (f_Q_eq B) hr (by decide) passX B.ne B.mro (de_var 6) (de_var 7) (by rfl))))))))))))) (hpa := fun h => pe_bm PySem.F.plainAttrs_list PySem.F.slot_list_extend PySem.F.type_list_extend mt_extend (pv 2) (pa_cons h pa_nil))))) ?_
  · intro s n ds Q EQ h
    dsimp only [sp__law_told_right] at h
    obtain ⟨_, _, _, rfl, _⟩ := h; rfl
  · intro s n ds Q EQ h
    dsimp only [sp__law_told_right] at h
    obtain ⟨sp, q, rfl, rfl, few, hn, h⟩ := h
    have hcl := fun c h => few.cl (c := c) h
    have fw := few.w
    have fg := few.g
    show DLt.bLE _ _ _ _ (some sp) _ ⟨[.bs true (.v (.ref sp)), .bs true (rawD q), .un, .un, .un, .un, .un, .un], n⟩ EQ
    refine mCut (fun d z1 => ∃ m, Loose (.lst (q.marks.map markD)) d ∧ n ≤ m ∧ m ≤ n + 49 ∧ z1 = ⟨[.bs true (.v (.ref sp)), .bs true (rawD q), .un, .un, .un, .un, .un, .un], m⟩) (fun R hR => ?_) (fun d1 z1 hz => ?_)
    · simp [-rawD]
      exact ⟨sp, _, 49, rfl, rfl, lz_marks _ few.m, by omega, fun d1 m3 l1 t1 t2 => ⟨trivial, hR _ _ ⟨m3, l1, t1, t2, rfl⟩⟩⟩
    obtain ⟨m, l1, n1, n2, rfl⟩ := hz
    refine ⟨by simp, fun v0 => ?_⟩
    refine mCut (fun d z1 => ∃ (d2 d3 : D) (ws gs : List Cl) (m2 : Nat) (x3 x4 : DV), (x3 = .un ∧ x4 = .un) ∧ d = .lst [d2, d3] ∧ Mixed ws q.wishes ∧ Mixed gs q.guards ∧ Loose (.lst (ws.map clD)) d2 ∧ Loose (.lst (gs.map clD)) d3 ∧ m ≤ m2 ∧ m2 ≤ m + 1322 ∧ z1 = ⟨[.bs true (.v (.ref sp)), .bs true (rawD q), .ow (.lst [.v v0]), x3, x4, .un, .un, .un], m2⟩) (fun R hR => ?_) (fun d' z1 hz => ?_)
    · simp [-rawD]
      refine ⟨by decide, ?_⟩
      rw [show DL.cutD [D.lst (q.marks.map markD), D.lst (q.wishes.map clD), D.lst (q.guards.map clD)] (some 1) none = [q.wishes, q.guards].map (fun cs => D.lst (cs.map clD)) from rfl]
      refine comp_ind (fun ds acc z => ∃ (dn : List (List Cl × D)) (rest : List (List Cl)) (m3 : Nat), ds = rest.map (fun cs => D.lst (cs.map clD)) ∧ dn.map (·.1) ++ rest = [q.wishes, q.guards] ∧ (∀ p ∈ dn, ∃ cs', Mixed cs' p.1 ∧ Loose (.lst (cs'.map clD)) p.2) ∧ acc = dn.map (·.2) ∧ z = ⟨[.bs true (.v (.ref sp)), .bs true (rawD q), .ow (.lst [.v v0]), .un, .un, .un, .un, .un], m3⟩ ∧ m ≤ m3 ∧ m3 ≤ m + 661 * dn.length) ?_ ?_ _ _ _ ⟨[], [q.wishes, q.guards], m, rfl, rfl, nofun, rfl, rfl, Nat.le_refl _, by simp⟩
      · rintro acc z ⟨dn, rest, m3, q1, q2, q3, rfl, rfl, q4, q5⟩
        have : rest = [] := by simpa using q1.symm
        subst this
        rw [List.append_nil] at q2
        obtain ⟨p1, p2, rfl⟩ : ∃ p1 p2, dn = [p1, p2] := by
          rcases dn with _ | ⟨p1, _ | ⟨p2, _ | ⟨p3, dn⟩⟩⟩
          · simp at q2
          · simp at q2
          · exact ⟨_, _, rfl⟩
          · simp at q2
        simp at q2
        obtain ⟨w1, a1, b1⟩ := q3 p1 (by simp)
        obtain ⟨w2, a2, b2⟩ := q3 p2 (by simp)
        rw [q2.1] at a1
        rw [q2.2] at a2
        simp at q5
        exact hR _ _ ⟨p1.2, p2.2, w1, w2, m3, .un, .un, ⟨rfl, rfl⟩, rfl, a1, a2, b1, b2, q4, by omega, rfl⟩
      · rintro d ds acc z C2 hC2 ⟨dn, rest, m3, q1, q2, q3, rfl, rfl, q4, q5⟩
        cases rest with
        | nil => simp at q1
        | cons cs rest =>
          simp at q1
          obtain ⟨rfl, rfl⟩ := q1
          have hlen : dn.length ≤ 1 := by
            have := congrArg List.length q2
            simp at this
            omega
          have hcs : cs ∈ [q.wishes, q.guards] := by rw [← q2]; simp
          have hsub : ∀ c ∈ cs, ∀ p ∈ c, p.1 ∈ q.names := by
            simp at hcs
            rcases hcs with rfl | rfl
            · exact fun c hc p hp => (few.ok.ws c hc).subset (List.mem_map_of_mem hp)
            · exact fun c hc p hp => (few.ok.gs c hc).subset (List.mem_map_of_mem hp)
          have hc : cs.length ≤ 20 ∧ ∀ c ∈ cs, c.length ≤ 16 := by
            simp at hcs
            rcases hcs with rfl | rfl
            · exact ⟨few.w, fun c hc => few.cl (.inl hc)⟩
            · exact ⟨few.g, fun c hc => few.cl (.inr hc)⟩
          simp [-rawD]
          refine comp_ind (fun ds acc z => ∃ (cd cr cl : List Cl) (m2 : Nat), ds = cr.map clD ∧ cd ++ cr = cs ∧ acc = cl.map clD ∧ Mixed cl cd ∧ z = ⟨[.bs true (.v (.ref sp)), .bs true (rawD q), .ow (.lst [.v v0]), .un, .sh (.lst (cs.map clD)), .un, .un, .un], m2⟩ ∧ m3 ≤ m2 ∧ m2 ≤ m3 + 16 * cd.length) ?_ ?_ _ _ _ ⟨[], cs, [], m3, rfl, rfl, rfl, .nil, rfl, Nat.le_refl _, by simp⟩
          · rintro acc z ⟨cd, cr, cl, m2, r1, r2, rfl, r4, rfl, r5, r6⟩
            have : cr = [] := by simpa using r1.symm
            subst this
            rw [List.append_nil] at r2
            subst r2
            have hl := mixed_len r4
            have hc2 := mixed_each (P := fun c => c.length ≤ 16) (fun c' c p h => by rw [p.length_eq]; exact h) r4 hc.2
            have h16 : 16 * cd.length ≤ 320 := by omega
            simp [-rawD]
            refine ⟨sp, .lst (cl.map clD), 341, rfl, rfl, lz_cls cl hc2 (by omega), by omega, fun e m4 lo t1 t2 => ?_⟩
            refine ⟨trivial, by omega, hC2 _ _ ⟨dn ++ [(cd, e)], rest, m4, rfl, by simpa using q2, fun p hp => ?_, by simp, rfl, by omega, by simp; omega⟩⟩
            rcases List.mem_append.mp hp with hp | hp
            · exact q3 p hp
            · simp at hp
              subst hp
              exact ⟨cl, r4, lo⟩
          · rintro d ds acc z C3 hC3 ⟨cd, cr, cl, m2, r1, r2, rfl, r4, rfl, r5, r6⟩
            cases cr with
            | nil => simp at r1
            | cons c cr =>
              simp at r1
              obtain ⟨rfl, rfl⟩ := r1
              have hm : c ∈ cs := by rw [← r2]; simp
              have hcc := hc.2 c hm
              have hcd := congrArg List.length r2
              have hl := mixed_len r4
              simp at hcd
              have h16 : 16 * cd.length ≤ 320 := by omega
              simp [-rawD]
              refine ⟨sp, c.map litD, rfl, by simp, by simp; omega, by simp; omega, sh_map fun p hp => (sh_lit (ok_str few.ok _ (hsub c hm p hp))).mono (by decide), fun ys hp => ?_⟩
              obtain ⟨c', pc, rfl⟩ := perm_map' hp c rfl
              simp [-rawD]
              refine ⟨by omega, hC3 _ _ ⟨cd ++ [c], cr, cl ++ [c'], m2 + c.length, rfl, by simpa using r2, by simp, mixed_snoc pc r4, rfl, by omega, by simp; omega⟩⟩
    obtain ⟨d2, d3, ws, gs, m2, x3, x4, ⟨rfl, rfl⟩, rfl, mw, mg', l2, l3, n3, n4, rfl⟩ := hz
    have lw := mixed_len mw
    have lg := mixed_len mg'
    refine ⟨[d2, d3], rfl, by simp, rfl, ?_⟩
    have good : ∀ {cs' cs : List Cl}, Mixed cs' cs → (∀ c ∈ cs, (c.map (·.1)).Sublist q.names ∧ c.length ≤ 16) → ∀ c ∈ cs', (∀ p ∈ c, goodName p.1) ∧ c.length ≤ 16 := fun hm hc c hc' => by
      refine mixed_each (P := fun c => (∀ p ∈ c, goodName p.1) ∧ c.length ≤ 16) (fun c' c p h => ⟨fun x hx => h.1 x (p.mem_iff.mp hx), by rw [p.length_eq]; exact h.2⟩) hm (fun c hc2 => ?_) c hc'
      obtain ⟨h1, h2⟩ := hc c hc2
      refine ⟨fun p hp => ?_, h2⟩
      obtain ⟨x, hx, e⟩ := List.mem_map.mp (h1.subset (List.mem_map_of_mem hp))
      rw [← e]
      exact (few.ok.good x hx).1
    have gw := good mw fun c hc => ⟨few.ok.ws c hc, hcl c (.inl hc)⟩
    have gg := good mg' fun c hc => ⟨few.ok.gs c hc, hcl c (.inr hc)⟩
    refine ⟨_, [d1, d2, d3], rfl, rfl, by simp, by simp, fun e he => ?_, by decide, fun a' b' => ?_⟩
    · simp only [List.mem_cons, List.not_mem_nil, or_false] at he
      rcases he with rfl | rfl | rfl
      · exact DLt.SpD.loose (sp_marks _ few.m) l1
      · exact DLt.SpD.loose (sp_cls _ (fun c hc => (gw c hc).2) (by omega)) l2
      · exact DLt.SpD.loose (sp_cls _ (fun c hc => (gg c hc).2) (by omega)) l3
    have rM : RpD 9000 (.lst (q.marks.map markD)) ∧ ShD 3 (.lst (q.marks.map markD)) := ⟨rp_lst (w := 100) (fun d hd => by
      obtain ⟨p, hp, rfl⟩ := List.mem_map.mp hd
      exact (rp_mark (few.ok.good p hp).1 (few.ok.good p hp).2).1) (by have := few.m; simp; omega), sh_lst (sh_map fun p hp => (rp_mark (few.ok.good p hp).1 (few.ok.good p hp).2).2)⟩
    have rC : ∀ cs : List Cl, (∀ c ∈ cs, (∀ p ∈ c, goodName p.1) ∧ c.length ≤ 16) → cs.length ≤ 20 → RpD 9000 (.lst (cs.map clD)) ∧ ShD 3 (.lst (cs.map clD)) := fun cs hc hl => ⟨rp_lst (w := 400) (fun d hd => by
      obtain ⟨c, hcm, rfl⟩ := List.mem_map.mp hd
      exact (rp_cl (hc c hcm).1 (hc c hcm).2).1) (by simp; omega), sh_lst (sh_map fun c hcm => (rp_cl (hc c hcm).1 (hc c hcm).2).2)⟩
    have rw' := rC ws gw (by omega)
    have rg' := rC gs gg (by omega)
    have rall : RpD 100000 (.lst [d1, d2, d3]) ∧ ShD 4 (.lst [d1, d2, d3]) := ⟨rp_lst (w := 9000) (fun e he => by
      simp only [List.mem_cons, List.not_mem_nil, or_false] at he
      rcases he with rfl | rfl | rfl
      · exact DLt.RpD.loose rM.1 l1
      · exact DLt.RpD.loose rw'.1 l2
      · exact DLt.RpD.loose rg'.1 l3) (by simp), sh_lst fun e he => by
      simp only [List.mem_cons, List.not_mem_nil, or_false] at he
      rcases he with rfl | rfl | rfl
      · exact DLt.ShD.loose rM.2 l1
      · exact DLt.ShD.loose rw'.2 l2
      · exact DLt.ShD.loose rg'.2 l3⟩
    obtain ⟨rR, rS⟩ := rall
    have fits := rR.fits rS (by decide)
    obtain ⟨sh, hsh⟩ : ∃ sh, sh = PyData.shown (pyD (.lst [d1, d2, d3])) := ⟨_, rfl⟩
    have pc : ∀ {cs' cs : List Cl}, Mixed cs' cs → (∀ c ∈ cs, (c.map (·.1)).Sublist q.names ∧ c.length ≤ 16) → ∀ c ∈ cs', (∀ p ∈ c, p.1 ∈ q.names) ∧ (c.map (·.1)).Nodup ∧ c.length ≤ 1000 := fun hm hc c hc' => by
      refine mixed_each (P := fun c => (∀ p ∈ c, p.1 ∈ q.names) ∧ (c.map (·.1)).Nodup ∧ c.length ≤ 1000) (fun c' c p h => ⟨fun x hx => h.1 x (p.mem_iff.mp hx), (p.map (fun x : Str × Bool => x.1)).nodup_iff.mpr h.2.1, by rw [p.length_eq]; exact h.2.2⟩) hm (fun c hc2 => ?_) c hc'
      obtain ⟨h1, h2⟩ := hc c hc2
      exact ⟨fun p hp => h1.subset (List.mem_map.mpr ⟨p, hp, rfl⟩), h1.nodup few.ok.nd, by omega⟩
    refine sCut (fun z => z = ⟨[.bs true (.v (.ref sp)), .bs true (.at b' (rawD q)), .bs true (.at a' (.lst [d1, d2, d3])), .un, .un, .sh (strD sh), .bs false (qD a.C q), .un], m2⟩) (fun C hC => ?_) (fun z hz => ?_)
    · refine ⟨_, _, rfl, ?_⟩
      refine ⟨_, _, rfl, .inl rfl, rS.1, rS.shaped, rR.sh, fits, ?_⟩
      simp [-rawD, -qD]
      refine ⟨_, _, ⟨rfl, rfl⟩, _, rfl, d1, by simp [atI, ixN], _, _, ⟨rfl, rfl⟩, _, rfl, d2, by simp [atI, ixN], _, _, ⟨rfl, rfl⟩, _, rfl, d3, by simp [atI, ixN], ?_⟩
      rw [← hsh]
      exact init_good a few.ok l1 l2 l3 (pc mw (fun c hc => ⟨few.ok.ws c hc, hcl c (.inl hc)⟩)) (pc mg' (fun c hc => ⟨few.ok.gs c hc, hcl c (.inr hc)⟩)) (by omega) (by omega) (mixed_ordered few.ok.nd mw few.ok.ws) (mixed_ordered few.ok.nd mg' few.ok.gs) (hC _ rfl)
    subst hz
    have nq : NearQ q := ⟨few.ok, by have := few.m; omega, by omega, by omega⟩
    refine sCut (fun z => z = ⟨[.bs true (.v (.ref sp)), .bs true (.at b' (rawD q)), .bs true (.at a' (.lst [d1, d2, d3])), .un, .un, .sh (strD sh), .bs false (qD a.C q), .bs false (qD a.C q)], m2⟩) (fun C hC => ?_) (fun z hz => ?_)
    · simp [-rawD, -qD]
      refine ⟨_, _, ⟨rfl, rfl⟩, _, rfl, _, by simp [atI, ixN]; rfl, _, _, ⟨rfl, rfl⟩, _, rfl, _, by simp [atI, ixN]; rfl, _, _, ⟨rfl, rfl⟩, _, rfl, _, by simp [atI, ixN]; rfl, ?_⟩
      exact init_near a nq (hC _ rfl)
    subst hz
    have s1 := sm_raw 3 few
    have s2 : Sm 8 (.lst [rawD q, rawD q]) := sm_lst (by simp) fun e he => by
      simp only [List.mem_cons, List.not_mem_nil, or_false] at he
      rcases he with rfl | rfl
      · exact sm_raw 2 few
      · exact sm_raw 2 few
    refine iCut (fun b n => n = m2 ∧ b = false) (fun R hR => ?_) (fun b n hb => ?_)
    · simp [-rawD, -qD]
      exact ⟨_, _, ⟨rfl, rfl⟩, ⟨_, .inl rfl⟩, rS.1, rS.shaped, rR.sh, fits, .inl ⟨hsh.symm, q, rfl, few.ok, trivial, q, rfl, few.ok, trivial, _, _, ⟨rfl, rfl⟩, _, _, ⟨rfl, rfl⟩, _, rfl, s2, .inr ⟨rfl, hR _ _ ⟨rfl, rfl⟩⟩⟩⟩
    obtain ⟨rfl, rfl⟩ := hb
    refine ⟨nofun, fun _ => ⟨by simp, rfl, rfl, ?_⟩⟩
    show bScope _ _ _ ⟨[.sh (.v (.ref sp)), .bs true (rawD q), .un, .un, .un, .sh (strD sh), .bs false (qD a.C q), .bs false (qD a.C q)], n⟩ EQ
    simp only [bScope, Z.ob, List.map, DV.ob]
    refine ⟨q, rfl, few.ok, trivial, _, .inr rfl, by simp, by simp, fun e he => ?_, by decide, ?_⟩
    · simp only [List.mem_cons, List.not_mem_nil, or_false] at he
      rcases he with rfl | rfl | rfl
      · exact sp_marks _ few.m
      · exact sp_cls _ (fun c hc => hcl c (.inl hc)) fw
      · exact sp_cls _ (fun c hc => hcl c (.inr hc)) fg
    simp [-rawD, -qD]
    have e1 := PySem.SeqAt.eqv_refl _ (raw_sh few.ok).2.1
    refine ⟨q, rfl, few.ok, trivial, _, rfl, s1, .inr ⟨rfl, ?_⟩⟩
    refine ⟨q, qD a.C q, _, rfl, few.ok, .q q few.ok, ?_⟩
    rw [e1]
    refine .inr ⟨rfl, ?_⟩
    refine ⟨q, qD a.C q, _, rfl, few.ok, .q q few.ok, ?_⟩
    rw [e1]
    exact .inr ⟨rfl, h _ (by omega) (by omega)⟩


end
end K01
end

section
set_option Elab.async false
set_option linter.all false
set_option maxRecDepth 100000
set_option maxHeartbeats 4000000
/-! DL52: lists of lists that are new, each one a list of its own. -/
namespace DLt
open PySem PySem.Spec PyProof.Rows L2 DL
/-- the lists ds stand at the new addresses as -/
inductive Cells (K : PySem.W.Frag) (F H0 : Hp) : List D → List Addr → Prop
  | nil : Cells K F H0 [] []
  | cons {a : Addr} {c ds : List D} {xs : List V} {as : List Addr} (h : F a = some (.lst xs)) (f : Fr H0 a) (r : Reps K F c xs) (t : Cells K F H0 ds as) : Cells K F H0 (.lst c :: ds) (a :: as)
theorem Cells.mono {K : PySem.W.Frag} {F F' H0 H1 : Hp} {ds : List D} {as : List Addr} (s : Same F F') (g : ∀ a, Fr H1 a → Fr H0 a) (c : Cells K F H1 ds as) : Cells K F' H0 ds as := by
  induction c with
  | nil => exact .nil
  | cons h f r _ ih => exact .cons (s _ _ h) (g _ f) (r.mono s) ih
theorem Cells.snoc {K : PySem.W.Frag} {F H0 : Hp} {ds : List D} {as : List Addr} {a : Addr} {c : List D} {xs : List V} (t : Cells K F H0 ds as) (h : F a = some (.lst xs)) (f : Fr H0 a) (r : Reps K F c xs) : Cells K F H0 (ds ++ [.lst c]) (as ++ [a]) := by
  induction t with
  | nil => exact .cons h f r .nil
  | cons h2 f2 r2 _ ih => exact .cons h2 f2 r2 ih
theorem Cells.mem {K : PySem.W.Frag} {F H0 : Hp} {ds : List D} {as : List Addr} (t : Cells K F H0 ds as) : ∀ a ∈ as, ∃ xs, F a = some (.lst xs) ∧ Fr H0 a := by
  induction t with
  | nil => nofun
  | cons h f _ _ ih =>
    intro b hb
    rcases List.mem_cons.mp hb with rfl | hb
    · exact ⟨_, h, f⟩
    · exact ih b hb
theorem Cells.len {K : PySem.W.Frag} {F H0 : Hp} {ds : List D} {as : List Addr} (t : Cells K F H0 ds as) : ds.length = as.length := by
  induction t with
  | nil => rfl
  | cons _ _ _ _ ih => rw [List.length_cons, List.length_cons, ih]
structure CellsL (K : PySem.W.Frag) (F H0 : Hp) (tl : Addr) (ds : List D) (as : List Addr) : Prop where
  at_ : F tl = some (.lst (as.map V.ref))
  fr : Fr H0 tl
  nd : as.Nodup
  nin : tl ∉ as
  cs : Cells K F H0 ds as
theorem CellsL.mono {K : PySem.W.Frag} {F F' H0 H1 : Hp} {tl : Addr} {ds : List D} {as : List Addr} (s : Same F F') (g : ∀ a, Fr H1 a → Fr H0 a) (c : CellsL K F H1 tl ds as) : CellsL K F' H0 tl ds as := ⟨s _ _ c.at_, g _ c.fr, c.nd, c.nin, c.cs.mono s g⟩
/-- an expression that makes a new list of new lists, no two of them the same -/
structure DFU (T : List (Addr × Str)) (X : Cx) (E : XK) (e : Expr) (m : TDE) : Prop where
  ex : ∃ t : TE, PE X e t ∧ ∀ (st : Option Addr) (F0 H0 F H : Hp) (σ : Sg) (z : Z) (Q : D → Z → Prop) (EQ : TEX) (R : VK), Rel X.K T st F0 H0 F H σ z → ERel X.K T st F0 H0 E EQ → m st z Q EQ →
    (∀ tl H' F' ds as z', Same F F' → Rel X.K T st F0 H0 F' H' σ z' → CellsL X.K F' H0 tl ds as → (∀ a ∈ tl :: as, F a = none) → Q (.lst ds) z' → R (.ref tl) H') → t σ H R
section
variable {T : List (Addr × Str)} {X : Cx} {E : XK} {e a b : Expr} {pos p apos : Pos} {me : TDE} {mt : TDT} {k j : Nat} {x : Str} {ps : List Str}
def canN (K : PySem.W.Frag) (T : List (Addr × Str)) (m : TDE) : TE := fun σ H R => ∃ (st : Option Addr) (F0 H0 F : Hp) (z : Z) (Q : D → Z → Prop), Rel K T st F0 H0 F H σ z ∧ m st z Q (fun _ _ => False) ∧ ∀ a H' F' o z', Same F F' → Rel K T st F0 H0 F' H' σ z' → Nw K st F' H0 H' σ z' a o → Q o z' → R (.ref a) H'
theorem canN_of (h : DN T X E0 e me) : PE X e (canN X.K T me) := by
  obtain ⟨t, p, q⟩ := h.ex
  refine ⟨fun pins s σ H R I h => ?_⟩
  obtain ⟨st, F0, H0, F, z, Q, r, hm, k⟩ := h
  exact p.run pins s σ H R I (q st F0 H0 F H σ z Q _ R r (fun _ _ _ _ _ _ _ _ _ _ _ z => z.elim) hm k)
theorem comp_okU {own : List (Str × Nat)} {ws : List Nat} {g : TDG} {st : Option Addr} {F0 H0 F1 H1 : Hp} {σ : Sg} {z1 : Z} {J : It} {ds : List D} {Q : D → Z → Prop} {K : PySem.W.Frag} {R : VK} (hw : ∀ i ∈ ws, i ∈ own.map (·.2)) (r1 : Rel K T st F0 H0 F1 H1 σ z1) (it : ItOk K T st F1 J ds)
    (h : compD g mt (mNewF me) (own.map (·.2)) st Q ds [] (z1.wipe (own.map (·.2)))) (k : ∀ tl H' F' acc as z', Same F1 F' → Rel K T st F0 H0 F' H' σ z' → CellsL K F' H0 tl acc as → (∀ a ∈ tl :: as, F1 a = none) → Q (.lst acc) z' → R (.ref tl) H') :
    ∀ Dl, H1 Dl = none → ∃ W : Nat → Nat → Hp → Prop, (∃ m, W 0 m (upd H1 Dl (.lst []))) ∧ ∀ i m H, W i m H →
      (J.stop i H ∧ R (.ref Dl) H) ∨ (J.go i H ∧ ∃ Nx : Hp → Prop, (∀ H', Nx H' → ∃ m', m' < m ∧ W (i + 1) m' H') ∧ ∀ x H', J.yld i H x H' → canG K T ws g x (L2.wipe σ (own.map (·.2))) H' fun σ2 H2 => L2.wipe σ2 (own.map (·.2)) = L2.wipe σ (own.map (·.2)) ∧ canT K T mt σ2 H2 fun b H3 =>
        if b = true then canN K T me σ2 H3 fun y H4 => ∃ acc, H4 Dl = some (.lst acc) ∧ acc.length < sizeLine ∧ Nx (upd H4 Dl (.lst (acc ++ [y]))) else Nx H3) := by
  intro Dl hD
  obtain ⟨vs, hvs⟩ : ∃ vs, vs = own.map (·.2) := ⟨_, rfl⟩
  rw [← hvs] at hw h ⊢
  obtain ⟨rs, ws0⟩ := r1.laid hD (Cell.lst (K := K) (F := F1) (ds := []) (xs := []) .nil)
  refine ⟨fun i m H => ∃ (F : Hp) (z : Z) (acc : List D), Same F1 F ∧ Rel K T st F0 H0 F H (L2.wipe σ vs) (z.wipe vs) ∧ Nw K st F H0 H (L2.wipe σ vs) (z.wipe vs) Dl (.lst acc) ∧ (∃ as : List Addr, H Dl = some (.lst (as.map V.ref)) ∧ as.Nodup ∧ Cells K F H0 acc as ∧ ∀ a ∈ as, F1 a = none) ∧ compD g mt (mNewF me) vs st Q (ds.drop i) acc (z.wipe vs) ∧ m = ds.length - i ∧ i ≤ ds.length,
    ⟨ds.length, F1, z1, [], Same.refl F1, rs.wipe rfl, ws0.wipe rfl, ⟨[], upd_same, by simp, .nil, nofun⟩, by rw [List.drop_zero]; exact h, rfl, Nat.zero_le _⟩, ?_⟩
  rintro i m H ⟨F, z, acc, s, r, w, ⟨as, hys, nd, rn, fr1⟩, hc, rfl, hi⟩
  by_cases hlt : i < ds.length
  · refine .inr ⟨it.go i H (s.trans r.ok.sub) hlt, fun H' => ∃ (F : Hp) (z : Z) (acc : List D), Same F1 F ∧ Rel K T st F0 H0 F H' (L2.wipe σ vs) (z.wipe vs) ∧ Nw K st F H0 H' (L2.wipe σ vs) (z.wipe vs) Dl (.lst acc) ∧ (∃ as : List Addr, H' Dl = some (.lst (as.map V.ref)) ∧ as.Nodup ∧ Cells K F H0 acc as ∧ ∀ a ∈ as, F1 a = none) ∧ compD g mt (mNewF me) vs st Q (ds.drop (i + 1)) acc (z.wipe vs), ?_, ?_⟩
    · rintro H' ⟨F', z', acc', s', r', w', n', hc'⟩
      exact ⟨ds.length - (i + 1), by omega, F', z', acc', s', r', w', n', hc', rfl, hlt⟩
    · intro x H' y
      obtain ⟨F', d, hd, ok, rp⟩ := it.yld i _ _ F H _ x H' s r.ok hlt y
      have r2 := r.after ok
      have w2 := w.after ok
      have s2 : Same F1 F' := s.trans ok.f0
      have hys2 : H' Dl = some (.lst (as.map V.ref)) := ok.keep _ _ hys w.own.st (fun ps q => by cases q)
      have rn2 : Cells K F' H0 acc as := rn.mono ok.f0 fun _ q => q
      have e : ds.drop i = d :: ds.drop (i + 1) := by
        rw [List.drop_eq_getElem_cons hlt]
        have : ds[i] = d := (List.getElem?_eq_some_iff.mp hd).2
        rw [this]
      rw [e] at hc
      have f0 : F0 Dl = none := Same.none r2.ok.f0 w2.own.f
      have gf := grd_frs (H0 := H0) (H := H') (a := Dl) (by rw [hys2]; simp) (fun ps q => by rw [hys2] at q; cases q)
      refine ⟨st, F0, grd H0 H' Dl, F', _, d, _, r2.guard w2, rp, hc, fun σ2 z2 r3 ag h3 => ?_⟩
      have hwp : L2.wipe σ2 vs = L2.wipe σ vs := by
        rw [← wipe_wipe σ vs]
        exact wipe_eq ag.1 fun i hi => ag.2 i fun q => hi (hw i q)
      refine ⟨hwp, st, F0, grd H0 H' Dl, F', z2, _, r3, h3, fun b H3 n3 r4 h4 => ?_⟩
      have k3 : H3 Dl = some (.lst (as.map V.ref)) := r4.ok.keep _ _ (by rw [grd_same]; exact hys2) w2.own.st (fun ps q => by cases q)
      cases b with
      | true =>
        refine iteT ?_
        refine ⟨st, F0, grd H0 H' Dl, F', _, _, r4, h4.1 rfl, fun p H4 F4 y z4 s4 r5 p5 h5 => ?_⟩
        obtain ⟨hn, h5⟩ := h5
        have k4 : H4 Dl = some (.lst (as.map V.ref)) := r5.ok.keep _ _ (by rw [grd_same]; exact hys2) w2.own.st (fun ps q => by cases q)
        have fresh : p ∉ as := fun q => by
          obtain ⟨xs, hx, _⟩ := rn2.mem p q
          have := s4 _ _ hx
          rw [p5.own.f] at this
          cases this
        obtain ⟨hn, h5⟩ := show nwF y = true ∧ _ from ⟨hn, h5⟩
        cases y with
        | lst c =>
          obtain ⟨u, hu, cc⟩ := p5.own.ho
          cases cc with
          | @lst _ xp rrp =>
            obtain ⟨F5, s5, r5', rpn⟩ := r5.fixN p5 hu (repsN_leaf rrp (by simpa using hn))
            obtain ⟨r6, w6⟩ := Rel.unguard w2.own (s4.trans s5) f0 r5'
            obtain ⟨u, hu6, c6⟩ := w6.own.ho
            cases c6 with
            | @lst _ xs rr =>
              refine ⟨xs, hu6, size_lt (by rw [← rr.length]; exact h5.1), ?_⟩
              have ex : xs = as.map V.ref := by
                rw [k4] at hu6
                cases hu6
                rfl
              subst ex
              cases rpn with
              | lst hp5 fp rsn =>
                obtain ⟨r7, w7⟩ := r6.putN w6 (Cell.lst (rr.snoc (RepN.lst hp5 fp rsn).rep))
                refine ⟨F5, z4, acc ++ [.lst c], s2.trans (s4.trans s5), r7.wipe hwp, w7.wipe hwp, ⟨as ++ [p], by rw [upd_same, List.map_append]; rfl, ?_, (rn2.mono (s4.trans s5) fun _ q => q).snoc hp5 (gf _ fp) rsn.rep, fun a ha => ?_⟩, h5.2⟩
                · rw [List.nodup_append]
                  exact ⟨nd, by simp, fun a ha b hb e => fresh (by rw [List.mem_singleton.mp hb] at e; exact e ▸ ha)⟩
                · rcases List.mem_append.mp ha with ha | ha
                  · exact fr1 a ha
                  · rw [List.mem_singleton.mp ha]
                    exact Same.none (s2.trans s4) p5.own.f
        | _ => simp at hn
      | false =>
        refine iteF ?_
        obtain ⟨r6, w6⟩ := Rel.unguard w2.own (Same.refl F') f0 r4
        exact ⟨F', _, acc, s2, r6.wipe hwp, w6.wipe hwp, ⟨as, k3, nd, rn2, fr1⟩, h4.2 rfl⟩
  · have e : i = ds.length := by omega
    subst e
    rw [List.drop_length] at hc
    have wf := w.own.f
    have wh := w.own.h0
    obtain ⟨F2, s3, r3, rp⟩ := r.unwipe.fix w.unwipe
    refine .inl ⟨it.stop _ H (s.trans r.ok.sub) (Nat.le_refl _), k Dl H F2 _ as _ (s.trans s3) r3 ⟨?_, wh, nd, fun q => ?_, rn.mono s3 fun _ q => q⟩ (fun a ha => ?_) hc⟩
    · cases rp with
      | @lst _ xs' _ h rr =>
        have q := r3.ok.sub _ _ h
        rw [hys] at q
        cases q
        exact h
    · obtain ⟨xs, hx, _⟩ := rn.mem _ q
      rw [wf] at hx
      cases hx
    · rcases List.mem_cons.mp ha with rfl | ha
      · exact Same.none r1.ok.sub hD
      · exact fr1 a ha
theorem dfu_comp {scope : Scope} {own : List (Str × Nat)} {ws : List Nat} {g : TDG} {mi : TDA} {tg elt iter : Expr} {ifs : List Expr} (hc : X.calm = true) (hN : X.N.Nodup) (hi : DI T X E tg iter mi) (ok : BlkOk X.N X.env.scope scope own) (hw : ∀ i ∈ ws, i ∈ own.map (·.2))
    (hg : ∀ (s : Shared) (H : Hp) (C : Addr) (cl : List (Str × Addr)) (fp : List Addr), DG T (X.blk s H scope (compEnvC scope cl C X.env) fp) tg ws g) (ht : ∀ (s : Shared) (H : Hp) (C : Addr) (cl : List (Str × Addr)) (fp : List Addr), DTs T (X.blk s H scope (compEnvC scope cl C X.env) fp) ifs mt)
    (he : ∀ (s : Shared) (H : Hp) (C : Addr) (cl : List (Str × Addr)) (fp : List Addr), DN T (X.blk s H scope (compEnvC scope cl C X.env) fp) E0 elt me) (hs : ∀ x, foldedSetIterable iter X.env x = pure x := by intro _; rfl) :
    DFU T X E (.ListComp elt [⟨tg, iter, ifs, 0⟩] scope pos) (mComp mi g mt (mNewF me) (own.map (·.2))) := by
  obtain ⟨wi, pi, qi⟩ := hi.ex
  refine ⟨⟨_, pe_lc (g := canG X.K T ws g) (tt := canT X.K T mt) (te := canN X.K T me) hc hN pi ok (fun s H C cl fp => (hg s H C cl fp).can) (fun s H C cl fp => (ht s H C cl fp).can) (fun s H C cl fp => canN_of (he s H C cl fp)) hs, fun st F0 H0 F H σ z Q EQ R r er h k => ?_⟩⟩
  refine qi st F0 H0 F H σ z _ EQ _ r er h fun J H1 F1 ds z1 s1 r1 it h1 => ?_
  exact comp_okU hw r1 it h1 fun tl H' F' acc as z' s r' c fr => k tl H' F' acc as z' (s1.trans s) r' c fun a ha => Same.none s1 (fr a ha)
end
end DLt
end

section
set_option Elab.async false
set_option linter.all false
set_option maxRecDepth 100000
set_option maxHeartbeats 4000000
/-! DL53: methods that make a new list of new lists. -/
namespace DLt
open PySem PySem.Spec PyProof.Rows L2 DL
def toSpU (K : PySem.W.Frag) (T : List (Addr × Str)) (sp : DSpec) : Sp := fun vs H Q E =>
  ∃ (F : Hp) (st : Option Addr) (n : Nat) (ds : List D) (Qd : Res → Nat → Prop) (EQ : TEX), Ok T st F H F H n ∧ Reps K F ds vs ∧ sp st n ds Qd EQ ∧
    (∀ tl H' F' acc as n', Ok T st F H F' H' n' → CellsL K F' H tl acc as → (∀ a ∈ tl :: as, F a = none) → Qd (.fr (.lst acc)) n' → Q (.ref tl) H') ∧ ERel K T st F H E EQ
/-- a block that returns what is so made -/
structure DBU (T : List (Addr × Str)) (X : Cx) (E : XK) (ss : List Stmt) (m : TDE) : Prop where
  ex : ∃ t : TS, PSs X ss t ∧ ∀ (st : Option Addr) (F0 H0 F H : Hp) (σ : Sg) (z : Z) (Q : D → Z → Prop) (EQ : TEX) (D' : Ends), Rel X.K T st F0 H0 F H σ z → ERel X.K T st F0 H0 E EQ → m st z Q EQ →
    (∀ tl H' F' ds as z', Same F F' → Rel X.K T st F0 H0 F' H' σ z' → CellsL X.K F' H0 tl ds as → (∀ a ∈ tl :: as, F a = none) → Q (.lst ds) z' → D'.rt (.ref tl) H') → t D' σ H
theorem dbu_ret {T : List (Addr × Str)} {X : Cx} {E : XK} {e : Expr} {m : TDE} {pos : Pos} (h : DFU T X E e m) : DBU T X E [.Return (some e) pos] m := by
  obtain ⟨t, p, q⟩ := h.ex
  exact ⟨⟨_, pss_one (ps_ret p), fun st F0 H0 F H σ z Q EQ D' r er hm k => q st F0 H0 F H σ z Q EQ _ r er hm k⟩⟩
section
variable {P : Program} {w : World} {K : PySem.W.Frag} {T : List (Addr × Str)} {mg : Str → Option Value} {base : Heap}
def MethU (P : Program) (w : World) (K : PySem.W.Frag) (T : List (Addr × Str)) (mg : Str → Option Value) (base : Heap) (k : Nat) (C : Addr) (m : Str) (ps : List Str) (sp : DSpec) : Prop := ∃ f, Meth K C m f ∧ ∃ fd, FnOk P w K mg base (L2.CX P w) k f fd ps (toSpU K T sp) ∧ Binds K fd ps []
theorem mkMethU {C : Addr} {m qual : Str} {st : Stmt} {N ps : List Str} {k : Nat} {sp : DSpec} {tm : TDE} (F : MethAt K C m qual st) (S : FnScope N ps (defScope st)) (hb : BindsQ m qual st ps) (len : ∀ s n ds Q EQ, sp s n ds Q EQ → ds.length = ps.length)
    (hbody : ∀ (f : Addr) (cdv : Value) (A : Around) (outer : List Env) (s : Shared) (H : Hp) (E : XK), Room k (A.deeper (envOfC qual (defScope st) s.heap.objs.size f cdv)) → DBU T (cxOf (L2.CX P w) P w K mg base N qual (defScope st) f cdv A outer s H E) E (defBody st) tm)
    (hsp : ∀ s n ds Q EQ, sp s n ds Q EQ → tm s ⟨ds.map DV.sh ++ List.replicate (N.length - ds.length) .un, n⟩ (fun d z => Q (.fr d) z.n) EQ) :
    MethU P w K T mg base (k + 1) C m ps sp := by
  obtain ⟨f, fd, F, hm⟩ := F
  refine ⟨f, hm, fd, F.okX S (fun vs H Q E h => ?_) (fun cdv A outer s H vs Q E hr h => ?_), F.binds hb⟩
  · obtain ⟨F', st', n, ds, Qd, EQ, ok, r, h1, h2⟩ := h
    rw [← r.length]
    exact len _ _ _ _ _ h1
  · obtain ⟨F', st', n, ds, Qd, EQ, ok, r, h1, h2, h3⟩ := h
    obtain ⟨t, pt, qt⟩ := (hbody f cdv A outer s H E hr).ex
    exact ⟨t, pt, qt st' F' H F' H _ _ _ EQ _ (rel_start ok r) h3 (hsp st' n ds Qd EQ h1) fun tl H1 F1 acc as z1 s1 r1 c fr q => h2 tl H1 F1 acc as z1.n r1.ok c fr q⟩
end
section
variable {T : List (Addr × Str)} {X : Cx} {E : XK} {e : Expr} {pos apos : Pos} {me : TDE} {k j : Nat} {ps : List Str} {C : Addr} {m : Str} {sp : DSpec}
@[reducible, simp] def mMethU (C : Addr) (m : Str) (sp : DSpec) (me : TDE) : TDE := fun st z Q EQ => me st z (fun d z1 => ∃ fs, d = .ins C fs ∧ fs.lookup m = none ∧ sp st z1.n [d] (fun r n' => ∃ acc, r = .fr (.lst acc) ∧ Q (.lst acc) { z1 with n := n' }) EQ) EQ
theorem dfu_meth (cl : Cls X.K C) (c : MethU X.prog X.w X.K T X.mg X.base k C m ps sp) (hr : Room j X.A) (hk : k ≤ j) (hx : Passes (L2.CX X.prog X.w) X E) (he : DE T X E e me)
    (hp : ∀ {f : Addr} {fd : FuncData} {ta : TE}, Meth X.K C m f → FnOk X.prog X.w X.K X.mg X.base (L2.CX X.prog X.w) k f fd ps (toSpU X.K T sp) → Binds X.K fd ps [] → PE X e ta → PE X (.Call (.Attribute e m apos) [] [] pos) (tMeth C m (toSpU X.K T sp) [] E ta tNil)) :
    DFU T X E (.Call (.Attribute e m apos) [] [] pos) (mMethU C m sp me) := by
  obtain ⟨f, hm, fd, F, hb⟩ := c
  obtain ⟨ta, pa, qa⟩ := he.ex
  refine ⟨⟨_, hp hm F hb pa, fun st F0 H0 F H σ z Q EQ R r er h k => ?_⟩⟩
  refine qa st F0 H0 F H σ z _ EQ _ r er h fun v H1 F1 d z1 s1 r1 p1 h1 => ?_
  obtain ⟨fs, rfl, hl, h2⟩ := h1
  cases p1 with
  | ins hf hkk rr =>
    refine ⟨_, _, _, rfl, r1.ok.sub _ _ hf, (look_fs hkk rr).2 hl, ?_⟩
    show toSpU X.K T sp [V.ref _] H1 R E
    refine ⟨F1, st, z1.n, _, _, EQ, r1.ok.refl', .cons (.ins hf hkk rr) .nil, h2, fun tl H2 F2 acc as n' ok c fr qd => ?_, er.after r1.ok⟩
    obtain ⟨acc', e, hq⟩ := qd
    cases e
    exact k tl H2 F2 _ as _ (s1.trans ok.f0) (r1.after ok) (c.mono (Same.refl F2) fun a q => r1.ok.fr q) (fun a ha => Same.none s1 (fr a ha)) hq
end
end DLt
end

section
set_option Elab.async false
set_option linter.all false
set_option maxRecDepth 100000
set_option maxHeartbeats 4000000
/-! DL54: `for some, told in zip(both, [e1, e2]): for at in range(..): told[at].append(w); ..`, told's lists new, each one its own. -/
namespace DLt
open PySem PySem.Spec PyProof.Rows L2 DL
/-- what stands no matter what lists hold -/
def LeafD (d : D) : Prop := (∃ x, d = .v x) ∨ ∃ xs : List V, d = .tup (xs.map D.v)
theorem leaf_rep {K : PySem.W.Frag} {F F' : Hp} (e : ∀ b o, F b = some o → (∀ ys, o ≠ .lst ys) → F' b = some o) {d : D} {v : V} (l : LeafD d) (r : Rep K F d v) : Rep K F' d v := by
  rcases l with ⟨x, rfl⟩ | ⟨xs, rfl⟩
  · cases r; exact .v _
  · cases r with
    | tup h rr =>
      have := Reps.toV rr
      subst this
      exact .tup (sqT_re e h) (Reps.ofV _)
theorem leaf_reps {K : PySem.W.Frag} {F F' : Hp} (e : ∀ b o, F b = some o → (∀ ys, o ≠ .lst ys) → F' b = some o) {ds : List D} {vs : List V} (r : Reps K F ds vs) (l : ∀ d ∈ ds, LeafD d) : Reps K F' ds vs := by
  induction r using Reps.rec (motive_1 := fun _ _ _ => True) with
  | nil => exact .nil
  | cons h t _ ih => exact .cons (leaf_rep e (l _ (List.mem_cons_self ..)) h) (ih fun d hd => l d (List.mem_cons_of_mem _ hd))
  | _ => trivial
/-- lists of leaves -/
def LeafL (ds : List D) : Prop := ∀ d ∈ ds, ∃ c, d = .lst c ∧ ∀ e ∈ c, LeafD e
def SzL (ds : List D) : Prop := ∀ d ∈ ds, ∀ c, d = .lst c → c.length ≤ 100000
/-- the first k lists, grown by w -/
def grow (w : V) : Nat → List D → List D
  | 0, ds => ds
  | _ + 1, [] => []
  | k + 1, .lst c :: ds => .lst (c ++ [.v w]) :: grow w k ds
  | k + 1, d :: ds => d :: grow w k ds
theorem grow_leaf {w : V} : ∀ {k : Nat} {ds : List D}, LeafL ds → LeafL (grow w k ds)
  | 0, _, h => h
  | _ + 1, [], h => h
  | k + 1, d :: ds, h => by
    obtain ⟨c, rfl, hc⟩ := h d (List.mem_cons_self ..)
    have ih := grow_leaf (w := w) (k := k) (ds := ds) fun e he => h e (List.mem_cons_of_mem _ he)
    intro e he
    rcases List.mem_cons.mp he with rfl | he
    · exact ⟨_, rfl, fun e he => (List.mem_append.mp he).elim (hc e) fun q => .inl ⟨w, List.mem_singleton.mp q⟩⟩
    · exact ih e he
theorem cells_other {K : PySem.W.Frag} {F H0 : Hp} {ds : List D} {as : List Addr} {a : Addr} {xs ys : List V} (c : Cells K F H0 ds as) (l : LeafL ds) (h : F a = some (.lst xs)) (nin : a ∉ as) : Cells K (upd F a (.lst ys)) H0 ds as := by
  induction c with
  | nil => exact .nil
  | @cons b c2 ds2 zs as2 h2 f2 r2 t2 ih =>
    have ne : b ≠ a := fun e => nin (by rw [e]; exact List.mem_cons_self ..)
    obtain ⟨c3, e3, hc3⟩ := l _ (List.mem_cons_self ..)
    cases e3
    refine .cons (by rw [upd_ne ne]; exact h2) f2 (leaf_reps (fun b o q n => ?_) r2 hc3) (ih (fun e he => l e (List.mem_cons_of_mem _ he)) fun q => nin (List.mem_cons_of_mem _ q))
    by_cases e : b = a
    · subst e; rw [h] at q; cases q; exact absurd rfl (n xs)
    · rw [upd_ne e]; exact q
theorem cells_grow {K : PySem.W.Frag} {H0 : Hp} {w : V} : ∀ {F : Hp} {ds : List D} {as : List Addr} {k : Nat} {a : Addr}, Cells K F H0 (grow w k ds) as → LeafL ds → SzL ds → as.Nodup → as[k]? = some a →
    ∃ xs, F a = some (.lst xs) ∧ xs.length ≤ 100000 ∧ Cells K (upd F a (.lst (xs ++ [w]))) H0 (grow w (k + 1) ds) as
  | F, [], _, k, a, c, _, _, _, h => by
    cases k with
    | zero => cases c; cases h
    | succ k => cases c; cases h
  | F, d :: ds, as, 0, a, c, l, sz, nd, h => by
    obtain ⟨c0, rfl, hc⟩ := l d (List.mem_cons_self ..)
    have c : Cells K F H0 (.lst c0 :: ds) as := c
    cases c with
    | @cons a1 _ _ xs as' h1 f r t =>
      cases h
      refine ⟨xs, h1, by rw [← r.length]; exact sz _ (List.mem_cons_self ..) _ rfl, .cons upd_same f ((leaf_reps (fun b o q n => ?_) r hc).snoc (.v w)) ?_⟩
      · by_cases e : b = a
        · subst e; rw [h1] at q; cases q; exact absurd rfl (n xs)
        · rw [upd_ne e]; exact q
      · have nin : a ∉ as' := (List.nodup_cons.mp nd).1
        have l2 : LeafL ds := fun e he => l e (List.mem_cons_of_mem _ he)
        exact cells_other t l2 h1 nin
  | F, d :: ds, as, k + 1, a, c, l, sz, nd, h => by
    obtain ⟨c0, rfl, hc⟩ := l d (List.mem_cons_self ..)
    have c : Cells K F H0 (.lst (c0 ++ [.v w]) :: grow w k ds) as := c
    cases c with
    | @cons a1 _ _ xs as' h1 f r t =>
      have h : as'[k]? = some a := by simpa using h
      have nin : a1 ∉ as' := (List.nodup_cons.mp nd).1
      have ne : a1 ≠ a := fun e => nin (by rw [e]; exact List.mem_of_getElem? h)
      obtain ⟨ys, e1, e3, e2⟩ := cells_grow t (fun e he => l e (List.mem_cons_of_mem _ he)) (fun e he => sz e (List.mem_cons_of_mem _ he)) (List.nodup_cons.mp nd).2 h
      refine ⟨ys, e1, e3, .cons (by rw [upd_ne ne]; exact h1) f (leaf_reps (fun b o q n => ?_) r fun e he => ?_) e2⟩
      · by_cases e : b = a
        · subst e; rw [e1] at q; cases q; exact absurd rfl (n ys)
        · rw [upd_ne e]; exact q
      · rcases List.mem_append.mp he with he | he
        · exact hc e he
        · exact .inl ⟨w, List.mem_singleton.mp he⟩
theorem Cells.reps {K : PySem.W.Frag} {F H0 : Hp} {ds : List D} {as : List Addr} (c : Cells K F H0 ds as) : Reps K F ds (as.map V.ref) := by
  induction c with
  | nil => exact .nil
  | cons h f r _ ih => exact .cons (.lst h r) ih
theorem grow_len {w : V} : ∀ {k : Nat} {ds : List D}, (grow w k ds).length = ds.length
  | 0, _ => rfl
  | _ + 1, [] => rfl
  | k + 1, d :: ds => by
    cases d <;> simp [grow, grow_len (k := k) (ds := ds)]
/-- two told lists, in a list at p -/
structure Lay (K : PySem.W.Frag) (F H0 : Hp) (w : V) (p : Addr) (tl : Bool → Addr) (c : Bool → List D) (k : Bool → Nat) (as : Bool → List Addr) : Prop where
  hp : F p = some (.lst [.ref (tl false), .ref (tl true)])
  at_ : ∀ i, F (tl i) = some (.lst ((as i).map V.ref))
  nd : ∀ i, (as i).Nodup
  cs : ∀ i, Cells K F H0 (grow w (k i) (c i)) (as i)
  lf : ∀ i, LeafL (c i)
  sz : ∀ i, SzL (c i)
  np : ∀ i, ∀ a ∈ as i, a ≠ p ∧ ∀ j, a ≠ tl j
  dj : ∀ i j, ∀ a ∈ as i, a ∈ as j → i = j
theorem Lay.mono {K : PySem.W.Frag} {F F' H0 : Hp} {w : V} {p : Addr} {tl : Bool → Addr} {c : Bool → List D} {k : Bool → Nat} {as : Bool → List Addr} (s : Same F F') (l : Lay K F H0 w p tl c k as) : Lay K F' H0 w p tl c k as :=
  ⟨s _ _ l.hp, fun i => s _ _ (l.at_ i), l.nd, fun i => (l.cs i).mono s fun _ q => q, l.lf, l.sz, l.np, l.dj⟩
theorem Lay.step {K : PySem.W.Frag} {F H0 : Hp} {w : V} {p : Addr} {tl : Bool → Addr} {c : Bool → List D} {k : Bool → Nat} {as : Bool → List Addr} (l : Lay K F H0 w p tl c k as) (i : Bool) {a : Addr} (h : (as i)[k i]? = some a) :
    ∃ xs, F a = some (.lst xs) ∧ xs.length ≤ 100000 ∧ Fr H0 a ∧ Lay K (upd F a (.lst (xs ++ [w]))) H0 w p tl c (fun j => if j = i then k i + 1 else k j) as := by
  have ha : a ∈ as i := List.mem_of_getElem? h
  obtain ⟨xs, e1, e3, e2⟩ := cells_grow (l.cs i) (l.lf i) (l.sz i) (l.nd i) h
  obtain ⟨_, _, fr⟩ := (l.cs i).mem a ha
  obtain ⟨np, nt⟩ := l.np i a ha
  refine ⟨xs, e1, e3, fr, ⟨by rw [upd_ne (Ne.symm np)]; exact l.hp, fun j => by rw [upd_ne (Ne.symm (nt j))]; exact l.at_ j, l.nd, fun j => ?_, l.lf, l.sz, l.np, l.dj⟩⟩
  by_cases e : j = i
  · subst e
    simpa using e2
  · have nin : a ∉ as j := fun q => e (l.dj j i a q ha)
    simpa [e] using cells_other (l.cs j) (grow_leaf (l.lf j)) e1 nin
end DLt
end

section
set_option Elab.async false
set_option linter.all false
set_option maxRecDepth 100000
set_option maxHeartbeats 4000000
/-! DL55: the rule. -/
namespace DLt
open PySem PySem.Spec PyProof.Rows L2 DL
section
variable {K : PySem.W.Frag} {T : List (Addr × Str)} {st : Option Addr} {F0 H0 F H : Hp} {σ : Sg} {z : Z}
theorem rel_setT {i : Nat} {d : D} {v : V} (r : Rel K T st F0 H0 F H σ z) (rp : Rep K F0 d v) : Rel K T st F0 H0 F H (σ.set i (some v)) { env := z.env.set i (.bs true d), n := z.n } := by
  have self : ∀ {x : DV}, (z.env.set i (.bs true d))[i]? = some x → i < z.env.length ∧ x = .bs true d := fun {x} h => by
    by_cases hlt : i < z.env.length
    · rw [List.getElem?_set_self hlt] at h
      cases h
      exact ⟨hlt, rfl⟩
    · rw [List.getElem?_eq_none (by rw [List.length_set]; omega)] at h
      cases h
  have other : ∀ {j : Nat} {x : DV}, j ≠ i → (z.env.set i (.bs true d))[j]? = some x → z.env[j]? = some x := fun hj h => by
    rw [List.getElem?_set_ne (Ne.symm hj)] at h
    exact h
  have sg : ∀ {j : Nat}, j ≠ i → (σ.set i (some v))[j]? = σ[j]? := fun hj => List.getElem?_set_ne (Ne.symm hj)
  refine ⟨r.ok, by rw [List.length_set, r.len, List.length_set], fun j d' hj => ?_, fun j o hj => ?_, fun j l o o' c hjl hj hl => ?_, fun j kk d' hj => ?_⟩
  · by_cases e : j = i
    · subst e; cases (self hj).2
    · rw [sg e]; exact r.sh j d' (other e hj)
  · by_cases e : j = i
    · subst e; cases (self hj).2
    · rw [sg e]; exact r.ow j o (other e hj)
  · have e1 : j ≠ i := fun e => by subst e; cases (self hj).2
    have e2 : l ≠ i := fun e => by subst e; cases (self hl).2
    rw [sg e1, sg e2]
    exact r.apart j l o o' c hjl (other e1 hj) (other e2 hl)
  · by_cases e : j = i
    · subst e
      obtain ⟨hlt, q⟩ := self hj
      cases q
      exact ⟨v, List.getElem?_set_self (by rw [r.len]; exact hlt), rp⟩
    · rw [sg e]; exact r.bs j kk d' (other e hj)
theorem rel_setU {i : Nat} {v : Option V} (r : Rel K T st F0 H0 F H σ z) : Rel K T st F0 H0 F H (σ.set i v) { env := z.env.set i .un, n := z.n } :=
  rel_unset r (by rw [List.length_set]) fun j hj => List.getElem?_set_ne (Ne.symm hj)
/-- a new list grows: nothing but the base is read -/
theorem rel_app {n0 : Nat} {a : Addr} {xs ys : List V} (o0 : Ok T st F0 H0 F0 H0 n0) (r : Rel K T st F0 H0 F H σ z) (hz : ∀ (j : Nat) (x : DV), z.env[j]? = some x → x = .un ∨ ∃ d, x = .bs true d) (ha : F a = some (.lst xs)) (fr : Fr H0 a) : Rel K T st F0 H0 (upd F a (.lst ys)) (upd H a (.lst ys)) σ z := by
  have hH := r.ok.sub _ _ ha
  have nst : st ≠ some a := fun e => by
    have := (r.ok.strm a e).1
    rw [ha] at this
    cases this
  have n0' : ∀ b o, H0 b = some o → (∀ ps, o ≠ .tbl ps) → b ≠ a := fun b o h hn => fr.ne h hn
  refine ⟨⟨fun b o h => ?_, fun b ps h => ?_, fun b o h => ?_, fun b o h => ?_, fun b o h h1 h2 => ?_, fun sp h => ?_, fun p hp => ?_⟩, r.len, fun i d hi => ?_, fun i o hi => ?_, fun i j o o' c hij hi hj => ?_, fun i kk d hi => ?_⟩
  · by_cases e : b = a
    · subst e; rw [upd_same] at h ⊢; exact h
    · rw [upd_ne e] at h ⊢; exact r.ok.sub b o h
  · by_cases e : b = a
    · subst e; rw [upd_same] at h; cases h
    · rw [upd_ne e] at h; exact r.ok.nt b ps h
  · have hn : ∀ ps, o ≠ .tbl ps := fun ps e => o0.nt b ps (by rw [h, e])
    rw [upd_ne (n0' b o (o0.sub b o h) hn)]
    exact r.ok.f0 b o h
  · by_cases e : b = a
    · rw [e]; exact .inr fr
    · rw [upd_ne e] at h; exact r.ok.new b o h
  · rw [upd_ne (n0' b o h h2)]
    exact r.ok.keep b o h h1 h2
  · obtain ⟨h1, h2⟩ := r.ok.strm sp h
    have ne : sp ≠ a := fun e => nst (by rw [h, e])
    exact ⟨by rw [upd_ne ne]; exact h1, h2.at (upd_ne ne)⟩
  · obtain ⟨ps, p1, p2, p3⟩ := r.ok.tabs p hp
    have n1 : p.1 ≠ a := fun z => by rw [z, hH] at p1; cases p1
    refine ⟨ps, by rw [upd_ne n1]; exact p1, p2, fun pos cv hcv => ?_⟩
    obtain ⟨cc, e1, e2⟩ := p3 pos cv hcv
    have nc : cc ≠ a := fun z => by
      rw [z, hH] at e2
      unfold LamX.CodeO at e2
      cases e2
    exact ⟨cc, e1, by rw [upd_ne nc]; exact e2⟩
  · rcases hz _ _ hi with q | ⟨_, q⟩ <;> cases q
  · rcases hz _ _ hi with q | ⟨_, q⟩ <;> cases q
  · rcases hz _ _ hi with q | ⟨_, q⟩ <;> cases q
  · rcases hz _ _ hi with q | ⟨_, q⟩
    · cases q
    · cases q
      exact r.bs i _ _ hi
end
abbrev z4 (z : Z) (is it ia iu : Nat) (x : DV) : Z := { env := (((z.env.set is x).set it .un).set ia .un).set iu .un, n := z.n }
abbrev z5 (z : Z) (is it ia iu : Nat) (x : DV) (k : Nat) (tl : Addr) (c : List D) (u : DV) : Z := { env := (((z4 z is it ia iu x).env.set ia (.sh (iD (k : Nat)))).set it (.sh (.at tl (.lst c)))).set iu u, n := z.n }
theorem set_none {l : List DV} {i j : Nat} {x : DV} (h : (l.set i .un)[j]? = some x) (hx : x ≠ .un) : j ≠ i ∧ l[j]? = some x := by
  by_cases e : j = i
  · subst e
    by_cases hlt : j < l.length
    · rw [List.getElem?_set_self hlt] at h
      cases h
      exact absurd rfl hx
    · rw [List.getElem?_eq_none (by rw [List.length_set]; omega)] at h
      cases h
  · rw [List.getElem?_set_ne (Ne.symm e)] at h
    exact ⟨e, h⟩
@[reducible, simp] def sApart (is it ia iu ib : Nat) (w : Str) (me1 me2 : TDE) (ml : TDA) (mb : TDS) : TDS := fun st De z EQ =>
  ∃ (s1 s2 : List D), z.env[ib]? = some (.bs true (.lst [.lst s1, .lst s2])) ∧ (∀ (j : Nat) (x : DV), z.env[j]? = some x → x = .un ∨ ∃ d, x = .bs true d) ∧ (is < z.env.length ∧ it < z.env.length ∧ ia < z.env.length ∧ iu < z.env.length) ∧
  me1 st z (fun d1 z1 => z1 = z ∧ ∃ c1, d1 = .lst c1 ∧ LeafL c1 ∧ SzL c1 ∧ c1.length = s1.length ∧
  me2 st z (fun d2 z2 => z2 = z ∧ ∃ c2, d2 = .lst c2 ∧ LeafL c2 ∧ SzL c2 ∧ c2.length = s2.length ∧ s1.length ≤ 1000 ∧ s2.length ≤ 1000 ∧
    (∀ i : Bool, ml st (z4 z is it ia iu (.bs true (.lst (bif i then s2 else s1)))) (fun ds z' => z' = z4 z is it ia iu (.bs true (.lst (bif i then s2 else s1))) ∧ ds = [iD ((bif i then s2 else s1).length : Nat)]) EQ) ∧
    (∀ (i : Bool) (k : Nat), k < (bif i then s2 else s1).length → ∀ tl : Addr, mb st { nx := fun z' => ∃ u, z' = z5 z is it ia iu (.bs true (.lst (bif i then s2 else s1))) k tl (grow (.str w) (k + 1) (bif i then c2 else c1)) u, rt := De.rt }
      (z5 z is it ia iu (.bs true (.lst (bif i then s2 else s1))) k tl (grow (.str w) (k + 1) (bif i then c2 else c1)) .un) EQ) ∧
    De.nx (z4 z is it ia iu .un)) EQ) EQ
section
variable {T : List (Addr × Str)} {X : Cx} {E : XK} {e1 e2 le : Expr} {ss : List Stmt} {me1 me2 : TDE} {ml : TDA} {mb : TDS}
theorem dsd_apart (is it ia iu ib : Nat) {w : Str} {xs xt xa xb : Str} {px pt pz pb pl pc pa pr pc2 p1 p2 p3 apos p4 cpos pos1 pos2 pos tpos : Pos} {kk j2 : Nat}
    (hp : PassesOwn (model X.prog X.w) X.A X.env X.xe) (hc : X.calm = true) (hN : X.N.Nodup) (hgz : Gl X "zip") (hmz : X.mg "zip" = none) (hgr : Gl X "range") (hmr : X.mg "range" = none)
    (h1 : DFU T X E e1 me1) (h2 : DFU T X E e2 me2) (hl : DA T X E [le] ml) (hb : DB T X E ss mb)
    (hpa : ∀ {to t : TE}, PE X (.Subscript (.Name xt p1) (.Name xa p2) p3) to → PE X (.Constant (.str w) j2 p4) t → PE X (.Call (.Attribute (.Subscript (.Name xt p1) (.Name xa p2) p3) "append" apos) [.Constant (.str w) j2 p4] [] cpos) (tBM X.K "list" rAppend to (tCons t tNil)))
    (his : X.N[is]? = some xs := by rfl) (hit : X.N[it]? = some xt := by rfl) (hia : X.N[ia]? = some xa := by rfl) (hib : X.N[ib]? = some xb := by rfl)
    (hls : Loc X.env.scope xs := by first | exact Or.inl rfl | exact Or.inr rfl) (hlt : Loc X.env.scope xt := by first | exact Or.inl rfl | exact Or.inr rfl) (hla : Loc X.env.scope xa := by first | exact Or.inl rfl | exact Or.inr rfl)
    (hvt : Vis X.env.scope xt := by first | exact Or.inl rfl | exact Or.inr (Or.inl rfl) | exact Or.inr (Or.inr rfl)) (hva : Vis X.env.scope xa := by first | exact Or.inl rfl | exact Or.inr (Or.inl rfl) | exact Or.inr (Or.inr rfl)) (hvb : Vis X.env.scope xb := by first | exact Or.inl rfl | exact Or.inr (Or.inl rfl) | exact Or.inr (Or.inr rfl))
    (hdt : (xt == ("__debug__" : Str)) = false := by decide) (hda : (xa == ("__debug__" : Str)) = false := by decide) (hdb : (xb == ("__debug__" : Str)) = false := by decide)
    (hct : (xt == ("__classdict__" : Str)) = false := by decide) (hca : (xa == ("__classdict__" : Str)) = false := by decide) (hcb : (xb == ("__classdict__" : Str)) = false := by decide)
    (hfs : X.fn xs = true ∨ X.env.scope.names.lookup xs = some .local := by first | exact .inl rfl | exact .inr rfl) (hft : X.fn xt = true ∨ X.env.scope.names.lookup xt = some .local := by first | exact .inl rfl | exact .inr rfl) (hfa : X.fn xa = true ∨ X.env.scope.names.lookup xa = some .local := by first | exact .inl rfl | exact .inr rfl)
    (hne : (is ≠ it ∧ is ≠ ia ∧ is ≠ iu) ∧ it ≠ ia ∧ it ≠ iu ∧ ia ≠ iu := by decide)
    (hz1 : starEach [.Name xb pb, .List [e1, e2] pl] X.env = (false, eval (.Name xb pb) X.env) :: starEach [.List [e1, e2] pl] X.env := by rfl) (hz2 : (backTo pc (starEach [.List [e1, e2] pl] X.env)).any (·.1) = false := by rfl) (hz3 : starEach [.List [e1, e2] pl] X.env = (false, eval (.List [e1, e2] pl) X.env) :: starEach [] X.env := by rfl)
    (hz4 : starEach [e1, e2] X.env = (false, eval e1 X.env) :: starEach [e2] X.env := by rfl) (hz5 : starEach [e2] X.env = (false, eval e2 X.env) :: starEach [] X.env := by rfl) (hz6 : starEach [le] X.env = [(false, eval le X.env)] := by rfl)
    (ha1 : (assignEach [.Name xs px, .Name xt pt] X.env).length = 2 := by rfl) (ha2 : (assignEach [.Name xs px, .Name xt pt] X.env).findIdx? (·.1) = none := by rfl)
    (ha3 : (assignEach [.Name xs px, .Name xt pt] X.env).map (·.2) = assign (.Name xs px) X.env :: (assignEach [.Name xt pt] X.env).map (·.2) := by rfl) (ha4 : (assignEach [.Name xt pt] X.env).map (·.2) = assign (.Name xt pt) X.env :: (assignEach [] X.env).map (·.2) := by rfl)
    (hs1 : swapsWith (.Call (.Attribute (.Subscript (.Name xt p1) (.Name xa p2) p3) "append" apos) [.Constant (.str w) j2 p4] [] cpos) none pos1.line X.env = pure false := by rfl)
    (hi1 : ∀ v, foldedSetIterable (.Call (.Name "zip" pz) [.Name xb pb, .List [e1, e2] pl] [] pc) X.env v = pure v := by intro _; rfl) (hi2 : ∀ v, foldedSetIterable (.Call (.Name "range" pr) [le] [] pc2) X.env v = pure v := by intro _; rfl) :
    DSd T X E (.For (.Tuple [.Name xs px, .Name xt pt] kk tpos) (.Call (.Name "zip" pz) [.Name xb pb, .List [e1, e2] pl] [] pc) [.For (.Name xa pa) (.Call (.Name "range" pr) [le] [] pc2) (.Expr (.Call (.Attribute (.Subscript (.Name xt p1) (.Name xa p2) p3) "append" apos) [.Constant (.str w) j2 p4] [] cpos) pos1 :: ss) [] pos2] [] pos)
      (sApart is it ia iu ib w me1 me2 ml mb) := by
  obtain ⟨t1, q1, c1⟩ := h1.ex
  obtain ⟨t2, q2, c2⟩ := h2.ex
  obtain ⟨tl, ql, cl⟩ := hl.ex
  obtain ⟨tb, qb, cb⟩ := hb.ex
  obtain ⟨⟨nst, nsa, nsu⟩, nta, ntu, nau⟩ := hne
  refine ⟨⟨_, ps_for hp hc (pi_zip hgz hmz (pa_cons (pe_var hib hvb hdb hcb) (pa_cons (pe_lst (pa_cons q1 (pa_cons q2 pa_nil hz5) hz4)) pa_nil hz3) hz1) hz1 hz2) (pg_tup hc (pgs_cons (pg_name hN his hls hfs) (pgs_cons (pg_name hN hit hlt hft) pgs_nil ha4) ha3) ha1 ha2)
    (pss_one (ps_for hp hc (pi_range1 hgr hmr ql hz6) (pg_name hN hia hla hfa) (pss_cons (ps_expr (hpa (pe_ix ix_list (pe_var hit hvt hdt hct) (pe_var hia hva hda hca) (by exact fun _ _ => rfl)) pe_str) hs1) qb) hi2)) hi1, fun st F0 H0 F H σ z De EQ D' b0 r er h k => ?_⟩⟩
  obtain ⟨n0, o0⟩ := b0
  obtain ⟨s1, s2, hzb, hzz, ⟨ls, lt, la, lu⟩, h⟩ := h
  obtain ⟨vb, eb, rb⟩ := r.bs ib _ _ hzb
  have rb : Rep X.K F0 (.lst [.lst s1, .lst s2]) vb := rb
  cases rb with
  | @lst ab xsb _ hab rrb =>
  cases rrb with
  | @cons _ _ x1 _ rx1 trest =>
  cases trest with
  | @cons _ _ x2 _ rx2 tr2 =>
  cases tr2
  refine ⟨.ref ab, eb, ?_⟩
  refine c1 st F0 H0 F H σ z _ EQ _ r er h fun tl1 H1 F1 ds1 as1 z1 sF1 r1 cl1 fr1 g => ?_
  obtain ⟨rfl, cs1, e, lf1, sz1, len1, g⟩ := g
  cases e
  refine c2 st F0 H0 F1 H1 σ z1 _ EQ _ r1 er g fun tl2 H2 F2 ds2 as2 z2 sF2 r2 cl2 fr2 g => ?_
  obtain ⟨rfl, cs2, e, lf2, sz2, len2, bd1, bd2, gl, gb, gn⟩ := g
  cases e
  refine ⟨size_ok (by simp), fun p hpn => ?_⟩
  obtain ⟨r3, sF3⟩ := r2.laidF (u := .lst [.ref tl1, .ref tl2]) hpn (fun ps q => by cases q)
  have f2p : F2 p = none := Same.none r2.ok.sub hpn
  refine ⟨ab, p, _, _, rfl, SqL.of (r3.ok.sub _ _ (r3.ok.f0 _ _ hab)), SqL.of upd_same, ?_⟩
  obtain ⟨tls, etl⟩ : ∃ tls : Bool → Addr, tls = fun i => bif i then tl2 else tl1 := ⟨_, rfl⟩
  obtain ⟨cc, ecc⟩ : ∃ cc : Bool → List D, cc = fun i => bif i then ds2 else ds1 := ⟨_, rfl⟩
  obtain ⟨as, eas⟩ : ∃ as : Bool → List Addr, as = fun i => bif i then as2 else as1 := ⟨_, rfl⟩
  obtain ⟨sv, esv⟩ : ∃ sv : Bool → List D, sv = fun i => bif i then s2 else s1 := ⟨_, rfl⟩
  obtain ⟨xv, exv⟩ : ∃ xv : Bool → V, xv = fun i => bif i then x2 else x1 := ⟨_, rfl⟩
  have hsv : ∀ i, Rep X.K F0 (.lst (sv i)) (xv i) := fun i => by rw [esv, exv]; cases i <;> assumption
  have hbd : ∀ i, (sv i).length ≤ 1000 := fun i => by rw [esv]; cases i <;> assumption
  have hln : ∀ i, (cc i).length = (sv i).length := fun i => by rw [esv, ecc]; cases i <;> assumption
  have gl : ∀ i : Bool, _ := fun i => by have := gl i; rw [show (bif i then s2 else s1) = sv i by rw [esv]] at this; exact this
  have gb : ∀ (i : Bool) (k : Nat), _ := fun i k => by have := gb i k; rw [show (bif i then s2 else s1) = sv i by rw [esv], show (bif i then ds2 else ds1) = cc i by rw [ecc]] at this; exact this
  have in1 : ∀ a ∈ as1, ∃ ys, F1 a = some (.lst ys) := fun a ha => let ⟨ys, h, _⟩ := cl1.cs.mem a ha; ⟨ys, h⟩
  have in2 : ∀ a ∈ as2, ∃ ys, F2 a = some (.lst ys) := fun a ha => let ⟨ys, h, _⟩ := cl2.cs.mem a ha; ⟨ys, h⟩
  have no2 : ∀ a ∈ tl2 :: as2, ∀ ys, F1 a ≠ some ys := fun a ha ys e => by rw [fr2 a ha] at e; cases e
  have lay : Lay X.K (upd F2 p (.lst [.ref tl1, .ref tl2])) H0 (.str w) p tls cc (fun _ => 0) as := by
    subst etl ecc eas
    refine ⟨upd_same, fun i => ?_, fun i => ?_, fun i => ?_, fun i => ?_, fun i => ?_, fun i a ha => ?_, fun i j a ha hb => ?_⟩
    · cases i
      · exact sF3 _ _ (sF2 _ _ cl1.at_)
      · exact sF3 _ _ cl2.at_
    · cases i
      · exact cl1.nd
      · exact cl2.nd
    · cases i
      · exact cl1.cs.mono (sF2.trans sF3) fun _ q => q
      · exact cl2.cs.mono sF3 fun _ q => q
    · cases i
      · exact lf1
      · exact lf2
    · cases i
      · exact sz1
      · exact sz2
    · cases i
      · obtain ⟨ys, h⟩ := in1 a ha
        refine ⟨fun e => ?_, fun j => ?_⟩
        · rw [e] at h
          rw [sF2 _ _ h] at f2p
          cases f2p
        · cases j
          · intro e
            have e : a = tl1 := e
            exact cl1.nin (e ▸ ha)
          · exact fun e => no2 tl2 (List.mem_cons_self ..) _ (e ▸ h)
      · obtain ⟨ys, h⟩ := in2 a ha
        refine ⟨fun e => ?_, fun j => ?_⟩
        · rw [e] at h
          rw [h] at f2p
          cases f2p
        · cases j
          · intro e
            have e : a = tl1 := e
            exact no2 a (List.mem_cons_of_mem _ ha) _ (by rw [e]; exact cl1.at_)
          · intro e
            have e : a = tl2 := e
            exact cl2.nin (e ▸ ha)
    · cases i <;> cases j
      · rfl
      · obtain ⟨ys, h⟩ := in1 a ha
        exact absurd h (no2 a (List.mem_cons_of_mem _ hb) _)
      · obtain ⟨ys, h⟩ := in1 a hb
        exact absurd h (no2 a (List.mem_cons_of_mem _ ha) _)
      · rfl
  have et0 : tls false = tl1 := by rw [etl]; rfl
  have et1 : tls true = tl2 := by rw [etl]; rfl
  have toE : ∀ {x : DV} {F' H' : Hp} {σ' : Sg}, Rel X.K T st F0 H0 F' H' σ' (z4 z2 is it ia iu x) → Rel X.K T st F0 H0 F' H' σ' (z4 z2 is it ia iu .un) := fun {x F' H' σ'} r => r.forget (by rw [r.len]; simp) fun j y hj hy => by
    obtain ⟨a1, hj⟩ := set_none hj hy
    obtain ⟨a2, hj⟩ := set_none hj hy
    obtain ⟨a3, hj⟩ := set_none hj hy
    obtain ⟨a4, hj⟩ := set_none hj hy
    refine ⟨?_, rfl⟩
    show (((z2.env.set is x).set it .un).set ia .un |>.set iu .un)[j]? = some y
    rw [List.getElem?_set_ne (Ne.symm a1), List.getElem?_set_ne (Ne.symm a2), List.getElem?_set_ne (Ne.symm a3), List.getElem?_set_ne (Ne.symm a4)]
    exact hj
  have rE : Rel X.K T st F0 H0 (upd F2 p (.lst [.ref tl1, .ref tl2])) (upd H2 p (.lst [.ref tl1, .ref tl2])) σ (z4 z2 is it ia iu .un) := r3.forget (by rw [r3.len]; simp) fun j y hj hy => by
    obtain ⟨a1, hj⟩ := set_none hj hy
    obtain ⟨a2, hj⟩ := set_none hj hy
    obtain ⟨a3, hj⟩ := set_none hj hy
    obtain ⟨a4, hj⟩ := set_none hj hy
    exact ⟨hj, rfl⟩
  have z4z : ∀ (x : DV), (x = .un ∨ ∃ d, x = .bs true d) → ∀ (j : Nat) (y : DV), (z4 z2 is it ia iu x).env[j]? = some y → y = .un ∨ ∃ d, y = .bs true d := fun x hx j y hj => by
    by_cases hy : y = .un
    · exact .inl hy
    · obtain ⟨a1, hj⟩ := set_none hj hy
      obtain ⟨a2, hj⟩ := set_none hj hy
      obtain ⟨a3, hj⟩ := set_none hj hy
      by_cases e : j = is
      · subst e
        rw [List.getElem?_set_self ls] at hj
        cases hj
        exact hx
      · rw [List.getElem?_set_ne (Ne.symm e)] at hj
        exact hzz j y hj
  refine ⟨fun i m σ' H' => i ≤ 2 ∧ m = 2 - i ∧ ∃ (F' : Hp) (kk : Bool → Nat), Rel X.K T st F0 H0 F' H' σ' (z4 z2 is it ia iu .un) ∧ Lay X.K F' H0 (.str w) p tls cc kk as ∧ ∀ b, i ≤ b.toNat → kk b = 0, ⟨2, Nat.zero_le _, rfl, _, _, rE, lay, fun _ _ => rfl⟩, ?_⟩
  rintro i m σ' H' ⟨hi2, rfl, F', kk, r', lay', hk0⟩
  by_cases hlt : i < 2
  · obtain ⟨b, hbi⟩ : ∃ b : Bool, b.toNat = i := ⟨i == 1, by rcases (show i = 0 ∨ i = 1 by omega) with rfl | rfl <;> rfl⟩
    have hab' := r'.ok.sub _ _ (r'.ok.f0 _ _ hab)
    have hp' := r'.ok.sub _ _ lay'.hp
    have gx : [x1, x2][i]? = some (xv b) := by rw [exv, ← hbi]; cases b <;> rfl
    have gt : [V.ref (tls false), V.ref (tls true)][i]? = some (.ref (tls b)) := by rw [← hbi]; cases b <;> rfl
    refine .inr ⟨⟨_, _, _, _, SqL.of hab', SqL.of hp', gx, gt⟩, fun σ'' H'' => ∃ (F' : Hp) (kk : Bool → Nat), Rel X.K T st F0 H0 F' H'' σ'' (z4 z2 is it ia iu .un) ∧ Lay X.K F' H0 (.str w) p tls cc kk as ∧ ∀ b, i + 1 ≤ b.toNat → kk b = 0, ?_, ?_⟩
    · rintro σ'' H'' ⟨F'', kk', a1, a2, a3⟩
      exact ⟨2 - (i + 1), by omega, by omega, rfl, F'', kk', a1, a2, a3⟩
    · rintro v H'' ⟨Tq, xx, yy, rfl, hT, rfl, hx, hy⟩
      have hx := hx _ (SqL.of hab')
      have hy := hy _ (SqL.of hp')
      rw [gx] at hx
      rw [gt] at hy
      have ex : xv b = xx := by cases hx; rfl
      have ey : V.ref (tls b) = yy := by cases hy; rfl
      subst ex ey
      refine ⟨Tq, _, rfl, SqT.of upd_same, rfl, _, _, rfl, _, _, rfl, rfl, ?_⟩
      have r4 := r'.after (r'.ok.refl'.laid (o := .tup [xv b, .ref (tls b)]) hT)
      have r5 := rel_setT (i := is) (v := xv b) r4 (hsv b)
      have r6 := rel_setU (i := it) (v := some (.ref (tls b))) r5
      have r7 : Rel X.K T st F0 H0 F' (upd H' Tq (.tup [xv b, .ref (tls b)])) ((σ'.set is (some (xv b))).set it (some (.ref (tls b)))) (z4 z2 is it ia iu (.bs true (.lst (sv b)))) := r6.forget (by rw [r6.len]; simp) fun j y hj hy => by
        obtain ⟨a1, hj⟩ := set_none hj hy
        obtain ⟨a2, hj⟩ := set_none hj hy
        obtain ⟨a3, hj⟩ := set_none hj hy
        refine ⟨?_, rfl⟩
        rw [List.getElem?_set_ne (Ne.symm a3)]
        by_cases e : j = is
        · subst e
          rw [List.getElem?_set_self ls] at hj
          rw [List.getElem?_set_self (by simp; exact ls)]
          exact hj
        · rw [List.getElem?_set_ne (Ne.symm e)] at hj ⊢
          rw [List.getElem?_set_ne (Ne.symm a1), List.getElem?_set_ne (Ne.symm a2), List.getElem?_set_ne (Ne.symm a3), List.getElem?_set_ne (Ne.symm e)]
          exact hj
      have hls' : is < σ'.length := by rw [r'.len]; simp; exact ls
      have hlt' : it < (σ'.set is (some (xv b))).length := by rw [List.length_set, r'.len]; simp; exact lt
      refine cl st F0 H0 F' _ _ _ _ EQ _ r7 er (gl b) fun vs H3 F3 ds z3 sF4 r8 pr3 g3 => ?_
      obtain ⟨rfl, rfl⟩ := g3
      cases pr3 with
      | @cons _ _ _ _ pv pt3 =>
      cases pv
      cases pt3
      have hbb := hbd b
      refine ⟨((sv b).length : Nat), rfl, by omega, by omega, ?_⟩
      refine ⟨fun k m σ3 H3 => k ≤ (sv b).length ∧ m = (sv b).length - k ∧ ∃ (F4 : Hp) (kk' : Bool → Nat), Rel X.K T st F0 H0 F4 H3 σ3 (z4 z2 is it ia iu (.bs true (.lst (sv b)))) ∧ σ3[it]? = some (some (.ref (tls b))) ∧ Lay X.K F4 H0 (.str w) p tls cc kk' as ∧ kk' b = k ∧ (∀ b', i + 1 ≤ b'.toNat → kk' b' = 0),
        ⟨_, Nat.zero_le _, rfl, F3, kk, r8, List.getElem?_set_self hlt', lay'.mono sF4, hk0 b (by omega), fun b' hb' => hk0 b' (by omega)⟩, ?_⟩
      rintro k0 m0 σ3 H4 ⟨hkl, rfl, F4, kk', r9, eit, lay9, hkb, hk9⟩
      by_cases hkk : k0 < (sv b).length
      · refine .inr ⟨by show k0 < ((sv b).length : Int).toNat; omega, fun σ5 H5 => ∃ (F4 : Hp) (kk' : Bool → Nat), Rel X.K T st F0 H0 F4 H5 σ5 (z4 z2 is it ia iu (.bs true (.lst (sv b)))) ∧ σ5[it]? = some (some (.ref (tls b))) ∧ Lay X.K F4 H0 (.str w) p tls cc kk' as ∧ kk' b = k0 + 1 ∧ (∀ b', i + 1 ≤ b'.toNat → kk' b' = 0), ?_, ?_⟩
        · rintro σ5 H5 ⟨F5, kk5, a1, a2, a3, a4, a5⟩
          exact ⟨(sv b).length - (k0 + 1), by omega, hkk, rfl, F5, kk5, a1, a2, a3, a4, a5⟩
        · rintro v H5 ⟨rfl, rfl⟩
          rw [Int.zero_add]
          have hla3 : ia < σ3.length := by rw [r9.len]; simp; exact la
          have eia : (σ3.set ia (some (V.int ((k0 : Nat) : Int))))[ia]? = some (some (.int ((k0 : Nat) : Int))) := List.getElem?_set_self hla3
          have eit2 : (σ3.set ia (some (V.int ((k0 : Nat) : Int))))[it]? = some (some (.ref (tls b))) := by rw [List.getElem?_set_ne (Ne.symm nta)]; exact eit
          have lasl : (as b).length = (sv b).length := by
            have := (lay9.cs b).len
            rw [grow_len, hln b] at this
            exact this.symm
          obtain ⟨ak, hak⟩ : ∃ ak, (as b)[k0]? = some ak := ⟨_, List.getElem?_eq_getElem (by rw [lasl]; exact hkk)⟩
          obtain ⟨xs0, hx0, hxl, frk, lay10⟩ := lay9.step b (a := ak) (by rw [hkb]; exact hak)
          have hH := r9.ok.sub _ _ hx0
          have htl := r9.ok.sub _ _ (lay9.at_ b)
          refine ⟨.ref (tls b), eit2, .int ((k0 : Nat) : Int), eia, tls b, _, _, .ref ak, rfl, rfl, SqL.of htl, ?_, .inl ⟨rfl, _, SqL.of hH⟩, ak, xs0, _, rfl, rfl, hH, size_lt (by omega), ?_⟩
          · have : ixN ((as b).map V.ref).length (k0 : Int) = some k0 := by
              rw [List.length_map, lasl]
              unfold ixN
              rw [if_pos (by omega), if_pos (by omega)]
              simp
            unfold L2.atI
            rw [this]
            simp [hak]
          have r10 := rel_app (ys := xs0 ++ [.str w]) o0 r9 (z4z _ (.inr ⟨_, rfl⟩)) hx0 frk
          have r11 := r10.setS (i := ia) (d := iD ((k0 : Nat) : Int)) (v := .int ((k0 : Nat) : Int)) (.v _)
          have rept : Rep X.K (upd F4 ak (.lst (xs0 ++ [.str w]))) (.at (tls b) (.lst (grow (.str w) (k0 + 1) (cc b)))) (.ref (tls b)) := by
            refine .at (.lst (lay10.at_ b) ?_)
            have := (lay10.cs b).reps
            simpa [hkb] using this
          have r12 := r11.setS (i := it) rept
          have eσ : (σ3.set ia (some (V.int ((k0 : Nat) : Int)))).set it (some (V.ref (tls b))) = σ3.set ia (some (V.int ((k0 : Nat) : Int))) := List.ext_getElem? fun j => by
            by_cases e : j = it
            · subst e
              rw [List.getElem?_set_self (by rw [List.length_set, r9.len]; simp; exact lt), eit2]
            · rw [List.getElem?_set_ne (Ne.symm e)]
          rw [eσ] at r12
          have r13 : Rel X.K T st F0 H0 (upd F4 ak (.lst (xs0 ++ [.str w]))) (upd H5 ak (.lst (xs0 ++ [.str w]))) (σ3.set ia (some (V.int ((k0 : Nat) : Int)))) (z5 z2 is it ia iu (.bs true (.lst (sv b))) k0 (tls b) (grow (.str w) (k0 + 1) (cc b)) .un) := r12.forget (by rw [r12.len]; simp) fun j y hj hy => ⟨(set_none hj hy).2, rfl⟩
          refine cb st F0 H0 _ _ _ _ _ EQ _ r13 er (gb b k0 hkk (tls b)) ⟨fun σ6 H6 F6 z6 s6 r14 q => ?_, fun _ _ _ _ _ _ q => q.elim, fun _ _ _ _ _ _ q => q.elim, fun v H' F' rr n' s ok1 rr1 hq => k.rt v H' F' rr n' (r13.ok.f0.trans s) ok1 rr1 hq⟩
          obtain ⟨u, rfl⟩ := q
          refine ⟨F6, _, r14.forget (by rw [r14.len]; simp) fun j y hj hy => ?_, ?_, lay10.mono s6, by simp [hkb], fun b' hb' => ?_⟩
          · have hj0 := hj
            obtain ⟨a1, hj⟩ := set_none hj hy
            obtain ⟨a2, hj⟩ := set_none hj hy
            obtain ⟨a3, hj⟩ := set_none hj hy
            refine ⟨?_, rfl⟩
            rw [List.getElem?_set_ne (Ne.symm a1), List.getElem?_set_ne (Ne.symm a3), List.getElem?_set_ne (Ne.symm a2)]
            exact hj0
          · obtain ⟨v, e6, rv⟩ := r14.sh it _ (by rw [List.getElem?_set_ne (Ne.symm ntu), List.getElem?_set_self (by simp; exact lt)])
            cases rv
            exact e6
          · have ne : b' ≠ b := fun e => by rw [e, hbi] at hb'; omega
            simp only [if_neg ne]
            exact hk9 b' hb'
      · have e : k0 = (sv b).length := by omega
        refine .inl ⟨by show ((sv b).length : Int).toNat ≤ k0; omega, ?_⟩
        exact ⟨F4, kk', toE r9, lay9, hk9⟩
  · have e : i = 2 := by omega
    subst e
    exact .inl ⟨⟨_, _, SqL.of (r'.ok.sub _ _ (r'.ok.f0 _ _ hab)), SqL.of (r'.ok.sub _ _ lay'.hp), .inl (by simp)⟩, k.nx σ' H' F' _ r'.ok.f0 r' gn⟩
end
end DLt
end

section
set_option Elab.async false
set_option linter.all false
set_option maxRecDepth 100000
set_option maxHeartbeats 4000000
namespace K01
open PySem PySem.Spec PyProof.Rows L2 DL

theorem leaf_lit (p : Str × Bool) : DLt.LeafD (litD p) := .inr ⟨[.str p.1, .bl p.2], rfl⟩
theorem leafL_cls (cs : List Cl) : DLt.LeafL (cs.map clD) := fun d hd => by
  obtain ⟨c, _, rfl⟩ := List.mem_map.mp hd
  refine ⟨_, rfl, fun e he => ?_⟩
  obtain ⟨p, _, rfl⟩ := List.mem_map.mp he
  exact leaf_lit p
theorem szL_cls {cs : List Cl} (h : ∀ c ∈ cs, c.length ≤ 1000) : DLt.SzL (cs.map clD) := fun d hd c e => by
  obtain ⟨c', hc, rfl⟩ := List.mem_map.mp hd
  cases e
  have := h c' hc
  simp
  omega
abbrev lateX : D := strD "late"
/-- a clause as it is due behind k turns -/
def dueC (k : Nat) (p : Nat × Cl) : D := .lst (p.2.map litD ++ (if p.1 < k then [lateX] else []))
theorem grow_cls (k : Nat) : ∀ (i : Nat) (cs : List Cl), DLt.grow (.str "late") (k - i) (cs.map clD) = (cs.zipIdx i).map (fun p => dueC k (p.2, p.1))
  | i, [] => by
    cases k - i <;> rfl
  | i, c :: cs => by
    rw [List.zipIdx_cons, List.map_cons, List.map_cons, ← grow_cls k (i + 1) cs]
    by_cases h : i < k
    · obtain ⟨m, hm⟩ : ∃ m, k - i = m + 1 := ⟨k - i - 1, by omega⟩
      have e : k - (i + 1) = m := by omega
      rw [hm, e]
      show D.lst (c.map litD ++ [lateX]) :: DLt.grow _ m _ = _
      rw [dueC, if_pos h]
    · have e1 : k - i = 0 := by omega
      have e2 : k - (i + 1) = 0 := by omega
      rw [e1, e2]
      show clD c :: cs.map clD = dueC k (i, c) :: cs.map clD
      rw [dueC, if_neg h, List.append_nil]
theorem enum_zip : ∀ (i : Nat) (cs : List Cl), enumD i (cs.map clD) = (cs.zipIdx i).map (fun p => D.tup [iD (p.2 : Nat), clD p.1])
  | i, [] => rfl
  | i, c :: cs => by
    rw [List.zipIdx_cons, List.map_cons, List.map_cons, ← enum_zip (i + 1) cs]
    rfl
theorem sm_due (j k : Nat) (p : Nat × Cl) (h : p.2.length ≤ 900) : Sm (j + 3) (dueC k p) := sm_lst (by simp; split <;> simp <;> omega) fun e he => by
  rcases List.mem_append.mp he with he | he
  · obtain ⟨x, _, rfl⟩ := List.mem_map.mp he
    exact sm_lit _ x
  · split at he
    · rw [List.mem_singleton.mp he]
      exact sm_str _ _
    · cases he

section
variable {P : Program} {w : World} {K : PySem.W.Frag} {T : List (Addr × Str)} {mg : Str → Option Value} {base : Heap} {a : Ad}
theorem f_Q_wishesU (B : BQ P K mg a) : DLt.MethU P w K T mg base 1 a.C "wishes" ["self"] (sp_Q_wishes a) := by
  refine DLt.mkMethU B.m_wishes sc_Question_wishes bd_Question_wishes ?_ (fun f cdv A outer s H E hr => (DLt.dbu_ret (DLt.dfu_comp (ws := [1]) (by rfl) sc_Question_wishes.nd (di_seq (de_fld B.Question.cl B.na_own_wishes (de_var 0))) (blkOk_by (own := [("clause", 1)]) (by rfl)) (by decide) (fun _ _ _ _ _ => (dg_name 1 sc_Question_wishes.nd)) (fun _ _ _ _ _ => dts_nil) (fun _ _ _ _ _ => (dn_ct (call_list_of) (by rfl) B.list (by rfl) p_list (da_cons (de_var 1) da_nil)))))) ?_
  · intro s n ds Q EQ h
    dsimp only [sp_Q_wishes] at h
    obtain ⟨_, rfl, _⟩ := h; rfl
  · intro s n ds Q EQ h
    dsimp only [sp_Q_wishes] at h
    obtain ⟨q, rfl, ok, h⟩ := h
    simp
    refine comp_mapL (f := clD) (by have := ok.wl; omega) (fun c hc R R2 h1 h2 => ?_) (by simpa using h)
    simp
    refine h2 _ ?_
    simp
    refine ⟨lfDs_of fun d hd => ?_, h1 _ rfl⟩
    obtain ⟨p, _, rfl⟩ := List.mem_map.mp hd
    rfl
theorem f_Q_guardsU (B : BQ P K mg a) : DLt.MethU P w K T mg base 1 a.C "guards" ["self"] (sp_Q_guards a) := by
  refine DLt.mkMethU B.m_guards sc_Question_guards bd_Question_guards ?_ (fun f cdv A outer s H E hr => (DLt.dbu_ret (DLt.dfu_comp (ws := [1]) (by rfl) sc_Question_guards.nd (di_seq (de_fld B.Question.cl B.na_own_guards (de_var 0))) (blkOk_by (own := [("clause", 1)]) (by rfl)) (by decide) (fun _ _ _ _ _ => (dg_name 1 sc_Question_guards.nd)) (fun _ _ _ _ _ => dts_nil) (fun _ _ _ _ _ => (dn_ct (call_list_of) (by rfl) B.list (by rfl) p_list (da_cons (de_var 1) da_nil)))))) ?_
  · intro s n ds Q EQ h
    dsimp only [sp_Q_guards] at h
    obtain ⟨_, rfl, _⟩ := h; rfl
  · intro s n ds Q EQ h
    dsimp only [sp_Q_guards] at h
    obtain ⟨q, rfl, ok, h⟩ := h
    simp
    refine comp_mapL (f := clD) (by have := ok.gl; omega) (fun c hc R R2 h1 h2 => ?_) (by simpa using h)
    simp
    refine h2 _ ?_
    simp
    refine ⟨lfDs_of fun d hd => ?_, h1 _ rfl⟩
    obtain ⟨p, _, rfl⟩ := List.mem_map.mp hd
    rfl

theorem sc__law_apart : FnScope ["question", "marks", "wishes", "guards", "both", "made", "some", "told", "at", "due", "place", "clause"] ["question"] (defScope (topS 40)) := ⟨rfl, rfl, rfl, by decide +kernel, rfl, by decide +kernel, by decide +kernel⟩
theorem bd__law_apart : BindsH "_law_apart" (topS 40) ["question"] := fun _ _ _ _ _ _ us hl => match us, hl with | [_], _ => rfl
def sp__law_apart : DSpec := fun _ n ds Q _ => ∃ (q : Qn), ds = [rawD q] ∧ Few q ∧ Q (.sh (blD true)) n
theorem f__law_apart (B : BM P K mg a) : Fn P w K T mg base 8 "_law_apart" ["question"] (sp__law_apart) := by
  refine mkFn B._law_apart sc__law_apart bd__law_apart ?_ (fun f cdv A outer s H E hr => (db_cons (ds_par3 1 2 3 (by rfl) sc__law_apart.nd (da_cons (de_ix ix_tup p_ixT (de_var 0) de_int) (da_cons (dn_slice (de_ix ix_tup p_ixT (de_var 0) de_int) do_none (do_some de_int)).sh (da_cons (dn_slice (de_ix ix_tup p_ixT (de_var 0) de_int) do_none (do_some de_int)).sh da_nil)))) (db_cons (ds_setN 4 sc__law_apart.nd (dn_lst (da_cons (dn_op op_cat p_cat (dn_op op_cat p_cat (de_var 2) (de_var 2)).sh (dn_lst (da_cons (dn_lst da_nil).sh (da_cons (dn_lst da_nil).sh da_nil))).sh).sh (da_cons (dn_op op_cat p_cat (de_var 3) (de_var 3)).sh da_nil)))) (db_frz 4 (db_cons (ds_setF 5 sc__law_apart.nd (dfr_make (f_Q_init B.toBQ) hr (by decide) (by rfl) passX (da_cons (de_var 1) (da_cons (de_ix ix_list p_ixL (de_var 4) de_int) (da_cons (de_ix ix_list p_ixL (de_var 4) de_int) da_nil))))) (db_scopeD (dbd_cons (DLt.dsd_apart 6 7 8 9 4 ownX (by rfl) sc__law_apart.nd (by rfl) B.zip (by rfl) B.range (DLt.dfu_meth B.Question.cl (f_Q_wishesU B.toBQ) hr (by decide) passX (de_var 5) (fun hm F hb pa => pe_meth0 pa B.Question.cl hm F (hr.mono (by decide)) hb .nil passX)) (DLt.dfu_meth B.Question.cl (f_Q_guardsU B.toBQ) hr (by decide) passX (de_var 5) (fun hm F hb pa => pe_meth0 pa B.Question.cl hm F (hr.mono (by decide)) hb .nil passX)) (da_cons (de_cb call_lenAll (by rfl) B.len (by rfl) p_len (da_cons (de_var 6) da_nil)) da_nil) (db_cons (ds_comp 9 (ws := [10, 11]) (by rfl) sc__law_apart.nd (di_enum (by rfl) B.enumerate (da_cons (de_var 6) da_nil)) (blkOk_by (own := [("place", 10), ("clause", 11)]) (by rfl)) (by decide) (fun _ _ _ _ _ => (dg_tup2 (by rfl) (dg_name 10 sc__law_apart.nd) (dg_name 11 sc__law_apart.nd))) (fun _ _ _ _ _ => dts_nil) (fun _ _ _ _ _ => (dn_op op_cat p_cat (de_var 11) (dn_op op_rep p_rep (dn_lst (da_cons de_str da_nil)).sh (de_ct call_int1 (by rfl) B.int (by rfl) p_int (da_cons (de_cmp op_le p_I0 (de_var 10) (de_var 8) (by rfl)) da_nil))).sh).sh) (hsw := sw_true rfl rfl rfl rfl)) (db_frz 9 (db_one (ds_if (dt_not (dt_val (de_call (f__law_same_at B.toBF 4) hr (by decide) (by rfl) passX (da_cons (de_varU 7) (da_cons (de_var 9) da_nil))))) (db_one (ds_ret de_bl)) db_nil)))) (fun h1 h2 => pe_bm PySem.F.plainAttrs_list PySem.F.slot_list_append PySem.F.type_list_append mt_append h1 (pa_cons h2 pa_nil))) (dbd_one (dsd (ds_ret de_bl)))))))))) ?_
  · intro s n ds Q EQ h
    dsimp only [sp__law_apart] at h
    obtain ⟨_, rfl, _⟩ := h; rfl
  · intro s n ds Q EQ h
    dsimp only [sp__law_apart] at h
    obtain ⟨q, rfl, few, h⟩ := h
    obtain ⟨w7, hw7⟩ : ∃ w7, w7 = q.wishes.take 7 := ⟨_, rfl⟩
    obtain ⟨g7, hg7⟩ : ∃ g7, g7 = q.guards.take 7 := ⟨_, rfl⟩
    have lw7 : w7.length ≤ 7 := by rw [hw7, List.length_take]; omega
    have lg7 : g7.length ≤ 7 := by rw [hg7, List.length_take]; omega
    have mw7 : ∀ c ∈ w7, c ∈ q.wishes := fun c hc => by rw [hw7] at hc; exact List.mem_of_mem_take hc
    have mg7 : ∀ c ∈ g7, c ∈ q.guards := fun c hc => by rw [hg7] at hc; exact List.mem_of_mem_take hc
    have c7 : ∀ ds : List D, DL.cutD ds none (some 7) = ds.take 7 := fun ds => cut_to (by decide)
    refine bCut (fun z => z = ⟨[.sh (rawD q), .sh (.lst (q.marks.map markD)), .sh (.lst (w7.map clD)), .sh (.lst (g7.map clD)), .un, .un, .un, .un, .un, .un, .un, .un], n⟩) (fun C hC => ?_) (fun z hz => ?_)
    · have := hC _ rfl
      rw [hw7, hg7] at this
      simp [-rawD, c7]
      exact ⟨_, _, _, ⟨rfl, rfl, rfl⟩, by simpa [-rawD] using this⟩
    subst hz
    obtain ⟨ws, hws⟩ : ∃ ws, ws = w7 ++ w7 ++ [[], []] := ⟨_, rfl⟩
    obtain ⟨gs, hgs⟩ : ∃ gs, gs = g7 ++ g7 := ⟨_, rfl⟩
    refine bCut (fun z => z = ⟨[.sh (rawD q), .sh (.lst (q.marks.map markD)), .sh (.lst (w7.map clD)), .sh (.lst (g7.map clD)), .ow (.lst [.lst (ws.map clD), .lst (gs.map clD)]), .un, .un, .un, .un, .un, .un, .un], n⟩) (fun C hC => ?_) (fun z hz => ?_)
    · simp [-rawD]
      exact ⟨by omega, by omega, by omega, hC _ (by rw [hws, hgs]; simp)⟩
    subst hz
    refine ⟨_, rfl, ?_⟩
    have lws : ws.length ≤ 16 := by rw [hws]; simp; omega
    have lgs : gs.length ≤ 14 := by rw [hgs]; simp; omega
    have kw : ∀ c ∈ ws, (c.map (·.1)).Sublist q.names ∧ c.length ≤ 16 := fun c hc => by
      rw [hws] at hc
      simp at hc
      rcases hc with hc | rfl
      · exact ⟨few.ok.ws c (mw7 c hc), few.cl (.inl (mw7 c hc))⟩
      · exact ⟨List.nil_sublist _, by simp⟩
    have kg : ∀ c ∈ gs, (c.map (·.1)).Sublist q.names ∧ c.length ≤ 16 := fun c hc => by
      rw [hgs] at hc
      simp at hc
      exact ⟨few.ok.gs c (mg7 c hc), few.cl (.inr (mg7 c hc))⟩
    have nq : NearQ ⟨q.marks, ws, gs⟩ := near_c few (fun c hc => (kw c hc).1) (fun c hc => (kg c hc).1) (by omega) (by omega)
    obtain ⟨q', hq'⟩ : ∃ q' : Qn, q' = ⟨q.marks, ws, gs⟩ := ⟨_, rfl⟩
    refine bCut (fun z => z = ⟨[.sh (rawD q), .sh (.lst (q.marks.map markD)), .sh (.lst (w7.map clD)), .sh (.lst (g7.map clD)), .sh (.lst [.lst (ws.map clD), .lst (gs.map clD)]), .bs false (qD a.C q'), .un, .un, .un, .un, .un, .un], n⟩) (fun C hC => ?_) (fun z hz => ?_)
    · simp [-rawD, -qD]
      refine init_near a nq ?_
      rw [← hq']
      exact hC _ rfl
    subst hz
    have ok' : q'.Ok := by rw [hq']; exact nq.ok
    simp only [bScope, Z.ob, List.map, DV.ob]
    refine ⟨ws.map clD, gs.map clD, rfl, fun j x hj => ?_, ⟨by simp, by simp, by simp, by simp⟩, ?_⟩
    · have := List.mem_of_getElem? hj
      simp only [List.mem_cons, List.not_mem_nil, or_false] at this
      rcases this with rfl | rfl | rfl | rfl | rfl | rfl | rfl | rfl | rfl | rfl | rfl | rfl <;> first | exact .inl rfl | exact .inr ⟨_, rfl⟩
    have eW : q'.wishes = ws := by rw [hq']
    have eG : q'.guards = gs := by rw [hq']
    have lk : ∀ {x : Str}, (x ≠ "own_marks" ∧ x ≠ "own_names" ∧ x ≠ "own_wishes" ∧ x ≠ "own_guards") → (fieldsD q').lookup x = none := fun h => by
      rw [List.lookup_eq_none_iff]
      intro p hp
      simp only [List.mem_cons, List.not_mem_nil, or_false] at hp
      rcases hp with rfl | rfl | rfl | rfl
      · simpa using h.1
      · simpa using h.2.1
      · simpa using h.2.2.1
      · simpa using h.2.2.2
    refine ⟨_, rfl, lk (by decide +kernel), q', rfl, ok', _, rfl, rfl, ws.map clD, by rw [eW], leafL_cls _, szL_cls fun c hc => by have := (kw c hc).2; omega, rfl, ?_⟩
    refine ⟨_, rfl, lk (by decide +kernel), q', rfl, ok', _, rfl, rfl, gs.map clD, by rw [eG], leafL_cls _, szL_cls fun c hc => by have := (kg c hc).2; omega, rfl, by simp; omega, by simp; omega, fun i => ?_, fun i k hk tl => ?_, ?_⟩
    · simp [-rawD, -qD]
      cases i
      · show (ws.map clD).length ≤ 1000000
        simp; omega
      · show (gs.map clD).length ≤ 1000000
        simp; omega
    · obtain ⟨cs, hcs⟩ : ∃ cs : List Cl, cs = bif i then gs else ws := ⟨_, rfl⟩
      have ecs : (bif i then gs.map clD else ws.map clD) = cs.map clD := by rw [hcs]; cases i <;> rfl
      have kc : ∀ c ∈ cs, c.length ≤ 16 := by
        rw [hcs]
        cases i
        · exact fun c hc => (kw c hc).2
        · exact fun c hc => (kg c hc).2
      have lcs : cs.length ≤ 20 := by rw [hcs]; cases i <;> simp <;> omega
      rw [ecs] at hk ⊢
      have eg := grow_cls (k + 1) 0 cs
      rw [Nat.sub_zero] at eg
      rw [eg]
      obtain ⟨G, hG⟩ : ∃ G, G = (cs.zipIdx).map (fun p => dueC (k + 1) (p.2, p.1)) := ⟨_, rfl⟩
      rw [← hG]
      have lG : G.length = cs.length := by rw [hG]; simp
      refine bCut (fun z => z = ⟨[.bs true (rawD q), .bs true (.lst (q.marks.map markD)), .bs true (.lst (w7.map clD)), .bs true (.lst (g7.map clD)), .bs true (.lst [.lst (ws.map clD), .lst (gs.map clD)]), .bs true (qD a.C q'), .bs true (.lst (cs.map clD)), .sh (.at tl (.lst G)), .sh (iD k), .ow (.lst G), .un, .un], n⟩) (fun C hC => ?_) (fun z hz => ?_)
      · simp [-rawD, -qD]
        rw [enum_zip]
        refine comp_mapL (h := fun p : Cl × Nat => .tup [iD (p.2 : Nat), clD p.1]) (f := fun p => dueC (k + 1) (p.2, p.1)) (by simp; omega) (fun p hp R R2 g1 g2 => ?_) ?_
        · have hm : p.1 ∈ cs := by
            obtain ⟨c, i⟩ := p
            exact (List.mem_zipIdx' hp).2 ▸ List.getElem_mem _
          have hl := kc p.1 hm
          refine ⟨(iD (p.2 : Nat), clD p.1), by simp, g2 _ ?_⟩
          simp [-rawD, -qD]
          have ef := g1 ⟨[.bs true (rawD q), .bs true (.lst (q.marks.map markD)), .bs true (.lst (w7.map clD)), .bs true (.lst (g7.map clD)), .bs true (.lst [.lst (ws.map clD), .lst (gs.map clD)]), .bs true (qD a.C q'), .bs true (.lst (cs.map clD)), .sh (.at tl (.lst G)), .sh (iD k), .un, .sh (iD (p.2 : Nat)), .sh (clD p.1)], n⟩ rfl
          by_cases hpk : p.2 ≤ k
          · rw [if_pos hpk]
            refine ⟨by decide, by decide, by decide, by omega, ?_⟩
            rw [dueC, if_pos (show p.2 < k + 1 by omega)] at ef
            exact ef
          · rw [if_neg hpk]
            refine ⟨by decide, by decide, by decide, by simp; omega, ?_⟩
            rw [dueC, if_neg (show ¬ p.2 < k + 1 by omega)] at ef
            exact ef
        · have := hC _ rfl
          rw [← hG]
          exact this
      subst hz
      refine ⟨_, rfl, ?_⟩
      have sG : Sm 4 (.lst G) := sm_lst (by omega) fun e he => by
        rw [hG] at he
        obtain ⟨p, hp, rfl⟩ := List.mem_map.mp he
        have hm : p.1 ∈ cs := by
          obtain ⟨c, i⟩ := p
          exact (List.mem_zipIdx' hp).2 ▸ List.getElem_mem _
        have := kc p.1 hm
        exact sm_due 0 _ _ (by show p.1.length ≤ 900; omega)
      refine iCut (fun b m => m = n ∧ b = false) (fun R hR => ?_) (fun b m hb => ?_)
      · simp [-rawD, -qD]
        exact ⟨_, rfl, sG, .inr ⟨rfl, hR _ _ ⟨rfl, rfl⟩⟩⟩
      obtain ⟨rfl, rfl⟩ := hb
      exact ⟨nofun, fun _ => ⟨.sh (.lst G), rfl⟩⟩
    simp [-rawD, -qD]
    exact h


end
end K01
end

section
set_option Elab.async false
set_option linter.all false
set_option maxRecDepth 100000
set_option maxHeartbeats 4000000
namespace K01
open PySem PySem.Spec PyProof.Rows L2 DL

section
variable {P : Program} {w : World} {K : PySem.W.Frag} {T : List (Addr × Str)} {mg : Str → Option Value} {base : Heap} {a : Ad}
/-- whether any thing is a hand, numbers of any size -/
def HandW (d : D) (b : Bool) : Prop := HandB d b ∨ (b = true ∧ ∃ i j : Int, LT d [iD i, iD j] ∧ 0 < i ∧ i < j)
def sp_is_handW : DSpec := fun _ n ds Q _ => ∃ d b, ds = [d] ∧ HandW d b ∧ Q (.sh (blD b)) n
theorem f_is_handW (B : BF P K mg a) : Fn P w K T mg base 2 "is_hand" ["thing"] (sp_is_handW) := by
  refine mkFn B.is_hand sc_is_hand bd_is_hand ?_ (fun f cdv A outer s H E hr => (db_cons (ds_if (dt_val (de_is1 (by rfl) B.isinstance (by rfl) B.str (de_var 0))) (db_one (ds_ret (de_cmp op_in_seq (p_inSeq (neg := false)) (de_var 0) (de_tupC (dk_consC de_str (dk_consC de_str dk_nilC))) (by rfl)))) db_nil) (db_cons (ds_if (DW.t (dw_or (dt_not (dt_val (de_call (f_is_list B) hr (by decide) (by rfl) passX (da_cons (de_var 0) da_nil)))) (dw_or (dt_cmp op_ne p_ne (de_cb call_lenAll (by rfl) B.len (by rfl) p_len (da_cons (de_var 0) da_nil)) de_int (by rfl)) (dw_or1 (dt_not (dt_val (de_cb (cr_all (by rfl)) (by rfl) B.all (by rfl) p_all (da_cons (dn_comp (ws := [1]) (by rfl) sc_is_hand.nd (di_seq (de_var 0)) (blkOk_by (own := [("part", 1)]) (by rfl)) (by decide) (fun _ _ _ _ _ => (dg_name 1 sc_is_hand.nd)) (fun _ _ _ _ _ => dts_nil) (fun _ _ _ _ _ => (de_call (f_is_integer B) hr (by decide) (by rfl) passL (da_cons (de_var 1) da_nil)))).sh da_nil)))))))) (db_one (ds_ret de_bl)) db_nil) (db_one (ds_ret (de_chain op_lt p_I0 op_lt p_I0 de_int (de_ix ix_any p_ixA (de_var 0) de_int) (de_ix ix_any p_ixA (de_var 0) de_int))))))) ?_
  · intro s n ds Q EQ h
    dsimp only [sp_is_handW] at h
    obtain ⟨_, _, rfl, _⟩ := h; rfl
  · intro s n ds Q EQ h
    dsimp only [sp_is_handW] at h
    obtain ⟨d, b, rfl, hb, h⟩ := h
    have go : ∀ t, (t = "list" ∨ t = "tuple") → (isB t ["list", "tuple"] = true ∧ isB t ["str"] = false) := by rintro t (rfl | rfl) <;> decide
    rcases hb with hb | ⟨rfl, i, j, key, q1, q2⟩
    rotate_left
    · rcases key with rfl | rfl
      · simp [compD, q1, q2]
        exact ⟨by simpa using h, fun q => by omega⟩
      · simp [compD, q1, q2]
        exact ⟨by simpa using h, fun q => by omega⟩
    cases hb with
    | good hd d hl hg =>
      cases hd with
      | we =>
        cases hl
        simpa using h
      | they =>
        cases hl
        simpa using h
      | ch i j =>
        simp [Hand.good] at hg
        have key : LT d [iD i, iD j] := by
          cases hl with
          | tl hh =>
            cases hh with | cons h1 hh => cases hh with | cons h2 hh => cases hh; cases h1; cases h2; exact .inl rfl
          | tt hh =>
            cases hh with | cons h1 hh => cases hh with | cons h2 hh => cases hh; cases h1; cases h2; exact .inr rfl
        rcases key with rfl | rfl
        · simp [compD, hg.1, hg.2.1]
          exact ⟨by simpa using h, fun q => by omega⟩
        · simp [compD, hg.1, hg.2.1]
          exact ⟨by simpa using h, fun q => by omega⟩
    | str x hx =>
      simp
      have e : (("we" : Str) == x || ("they" : Str) == x) = false := by
        rw [Bool.or_eq_false_iff]
        exact ⟨beq_eq_false_iff_ne.mpr fun q => hx (.inl q.symm), beq_eq_false_iff_ne.mpr fun q => hx (.inr q.symm)⟩
      rw [e]
      exact h
    | non d h1 h2 =>
      obtain ⟨t, ht, hb⟩ := h1
      obtain ⟨t', ht', hb'⟩ := h2
      rw [ht] at ht'
      cases ht'
      simp [-isB]
      exact ⟨t, ht, fun q => absurd q (by rw [hb]; decide), fun _ => ⟨t, ht, fun _ => h, fun q => absurd q (by rw [hb']; decide)⟩⟩
    | len es d hd h2 hl =>
      rcases hd with rfl | rfl
      · simp
        exact ⟨by omega, .inr ⟨by omega, h⟩⟩
      · simp
        exact ⟨by omega, .inr ⟨by omega, h⟩⟩
    | part x y d hd tx ty hx hy h2 =>
      have key : (tx = "int" ∨ tx = "bool" → tx = "bool") ∨ (ty = "int" ∨ ty = "bool" → ty = "bool") := by
        simp at h2
        by_cases q : (tx = "int" ∨ tx = "bool") ∧ ¬ tx = "bool"
        · exact .inr fun q2 => h2 q.1 q.2 q2
        · exact .inl fun q2 => Classical.byContradiction fun q3 => q ⟨q2, q3⟩
      rcases hd with rfl | rfl
      · simp [compD]
        refine ⟨tx, hx, ty, hy, fun _ => h, fun q1 q2 q3 q4 => ?_⟩
        rcases key with k | k
        · exact absurd (k q1) q2
        · exact absurd (k q3) q4
      · simp [compD]
        refine ⟨tx, hx, ty, hy, fun _ => h, fun q1 q2 q3 q4 => ?_⟩
        rcases key with k | k
        · exact absurd (k q1) q2
        · exact absurd (k q3) q4
    | num i j d hd h2 =>
      rcases hd with rfl | rfl
      all_goals
        simp [compD]
        refine ⟨fun q => ?_, fun _ => h⟩
        rw [decide_eq_false (fun q2 => h2 ⟨q, q2⟩)]
        exact h
theorem kw_is_hand (B : BF P K mg a) : FnKw P w K T mg base 2 "is_hand" ["thing"] sp_is_handW ["thing"] id := mkKw1 (f_is_handW B) B.is_hand fun _ _ _ _ _ _ _ => rfl
theorem iterCut {mi : TDA} {g : TDG} {mb : TDS} {st : Option Addr} {Ds : DEnds} {z : Z} {EQ : TEX} (J : List D → Z → Prop) (h1 : ∀ R : List D → Z → Prop, (∀ ds z1, J ds z1 → R ds z1) → mi st z R EQ) (h2 : ∀ ds z1, J ds z1 → forD g mb st Ds EQ ds z1) : sFor mi g mb st Ds z EQ := h1 _ h2
def hands1 : List D := [strD "we", strD "they", .tup [iD 1, iD 2], .lst [iD 1, iD 2], .tup [iD 2, iD 4], .tup [iD 999, iD 1000], .tup [iD 1, iD (10 ^ 9)], .tup [iD 1, iD 1], .tup [iD 0, iD 1], .tup [iD 2, iD 1], .tup [iD (-1), iD 2], .tup [iD 1], .tup []]
def hands2 : List D := [.v .non, iD 5, strD "chance", strD "", strD "We", .dic [], blD true, .tup [blD true, iD 2], .tup [iD 1, blD true], .tup [iD 1, strD "2"], .tup [iD 1, iD 2, iD 3], .lst [strD "we"], .tup [iD 1, .v .non]]
def handsB : List (D × Bool) := (hands1.zip (List.replicate 7 true ++ List.replicate 6 false)) ++ hands2.zip (List.replicate 13 false)
theorem lH : handsB.length = 26 := rfl
theorem hands_map : hands1 ++ hands2 = handsB.map (·.1) := rfl
theorem hands_ok : ∀ p ∈ handsB, HandW p.1 p.2 := fun p hp => by
  simp only [handsB, hands1, hands2, List.replicate, List.zip, List.zipWith, List.cons_append, List.nil_append, List.mem_cons, List.not_mem_nil, or_false] at hp
  have ch : ∀ (i j : Int) (d : D), LT d [iD i, iD j] → 0 < i → i < j → HandW d true := fun i j d h h1 h2 => .inr ⟨rfl, i, j, h, h1, h2⟩
  have nu : ∀ (i j : Int) (d : D), LT d [iD i, iD j] → ¬ (0 < i ∧ i < j) → HandW d false := fun i j d h h1 => .inl (.num i j d h h1)
  have non : ∀ (d : D) (t : String), tyS d = some t → isB t ["str"] = false → isB t ["list", "tuple"] = false → HandW d false := fun d t h h1 h2 => .inl (.non d (kn t h h1) (kn t h h2))
  rcases hp with rfl | rfl | rfl | rfl | rfl | rfl | rfl | rfl | rfl | rfl | rfl | rfl | rfl | rfl | rfl | rfl | rfl | rfl | rfl | rfl | rfl | rfl | rfl | rfl | rfl | rfl
  · exact .inl (.good .we _ (.v _) rfl)
  · exact .inl (.good .they _ (.v _) rfl)
  · exact ch 1 2 _ (.inr rfl) (by decide) (by decide)
  · exact ch 1 2 _ (.inl rfl) (by decide) (by decide)
  · exact ch 2 4 _ (.inr rfl) (by decide) (by decide)
  · exact ch 999 1000 _ (.inr rfl) (by decide) (by decide)
  · exact ch 1 (10 ^ 9) _ (.inr rfl) (by decide) (by decide)
  · exact nu 1 1 _ (.inr rfl) (by decide)
  · exact nu 0 1 _ (.inr rfl) (by decide)
  · exact nu 2 1 _ (.inr rfl) (by decide)
  · exact nu (-1) 2 _ (.inr rfl) (by decide)
  · exact .inl (.len [iD 1] _ (.inr rfl) (by simp) (by simp))
  · exact .inl (.len [] _ (.inr rfl) (by simp) (by simp))
  · exact non _ "NoneType" rfl (by decide) (by decide)
  · exact non _ "int" rfl (by decide) (by decide)
  · exact .inl (.str _ (by decide +kernel))
  · exact .inl (.str _ (by decide +kernel))
  · exact .inl (.str _ (by decide +kernel))
  · exact non _ "dict" rfl (by decide) (by decide)
  · exact non _ "bool" rfl (by decide) (by decide)
  · exact .inl (.part _ _ _ (.inr rfl) "bool" "int" rfl rfl (by decide))
  · exact .inl (.part _ _ _ (.inr rfl) "int" "bool" rfl rfl (by decide))
  · exact .inl (.part _ _ _ (.inr rfl) "int" "str" rfl rfl (by decide))
  · exact .inl (.len [iD 1, iD 2, iD 3] _ (.inr rfl) (by simp) (by simp))
  · exact .inl (.len [strD "we"] _ (.inl rfl) (by simp) (by simp))
  · exact .inl (.part _ _ _ (.inr rfl) "int" "NoneType" rfl rfl (by decide))

theorem sc_law : FnScope ["script", "turn", "stream", "many", "question", "hands", "found", "hand"] ["script"] (defScope (topS 46)) := ⟨rfl, rfl, rfl, by decide +kernel, rfl, by decide +kernel, by decide +kernel⟩
theorem bd_law : BindsH "law" (topS 46) ["script"] := fun _ _ _ _ _ _ us hl => match us, hl with | [_], _ => rfl
def sp_law : DSpec := fun st n ds Q _ => ∃ xs : List Int, st = none ∧ ds = [.lsz xs] ∧ n = 0 ∧ xs.length ≤ 63 ∧ (∀ x ∈ xs, Builtin.Int.intBits x ≤ 1048576) ∧ ∀ m, Q (.sh (blD true)) m
theorem f_law (B : BM P K mg a) (c1 P1 : Addr) (F1 : FunC K mg "_law_ordered" (topS 43) c1) (tb1 : LamX.TabB base mg c1 P1) (hT1 : (P1, (("_law_ordered" : Str) ++ ".<locals>.") ++ "<lambda>") ∈ T) (hU1 : ∀ p ∈ T, p.1 = P1 → p.2 = (("_law_ordered" : Str) ++ ".<locals>.") ++ "<lambda>") (c2 P2 : Addr) (F2 : FunC K mg "_law_refused_right" (topS 45) c2) (tb2 : LamX.TabB base mg c2 P2) (hT2 : (P2, (("_law_refused_right" : Str) ++ ".<locals>.") ++ "<lambda>") ∈ T) (hU2 : ∀ p ∈ T, p.1 = P2 → p.2 = (("_law_refused_right" : Str) ++ ".<locals>.") ++ "<lambda>") : FnR P w K T mg base 13 "law" ["script"] (sp_law) := by
  refine mkFnR B.law sc_law bd_law ?_ (fun f cdv A outer s H E hg hr => (db_cons (ds_for ownX (by rfl) (di_range1 (by rfl) B.range (da_cons de_int da_nil)) (dg_name 1 sc_law.nd) (db_cons (ds_setN 2 sc_law.nd (dn_call (f__law_stream B.toBF) hr (by decide) (by rfl) passX (da_cons (de_var 0) (da_cons (de_var 1) da_nil)))) (db_strm 2 (db_cons (ds_for ownX (by rfl) (di_seq (de_tup (da_cons de_int (da_cons (de_op op_add p_I0 de_int (de_call (f__law_draw B.toBF) hr (by decide) (by rfl) passX (da_cons (de_var 2) (da_cons de_int da_nil)))) (da_cons (de_op op_add p_I0 de_int (de_call (f__law_draw B.toBF) hr (by decide) (by rfl) passX (da_cons (de_var 2) (da_cons de_int da_nil)))) da_nil))))) (dg_name 3 sc_law.nd) (db_cons (ds_set 4 sc_law.nd (de_call (f__law_q_drawn B.toBF) hr (by decide) (by rfl) passX (da_cons (de_var 2) (da_cons (de_var 3) (da_cons (de_cmp op_eq p_eq (de_call (f__law_draw B.toBF) hr (by decide) (by rfl) passX (da_cons (de_var 2) (da_cons de_int da_nil))) de_int (by rfl)) da_nil))))) (db_one (ds_if (DW.t (dw_or (dt_not (dt_val (de_callR (f__law_told_right B) hg hr (by decide) (by rfl) passX (da_cons (de_var 2) (da_cons (de_var 4) da_nil))))) (dw_or (dt_not (dt_val (de_call (f__law_like B c1 P1 F1 tb1 hT1 hU1) hr (by decide) (by rfl) passX (da_cons (de_var 2) (da_cons (de_var 4) da_nil))))) (dw_or1 (dt_not (dt_val (de_call (f__law_apart B) hr (by decide) (by rfl) passX (da_cons (de_var 4) da_nil)))))))) (db_one (ds_ret de_bl)) db_nil)))) (db_one (ds_if (dt_not (dt_val (de_call (f__law_refused_right B c2 P2 F2 tb2 hT2 hU2) hr (by decide) (by rfl) passX (da_cons (de_var 2) (da_cons (de_call (f__law_q_drawn B.toBF) hr (by decide) (by rfl) passX (da_cons (de_var 2) (da_cons (de_op op_add p_I0 de_int (de_call (f__law_draw B.toBF) hr (by decide) (by rfl) passX (da_cons (de_var 2) (da_cons de_int da_nil)))) (da_cons de_bl da_nil)))) da_nil))))) (db_one (ds_ret de_bl)) db_nil)))))) (db_cons (ds_setN 5 sc_law.nd (dn_lst (da_cons de_str (da_cons de_str (da_cons (de_tupC (dk_consC de_int (dk_consC de_int dk_nilC))) (da_cons (dn_lstC (dk_consC de_int (dk_consC de_int dk_nilC))).sh (da_cons (de_tupC (dk_consC de_int (dk_consC de_int dk_nilC))) (da_cons (de_tupC (dk_consC de_int (dk_consC de_int dk_nilC))) (da_cons (de_tup (da_cons de_int (da_cons (de_op op_pow p_I de_int de_int) da_nil))) (da_cons (de_tupC (dk_consC de_int (dk_consC de_int dk_nilC))) (da_cons (de_tupC (dk_consC de_int (dk_consC de_int dk_nilC))) (da_cons (de_tupC (dk_consC de_int (dk_consC de_int dk_nilC))) (da_cons (de_tup (da_cons (de_neg de_int) (da_cons de_int da_nil))) (da_cons (de_tup (da_cons de_int da_nil)) (da_cons (de_tup da_nil) da_nil))))))))))))))) (db_cons (ds_expr (de_ext 5 (dn_lst (da_cons de_non (da_cons de_int (da_cons de_str (da_cons de_str (da_cons de_str (da_cons dn_dic.sh (da_cons de_bl (da_cons (de_tupC (dk_consC de_bl (dk_consC de_int dk_nilC))) (da_cons (de_tupC (dk_consC de_int (dk_consC de_bl dk_nilC))) (da_cons (de_tupC (dk_consC de_int (dk_consC de_str dk_nilC))) (da_cons (de_tupC (dk_consC de_int (dk_consC de_int (dk_consC de_int dk_nilC)))) (da_cons (dn_lst (da_cons de_str da_nil)).sh (da_cons (de_tupC (dk_consC de_int (dk_consC de_non dk_nilC))) da_nil)))))))))))))).sh (hpa := fun h => pe_bm PySem.F.plainAttrs_list PySem.F.slot_list_extend PySem.F.type_list_extend mt_extend (pv 5) (pa_cons h pa_nil)))) (db_cons (ds_setN 6 sc_law.nd (dn_op op_cat p_cat (dn_comp (ws := [7]) (by rfl) sc_law.nd (di_seq (de_var 5)) (blkOk_by (own := [("hand", 7)]) (by rfl)) (by decide) (fun _ _ _ _ _ => (dg_name 7 sc_law.nd)) (fun _ _ _ _ _ => dts_nil) (fun _ _ _ _ _ => (de_call (f_is_handW B.toBF) hr (by decide) (by rfl) passL (da_cons (de_var 7) da_nil)))).sh (dn_lst (da_cons (de_callKw (kw_is_hand B.toBF) hr (by decide) (by rfl) passX (dk_cons de_str dk_nil)) da_nil)).sh)) (db_frz 6 (db_one (ds_ret (de_call (f__law_same_at B.toBF 2) hr (by decide) (by rfl) passX (da_cons (de_var 6) (da_cons (dn_op op_cat p_cat (dn_op op_cat p_cat (dn_op op_rep p_rep (dn_lst (da_cons de_bl da_nil)).sh de_int).sh (dn_op op_rep p_rep (dn_lst (da_cons de_bl da_nil)).sh (de_op op_sub p_I0 (de_cb call_lenAll (by rfl) B.len (by rfl) p_len (da_cons (de_var 5) da_nil)) de_int)).sh).sh (dn_lst (da_cons de_bl da_nil)).sh).sh da_nil))))))))))) ?_
  · intro s n ds Q EQ h
    dsimp only [sp_law] at h
    obtain ⟨_, _, rfl, _⟩ := h; rfl
  · intro s n ds Q EQ h
    dsimp only [sp_law] at h
    obtain ⟨xs, rfl, rfl, rfl, hl, hb, h⟩ := h
    refine bCut (fun z => ∃ (m : Nat) (x1 x2 x3 x4 : DV), z = ⟨[.sh (.lsz xs), x1, x2, x3, x4, .un, .un, .un], m⟩) (fun C hC => ?_) (fun z hz => ?_)
    · simp
      refine for_ind (fun ds z => ∃ (i m : Nat) (x1 x2 x3 x4 : DV), (∀ d ∈ ds, ∃ t : Int, d = iD t ∧ 0 ≤ t ∧ t ≤ 10) ∧ ds.length + i = 3 ∧ m ≤ 30000 * i ∧ z = ⟨[.sh (.lsz xs), x1, x2, x3, x4, .un, .un, .un], m⟩) ?_ ?_ _ _ ⟨0, 0, .un, .un, .un, .un, ?_, by simp [rangeD], by simp, rfl⟩
      · rintro z ⟨i, m, x1, x2, x3, x4, _, _, _, rfl⟩
        exact hC _ ⟨m, x1, x2, x3, x4, rfl⟩
      · rintro d ds z C2 hC2 ⟨i, m, x1, x2, x3, x4, q1, q2, q3, rfl⟩
        obtain ⟨t, rfl, t0, t1⟩ := q1 d (List.mem_cons_self ..)
        simp at q2
        refine bCut (fun z => ∃ z0 z1 : Int, Builtin.Int.intBits z0 ≤ 1048576 ∧ 0 ≤ z1 ∧ z1 ≤ 1099511627776 ∧ z = ⟨[.sh (.lsz xs), .sh (iD t), .ow (.lst [iD z0, iD z1, iD 0]), x3, x4, .un, .un, .un], m⟩) (fun C hC => ?_) (fun z hz => ?_)
        · simp
          refine ⟨xs, t, rfl, hl, t0, t1, hb, fun z0 z1 b0 b1 b2 => ?_⟩
          exact ⟨_, rfl, hC _ ⟨z0, z1, b0, b1, b2, rfl⟩⟩
        obtain ⟨z0, z1, b0, b1, b2, rfl⟩ := hz
        refine ⟨rfl, z0, z1, 0, rfl, b0, b1, b2, by decide, by simp, fun sp => ?_⟩
        refine bCut (fun z => ∃ (n : Nat) (x3 x4 : DV), n ≤ m + 21010 ∧ z = ⟨[.sh (.lsz xs), .sh (iD t), .sh (.v (.ref sp)), x3, x4, .un, .un, .un], n⟩) (fun C hC => ?_) (fun z hz => ?_)
        · refine iterCut (fun ds z => (∃ k1 k2 : Nat, k1 < 4 ∧ k2 < 8 ∧ ds = [iD 0, iD (1 + k1 : Nat), iD (6 + k2 : Nat)]) ∧ z = ⟨[.sh (.lsz xs), .sh (iD t), .sh (.v (.ref sp)), x3, x4, .un, .un, .un], m + 2⟩) (fun R hR => ?_) (fun ds z hz => ?_)
          · simp
            exact ⟨sp, 4, rfl, rfl, by decide, by decide, by omega, fun k1 hk1 => ⟨_, rfl, sp, 8, rfl, rfl, by decide, by decide, by omega, fun k2 hk2 => ⟨_, rfl, hR _ _ ⟨⟨k1, k2, by omega, by omega, by simp⟩, rfl⟩⟩⟩⟩
          obtain ⟨⟨k1, k2, hk1, hk2, rfl⟩, rfl⟩ := hz
          refine for_ind (fun ds z => ∃ (j n : Nat) (x3 x4 : DV), (∀ d ∈ ds, ∃ k : Nat, d = iD (k : Nat) ∧ k ≤ 16) ∧ ds.length + j = 3 ∧ n ≤ m + 2 + 7000 * j ∧ z = ⟨[.sh (.lsz xs), .sh (iD t), .sh (.v (.ref sp)), x3, x4, .un, .un, .un], n⟩) ?_ ?_ _ _ ⟨0, m + 2, x3, x4, ?_, rfl, by simp, rfl⟩
          · rintro z ⟨j, n, x3, x4, _, w2, w3, rfl⟩
            simp at w2
            exact hC _ ⟨n, x3, x4, by omega, rfl⟩
          · rintro d ds z C3 hC3 ⟨j, n, x3, x4, w1, w2, w3, rfl⟩
            obtain ⟨k, rfl, hk⟩ := w1 d (List.mem_cons_self ..)
            simp at w2
            refine bCut (fun z => ∃ (q : Qn) (n2 : Nat), Few q ∧ (∀ x ∈ q.names, x ∈ namesC) ∧ n2 ≤ n + 2301 ∧ z = ⟨[.sh (.lsz xs), .sh (iD t), .sh (.v (.ref sp)), .sh (iD k), .sh (rawD q), .un, .un, .un], n2⟩) (fun C4 hC4 => ?_) (fun z hz => ?_)
            · simp [-rawD]
              exact ⟨sp, 2, rfl, rfl, by decide, by decide, by omega, fun k1 hk1 => ⟨_, rfl, rfl, sp, k, _, rfl, rfl, by omega, by omega, by omega, fun q n' ok hnc lm lw lg h1 h2 => hC4 _ ⟨q, n', ⟨ok, by omega, lw, by omega⟩, hnc, by omega, rfl⟩⟩⟩
            obtain ⟨q, n2, few, hnc, hn2, rfl⟩ := hz
            refine iCut (fun b n3 => b = false ∧ n3 ≤ n2 + 4510) (fun R hR => ?_) (fun b n3 hb => ?_)
            · simp [-rawD]
              exact ⟨sp, q, rfl, rfl, few, by omega, fun m1 e1 e2 => .inr ⟨rfl, sp, q, rfl, rfl, few, hnc, by omega, fun m2 e3 e4 => .inr ⟨rfl, q, rfl, few, .inr ⟨rfl, hR _ _ ⟨rfl, by omega⟩⟩⟩⟩⟩
            obtain ⟨rfl, hn3⟩ := hb
            exact ⟨nofun, fun _ => hC3 _ ⟨j + 1, n3, _, _, fun d hd => w1 d (List.mem_cons_of_mem _ hd), by omega, by omega, rfl⟩⟩
          · intro d hd
            simp only [List.mem_cons, List.not_mem_nil, or_false] at hd
            rcases hd with rfl | rfl | rfl
            · exact ⟨0, rfl, by omega⟩
            · exact ⟨_, rfl, by omega⟩
            · exact ⟨_, rfl, by omega⟩
        obtain ⟨n, x3, x4, n1, rfl⟩ := hz
        refine iCut (fun b n3 => b = false ∧ n3 ≤ n + 2310) (fun R hR => ?_) (fun b n3 hb => ?_)
        · simp [-rawD]
          refine ⟨sp, 5, rfl, rfl, by decide, by decide, by omega, fun k1 hk1 => ⟨_, rfl, sp, _, true, rfl, rfl, by omega, by omega, by omega, fun q n' ok hnc lm lw lg h1 h2 => ⟨sp, q, rfl, rfl, ⟨ok, by omega, lw, by omega⟩, hnc, fun e => ?_, by omega, .inr ⟨rfl, hR _ _ ⟨rfl, by omega⟩⟩⟩⟩⟩
          rw [e] at lm
          simp at lm
          omega
        obtain ⟨rfl, hn3⟩ := hb
        exact ⟨nofun, fun _ => hC2 _ ⟨i + 1, n3, _, _, _, _, fun d hd => q1 d (List.mem_cons_of_mem _ hd), by omega, by omega, rfl⟩⟩
      · intro d hd
        simp [rangeD] at hd
        obtain ⟨i, hi, rfl⟩ := hd
        exact ⟨_, rfl, by omega, by omega⟩
    obtain ⟨m, x1, x2, x3, x4, rfl⟩ := hz
    refine bCut (fun z => z = ⟨[.sh (.lsz xs), x1, x2, x3, x4, .ow (.lst hands1), .un, .un], m⟩) (fun C hC => ?_) (fun z hz => ?_)
    · simp
      exact ⟨⟨by decide, by decide, by decide⟩, hC _ rfl⟩
    subst hz
    refine bCut (fun z => z = ⟨[.sh (.lsz xs), x1, x2, x3, x4, .ow (.lst (hands1 ++ hands2)), .un, .un], m⟩) (fun C hC => ?_) (fun z hz => ?_)
    · simp
      exact ⟨by decide, hC _ rfl⟩
    subst hz
    rw [hands_map]
    refine bCut (fun z => z = ⟨[.sh (.lsz xs), x1, x2, x3, x4, .sh (.lst (handsB.map (·.1))), .ow (.lst (handsB.map (fun p => blD p.2) ++ [blD true])), .un], m⟩) (fun C hC => ?_) (fun z hz => ?_)
    · simp
      refine comp_mapL (h := fun p : D × Bool => p.1) (f := fun p => blD p.2) (by decide) (fun p hp R R2 g1 g2 => ?_) ?_
      · refine g2 _ ?_
        simp
        exact ⟨p.1, p.2, rfl, hands_ok p hp, g1 _ rfl⟩
      · simp
        exact ⟨strD "they", true, rfl, .inl (.good .they _ (.v _) rfl), by rw [lH]; decide, hC _ rfl⟩
    subst hz
    refine ⟨_, rfl, ?_⟩
    simp
    rw [lH]
    refine ⟨by decide, by decide, by decide, by decide, by decide, by decide, ?_⟩
    exact ⟨_, rfl, sm_lst (by decide) fun e he => by
      rcases List.mem_append.mp he with he | he
      · obtain ⟨p, _, rfl⟩ := List.mem_map.mp he
        exact sm_bl 0 _
      · rw [List.mem_singleton.mp he]
        exact sm_bl 0 _, h _⟩


end
end K01
end

section
set_option Elab.async false
set_option linter.all false
set_option maxRecDepth 100000
set_option maxHeartbeats 0
/-! C1: the head of k05: what the top leaves. -/
namespace K01
open PySem PySem.Spec PyProof.Rows L2 DL He
abbrev R : PySem.W.OpenRow := PySem.W.OpenLaw.row PySem.Challenge.rw_marksinturn_k01_whole_questions_made
abbrev qv : Program := PySem.W.view R.prog [46]
def names0 : List Str := [("FIGURES" : Str), ("FIRST" : Str), ("LATER" : Str), ("is_integer" : Str), ("is_list" : Str), ("is_name" : Str), ("MarkError" : Str), ("BadMarks" : Str), ("BadWishes" : Str), ("BadGuards" : Str), ("is_hand" : Str), ("checked_marks" : Str), ("is_literal" : Str), ("as_clause" : Str), ("clauses_of" : Str), ("checked_wishes" : Str), ("checked_guards" : Str), ("Question" : Str), ("_law_stream" : Str), ("_law_draw" : Str), ("_law_pick" : Str), ("_law_mixed" : Str), ("_law_same" : Str), ("_law_each_once" : Str), ("_law_q_names" : Str), ("_law_q_hand" : Str), ("_law_q_clause" : Str), ("_law_q_clauses" : Str), ("_law_q_drawn" : Str), ("_law_q_loose" : Str)]
def names1 : List Str := [("_law_q_made" : Str), ("_law_bent_marks" : Str), ("_law_bent_clauses" : Str), ("_law_met" : Str), ("_law_parts" : Str), ("_law_told_right" : Str), ("_law_apart" : Str), ("_law_late" : Str), ("_law_near" : Str), ("_law_ordered" : Str), ("_law_like" : Str), ("_law_refused_right" : Str)]
def names : List Str := names0 ++ names1
def fa0 : List Fa := [.glo "is_integer", .glo "is_list", .glo "is_name", .glo "is_hand", .glo "checked_marks", .glo "is_literal", .glo "as_clause", .glo "clauses_of", .glo "checked_wishes", .glo "checked_guards", .glo "_law_stream", .glo "_law_draw", .glo "_law_pick", .glo "_law_mixed", .glo "_law_same", .glo "_law_each_once", .glo "_law_q_names", .glo "_law_q_hand", .glo "_law_q_clause", .glo "_law_q_clauses", .glo "_law_q_drawn", .glo "_law_q_loose", .glo "_law_q_made", .glo "_law_bent_marks", .glo "_law_bent_clauses", .glo "_law_met", .glo "_law_parts", .glo "_law_told_right", .glo "_law_apart", .glo "_law_late"]
def fa1 : List Fa := [.glo "_law_near", .glo "_law_ordered", .glo "_law_like", .glo "_law_refused_right", .glo "law", .glo "Question", .cls "Question", .mkr "Question", .noat "Question" "own_marks", .noat "Question" "own_names", .noat "Question" "own_wishes", .noat "Question" "own_guards", .meth "Question" "marks", .meth "Question" "wishes", .meth "Question" "guards", .meth "Question" "parts", .meth "Question" "__eq__", .free "isinstance", .free "all", .free "any", .free "int", .free "bool", .free "str", .free "list", .free "tuple", .free "dict", .free "len", .free "enumerate", .free "zip", .free "range"]
def fa2 : List Fa := [.free "max", .free "sorted", .free "sum", .free "repr", .free "abs", .str "FIRST" "abcdefghijklmnopqrstuvwxyz", .str "LATER" "abcdefghijklmnopqrstuvwxyz0123456789"]
def fa : List Fa := fa0 ++ fa1 ++ fa2
def fn0 : List DefD := [topD "is_integer" (topS 4), topD "is_list" (topS 5), topD "is_name" (topS 6), topD "is_hand" (topS 13), topD "checked_marks" (topS 14), topD "is_literal" (topS 15), topD "as_clause" (topS 16), topD "clauses_of" (topS 17), topD "checked_wishes" (topS 18), topD "checked_guards" (topS 19), topD "_law_stream" (topS 22), topD "_law_draw" (topS 23), topD "_law_pick" (topS 24), topD "_law_mixed" (topS 25), topD "_law_same" (topS 26), topD "_law_each_once" (topS 27), topD "_law_q_names" (topS 28), topD "_law_q_hand" (topS 29), topD "_law_q_clause" (topS 30), topD "_law_q_clauses" (topS 31), topD "_law_q_drawn" (topS 32), topD "_law_q_loose" (topS 33), topD "_law_q_made" (topS 34), topD "_law_bent_marks" (topS 35), topD "_law_bent_clauses" (topS 36), topD "_law_met" (topS 37), topD "_law_parts" (topS 38), topD "_law_told_right" (topS 39), topD "_law_apart" (topS 40), topD "_law_late" (topS 41)]
def fn1 : List DefD := [topD "_law_near" (topS 42), topD "_law_ordered" (topS 43), topD "_law_like" (topS 44), topD "_law_refused_right" (topS 45), topD "law" (topS 46), methD "Question" "__init__" (inClass (topS 20) 0), methD "Question" "marks" (inClass (topS 20) 1), methD "Question" "wishes" (inClass (topS 20) 2), methD "Question" "guards" (inClass (topS 20) 3), methD "Question" "parts" (inClass (topS 20) 4), methD "Question" "__eq__" (inClass (topS 20) 5)]
def fn : List DefD := fn0 ++ fn1
def tf : List Defn := [("_law_ordered", none), ("_law_refused_right", none)]
def exs : List ExD := [⟨"BadMarks", inClass (topS 9) 0⟩, ⟨"BadWishes", inClass (topS 10) 0⟩, ⟨"BadGuards", inClass (topS 11) 0⟩]
def exv (K : PySem.W.Frag) : Bool := exB K PySem.Challenge.pw_marksinturn_k01_whole_questions_made.main.file "BadMarks" "index" && (exB K PySem.Challenge.pw_marksinturn_k01_whole_questions_made.main.file "BadWishes" "index" && (exB K PySem.Challenge.pw_marksinturn_k01_whole_questions_made.main.file "BadGuards" "index" && (xfB K (ga K "BadMarks") && (xfB K (ga K "BadWishes") && (xfB K (ga K "BadGuards") && (cfB K (ga K "Question") && (exmB K ["BadMarks", "BadWishes", "BadGuards"] && (eqO (PySem.W.findIn K (.ref (ga K "Question")) "__ne__") (some (some (.builtin "object.__ne__"))) && (decide (PySem.W.mroIn K (ga K "Question") (.type "object") = some true) && (PySem.W.notFirst K (ga K "Question") (.type "str") && (PySem.W.notFirst K (ga K "Question") (.type "tuple") && (!decide ((cT K ("_law_ordered", none)).2 = (cT K ("_law_refused_right", none)).2)))))))))))))
abbrev hk : PySem.W.Hook := hookE 4 fa fn tf exv exs
def ob (s : PySem.W.SharedT) : (AlT × Bool) × List FnC := obsE 4 fa fn tf exv exs (HandSHeadRun.getT s)
theorem ob_eq (s : PySem.W.SharedT) : ob s = hk.obs s.abs := obsE_eq (HandSHeadRun.getT_eq s)
theorem run (w : World) : HandSHeadRun.RunEq R qv hk ob 6000 names w := by
  intro os
  kernel_rfl
end K01
end

section
set_option Elab.async false
set_option linter.all false
set_option maxRecDepth 100000
set_option maxHeartbeats 4000000
/-! C2: the head's facts as the walk wants them. -/
namespace K01
open PySem PySem.Spec PyProof.Rows L2 DL He
def adK (K : PySem.W.Frag) : Ad := ⟨ga K "Question", ga K "BadMarks", ga K "BadWishes", ga K "BadGuards"⟩
section
variable {w : World} {h : Heap} {K : PySem.W.Frag} {mg : Str → Option Value}
abbrev Sy (w : World) (h : Heap) (K : PySem.W.Frag) : Prop := SaysE fa fn tf exv exs w h K
abbrev pw : Program := PySem.Challenge.pw_marksinturn_k01_whole_questions_made
theorem ex_all (h0 : exv K = true) : exB K pw.main.file "BadMarks" "index" = true ∧ exB K pw.main.file "BadWishes" "index" = true ∧ exB K pw.main.file "BadGuards" "index" = true ∧ xfB K (ga K "BadMarks") = true ∧ xfB K (ga K "BadWishes") = true ∧ xfB K (ga K "BadGuards") = true ∧ cfB K (ga K "Question") = true ∧ exmB K ["BadMarks", "BadWishes", "BadGuards"] = true ∧ eqO (PySem.W.findIn K (.ref (ga K "Question")) "__ne__") (some (some (.builtin "object.__ne__"))) = true ∧ decide (PySem.W.mroIn K (ga K "Question") (.type "object") = some true) = true ∧ PySem.W.notFirst K (ga K "Question") (.type "str") = true ∧ PySem.W.notFirst K (ga K "Question") (.type "tuple") = true ∧ (cT K ("_law_ordered", none)).2 ≠ (cT K ("_law_refused_right", none)).2 := by
  unfold exv at h0
  obtain ⟨b0, h0⟩ := ba h0
  obtain ⟨b1, h0⟩ := ba h0
  obtain ⟨b2, h0⟩ := ba h0
  obtain ⟨b3, h0⟩ := ba h0
  obtain ⟨b4, h0⟩ := ba h0
  obtain ⟨b5, h0⟩ := ba h0
  obtain ⟨b6, h0⟩ := ba h0
  obtain ⟨b7, h0⟩ := ba h0
  obtain ⟨b8, h0⟩ := ba h0
  obtain ⟨b9, h0⟩ := ba h0
  obtain ⟨b10, h0⟩ := ba h0
  obtain ⟨b11, h0⟩ := ba h0
  exact ⟨b0, b1, b2, b3, b4, b5, b6, b7, b8, b9, b10, b11, by simpa using h0⟩
theorem tx_BadMarks (X : K.In h) (G : h.Ns mainGlobals mg) (c : Sy w h K) (hb : exB K pw.main.file "BadMarks" "index" = true) : ∃ fI, PySem.SXI.SxTxt pw K mg "BadMarks" "index" "index" (ga K "BadMarks") fI :=
  ⟨_, exB_ok X G hb (c.ec ⟨"BadMarks", inClass (topS 9) 0⟩ (by simp [exs])) rfl rfl rfl (by decide +kernel) (by decide +kernel) (by decide +kernel) (by decide +kernel) (by decide +kernel) (by rfl) (fun _ _ _ _ _ _ _ _ _ _ _ _ _ => rfl) (by decide +kernel) (by decide) (by decide)⟩
theorem tx_BadWishes (X : K.In h) (G : h.Ns mainGlobals mg) (c : Sy w h K) (hb : exB K pw.main.file "BadWishes" "index" = true) : ∃ fI, PySem.SXI.SxTxt pw K mg "BadWishes" "index" "index" (ga K "BadWishes") fI :=
  ⟨_, exB_ok X G hb (c.ec ⟨"BadWishes", inClass (topS 10) 0⟩ (by simp [exs])) rfl rfl rfl (by decide +kernel) (by decide +kernel) (by decide +kernel) (by decide +kernel) (by decide +kernel) (by rfl) (fun _ _ _ _ _ _ _ _ _ _ _ _ _ => rfl) (by decide +kernel) (by decide) (by decide)⟩
theorem tx_BadGuards (X : K.In h) (G : h.Ns mainGlobals mg) (c : Sy w h K) (hb : exB K pw.main.file "BadGuards" "index" = true) : ∃ fI, PySem.SXI.SxTxt pw K mg "BadGuards" "index" "index" (ga K "BadGuards") fI :=
  ⟨_, exB_ok X G hb (c.ec ⟨"BadGuards", inClass (topS 11) 0⟩ (by simp [exs])) rfl rfl rfl (by decide +kernel) (by decide +kernel) (by decide +kernel) (by decide +kernel) (by decide +kernel) (by rfl) (fun _ _ _ _ _ _ _ _ _ _ _ _ _ => rfl) (by decide +kernel) (by decide) (by decide)⟩
theorem bf_of (X : K.In h) (G : h.Ns mainGlobals mg) (c : Sy w h K) : BF pw K mg (adK K) := by
  obtain ⟨x1, x2, x3, y1, y2, y3, z1, z2, n1, n2, n3, n4, z3⟩ := ex_all c.x.more
  exact {
    x_BadMarks := tx_BadMarks X G c x1
    x_BadWishes := tx_BadWishes X G c x2
    x_BadGuards := tx_BadGuards X G c x3
    Question := cfB_ok (cls_ok (c.fact 36 rfl)) z1
    mg_Question := glo_ok X G (c.fact 35 rfl)
    na_own_marks := noat_ok (c.fact 38 rfl)
    na_own_names := noat_ok (c.fact 39 rfl)
    na_own_wishes := noat_ok (c.fact 40 rfl)
    na_own_guards := noat_ok (c.fact 41 rfl)
    isinstance := free_ok X G (c.fact 47 rfl)
    all := free_ok X G (c.fact 48 rfl)
    any := free_ok X G (c.fact 49 rfl)
    int := free_ok X G (c.fact 50 rfl)
    bool := free_ok X G (c.fact 51 rfl)
    str := free_ok X G (c.fact 52 rfl)
    list := free_ok X G (c.fact 53 rfl)
    tuple := free_ok X G (c.fact 54 rfl)
    dict := free_ok X G (c.fact 55 rfl)
    len := free_ok X G (c.fact 56 rfl)
    enumerate := free_ok X G (c.fact 57 rfl)
    zip := free_ok X G (c.fact 58 rfl)
    range := free_ok X G (c.fact 59 rfl)
    max := free_ok X G (c.fact 60 rfl)
    sorted := free_ok X G (c.fact 61 rfl)
    sum := free_ok X G (c.fact 62 rfl)
    repr := free_ok X G (c.fact 63 rfl)
    abs := free_ok X G (c.fact 64 rfl)
    FIRST := (str_ok X G (c.fact 65 rfl)).elim fun t e => ⟨_, e, t, rfl⟩
    LATER := (str_ok X G (c.fact 66 rfl)).elim fun t e => ⟨_, e, t, rfl⟩
    is_integer := (c.fun_ X G 0 0 rfl rfl)
    is_list := (c.fun_ X G 1 1 rfl rfl)
    is_name := (c.fun_ X G 2 2 rfl rfl)
    is_hand := (c.fun_ X G 3 3 rfl rfl)
    checked_marks := (c.fun_ X G 4 4 rfl rfl)
    is_literal := (c.fun_ X G 5 5 rfl rfl)
    as_clause := (c.fun_ X G 6 6 rfl rfl)
    clauses_of := (c.fun_ X G 7 7 rfl rfl)
    checked_wishes := (c.fun_ X G 8 8 rfl rfl)
    checked_guards := (c.fun_ X G 9 9 rfl rfl)
    _law_stream := (c.fun_ X G 10 10 rfl rfl)
    _law_draw := (c.fun_ X G 11 11 rfl rfl)
    _law_pick := (c.fun_ X G 12 12 rfl rfl)
    _law_mixed := (c.fun_ X G 13 13 rfl rfl)
    _law_same := (c.fun_ X G 14 14 rfl rfl)
    _law_each_once := (c.fun_ X G 15 15 rfl rfl)
    _law_q_names := (c.fun_ X G 16 16 rfl rfl)
    _law_q_hand := (c.fun_ X G 17 17 rfl rfl)
    _law_q_clause := (c.fun_ X G 18 18 rfl rfl)
    _law_q_clauses := (c.fun_ X G 19 19 rfl rfl)
    _law_q_drawn := (c.fun_ X G 20 20 rfl rfl)
    _law_q_loose := (c.fun_ X G 21 21 rfl rfl)
    _law_q_made := (c.fun_ X G 22 22 rfl rfl)
    _law_bent_marks := (c.fun_ X G 23 23 rfl rfl)
    _law_bent_clauses := (c.fun_ X G 24 24 rfl rfl)
    _law_met := (c.fun_ X G 25 25 rfl rfl)
    _law_parts := (c.fun_ X G 26 26 rfl rfl)
    _law_told_right := (c.fun_ X G 27 27 rfl rfl)
    _law_apart := (c.fun_ X G 28 28 rfl rfl)
    _law_late := (c.fun_ X G 29 29 rfl rfl)
    _law_near := (c.fun_ X G 30 30 rfl rfl)
    _law_ordered := (c.fun_ X G 31 31 rfl rfl)
    _law_like := (c.fun_ X G 32 32 rfl rfl)
    _law_refused_right := (c.fun_ X G 33 33 rfl rfl)
    law := (c.fun_ X G 34 34 rfl rfl) }
theorem bm_of (X : K.In h) (G : h.Ns mainGlobals mg) (c : Sy w h K) : BM pw K mg (adK K) := by
  obtain ⟨x1, x2, x3, y1, y2, y3, z1, z2, n1, n2, n3, n4, z3⟩ := ex_all c.x.more
  obtain ⟨e1, e2⟩ := exmB_ok z2
  refine { toBF := bf_of X G c, q_init := c.init X G 35 37 35 rfl rfl rfl, m_marks := c.meth 36 42 rfl rfl, m_wishes := c.meth 37 43 rfl rfl, m_guards := c.meth 38 44 rfl rfl, m_parts := c.meth 39 45 rfl rfl, m_eq := c.meth 40 46 rfl rfl, xm := xfB_ok y1, xw := xfB_ok y2, xg := xfB_ok y3, ne := eqO_ok n1, mro := of_decide_eq_true n2, nstr := n3, ntup := n4, exm := ?_, nd := e2 }
  intro r hr r' hr'
  simp only [metL, adK, List.mem_cons, List.not_mem_nil, or_false] at hr hr'
  rcases hr with rfl | rfl | rfl <;> rcases hr' with rfl | rfl | rfl <;> exact e1 _ (by simp) _ (by simp)
theorem lawAt (X : K.In h) (G : h.Ns mainGlobals mg) (c : Sy w h K) {fa0 : Addr} (hm : mg "law" = some (.ref fa0)) : LawAtD PySem.Challenge.rw_marksinturn_k01_whole_questions_made w K 13 63 "script" mg fa0 h := by
  obtain ⟨x1, x2, x3, y1, y2, y3, z1, z2, n1, n2, n3, n4, z3⟩ := ex_all c.x.more
  have B := bm_of X G c
  refine ⟨[cT K ("_law_ordered", none), cT K ("_law_refused_right", none)], [((cT K ("_law_ordered", none)).2, ((("_law_ordered" : Str) ++ ".<locals>.") ++ "<lambda>")), ((cT K ("_law_refused_right", none)).2, ((("_law_refused_right" : Str) ++ ".<locals>.") ++ "<lambda>"))], sp_law, ?_, ?_, ?_, ?_, ?_, fun base hb hg tb => ?_⟩
  · intro p hp
    simp only [List.mem_cons, List.not_mem_nil, or_false] at hp
    rcases hp with rfl | rfl
    · exact c.x.empty _ (by simp [tf])
    · exact c.x.empty _ (by simp [tf])
  · intro p hp
    simp only [List.mem_cons, List.not_mem_nil, or_false] at hp
    rcases hp with rfl | rfl
    · exact c.x.out _ (by simp [tf])
    · exact c.x.out _ (by simp [tf])
  · intro p hp
    simp only [List.mem_cons, List.not_mem_nil, or_false] at hp
    rcases hp with rfl | rfl
    · exact PySem.W.codeHd_of_K X (c.x.hd _ (by simp [tf]))
    · exact PySem.W.codeHd_of_K X (c.x.hd _ (by simp [tf]))
  · intro q hq
    simp only [List.mem_cons, List.not_mem_nil, or_false] at hq
    rcases hq with rfl | rfl
    · exact ⟨_, List.mem_cons_self .., rfl⟩
    · exact ⟨_, List.mem_cons_of_mem _ (List.mem_cons_self ..), rfl⟩
  · intro ns Q EQ hl hb h
    exact ⟨ns, rfl, rfl, rfl, hl, hb, h⟩
  · have tb1 := tb _ (List.mem_cons_self ..)
    have tb2 := tb _ (List.mem_cons_of_mem _ (List.mem_cons_self ..))
    refine fnR_at (f_law (P := pw) (w := w) (base := base) B (cT K ("_law_ordered", none)).1 (cT K ("_law_ordered", none)).2 (c.funC X G 31 31 rfl rfl) tb1 (List.mem_cons_self ..) ?_ (cT K ("_law_refused_right", none)).1 (cT K ("_law_refused_right", none)).2 (c.funC X G 33 33 rfl rfl) tb2 (List.mem_cons_of_mem _ (List.mem_cons_self ..)) ?_) hm
    · intro p hp e
      simp only [List.mem_cons, List.not_mem_nil, or_false] at hp
      rcases hp with rfl | rfl
      · rfl
      · exact absurd e.symm z3
    · intro p hp e
      simp only [List.mem_cons, List.not_mem_nil, or_false] at hp
      rcases hp with rfl | rfl
      · exact absurd e z3
      · rfl
end
end K01
end

section
set_option Elab.async false
set_option linter.all false
set_option maxRecDepth 100000
set_option maxHeartbeats 0
/-! C3: the law. -/
open PySem PySem.W PySem.Calls PyProof.Rows
theorem PySem.Challenge.cw_marksinturn_k01_whole_questions_made_holds : PySem.Challenge.rw_marksinturn_k01_whole_questions_made.Holds := by
  w_on; o_law
  refine HandSHeadRun.head_any (r := OpenLaw.row PySem.Challenge.rw_marksinturn_k01_whole_questions_made) (q := view (OpenLaw.row PySem.Challenge.rw_marksinturn_k01_whole_questions_made).prog [46]) (H := K01.hk) (ob := K01.ob) (M := 6000) (loose := K01.names) (d := HandSHeadRun.topDef (OpenLaw.row PySem.Challenge.rw_marksinturn_k01_whole_questions_made).prog 46) (kwd := []) K01.ob_eq
    (by kernel_rfl) (fun s => by kernel_rfl) K01.run (by kernel_rfl) (by kernel_rfl) (by kernel_rfl) (by rfl) (by first | assumption | decide +kernel) (by decide +kernel) ⟨rfl, rfl, rfl, rfl, rfl, by decide +kernel⟩ ?hw ?hc
  case hw => w_witness2
  case hc =>
    refine DL.walk_ofD (l := PySem.Challenge.rw_marksinturn_k01_whole_questions_made) (n := 63) (k := 13) (x := "script") rfl (by decide) (by kernel_rfl) ⟨rfl, by decide, by decide⟩ ?F
    intro w mg fa h Y G hmg0
    obtain ⟨K, KX, c⟩ := Y
    have hmg : mg ("law" : PySem.Str) = some (.ref fa) := by
      have e : (HandSHeadRun.topDef (OpenLaw.row PySem.Challenge.rw_marksinturn_k01_whole_questions_made).prog 46).name = ("law" : PySem.Str) := by kernel_rfl
      rw [← e]
      exact hmg0
    exact ⟨K, KX, K01.lawAt KX G c hmg⟩
end
