import PyProof.Rows.All
import Wide.All
import OpenK.AllK
import Wide.FinOn
import HandS.Rev
import HandS.RevTup
import HandS.Iter
import HandS.List
import HandS.SortKw
import KE.DataMinMax
import HandS.DictComp
import HandS.ForMost
import HandS.ForExc
import HandS.Small
import HandS.Style
import HandS.TupAny
import HandS.Deep
import HandS.Wide
import HandS.IsInst
import HandS.StrMore
import HandS.Conv
import HandS.CallSlots
import HandS.Zip
import HandS.SortInts
import HandS.RaiseMore
import HandS.WideBits
import HandS.TupLen
import HandS.WordsDict
import HandS.More
import HandS.Codes
import HandS.Exc
import HandS.TryOnly
import HandS.TryMany
import HandS.RevRange
import HandS.Strs
import KE.GoesMore
import KE.GoesEnum
import KE.KExcSuper
import KE.KSuper
import HandS.ExcInit
import HandS.ExcField
import HandS.ExcIs
import KE.KExcIs
import KE.IntBitsLaws
import HandS.Walk
import PySem.Challenge.RW_clockwright_k48_whole_timed_run
set_option Elab.async false
set_option maxRecDepth 100000
set_option linter.all false
set_option maxHeartbeats 2000000
set_option maxHeartbeats 1000000
/-! DI, part 0: for x in reversed(a text). -/
namespace RX
open PySem PySem.Spec PyProof.Rows L2 RT
theorem noR : typeLookup (.type "str") "__reversed__" = pure none := by rw [typeLookup_type, builtinLookup_eq_fast]; kernel_rfl
theorem hasG : typeLookup (.type "str") "__getitem__" = pure (some (.builtin "str.__getitem__")) := by rw [typeLookup_type, builtinLookup_eq_fast]; kernel_rfl
def mk (z : Str) (tz : Tok) (i : Int) : Obj := { cls := .type "reversed", data := .fields #[.str z tz, rawInt i] }
/-- reversed(z), the next place i -/
def Rs (h : Heap) (a : Addr) (z : Str) (tz : Tok) (i : Int) : Prop := ∃ ob, h.get? a = some ob ∧ ob.cls = .type "reversed" ∧ ob.data = .fields #[.str z tz, rawInt i]
theorem Rs.at {h h' : Heap} {a : Addr} {z : Str} {tz : Tok} {i : Int} (y : Rs h a z tz i) (e : ∀ ob, h.get? a = some ob → h'.get? a = some ob) : Rs h' a z tz i := let ⟨ob, hob, rr⟩ := y; ⟨ob, e _ hob, rr⟩
section
variable {prog : Program} {w : World} {A : Around} {E : Value → Shared → Prop} {s : Shared}
theorem Rs.ty {a : Addr} {z : Str} {tz : Tok} {i : Int} (y : Rs s.heap a z tz i) : s.TypeIs (.ref a) "reversed" := let ⟨ob, hob, hcl, _⟩ := y; ⟨ob, hob, hcl⟩
theorem code_rs {z : Str} {tz : Tok} {Q₁ : Value → Shared → Prop} (hz : z.length ≤ sizeLine)
    (k : Q₁ (.ref s.heap.objs.size) { s with heap := s.heap.push (mk z tz ((z.length : Int) - 1)), toks := s.toks + 1 + 1 }) :
    codeAny (model prog w) A (.call (.builtin "reversed.__new__") ⟨[.type "reversed", .str z tz], []⟩) (wants Q₁ E) s := by
  have hTS : s.TypeIs (.str z tz) "str" := typeIs_str s z tz
  rw [sizeLine_eq] at hz
  refine codeAny_of_tree ?_
  show wpAny _ A.in1 (do checkBuiltinCall "reversed.__new__" ⟨[.type "reversed", .str z tz], []⟩; again (.builtin "reversed.__new__" ⟨[.type "reversed", .str z tz], []⟩)) _ _ s
  refine wpAny_bind (wpAny_of_eq (F.newCall_reversed_1 _) (wpAny_pure ⟨plainId_quiet F.plain_reversed_new _, codeAny_builtin F.entry_reversed_new ?_⟩)); rw [Around.under_plainId F.plain_reversed_new _]; unfold Builtin.«reversed.__new__»
  refine wpAny_bind (wpAny_of_eq (newClass_reversed _) ?_); try dsimp only
  refine wpAny_bind (wpAny_of_eq (a := ()) (by first | rfl | kernel_rfl) ?_); try dsimp only
  refine wpAny_bind (wpAny_of_eq (a := ()) (by first | rfl | kernel_rfl) ?_); try dsimp only
  refine wpAny_bind (wpAny_specialOf hTS noR ?_)
  try dsimp only
  refine wpAny_bind ?_
  wp_delta
  refine wpAny_bind (wpAny_isInstance (T := "str") (U := "dict") (b := false) hTS PySem.F.sub_str_dict ?_)
  try dsimp only
  try rw [if_neg Bool.false_ne_true]; try dsimp only
  refine wpAny_bind (wpAny_specialOf hTS hasG ?_)
  try dsimp only
  try rw [if_pos (by decide +kernel)]; refine wpAny_pure ?_
  try dsimp only
  try rw [if_neg (by decide)]
  try dsimp only
  refine wpAny_bind (P.len_str (x := z) (t := tz) (by omega) ?_)
  refine wpAny_bind (wpAny_of_eq (a := some ((z.length : Nat) : Int)) rfl ?_)
  try dsimp only
  refine wpAny_bind ?_
  show wpAny _ _ (newObj (.type "reversed") (.fields #[.str z tz, rawInt ((z.length : Int) - 1)])) _ _ _
  refine wpAny_newObj_type ?_
  exact wpAny_pure k
theorem call_rs {z : Str} {tz : Tok} {Q : Value → Shared → Prop} (hz : z.length ≤ sizeLine)
    (k : Q (.ref s.heap.objs.size) { s with heap := s.heap.push (mk z tz ((z.length : Int) - 1)), toks := s.toks + 1 + 1 }) : wpAny (model prog w) A (call (.type "reversed") [.str z tz]) Q E s := by
  refine callType_codes (Q₁ := fun ob s₁ => s₁.TypeIs ob "reversed" ∧ Q ob s₁) called_rt (F.typeCall_reversed_1 _) F.entry_object_init
    (code_rs (A := A.in1) hz ⟨⟨_, Heap.get?_push_size _ rfl, rfl⟩, k⟩) fun ob s₁ q₁ => ?_
  exact ⟨q₁.1, F.args_object_init_2 ob _, object_init_meets called_rt.init.lookup called_rt.made (by decide) prog w A.in1 _ s₁ ⟨q₁.1, rfl, q₁.2⟩⟩
theorem next_rs {it : Addr} {z : Str} {tz : Tok} {i c : Nat} {Q : Option Value → Shared → Prop} (y : Rs s.heap it z tz (i : Int)) (hc : z.cps[i]? = some c) (hz : z.length ≤ sizeLine)
    (k : ∀ h' u, Rs h' it z tz ((i : Int) - 1) → Heap.SameBut it s.heap h' → Q (some (.str ⟨#[c]⟩ u)) { s with heap := h', toks := s.toks + 1 + 1 }) : wpAny (model prog w) A (pyNext (.ref it)) Q E s := by
  obtain ⟨ob, hob, hcl, hda⟩ := id y
  have hi : i < z.cps.size := (Array.getElem?_eq_some_iff.mp hc).1
  have hTS : s.TypeIs (.str z tz) "str" := typeIs_str s z tz
  have hlz : z.length = z.cps.size := rfl
  rw [sizeLine_eq] at hz
  unfold pyNext
  refine wpAny_bind (wpAny_attempt (wpAny_callSpecial?_slot (name := Str.ofString "__next__") y.ty slot_rt_next (wpAny_call_entry slot_rt_next y.ty entry_rt_next ?_ (args_rt_next _))))
  unfold Builtin.«reversed.__next__»; refine wpAny_bind (wpAny_of_eq (a := (Value.ref it, [])) rfl ?_)
  try dsimp only
  refine wpAny_bind (wpAny_field hob hda (x := .str z tz) rfl ?_)
  try dsimp only
  refine wpAny_bind (wpAny_field hob hda (x := rawInt (i : Int)) rfl ?_)
  show wpAny _ _ (if (i : Int) < 0 then _ else _) _ _ s; rw [if_neg (by omega)]
  try dsimp only
  refine wpAny_bind (wpAny_specialOf hTS hasG ?_)
  try dsimp only
  try rw [if_neg (by decide)]
  try dsimp only
  refine wpAny_bind (wpAny_mkInt ?_); refine wpAny_bind (wpAny_attempt ?_)
  have fin : seqIndex? (i : Int) z.length = some i := seqIndex_of (by omega) (by omega)
  refine P.getItem_str (s := { s with toks := s.toks + 1 }) (c := c) (by simp; omega) (by rw [fin]; exact hc) ?_
  try dsimp only
  refine wpAny_bind (wpAny_field (s := { s with toks := s.toks + 1 + 1 }) hob hda (x := rawInt (i : Int)) rfl ?_)
  try dsimp only
  refine wpAny_bind (wpAny_setField (s := { s with toks := s.toks + 1 + 1 }) hob hda (by simp) ?_)
  first
  | refine wpAny_pure ⟨_, rfl, wpAny_pure (k _ _ ?_ (Heap.SameBut.update ..))⟩
  | refine wpAny_bind (wpAny_pure (wpAny_pure ⟨_, rfl, wpAny_pure (k _ _ ?_ (Heap.SameBut.update ..))⟩))
  exact ⟨_, Heap.get?_update_self _ hob (Obj.isFreed_of_fields (Obj.data_mapFields hda _)), (Obj.cls_mapFields ..).trans hcl, by rw [Obj.data_mapFields hda]; simp⟩
theorem end_rs {it : Addr} {z : Str} {tz : Tok} {Q : Option Value → Shared → Prop} (hh : A.handled = none) (y : Rs s.heap it z tz (-1)) (k : ∀ h', Heap.ExtBut it s.heap h' → Q none { s with heap := h' }) : wpAny (model prog w) A (pyNext (.ref it)) Q E s := by
  obtain ⟨ob, hob, hcl, hda⟩ := id y
  unfold pyNext
  refine wpAny_bind (wpAny_attempt (wpAny_callSpecial?_slot (name := Str.ofString "__next__") y.ty slot_rt_next (wpAny_call_entry slot_rt_next y.ty entry_rt_next ?_ (args_rt_next _))))
  unfold Builtin.«reversed.__next__»; refine wpAny_bind (wpAny_of_eq (a := (Value.ref it, [])) rfl ?_)
  try dsimp only
  refine wpAny_bind (wpAny_field hob hda (x := .str z tz) rfl ?_)
  try dsimp only
  refine wpAny_bind (wpAny_field hob hda (x := rawInt (-1)) rfl ?_)
  show wpAny _ _ (if (-1 : Int) < 0 then _ else _) _ _ s; rw [if_pos (by decide)]
  try dsimp only
  refine wpAny_bind (wpAny_rule ?_); refine wpAny_bind ?_
  wp_delta
  refine wpAny_bind (wpAny_setField hob hda (by simp) ?_)
  have ho2 := Heap.get?_update_self (Obj.mapFields (·.setIfInBounds 1 (rawInt (-1)))) hob (Obj.isFreed_of_fields (Obj.data_mapFields hda _))
  refine wpAny_setField (s := { s with heap := s.heap.update it (Obj.mapFields (·.setIfInBounds 1 (rawInt (-1)))) }) ho2 (Obj.data_mapFields hda _) (by simp) ?_
  try dsimp only
  first | show wpAny _ _ (newExc (.type "StopIteration") [] >>= _) _ _ _ | (refine wpAny_bind ?_; show wpAny _ _ (newExc (.type "StopIteration") [] >>= _) _ _ _) | (refine wpAny_bind ?_; wp_delta; show wpAny _ _ (newExc (.type "StopIteration") [] >>= _) _ _ _)
  refine wpAny_bind ?_
  simp only [newExc, newTuple]
  refine wpAny_bind (wpAny_newObj_type ?_ (by size_fits)); refine wpAny_bind (m := firstArgMember _ _) (wpAny_of_eq (a := Value.none) (by first | rfl | (simp only [firstArgMember]; rfl)) ?_)
  refine wpAny_newObj_type ?_ (by size_fits); simp only [raiseNew]
  refine wpAny_bind (wpAny_handled ?_); first | rw [show A.in1.handled = none from hh] | rw [hh]
  refine wpAny_bind (wpAny_pure (wpAny_throw ?_)); refine wpAny_bind (wpAny_isInstance (T := "StopIteration") (b := true) ⟨_, Heap.get?_push_size _ rfl, rfl⟩ isSubtype_stop ?_)
  refine wpAny_pure (k _ ?_)
  refine ((?_ : Heap.ExtBut it s.heap _).push _).push _; exact fun b ob' hb e => (Heap.get?_update_other _ _ (Ne.symm hb)).trans ((Heap.get?_update_other _ _ (Ne.symm hb)).trans e)
theorem iter_rs {it : Addr} {z : Str} {tz : Tok} {i : Int} {Q : Value → Shared → Prop} (y : Rs s.heap it z tz i) (k : Q (.ref it) s) : wpAny (model prog w) A (pyIter (.ref it)) Q E s := by
  refine wpAny_pyIter_slot y.ty slot_rt_iter (wpAny_call_entry slot_rt_iter y.ty entry_rt_iter ?_ (args_rt_iter _))
  show wpAny _ _ (ret (.ref it)) _ _ s; exact wpAny_pure ⟨_, rfl, "reversed", _, y.ty, slot_rt_next.lookup, k⟩
end
/-! the turns -/
def ItsR (z : Str) : It := ⟨fun i _ => i < z.cps.size, fun i H y H' => H' = H ∧ ∃ c, z.cps[z.cps.size - 1 - i]? = some c ∧ y = .str ⟨#[c]⟩, fun i _ => z.cps.size ≤ i⟩
theorem turn_rs {P : Program} {w : World} {K : PySem.W.Frag} {tg : Expr} (it : Addr) (z : Str) (tz : Tok) (hz : z.length ≤ sizeLine) : Turn P w K tg (ItsR z) [it] it (fun i h => i ≤ z.cps.size ∧ Rs h it z tz ((z.cps.size : Int) - 1 - (i : Nat))) where
  mem := by simp
  obj := fun i h st b hb => by
    have eb : b = it := by simpa using hb
    subst eb
    obtain ⟨_, ob, e, c, d⟩ := st
    exact ⟨ob, e, fun y q => by rw [d] at q; cases q⟩
  keep := fun i h h' st k => ⟨st.1, st.2.at fun ob e => k it (by simp) ob e⟩
  item := by
    intro X hP hw hK hc i pins s σ H E I hf st hg; subst hP hw hK
    obtain ⟨f0, f1, f2, f3, f4, f5⟩ := hf it (by simp); obtain ⟨_, hit⟩ := st
    have hgi : i < z.cps.size := hg
    have e1 : (z.cps.size : Int) - 1 - ((i : Nat) : Int) = ((z.cps.size - 1 - i : Nat) : Int) := by omega
    rw [e1] at hit
    have hj : z.cps.size - 1 - i < z.cps.size := by omega
    have hcx : z.cps[z.cps.size - 1 - i]? = some z.cps[z.cps.size - 1 - i] := Array.getElem?_eq_getElem hj
    refine next_rs hit hcx hz fun h' u st' sb => ?_
    have e2 : ((z.cps.size - 1 - i : Nat) : Int) - 1 = (z.cps.size : Int) - 1 - ((i + 1 : Nat) : Int) := by omega
    rw [e2] at st'
    have I1 : Inv X pins σ H { s with heap := h', toks := s.toks + 1 + 1 } := I.turned (t' := s.toks + 1 + 1) (fun b o hb e => (sb.2 b hb).trans e) f0 f1 f3 f4 f5
    obtain ⟨ob, e, c, d⟩ := id st'
    exact ⟨_, rfl, go_of (s := { s with heap := h', toks := s.toks + 1 + 1 }) e c d (by decide) ⟨.str ⟨#[_]⟩, H, I1, ⟨_, rfl⟩, ⟨rfl, _, hcx, rfl⟩, ⟨hgi, st'⟩, fun b hb => (hf b hb).1⟩⟩
  done := by
    intro X hP hw hK hc i pins s σ H E I hf st hg; subst hP hw hK
    obtain ⟨f0, f1, f2, f3, f4, f5⟩ := hf it (by simp); obtain ⟨hin, hit⟩ := st
    have hge : z.cps.size ≤ i := hg
    have e1 : (z.cps.size : Int) - 1 - ((i : Nat) : Int) = -1 := by omega
    rw [e1] at hit
    exact end_rs (I.ok.hd hc) hit fun h' eb => ⟨rfl, I.turned (t' := s.toks) (fun b o hb e => eb b o hb e) f0 f1 f3 f4 f5⟩
  self := fun A i s Q E st h => iter_rs st.2 h
def iRevT (te : TE) : TI := fun σ H R => te σ H fun y H1 => ∃ z, y = .str z ∧ z.length ≤ sizeLine ∧ R (ItsR z) H1
theorem pi_revT {X : Cx} {tg e : Expr} {te : TE} {p pos : Pos} (hg : Gl X "reversed") (hm : X.mg "reversed" = none) (he : PE X e te) (hs : starEach [e] X.env = (false, eval e X.env) :: starEach [] X.env := by rfl) : PI X tg (.Call (.Name "reversed" p) [e] [] pos) (iRevT te) := by
  refine ⟨fun pins s σ H R I h => ?_⟩; refine Call_ (ld_blt I hg hm PyProof.Rows.boot_reversed (PyProof.Rows.callWith_type1 (args_cons (thn (he.run pins s σ H _ I h) fun u s1 ⟨y, H1, I1, r1, q1⟩ => args_nil ?_) hs) hs rfl))
  obtain ⟨z, ey, hz, q⟩ := q1
  subst ey
  obtain ⟨tz, rfl⟩ := r1
  have hn := line63
  refine call_rs hz (iter_rs (i := ((z.length : Nat) : Int) - 1) ⟨_, Heap.get?_push_size _ rfl, rfl, rfl⟩ ?_)
  refine pi_one (tk := s1.toks + 1 + 1) I1 _ (turn_rs _ z tz hz) ⟨Nat.zero_le _, ?_⟩ q
  have e1 : (z.cps.size : Int) - 1 - ((0 : Nat) : Int) = (z.length : Int) - 1 := by
    have : z.length = z.cps.size := rfl
    omega
  rw [e1]
  exact ⟨_, Heap.get?_push_size _ rfl, rfl, rfl⟩
end RX

/-! DI, part 0x: min of a list of data; max, min with default. -/
namespace MX
open PySem PySem.Spec PyProof.Rows L2 PySem.W
section
variable {prog : Program} {w : World} {A : Around} {E : Value → Shared → Prop} {s : Shared}
/-- min of a list of alike data: which item it is -/
theorem min_item {la : Addr} {us : Array Value} {z : PyData} {zs : List PyData} {as : List Addr} {Q : Value → Shared → Prop} (hd : A.handled = none) (il : s.heap.IsList la us) (rd : ReadsAll s.heap us.toList (z :: zs) as) (al : AlikeAll (z :: zs)) (hu : A.units + 1 + PyData.depthAll (z :: zs) < cLine)
    (k : ∀ (i : Nat) u h' tk, us[i]? = some u → (z :: zs).getD i .none = minD z zs → (∀ b o, s.heap.get? b = some o → h'.get? b = some o) → Q u { s with heap := h', toks := tk }) :
    wpAny (model prog w) A (call (.builtin "min") [.ref la]) Q E s := by
  have hn : us.size = zs.length + 1 := readsAll_len rd
  refine call_min_walkH (iter_listW (A := A.in1) hd il fun s₂ e W st hfp hw hk => ?_)
  refine ⟨_, _, _, _, _, _, _, s.heap, _, rfl, W, st, hfp, by omega, hw, hk, cmpIn_lt (A := A.in1) rd al (by show A.units + 1 + _ < _; exact hu), fun u s' hP m => ?_⟩
  obtain ⟨h', tk, rfl, hk'⟩ := moved_old e rfl m
  have e1 : us.size - 1 = zs.length := by omega
  have e2 := (argBest_fold dataLt PyData.none z zs zs.length (Nat.le_refl _)).2
  rw [List.take_length, ← e1] at e2
  exact k _ u h' tk hP e2 hk'
end
def rMinD (K : PySem.W.Frag) : List V → Hp → VK → Prop := fun vs H Q => ∃ (a : Addr) (xs : List V) (z : PyData) (zs : List PyData), vs = [V.ref a] ∧ SqL K H a xs ∧ DpAll K H xs (z :: zs) ∧ AlikeAll (z :: zs) ∧ PyData.depthAll (z :: zs) < 60 ∧
  ∀ (i : Nat) y, xs[i]? = some y → (z :: zs).getD i .none = minD z zs → Q y H
def rDf (K : PySem.W.Frag) (mx : Bool) : List V → List V → Hp → VK → Prop := fun vs ws H Q => ∃ (a : Addr) (ns : List Int) (d : Int), vs = [V.ref a] ∧ ws = [V.int d] ∧ SqL K H a (ns.map V.int) ∧ (ns = [] → Q (.int d) H) ∧ ∀ m, m ∈ ns → (∀ y, y ∈ ns → if mx = true then y ≤ m else m ≤ y) → Q (.int m) H
theorem fold_max : ∀ (ns : List Int) (n : Int), ns.foldl max n ∈ n :: ns ∧ ∀ y ∈ n :: ns, y ≤ ns.foldl max n
  | [], n => ⟨by simp, fun y hy => by rw [List.mem_singleton] at hy; subst hy; exact Int.le_refl _⟩
  | a :: r, n => by
    have ih := fold_max r (max n a)
    rw [List.foldl_cons]
    refine ⟨?_, fun y hy => ?_⟩
    · rcases List.mem_cons.mp ih.1 with h | h
      · rw [h]
        rcases Int.le_total n a with q | q
        · rw [Int.max_eq_right q]; simp
        · rw [Int.max_eq_left q]; simp
      · simp [h]
    · have h1 := ih.2 (max n a) (by simp)
      have h2 := Int.le_max_left n a
      have h3 := Int.le_max_right n a
      rcases List.mem_cons.mp hy with h | h
      · omega
      · rcases List.mem_cons.mp h with h | h
        · omega
        · exact ih.2 y (by simp [h])
theorem fold_min : ∀ (ns : List Int) (n : Int), ns.foldl min n ∈ n :: ns ∧ ∀ y ∈ n :: ns, ns.foldl min n ≤ y
  | [], n => ⟨by simp, fun y hy => by rw [List.mem_singleton] at hy; subst hy; exact Int.le_refl _⟩
  | a :: r, n => by
    have ih := fold_min r (min n a)
    rw [List.foldl_cons]
    refine ⟨?_, fun y hy => ?_⟩
    · rcases List.mem_cons.mp ih.1 with h | h
      · rw [h]
        rcases Int.le_total n a with q | q
        · rw [Int.min_eq_left q]; simp
        · rw [Int.min_eq_right q]; simp
      · simp [h]
    · have h1 := ih.2 (min n a) (by simp)
      have h2 := Int.min_le_left n a
      have h3 := Int.min_le_right n a
      rcases List.mem_cons.mp hy with h | h
      · omega
      · rcases List.mem_cons.mp h with h | h
        · omega
        · exact ih.2 y (by simp [h])
theorem alike_ints (ns : List Int) : AlikeAll (ns.map PyData.int) := by
  refine ⟨fun x hx y hy => ?_, fun x hx => ?_⟩
  · obtain ⟨a, _, rfl⟩ := List.mem_map.mp hx
    obtain ⟨b, _, rfl⟩ := List.mem_map.mp hy
    rfl
  · obtain ⟨a, _, rfl⟩ := List.mem_map.mp hx
    exact fun z => by cases z
theorem depth_is : ∀ ns : List Int, PyData.depthAll (ns.map PyData.int) ≤ 1
  | [] => by simp [PyData.depthAll]
  | a :: r => by have := depth_is r; simp [PyData.depthAll, PyData.depth]; try omega
theorem dpAll_ints {K : PySem.W.Frag} {H : Hp} : ∀ ns : List Int, DpAll K H (ns.map V.int) (ns.map PyData.int)
  | [] => .nil
  | a :: r => .cons (.int a) (dpAll_ints r)
section
variable {X : Cx}
theorem cr_minD (hc : X.calm = true) (hu : X.A.units + 65 < cLine) : CallR X (.builtin "min") (rMinD X.K) := by
  intro pins s σ H vs us Q I r h
  obtain ⟨a, xs, z, zs, rfl, hs, hp, al, dp, q⟩ := h
  obtain ⟨its, rv, hl, _⟩ := I.list hs
  obtain ⟨as, rd⟩ := Dp.readsAll I _ _ _ hp rv
  rw [Vals.ref1 r]
  refine min_item (I.ok.hd hc) hl.isList (by simpa using rd) al (by omega) fun i u h' tk hi he hk => ?_
  have hi' : its[i]? = some u := by simpa using hi
  have hlen := rv.length
  have hlt : i < xs.length := by
    rcases Nat.lt_or_ge i xs.length with c | c
    · exact c
    · rw [List.getElem?_eq_none (by omega)] at hi'; cases hi'
  obtain ⟨u', hu', ru⟩ := rv.get (List.getElem?_eq_getElem hlt)
  rw [hi'] at hu'
  cases hu'
  exact ⟨_, H, I.kept hk, ru, q i _ (List.getElem?_eq_getElem hlt) he⟩
theorem cr_maxDf (hc : X.calm = true) (hu : X.A.units + 65 < cLine) : CallRK X (.builtin "max") [Str.ofString "default"] (rDf X.K true) := by
  intro pins s σ H vs zs us ws Q I r1 r2 h
  obtain ⟨a, ns, d, rfl, rfl, hs, q0, q1⟩ := h
  obtain ⟨its, rv, hl, _⟩ := I.list hs
  obtain ⟨as, rd⟩ := Dp.readsAll I _ _ _ (dpAll_ints ns) rv
  obtain ⟨u, rfl, t, rfl⟩ := Vals.one r2
  rw [Vals.ref1 r1]
  have dd := depth_is ns
  refine max_list_default (I.ok.hd hc) hl.isList (by simpa using rd) (alike_ints ns) (by omega) (fun e h' tk hk => ?_) fun y ys i v h' tk bs e hv rdv hk => ?_
  · exact ⟨.int d, H, I.kept hk, ⟨t, rfl⟩, q0 (by simpa using e)⟩
  · cases ns with
    | nil => simp at e
    | cons n r =>
      simp only [List.map_cons, List.cons.injEq] at e
      obtain ⟨rfl, rfl⟩ := e
      rw [maxD_ints] at rdv
      have f := fold_max r n
      obtain ⟨t', rfl⟩ : ∃ t', v = .int (r.foldl max n) t' := by cases rdv; exact ⟨_, rfl⟩
      exact ⟨.int _, H, I.kept hk, ⟨t', rfl⟩, q1 _ f.1 fun y hy => by rw [if_pos rfl]; exact f.2 y hy⟩
theorem cr_minDf (hc : X.calm = true) (hu : X.A.units + 65 < cLine) : CallRK X (.builtin "min") [Str.ofString "default"] (rDf X.K false) := by
  intro pins s σ H vs zs us ws Q I r1 r2 h
  obtain ⟨a, ns, d, rfl, rfl, hs, q0, q1⟩ := h
  obtain ⟨its, rv, hl, _⟩ := I.list hs
  obtain ⟨as, rd⟩ := Dp.readsAll I _ _ _ (dpAll_ints ns) rv
  obtain ⟨u, rfl, t, rfl⟩ := Vals.one r2
  rw [Vals.ref1 r1]
  have dd := depth_is ns
  refine min_list_default (I.ok.hd hc) hl.isList (by simpa using rd) (alike_ints ns) (by omega) (fun e h' tk hk => ?_) fun y ys i v h' tk bs e hv rdv hk => ?_
  · exact ⟨.int d, H, I.kept hk, ⟨t, rfl⟩, q0 (by simpa using e)⟩
  · cases ns with
    | nil => simp at e
    | cons n r =>
      simp only [List.map_cons, List.cons.injEq] at e
      obtain ⟨rfl, rfl⟩ := e
      rw [minD_ints] at rdv
      have f := fold_min r n
      obtain ⟨t', rfl⟩ : ∃ t', v = .int (r.foldl min n) t' := by cases rdv; exact ⟨_, rfl⟩
      exact ⟨.int _, H, I.kept hk, ⟨t', rfl⟩, q1 _ f.1 fun y hy => by rw [if_neg (by decide)]; exact f.2 y hy⟩
end
end MX

/-! DI, part 1: the code of the Python subset and its reading. -/
namespace DI
open L2
open PySem.Spec
open PySem

section
open PyProof.Rows hiding St
/-- a turn by what the kit's walks of tuples tell -/
theorem turn_walksT {P : Program} {w : World} {K : PySem.W.Frag} {elts : List Expr} {kk : Nat} {tpos : Pos} {it : Addr} {fp wr : List Addr} {n : Nat} {Pt : Nat → Array Value → Prop} {St : Nat → Heap → Prop} {Mid : Nat → Addr → Heap → Prop} {J : It}
    (W : ∀ A : Around, A.handled = none → WalksT P w A it fp wr n Pt St Mid) (hm : it ∈ fp) (hobj : ∀ i h, St i h → ∀ b ∈ fp, ∃ o, h.get? b = some o ∧ ∀ v, o.data ≠ .cell v)
    (hgo : ∀ i H, J.go i H → i < n) (hstop : ∀ i H, J.stop i H → n ≤ i)
    (hself : ∀ (A : Around) (i : Nat) (s : Shared) (Q : Value → Shared → Prop) (E : Value → Shared → Prop), St i s.heap → Q (.ref it) s → wpAny (model P w) A (pyIter (.ref it)) Q E s)
    (hval : ∀ i vals, Pt i vals → ∃ vs : List V, Vals vs vals.toList ∧ vs.length ≤ sizeLine ∧ ∀ (H : Hp) T, H T = none → J.yld i H (.ref T) (upd H T (.tup vs))) :
    Turn P w K (.Tuple elts kk tpos) J fp it (fun i h => i ≤ n ∧ St i h) where
  mem := hm
  obj := fun i h st => hobj i h st.2
  keep := fun i h h' st k => ⟨st.1, (W callerA rfl).frame i h h' st.2 k⟩
  item := by
    intro X hP hw hK hc i pins s σ H E I hf st hg
    subst hP hw hK
    have D := W X.A (I.ok.hd hc)
    refine D.item i s _ _ (hgo i H hg) st.2 fun T vals h' tk hp hT ht hmid hk => ?_
    refine ⟨_, rfl, D.go elts kk tpos i T { s with heap := h', toks := tk } _ _ hmid fun h'' st' hk' => ?_⟩
    obtain ⟨vs, rv, hl, hy⟩ := hval i vals hp
    have hn : H T = none := I.hok.fresh hT
    have ht2 := ht.at fun o e => hk' T o (D.apart i T h' hmid) e
    obtain ⟨ot, e1, e2, nn, e3⟩ := ht2
    have new : ObjOk X.prog X.w (upd H T (.tup vs)) h'' T (.tup vs) := ⟨hl, vals.toList, rv, ⟨ot, e1, e2, nn, by rw [e3]⟩⟩
    have I1 : Inv X pins σ (upd H T (.tup vs)) { s with heap := h'', toks := tk } :=
      I.turnedNew (t' := tk) (ch := wr) (fun c o hb q => hk' c o hb (hk c o hb q)) (fun b hb => hf b (D.sub b hb)) hT new
    refine ⟨.ref T, _, I1, rfl, hy H T hn, ⟨hgo i H hg, st'⟩, fun c hcm => ?_⟩
    obtain ⟨oc, ec, _⟩ := hobj i s.heap st.2 c hcm
    have hlt : c < s.heap.objs.size := Heap.lt_size ec
    rw [upd_ne (Nat.ne_of_lt (Nat.lt_of_lt_of_le hlt hT))]
    exact (hf c hcm).1
  done := by
    intro X hP hw hK hc i pins s σ H E I hf st hg
    subst hP hw hK
    have D := W X.A (I.ok.hd hc)
    have e : i = n := Nat.le_antisymm st.1 (hstop i H hg)
    subst e
    exact D.done s _ _ st.2 fun h' tk hk => ⟨rfl, I.turnedL (t' := tk) (ch := wr) hk fun b hb => hf b (D.sub b hb)⟩
  self := fun A i s Q E st h => hself A i s Q E st.2 h
/-- the turns over zip of two texts: new pairs of signs -/
def Izs (x y : Str) : It := ⟨fun i _ => i < min x.cps.size y.cps.size, fun i H v H' => ∃ T c d, v = .ref T ∧ H T = none ∧ H' = upd H T (.tup [.str ⟨#[c]⟩, .str ⟨#[d]⟩]) ∧ x.cps[i]? = some c ∧ y.cps[i]? = some d, fun i _ => min x.cps.size y.cps.size ≤ i⟩
theorem turn_zipS {P : Program} {w : World} {K : PySem.W.Frag} {elts : List Expr} {kk : Nat} {tpos : Pos} {z TI TO i1 i2 : Addr} {x y : Str} {t u : Tok} (S : ZipSep2 z TI TO i1 i2 [i1] [i2]) :
    Turn P w K (.Tuple elts kk tpos) (Izs x y) (z :: TI :: TO :: ([i1] ++ [i2])) z
      (fun i h => i ≤ min x.cps.size y.cps.size ∧ IsZip h z TI TO .none ∧ IsTupOf2 h TI (.ref i1) (.ref i2) ∧ (∃ a1 a2, IsTupOf2 h TO a1 a2) ∧ h.IsStrIter i1 (strIterType x) x t i ∧ h.IsStrIter i2 (strIterType y) y u i) := by
  refine turn_walksT (fun A hA => WalksT.zipD2 S (Draws.text (A := A.in1) hA i1 x t) (Draws.text (A := A.in1) hA i2 y u)) (by simp) (fun i h st b hb => ?_) (fun i H h => h) (fun i H h => h) (fun A i s Q E st h => ?_) fun i vals hp => ?_
  · obtain ⟨hz, hTI, ⟨a1, a2, hTO⟩, ⟨o1, g1, c1, d1⟩, o2, g2, c2, d2⟩ := st
    have e' : b = z ∨ b = TI ∨ b = TO ∨ b = i1 ∨ b = i2 := by simpa using hb
    rcases e' with q | q | q | q | q
    · rw [q]; exact ⟨_, hz, fun v q => nomatch q⟩
    · rw [q]; exact ⟨_, hTI, fun v q => nomatch q⟩
    · rw [q]; exact ⟨_, hTO, fun v q => nomatch q⟩
    · rw [q]; exact ⟨o1, g1, fun v q => by rw [d1] at q; cases q⟩
    · rw [q]; exact ⟨o2, g2, fun v q => by rw [d2] at q; cases q⟩
  · exact wpAny_pyIter_zip st.1 h
  · obtain ⟨x1, x2, ⟨c, t1, hc, rfl⟩, ⟨d, t2, hd, rfl⟩, rfl⟩ := hp
    exact ⟨[.str ⟨#[c]⟩, .str ⟨#[d]⟩], .cons ⟨_, rfl⟩ (.cons ⟨_, rfl⟩ .nil), by show 2 ≤ sizeLine; decide, fun H T hT => ⟨T, c, d, rfl, hT, rfl, hc, hd⟩⟩
def iZipS (ta : TA) : TI := fun σ H R => ta σ H fun vs H1 => ∃ x y : Str, vs = [.str x, .str y] ∧ R (Izs x y) H1
theorem pi_zipS {X : Cx} {e e2 : Expr} {ta : TA} {p pos tpos : Pos} {elts : List Expr} {kk : Nat} (hg : Gl X "zip") (hm : X.mg "zip" = none) (ha : PA X [e, e2] ta)
    (hs : starEach [e, e2] X.env = (false, eval e X.env) :: starEach [e2] X.env := by rfl) (hpl : (backTo pos (starEach [e2] X.env)).any (·.1) = false := by rfl) :
    PI X (.Tuple elts kk tpos) (.Call (.Name "zip" p) [e, e2] [] pos) (iZipS ta) := by
  refine ⟨fun pins s σ H R I h => ?_⟩
  refine Call_ (ld_blt I hg hm PyProof.Rows.boot_zip (PyProof.Rows.callWith_type1 (thn (ha.run pos pins s σ H _ I h) fun us s1 ⟨vs, H1, I1, r1, q1⟩ => ?_) hs hpl))
  obtain ⟨x, y, ex, q⟩ := q1
  subst ex
  cases r1 with
  | cons r rr =>
    cases rr with
    | cons r' rr =>
      cases rr
      obtain ⟨t, rfl⟩ := r
      obtain ⟨u, rfl⟩ := r'
      have fresh5 : ∀ c, c ∈ (s1.heap.objs.size + 4) :: (s1.heap.objs.size + 2) :: (s1.heap.objs.size + 3) :: ([s1.heap.objs.size] ++ [s1.heap.objs.size + 1]) → FpOk X pins H1 c := fun c hcm => by
        have e' : c = s1.heap.objs.size + 4 ∨ c = s1.heap.objs.size + 2 ∨ c = s1.heap.objs.size + 3 ∨ c = s1.heap.objs.size ∨ c = s1.heap.objs.size + 1 := by simpa using hcm
        have hle : s1.heap.objs.size ≤ c := by
          rcases e' with z | z | z | z | z
          · rw [z]; exact Nat.le_add_right _ _
          · rw [z]; exact Nat.le_add_right _ _
          · rw [z]; exact Nat.le_add_right _ _
          · rw [z]; exact Nat.le_refl _
          · rw [z]; exact Nat.le_add_right _ _
        exact I1.fpOk hle (I1.hok.fresh hle)
      refine zip_begins2 (begins_text x t) (begins_text y u) trivial trivial fun h' hz hTI hTO h1 h2 hsz hk => wpAny_pyIter_zip hz ?_
      have I2 : Inv X pins σ H1 { s1 with heap := h' } := I1.kept (t' := s1.toks) hk
      exact ⟨s1.heap.objs.size + 4, _, _, _, H1, rfl, I2, turn_zipS (zip_sep2 (fp1 := []) (fp2 := []) (by simp) (by simp)), ⟨Nat.zero_le _, hz, hTI, ⟨_, _, hTO⟩, ⟨_, h1, rfl, rfl⟩, ⟨_, h2, rfl, rfl⟩⟩, fresh5, q⟩
/-! enumerate over a tuple -/
set_option maxHeartbeats 1000000 in
theorem meets_enum1 {v : Value} {o : Obj} {H : Heap → Prop} (Bg : Begins v o H) :
    Meets (Builtin.«enumerate.__new__» ⟨[.type "enumerate", v], []⟩) (fun _ R s => H s.heap ∧
      R (.ok (.ret (.ref (s.heap.push o).objs.size))) { s with heap := (s.heap.push o).push { cls := .type "enumerate", data := .fields #[.none, .bool false, .ref s.heap.objs.size, rawInt 0, .none, .none] } }) :=
  .of_wp fun prog w A R s h => by
    obtain ⟨hh0, g, d, tk0, os⟩ := s; obtain ⟨hA, h⟩ := h
    have sub0 := sub_enumerate
    have beg : ∀ {A' : Around} {E : Value → Shared → Prop} {Q : Value → Shared → Prop}, Q (.ref hh0.objs.size) ⟨hh0.push o, g, d, tk0, os⟩ → wpAny (model prog w) A' (pyIter v) Q E ⟨hh0, g, d, tk0, os⟩ :=
      fun q => Bg.iter prog w _ _ ⟨hh0, g, d, tk0, os⟩ _ hA q
    wp_walk using beg
    refine wpAny_stack_any fun st => wpAny_pure ?_
    split
    · rename_i c _ _ _ _ _
      cases (c == Value.type "enumerate")
      · wp_walk using beg
        exact ⟨_, rfl, h⟩
      · wp_walk using beg
        exact ⟨_, rfl, h⟩
    · wp_walk using beg
      exact ⟨_, rfl, h⟩
theorem enum_begins1 {prog : Program} {w : World} {A : Around} {E : Value → Shared → Prop} {s : Shared} {v : Value} {o : Obj} {H : Heap → Prop} {Q : Value → Shared → Prop} (Bg : Begins v o H) (hA : H s.heap)
    (h : ∀ hB1, IsEnum hB1 (s.heap.objs.size + 1) s.heap.objs.size 0 .none → hB1.get? s.heap.objs.size = some o → hB1.objs.size = s.heap.objs.size + 2 →
      (∀ b o, s.heap.get? b = some o → hB1.get? b = some o) → Q (.ref (s.heap.objs.size + 1)) { s with heap := hB1 }) :
    wpAny (model prog w) A (call (.type "enumerate") [v]) Q E s := by
  refine callType_new F.called_enumerate (by decide) (F.typeCall_enumerate_1 _) (F.newCall_enumerate_1 _) (fun q => F.args_object_init_2 q _) F.entry_enumerate_new
    (meets_enum1 Bg) ⟨hA, ?_⟩
  have small : (s.heap.push o).objs.size = s.heap.objs.size + 1 := Heap.size_push ..
  show _ ∧ _
  rw [small]
  have hE : IsEnum ((s.heap.push o).push { cls := .type "enumerate", data := .fields #[.none, .bool false, .ref s.heap.objs.size, rawInt 0, .none, .none] }) (s.heap.objs.size + 1) s.heap.objs.size 0 .none := by
    have := Heap.get?_push_size (s.heap.push o) (o := { cls := .type "enumerate", data := .fields #[.none, .bool false, .ref s.heap.objs.size, rawInt 0, .none, .none] }) rfl
    rw [small] at this; exact this
  refine ⟨⟨_, hE, rfl⟩, h _ hE (Heap.get?_push_of_some _ (Heap.get?_push_size _ Bg.free)) (by rw [Heap.size_push, small]) fun b o x => Heap.get?_push_of_some _ (Heap.get?_push_of_some _ x)⟩
/-- the tuple at a, each item in a fresh pair -/
def IteT (K : PySem.W.Frag) (a : Addr) (n : Nat) : It :=
  ⟨fun i H => ∃ (xs : List V) (x : V), SqT K H a xs ∧ xs.length = n ∧ xs[i]? = some x, fun i H v H' => ∃ T x, v = .ref T ∧ H T = none ∧ H' = upd H T (.tup [.int (i : Nat), x]) ∧ ∀ xs, SqT K H a xs → xs[i]? = some x, fun i H => ∃ xs : List V, SqT K H a xs ∧ xs.length = n ∧ n ≤ i⟩
theorem turn_enumT {P : Program} {w : World} {K : PySem.W.Frag} {elts : List Expr} {kk : Nat} {tpos : Pos} (a e it : Addr) (n : Nat) :
    Turn P w K (.Tuple elts kk tpos) (IteT K a n) [e, it] e (fun i h => i ≤ n ∧ (∃ prev, IsEnum h e it ((i : Nat) : Int) prev) ∧ h.IsTupleIter it a i ∧ e ≠ it) where
  mem := by simp
  obj := fun i h st b inB => by
    obtain ⟨_, ⟨prev, hE⟩, ⟨o, ho, hc, hd⟩, _⟩ := st
    have two : b = e ∨ b = it := by simpa using inB
    rcases two with z | z
    · rw [z]; exact ⟨_, hE, fun v q => nomatch q⟩
    · rw [z]; exact ⟨o, ho, fun v q => by rw [hd] at q; cases q⟩
  keep := fun i h hB1 st k => let ⟨below, ⟨prev, hE⟩, lt_, hN⟩ := st; ⟨below, ⟨prev, k e (by simp) _ hE⟩, lt_.at fun o q => k it (by simp) o q, hN⟩
  item := by
    intro X q1 q2 q3 hc i pins s σ H E I off st step
    subst q1 q2 q3
    obtain ⟨below, ⟨prev, hE⟩, hI, hN⟩ := st
    obtain ⟨xs, x, sq, len_, at_⟩ := step
    obtain ⟨us, rel, p, small⟩ := I.tuple sq
    obtain ⟨uv, atU, relU⟩ := rel.get at_
    have ltE : e < s.heap.objs.size := Heap.lt_size hE
    have ltI : it < s.heap.objs.size := by obtain ⟨_, q, _⟩ := hI; exact Heap.lt_size q
    have apI : a ≠ it := fun z => by
      subst z
      obtain ⟨o1, g1, c1, _⟩ := p
      obtain ⟨o2, g2, c2, _⟩ := hI
      rw [g1] at g2
      cases g2
      rw [c1] at c2
      exact absurd c2 (by decide)
    have apE : e ≠ a := fun z => by
      subst z
      obtain ⟨o1, g1, c1, _⟩ := p
      have hE2 : s.heap.get? e = _ := hE
      rw [g1] at hE2
      cases hE2
      exact absurd c1 (by simp)
    have hh : (X.A.in1).handled = none := I.ok.hd hc
    have lt_ : i < xs.length := by
      rcases Nat.lt_or_ge i xs.length with h | h
      · exact h
      · rw [List.getElem?_eq_none h] at at_; cases at_
    refine wpAny_pyNext_enum_itemC (Draws.tuple (prog := X.prog) (w := X.w) hh it a apI us.toArray) hE ⟨hI, p⟩ (by
      have := rel.length
      simp; omega) hN (by simp [hN, apE]) fun item hB1 tk0 hx' ho hI2 tup hZ kp0 => ?_
    have same : item = uv := by
      have : us[i]? = some item := by simpa using hx'
      rw [atU] at this
      cases this
      rfl
    subst same
    refine ⟨_, rfl, wpAny_letOwnedTupleGo_enum (s := { s with heap := hB1, toks := tk0 + 1 }) ho fun hB2 hE2 but => ?_⟩
    have tup2 : hB2.get? s.heap.objs.size = some { cls := .type "tuple", data := .seq #[.int i tk0, item] } := (but.2 _ (Nat.ne_of_gt ltE)).trans tup
    have fresh : ObjOk X.prog X.w (upd H s.heap.objs.size (.tup [.int (i : Nat), x])) hB2 s.heap.objs.size (.tup [.int (i : Nat), x]) :=
      ⟨by show 2 ≤ sizeLine; decide, [.int i tk0, item], .cons ⟨_, rfl⟩ (.cons relU .nil), ⟨_, tup2, rfl, _, rfl⟩⟩
    have J1 : Inv X pins σ (upd H s.heap.objs.size (.tup [.int (i : Nat), x])) { s with heap := hB2, toks := tk0 + 1 } :=
      I.turnedNew (ch := [e, it]) (fun b ob inB q => (but.2 b (fun z => inB (by simp [z]))).trans (kp0 b ob (fun z => inB (by simp [z])) (fun z => inB (by simp [z])) q)) off (Nat.le_refl _) fresh
    refine ⟨.ref s.heap.objs.size, _, J1, rfl, ⟨_, x, rfl, I.hok.fresh (Nat.le_refl _), rfl, fun ys hy => by rw [I.tuple_inj hy sq]; exact at_⟩, ⟨by omega, ⟨item, ?_⟩, hI2.1.at fun o q => (but.2 it (Ne.symm hN)).trans q, hN⟩, fun b inB => ?_⟩
    · have e1 : ((i + 1 : Nat) : Int) = (i : Int) + 1 := by omega
      rw [e1]; exact hE2
    · have ltB : b < s.heap.objs.size := by
        have two : b = e ∨ b = it := by simpa using inB
        rcases two with z | z
        · rw [z]; exact ltE
        · rw [z]; exact ltI
      rw [upd_ne (Nat.ne_of_lt ltB)]
      exact (off b inB).1
  done := by
    intro X q1 q2 q3 hc i pins s σ H E I off st step
    subst q1 q2 q3
    obtain ⟨below, ⟨prev, hE⟩, hI, hN⟩ := st
    obtain ⟨xs, sq, len_, at_⟩ := step
    obtain ⟨us, rel, p, small⟩ := I.tuple sq
    obtain ⟨g0, g1, g2, g3, g4, g5⟩ := off it (by simp)
    have lenR := rel.length
    have apI : a ≠ it := fun z => by
      subst z
      obtain ⟨o1, g1, c1, _⟩ := p
      obtain ⟨o2, g2, c2, _⟩ := hI
      rw [g1] at g2
      cases g2
      rw [c1] at c2
      exact absurd c2 (by decide)
    have hh : (X.A.in1).handled = none := I.ok.hd hc
    refine wpAny_pyNext_enum_endD (Draws.tuple (prog := X.prog) (w := X.w) hh it a apI us.toArray) hE ⟨by
      have e : us.toArray.size = i := by simp; omega
      rw [e]; exact hI, p⟩ fun hB1 kp1 => ⟨rfl, I.turned (t' := s.toks) (fun b o inB q => kp1 b o inB q) g0 g1 g3 g4 g5⟩
  self := fun A i s Q E st h => let ⟨_, ⟨_, hE⟩, _⟩ := st; wpAny_pyIter_enum hE h
def iEnumT (K : PySem.W.Frag) (ta : TA) : TI := fun σ H R => ta σ H fun vs H1 => ∃ a xs, vs = [.ref a] ∧ SqT K H1 a xs ∧ R (IteT K a xs.length) H1
theorem pi_enumT {X : Cx} {e : Expr} {ta : TA} {p pos tpos : Pos} {elts : List Expr} {kk : Nat} (step : Gl X "enumerate") (hm : X.mg "enumerate" = none) (ha : PA X [e] ta) (hs : starEach [e] X.env = [(false, eval e X.env)] := by rfl) :
    PI X (.Tuple elts kk tpos) (.Call (.Name "enumerate" p) [e] [] pos) (iEnumT X.K ta) := by
  refine ⟨fun pins s σ H R I h => ?_⟩
  refine Call_ (ld_blt I step hm boot_enumerate (PyProof.Rows.callWith_type1 (thn (ha.run pos pins s σ H _ I h) fun us s1 ⟨vs, H1, J1, r1, beg⟩ => ?_) hs rfl))
  obtain ⟨a, xs, ex, sq, q⟩ := beg
  subst ex
  cases r1 with
  | cons r rr =>
    cases rr
    cases r
    obtain ⟨us, rel, pt, small⟩ := J1.tuple sq
    refine enum_begins1 (begins_tuple a us.toArray) pt fun hB1 hE hI hZ kp0 => wpAny_pyIter_enum hE ?_
    have J2 : Inv X pins σ H1 { s1 with heap := hB1 } := J1.kept (t' := s1.toks) kp0
    refine ⟨s1.heap.objs.size + 1, [s1.heap.objs.size + 1, s1.heap.objs.size], _, _, H1, rfl, J2, turn_enumT a (s1.heap.objs.size + 1) s1.heap.objs.size xs.length, ⟨Nat.zero_le _, ⟨.none, hE⟩, ⟨_, hI, rfl, rfl⟩, Nat.succ_ne_self _⟩, fun b inB => ?_, q⟩
    have two : b = s1.heap.objs.size + 1 ∨ b = s1.heap.objs.size := by simpa using inB
    have above : s1.heap.objs.size ≤ b := by
      rcases two with z | z
      · rw [z]; exact Nat.le_add_right _ _
      · rw [z]; exact Nat.le_refl _
    exact J1.fpOk above (J1.hok.fresh above)
end
/-- what the reading hangs on: the written part, the class objects, the globals' values, the callees' promises -/
structure Ev where
  K : PySem.W.Frag
  cls : Nat → Addr
  gv : Nat → V
  sp : Nat → Sp
  /-- the exception classes that may be raised, with their field; the exception that an except suite holds -/
  exs : List (Nat × Str) := []
  ex : Option (Addr × Value × Option Addr) := none

/-- built-in functions -/
inductive Bf where
  | len | int | str | abs | max | min | sum | list | tuple | sorted | all | any | isi | repr
  deriving DecidableEq
/-- methods of built-in types -/
inductive Bm where
  | append | pop | extend | insert | join | find | split | lstrip | indexS | indexL
  deriving DecidableEq

/-- the type of a method's receiver -/
def Bm.ty : Bm → String
  | .append => "list"
  | .pop => "list"
  | .extend => "list"
  | .insert => "list"
  | .join => "str"
  | .find => "str"
  | .split => "str"
  | .lstrip => "str"
  | .indexS => "str"
  | .indexL => "list"
mutual
/-- expressions -/
inductive Xp where
  | v (i : Nat)
  | c (x : V)
  | g (i : Nat)
  | ty (n : String)
  | bin (op : Operator) (a b : Xp)
  | neg (a : Xp)
  | cmp (op : CmpOp) (a b : Xp)
  | chn (o1 o2 : CmpOp) (a b c : Xp)
  | and (a b : Xp)
  | or (a b : Xp)
  | not (a : Xp)
  | ite (t : Tt) (a b : Xp)
  | tup (es : Xps)
  | lst (es : Xps)
  | dct0 | dctT0
  | dct (ks vs : Xps)
  | dget (d k x : Xp)
  | lrg1 (a : Xp)
  | lrg2 (a b : Xp)
  | chn3 (o1 o2 o3 : CmpOp) (a b c d : Xp)
  | ef (i : Nat) (f : Str)
  | ei (i : Nat) (C : Nat)
  | eib (i : Nat) (n : String)
  | ix (a i : Xp)
  | sl (a : Xp) (lo hi : Xpo)
  | rev (a : Xp)
  | fld (C : Nat) (o : Xp) (f : Str)
  | call (f : Nat) (es : Xps)
  | callk (f : Nat) (es ks : Xps)
  | bits (a : Xp)
  | mk (C f : Nat) (es : Xps)
  | meth (m C : Nat) (nm : Str) (o : Xp) (es : Xps)
  | bc (b : Bf) (es : Xps)
  /-- max, min with default -/
  | mxd (mx : Bool) (a d : Xp)
  /-- len(x), x of a class of the text -/
  | lenO (m C : Nat) (es : Xps)
  | bm (m : Bm) (o : Xp) (es : Xps)
  | lc (el : Xp) (tg : Tg) (it : Sq) (ifs : Tto) (own : List Nat)
  | dc (k el : Xp) (tg : Tg) (it : Sq) (ifs : Tto) (own : List Nat)
  /-- while a dict is only read -/
  | lckE (e : Xp)
/-- a slice's part -/
inductive Xpo where
  | no
  | so (e : Xp)
inductive Xps where
  | nil
  | cons (e : Xp) (r : Xps)
/-- tests -/
inductive Tt where
  | tr (e : Xp)
  | cmp (op : CmpOp) (a b : Xp)
  | chn (o1 o2 : CmpOp) (a b c : Xp)
  | chn3 (o1 o2 o3 : CmpOp) (a b c d : Xp)
  | and (a b : Tt)
  | or (a b : Tt)
  | not (a : Tt)
inductive Tto where
  | no
  | so (t : Tt)
/-- what a for walks -/
inductive Sq where
  | lst (e : Xp)
  | tup (e : Xp)
  | txt (e : Xp)
  | rng1 (a : Xp)
  | rng2 (a b : Xp)
  | rng3 (a b c : Xp)
  | enm (e : Xp)
  | zip (a b : Xp)
  | zipS (a b : Xp)
  | rvs (e : Xp)
  | rvT (e : Xp)
  | rvr1 (a : Xp)
  | rvr2 (a b : Xp)
  | any (a b : Sq)
  | enmT (e : Xp)
  | dk (e : Xp)
/-- targets -/
inductive Tg where
  | nm (i : Nat)
  | tup (gs : Tgs)
  | sub (o i : Xp)
inductive Tgs where
  | nil
  | cons (g : Tg) (r : Tgs)
end
mutual
/-- statements -/
inductive Sm where
  | asg (g : Tg) (e : Xp)
  | asl (i : Nat) (el : Xp) (tg : Tg) (it : Sq) (ifs : Tto) (own : List Nat)
  | par (i j : Nat) (a b : Xp)
  | par3 (i j l : Nat) (a b c : Xp)
  | fld (C : Nat) (o : Xp) (f : Str) (e : Xp)
  | aug (i : Nat) (op : Operator) (e : Xp)
  | augf (C : Nat) (o : Xp) (f : Str) (op : Operator) (e : Xp)
  | exp (e : Xp)
  | ret (e : Xp)
  | retN
  | pass
  | brk
  | cnt
  | ite (t : Tt) (a b : Sms)
  | whl (t : Tt) (b : Sms)
  | for_ (tg : Tg) (it : Sq) (b : Sms)
  | rai (C : Nat) (f : Str) (es : Xps)
  | tryA (b : Sms) (C : Nat) (i : Nat) (s : Sms)
  | tryO (b : Sms) (C : Nat) (s : Sms)
  | tryM (b : Sms) (hs : Hds)
  | lck (s : Sm)
  | ddel (d k : Xp)
  | never
inductive Sms where
  | nil
  | cons (s : Sm) (r : Sms)
/-- except clauses without a name -/
inductive Hds where
  | nil
  | cons (C : Nat) (s : Sms) (r : Hds)
end

/-! ### operations by values -/
section
variable (K : PySem.W.Frag)
/-- + of two things of the heap -/
inductive RCat (a b : Addr) (H : Hp) (Q : VK) : Prop
  | lst {xs ys : List V} (ha : H a = some (.lst xs)) (hb : H b = some (.lst ys)) (hz : xs.length + ys.length ≤ sizeLine) (q : ∀ p, H p = none → Q (.ref p) (upd H p (.lst (xs ++ ys))))
  | tup {xs ys : List V} (ha : SqT K H a xs) (hb : SqT K H b ys) (hz : xs.length + ys.length ≤ sizeLine) (q1 : xs = [] → Q (.ref b) H) (q2 : xs ≠ [] → ys = [] → Q (.ref a) H)
      (q3 : xs ≠ [] → ys ≠ [] → ∀ p, H p = none → Q (.ref p) (upd H p (.tup (xs ++ ys))))
def rAdd : R2 := fun x y H Q => match x, y with
  | .int i, .int j => Q (.int (i + j)) H
  | .str a, .str b => a.length + b.length ≤ sizeLine ∧ Q (.str (a ++ b)) H
  | .ref a, .ref b => RCat K a b H Q
  | _, _ => False
def rSub : R2 := fun x y H Q => match x, y with
  | .int i, .int j => Q (.int (i - j)) H
  | _, _ => False
inductive RRep (a : Addr) (k : Int) (H : Hp) (Q : VK) : Prop
  | lst {xs : List V} (ha : H a = some (.lst xs)) (h1 : -(2 ^ 63) ≤ k) (h2 : k < 2 ^ 63) (hz : xs.length * k.toNat ≤ sizeLine) (q : ∀ p, H p = none → Q (.ref p) (upd H p (.lst (List.replicate k.toNat xs).flatten)))
def rMul : R2 := fun x y H Q => match x, y with
  | .int i, .int j => CMul i j ∧ Q (.int (i * j)) H
  | .str a, .int k => MulOk a k ∧ Q (.str (Txt.mul a k)) H
  | .ref a, .int k => RRep a k H Q
  | _, _ => False
def rFdv : R2 := fun x y H Q => match x, y with
  | .int i, .int j => (0 < j ∧ j.natAbs.log2 < 9000) ∧ Q (.int (i / j)) H
  | _, _ => False
def rMod : R2 := fun x y H Q => match x, y with
  | .int i, .int j => 0 < j ∧ Q (.int (i % j)) H
  | _, _ => False
def rPow : R2 := fun x y H Q => match x, y with
  | .int i, .int j => CPow i j ∧ Q (.int (i ^ j.toNat)) H
  | _, _ => False
def rShl : R2 := fun x y H Q => match x, y with
  | .int i, .int j => (CPow i j ∨ CShl i j) ∧ Q (.int (i * 2 ^ j.toNat)) H
  | _, _ => False
def rShr : R2 := fun x y H Q => match x, y with
  | .int i, .int j => 0 ≤ j ∧ Q (.int (i / 2 ^ j.toNat)) H
  | _, _ => False
def rAnd : R2 := fun x y H Q => match x, y with
  | .int i, .int j => Q (.int (Builtin.bitAnd i j)) H
  | _, _ => False
def rOr : R2 := fun x y H Q => match x, y with
  | .int i, .int j => Q (.int (Builtin.bitOr i j)) H
  | _, _ => False
def rXor : R2 := fun x y H Q => match x, y with
  | .int i, .int j => Q (.int (Builtin.bitXor i j)) H
  | _, _ => False
def rBin : Operator → R2
  | .Add => rAdd K
  | .Sub => rSub
  | .Mult => rMul
  | .FloorDiv => rFdv
  | .Mod => rMod
  | .Pow => rPow
  | .LShift => rShl
  | .RShift => rShr
  | .BitAnd => rAnd
  | .BitOr => rOr
  | .BitXor => rXor
  | _ => fun _ _ _ _ => False

/-- data of any depth, dicts too -/
def kD : Key → PyData
  | .inl i => .int i
  | .inr x => .str x
mutual
inductive Dq (H : Hp) : V → PyData → Prop
  | non : Dq H .non .none
  | bl (b : Bool) : Dq H (.bl b) (.bool b)
  | int (i : Int) : Dq H (.int i) (.int i)
  | str (x : Str) : Dq H (.str x) (.str x)
  | lst {a : Addr} {xs : List V} {ds : List PyData} (h : SqL K H a xs) (r : DqAll H xs ds) : Dq H (.ref a) (.list ds)
  | tup {a : Addr} {xs : List V} {ds : List PyData} (h : SqT K H a xs) (r : DqAll H xs ds) : Dq H (.ref a) (.tuple ds)
  | dic {a : Addr} {kvs : List (Key × V)} {ds : List PyData} (h : H a = some (.dK kvs)) (r : DqAll H (kvs.map (·.2)) ds) : Dq H (.ref a) (.dict ((kvs.map fun kv => kD kv.1).zip ds))
inductive DqAll (H : Hp) : List V → List PyData → Prop
  | nil : DqAll H [] []
  | cons {x : V} {xs : List V} {d : PyData} {ds : List PyData} (h : Dq H x d) (r : DqAll H xs ds) : DqAll H (x :: xs) (d :: ds)
end
variable {K} in
mutual
theorem Dq.dp {H : Hp} : ∀ {x : V} {d : PyData}, Dq K H x d → d.hasDict = false → Dp K H x d
  | _, _, .non, _ => .non
  | _, _, .bl b, _ => .bl b
  | _, _, .int i, _ => .int i
  | _, _, .str x, _ => .str x
  | _, _, .lst h r, n => .lst h (r.dp n)
  | _, _, .tup h r, n => .tup h (r.dp n)
  | _, _, .dic h r, n => by cases n
theorem DqAll.dp {H : Hp} : ∀ {xs : List V} {ds : List PyData}, DqAll K H xs ds → PyData.hasDictAll ds = false → DpAll K H xs ds
  | _, _, .nil, _ => .nil
  | _, _, .cons (d := d) (ds := ds) h r, n => by
    have n : (d.hasDict || PyData.hasDictAll ds) = false := n
    rw [Bool.or_eq_false_iff] at n
    exact .cons (h.dp n.1) (r.dp n.2)
end
theorem shaped_nd {d : PyData} (h : SeqAt.shaped d = true) : d.hasDict = false := by
  unfold SeqAt.shaped at h
  rw [Bool.and_eq_true] at h
  exact PyData.hasDict_of_canLay d h.1
/-- == by values; Q of the answer -/
inductive REq (x y : V) (H : Hp) (Q : Bool → Prop) : Prop
  | scal (h : scal x y = true) (q : Q (decide (x = y)))
  | deep {d e : PyData} (hd : Dq K H x d) (he : Dq K H y e) (sd : SeqAt.shaped d = true) (se : SeqAt.shaped e = true) (q : Q (PyData.eqv d e))
def rEqB (x y : V) (H : Hp) (Q : Bool → Prop) : Prop := match x, y with
  | .int i, .int j => Q (decide (i = j))
  | .str i, .str j => Q (decide (i = j))
  | .bl i, .bl j => Q (decide (i = j))
  | x, y => REq K x y H Q
/-- in by values -/
inductive RIn (x : V) (b : Addr) (H : Hp) (Q : Bool → Prop) : Prop
  | flat {xs : List V} (h : SqL K H b xs ∨ SqT K H b xs) (fx : flatV x = true) (fs : xs.all flatV = true) (q : Q (inV x xs))
  | dict {o : Option V} (h : DGet H b x o) (q : Q o.isSome)
  | deep {d : PyData} {ds : List PyData} (hd : Dq K H x d) (he : Dq K H (.ref b) (.list ds)) (sd : SeqAt.shaped d = true) (se : SeqAt.shaped (.list ds) = true) (q : Q (ds.any fun z => PyData.eqv z d))
inductive RInS (x z : Str) (Q : Bool → Prop) : Prop
  | sign (c : Nat) (h : x = ⟨#[c]⟩) (q : Q (decide (c ∈ z.cps.toList)))
  | text (q : Q (!(Builtin.Str.occurrences z x 0 z.length 1).isEmpty))
def rInB (x y : V) (H : Hp) (Q : Bool → Prop) : Prop := match y with
  | .str z => (match x with
    | .str a => RInS a z Q
    | _ => False)
  | .ref b => RIn K x b H Q
  | _ => False
/-- is, where one side is None -/
def rIsB (x y : V) (Q : Bool → Prop) : Prop := (y = .non ∧ Q (decide (x = .non))) ∨ ∃ a b : Bool, x = .bl a ∧ y = .bl b ∧ Q (decide (a = b))
inductive RLtR (a b : Addr) (H : Hp) (Q : Bool → Prop) : Prop
  | tup {ns ms : List Int} (ha : SqT K H a (ns.map V.int)) (hb : SqT K H b (ms.map V.int)) (q : Q (HT.lexLt ns ms))
def rLtB (x y : V) (H : Hp) (Q : Bool → Prop) : Prop := match x, y with
  | .int i, .int j => Q (decide (i < j))
  | .str i, .str j => Q (decide (i.cps.toList < j.cps.toList))
  | .ref a, .ref b => RLtR K a b H Q
  | _, _ => False
def rLeB (x y : V) (Q : Bool → Prop) : Prop := match x, y with
  | .int i, .int j => Q (decide (i ≤ j))
  | .str i, .str j => Q (!decide (j.cps.toList < i.cps.toList))
  | _, _ => False
def rGtB (x y : V) (Q : Bool → Prop) : Prop := match x, y with
  | .int i, .int j => Q (decide (j < i))
  | .str i, .str j => Q (decide (j.cps.toList < i.cps.toList))
  | _, _ => False
def rGeB (x y : V) (Q : Bool → Prop) : Prop := match x, y with
  | .int i, .int j => Q (decide (j ≤ i))
  | .str i, .str j => Q (!decide (i.cps.toList < j.cps.toList))
  | _, _ => False
/-- a comparison by values; Q of the answer -/
def rCmpB : CmpOp → V → V → Hp → (Bool → Prop) → Prop
  | .Eq => fun x y H Q => rEqB K x y H Q
  | .NotEq => fun x y H Q => rEqB K x y H fun b => Q (!b)
  | .Lt => fun x y H Q => rLtB K x y H Q
  | .LtE => fun x y _ Q => rLeB x y Q
  | .Gt => fun x y _ Q => rGtB x y Q
  | .GtE => fun x y _ Q => rGeB x y Q
  | .In => fun x y H Q => rInB K x y H Q
  | .NotIn => fun x y H Q => rInB K x y H fun b => Q (!b)
  | .Is => fun x y _ Q => rIsB x y Q
  | .IsNot => fun x y _ Q => rIsB x y fun b => Q (!b)
def rCmp (op : CmpOp) : R2 := fun x y H Q => rCmpB K op x y H fun b => Q (.bl b) H

/-- a subscript by values -/
inductive RIxR (a : Addr) (y : V) (H : Hp) (Q : VK) : Prop
  | lst {xs : List V} {i : Int} {v : V} (h : SqL K H a xs) (e : y = .int i) (hv : atI xs i = some v) (q : Q v H)
  | tup {xs : List V} {i : Int} {v : V} (h : SqT K H a xs) (e : y = .int i) (hv : atI xs i = some v) (q : Q v H)
  | dict {v : V} (h : DGet H a y (some v)) (q : Q v H)
def rIxA : R2 := fun x y H Q => match x with
  | .str z => ∃ i c, y = .int i ∧ z.length ≤ sizeLine ∧ atI z.cps.toList i = some c ∧ Q (.str ⟨#[c]⟩) H
  | .ref a => RIxR K a y H Q
  | _ => False
/-- a slice by values -/
inductive RSlR (a : Addr) (lo hi : Option Int) (H : Hp) (Q : VK) : Prop
  | lst {xs : List V} (h : SqL K H a xs) (q : ∀ p, H p = none → Q (.ref p) (upd H p (.lst (cutV xs lo hi))))
  | tup {xs : List V} (h : SqT K H a xs) (q1 : HT.sIx xs.length 0 lo = 0 ∧ HT.sIx xs.length xs.length hi = xs.length → Q (.ref a) H)
      (q2 : ¬ (HT.sIx xs.length 0 lo = 0 ∧ HT.sIx xs.length xs.length hi = xs.length) → ∀ p, H p = none → Q (.ref p) (upd H p (.tup (cutV xs lo hi))))
def rSlAny : V → Option Int → Option Int → Hp → VK → Prop := fun x lo hi H Q => match x with
  | .str z => z.length ≤ sizeLine ∧ Q (.str (cutS z lo hi)) H
  | .ref a => RSlR K a lo hi H Q
  | _ => False
/-- o[i] = v by values -/
inductive RSetR (a : Addr) (y v : V) (H : Hp) (Q : Hp → Prop) : Prop
  | lst {xs : List V} {k : Int} {j : Nat} (h : H a = some (.lst xs)) (e : y = .int k) (hj : ixN xs.length k = some j) (q : Q (upd H a (.lst (xs.set j v))))
  | dict {H' : Hp} (h : DPut H a y v H') (q : Q H')
def rSetA : TSet := fun o i v H Q => match o with
  | .ref a => RSetR a i v H Q
  | _ => False
/-- truth by values -/
inductive RTru (a : Addr) (H : Hp) (Q : Bool → Prop) : Prop
  | lst {xs : List V} (h : SqL K H a xs) (q : Q (!xs.isEmpty))
  | tup {xs : List V} (h : SqT K H a xs) (q : Q (!xs.isEmpty))
  | dict {kvs : List (Key × V)} (h : H a = some (.dK kvs)) (q : Q (!kvs.isEmpty))
def rTru (x : V) (H : Hp) (Q : Bool → Prop) : Prop := match x with
  | .non => Q false
  | .bl b => Q b
  | .int i => Q (decide (i ≠ 0))
  | .str y => y.length ≤ sizeLine ∧ Q (decide (y.length ≠ 0))
  | .ref p => RTru K p H Q
  | _ => False
/-- the length by values -/
inductive RLen (a : Addr) (H : Hp) (Q : Nat → Prop) : Prop
  | lst {xs : List V} (h : SqL K H a xs) (q : Q xs.length)
  | tup {xs : List V} (h : SqT K H a xs) (q : Q xs.length)
  | dict {kvs : List (Key × V)} (h : H a = some (.dK kvs)) (q : Q kvs.length)
  | dicT {kvs : List (List Key × V)} (h : H a = some (.dT kvs)) (q : Q kvs.length)
/-- list(x) -/
inductive RLst (a : Addr) (H : Hp) (Q : VK) : Prop
  | lst {xs : List V} (h : SqL K H a xs) (q : ∀ p, H p = none → Q (.ref p) (upd H p (.lst xs)))
  | tup {xs : List V} (h : SqT K H a xs) (q : ∀ p, H p = none → Q (.ref p) (upd H p (.lst xs)))
  | dict {kvs : List (Key × V)} (h : Rd H a (.dK kvs)) (q : ∀ p, H p = none → Q (.ref p) (upd H p (.lst (kvs.map fun kv => kV kv.1))))
/-- tuple(x) -/
inductive RTup (a : Addr) (H : Hp) (Q : VK) : Prop
  | lst {xs : List V} (h : SqL K H a xs) (q : ∀ p, H p = none → Q (.ref p) (upd H p (.tup xs)))
  | tup {xs : List V} (h : SqT K H a xs) (q : Q (.ref a) H)
inductive RSrt (a : Addr) (H : Hp) (Q : VK) : Prop
  | dct {kvs : List (Key × V)} {ks : List Int} (h : Rd H a (.dK kvs)) (e : kvs.map (·.1) = ks.map Sum.inl) (hl : ks.length < 64) (q : ∀ (ys : List Int) (p : Addr), ys.Perm ks → ys.Pairwise (· ≤ ·) → H p = none → Q (.ref p) (upd H p (.lst (ys.map V.int))))
  | srt {ns : List Int} (h : SqL K H a (ns.map V.int)) (q : ∀ (ms : List Int) (p : Addr), ms.Perm ns → ms.Pairwise (· ≤ ·) → H p = none → Q (.ref p) (upd H p (.lst (ms.map V.int))))
def rBf : Bf → List V → Hp → VK → Prop
  | .len => fun vs H Q => match vs with
    | [.str s] => s.length ≤ sizeLine ∧ Q (.int s.length) H
    | [.ref a] => RLen K a H fun n => Q (.int n) H
    | _ => False
  | .int => fun vs H Q => match vs with
    | [.int i] => Q (.int i) H
    | [.bl b] => Q (.int (if b = true then 1 else 0)) H
    | [.str a] => ∃ n, PySem.intText? a = some n ∧ a.length ≤ 640 ∧ Q (.int n) H
    | _ => False
  | .str => fun vs H Q => match vs with
    | [.int i] => i.natAbs.log2 < 1920 ∧ Q (.str (toString i)) H
    | [.str a] => Q (.str a) H
    | _ => False
  | .abs => fun vs H Q => match vs with
    | [.int i] => Q (.int (if i < 0 then -i else i)) H
    | _ => False
  | .max => fun vs H Q => match vs with
    | [.int i, .int j] => Q (.int (if j > i then j else i)) H
    | [.ref a] => ∃ ns : List Int, SqL K H a (ns.map V.int) ∧ 0 < ns.length ∧ ∀ m, m ∈ ns → (∀ y, y ∈ ns → y ≤ m) → Q (.int m) H
    | _ => False
  | .min => fun vs H Q => match vs with
    | [.int i, .int j] => Q (.int (if j < i then j else i)) H
    | [.ref a] => (∃ ns : List Int, SqL K H a (ns.map V.int) ∧ 0 < ns.length ∧ ∀ m, m ∈ ns → (∀ y, y ∈ ns → m ≤ y) → Q (.int m) H) ∨ MX.rMinD K [.ref a] H Q
    | _ => False
  | .sum => fun vs H Q => match vs with
    | [.ref a] => ∃ ns : List Int, SqL K H a (ns.map V.int) ∧ Q (.int ns.sum) H
    | _ => False
  | .list => fun vs H Q => match vs with
    | [.ref a] => RLst K a H Q
    | _ => False
  | .tuple => fun vs H Q => match vs with
    | [.ref a] => RTup K a H Q
    | _ => False
  | .sorted => fun vs H Q => match vs with
    | [.ref a] => RSrt K a H Q
    | _ => False
  | .all => fun vs H Q => match vs with
    | [.ref a] => ∃ bs : List Bool, SqL K H a (bs.map V.bl) ∧ Q (.bl (bs.all id)) H
    | _ => False
  | .any => fun vs H Q => match vs with
    | [.ref a] => ∃ bs : List Bool, SqL K H a (bs.map V.bl) ∧ Q (.bl (bs.any id)) H
    | _ => False
  | .isi => fun vs H Q => match vs with
    | [x, c] => ∃ (t u : Value) (b : Bool), ClsV c u ∧ TyX K H x t ∧ PySem.W.kitOne K t u = some b ∧ Q (.bl b) H
    | _ => False
  | .repr => fun vs H Q => match vs with
    | [x] => ∃ d : PyData, Dq K H x d ∧ d.showable = true ∧ d.depth < 63 ∧ d.shown.length ≤ sizeLine ∧ Q (.str d.shown) H
    | _ => False
def rBm : Bm → V → List V → Hp → VK → Prop
  | .append => fun x vs H Q => match x, vs with
    | .ref a, [y] => ∃ xs, H a = some (.lst xs) ∧ xs.length < sizeLine ∧ Q .non (upd H a (.lst (xs ++ [y])))
    | _, _ => False
  | .pop => fun x vs H Q => match x, vs with
    | .ref a, [] => ∃ xs y, H a = some (.lst xs) ∧ xs[xs.length - 1]? = some y ∧ Q y (upd H a (.lst xs.dropLast))
    | .ref a, [.int i] => ∃ xs k y, H a = some (.lst xs) ∧ -(2 ^ 63) ≤ i ∧ i < 2 ^ 63 ∧ seqIndex? i xs.length = some k ∧ xs[k]? = some y ∧ Q y (upd H a (.lst (xs.eraseIdx k)))
    | _, _ => False
  | .extend => fun x vs H Q => match x, vs with
    | .ref a, [.ref b] => ∃ xs zs, H a = some (.lst xs) ∧ H b = some (.lst zs) ∧ xs.length + zs.length ≤ sizeLine ∧ Q .non (upd H a (.lst (xs ++ zs)))
    | _, _ => False
  | .insert => fun x vs H Q => match x, vs with
    | .ref a, [.int i, y] => ∃ xs, H a = some (.lst xs) ∧ xs.length < sizeLine ∧ 0 ≤ i ∧ i < 2 ^ 63 ∧ Q .non (upd H a (.lst (xs.take i.toNat ++ [y] ++ xs.drop i.toNat)))
    | _, _ => False
  | .find => fun x vs H Q => match x, vs with
    | .str a, [.str b] => Q (.int (Txt.find a b)) H
    | _, _ => False
  | .split => fun x vs H Q => match x, vs with
    | .str a, [.str b] => (b.length == 0) = false ∧ a.length + 2 ≤ sizeLine ∧ ∀ p, H p = none → Q (.ref p) (upd H p (.lst ((Txt.split a b).map V.str)))
    | _, _ => False
  | .lstrip => fun x vs H Q => match x, vs with
    | .str a, [.str b] => a.length ≤ sizeLine ∧ Q (.str (Txt.lstripChars a b)) H
    | _, _ => False
  | .indexS => fun x vs H Q => match x, vs with
    | .str a, [.str b] => ∃ k : Nat, Txt.index0 a b = some k ∧ Q (.int k) H
    | _, _ => False
  | .indexL => fun x vs H Q => match x, vs with
    | .ref a, [y] => ∃ (ys : List V) (j : Nat) (z : V), SqL K H a ys ∧ flatV y = true ∧ ys.all flatV = true ∧ ys[j]? = some z ∧ eqV z y = true ∧ (∀ (m : Nat) (z' : V), m < j → ys[m]? = some z' → eqV z' y = false) ∧ Q (.int j) H
    | _, _ => False
  | .join => fun x vs H Q => match x, vs with
    | .str a, [.ref p] => ∃ ys : List Str, (SqL K H p (ys.map V.str) ∨ SqT K H p (ys.map V.str)) ∧ (ys.map (·.length)).sum + ys.length * a.length ≤ 16777216 ∧ Q (.str (Txt.join a ys)) H
    | _, _ => False
end

/-! ### the reading -/
def tV (i : Nat) : TE := fun σ H Q => match σ[i]? with
  | some (some x) => Q x H
  | _ => False
def tIfV (ta : TE) (f : Bool → St → Hp → VK → Prop) : TE := fun σ H Q => ta σ H fun x H1 => match x with
  | .bl b => f b σ H1 Q
  | _ => False
def tCp (r : V → V → Hp → (Bool → Prop) → Prop) (ta tb : TE) : TT := fun σ H Q => ta σ H fun x H1 => tb σ H1 fun y H2 => r x y H2 fun b => Q b H2
/-- the exception that an except suite holds: its field; isinstance of it -/
def tEf (v : Ev) (i : Nat) (f : Str) : TE := fun σ H Q => ∃ (a dd : Addr) (j : Nat) (fs : List (Str × V)) (z : V), v.ex = some (a, .ref (v.cls j), some dd) ∧ (j, f) ∈ v.exs ∧ σ[i]? = some (some (.ref a)) ∧ H dd = some (.xd fs) ∧ fs.lookup f = some z ∧ Q z H
def tEi (v : Ev) (i : Nat) (c : Value) : TE := fun σ H Q => ∃ (a dd : Addr) (j : Nat) (f : Str) (fs : List (Str × V)) (b : Bool), v.ex = some (a, .ref (v.cls j), some dd) ∧ (j, f) ∈ v.exs ∧ σ[i]? = some (some (.ref a)) ∧ H dd = some (.xd fs) ∧ PySem.W.kitOne v.K (.ref (v.cls j)) c = some b ∧ Q (.bl b) H
def tCh3 (r r' r'' : V → V → Hp → (Bool → Prop) → Prop) (ta tb tc td : TE) : TT := fun σ H Q => ta σ H fun x H1 => tb σ H1 fun y H2 => r x y H2 fun b =>
  if b = true then tc σ H2 fun z H3 => r' y z H3 fun b' => if b' = true then td σ H3 fun u H4 => r'' z u H4 fun b2 => Q b2 H4 else Q false H3 else Q false H2
/-- a raise, by its class and the dict of its own -/
def tRai (C : Addr) (f : Str) (ta : TA) : St → Hp → XK → Prop := fun σ H Q => ta σ H fun vs H1 => ∃ y, vs = [y] ∧ ∀ dx, H1 dx = none → Q (.ref C) (some dx) (upd H1 dx (.xd [(f, y)]))
def tCh (r r' : V → V → Hp → (Bool → Prop) → Prop) (ta tb tc : TE) : TT := fun σ H Q => ta σ H fun x H1 => tb σ H1 fun y H2 => r x y H2 fun b =>
  if b = true then tc σ H2 fun z H3 => r' y z H3 fun b' => Q b' H3 else Q false H2
def tFl (C : Addr) (ta : TE) (f : Str) : TE := fun σ H Q => ta σ H fun x H1 => ∃ a dx fs v, x = .ref a ∧ H1 a = some (.ins C dx fs) ∧ fs.lookup f = some v ∧ Q v H1

def Xps.len : Xps → Nat
  | .nil => 0
  | .cons _ r => r.len + 1
mutual
def Xp.den (v : Ev) : Xp → WX → TE
  | .v i, _ => tV i
  | .c x, _ => tC x
  | .g i, _ => tC (v.gv i)
  | .ty n, _ => tC (.ty n)
  | .bin op a b, W => tOp (rBin v.K op) (a.den v W) (b.den v W)
  | .neg a, W => tUn (rU fun i => .int (-i)) (a.den v W)
  | .cmp op a b, W => tOp (rCmp v.K op) (a.den v W) (b.den v W)
  | .chn o1 o2 a b c, W => fun σ H Q => tCh (rCmpB v.K o1) (rCmpB v.K o2) (a.den v W) (b.den v W) (c.den v W) σ H fun k H1 => Q (.bl k) H1
  | .and a b, W => tIfV (a.den v W) fun k σ H Q => if k = true then b.den v W σ H Q else Q (.bl false) H
  | .or a b, W => tIfV (a.den v W) fun k σ H Q => if k = true then Q (.bl true) H else b.den v W σ H Q
  | .not a, W => tIfV (a.den v W) fun k _ H Q => Q (.bl (!k)) H
  | .ite t a b, W => tIf (t.den v W) (a.den v W) (b.den v W)
  | .tup es, W => tTup (es.den v W)
  | .lst es, W => tLst (es.den v W)
  | .dct0, _ => tDNewK
  | .dctT0, _ => tDNewT
  | .dct ks vs, W => tDisp ((ks.dens v W).zip (vs.dens v W))
  | .dget d k x, W => tDGet2 (d.den v W) (k.den v W) (x.den v W)
  | .lrg1 a, W => tLstRg (tRg1 (a.den v W))
  | .lrg2 a b, W => tLstRg (tRg2 (a.den v W) (b.den v W))
  | .chn3 o1 o2 o3 a b c d, W => fun σ H Q => tCh3 (rCmpB v.K o1) (rCmpB v.K o2) (rCmpB v.K o3) (a.den v W) (b.den v W) (c.den v W) (d.den v W) σ H fun k H1 => Q (.bl k) H1
  | .ef i f, _ => tEf v i f
  | .ei i C, _ => tEi v i (.ref (v.cls C))
  | .eib i n, _ => tEi v i (.type n)
  | .ix a i, W => tOp (rIxA v.K) (a.den v W) (i.den v W)
  | .sl a lo hi, W => tSl (rSlAny v.K) (a.den v W) (lo.den v W) (hi.den v W)
  | .rev a, W => tRevL v.K (a.den v W)
  | .fld C o f, W => tFl (v.cls C) (o.den v W) f
  | .call f es, W => fun σ H Q => es.den v W σ H fun vs H1 => v.sp f vs H1 Q fun c d H2 => W c d σ H2
  | .callk f es ks, W => fun σ H Q => es.den v W σ H fun vs H1 => ks.den v W σ H1 fun zs H2 => zs.length = ks.len ∧ v.sp f (vs ++ zs) H2 Q fun c d H3 => W c d σ H3
  | .bits a, W => tBits (a.den v W)
  | .mk C f es, W => fun σ H Q => es.den v W σ H fun vs H1 => ∀ x dx, H1 x = none → H1 dx = none → dx ≠ x →
      v.sp f (.ref x :: vs) (upd (upd H1 dx (.own x)) x (.ins (v.cls C) dx [])) (fun u H2 => u = .non ∧ Q (.ref x) H2) fun c d H2 => W c d σ H2
  | .meth m C nm o es, W => fun σ H Q => o.den v W σ H fun x H1 => ∃ a dx fs, x = .ref a ∧ H1 a = some (.ins (v.cls C) dx fs) ∧ fs.lookup nm = none ∧
      es.den v W σ H1 fun vs H2 => v.sp m (.ref a :: vs) H2 Q fun c d H3 => W c d σ H3
  | .bc b es, W => fun σ H Q => es.den v W σ H fun vs H1 => rBf v.K b vs H1 Q
  | .lenO m C es, W => fun σ H Q => es.den v W σ H fun vs H1 => ∃ a dx fs, vs = [V.ref a] ∧ H1 a = some (.ins (v.cls C) dx fs) ∧ v.sp m [V.ref a] H1 (fun y H2 => ∃ n : Int, y = .int n ∧ 0 ≤ n ∧ n < 2 ^ 63 ∧ Q (.int n) H2) fun _ _ _ => False
  | .bm m o es, W => fun σ H Q => o.den v W σ H fun x H1 => tyV v.K m.ty x H1 ∧ es.den v W σ H1 fun vs H2 => rBm v.K m x vs H2 Q
  | .mxd mx a d, W => tCKw (MX.rDf v.K mx) (tCons (a.den v W) tNil) (tCons (d.den v W) tNil)
  | .dc k el tg it ifs own, W => tDc (it.den v W) (tg.den v fun _ _ _ _ => False) (ifs.den v fun _ _ _ _ => False) (k.den v fun _ _ _ _ => False) (el.den v fun _ _ _ _ => False) own
  | .lckE e, W => tLockE (e.den v W)
  | .lc el tg it ifs own, W => tLc (it.den v W) (tg.den v fun _ _ _ _ => False) (ifs.den v fun _ _ _ _ => False) (el.den v fun _ _ _ _ => False) own
def Xps.dens (v : Ev) : Xps → WX → List TE
  | .nil, _ => []
  | .cons e r, W => e.den v W :: r.dens v W
def Xpo.den (v : Ev) : Xpo → WX → TO
  | .no, _ => tNoPart
  | .so e, W => tPart (e.den v W)
def Xps.den (v : Ev) : Xps → WX → TA
  | .nil, _ => tNil
  | .cons e r, W => tCons (e.den v W) (r.den v W)
def Tt.den (v : Ev) : Tt → WX → TT
  | .tr e, W => fun σ H Q => e.den v W σ H fun x H1 => rTru v.K x H1 fun b => Q b H1
  | .cmp op a b, W => tCp (rCmpB v.K op) (a.den v W) (b.den v W)
  | .chn o1 o2 a b c, W => tCh (rCmpB v.K o1) (rCmpB v.K o2) (a.den v W) (b.den v W) (c.den v W)
  | .chn3 o1 o2 o3 a b c d, W => tCh3 (rCmpB v.K o1) (rCmpB v.K o2) (rCmpB v.K o3) (a.den v W) (b.den v W) (c.den v W) (d.den v W)
  | .and a b, W => tAnd (a.den v W) (b.den v W)
  | .or a b, W => tOr (a.den v W) (b.den v W)
  | .not a, W => tNot (a.den v W)
def Tto.den (v : Ev) : Tto → WX → TT
  | .no, _ => tYes
  | .so t, W => t.den v W
def Sq.den (v : Ev) : Sq → WX → TI
  | .lst e, W => iList v.K (e.den v W)
  | .tup e, W => iTup v.K (e.den v W)
  | .txt e, W => iStr (e.den v W)
  | .rng1 a, W => iRng1 (tCons (a.den v W) tNil)
  | .rng2 a b, W => iRng2 (tCons (a.den v W) (tCons (b.den v W) tNil))
  | .rng3 a b c, W => iRng3 (tCons (a.den v W) (tCons (b.den v W) (tCons (c.den v W) tNil)))
  | .enm e, W => iEnum v.K (tCons (e.den v W) tNil)
  | .zip a b, W => RZ.iZipA v.K (tCons (a.den v W) (tCons (b.den v W) tNil))
  | .zipS a b, W => iZipS (tCons (a.den v W) (tCons (b.den v W) tNil))
  | .rvs e, W => RT.iRevA v.K (e.den v W)
  | .rvT e, W => RX.iRevT (e.den v W)
  | .rvr1 a, W => iRevR (tRg1 (a.den v W))
  | .rvr2 a b, W => iRevR (tRg2 (a.den v W) (b.den v W))
  | .any a b, W => fun σ H R => a.den v W σ H R ∨ b.den v W σ H R
  | .enmT e, W => iEnumT v.K (tCons (e.den v W) tNil)
  | .dk e, W => iKeys (e.den v W)
def Tg.den (v : Ev) : Tg → WX → TG
  | .nm i, _ => gName i
  | .tup gs, W => fun x σ H Q => gTup v.K gs.len (gs.den v W) x σ H Q ∨ gLst v.K gs.len (gs.den v W) x σ H Q
  | .sub o i, W => gSub (o.den v W) (i.den v W) rSetA
def Tgs.den (v : Ev) : Tgs → WX → TGs
  | .nil, _ => gNil
  | .cons g r, W => gCons (g.den v W) (r.den v W)
def Tgs.len : Tgs → Nat
  | .nil => 0
  | .cons _ r => r.len + 1
end

/-- a op= b, by values -/
def rAug (K : PySem.W.Frag) : Operator → TIp
  | .Add => fun x y H Q => match x, y with
    | .int i, .int j => Q (.int (i + j)) H
    | .str a, .str b => a.length + b.length ≤ sizeLine ∧ Q (.str (a ++ b)) H
    | _, _ => False
  | .Sub => fun x y H Q => match x, y with
    | .int i, .int j => Q (.int (i - j)) H
    | _, _ => False
  | _ => fun _ _ _ _ => False
def tAugA (i : Nat) (te : TE) (ti : TIp) : TS := fun D σ H => match σ[i]? with
  | some (some x) => te σ H fun y H1 => ti x y H1 fun z H2 => D.nx (σ.set i (some z)) H2
  | _ => False
def tFlS (C : Addr) (ta tv : TE) (f : Str) : TS := fun D σ H => tv σ H fun y H1 => ta σ H1 fun x H2 => ∃ a dx fs, x = .ref a ∧ H2 a = some (.ins C dx fs) ∧ fs.length < 1000 ∧
  D.nx σ (upd H2 a (.ins C dx (putF f y fs)))
def tFlA (C : Addr) (ta tv : TE) (rd : V → V → Hp → VK → Prop) (f : Str) : TS := fun D σ H => ta σ H fun x H1 => ∃ a dx fs v, x = .ref a ∧ H1 a = some (.ins C dx fs) ∧ fs.lookup f = some v ∧
  tv σ H1 fun y H2 => rd v y H2 fun z H3 => ∃ gs, H3 a = some (.ins C dx gs) ∧ gs.length < 1000 ∧ D.nx σ (upd H3 a (.ins C dx (putF f z gs)))
mutual
def Sm.den (v : Ev) : Sm → WX → TS
  | .asg g e, W => tAsg (e.den v W) (g.den v W)
  | .asl i el tg it ifs own, W => tAsg (tLc (it.den v W) (tg.den v fun _ _ _ _ => False) (ifs.den v fun _ _ _ _ => False) (el.den v fun _ _ _ _ => False) own) (gName i)
  | .par i j a b, W => tPar i j (tCons (a.den v W) (tCons (b.den v W) tNil))
  | .par3 i j l a b c, W => tPar3 i j l (tCons (a.den v W) (tCons (b.den v W) (tCons (c.den v W) tNil)))
  | .fld C o f e, W => tFlS (v.cls C) (o.den v W) (e.den v W) f
  | .aug i op e, W => tAugA i (e.den v W) (rAug v.K op)
  | .augf C o f op e, W => tFlA (v.cls C) (o.den v W) (e.den v W) (rAug v.K op) f
  | .exp e, W => tDrop (e.den v W)
  | .ret e, W => tRet (e.den v W)
  | .retN, _ => tRetN
  | .pass, _ => tNext
  | .brk, _ => tBreak
  | .cnt, _ => tCont
  | .ite t a b, W => tIfS (t.den v W) (a.den v W) (b.den v W)
  | .whl t b, W => tWhile (t.den v W) (b.den v W)
  | .for_ tg it b, W => tFor (it.den v W) (tg.den v W) (b.den v W)
  | .rai C f es, W => fun _ σ H => tRai (v.cls C) f (es.den v W) σ H fun c d H1 => W c d σ H1
  | .tryA b C i s, W => fun D σ H => b.den v (wAs v.K (.ref (v.cls C)) i (fun a c d => s.den { v with ex := some (a, c, d) } fun _ _ _ _ => False) W D) D σ H
  | .tryO b C s, W => fun D σ H => b.den v (wOnly v.K (.ref (v.cls C)) (fun a c d => s.den { v with ex := some (a, c, d) } fun _ _ _ _ => False) W D) D σ H
  | .tryM b hs, W => fun D σ H => b.den v (wMany v.K W D (hs.den v)) D σ H
  | .lck s, W => tLock (s.den v W)
  | .ddel d k, W => sDDel (d.den v W) (k.den v W)
  | .never, _ => tNever
def Sms.den (v : Ev) : Sms → WX → TS
  | .nil, _ => tNext
  | .cons s r, W => tSeq (s.den v W) (r.den v W)
def Hds.den (v : Ev) : Hds → List (Value × (Addr → Value → Option Addr → TS))
  | .nil => []
  | .cons C s r => (.ref (v.cls C), fun a c d => s.den { v with ex := some (a, c, d) } fun _ _ _ _ => False) :: r.den v
end
end DI

/-! DI, part 2: the operations' readings are right. -/
namespace DI
open L2
open PySem.Spec
open PySem

section
variable {X : Cx} {K : PySem.W.Frag}

theorem opAdd (hK : K = X.K) : OpR X (binaryOp .Add) (rAdd K) := by
  subst hK
  intro pins s σ H x y v u Q I rx ry h
  unfold rAdd at h
  split at h
  · exact op_add pins s σ H _ _ v u Q I rx ry ⟨_, _, rfl, rfl, h⟩
  · exact op_add_str pins s σ H _ _ v u Q I rx ry ⟨_, _, rfl, rfl, h.1, h.2⟩
  · cases h with
    | lst ha hb hz q => exact op_cat pins s σ H _ _ v u Q I rx ry ⟨_, _, _, _, rfl, rfl, ha, hb, hz, q⟩
    | tup ha hb hz q1 q2 q3 => exact op_catA pins s σ H _ _ v u Q I rx ry ⟨_, _, _, _, rfl, rfl, ha, hb, hz, q1, q2, q3⟩
  · exact h.elim
theorem opSub : OpR X (binaryOp .Sub) rSub := by
  intro pins s σ H x y v u Q I rx ry h
  unfold rSub at h
  split at h
  · exact op_sub pins s σ H _ _ v u Q I rx ry ⟨_, _, rfl, rfl, h⟩
  · exact h.elim
theorem opMul : OpR X (binaryOp .Mult) rMul := by
  intro pins s σ H x y v u Q I rx ry h
  unfold rMul at h
  split at h
  · exact op_mul pins s σ H _ _ v u Q I rx ry ⟨_, _, rfl, rfl, h.1, h.2⟩
  · obtain ⟨t, rfl⟩ := rx
    obtain ⟨t', rfl⟩ := ry
    exact SB.mul h.1 fun t2 k => ⟨.str _, H, I.tok _, ⟨_, rfl⟩, h.2⟩
  · cases h with
    | lst ha h1 h2 hz q => exact op_rep pins s σ H _ _ v u Q I rx ry ⟨_, _, _, rfl, rfl, ha, h1, h2, hz, q⟩
  · exact h.elim
theorem opFdv : OpR X (binaryOp .FloorDiv) rFdv := by
  intro pins s σ H x y v u Q I rx ry h
  unfold rFdv at h
  split at h
  · exact op_fdivW pins s σ H _ _ v u Q I rx ry ⟨_, _, rfl, rfl, h.1, h.2⟩
  · exact h.elim
theorem opMod : OpR X (binaryOp .Mod) rMod := by
  intro pins s σ H x y v u Q I rx ry h
  unfold rMod at h
  split at h
  · exact op_mod pins s σ H _ _ v u Q I rx ry ⟨_, _, rfl, rfl, h.1, h.2⟩
  · exact h.elim
theorem opPow : OpR X (binaryOp .Pow) rPow := by
  intro pins s σ H x y v u Q I rx ry h
  unfold rPow at h
  split at h
  · exact op_pow pins s σ H _ _ v u Q I rx ry ⟨_, _, rfl, rfl, h.1, h.2⟩
  · exact h.elim
theorem opShl : OpR X (binaryOp .LShift) rShl := by
  intro pins s σ H x y v u Q I rx ry h
  unfold rShl at h
  split at h
  · rcases h with ⟨h1 | h1, h2⟩
    · exact op_shl pins s σ H _ _ v u Q I rx ry ⟨_, _, rfl, rfl, h1, h2⟩
    · exact op_shlW pins s σ H _ _ v u Q I rx ry ⟨_, _, rfl, rfl, h1, h2⟩
  · exact h.elim
theorem opShr : OpR X (binaryOp .RShift) rShr := by
  intro pins s σ H x y v u Q I rx ry h
  unfold rShr at h
  split at h
  · exact op_shr pins s σ H _ _ v u Q I rx ry ⟨_, _, rfl, rfl, h.1, h.2⟩
  · exact h.elim
theorem opAnd : OpR X (binaryOp .BitAnd) rAnd := by
  intro pins s σ H x y v u Q I rx ry h
  unfold rAnd at h
  split at h
  · exact op_and pins s σ H _ _ v u Q I rx ry ⟨_, _, rfl, rfl, h⟩
  · exact h.elim
theorem opOr : OpR X (binaryOp .BitOr) rOr := by
  intro pins s σ H x y v u Q I rx ry h
  unfold rOr at h
  split at h
  · exact op_or pins s σ H _ _ v u Q I rx ry ⟨_, _, rfl, rfl, h⟩
  · exact h.elim
theorem opXor : OpR X (binaryOp .BitXor) rXor := by
  intro pins s σ H x y v u Q I rx ry h
  unfold rXor at h
  split at h
  · exact op_xor pins s σ H _ _ v u Q I rx ry ⟨_, _, rfl, rfl, h⟩
  · exact h.elim
theorem opBin (hK : K = X.K) : ∀ op : Operator, OpR X (binaryOp op) (rBin K op)
  | .Add => opAdd hK
  | .Sub => opSub
  | .Mult => opMul
  | .FloorDiv => opFdv
  | .Mod => opMod
  | .Pow => opPow
  | .LShift => opShl
  | .RShift => opShr
  | .BitAnd => opAnd
  | .BitOr => opOr
  | .BitXor => opXor
  | .MatMult => fun _ _ _ _ _ _ _ _ _ _ _ _ h => h.elim
  | .Div => fun _ _ _ _ _ _ _ _ _ _ _ _ h => h.elim

/-- a comparison by values -/
def CmR (X : Cx) (op : CmpOp) (r : V → V → Hp → (Bool → Prop) → Prop) : Prop := OpR X (compareOp op) fun x y H Q => r x y H fun b => Q (.bl b) H
theorem cmEqG {op : CmpOp} {f : Bool → Bool} (hs : OpR X (compareOp op) fun x y H Q => scal x y = true ∧ Q (.bl (f (decide (x = y)))) H)
    (hd : OpR X (compareOp op) fun x y H Q => ∃ d e, Dp X.K H x d ∧ Dp X.K H y e ∧ SeqAt.shaped d = true ∧ SeqAt.shaped e = true ∧ Q (.bl (f (PyData.eqv d e))) H) (hK : K = X.K) :
    CmR X op fun x y H Q => rEqB K x y H fun b => Q (f b) := by
  subst hK
  intro pins s σ H x y v u Q I rx ry h
  have h : rEqB X.K x y H fun b => Q (.bl (f b)) H := h
  have ei : ∀ i j : Int, decide (V.int i = V.int j) = decide (i = j) := fun i j => by
    by_cases z : i = j
    · subst z; simp
    · rw [decide_eq_false z, decide_eq_false fun w => z (V.int.inj w)]
  have es : ∀ i j : Str, decide (V.str i = V.str j) = decide (i = j) := fun i j => by
    by_cases z : i = j
    · subst z; simp
    · rw [decide_eq_false z, decide_eq_false fun w => z (V.str.inj w)]
  have eb : ∀ i j : Bool, decide (V.bl i = V.bl j) = decide (i = j) := fun i j => by
    by_cases z : i = j
    · subst z; simp
    · rw [decide_eq_false z, decide_eq_false fun w => z (V.bl.inj w)]
  unfold rEqB at h
  split at h
  · exact hs pins s σ H _ _ v u Q I rx ry ⟨rfl, by rw [ei]; exact h⟩
  · exact hs pins s σ H _ _ v u Q I rx ry ⟨rfl, by rw [es]; exact h⟩
  · exact hs pins s σ H _ _ v u Q I rx ry ⟨rfl, by rw [eb]; exact h⟩
  · cases h with
    | scal h1 q => exact hs pins s σ H _ _ v u Q I rx ry ⟨h1, q⟩
    | deep h1 he sd se q => exact hd pins s σ H _ _ v u Q I rx ry ⟨_, _, h1.dp (shaped_nd sd), he.dp (shaped_nd se), sd, se, q⟩
theorem cmEq (hK : K = X.K) (hu : X.A.units + 64 < cLine) : CmR X .Eq fun x y H Q => rEqB K x y H Q := cmEqG (f := fun b => b) op_eq (op_eqD hu) hK
theorem cmNe (hK : K = X.K) (hu : X.A.units + 64 < cLine) : CmR X .NotEq fun x y H Q => rEqB K x y H fun b => Q (!b) := cmEqG (f := fun b => !b) op_ne (op_neD hu) hK
theorem cmLt (hK : K = X.K) (hu : X.A.units < cLine) : CmR X .Lt (rLtB K) := by
  subst hK
  intro pins s σ H x y v u Q I rx ry h
  unfold rLtB at h
  split at h
  · exact op_lt pins s σ H _ _ v u Q I rx ry ⟨_, _, rfl, rfl, h⟩
  · exact op_lt_str pins s σ H _ _ v u Q I rx ry ⟨_, _, rfl, rfl, h⟩
  · cases h with
    | tup ha hb q => exact op_ltT hu pins s σ H _ _ v u Q I rx ry ⟨_, _, _, _, rfl, rfl, ha, hb, q⟩
  · exact h.elim
theorem cmLe : CmR X .LtE fun x y _ Q => rLeB x y Q := by
  intro pins s σ H x y v u Q I rx ry h
  have h : rLeB x y _ := h
  unfold rLeB at h
  split at h
  · exact op_le pins s σ H _ _ v u Q I rx ry ⟨_, _, rfl, rfl, h⟩
  · exact op_le_str pins s σ H _ _ v u Q I rx ry ⟨_, _, rfl, rfl, h⟩
  · exact h.elim
theorem cmGt : CmR X .Gt fun x y _ Q => rGtB x y Q := by
  intro pins s σ H x y v u Q I rx ry h
  have h : rGtB x y _ := h
  unfold rGtB at h
  split at h
  · exact op_gt pins s σ H _ _ v u Q I rx ry ⟨_, _, rfl, rfl, h⟩
  · exact op_gt_str pins s σ H _ _ v u Q I rx ry ⟨_, _, rfl, rfl, h⟩
  · exact h.elim
theorem cmGe : CmR X .GtE fun x y _ Q => rGeB x y Q := by
  intro pins s σ H x y v u Q I rx ry h
  have h : rGeB x y _ := h
  unfold rGeB at h
  split at h
  · exact op_ge pins s σ H _ _ v u Q I rx ry ⟨_, _, rfl, rfl, h⟩
  · exact op_ge_str pins s σ H _ _ v u Q I rx ry ⟨_, _, rfl, rfl, h⟩
  · exact h.elim
theorem cmInG {op : CmpOp} {f : Bool → Bool} (h1 : OpR X (compareOp op) fun x y H Q => ∃ (c : Nat) (z : Str), x = .str ⟨#[c]⟩ ∧ y = .str z ∧ Q (.bl (f (decide (c ∈ z.cps.toList)))) H)
    (h2 : OpR X (compareOp op) fun x y H Q => ∃ i j, x = .str i ∧ y = .str j ∧ Q (.bl (f (!(Builtin.Str.occurrences j i 0 j.length 1).isEmpty))) H)
    (h3 : OpR X (compareOp op) fun x y H Q => ∃ p xs, y = .ref p ∧ (SqL X.K H p xs ∨ SqT X.K H p xs) ∧ flatV x = true ∧ xs.all flatV = true ∧ Q (.bl (f (inV x xs))) H)
    (h4 : OpR X (compareOp op) fun x y H Q => ∃ a o, y = .ref a ∧ DGet H a x o ∧ Q (.bl (f o.isSome)) H)
    (h5 : OpR X (compareOp op) fun x y H Q => ∃ d ds, Dp X.K H x d ∧ Dp X.K H y (.list ds) ∧ SeqAt.shaped d = true ∧ SeqAt.shaped (.list ds) = true ∧ Q (.bl (f (ds.any fun z => PyData.eqv z d))) H) (hK : K = X.K) :
    CmR X op fun x y H Q => rInB K x y H fun b => Q (f b) := by
  subst hK
  intro pins s σ H x y v u Q I rx ry h
  have h : rInB X.K x y H fun b => Q (.bl (f b)) H := h
  unfold rInB at h
  split at h
  · split at h
    · cases h with
      | sign c hc q => subst hc; exact h1 pins s σ H _ _ v u Q I rx ry ⟨_, _, rfl, rfl, q⟩
      | text q => exact h2 pins s σ H _ _ v u Q I rx ry ⟨_, _, rfl, rfl, q⟩
    · exact h.elim
  · cases h with
    | flat hs fx fs q => exact h3 pins s σ H _ _ v u Q I rx ry ⟨_, _, rfl, hs, fx, fs, q⟩
    | dict g q => exact h4 pins s σ H _ _ v u Q I rx ry ⟨_, _, rfl, g, q⟩
    | deep hd he sd se q => exact h5 pins s σ H _ _ v u Q I rx ry ⟨_, _, hd.dp (shaped_nd sd), he.dp (shaped_nd se), sd, se, q⟩
  · exact h.elim
theorem opInD (hu : X.A.units + 1 < cLine) : OpR X (compareOp .In) fun x y H Q => ∃ a o, y = .ref a ∧ DGet H a x o ∧ Q (.bl o.isSome) H := by
  intro pins s σ H x y v u Q I rx ry h
  obtain ⟨a, o, e, g, q⟩ := h
  subst e
  cases ry
  exact d_in hu I g rx fun s3 I3 => ⟨.bl _, H, I3, rfl, q⟩
theorem opNotInD (hu : X.A.units + 1 < cLine) : OpR X (compareOp .NotIn) fun x y H Q => ∃ a o, y = .ref a ∧ DGet H a x o ∧ Q (.bl (!o.isSome)) H := by
  intro pins s σ H x y v u Q I rx ry h
  obtain ⟨a, o, e, g, q⟩ := h
  subst e
  cases ry
  exact d_notIn hu I g rx fun s3 I3 => ⟨.bl _, H, I3, rfl, q⟩
theorem cmIn (hK : K = X.K) (hu : X.A.units + 65 < cLine) : CmR X .In fun x y H Q => rInB K x y H Q :=
  cmInG (f := fun b => b) op_in_sign op_in_str op_in_seq (opInD (Nat.lt_of_le_of_lt (Nat.add_le_add_left (by decide : 1 ≤ 65) _) hu)) (op_inD hu) hK
theorem cmNotIn (hK : K = X.K) (hu : X.A.units + 65 < cLine) : CmR X .NotIn fun x y H Q => rInB K x y H fun b => Q (!b) :=
  cmInG (f := fun b => !b) op_notIn_sign op_notin_str op_notIn_seq (opNotInD (Nat.lt_of_le_of_lt (Nat.add_le_add_left (by decide : 1 ≤ 65) _) hu)) (op_notInD hu) hK
theorem cmIs : CmR X .Is fun x y _ Q => rIsB x y Q := by
  intro pins s σ H x y v u Q I rx ry h
  rcases h with h | h
  · exact op_isN pins s σ H _ _ v u Q I rx ry ⟨h.1, h.2⟩
  · exact op_isBl pins s σ H _ _ v u Q I rx ry h
theorem cmIsNot : CmR X .IsNot fun x y _ Q => rIsB x y fun b => Q (!b) := by
  intro pins s σ H x y v u Q I rx ry h
  rcases h with h | h
  · exact op_notN pins s σ H _ _ v u Q I rx ry ⟨h.1, h.2⟩
  · exact op_notBl pins s σ H _ _ v u Q I rx ry h
theorem cmAll (hK : K = X.K) (hu : X.A.units + 65 < cLine) : ∀ op : CmpOp, CmR X op (rCmpB K op)
  | .Eq => cmEq hK (Nat.lt_of_le_of_lt (Nat.add_le_add_left (by decide : 64 ≤ 65) _) hu)
  | .NotEq => cmNe hK (Nat.lt_of_le_of_lt (Nat.add_le_add_left (by decide : 64 ≤ 65) _) hu)
  | .Lt => cmLt hK (Nat.lt_of_le_of_lt (Nat.le_add_right _ _) hu)
  | .LtE => cmLe
  | .Gt => cmGt
  | .GtE => cmGe
  | .In => cmIn hK hu
  | .NotIn => cmNotIn hK hu
  | .Is => cmIs
  | .IsNot => cmIsNot

theorem ixAll (hK : K = X.K) (hu : X.A.units + 1 < cLine) : IxR X (rIxA K) := by
  subst hK
  intro value slice pins s σ H x y v u Q I rx ry h hs
  unfold rIxA at h
  split at h
  · obtain ⟨i, c, rfl, hz, hc, q⟩ := h
    exact ix_str value slice pins s σ H _ _ v u Q I rx ry ⟨_, _, _, rfl, rfl, hz, hc, q⟩ hs
  · cases h with
    | lst hl e hv q => subst e; exact ix_list value slice pins s σ H _ _ v u Q I rx ry ⟨_, _, _, _, rfl, rfl, hl, hv, q⟩ hs
    | tup hl e hv q => subst e; exact ix_tup value slice pins s σ H _ _ v u Q I rx ry ⟨_, _, _, _, rfl, rfl, hl, hv, q⟩ hs
    | dict g q =>
      cases rx
      exact PyProof.Rows.tail_any (dict_typeIs I g) PySem.F.slot_dict_getitem.lookup (d_getItem hu I g ry fun w' s3 I3 rw' => ⟨_, H, I3, rw', q⟩) hs
  · exact h.elim
theorem slAll (hK : K = X.K) : SlR X (rSlAny K) := by
  subst hK
  intro pins s σ H x v vl vu lo hi sl Q I rx hsl pl pu h
  unfold rSlAny at h
  split at h
  · exact sl_str pins s σ H _ v vl vu lo hi sl Q I rx hsl pl pu ⟨_, rfl, h.1, h.2⟩
  · cases h with
    | lst hl q => exact sl_list pins s σ H _ v vl vu lo hi sl Q I rx hsl pl pu ⟨_, _, rfl, hl, q⟩
    | tup hl q1 q2 => exact sl_tupA pins s σ H _ v vl vu lo hi sl Q I rx hsl pl pu ⟨_, _, rfl, hl, q1, q2⟩
  · exact h.elim
theorem setAll (hu : X.A.units + 1 < cLine) : PSet X rSetA := by
  intro pins s σ H o i v ov iv u Q I ro ri rv h
  unfold rSetA at h
  split at h
  · cases h with
    | lst ha e hj q => subst e; exact set_list pins s σ H _ _ v ov iv u Q I ro ri rv ⟨_, _, _, _, rfl, rfl, ha, hj, q⟩
    | dict g q => exact set_dict hu pins s σ H _ _ v ov iv u Q I ro ri rv ⟨_, _, rfl, g, q⟩
  · exact h.elim
theorem truAll (hK : K = X.K) : TruR X fun x H Q => rTru K x H fun b => Q b H := by
  subst hK
  intro pins s σ H x v Q I rx h
  refine tru_ok pins s σ H x v Q I rx ?_
  unfold rTru at h
  split at h
  · exact ⟨false, rfl, h⟩
  · exact ⟨_, rfl, h⟩
  · rename_i i
    refine ⟨_, rfl, ?_⟩
    have e : (i != 0) = decide (i ≠ 0) := by
      by_cases z : i = 0
      · subst z; rfl
      · rw [decide_eq_true z]; exact bne_iff_ne.mpr z
    rw [e]; exact h
  · rename_i y
    refine ⟨_, ⟨h.1, rfl⟩, ?_⟩
    have e : ((y.length : Int) != 0) = decide (y.length ≠ 0) := by
      by_cases z : y.length = 0
      · rw [z]; rfl
      · rw [decide_eq_true z]; exact bne_iff_ne.mpr (by omega)
    rw [e]; exact h.2
  · cases h with
    | lst hl q => exact ⟨_, .inl ⟨_, hl, rfl⟩, q⟩
    | tup hl q => exact ⟨_, .inr (.inl ⟨_, hl, rfl⟩), q⟩
    | dict hl q => exact ⟨_, .inr (.inr ⟨_, hl, rfl⟩), q⟩
  · exact h.elim
theorem augAll (hK : K = X.K) : ∀ op : Operator, PIp X op (rAug K op) := by
  subst hK
  intro op pins s σ H x y v u Q I rx ry h
  unfold rAug at h
  split at h
  · split at h
    · exact iop_add pins s σ H _ _ v u Q I rx ry ⟨_, _, rfl, rfl, h⟩
    · exact iop_add_str pins s σ H _ _ v u Q I rx ry ⟨_, _, rfl, rfl, h.1, h.2⟩
    · exact h.elim
  · split at h
    · exact iop_sub pins s σ H _ _ v u Q I rx ry ⟨_, _, rfl, rfl, h⟩
    · exact h.elim
  · exact h.elim
end
end DI

/-! DI, part 3: built-in functions and methods. -/
namespace DI
open L2
open PySem.Spec
open PySem

section
variable {X : Cx} {K : PySem.W.Frag}
def Bf.name : Bf → Str
  | .len => "len"
  | .int => "int"
  | .str => "str"
  | .abs => "abs"
  | .max => "max"
  | .min => "min"
  | .sum => "sum"
  | .list => "list"
  | .tuple => "tuple"
  | .sorted => "sorted"
  | .all => "all"
  | .any => "any"
  | .isi => "isinstance"
  | .repr => "repr"
def Bf.val : Bf → Value
  | .len => .builtin "len"
  | .int => .type "int"
  | .str => .type "str"
  | .abs => .builtin "abs"
  | .max => .builtin "max"
  | .min => .builtin "min"
  | .sum => .builtin "sum"
  | .list => .type "list"
  | .tuple => .type "tuple"
  | .sorted => .builtin "sorted"
  | .all => .builtin "all"
  | .any => .builtin "any"
  | .isi => .builtin "isinstance"
  | .repr => .builtin "repr"
theorem Bf.boot : ∀ b : Bf, bootBuiltins b.name = some b.val
  | .len => by decide +kernel
  | .int => by decide +kernel
  | .str => by decide +kernel
  | .abs => by decide +kernel
  | .max => by decide +kernel
  | .min => by decide +kernel
  | .sum => by decide +kernel
  | .list => by decide +kernel
  | .tuple => by decide +kernel
  | .sorted => by decide +kernel
  | .all => by decide +kernel
  | .any => by decide +kernel
  | .isi => by decide +kernel
  | .repr => by decide +kernel
theorem Bf.notName (b : Bf) : b.name ≠ "__name__" := by cases b <;> decide +kernel
theorem Bf.notDbg (b : Bf) : (b.name == ("__debug__" : Str)) = false := by cases b <;> decide +kernel
/-- the modules' dict stands in the heap -/
def SysM (h : Heap) : Prop := ∃ o es ep, h.get? sysModules = some o ∧ o.data = .dict es ep
section
variable {pins : List (Addr × Obj)} {σ : L2.St} {H : Hp} {s : Shared}
theorem sys_at (I : L2.Inv X pins σ H s) (sm : SysM X.base) : ∃ o es ep, s.heap.get? sysModules = some o ∧ o.data = .dict es ep := by
  obtain ⟨o, es, ep, h, d⟩ := sm
  obtain ⟨h0, h1⟩ := I.ok.bs _ _ h
  have hn := I.ok.noex _ _ h
  by_cases hf : sysModules ∈ X.fs
  · obtain ⟨sl, e⟩ := I.base.slot _ _ h0 h1 hf hn
    exact ⟨_, es, ep, e, d⟩
  · exact ⟨o, es, ep, I.base.keep _ _ h0 h1 hf hn, d⟩
theorem keyIs_reads {h : Heap} {k : Key} {u : Value} (e : keyIs k u = true) : Reads h u (kD k) [] := by
  cases k with
  | inl i => cases u with
    | int j t =>
      have : (j == i) = true := e
      have : j = i := by simpa using this
      subst this
      exact .int _ _
    | _ => cases e
  | inr x => cases u with
    | str y t =>
      have : (y == x) = true := e
      have : y = x := by simpa using this
      subst this
      exact .str _ _
    | _ => cases e
theorem pairs_reads {prog : Program} {w : World} {h : Heap} : ∀ {es : List DictEntry} {vs : List (Key × Value)} {kvs : List (Key × V)}, Pairs (mixKind prog w) es vs → KV kvs vs → ReadsAll h (es.map (·.key)) (kvs.map fun kv => kD kv.1) [] ∧ Vals (kvs.map (·.2)) (es.map (·.val))
  | _, _, _, .nil, .nil => ⟨.nil, .nil⟩
  | _, _, _, .cons (e := e) (kv := q) hk hv r, .cons hp rp => by
    obtain ⟨i1, i2⟩ := pairs_reads (h := h) r rp
    obtain ⟨e1, e2⟩ := hp
    refine ⟨?_, ?_⟩
    · have := keyIs_reads (h := h) (k := q.1) hk
      rw [← e1] at this
      exact .cons this i1
    · rw [← hv] at e2
      exact .cons e2 i2
theorem zip_fst : ∀ {a b : List PyData}, a.length = b.length → (a.zip b).map (·.1) = a
  | [], [], _ => rfl
  | x :: xs, y :: ys, h => by
    rw [List.zip_cons_cons, List.map_cons, zip_fst (by simpa using h)]
  | [], _ :: _, h => by cases h
  | _ :: _, [], h => by cases h
theorem zip_snd : ∀ {a b : List PyData}, a.length = b.length → (a.zip b).map (·.2) = b
  | [], [], _ => rfl
  | x :: xs, y :: ys, h => by
    rw [List.zip_cons_cons, List.map_cons, zip_snd (by simpa using h)]
  | [], _ :: _, h => by cases h
  | _ :: _, [], h => by cases h
theorem DqAll.len {H : Hp} : ∀ {xs : List V} {ds : List PyData}, DqAll K H xs ds → xs.length = ds.length
  | _, _, .nil => rfl
  | _, _, .cons _ r => by rw [List.length_cons, List.length_cons, r.len]
mutual
theorem Dq.reads (I : L2.Inv X pins σ H s) (sm : SysM X.base) : ∀ {v : V} {d : PyData} (u : Value), Dq X.K H v d → RelV v u → ∃ as, Reads s.heap u d as ∧ sysModules ∉ as
  | _, _, _, .non, r => by cases r; exact ⟨[], .none, by simp⟩
  | _, _, _, .bl b, r => by cases r; exact ⟨[], .bool b, by simp⟩
  | _, _, _, .int i, r => by obtain ⟨t, rfl⟩ := r; exact ⟨[], .int i t, by simp⟩
  | _, _, _, .str x, r => by obtain ⟨t, rfl⟩ := r; exact ⟨[], .str x t, by simp⟩
  | _, _, _, .lst (a := a) h ra, r => by
    cases r
    obtain ⟨its, rv, ⟨o, n, ho, hc, _, hd⟩, _⟩ := I.list h
    obtain ⟨as, rd, na⟩ := DqAll.reads I sm _ ra rv
    obtain ⟨o1, es, ep, h1, d1⟩ := sys_at I sm
    refine ⟨a :: as, .list ho hc hd (by simpa using rd), ?_⟩
    rw [List.mem_cons]
    rintro (e | e)
    · rw [e, ho] at h1
      cases h1
      rw [hd] at d1
      cases d1
    · exact na e
  | _, _, _, .tup (a := a) h ra, r => by
    cases r
    obtain ⟨its, rv, ⟨o, ho, hc, n, hd⟩, _⟩ := I.tuple h
    obtain ⟨as, rd, na⟩ := DqAll.reads I sm _ ra rv
    exact ⟨as, .tuple ho hc hd (by simpa using rd), na⟩
  | _, _, _, .dic (a := a) (kvs := kvs) (ds := ds) h ra, r => by
    cases r
    have ok : ObjOk X.prog X.w H s.heap a (.dK kvs) := I.hok a _ h
    unfold ObjOk at ok
    obtain ⟨_, hs, vs, kv, o, es, ep, ho, hex, hd, _, hp, _⟩ := ok
    obtain ⟨rk, rv⟩ := pairs_reads (h := s.heap) hp kv
    obtain ⟨as, rd, na⟩ := DqAll.reads I sm _ ra rv
    have hl : (kvs.map fun kv => kD kv.1).length = ds.length := by rw [List.length_map, ← ra.len, List.length_map]
    refine ⟨a :: [] ++ as, .dict ho hex.1 hd (by rw [zip_fst hl]; exact rk) (by rw [zip_snd hl]; exact rd), ?_⟩
    intro e
    rcases List.mem_append.mp e with e | e
    · simp only [List.mem_singleton] at e
      rw [← e] at hs
      cases hs
    · exact na e
theorem DqAll.reads (I : L2.Inv X pins σ H s) (sm : SysM X.base) : ∀ {vs : List V} {ds : List PyData} (us : List Value), DqAll X.K H vs ds → Vals vs us → ∃ as, ReadsAll s.heap us ds as ∧ sysModules ∉ as
  | _, _, _, .nil, r => by cases r; exact ⟨[], .nil, by simp⟩
  | _, _, _, .cons h ra, r => by
    cases r with
    | cons r1 r2 =>
    obtain ⟨as, rd, na⟩ := Dq.reads I sm _ h r1
    obtain ⟨bs, rds, nb⟩ := DqAll.reads I sm _ ra r2
    exact ⟨as ++ bs, .cons rd rds, fun e => (List.mem_append.mp e).elim na nb⟩
end
end
theorem crRepr (sm : SysM X.base) (hg : X.A.guards = some []) (hu : X.A.units + 64 < cLine) : CallR X (.builtin "repr") fun vs H Q => ∃ x d, vs = [x] ∧ Dq X.K H x d ∧ d.showable = true ∧ d.depth < 63 ∧ d.shown.length ≤ sizeLine ∧ Q (.str d.shown) H := by
  intro pins s σ H xs us Q I r h
  obtain ⟨x, d, rfl, hd, hs, hdp, hz, q⟩ := h
  obtain ⟨u, rfl, ru⟩ := vals1 r
  obtain ⟨as, rd, na⟩ := Dq.reads I sm u hd ru
  cases hd with
  | non => cases ru; exact PySem.P.repr_of_none ⟨.str _, H, I.tok _, ⟨_, rfl⟩, q⟩
  | bl b => cases ru; exact PySem.P.repr_of_bool ⟨.str _, H, I.tok _, ⟨_, rfl⟩, q⟩
  | int i =>
    obtain ⟨t, rfl⟩ := ru
    exact PySem.P.repr_of_int (of_decide_eq_true hs) ⟨.str _, H, I.tok _, ⟨_, rfl⟩, q⟩
  | str z =>
    obtain ⟨t, rfl⟩ := ru
    exact PySem.P.repr_of_str ⟨.str _, H, I.tok _, ⟨_, rfl⟩, q⟩ hz
  | @lst a xs ds h1 h2 =>
    cases ru
    exact repr_of_reads' rd hs (fun _ => na) hg (by omega) (fun _ _ e => e) (fun h' u tk hk => ⟨.str _, H, I.kept hk, ⟨_, rfl⟩, q⟩) hz
  | @tup a xs ds h1 h2 =>
    cases ru
    exact repr_of_reads' rd hs (fun _ => na) hg (by omega) (fun _ _ e => e) (fun h' u tk hk => ⟨.str _, H, I.kept hk, ⟨_, rfl⟩, q⟩) hz
  | @dic a kvs ds h1 h2 =>
    cases ru
    exact repr_of_reads' rd hs (fun _ => na) hg (by omega) (fun _ _ e => e) (fun h' u tk hk => ⟨.str _, H, I.kept hk, ⟨_, rfl⟩, q⟩) hz
/-- isinstance asks nothing of the place where it is called -/
theorem isiOk (hK : K = X.K) : CallR X Bf.isi.val (rBf K .isi) := by
  subst hK
  intro pins s σ H vs us Q I r h
  dsimp only [rBf] at h
  split at h
  · obtain ⟨t, u, b, h1, h2, h3, q⟩ := h
    exact call_isi pins s σ H _ us Q I r ⟨_, _, t, u, b, rfl, h1, h2, h3, q⟩
  · exact h.elim
theorem bfOk (sm : SysM X.base) (hK : K = X.K) (hc : X.calm = true) (hg : X.A.guards = some []) (hu : X.A.units + 65 < cLine) : ∀ b : Bf, CallR X b.val (rBf K b)
  | .len => by
    subst hK
    intro pins s σ H vs us Q I r h
    dsimp only [rBf] at h
    split at h
    · exact call_len_str pins s σ H _ us Q I r ⟨_, rfl, h.1, h.2⟩
    · cases h with
      | lst hl q => exact call_len_seq pins s σ H _ us Q I r ⟨_, _, rfl, .inl hl, q⟩
      | tup hl q => exact call_len_seq pins s σ H _ us Q I r ⟨_, _, rfl, .inr hl, q⟩
      | dict hl q => exact call_lenD pins s σ H _ us Q I r ⟨_, _, rfl, hl, q⟩
      | dicT hl q => exact call_len_dT pins s σ H _ us Q I r ⟨_, _, rfl, hl, q⟩
    · exact h.elim
  | .int => by
    intro pins s σ H vs us Q I r h
    dsimp only [rBf] at h
    split at h
    · exact call_int1 pins s σ H _ us Q I r (.inl ⟨_, rfl, h⟩)
    · exact call_int1 pins s σ H _ us Q I r (.inr ⟨_, rfl, h⟩)
    · obtain ⟨n, e, hz, q⟩ := h
      exact call_int_str pins s σ H _ us Q I r ⟨_, _, rfl, e, hz, q⟩
    · exact h.elim
  | .str => by
    intro pins s σ H vs us Q I r h
    dsimp only [rBf] at h
    split at h
    · exact call_str_int pins s σ H _ us Q I r ⟨_, rfl, h.1, h.2⟩
    · exact SkE.call_str_str pins s σ H _ us Q I r ⟨_, rfl, h⟩
    · exact h.elim
  | .abs => by
    intro pins s σ H vs us Q I r h
    dsimp only [rBf] at h
    split at h
    · exact call_abs pins s σ H _ us Q I r ⟨_, rfl, h⟩
    · exact h.elim
  | .max => by
    subst hK
    intro pins s σ H vs us Q I r h
    dsimp only [rBf] at h
    split at h
    · exact call_max2 hc pins s σ H _ us Q I r ⟨_, _, rfl, h⟩
    · obtain ⟨ns, hl, hz, q⟩ := h
      exact cr_max hc pins s σ H _ us Q I r ⟨_, _, rfl, hl, hz, q⟩
    · exact h.elim
  | .min => by
    subst hK
    intro pins s σ H vs us Q I r h
    dsimp only [rBf] at h
    split at h
    · exact call_min2 hc pins s σ H _ us Q I r ⟨_, _, rfl, h⟩
    · rcases h with ⟨ns, hl, hz, q⟩ | h
      · exact cr_min hc pins s σ H _ us Q I r ⟨_, _, rfl, hl, hz, q⟩
      · exact MX.cr_minD hc hu pins s σ H _ us Q I r h
    · exact h.elim
  | .sum => by
    subst hK
    intro pins s σ H vs us Q I r h
    dsimp only [rBf] at h
    split at h
    · obtain ⟨ns, hl, q⟩ := h
      exact cr_sum hc pins s σ H _ us Q I r ⟨_, _, rfl, hl, q⟩
    · exact h.elim
  | .list => by
    subst hK
    intro pins s σ H vs us Q I r h
    dsimp only [rBf] at h
    split at h
    · cases h with
      | lst hl q => exact call_list_of pins s σ H _ us Q I r ⟨_, _, rfl, .inl hl, q⟩
      | tup hl q => exact call_list_of pins s σ H _ us Q I r ⟨_, _, rfl, .inr hl, q⟩
      | dict hl q => exact call_listD hc pins s σ H _ us Q I r ⟨_, _, rfl, hl, q⟩
    · exact h.elim
  | .tuple => by
    subst hK
    intro pins s σ H vs us Q I r h
    dsimp only [rBf] at h
    split at h
    · cases h with
      | lst hl q => exact call_tuple_of pins s σ H _ us Q I r ⟨_, _, rfl, .inl ⟨hl, q⟩⟩
      | tup hl q => exact call_tuple_of pins s σ H _ us Q I r ⟨_, _, rfl, .inr ⟨hl, q⟩⟩
    · exact h.elim
  | .sorted => by
    subst hK
    intro pins s σ H vs us Q I r h
    dsimp only [rBf] at h
    split at h
    · cases h with
      | dct hl e hz q => exact call_sortedDI hc pins s σ H _ us Q I r ⟨_, _, _, rfl, hl, e, hz, q⟩
      | srt hl q => exact cr_sortedI pins s σ H _ us Q I r ⟨_, _, rfl, hl, q⟩
    · exact h.elim
  | .all => by
    subst hK
    intro pins s σ H vs us Q I r h
    dsimp only [rBf] at h
    split at h
    · obtain ⟨bs, hl, q⟩ := h
      exact cr_all hc pins s σ H _ us Q I r ⟨_, _, rfl, hl, q⟩
    · exact h.elim
  | .any => by
    subst hK
    intro pins s σ H vs us Q I r h
    dsimp only [rBf] at h
    split at h
    · obtain ⟨bs, hl, q⟩ := h
      exact cr_any hc pins s σ H _ us Q I r ⟨_, _, rfl, hl, q⟩
    · exact h.elim
  | .isi => by
    subst hK
    intro pins s σ H vs us Q I r h
    dsimp only [rBf] at h
    split at h
    · obtain ⟨t, u, b, h1, h2, h3, q⟩ := h
      exact call_isi pins s σ H _ us Q I r ⟨_, _, t, u, b, rfl, h1, h2, h3, q⟩
    · exact h.elim
  | .repr => by
    subst hK
    intro pins s σ H vs us Q I r h
    dsimp only [rBf] at h
    split at h
    · obtain ⟨d, h1, h2, h4, h5, q⟩ := h
      exact crRepr sm hg (Nat.lt_of_le_of_lt (Nat.add_le_add_left (by decide : 64 ≤ 65) _) hu) pins s σ H _ us Q I r ⟨_, d, rfl, h1, h2, h4, h5, q⟩
    · exact h.elim

def Bm.name : Bm → Str
  | .append => "append"
  | .pop => "pop"
  | .extend => "extend"
  | .insert => "insert"
  | .join => "join"
  | .find => "find"
  | .split => "split"
  | .lstrip => "lstrip"
  | .indexS => "index"
  | .indexL => "index"
def Bm.id : Bm → String
  | .append => "list.append"
  | .pop => "list.pop"
  | .extend => "list.extend"
  | .insert => "list.insert"
  | .join => "str.join"
  | .find => "str.find"
  | .split => "str.split"
  | .lstrip => "str.lstrip"
  | .indexS => "str.index"
  | .indexL => "list.index"
theorem Bm.plain : ∀ m : Bm, PlainAttrs m.ty
  | .append => F.plainAttrs_list
  | .pop => F.plainAttrs_list
  | .extend => F.plainAttrs_list
  | .insert => F.plainAttrs_list
  | .join => F.plainAttrs_str
  | .find => F.plainAttrs_str
  | .split => F.plainAttrs_str
  | .lstrip => F.plainAttrs_str
  | .indexS => F.plainAttrs_str
  | .indexL => F.plainAttrs_list
theorem Bm.slot : ∀ m : Bm, Slot m.ty m.name m.id
  | .append => F.slot_list_append
  | .pop => F.slot_list_pop
  | .extend => F.slot_list_extend
  | .insert => F.slot_list_insert
  | .join => F.slot_str_join
  | .find => F.slot_str_find
  | .split => F.slot_str_split
  | .lstrip => F.slot_str_lstrip
  | .indexS => F.slot_str_index
  | .indexL => F.slot_list_index
theorem Bm.desc : ∀ m : Bm, typeOf (.builtin m.id) = pure (.type "method_descriptor")
  | .append => F.type_list_append
  | .pop => F.type_list_pop
  | .extend => F.type_list_extend
  | .insert => F.type_list_insert
  | .join => F.type_str_join
  | .find => F.type_str_find
  | .split => F.type_str_split
  | .lstrip => F.type_str_lstrip
  | .indexS => F.type_str_index
  | .indexL => F.type_list_index
theorem ty_lst {H : Hp} {a : Addr} {xs : List V} (h : H a = some (.lst xs)) : tyV K "list" (.ref a) H := .inl ⟨rfl, xs, .inl (.inl h)⟩
theorem bmOk (hK : K = X.K) (hc : X.calm = true) : ∀ m : Bm, MtR X m.id (rBm K m)
  | .split => by
    intro pins s σ H x xs v us Q I rx r h
    dsimp only [rBm] at h
    split at h
    · obtain ⟨h1, h2, q⟩ := h
      exact mt_split pins s σ H _ _ v us Q I rx r ⟨_, _, rfl, rfl, h1, h2, q⟩
    · exact h.elim
  | .lstrip => by
    intro pins s σ H x xs v us Q I rx r h
    dsimp only [rBm] at h
    split at h
    · exact mt_lstripChars pins s σ H _ _ v us Q I rx r ⟨_, _, rfl, rfl, h.1, h.2⟩
    · exact h.elim
  | .indexS => by
    intro pins s σ H x xs v us Q I rx r h
    dsimp only [rBm] at h
    split at h
    · obtain ⟨k, e, q⟩ := h
      exact mt_indexX hc (takes0 (X := X)) pins s σ H _ _ v us Q I rx r ⟨_, _, rfl, rfl, fun j ej => (by rw [e] at ej; cases ej; exact q), fun z => by rw [e] at z; cases z⟩
    · exact h.elim
  | .indexL => by
    subst hK
    intro pins s σ H x xs v us Q I rx r h
    dsimp only [rBm] at h
    split at h
    · obtain ⟨ys, j, z, h1, h2, h3, h4, h5, h6, q⟩ := h
      exact mt_index pins s σ H _ _ v us Q I rx r ⟨_, ys, _, j, z, rfl, rfl, h1, h2, h3, h4, h5, h6, q⟩
    · exact h.elim
  | .append => by
    intro pins s σ H x xs v us Q I rx r h
    dsimp only [rBm] at h
    split at h
    · obtain ⟨ys, h1, h2, q⟩ := h
      exact mt_append pins s σ H _ _ v us Q I rx r ⟨_, _, _, rfl, rfl, h1, h2, q⟩
    · exact h.elim
  | .pop => by
    intro pins s σ H x xs v us Q I rx r h
    dsimp only [rBm] at h
    split at h
    · obtain ⟨ys, y, h1, h2, q⟩ := h
      exact mt_pop pins s σ H _ _ v us Q I rx r ⟨_, _, _, rfl, rfl, h1, h2, q⟩
    · obtain ⟨ys, k, y, h1, h2, h3, h4, h5, q⟩ := h
      exact mt_popAt pins s σ H _ _ v us Q I rx r ⟨_, _, _, _, _, rfl, rfl, h1, h2, h3, h4, h5, q⟩
    · exact h.elim
  | .extend => by
    intro pins s σ H x xs v us Q I rx r h
    dsimp only [rBm] at h
    split at h
    · obtain ⟨ys, zs, h1, h2, h3, q⟩ := h
      exact mt_extend pins s σ H _ _ v us Q I rx r ⟨_, _, _, _, rfl, rfl, h1, h2, h3, q⟩
    · exact h.elim
  | .insert => by
    intro pins s σ H x xs v us Q I rx r h
    dsimp only [rBm] at h
    split at h
    · obtain ⟨ys, h1, h2, h3, h4, q⟩ := h
      exact mt_insert pins s σ H _ _ v us Q I rx r ⟨_, _, _, _, rfl, rfl, h1, h2, h3, h4, q⟩
    · exact h.elim
  | .find => by
    intro pins s σ H x xs v us Q I rx r h
    dsimp only [rBm] at h
    split at h
    · exact mt_find pins s σ H _ _ v us Q I rx r ⟨_, _, rfl, rfl, h⟩
    · exact h.elim
  | .join => by
    subst hK
    intro pins s σ H x xs v us Q I rx r h
    dsimp only [rBm] at h
    split at h
    · obtain ⟨ys, h1, h2, q⟩ := h
      exact mt_join pins s σ H _ _ v us Q I rx r ⟨_, _, ys, rfl, rfl, h1, h2, q⟩
    · exact h.elim
end
end DI

/-! DI, part 4: the promise of a def with the room for repr too; its call. -/
namespace DI
open L2
open PySem.Spec
open PyProof.Rows hiding St
open PySem

structure RoomG (k : Nat) (A : Around) : Prop where
  r : Room k A
  g : A.guards = some []
theorem RoomG.mono {j k : Nat} {A : Around} (r : RoomG k A) (h : j ≤ k) : RoomG j A := ⟨r.r.mono h, r.g⟩
theorem RoomG.deeper {k : Nat} {A : Around} (r : RoomG (k + 1) A) (env : Env) : RoomG k (A.deeper env) := ⟨r.r.deeper env, r.g⟩
theorem RoomG.in1 {k : Nat} {A : Around} (r : RoomG (k + 1) A) : RoomG k A.in1 := ⟨r.r.in1, r.g⟩
theorem RoomG.make {k : Nat} {A : Around} (r : RoomG (k + 1) A) (C : Addr) (us : List Value) (kw : List (Str × Value)) : RoomG k (A.under (.builtin "type.__call__" ⟨.ref C :: us, kw⟩)) := by
  refine ⟨r.r.make C us kw, ?_⟩
  have h := r.g
  simpa [Around.under, Code.guards, Code.isGuard, guardIds, pushGuards] using h

/-- a def's promise: FnOk of the hand layer, with the guards told -/
structure FnG (P : Program) (w : World) (K : PySem.W.Frag) (mg : Str → Option Value) (base : Heap) (k : Nat) (f : Addr) (fd : FuncData) (ps : List Str) (sp : Sp) : Prop where
  len : ∀ vs H Q E, sp vs H Q E → vs.length = ps.length
  run : ∀ (A : Around) (outer : List Env) (s : Shared) (H : Hp) (args : Args) (us : List Value) (vs : List V) (Q : VK) (E : XK),
    RoomG k A → Env0 P w K mg base A outer s H → BindsTo s fd args (ps.zip us) → Vals vs us → sp vs H Q E →
      codeAny (model P w) A (.call (.ref f) args) (CR (CX P w) outer P w H s Q E) s

/-- how a def binds: the last parameters, ks, by name -/
def Bnd (K : PySem.W.Frag) (fd : FuncData) (ps ks : List Str) : Prop :=
  ∀ (s : Shared) (us ws : List Value), K.In s.heap → ws.length = ks.length → (us ++ ws).length = ps.length → BindsTo s fd ⟨us, ks.zip ws⟩ (ps.zip (us ++ ws))
theorem Bnd.plain {K : PySem.W.Frag} {fd : FuncData} {ps : List Str} (h : Bnd K fd ps []) : Binds K fd ps [] := fun s us hk hl => h s us [] hk rfl hl
section
variable {X : Cx} {k : Nat} {f C : Addr} {fd : FuncData} {ps : List Str} {sp : Sp} {W : WX} {x m : Str} {p pos apos : Pos} {e o : Expr} {es : List Expr} {ta : TE} {t : TA}

theorem runG {pins : List (Addr × Obj)} {σ : L2.St} {H : Hp} {s : Shared} {Q : VK} {us : List Value} {vs : List V} (F : FnG X.prog X.w X.K X.mg X.base k f fd ps sp) (hr : RoomG k X.A) (hb : Binds X.K fd ps [])
    (tk : Takes X W) (I : Inv X pins σ H s) (r : Vals vs us) (h : sp vs H Q fun c d H' => W c d σ H') : wpAny (model X.prog X.w) X.A (call (.ref f) us) (EP X pins σ Q) X.xe s := by
  have hl : us.length = ps.length := by rw [← r.length]; exact F.len _ _ _ _ h
  have hb' := hb s us I.kIn (by rw [List.append_nil]; exact hl)
  rw [List.append_nil] at hb'
  refine wpAny_call (codeAny_mono (F.run X.A X.stack s H ⟨us, []⟩ us vs Q _ hr I.env0 hb' r h) fun r s' hq => ?_)
  rcases r with e | fl
  · exact tk _ _ (XE.of_call I (fun _ _ _ z => z) hq)
  · rcases fl with _ | _ | _ | u
    all_goals first
      | exact I.after hq
      | exact False.elim hq
theorem peCallG (F : FnG X.prog X.w X.K X.mg X.base k f fd ps sp) (hr : RoomG k X.A) (hb : Binds X.K fd ps []) (tk : Takes X W) (hg : Gl X x) (hm : X.mg x = some (.ref f)) (hk : PySem.W.keepIn X.K (.ref f) = true)
    (ha : PA X (e :: es) t) (hdb : (x == ("__debug__" : Str)) = false) (he : starEach (e :: es) X.env = (false, eval e X.env) :: starEach es X.env) (hpl : (backTo pos (starEach es X.env)).any (·.1) = false) :
    PE X (.Call (.Name x p) (e :: es) [] pos) fun σ H Q => t σ H fun vs H1 => sp vs H1 Q fun c d H2 => W c d σ H2 := by
  refine ⟨fun pins s σ H Q I h => wpAny_Call_Name_kw (ld_glob I hg hm ?_ hdb)⟩
  refine PySem.W.callWith_K (h₀ := X.base) I.ok.mod.kin hk (thn (ha.run pos pins s σ H _ I h) fun us s1 ⟨vs, H1, I1, r, q⟩ => ⟨I1.kIn, ?_⟩) he hpl
  exact runG F hr hb tk I1 r q
theorem peCallG0 (F : FnG X.prog X.w X.K X.mg X.base k f fd ps sp) (hr : RoomG k X.A) (hb : Binds X.K fd ps []) (tk : Takes X W) (hg : Gl X x) (hm : X.mg x = some (.ref f)) (hk : PySem.W.keepIn X.K (.ref f) = true)
    (hdb : (x == ("__debug__" : Str)) = false) : PE X (.Call (.Name x p) [] [] pos) fun σ H Q => tNil σ H fun vs H1 => sp vs H1 Q fun c d H2 => W c d σ H2 := by
  refine ⟨fun pins s σ H Q I h => wpAny_Call_Name_kw (ld_glob I hg hm ?_ hdb)⟩
  exact PySem.W.callWith_K0 I.kIn hk (runG (us := []) F hr hb tk I .nil h)
theorem runKG {pins : List (Addr × Obj)} {σ : L2.St} {H : Hp} {s : Shared} {Q : VK} {us ws : List Value} {vs zs : List V} {ks : List Str} (F : FnG X.prog X.w X.K X.mg X.base k f fd ps sp) (hr : RoomG k X.A) (hb : Bnd X.K fd ps ks)
    (tk : Takes X W) (I : Inv X pins σ H s) (r : Vals vs us) (rz : Vals zs ws) (hz : zs.length = ks.length) (h : sp (vs ++ zs) H Q fun c d H' => W c d σ H') : wpAny (model X.prog X.w) X.A (call (.ref f) us (ks.zip ws)) (EP X pins σ Q) X.xe s := by
  have r2 := r.append rz
  have hl : (us ++ ws).length = ps.length := by rw [← r2.length]; exact F.len _ _ _ _ h
  refine wpAny_call (codeAny_mono (F.run X.A X.stack s H ⟨us, ks.zip ws⟩ (us ++ ws) (vs ++ zs) Q _ hr I.env0 (hb s us ws I.kIn (rz.length.symm.trans hz) hl) r2 h) fun r s' hq => ?_)
  rcases r with e | fl
  · exact tk _ _ (XE.of_call I (fun _ _ _ z => z) hq)
  · rcases fl with _ | _ | _ | u
    all_goals first
      | exact I.after hq
      | exact False.elim hq
theorem peCallKG {tk2 : TA} {kws : List Keyword} {ks : List Str} (F : FnG X.prog X.w X.K X.mg X.base k f fd ps sp) (hr : RoomG k X.A) (hb : Bnd X.K fd ps ks) (tk : Takes X W) (hg : Gl X x) (hm : X.mg x = some (.ref f)) (hk : PySem.W.keepIn X.K (.ref f) = true)
    (ha : PA X (e :: es) t) (hkw : PK X kws tk2) (hall : (backToKw pos (keywordEach kws X.env)).all (·.1.isSome) = true) (hks : (backToKw pos (keywordEach kws X.env)).filterMap (·.1) = ks)
    (hdb : (x == ("__debug__" : Str)) = false) (he : starEach (e :: es) X.env = (false, eval e X.env) :: starEach es X.env)
    (hpl : ((backTo pos (starEach (e :: es) X.env)).any (·.1) || (backToKw pos (keywordEach kws X.env)).any (·.1.isNone)) = false) :
    PE X (.Call (.Name x p) (e :: es) kws pos) fun σ H Q => t σ H fun vs H1 => tk2 σ H1 fun zs H2 => zs.length = ks.length ∧ sp (vs ++ zs) H2 Q fun c d H3 => W c d σ H3 := by
  refine ⟨fun pins s σ H Q I h => wpAny_Call_Name_kw (ld_glob I hg hm ?_ hdb)⟩
  refine PySem.W.callWith_KW (h₀ := X.base) I.ok.mod.kin hk hall (thn (ha.run pos pins s σ H _ I h) fun us s1 ⟨vs, H1, I1, r, q⟩ => ?_) hpl he
  refine thn (hkw.run pos pins s1 σ H1 _ I1 q) fun ws s2 ⟨zs, H2, I2, rz, l2, q2⟩ => ⟨I2.kIn, ?_⟩
  rw [hks]
  exact runKG F hr hb tk I2 r rz l2 q2
/-- the tree of o.m(..) -/
def MethTree (X : Cx) (o : Expr) (m : Str) (apos : Pos) (args : List Expr) (pos : Pos) : Prop := ∃ pl : Sem Bool, eval (.Call (.Attribute o m apos) args [] pos) X.env = (do
  let ov ← eval o X.env
  standAt apos.atName
  let (f, first) ← holding [ov] (getMethod ov m pl)
  callWith pos f first (backTo pos (starEach args X.env)) (backToKw pos (keywordEach [] X.env)))
/-- len(x) of an instance of a class of the text -/
theorem callLenO (hm : Meth X.K C "__len__" f) (F : FnG X.prog X.w X.K X.mg X.base k f fd ps sp) (hr : RoomG (k + 1) X.A) (hb : Binds X.K fd ps []) (tk : Takes X W) :
    CallR X (.builtin "len") fun xs H Q => ∃ a dx fs, xs = [V.ref a] ∧ H a = some (.ins C dx fs) ∧ sp [V.ref a] H (fun y H2 => ∃ n : Int, y = .int n ∧ 0 ≤ n ∧ n < 2 ^ 63 ∧ Q (.int n) H2) fun _ _ _ => False := by
  intro pins s σ H xs us Q I r h
  obtain ⟨a, dx, fs, rfl, ha, q⟩ := h
  obtain ⟨u, rfl, ru⟩ := vals1 r
  obtain rfl : u = Value.ref a := ru
  have hl : ([Value.ref a] : List Value).length = ps.length := F.len _ _ _ _ q
  have hb' := hb s [.ref a] I.kIn (by rw [List.append_nil]; exact hl)
  rw [List.append_nil] at hb'
  refine Calls.call_function_entry kind_len plain_len entry_len (args_len1 _) ?_
  unfold Builtin.«len»
  refine wpAny_bind (m := oneArg "len" _) (wpAny_pure ?_)
  obtain ⟨mA, M0, _⟩ := ins_get I.hok ha
  obtain ⟨od, Ia, _⟩ := M0.look
  refine wpAny_bind (m := callSpecial? (.ref a) (PySem.Str.ofString "__len__")) (PySem.W.special_fn I.kIn Ia hm.at_ (beq_iff_eq.mp hm.fn) ?_)
  refine wpAny_call (codeAny_mono (F.run X.A.in1 X.stack s H ⟨[.ref a], []⟩ [.ref a] [.ref a] _ _ hr.in1 I.env0.in1 hb' (.cons rfl .nil) q) fun r s' hq => ?_)
  rcases r with e | fl
  · exact tk _ _ (XE.of_call I (fun _ _ _ z => z.elim) hq)
  · rcases fl with _ | _ | _ | u
    all_goals try exact False.elim hq
    obtain ⟨y, H', I3, ry, n, ey, h0, h1, q3⟩ := I.after hq
    subst ey
    obtain ⟨t, rfl⟩ := ry
    dsimp only
    refine wpAny_bind (wpAny_holding (wpAny_pure ?_))
    refine wpAny_bind (wpAny_letGo ?_)
    show wpAny _ _ (if n < 0 then _ else _) _ _ _
    rw [if_neg (by omega)]
    show wpAny _ _ (if n ≥ 2 ^ 63 then _ else _) _ _ _
    rw [if_neg (by omega)]
    exact wpAny_bind (wpAny_mkInt (wpAny_pure ⟨_, rfl, V.int n, H', I3.tok _, ⟨_, rfl⟩, q3⟩))
theorem peMethG (he : PE X o ta) (c : Cls X.K C) (hm : Meth X.K C m f) (F : FnG X.prog X.w X.K X.mg X.base k f fd ps sp) (hr : RoomG k X.A) (hb : Binds X.K fd ps []) (tk : Takes X W) (ha : PA X (e :: es) t)
    (hst : starEach (e :: es) X.env = (false, eval e X.env) :: starEach es X.env) (hpl : (backTo pos (starEach es X.env)).any (·.1) = false) (ht : MethTree X o m apos (e :: es) pos) :
    PE X (.Call (.Attribute o m apos) (e :: es) [] pos) fun σ H Q => ta σ H fun x H1 => ∃ a dx fs, x = .ref a ∧ H1 a = some (.ins C dx fs) ∧ fs.lookup m = none ∧
      t σ H1 fun vs H2 => sp (.ref a :: vs) H2 Q fun c d H3 => W c d σ H3 := by
  obtain ⟨pl, ht⟩ := ht
  refine ⟨fun pins s σ H Q I h => PySem.W.methodCall_KW (pl := pl) (thn (he.run pins s σ H _ I h) fun u s1 ⟨x, H1, I1, rx, a, dx, fs, ex, ea, l, q⟩ => ?_) ht⟩
  subst ex
  cases rx
  refine getmeth_ok I1 ea c hm l (PySem.W.callWith_K (first := [.ref a]) (h₀ := X.base) I.ok.mod.kin hm.kp (thn (ha.run pos pins s1 σ H1 _ I1 q) fun us s2 ⟨vs, H2, I2, r, q2⟩ => ⟨I2.kIn, ?_⟩) hst hpl)
  exact runG (us := .ref a :: us) (vs := .ref a :: vs) F hr hb tk I2 (.cons rfl r) q2
theorem peMethG0 (he : PE X o ta) (c : Cls X.K C) (hm : Meth X.K C m f) (F : FnG X.prog X.w X.K X.mg X.base k f fd ps sp) (hr : RoomG k X.A) (hb : Binds X.K fd ps []) (tk : Takes X W) (ht : MethTree X o m apos [] pos) :
    PE X (.Call (.Attribute o m apos) [] [] pos) fun σ H Q => ta σ H fun x H1 => ∃ a dx fs, x = .ref a ∧ H1 a = some (.ins C dx fs) ∧ fs.lookup m = none ∧
      tNil σ H1 fun vs H2 => sp (.ref a :: vs) H2 Q fun c d H3 => W c d σ H3 := by
  obtain ⟨pl, ht⟩ := ht
  refine ⟨fun pins s σ H Q I h => PySem.W.methodCall_KW (pl := pl) (thn (he.run pins s σ H _ I h) fun u s1 ⟨x, H1, I1, rx, a, dx, fs, ex, ea, l, q⟩ => ?_) ht⟩
  subst ex
  cases rx
  exact getmeth_ok I1 ea c hm l (PySem.W.callWith_K0 (first := [.ref a]) I1.kIn hm.kp (runG (us := [.ref a]) (vs := [.ref a]) F hr hb tk I1 (.cons rfl .nil) q))

theorem runMakeG {pins : List (Addr × Obj)} {σ : L2.St} {H : Hp} {s : Shared} {Q : VK} {us : List Value} {vs : List V} (M : Mk X.K C f) (F : FnG X.prog X.w X.K X.mg X.base k f fd ps sp) (hr : RoomG (k + 1) X.A) (hb : Binds X.K fd ps [])
    (tk : Takes X W) (I : Inv X pins σ H s) (r : Vals vs us)
    (h : ∀ x dx, H x = none → H dx = none → dx ≠ x → sp (.ref x :: vs) (upd (upd H dx (.own x)) x (.ins C dx [])) (fun v H2 => v = .non ∧ Q (.ref x) H2) fun c d H' => W c d σ H') :
    wpAny (model X.prog X.w) X.A (call (.ref C) us) (EP X pins σ Q) X.xe s := by
  have hq := h (s.heap.objs.size + 1) s.heap.objs.size (I.hok.fresh (Nat.le_succ _)) (I.hok.fresh (Nat.le_refl _)) (Nat.ne_of_lt (Nat.lt_succ_self _))
  have I2 := Inv.made (C := C) I
  have r2 : Vals (V.ref (s.heap.objs.size + 1) :: vs) (Value.ref (s.heap.objs.size + 1) :: us) := .cons rfl r
  have hl : (Value.ref (s.heap.objs.size + 1) :: us).length = ps.length := r2.length.symm.trans (F.len _ _ _ _ hq)
  have hb' := hb _ (Value.ref (s.heap.objs.size + 1) :: us) I2.kIn (by rw [List.append_nil]; exact hl)
  rw [List.append_nil] at hb'
  refine wpAny_call (make_map (f := f) I.kIn M.makes M.init (beq_iff_eq.mp M.fn) (codeAny_mono (F.run (X.A.under (.builtin "type.__call__" ⟨.ref C :: us, []⟩)) X.stack _ _ ⟨Value.ref (s.heap.objs.size + 1) :: us, []⟩ (Value.ref (s.heap.objs.size + 1) :: us) _ _ _ (hr.make C us [])
    (I2.env0.make C us []) hb' r2 hq) fun r s' hq' => ?_))
  rcases r with e | fl
  · exact tk _ _ (XE.of_call I2 (fun _ _ _ z => z) hq')
  · rcases fl with _ | _ | _ | u
    all_goals try exact False.elim hq'
    obtain ⟨v, H', I3, rv, ev, q3⟩ := I2.after hq'
    subst ev
    exact ⟨rv, ⟨V.ref (s.heap.objs.size + 1), H', I3, rfl, q3⟩⟩
theorem peMakeG (M : Mk X.K C f) (F : FnG X.prog X.w X.K X.mg X.base k f fd ps sp) (hr : RoomG (k + 1) X.A) (hb : Binds X.K fd ps []) (tk : Takes X W) (hg : Gl X x) (hm : X.mg x = some (.ref C))
    (ha : PA X (e :: es) t) (hdb : (x == ("__debug__" : Str)) = false) (he : starEach (e :: es) X.env = (false, eval e X.env) :: starEach es X.env) (hpl : (backTo pos (starEach es X.env)).any (·.1) = false) :
    PE X (.Call (.Name x p) (e :: es) [] pos) fun σ H Q => t σ H fun vs H1 => ∀ x dx, H1 x = none → H1 dx = none → dx ≠ x →
      sp (.ref x :: vs) (upd (upd H1 dx (.own x)) x (.ins C dx [])) (fun u H2 => u = .non ∧ Q (.ref x) H2) fun c d H2 => W c d σ H2 := by
  refine ⟨fun pins s σ H Q I h => wpAny_Call_Name_kw (ld_glob I hg hm ?_ hdb)⟩
  refine PySem.W.callWith_K (h₀ := X.base) I.ok.mod.kin M.kp (thn (ha.run pos pins s σ H _ I h) fun us s1 ⟨vs, H1, I1, r, q⟩ => ⟨I1.kIn, ?_⟩) he hpl
  exact runMakeG M F hr hb tk I1 r q
theorem peMakeG0 (M : Mk X.K C f) (F : FnG X.prog X.w X.K X.mg X.base k f fd ps sp) (hr : RoomG (k + 1) X.A) (hb : Binds X.K fd ps []) (tk : Takes X W) (hg : Gl X x) (hm : X.mg x = some (.ref C))
    (hdb : (x == ("__debug__" : Str)) = false) :
    PE X (.Call (.Name x p) [] [] pos) fun σ H Q => tNil σ H fun vs H1 => ∀ x dx, H1 x = none → H1 dx = none → dx ≠ x →
      sp (.ref x :: vs) (upd (upd H1 dx (.own x)) x (.ins C dx [])) (fun u H2 => u = .non ∧ Q (.ref x) H2) fun c d H2 => W c d σ H2 := by
  refine ⟨fun pins s σ H Q I h => wpAny_Call_Name_kw (ld_glob I hg hm ?_ hdb)⟩
  exact PySem.W.callWith_K0 I.kIn M.kp (runMakeG (us := []) M F hr hb tk I .nil h)
end

/-- a def by its body -/
theorem fnG_of {P : Program} {w : World} {K : PySem.W.Frag} {mg : Str → Option Value} {base : Heap} {k : Nat} {f : Addr} {name qual : Str} {params : Arguments} {body : List Stmt} {scope : Scope} {dV kV doc pm cdv ct oc : Value} {an od : Option Addr}
    {osl : Array (Option Value)} {N ps : List Str} {sp : Sp} (lk : K.lookup f = some ⟨oc, od, .func (PySem.W.fnOf name qual params body scope dV kV doc pm an cdv ct), osl⟩) (hcd : PySem.W.codeIn K cdv qual = true) (S : FnScope N ps scope)
    (len : ∀ vs H Q E, sp vs H Q E → vs.length = ps.length)
    (hbody : ∀ (A : Around) (outer : List Env) (s : Shared) (H : Hp) (vs : List V) (Q : VK) (E : XK), RoomG k (A.deeper (envOfC qual scope s.heap.objs.size f cdv)) → sp vs H Q E →
      ∃ t, PSs (cxOf (CX P w) P w K mg base N qual scope f cdv A outer s H E) body t ∧ t { nx := fun _ H' => Q .non H', rt := Q } (start N vs) H) :
    FnG P w K mg base (k + 1) f (PySem.W.fnOf name qual params body scope dV kV doc pm an cdv ct) ps sp := by
  refine ⟨len, fun A outer s H args us vs Q E hr e0 hb r hsp => ?_⟩
  have hl := len _ _ _ _ hsp
  have kept : ∀ b o, base.get? b = some o → s.heap.get? b = some o := fun b o z => (e0.bs b o z).1
  have KX : K.In s.heap := e0.mod.kin.keeps kept
  have lim : s.heap.NoLimit := e0.mod.nolimit.keeps kept
  have kinds : ∀ y ∈ ps.zip us, scope.names.lookup y.1 = some .local ∨ (scope.names.lookup y.1 = some .cell ∧ ((cellsFrom (s.heap.objs.size + 1) scope.names []).lookup y.1).isSome = true) := by
    rintro ⟨n, v⟩ hy
    exact (S.par n (List.of_mem_zip hy).1).imp (fun q => q) fun q => ⟨q, PySem.W.cellsFrom_some _ _ _ (.inl q)⟩
  refine codeAny_call_function hr.r.depth (KX _ _ lk) rfl S.co S.gen rfl (PySem.W.codeRec_of KX hcd) (hb _ _ _ _ (wpAny_newFunctionEnv_cells S.kind kinds fun env he s1 x => ?_))
  subst he
  refine ⟨lim.keeps x.toInCall.keep, codeAny_func ?_⟩
  obtain ⟨t, ht, hq⟩ := hbody A outer s H vs Q E (hr.deeper _) hsp
  have I := inv_start (CX := CX P w) (qual := qual) (cd := cdv) (f := f) (E := E) S hr.r.hd e0 hl r x
  refine wpAny_mono (ht.run [] s1 (start N vs) H _ I hq) (fun fl s' hs => ?_) fun e s' hs => hs
  rcases fl with _ | _ | _ | u
  · obtain ⟨σ', H', J, q⟩ := hs
    exact ⟨V.non, H', J.os, J.bare, J.base, J.hok, rfl, q⟩
  · obtain ⟨_, _, _, q⟩ := hs
    exact False.elim q
  · obtain ⟨_, _, _, q⟩ := hs
    exact False.elim q
  · obtain ⟨v, σ', H', J, rv, q⟩ := hs
    exact ⟨v, H', J.os, J.bare, J.base, J.hok, rv, q⟩
end DI

/-! DI, part 5: the look that a code is the code of a tree. -/
namespace DI
open L2
open PySem.Spec
open PyProof.Rows hiding St
open PySem

/-- what the look hangs on: the frame's names and scope; the names of the defs, classes, constants by number; which of them are known -/
structure CK where
  N : List Str
  sc : Scope
  fn : Nat → Str
  cn : Nat → Str
  gn : Nat → Str
  calls : List Nat
  mths : List (Nat × Nat × Str)
  mks : List (Nat × Nat)
  flds : List (Nat × Str)
  gls : List Nat
  kw : Nat → List Str := fun _ => []
  blk : Bool := false
  /-- the names of the block itself -/
  bn : List (Str × NameKind) := []
  /-- the exception classes: number, field; within an except suite -/
  exs : List (Nat × Str) := []
  bases : List Nat := []
  hot : Bool := false

/-- a def that is called without keywords -/
def CK.cl (t : CK) (f : Nat) : Bool := t.calls.contains f && (t.kw f).isEmpty
def CK.mt (t : CK) (C m : Nat) (nm : Str) : Bool := t.mths.contains (C, m, nm) && (t.kw m).isEmpty
def CK.mkq (t : CK) (C f : Nat) : Bool := t.mks.contains (C, f) && (t.kw f).isEmpty
def glB (sc : Scope) (x : Str) : Bool := decide (sc.names.lookup x = some .globalImplicit)
def visB (sc : Scope) (x : Str) : Bool := decide (sc.names.lookup x = some .local) || decide (sc.names.lookup x = some .cell) || decide (sc.names.lookup x = some .free)
def locB (sc : Scope) (x : Str) : Bool := decide (sc.names.lookup x = some .local) || decide (sc.names.lookup x = some .cell)
def dbgB (x : Str) : Bool := !(x == ("__debug__" : Str)) && !(x == ("__classdict__" : Str))
/-- not a star, a slice, a set, a comprehension; plain as a test; plain ahead of a point -/
def nStar : Expr → Bool
  | .Starred _ _ => false
  | _ => true
def nSl : Expr → Bool
  | .Slice _ _ _ _ => false
  | _ => true
def nSet : Expr → Bool
  | .Set _ _ _ => false
  | _ => true
def nCmp : Expr → Bool
  | .ListComp _ _ _ _ => false
  | .SetComp _ _ _ _ => false
  | .DictComp _ _ _ _ _ => false
  | _ => true
def nTest : Expr → Bool
  | .UnaryOp .Not _ _ => false
  | .BoolOp _ _ _ => false
  | .IfExp _ _ _ _ => false
  | .Compare _ _ _ _ => false
  | _ => true
def nBase : Expr → Bool
  | .Call (.Attribute _ _ _) _ _ _ => true
  | .Call _ _ _ _ => false
  | _ => true
def nPair : Expr → Bool
  | .Tuple _ _ _ => false
  | .List _ _ => false
  | _ => true
/-- a tuple to a tuple of targets that is unpacked, not swapped -/
def foldB : Expr → Expr → Bool
  | .Tuple ts _ _, .Tuple vs _ _ => vs.all (foldedForSure 8) || !(ts.length == 2 || ts.length == 3)
  | _, _ => false
def allSome (l : List (Option Expr)) : Bool := l.all (·.isSome)
def somes (l : List (Option Expr)) : List Expr := l.filterMap id
def tyNames : List String := ["int", "bool", "str", "list", "tuple", "dict"]
/-- the comprehension's own names and their slots -/
def ownP (N : List Str) (own : List Nat) : List (Str × Nat) := own.map fun i => (N.getD i "", i)
theorem ownP_snd (N : List Str) (own : List Nat) : (ownP N own).map (·.2) = own := by
  unfold ownP
  rw [List.map_map]
  induction own with
  | nil => rfl
  | cons a r ih => rw [List.map_cons, ih]; rfl

def litB (x : V) : Const → Bool
  | .int i => decide (x = .int i)
  | .bool b => decide (x = .bl b)
  | .str s => decide (x = .str s)
  | .none => decide (x = .non)
  | _ => false
/-- a target beside which a comprehension is not swapped -/
def cellT (sc : Scope) : Expr → Bool
  | .Name x _ => !decide (sc.names.lookup x = some .local)
  | _ => true
/-- names that take a tuple's items, stored from the right -/
def noStars (l : List Expr) : Bool := !l.any fun | .Starred .. => true | _ => false
def parB (sc : Scope) (ns : List (Str × Pos)) (vs : List Expr) : Bool := decide (sc.kind = .function) && (ns.all fun p => decide (sc.names.lookup p.1 = some .local)) && (ns.all fun p => p.2.line == ((ns.head?.map (·.2.line)).getD 0)) &&
  decide ((ns.map (·.1)).eraseDups.length = ns.length) && noStars vs && !(vs.all (foldedForSure 8)) && !(vs.all (constantsAlone 8))
theorem parB_loc {sc : Scope} {ns : List (Str × Pos)} {vs : List Expr} (h : parB sc ns vs = true) : ∀ p ∈ ns, sc.names.lookup p.1 = some .local := by
  unfold parB at h
  simp only [Bool.and_eq_true, List.all_eq_true, decide_eq_true_eq] at h
  exact h.1.1.1.1.1.2
mutual
def Xp.chk : Xp → CK → Expr → Bool
  | .v i, t, e => match e with
    | .Name x _ => decide (t.N[i]? = some x) && visB t.sc x && dbgB x
    | _ => false
  | .c x, t, e => match e with
    | .Constant k _ _ => litB x k
    | _ => false
  | .g i, t, e => match e with
    | .Name x _ => decide (x = t.gn i) && t.gls.contains i && glB t.sc x && dbgB x
    | _ => false
  | .ty n, t, e => match e with
    | .Name x _ => decide (x = Str.ofString n) && tyNames.contains n && glB t.sc x
    | _ => false
  | .bin op a b, t, e => match e with
    | .BinOp l o r _ => decide (o = op) && a.chk t l && b.chk t r
    | _ => false
  | .neg a, t, e => match e with
    | .UnaryOp .USub l _ => a.chk t l
    | _ => false
  | .cmp op a b, t, e => match e with
    | .Compare l [o] [r] _ => decide (o = op) && nSet r && a.chk t l && b.chk t r
    | _ => false
  | .chn o1 o2 a b c, t, e => match e with
    | .Compare l [p1, p2] [r1, r2] _ => decide (p1 = o1) && decide (p2 = o2) && nSet r2 && a.chk t l && b.chk t r1 && c.chk t r2
    | _ => false
  | .and a b, t, e => match e with
    | .BoolOp .And [l, r] _ => a.chk t l && b.chk t r
    | .BoolOp .And (l :: r :: r2 :: rest) p => a.chk t l && b.chk t (.BoolOp .And (r :: r2 :: rest) p)
    | _ => false
  | .or a b, t, e => match e with
    | .BoolOp .Or [l, r] _ => a.chk t l && b.chk t r
    | .BoolOp .Or (l :: r :: r2 :: rest) p => a.chk t l && b.chk t (.BoolOp .Or (r :: r2 :: rest) p)
    | _ => false
  | .not a, t, e => match e with
    | .UnaryOp .Not l _ => a.chk t l
    | _ => false
  | .ite c a b, t, e => match e with
    | .IfExp x l r _ => c.chk t x && a.chk t l && b.chk t r
    | _ => false
  | .tup es, t, e => match e with
    | .Tuple l _ _ => es.chk t l
    | _ => false
  | .lst es, t, e => match e with
    | .List l _ => es.chk t l
    | _ => false
  | .dct0, _, e => match e with
    | .Dict [] [] _ => true
    | _ => false
  | .dctT0, _, e => match e with
    | .Dict [] [] _ => true
    | _ => false
  | .dct ks vs, t, e => match e with
    | .Dict keys values _ => allSome keys && decide (keys ≠ []) && decide (keys.length ≤ 15) && ks.chk t (somes keys) && vs.chk t values && decide (keys.length = values.length)
    | _ => false
  | .dget d k x, t, e => match e with
    | .Call (.Attribute r m ap) [l1, l2] [] p => decide (m = ("get" : Str)) && nBase r && (ap.endLine == p.line) && nStar l1 && nStar l2 && d.chk t r && k.chk t l1 && x.chk t l2
    | _ => false
  | .lrg1 a, t, e => match e with
    | .Call (.Name n1 _) [.Call (.Name n2 _) [l] [] _] [] _ => !t.hot && decide (n1 = ("list" : Str)) && decide (n2 = ("range" : Str)) && glB t.sc n1 && glB t.sc n2 && nStar l && a.chk t l
    | _ => false
  | .lrg2 a b, t, e => match e with
    | .Call (.Name n1 _) [.Call (.Name n2 _) [l, r] [] _] [] _ => !t.hot && decide (n1 = ("list" : Str)) && decide (n2 = ("range" : Str)) && glB t.sc n1 && glB t.sc n2 && nStar l && nStar r && a.chk t l && b.chk t r
    | _ => false
  | .chn3 o1 o2 o3 a b c d, t, e => match e with
    | .Compare l [p1, p2, p3] [r1, r2, r3] _ => decide (p1 = o1) && decide (p2 = o2) && decide (p3 = o3) && nSet r3 && a.chk t l && b.chk t r1 && c.chk t r2 && d.chk t r3
    | _ => false
  | .ef i f, t, e => match e with
    | .Attribute (.Name x _) m _ => decide (m = f) && t.hot && decide (t.N[i]? = some x) && visB t.sc x && dbgB x
    | _ => false
  | .ei i C, t, e => match e with
    | .Call (.Name n1 _) [.Name x _, .Name c _] [] _ => decide (n1 = ("isinstance" : Str)) && glB t.sc n1 && t.hot && decide (t.N[i]? = some x) && visB t.sc x && dbgB x && decide (c = t.cn C) && glB t.sc c && dbgB c && ((t.exs.any fun q => decide (q.1 = C)) || t.bases.contains C)
    | _ => false
  | .eib i n, t, e => match e with
    | .Call (.Name n1 _) [.Name x _, .Name c _] [] _ => decide (n1 = ("isinstance" : Str)) && glB t.sc n1 && t.hot && decide (t.N[i]? = some x) && visB t.sc x && dbgB x && decide (c = Str.ofString n) && glB t.sc c && decide (n = "ValueError")
    | _ => false
  | .ix a i, t, e => match e with
    | .Subscript l r _ => a.chk t l && i.chk t r && nSl r
    | _ => false
  | .sl a lo hi, t, e => match e with
    | .Subscript l (.Slice x y none _) _ => a.chk t l && lo.chk t x && hi.chk t y
    | _ => false
  | .rev a, t, e => match e with
    | .Subscript l (.Slice none none (some (.UnaryOp .USub (.Constant (.int 1) _ _) _)) _) _ => a.chk t l
    | _ => false
  | .fld C o f, t, e => match e with
    | .Attribute l x _ => decide (x = f) && t.flds.contains (C, f) && nBase l && o.chk t l
    | _ => false
  | .call f es, t, e => match e with
    | .Call (.Name x _) l [] _ => !t.hot && decide (x = t.fn f) && t.cl f && glB t.sc x && dbgB x && es.chk t l
    | _ => false
  | .callk f es ks, t, e => match e with
    | .Call (.Name x _) (a :: l) kws _ => !t.hot && decide (x = t.fn f) && t.calls.contains f && glB t.sc x && dbgB x && decide (kws.map (·.arg) = (t.kw f).map some) && es.chk t (a :: l) && ks.chk t (kws.map (·.value))
    | _ => false
  | .bits a, t, e => match e with
    | .Call (.Attribute r x ap) [] [] p => decide (x = ("bit_length" : Str)) && nBase r && (ap.endLine == p.line) && a.chk t r
    | _ => false
  | .mk C f es, t, e => match e with
    | .Call (.Name x _) l [] _ => !t.hot && decide (x = t.cn C) && t.mkq C f && glB t.sc x && dbgB x && es.chk t l
    | _ => false
  | .meth m C nm o es, t, e => match e with
    | .Call (.Attribute r x ap) l [] p => !t.hot && decide (x = nm) && t.mt C m nm && nBase r && decide (l.length < 30) && (ap.endLine == p.line) && o.chk t r && es.chk t l
    | _ => false
  | .bc b es, t, e => match e with
    | .Call (.Name x _) (l :: r) [] _ => (!t.hot || decide (b = .isi)) && decide (x = b.name) && glB t.sc x && es.chk t (l :: r)
    | _ => false
  | .lenO m C es, t, e => match e with
    | .Call (.Name x _) (l :: r) [] _ => !t.hot && decide (x = Bf.len.name) && glB t.sc x && t.mt C m "__len__" && es.chk t (l :: r)
    | _ => false
  | .bm m o es, t, e => match e with
    | .Call (.Attribute r x ap) l [] p => !t.hot && decide (x = m.name) && nBase r && decide (l.length < 30) && (ap.endLine == p.line) && o.chk t r && es.chk t l
    | _ => false
  | .mxd mx a d, t, e => match e with
    | .Call (.Name x _) [l] [⟨some nm, r, _⟩] _ => !t.hot && decide (x = (if mx = true then ("max" : Str) else "min")) && decide (nm = ("default" : Str)) && glB t.sc x && nStar l && a.chk t l && d.chk t r
    | _ => false
  | .dc k el tg it ifs own, t, e => match e with
    | .DictComp x y [⟨tt, ii, ff, 0⟩] sc _ => !t.hot && blkC t.N t.sc sc (ownP t.N own) && nSet ii && it.chk t tt ii && tg.chk { t with sc := relS sc t.sc, blk := true, bn := sc.names } tt && ifs.chk { t with sc := relS sc t.sc, blk := true, bn := sc.names } ff && k.chk { t with sc := relS sc t.sc, blk := true, bn := sc.names } x && el.chk { t with sc := relS sc t.sc, blk := true, bn := sc.names } y
    | _ => false
  | .lckE a, t, e => a.chk t e
  | .lc el tg it ifs own, t, e => match e with
    | .ListComp y [⟨tt, ii, ff, 0⟩] sc _ => !t.hot && blkC t.N t.sc sc (ownP t.N own) && nSet ii && it.chk t tt ii && tg.chk { t with sc := relS sc t.sc, blk := true, bn := sc.names } tt && ifs.chk { t with sc := relS sc t.sc, blk := true, bn := sc.names } ff && el.chk { t with sc := relS sc t.sc, blk := true, bn := sc.names } y
    | _ => false
def Xpo.chk : Xpo → CK → Option Expr → Bool
  | .no, _, e => match e with
    | none => true
    | some _ => false
  | .so a, t, e => match e with
    | none => false
    | some l => a.chk t l
def Xps.chk : Xps → CK → List Expr → Bool
  | .nil, _, l => match l with
    | [] => true
    | _ => false
  | .cons a r, t, l => match l with
    | e :: es => nStar e && a.chk t e && r.chk t es
    | _ => false
def Tt.chk : Tt → CK → Expr → Bool
  | .tr a, t, e => nTest e && a.chk t e
  | .cmp op a b, t, e => match e with
    | .Compare l [o] [r] _ => decide (o = op) && nSet r && a.chk t l && b.chk t r
    | _ => false
  | .chn o1 o2 a b c, t, e => match e with
    | .Compare l [p1, p2] [r1, r2] _ => decide (p1 = o1) && decide (p2 = o2) && nSet r2 && a.chk t l && b.chk t r1 && c.chk t r2
    | _ => false
  | .chn3 o1 o2 o3 a b c d, t, e => match e with
    | .Compare l [p1, p2, p3] [r1, r2, r3] _ => decide (p1 = o1) && decide (p2 = o2) && decide (p3 = o3) && nSet r3 && a.chk t l && b.chk t r1 && c.chk t r2 && d.chk t r3
    | _ => false
  | .and a b, t, e => match e with
    | .BoolOp .And [l, r] _ => a.chk t l && b.chk t r
    | .BoolOp .And (l :: r :: r2 :: rest) p => a.chk t l && b.chk t (.BoolOp .And (r :: r2 :: rest) p)
    | _ => false
  | .or a b, t, e => match e with
    | .BoolOp .Or [l, r] _ => a.chk t l && b.chk t r
    | .BoolOp .Or (l :: r :: r2 :: rest) p => a.chk t l && b.chk t (.BoolOp .Or (r :: r2 :: rest) p)
    | _ => false
  | .not a, t, e => match e with
    | .UnaryOp .Not l _ => a.chk t l
    | _ => false
def Tto.chk : Tto → CK → List Expr → Bool
  | .no, _, l => match l with
    | [] => true
    | _ => false
  | .so a, t, l => match l with
    | [e] => a.chk t e
    | _ => false
def Sq.chk : Sq → CK → Expr → Expr → Bool
  | .lst a, t, _, e => a.chk t e
  | .tup a, t, _, e => a.chk t e
  | .txt a, t, _, e => a.chk t e
  | .rng1 a, t, _, e => match e with
    | .Call (.Name x _) [l] [] _ => decide (x = ("range" : Str)) && glB t.sc x && nStar l && a.chk t l
    | _ => false
  | .rng2 a b, t, _, e => match e with
    | .Call (.Name x _) [l, r] [] _ => decide (x = ("range" : Str)) && glB t.sc x && nStar l && nStar r && a.chk t l && b.chk t r
    | _ => false
  | .rng3 a b c, t, _, e => match e with
    | .Call (.Name x _) [l, m, r] [] _ => decide (x = ("range" : Str)) && glB t.sc x && nStar l && nStar m && nStar r && a.chk t l && b.chk t m && c.chk t r
    | _ => false
  | .enm a, t, tg, e => match tg, e with
    | .Tuple _ _ _, .Call (.Name x _) [l] [] _ => decide (x = ("enumerate" : Str)) && glB t.sc x && nStar l && a.chk t l
    | _, _ => false
  | .enmT a, t, tg, e => match tg, e with
    | .Tuple _ _ _, .Call (.Name x _) [l] [] _ => decide (x = ("enumerate" : Str)) && glB t.sc x && nStar l && a.chk t l
    | _, _ => false
  | .zip a b, t, tg, e => match tg, e with
    | .Tuple _ _ _, .Call (.Name x _) [l, r] [] _ => decide (x = ("zip" : Str)) && glB t.sc x && nStar l && nStar r && a.chk t l && b.chk t r
    | _, _ => false
  | .zipS a b, t, tg, e => match tg, e with
    | .Tuple _ _ _, .Call (.Name x _) [l, r] [] _ => decide (x = ("zip" : Str)) && glB t.sc x && nStar l && nStar r && a.chk t l && b.chk t r
    | _, _ => false
  | .rvs a, t, _, e => match e with
    | .Call (.Name x _) [l] [] _ => decide (x = ("reversed" : Str)) && glB t.sc x && nStar l && a.chk t l
    | _ => false
  | .rvT a, t, _, e => match e with
    | .Call (.Name x _) [l] [] _ => decide (x = ("reversed" : Str)) && glB t.sc x && nStar l && a.chk t l
    | _ => false
  | .rvr1 a, t, _, e => match e with
    | .Call (.Name n1 _) [.Call (.Name n2 _) [l] [] _] [] _ => decide (n1 = ("reversed" : Str)) && decide (n2 = ("range" : Str)) && glB t.sc n1 && glB t.sc n2 && nStar l && a.chk t l
    | _ => false
  | .rvr2 a b, t, _, e => match e with
    | .Call (.Name n1 _) [.Call (.Name n2 _) [l, r] [] _] [] _ => decide (n1 = ("reversed" : Str)) && decide (n2 = ("range" : Str)) && glB t.sc n1 && glB t.sc n2 && nStar l && nStar r && a.chk t l && b.chk t r
    | _ => false
  | .any a b, t, tg, e => a.chk t tg e && b.chk t tg e
  | .dk a, t, _, e => a.chk t e
def Tg.chk : Tg → CK → Expr → Bool
  | .nm i, t, e => match e with
    | .Name x _ => decide (t.N[i]? = some x) && (if t.blk = true then decide (t.sc.names.lookup x = some .local) || (decide (t.sc.names.lookup x = some .cell) && decide (t.bn.lookup x = some .cell)) else locB t.sc x)
    | _ => false
  | .tup gs, t, e => match e with
    | .Tuple l _ _ => !t.hot && gs.chk t l
    | _ => false
  | .sub o i, t, e => match e with
    | .Subscript l r _ => nSl r && o.chk t l && i.chk t r
    | _ => false
def Tgs.chk : Tgs → CK → List Expr → Bool
  | .nil, _, l => match l with
    | [] => true
    | _ => false
  | .cons a r, t, l => match l with
    | e :: es => nStar e && a.chk t e && r.chk t es
    | _ => false
end
mutual
def Sm.chk : Sm → CK → Stmt → Bool
  | .asg g e, t, s => match s with
    | .Assign [tg] y _ => (nCmp y || cellT t.sc tg) && nStar tg && (nPair tg || nPair y || foldB tg y) && g.chk t tg && e.chk t y
    | _ => false
  | .asl i el tg it ifs own, t, s => match s with
    | .Assign [.Name x px] (.ListComp y [⟨tt, ii, ff, 0⟩] sc p) sp => !t.hot && decide (t.N[i]? = some x) && decide (t.sc.names.lookup x = some .local) && (px.line == p.line) &&
        !(sc.names.any fun (n, k) => n == x && (k == .local || k == .cell)) && decide (t.sc.kind = .function) &&
        blkC t.N t.sc sc (ownP t.N own) && nSet ii && it.chk t tt ii && tg.chk { t with sc := relS sc t.sc, blk := true, bn := sc.names } tt && ifs.chk { t with sc := relS sc t.sc, blk := true, bn := sc.names } ff && el.chk { t with sc := relS sc t.sc, blk := true, bn := sc.names } y
    | _ => false
  | .par i j a b, t, s => match s with
    | .Assign [.Tuple [.Name x px, .Name y py] _ _] (.Tuple [e1, e2] _ _) _ => !t.hot && decide (t.N[i]? = some x) && decide (t.N[j]? = some y) && decide (i ≠ j) && parB t.sc [(x, px), (y, py)] [e1, e2] && nStar e1 && nStar e2 && a.chk t e1 && b.chk t e2
    | _ => false
  | .par3 i j l a b c, t, s => match s with
    | .Assign [.Tuple [.Name x px, .Name y py, .Name z pz] _ _] (.Tuple [e1, e2, e3] _ _) _ => !t.hot && decide (t.N[i]? = some x) && decide (t.N[j]? = some y) && decide (t.N[l]? = some z) && decide (i ≠ j) && decide (i ≠ l) && decide (j ≠ l) &&
        parB t.sc [(x, px), (y, py), (z, pz)] [e1, e2, e3] && nStar e1 && nStar e2 && nStar e3 && a.chk t e1 && b.chk t e2 && c.chk t e3
    | _ => false
  | .fld C o f e, t, s => match s with
    | .Assign [.Attribute l x _] y _ => decide (x = f) && t.flds.contains (C, f) && o.chk t l && e.chk t y
    | _ => false
  | .aug i op e, t, s => match s with
    | .AugAssign (.Name x _) o y _ => decide (o = op) && decide (t.N[i]? = some x) && locB t.sc x && !t.blk && e.chk t y
    | _ => false
  | .augf C o f op e, t, s => match s with
    | .AugAssign (.Attribute l x _) op' y _ => decide (op' = op) && decide (x = f) && t.flds.contains (C, f) && o.chk t l && e.chk t y
    | _ => false
  | .exp e, t, s => match s with
    | .Expr y _ => nCmp y && e.chk t y
    | _ => false
  | .ret e, t, s => match s with
    | .Return (some y) _ => e.chk t y
    | _ => false
  | .retN, _, s => match s with
    | .Return none _ => true
    | _ => false
  | .pass, _, s => match s with
    | .Pass _ => true
    | _ => false
  | .brk, _, s => match s with
    | .Break _ => true
    | _ => false
  | .cnt, _, s => match s with
    | .Continue _ => true
    | _ => false
  | .ite c a b, t, s => match s with
    | .If x l r _ => c.chk t x && a.chk t l && b.chk t r
    | _ => false
  | .whl c b, t, s => match s with
    | .While x l [] _ => c.chk t x && b.chk t l
    | _ => false
  | .for_ tg it b, t, s => match s with
    | .For g y l [] _ => !t.hot && nSet y && it.chk t g y && tg.chk t g && b.chk t l
    | _ => false
  | .rai C f es, t, s => match s with
    | .Raise (some (.Call (.Name x _) (l :: r) [] _)) none _ => !t.hot && decide (x = t.cn C) && glB t.sc x && dbgB x && t.exs.contains (C, f) && es.chk t (l :: r)
    | _ => false
  | .tryA b C i sb, t, s => match s with
    | .Try body [.ExceptHandler (some (.Name x _)) (some n) (b0 :: su) _] [] [] _ => !t.hot && !t.blk && decide (x = t.cn C) && glB t.sc x && dbgB x && (t.exs.any (fun q => decide (q.1 = C)) || t.bases.contains C) && decide (t.N[i]? = some n) && decide (t.sc.names.lookup n = some .local) && b.chk t body && sb.chk { t with hot := true } (b0 :: su)
    | _ => false
  | .tryO b C sb, t, s => match s with
    | .Try body [.ExceptHandler (some (.Name x _)) none (b0 :: su) _] [] [] _ => !t.hot && !t.blk && decide (x = t.cn C) && glB t.sc x && dbgB x && (t.exs.any (fun q => decide (q.1 = C)) || t.bases.contains C) && b.chk t body && sb.chk { t with hot := true } (b0 :: su)
    | _ => false
  | .lck a, t, s => a.chk t s
  | .tryM b hs, t, s => match s with
    | .Try body (h :: hds) [] [] _ => !t.hot && !t.blk && b.chk t body && hs.chk t (h :: hds)
    | _ => false
  | .ddel d k, t, s => match s with
    | .Delete [.Subscript l r _] _ => d.chk t l && k.chk t r
    | _ => false
  | .never, _, _ => true
def Sms.chk : Sms → CK → List Stmt → Bool
  | .nil, _, l => match l with
    | [] => true
    | _ => false
  | .cons a r, t, l => match l with
    | s :: ss => a.chk t s && r.chk t ss
    | _ => false
def Hds.chk : Hds → CK → List ExceptHandler → Bool
  | .nil, _, l => match l with
    | [] => true
    | _ => false
  | .cons C sb r, t, l => match l with
    | .ExceptHandler (some (.Name x _)) none (b0 :: su) _ :: hds => decide (x = t.cn C) && glB t.sc x && dbgB x && (t.exs.any (fun q => decide (q.1 = C)) || t.bases.contains C) && sb.chk { t with hot := true } (b0 :: su) && r.chk t hds
    | _ => false
end

/-! ### what the looks say of the trees -/
theorem starEach_cons {e : Expr} (h : nStar e = true) (es : List Expr) (env : Env) : starEach (e :: es) env = (false, eval e env) :: starEach es env := by
  cases e <;> first | rfl | (cases h)
theorem Xps.stars : ∀ {c : Xps} {t : CK} {l : List Expr}, c.chk t l = true → l.all nStar = true
  | .nil, _, [], _ => rfl
  | .nil, _, _ :: _, h => by cases h
  | .cons a r, t, [], h => by cases h
  | .cons a r, t, e :: es, h => by
    simp only [Xps.chk, Bool.and_eq_true] at h
    rw [List.all_cons, h.1.1, Xps.stars h.2]
    rfl
theorem backTo_any {pos : Pos} {env : Env} : ∀ {l : List Expr}, l.all nStar = true → (backTo pos (starEach l env)).any (·.1) = false
  | [], _ => rfl
  | e :: es, h => by
    rw [List.all_cons, Bool.and_eq_true] at h
    rw [starEach_cons h.1]
    show (false || (backTo pos (starEach es env)).any (·.1)) = false
    rw [backTo_any h.2]
    rfl
theorem backTo_all {pos : Pos} {env : Env} : ∀ {l : List Expr}, l.all nStar = true → (backTo pos (starEach l env)).all (fun x => !x.1) = true
  | [], _ => rfl
  | e :: es, h => by
    rw [List.all_cons, Bool.and_eq_true] at h
    rw [starEach_cons h.1]
    show (true && (backTo pos (starEach es env)).all (fun x => !x.1)) = true
    rw [backTo_all h.2]
    rfl
theorem attr_plain {e : Expr} (h : nBase e = true) (f : Str) (env : Env) (w : Sem Value) : attributeBase e f env w = w := by
  cases e with
  | Call g l k p => cases g <;> first | rfl | (cases h)
  | _ => rfl
theorem no_behind {op : CmpOp} {e : Expr} (h : nSet e = true) : behindInMarks op e = false := by
  cases e <;> first | rfl | (cases h)
theorem folded_plain {e : Expr} (h : nSet e = true) (env : Env) (x : Value) : foldedSetIterable e env x = pure x := by
  cases e <;> first | rfl | (cases h)
theorem subs_plain {e : Expr} (h : nSl e = true) (o i : Value) : subscripted e false o i = operate [o, i] (getItem o i) := by
  cases e <;> first | rfl | (cases h)
theorem swap_plain {e : Expr} (h : nCmp e = true) (tg : Option Expr) (l : Nat) (env : Env) : swapsWith e tg l env = pure false := by
  cases e <;> first | rfl | (cases h)
theorem swap_attr (e o : Expr) (a : Str) (p : Pos) (l : Nat) (env : Env) : swapsWith e (some (.Attribute o a p)) l env = pure false := by
  cases e <;> rfl
theorem test_plain {e : Expr} (h : nTest e = true) (env : Env) (whole : Sem Value) : isTrue e env whole = (do let v ← whole; standAt e.pos; holding [v] (truthy v)) := by
  cases e with
  | UnaryOp op a p => cases op <;> first | rfl | (cases h)
  | _ => first | rfl | (cases h)
theorem assign_cons {e : Expr} (h : nStar e = true) (es : List Expr) (env : Env) : assignEach (e :: es) env = (false, assign e env) :: assignEach es env := by
  cases e <;> first | rfl | (cases h)
theorem sub_assign {o i : Expr} {pos : Pos} {env : Env} (h : nSl i = true) (v : Value) : assign (.Subscript o i pos) env v = (do
    let ov ← holding [v] (eval o env)
    let iv ← holding [v, ov] (eval i env)
    standAt pos
    holding [v, ov, iv] (setItem ov iv v)
    release [v, ov, iv] []) := by
  cases i <;> first | rfl | (cases h)
theorem swapped_fold {ts vs : List Expr} {kt kv : Nat} {pt pv : Pos} {env : Env} (h : (vs.all (foldedForSure 8) || !(ts.length == 2 || ts.length == 3)) = true) : swappedStores [.Tuple ts kt pt] (.Tuple vs kv pv) env = pure none := by
  unfold swappedStores
  dsimp only
  split
  · rfl
  · rename_i h1
    have h2 : vs.all (foldedForSure 8) = true := by
      rcases (Bool.or_eq_true _ _).mp h with h | h
      · exact h
      · exfalso
        apply h1
        rw [h]
        rfl
    split
    · rfl
    · split
      · rfl
      · first | rfl | rw [if_pos h2]
theorem swapped_plain {tg e : Expr} {env : Env} (h : (nPair tg || nPair e || foldB tg e) = true) : swappedStores [tg] e env = pure none := by
  cases tg <;> first
    | rfl
    | (cases e <;> first
        | rfl
        | exact swapped_fold h
        | (cases h))
theorem meth_tree {X : Cx} {o : Expr} {m : Str} {apos pos : Pos} {args : List Expr} (hb : nBase o = true) (hn : decide (args.length < 30) = true) (hl : (apos.endLine == pos.line) = true) (ha : args.all nStar = true) :
    MethTree X o m apos args pos := by
  refine ⟨do return (← importBound o X.env).getD true, ?_⟩
  show (do
    let ov ← attributeBase o m X.env (eval o X.env)
    standAt apos.atName
    methodCall o m apos pos X.env ov (args.length + 0) (backTo pos (starEach args X.env)) (backToKw pos (keywordEach [] X.env))) = _
  rw [attr_plain hb]
  have e1 : methodCallForm (args.length + 0) (backTo pos (starEach args X.env)) (backToKw pos (keywordEach [] X.env)) = true := by
    unfold methodCallForm
    rw [backTo_all ha]
    simpa [keywordEach, backToKw] using of_decide_eq_true hn
  have e2 : methodCallPos true o X.env apos pos = pure pos := by
    unfold methodCallPos
    rw [hl]
    rfl
  unfold methodCall
  rw [e1, e2]
  rfl
theorem swap_cell {tg e : Expr} {env : Env} (h : cellT env.scope tg = true) (l : Nat) : swapsWith e (some tg) l env = pure false := by
  cases tg with
  | Name x px =>
    have h2 : (env.kindOf x == some .local) = false := by
      unfold cellT at h
      simp only [Bool.not_eq_true', decide_eq_false_iff_not] at h
      simpa [Env.kindOf] using h
    cases e <;> first | rfl | (show pure (env.blockKind == .function && env.kindOf x == some .local && _ && _) = pure false; rw [h2]; simp)
  | _ => cases e <;> rfl
theorem swapped_2 {x y : Str} {px py pt pt2 : Pos} {kt k2 : Nat} {a b : Expr} {env : Env} (h : parB env.scope [(x, px), (y, py)] [a, b] = true) : swappedStores [.Tuple [.Name x px, .Name y py] kt pt] (.Tuple [a, b] k2 pt2) env = pure (some [x, y]) := by
  unfold parB noStars at h
  simp only [Bool.and_eq_true, Bool.not_eq_true', List.all_cons, List.all_nil, decide_eq_true_eq, Bool.and_true, List.head?_cons, Option.map_some, Option.getD_some, beq_self_eq_true, true_and] at h
  obtain ⟨⟨⟨⟨⟨⟨h1, hx, hy⟩, ly⟩, h5⟩, h6⟩, h7⟩, h8⟩ := h
  have hb : env.blockKind = .function := by unfold Env.blockKind; rw [h1]; rfl
  have kx : env.kindOf x = some .local := hx
  have ky : env.kindOf y = some .local := hy
  have ly : py.line = px.line := by simpa using ly
  have h5 : [x, y].eraseDups.length = 2 := h5
  have e : ([Expr.Name x px, Expr.Name y py].filterMap fun | .Name id pos => if (env.kindOf id == some .local && pos.line == px.line) = true then some id else none | _ => none) = [x, y] := by
    simp [kx, ky, ly]
  show (if (!(2 == 2 || 2 == 3) || 2 != 2 || env.blockKind != ScopeKind.function) = true then _ else _) = _
  rw [hb, if_neg (by decide)]
  refine (if_neg (fun q => absurd (h6.symm.trans q) (by decide))).trans ?_
  refine (if_neg (fun q => ?_)).trans ?_
  · have q : (([Expr.Name x px, Expr.Name y py].filterMap fun | .Name id pos => if (env.kindOf id == some .local && pos.line == px.line) = true then some id else none | _ => none).length != 2 || ([Expr.Name x px, Expr.Name y py].filterMap fun | .Name id pos => if (env.kindOf id == some .local && pos.line == px.line) = true then some id else none | _ => none).eraseDups.length != ([Expr.Name x px, Expr.Name y py].filterMap fun | .Name id pos => if (env.kindOf id == some .local && pos.line == px.line) = true then some id else none | _ => none).length) = true := q
    rw [e, h5] at q
    simp at q
  refine (if_neg (fun q => by simp only [List.all_cons, List.all_nil, Bool.and_true] at q; rw [h7] at q; exact absurd q (by decide))).trans ?_
  refine (if_neg (fun q => by simp only [List.all_cons, List.all_nil, Bool.and_true] at q; rw [h8] at q; exact absurd q (by decide))).trans ?_
  exact congrArg (fun l => pure (some l)) e
theorem swapped_3 {x y z : Str} {px py pz pt pt2 : Pos} {kt k2 : Nat} {a b c : Expr} {env : Env} (h : parB env.scope [(x, px), (y, py), (z, pz)] [a, b, c] = true) : swappedStores [.Tuple [.Name x px, .Name y py, .Name z pz] kt pt] (.Tuple [a, b, c] k2 pt2) env = pure (some [x, y, z]) := by
  unfold parB noStars at h
  simp only [Bool.and_eq_true, Bool.not_eq_true', List.all_cons, List.all_nil, decide_eq_true_eq, Bool.and_true, List.head?_cons, Option.map_some, Option.getD_some, beq_self_eq_true, true_and] at h
  obtain ⟨⟨⟨⟨⟨⟨h1, hx, hy, hz⟩, ly, lz⟩, h5⟩, h6⟩, h7⟩, h8⟩ := h
  have hb : env.blockKind = .function := by unfold Env.blockKind; rw [h1]; rfl
  have kx : env.kindOf x = some .local := hx
  have ky : env.kindOf y = some .local := hy
  have kz : env.kindOf z = some .local := hz
  have ly : py.line = px.line := by simpa using ly
  have lz : pz.line = px.line := by simpa using lz
  have h5 : [x, y, z].eraseDups.length = 3 := h5
  have e : ([Expr.Name x px, Expr.Name y py, Expr.Name z pz].filterMap fun | .Name id pos => if (env.kindOf id == some .local && pos.line == px.line) = true then some id else none | _ => none) = [x, y, z] := by
    simp [kx, ky, kz, ly, lz]
  show (if (!(3 == 2 || 3 == 3) || 3 != 3 || env.blockKind != ScopeKind.function) = true then _ else _) = _
  rw [hb, if_neg (by decide)]
  refine (if_neg (fun q => absurd (h6.symm.trans q) (by decide))).trans ?_
  refine (if_neg (fun q => ?_)).trans ?_
  · have q : (([Expr.Name x px, Expr.Name y py, Expr.Name z pz].filterMap fun | .Name id pos => if (env.kindOf id == some .local && pos.line == px.line) = true then some id else none | _ => none).length != 3 || ([Expr.Name x px, Expr.Name y py, Expr.Name z pz].filterMap fun | .Name id pos => if (env.kindOf id == some .local && pos.line == px.line) = true then some id else none | _ => none).eraseDups.length != ([Expr.Name x px, Expr.Name y py, Expr.Name z pz].filterMap fun | .Name id pos => if (env.kindOf id == some .local && pos.line == px.line) = true then some id else none | _ => none).length) = true := q
    rw [e, h5] at q
    simp at q
  refine (if_neg (fun q => by simp only [List.all_cons, List.all_nil, Bool.and_true] at q; rw [h7] at q; exact absurd q (by decide))).trans ?_
  refine (if_neg (fun q => by simp only [List.all_cons, List.all_nil, Bool.and_true] at q; rw [h8] at q; exact absurd q (by decide))).trans ?_
  exact congrArg (fun l => pure (some l)) e
end DI

/-! DI, part 5x: an exception of the program whose own __init__ says super().__init__(text) and keeps one field. -/
namespace DI
open L2
open PySem.Spec
open PyProof.Rows hiding St
open PySem

/-- the trees of such an __init__ -/
structure SupTxt where
  m : Str
  x : Str
  f : Str
  j : Nat
  (p0 p1 p2 p3 p4 p5 q1 q2 q3 q4 q5 : Pos)
def SupTxt.body (t : SupTxt) : List Stmt :=
  [.Expr (.Call (.Attribute (.Call (.Name "super" t.p0) [] [] t.p1) "__init__" t.p2) [.Constant (.str t.m) t.j t.p3] [] t.p4) t.p5,
   .Assign [.Attribute (.Name "self" t.q1) t.f t.q2] (.Name t.x t.q3) t.q4]
/-- what the written part and the trees say of the class at C -/
structure ExCls (P : Program) (K : PySem.W.Frag) (C : Addr) (f : Str) : Prop where
  oe : OexC K C
  xf : XfC K C
  no : PySem.W.findIn K (.ref C) f = some none
  fn : ∃ (fI cc cda : Addr) (T : SupTxt) (qual : Str) (params : Arguments) (scope : Scope) (dV kV doc pm ct oc ccl cl : Value) (an od cdd cld : Option Addr) (osl ccs csl : Array (Option Value)) (vs : Array Value) (file : Str) (tf : Tok) (ar : Arg),
    PySem.W.findIn K (.ref C) "__init__" = some (some (.ref fI)) ∧ PySem.W.typeIn K (.ref fI) = some (.type "function") ∧ T.f = f ∧
    K.lookup fI = some ⟨oc, od, .func (PySem.W.ksFn "__init__" qual params T.body scope dV kV doc pm an (.ref cda) ct cc), osl⟩ ∧ PySem.W.codeIn K (.ref cda) qual = true ∧
    K.lookup cda = some ⟨ccl, cdd, .fields vs, ccs⟩ ∧ vs[2]? = some (.str file tf) ∧ ((P.main.file : Str) == file) = true ∧
    K.lookup cc = some ⟨cl, cld, .cell (some (.ref C)), csl⟩ ∧ PySem.W.nsIn K mainGlobals "super" = some none ∧ (P.main.scope.names.lookup ("super" : Str)).isSome = false ∧
    PySem.W.ks_superIn K C C "__init__" = some (some (.builtin "ValueError.__init__")) ∧ PySem.W.mroIn K C (.ref C) = some true ∧ PySem.W.subIn K (.ref C) (.type "ValueError") = some true ∧
    PySem.W.nsIn K cStatics "thirdparty.any" = some none ∧
    (params.posonlyargs ++ params.args).head? = some ar ∧ ar.arg = "self" ∧ (T.p2.endLine == T.p4.line) = true ∧ T.x ≠ "self" ∧ (T.x == ("__debug__" : Str)) = false ∧
    scope.names.lookup ("super" : Str) = some .globalImplicit ∧ scope.names.lookup ("__class__" : Str) = some .free ∧ scope.names.lookup ("self" : Str) = some .local ∧ scope.names.lookup T.x = some .local ∧
    (∀ y ∈ scope.names, y.2 ≠ .cell) ∧ scope.isCoroutine = false ∧ scope.isGenerator = false ∧ scope.kind = .function ∧
    (∀ (kV doc pm : Value) (an : Option Addr) (cdv ct : Value) (cc : Addr) (a b : Value), bindArgs (PySem.W.ksFn "__init__" qual params T.body scope .none kV doc pm an cdv ct cc) ⟨[a, b], []⟩ = pure [(("self" : Str), a), (T.x, b)]) ∧ dV = .none

section
variable {prog : Program} {w : World} {A : Around} {E : Value → Shared → Prop} {h : Heap} {g : Array GenState} {d : Drawn} {t : Nat} {os : OsState}
variable {nm q : Str} {C N : Addr} {bs bm : List Value} {hdct : Bool} {sn : List Str} {sub : List Value} {ab : Bool} {col : Option Bool} {dd : Option Addr} {k0 k1 k2 k3 k5 : Option Value}
/-- the bound __init__ of ValueError, called -/
theorem sup_bound {u e t0 : Addr} {rest : List Value} {Q : Value → Shared → Prop}
    (hC : h.get? C = some (excClassObj nm q C N bs bm hdct sn sub ab col dd k0 k1 k2 k3 k5 "ValueError.__new__")) (he : h.get? e = some (PySem.HandSPX.excO C t0)) (hu : h.get? u = some (PySem.W.kxs_mw "ValueError.__init__" e)) (hz : rest.length ≤ sizeLine)
    (fin : ∀ h' t1, (∀ b o, b ≠ e → h.get? b = some o → h'.get? b = some o) → h'.get? e = some (PySem.HandSPX.excO C t1) → Q .none ⟨h', g, d, t, os⟩) :
    wpAny (model prog w) A (call (.ref u) rest) Q E ⟨h, g, d, t, os⟩ := by
  have FB := PySem.F.excBase_ValueError
  refine wpAny_call (codeAny_of_tree (show wpAny (model prog w) A.in1 (callAny (.ref u) ⟨rest, []⟩) _ _ _ from ?_))
  unfold callAny; dsimp only
  refine wpAny_bind (wpAny_load hu ?_)
  have hk : (Value.type "method-wrapper" == Value.type "method" || Value.type "method-wrapper" == Value.type "builtin_function_or_method" || Value.type "method-wrapper" == Value.type "method-wrapper") = true := by decide
  simp only [PySem.W.kxs_mw, hk, if_true]
  refine PySem.W.KFB.if_so (by decide) ?_
  refine wpAny_bind (PySem.W.check_bound_init FB.toExcCallFacts hC he rfl (wpAny_bind (wpAny_pure (wpAny_pure ⟨plainId_quiet FB.init.plain _, codeAny_builtin FB.initEntry ?_⟩))))
  exact PySem.W.exc_init_tree (cls := .ref C) (t0 := t0) (dv := none) (c2 := .none) (c3 := .none) (b4 := .bool false) he hz fun h' k h1 _ => fin h' _ k h1
end

theorem sup_tree {o c : Expr} {m : Str} {apos pos : Pos} {env : Env} (hc : nStar c = true) (hl : (apos.endLine == pos.line) = true) :
    eval (.Call (.Attribute o m apos) [c] [] pos) env = (do
      let ov ← attributeBase o m env (eval o env)
      standAt apos.atName
      let (f, first) ← holding [ov] (getMethod ov m (do return (← importBound o env).getD true))
      callWith pos f first (backTo pos (starEach [c] env)) []) := by
  show (do
    let ov ← attributeBase o m env (eval o env)
    standAt apos.atName
    methodCall o m apos pos env ov ([c].length + 0) (backTo pos (starEach [c] env)) (backToKw pos (keywordEach [] env))) = _
  have hs : [c].all nStar = true := by rw [List.all_cons, hc]; rfl
  have e1 : methodCallForm ([c].length + 0) (backTo pos (starEach [c] env)) (backToKw pos (keywordEach [] env)) = true := by
    unfold methodCallForm
    rw [backTo_all hs]
    simp [keywordEach, backToKw]
  have e2 : methodCallPos true o env apos pos = pure pos := by unfold methodCallPos; rw [hl]; rfl
  unfold methodCall
  rw [e1, e2]
  rfl
/-- the __init__, run -/
theorem sup_init {P : Program} {w : World} {K : PySem.W.Frag} {mg : Str → Option Value} {base : Heap} {A : Around} {outer : List Env} {s : Shared} {H : Hp} {C e t0 fI : Addr} {f : Str} {u : Value} {R : Result → Shared → Prop}
    (X : ExCls P K C f) (hI : PySem.W.findIn K (.ref C) "__init__" = some (some (.ref fI))) (e0 : Env0 P w K mg base A outer s H) (hroom : A.depth < recursionLimit) (he : s.heap.get? e = some (PySem.HandSPX.excO C t0)) (hKe : K.lookup e = none)
    (hq : ∀ h' tk' dx t1, (∀ b o, b ≠ e → s.heap.get? b = some o → h'.get? b = some o) → s.heap.objs.size ≤ dx → dx ≠ e → h'.get? e = some { cls := .ref C, dict := some dx, data := .fields #[.ref t1, .none, .none, .none, .bool false, .none] } →
      h'.Ns1 dx (fun y => if y = f then some u else none) → R (.ok (.ret .none)) { s with heap := h', toks := tk' }) :
    codeAny (model P w) A (.call (.ref fI) ⟨[.ref e, u], []⟩) R s := by
  obtain ⟨⟨nm, q, N, bs, bm, sn, sub, ab, col, dd, k0, k1, k2, k3, k5, hC, hbm⟩, sa, exC, tyC, kC⟩ := X.oe
  obtain ⟨fI', cc, cda, T, qual, params, scope, dV, kV, doc, pm, ct, oc, ccl, cl, an, od, cdd, cld, osl, ccs, csl, vs, file, tf, ar, hi', hty, hTf, lk, hcd, hcode, hvs, hfile, hcell, hsup, htop, hsi, hmro, hVE, hthird, har, harg, hline, hxs, hxd, sSup, sCls, sSelf, sX, hnc, hco, hgen, hkind, hbind, hdV⟩ := X.fn
  have ef : fI' = fI := by rw [hI] at hi'; cases hi'; rfl
  subst ef
  subst hTf
  subst hdV
  have kept : ∀ b o, base.get? b = some o → s.heap.get? b = some o := fun b o z => (e0.bs b o z).1
  have KX : K.In s.heap := e0.mod.kin.keeps kept
  have lim : s.heap.NoLimit := e0.mod.nolimit.keeps kept
  have hNs : s.heap.Ns mainGlobals mg := e0.mod.glob.keeps kept
  obtain ⟨mb, hb1, hb2⟩ := e0.mod.blt
  have hBs : s.heap.Ns builtinsNs mb := hb1.keeps kept
  have hcls : PySem.W.clsIn K C = some { name := nm, bases := bs, mro := .ref C :: bm, ns := N, qualname := q, hasDict := true, slotNames := sn, subclasses := sub, abstract := ab, collection := col, hasDel := false } := by unfold PySem.W.clsIn; rw [hC] <;> rfl
  have hloc : ∀ y ∈ [(("self" : Str), Value.ref e), (T.x, u)], scope.names.lookup y.1 = some .local := by
    intro y hy
    simp only [List.mem_cons, List.not_mem_nil, or_false] at hy
    rcases hy with rfl | rfl
    · exact sSelf
    · exact sX
  refine PySem.ks_codeAny_call_defAt (fd := PySem.W.ksFn "__init__" qual params T.body scope .none kV doc pm an (.ref cda) ct cc) (body := T.body) (binds := [(("self" : Str), .ref e), (T.x, u)]) hroom (KX _ _ lk) rfl lim (PySem.W.codeRec_of KX hcd) rfl (.of_eq (hbind _ _ _ _ _ _ _ _ _)) hnc hloc (fun h₁ hns k₁ => ?_) hco hgen hkind
  have K1 : K.In h₁ := KX.keeps k₁
  have he1 := k₁ _ _ he
  have eC : e ≠ C := by
    rintro rfl
    have z := (KX _ _ hC).symm.trans he
    cases z
  obtain ⟨oD, hD1, hD2⟩ : ∃ oD, h₁.get? C = some oD ∧ ∃ cd, oD.data = .cls cd := ⟨_, K1 _ _ hC, _, rfl⟩
  obtain ⟨cdD, hD2⟩ := hD2
  have I1 : PySem.W.InstAt h₁ e (PySem.HandSPX.excO C t0) C none := ⟨he1, rfl, rfl, trivial⟩
  have hself : (fun x => ([(("self" : Str), Value.ref e), (T.x, u)] : List (Str × Value)).reverse.lookup x) ("self" : Str) = some (.ref e) := by
    show List.lookup ("self" : Str) ([(T.x, u), (("self" : Str), Value.ref e)] : List (Str × Value)) = _
    have : (("self" : Str) == T.x) = false := by simpa using Ne.symm hxs
    simp [List.lookup, this]
  have hxv : (fun x => ([(("self" : Str), Value.ref e), (T.x, u)] : List (Str × Value)).reverse.lookup x) T.x = some u := by
    show List.lookup T.x ([(T.x, u), (("self" : Str), Value.ref e)] : List (Str × Value)) = _
    simp [List.lookup]
  have eL : e ≠ s.heap.objs.size := Nat.ne_of_lt (Heap.lt_size he)
  have hint : interactive (callEnv (PySem.W.ksFn "__init__" qual params T.body scope .none kV doc pm an (.ref cda) ct cc) s.heap.objs.size fI') = false := by
    show (scope.kind == ScopeKind.module && _) = false
    rw [hkind]
    rfl
  refine PySem.ks_wpAt_execs_cons (PySem.ks_wpAt_Expr_any (PySem.ks_wpAt_MethodCall (pl := do return (← importBound (.Call (.Name "super" T.p0) [] [] T.p1) (callEnv (PySem.W.ksFn "__init__" qual params T.body scope .none kV doc pm an (.ref cda) ct cc) s.heap.objs.size fI')).getD true) (PySem.ks_wpAt_super_base (f := fI') (cc := cda) (ar := ar) sSup sCls (by decide +kernel) rfl (K1 _ _ lk) rfl har rfl (K1 _ _ hcode) rfl hvs hfile htop ?_) (sup_tree rfl hline)) hint rfl)
  · refine PySem.W.ks_loadName_global hkind sSup (Calls.loadGlobal_builtin (hNs.keeps k₁) (PySem.W.mg_none_of KX hNs hsup) (hBs.keeps k₁) ((hb2 _ (by decide +kernel)).trans (show bootBuiltins "super" = some (.type "super") by decide +kernel)) ⟨rfl, ?_⟩)
    refine wpAny_loadName_free hkind sCls rfl ⟨_, K1 _ _ hcell, rfl⟩ ?_
    rw [harg]
    refine wpAny_loadName_local hkind sSelf hns hself ?_
    refine PySem.ks_wpAny_isType_cls hD1 hD2 ⟨rfl, ?_⟩
    refine PySem.ks_wpAny_call_super hD1 hD2 he1 rfl (fun c z => by cases z) (PySem.W.looks_mroIn K1 hmro) fun h₂ hso k₂ => ?_
    have K2 : K.In h₂ := K1.keeps k₂
    have I2 : PySem.W.InstAt h₂ e (PySem.HandSPX.excO C t0) C none := ⟨k₂ _ _ he1, rfl, rfl, trivial⟩
    have hsi' : PySem.W.alongIn K "__init__" (((Value.ref C :: bm).dropWhile (· != .ref C)).drop 1) = some (some (.builtin "ValueError.__init__")) := by
      have z := hsi
      unfold PySem.W.ks_superIn at z
      rw [hcls] at z
      exact z
    refine PySem.W.kxs_getMethod PySem.W.kxs_ValueError hso (PySem.W.looks_opaque K2 hthird) (l₀ := .ref C :: bm) (fun A Q E s k q => wpAny_bind ((PySem.W.looks_clsIn K2 hcls) A _ E s k (wpAny_pure q))) rfl K2 hsi' (I2.type.andThen (PySem.W.looks_subIn K2 hVE)) eC (by decide +kernel) ?_
    refine PySem.W.kxs_callWith (i := "ValueError.__init__") (x := e) (by rfl) (Calls.evalArgs_plain (Calls.spliced_cons (Calls.Constant_str (k := T.j) (pos := T.p3) (Calls.spliced_nil ⟨?_, ?_⟩))))
    · exact Heap.get?_push_at rfl rfl
    have K3 : K.In (h₂.push (PySem.W.kxs_mw "ValueError.__init__" e)) := K2.keeps fun b o z => Heap.get?_push_of_some _ z
    refine sup_bound (K3 _ _ hC) (Heap.get?_push_of_some _ (k₂ _ _ he1)) (Heap.get?_push_at rfl rfl) (by show 1 ≤ sizeLine; decide) fun h₄ t1 k₄ he4 => ?_
    have k14 : ∀ b o, b ≠ e → h₁.get? b = some o → h₄.get? b = some o := fun b o hb z => k₄ b o hb (Heap.get?_push_of_some _ (k₂ _ _ z))
    refine PySem.ks_wpAt_execs_cons (PySem.ks_wpAt_Assign_Attr ?_ rfl)
    have hns4 : h₄.Ns s.heap.objs.size fun x => ([(("self" : Str), Value.ref e), (T.x, u)] : List (Str × Value)).reverse.lookup x := hns.at fun o z => k14 _ o (Ne.symm eL) z
    refine wpAt_of_wpAny (wpAny_Name (wpAny_loadName_local hkind sX hns4 hxv ?_) hxd)
    refine wpAny_Name (wpAny_loadName_local hkind sSelf hns4 hself ?_) (by decide)
    have K4 : K.In h₄ := fun b o z => k14 b o (fun y => by
      rw [y, hKe] at z
      cases z) (K1 b o z)
    refine PySem.W.set_plain K4 (ox := PySem.HandSPX.excO C t1) (od := none) ⟨he4, rfl, rfl, trivial⟩ sa ?_
    refine PySem.HandSPX.exc_osa K4 he4 hcls (show PySem.HandSPX.refsVE (.ref C :: bm) = true from hbm) rfl X.no (fun h₅ tk' dx k₅ dn dne hx hn => ?_)
    have k15 : ∀ b o, b ≠ e → s.heap.get? b = some o → h₅.get? b = some o := fun b o hb z => k₅ b o hb (k14 b o hb (k₁ b o z))
    have hsz : s.heap.objs.size ≤ dx := by
      obtain ⟨oL, esL, epL, hoL, _⟩ := hns4
      exact Nat.le_trans (Nat.le_of_lt (Heap.lt_size hoL)) dn
    exact wpAt_of_wpAny (wpAny_pure (hq h₅ tk' dx t1 k15 hsz dne hx hn))
theorem pmk_sup {X : Cx} {k : Nat} {x f : Str} {C : Addr} {p pos : Pos} {e : Expr} {es : List Expr} {ta : TA} (T : ExCls X.prog X.K C f) (hr : Room (k + 1) X.A) (hg : Gl X x) (hm : X.mg x = some (.ref C)) (ha : PA X (e :: es) ta)
    (hdb : (x == ("__debug__" : Str)) = false) (he : starEach (e :: es) X.env = (false, eval e X.env) :: starEach es X.env) (hpl : (backTo pos (starEach es X.env)).any (·.1) = false) :
    PMk X (.Call (.Name x p) (e :: es) [] pos) (tRai C f ta) := by
  intro pins s σ H Q I h
  have T0 := T
  obtain ⟨⟨nm, q, N, bs, bm, sn, sub, ab, col, dd, k0, k1, k2, k3, k5, hC, hbm⟩, sa, exC, tyC, kC⟩ := T.oe
  obtain ⟨fI, _, _, _, _, _, _, _, _, _, _, _, _, _, _, _, _, _, _, _, _, _, _, _, _, _, iC, tI, _⟩ := T.fn
  refine wpAny_Call_Name_kw (ld_glob I hg hm ?_ hdb)
  refine PySem.W.callWith_K (h₀ := X.base) I.ok.mod.kin kC (thn (ha.run pos pins s σ H _ I h) fun us s1 ⟨vs, H1, I1, r1, y, ev, q1⟩ => ⟨I1.kIn, ?_⟩) he hpl
  subst ev
  obtain ⟨u, rfl, ru⟩ := vals1 r1
  show wpAny _ _ (call (.ref C) [u]) _ _ _
  obtain ⟨hp, g, dr, tk, os⟩ := s1
  have hsz : hp.objs.size ≤ hp.objs.size + 1 := Nat.le_succ _
  generalize ea : hp.objs.size + 1 = a at hsz
  have hn : H1 a = none := I1.hok.fresh hsz
  have kk : ∀ b o, hp.get? b = some o → ((hp.push (PySem.W.kdv_tup [u])).push (PySem.HandSPX.excO C hp.objs.size)).get? b = some o := fun b o z => Heap.get?_push_of_some _ (Heap.get?_push_of_some _ z)
  have hget : ((hp.push (PySem.W.kdv_tup [u])).push (PySem.HandSPX.excO C hp.objs.size)).get? a = some (PySem.HandSPX.excO C hp.objs.size) := by subst ea; heap_get
  have I2 : Inv X pins σ (upd H1 a (exo a C none)) ⟨(hp.push (PySem.W.kdv_tup [u])).push (PySem.HandSPX.excO C hp.objs.size), g, dr, tk, os⟩ := I1.laid (t' := tk) (a := a) (o := exo a C none) kk hsz (exo_ok hget)
  have hKa : X.K.lookup a = none := by
    cases z : X.K.lookup a with
    | none => rfl
    | some o => exact absurd (Heap.lt_size (I1.kIn _ _ z)) (Nat.not_lt_of_le hsz)
  have call := PySem.HandSPX.call_own (rest := [u]) (A := X.A) (R := fun r s' => match r with | .ok (.ret v) => MkP X pins σ Q v s' | _ => False) (g := g) (d := dr) (t := tk) (os := os) PySem.F.excBase_ValueError (fun Y => PySem.HandSPX.refsVE_contains Y bm hbm) (I1.kIn _ _ hC) (PySem.W.looks_findIn I1.kIn iC) (fun self => PySem.W.bind_fn I1.kIn self tI) (show 1 ≤ sizeLine by decide)
    (sup_init (e := hp.objs.size + 1) (t0 := hp.objs.size) (f := f) (u := u) T iC (I2.env0.make C [u] []) (hr.make C [u] []).depth (by rw [ea]; exact hget) (by rw [ea]; exact hKa) fun h' tk' dx t1 kd dn dne hx hns => ?_)
  · refine wpAny_call (codeAny_mono call fun r s' z => ?_)
    split at z
    · exact z
    · exact z.elim
  rw [ea] at kd dne hx
  refine ⟨rfl, ?_⟩
  have hnd : H1 dx = none := I2.hok.fresh dn |> fun z => by rwa [upd_ne dne] at z
  have nd : ∀ {b : Addr} {o : Obj}, ((hp.push (PySem.W.kdv_tup [u])).push (PySem.HandSPX.excO C hp.objs.size)).get? b = some o → b ≠ dx := fun {b o} z => Nat.ne_of_lt (Nat.lt_of_lt_of_le (Heap.lt_size z) dn)
  have ea2 : upd H1 a (exo a C none) a = some (exo a C none) := upd_same
  have hnd2 : upd H1 a (exo a C none) dx = none := by rw [upd_ne dne]; exact hnd
  have na : ∀ {b : Addr}, upd H1 a (exo a C none) b = none → b ≠ a := fun {b} n z => by rw [z, upd_same] at n; cases n
  have un : Un (frs X.stack) [] (upd H1 a (exo a C none)) (upd (upd (upd H1 a (exo a C none)) dx (exd dx [(f, y)])) a (exo a C (some dx))) ((hp.push (PySem.W.kdv_tup [u])).push (PySem.HandSPX.excO C hp.objs.size)) h' := {
    keep := fun b o z n _ _ => kd b o (na n) z
    slot := fun b o z n _ _ => ⟨o.slots, kd b o (na n) z⟩
    free := fun b o z n _ => by rw [upd_ne (na n), upd_ne (nd z)]; exact n
    there := fun b o z _ => (Decidable.em (b = a)).elim (fun hb => ⟨_, hb ▸ hx⟩) fun hb => ⟨o, kd b o hb z⟩
    tups := fun b xs z => by rw [upd_ne (at_ne ea2 z exo_tup), upd_ne (ne_of_none z hnd2)]; exact z
    frzs := fun b o v z => by rw [upd_ne (at_ne ea2 z exo_frz), upd_ne (ne_of_none z hnd2)]; exact z
    tbls := fun b ps z => ⟨#[], by rw [upd_ne (at_ne ea2 z exo_tbl), upd_ne (ne_of_none z hnd2), z]; simp⟩ }
  have hok2 : HOk X.prog X.w (upd (upd (upd H1 a (exo a C none)) dx (exd dx [(f, y)])) a (exo a C (some dx))) h' := fun b o z => by
    by_cases hb : b = a
    · subst hb
      rw [upd_same] at z
      cases z
      exact exo_ok hx
    by_cases hd : b = dx
    · subst hd
      rw [upd_ne hb, upd_same] at z
      cases z
      exact exd_ok hns (relO_put (fs := []) ru fun g => True.intro)
    rw [upd_ne hb, upd_ne hd] at z
    refine (I2.hok b o z).stay (fun c v hc y2 => kd c v ?_ y2) (fun c hc => ?_) fun c xs hc => ?_
    · rcases hc with hc | hc
      · rw [hc]; exact hb
      · exact at_ne ea2 hc exo_own
    · rw [upd_ne (at_ne ea2 hc exo_own), upd_ne (ne_of_none hc hnd2)]; exact hc
    · rw [upd_ne (at_ne ea2 hc exo_tup), upd_ne (ne_of_none hc hnd2)]; exact hc
  have hfin : upd (del (upd (upd (upd H1 a (exo a C none)) dx (exd dx [(f, y)])) a (exo a C (some dx))) a) dx (.xd [(f, y)]) = upd H1 dx (.xd [(f, y)]) := by
    funext b
    by_cases hd : b = dx
    · subst hd; rw [upd_same, upd_same]
    rw [upd_ne hd, upd_ne hd]
    by_cases hb : b = a
    · subst hb; rw [del_same]; exact hn.symm
    rw [del_ne hb, upd_ne hb, upd_ne hd, upd_ne hb]
  show MkP X pins σ Q (.ref (hp.objs.size + 1)) _
  rw [ea]
  exact mk_end (raises_own exC tyC) I1 hsz kk un hok2 rfl I1.bare upd_same (by rw [upd_ne dne, upd_same]) hnd (by rw [hfin]; exact q1 dx hnd)
/-- isinstance(e, c), e the exception with a dict of its own that the suite holds -/
theorem call_isED {X : Cx} {a D dd : Addr} {oe : Obj} {pn : List (Addr × Obj)} (C : ExcC X.K D) (hz : Zc (.ref D) (some dd) oe) (hf : ∃ vs, oe.data = .fields vs) :
    CallR (X.suite a ((a, oe) :: pn)) (.builtin "isinstance") fun xs H Q => ∃ (c : V) (cv : Value) (fs : List (Str × V)) (b : Bool), xs = [.ref a, c] ∧ (∀ u, RelV c u → u = cv) ∧ H dd = some (.xd fs) ∧ PySem.W.kitOne X.K (.ref D) cv = some b ∧ Q (.bl b) H := by
  intro pins s σ H xs us Q I r h
  obtain ⟨c, cv, fs, b, rfl, hcv, hdd, e, q⟩ := h
  cases r with
  | cons rx rr =>
    cases rr with
    | cons rt rr =>
      cases rr
      cases rx
      have ec := hcv _ rt
      subst ec
      obtain ⟨hget, _⟩ := I.pin (a, oe) (List.mem_append.mpr (.inl List.mem_cons_self))
      obtain ⟨vs, hv⟩ := hf
      have hx : ObjOk X.prog X.w H s.heap dd (.xd fs) := I.hok dd _ hdd
      obtain ⟨mA, hns, _⟩ := hx
      obtain ⟨od, ho, _⟩ := lookIn_ns hns
      have J : PySem.W.InstAt s.heap a oe D (some od) := ⟨hget, hz.1, by unfold PySem.W.notCls; rw [hv] <;> rfl, by rw [hz.2]; exact ho⟩
      have hcl : (PySem.W.clsIn X.K D).isSome = true := by
        have := C.hd
        unfold PySem.W.hasDictIn at this
        cases z : PySem.W.clsIn X.K D with
        | none => rw [z] at this; cases this
        | some cd => rfl
      exact PySem.W.kia_one (PySem.W.kitx_exc hcl C.hg C.hk C.hs C.ha C.hn C.ht C.hm) I.kIn J e (fun z => nomatch z) fun tk => ⟨.bl b, H, I.kept (t' := tk) fun _ _ z => z, rfl, q⟩
end DI

/-! DI, part 6: the reading of a code that is looked at is right. -/
namespace DI
open L2
open PySem.Spec
open PyProof.Rows hiding St
open PySem

def btNames : List Str := ["len", "int", "str", "abs", "max", "min", "sum", "list", "tuple", "sorted", "all", "any", "isinstance", "repr", "bool", "dict", "range", "enumerate", "zip", "reversed", "super", "ValueError"]
structure Facts (P : Program) (w : World) (mg : Str → Option Value) (base : Heap) (m : Nat) (v : Ev) (fa : Nat → Addr) (t : CK) : Prop where
  fn : ∀ f, (f ∈ t.calls ∨ (∃ C nm, (C, f, nm) ∈ t.mths) ∨ ∃ C, (C, f) ∈ t.mks) → ∃ fd ps, FnG P w v.K mg base m (fa f) fd ps (v.sp f) ∧ Bnd v.K fd ps (t.kw f)
  calls : ∀ f ∈ t.calls, mg (t.fn f) = some (.ref (fa f)) ∧ PySem.W.keepIn v.K (.ref (fa f)) = true
  mths : ∀ q ∈ t.mths, Cls v.K (v.cls q.1) ∧ Meth v.K (v.cls q.1) q.2.2 (fa q.2.1)
  mks : ∀ q ∈ t.mks, mg (t.cn q.1) = some (.ref (v.cls q.1)) ∧ Mk v.K (v.cls q.1) (fa q.2)
  flds : ∀ q ∈ t.flds, Cls v.K (v.cls q.1) ∧ NoAttr v.K (v.cls q.1) q.2
  gls : ∀ i ∈ t.gls, ∃ u, mg (t.gn i) = some u ∧ RelV (v.gv i) u
  bts : ∀ x ∈ btNames, mg x = none
  exs : ∀ q ∈ t.exs, mg (t.cn q.1) = some (.ref (v.cls q.1)) ∧ ExCls P v.K (v.cls q.1) q.2 ∧ ExcC v.K (v.cls q.1)
  bss : ∀ C ∈ t.bases, mg (t.cn C) = some (.ref (v.cls C))
  vxs : v.exs = t.exs
  sysm : SysM base
theorem Facts.sc {P : Program} {w : World} {mg : Str → Option Value} {base : Heap} {m : Nat} {v : Ev} {fa : Nat → Addr} {t : CK} (F : Facts P w mg base m v fa t) (sc : Scope) (b : Bool) (l : List (Str × NameKind)) :
    Facts P w mg base m v fa { t with sc := sc, blk := b, bn := l } := ⟨F.fn, F.calls, F.mths, F.mks, F.flds, F.gls, F.bts, F.exs, F.bss, F.vxs, F.sysm⟩
theorem Facts.hot {P : Program} {w : World} {mg : Str → Option Value} {base : Heap} {m : Nat} {v : Ev} {fa : Nat → Addr} {t : CK} (F : Facts P w mg base m v fa t) (z : Option (Addr × Value × Option Addr)) :
    Facts P w mg base m { v with ex := z } fa { t with hot := true } := ⟨F.fn, F.calls, F.mths, F.mks, F.flds, F.gls, F.bts, F.exs, F.bss, F.vxs, F.sysm⟩

structure Ok (v : Ev) (fa : Nat → Addr) (m : Nat) (t : CK) (X : Cx) (W : WX) : Prop where
  F : Facts X.prog X.w X.mg X.base m v fa t
  K : v.K = X.K
  N : X.N = t.N
  sc : X.env.scope = t.sc
  nd : t.N.Nodup
  calm : t.hot = false → X.calm = true
  room : t.hot = false → RoomG (m + 1) X.A
  grd : X.A.guards = some []
  u65 : X.A.units + 65 < cLine
  tk : t.hot = false → Takes X W
  pas : PassesOwn (model X.prog X.w) X.A X.env X.xe
  fnc : t.blk = false → ∀ x, X.fn x = true
  own : t.blk = true → ∀ x, t.bn.lookup x = some .cell → X.fn x = true
  top : t.blk = false → X.stack = X.env :: X.outer ∧ X.env.frame = some X.env.locals
  suit : t.hot = true → ∃ (X0 : Cx) (a : Addr) (oe : Obj) (pn : List (Addr × Obj)) (cls : Value) (d : Option Addr), X = X0.suite a ((a, oe) :: pn) ∧ v.ex = some (a, cls, d) ∧ Zc cls d oe ∧ ∃ vs, oe.data = .fields vs

theorem PE.imp {X : Cx} {e : Expr} {t t' : TE} (h : PE X e t) (i : ∀ σ H Q, t' σ H Q → t σ H Q) : PE X e t' := ⟨fun pins s σ H Q I q => h.run pins s σ H Q I (i σ H Q q)⟩
theorem PT.imp {X : Cx} {e : Expr} {t t' : TT} (h : PT X e t) (i : ∀ σ H Q, t' σ H Q → t σ H Q) : PT X e t' := ⟨fun pins s σ H Q I q => h.run pins s σ H Q I (i σ H Q q)⟩
theorem PS.imp {X : Cx} {e : Stmt} {t t' : TS} (h : PS X e t) (i : ∀ D σ H, t' D σ H → t D σ H) : PS X e t' := ⟨fun pins s σ H D I q => h.run pins s σ H D I (i D σ H q)⟩
theorem tV_imp {i : Nat} {σ : L2.St} {H : Hp} {Q : VK} (h : tV i σ H Q) : tVar i σ H Q := by
  unfold tV at h
  split at h
  · exact ⟨_, by assumption, h⟩
  · exact h.elim

section
variable {v : Ev} {fa : Nat → Addr} {m : Nat} {t : CK} {X : Cx} {W : WX}
theorem Ok.gl (O : Ok v fa m t X W) {x : Str} (h : glB t.sc x = true) : Gl X x := by
  show X.env.scope.names.lookup x = some .globalImplicit
  rw [O.sc]
  exact of_decide_eq_true h
theorem Ok.bt (O : Ok v fa m t X W) {x : Str} (h : x ∈ btNames) : X.mg x = none := O.F.bts x h
theorem Ok.blk (O : Ok v fa m t X W) (hh : t.hot = false) {scope : Scope} {s : Shared} {H : Hp} {C : Addr} {cl : List (Str × Addr)} {fp : List Addr} :
    Ok v fa m { t with sc := relS scope t.sc, blk := true, bn := scope.names } (X.blk s H scope (compEnvC scope cl C X.env) fp) (fun _ _ _ _ => False) where
  F := O.F.sc _ _ _
  own := fun _ x h => by show (scope.names.lookup x == some .cell) = true; rw [h]; rfl
  K := O.K
  N := O.N
  sc := by
    have h := O.sc
    show relabel scope X.env = relS scope t.sc
    rw [← h]
    rfl
  nd := O.nd
  calm := O.calm
  room := O.room
  grd := O.grd
  u65 := O.u65
  tk := fun _ => takes0
  pas := PassesOwn.never
  fnc := fun h => by cases h
  top := fun h => by cases h
  suit := fun h => by rw [show t.hot = true from h] at hh; cases hh
theorem Ok.clsIn (O : Ok v fa m t X W) {C : Nat} (h : ((t.exs.any fun q => decide (q.1 = C)) || t.bases.contains C) = true) : X.mg (t.cn C) = some (.ref (v.cls C)) := by
  rw [Bool.or_eq_true] at h
  rcases h with h | h
  · rw [List.any_eq_true] at h
    obtain ⟨q, hq, e⟩ := h
    have e := of_decide_eq_true e
    rw [← e]
    exact (O.F.exs q hq).1
  · exact O.F.bss C (by simpa using h)
/-- the body of a try -/
theorem Ok.tr (O : Ok v fa m t X W) {W' : WX} {pn : List (Addr × Obj)} {xe : Value → Shared → Prop} (hh : t.hot = false) (tk : Takes (X.tr pn xe) W') (pa : PassesOwn (model X.prog X.w) X.A X.env xe) : Ok v fa m t (X.tr pn xe) W' where
  F := O.F
  K := O.K
  N := O.N
  sc := O.sc
  nd := O.nd
  calm := O.calm
  room := O.room
  grd := O.grd
  u65 := O.u65
  tk := fun _ => tk
  pas := pa
  fnc := O.fnc
  own := O.own
  top := O.top
  suit := fun h => by rw [h] at hh; cases hh
/-- an except suite -/
theorem Ok.suite (O : Ok v fa m t X W) {a : Addr} {oe : Obj} {cls : Value} {d : Option Addr} {pn : List (Addr × Obj)} (hz : Zc cls d oe) (hf : ∃ vs, oe.data = .fields vs) :
    Ok { v with ex := some (a, cls, d) } fa m { t with hot := true } (X.suite a ((a, oe) :: pn)) (fun _ _ _ _ => False) where
  F := O.F.hot _
  K := O.K
  N := O.N
  sc := O.sc
  nd := O.nd
  calm := fun h => by cases h
  room := fun h => by cases h
  grd := O.grd
  u65 := O.u65
  tk := fun h => by cases h
  pas := PassesOwn.never
  fnc := O.fnc
  own := O.own
  top := O.top
  suit := fun _ => ⟨X, a, oe, pn, cls, d, rfl, rfl, hz, hf⟩
theorem Ok.vis (O : Ok v fa m t X W) {x : Str} (h : visB t.sc x = true) : Vis X.env.scope x := by
  unfold visB at h
  simp only [Bool.or_eq_true, decide_eq_true_eq] at h
  unfold Vis
  rw [O.sc]
  rcases h with (h | h) | h
  · exact .inl h
  · exact .inr (.inl h)
  · exact .inr (.inr h)
theorem Ok.loc (O : Ok v fa m t X W) {x : Str} (h : locB t.sc x = true) : L2.Loc X.env.scope x := by
  unfold locB at h
  simp only [Bool.or_eq_true, decide_eq_true_eq] at h
  unfold L2.Loc
  rw [O.sc]
  exact h
theorem dbg1 {x : Str} (h : dbgB x = true) : (x == ("__debug__" : Str)) = false := by
  unfold dbgB at h
  simp only [Bool.and_eq_true, Bool.not_eq_true'] at h
  exact h.1
theorem dbg2 {x : Str} (h : dbgB x = true) : (x == ("__classdict__" : Str)) = false := by
  unfold dbgB at h
  simp only [Bool.and_eq_true, Bool.not_eq_true'] at h
  exact h.2
theorem bf_in (b : Bf) : b.name ∈ btNames := by cases b <;> decide +kernel
theorem ty_in : ∀ n ∈ tyNames, Str.ofString n ∈ btNames ∧ bootBuiltins (Str.ofString n) = some (.type n) ∧ Str.ofString n ≠ "__name__" ∧ (Str.ofString n == ("__debug__" : Str)) = false := by
  decide +kernel
theorem PW.or_one {a : Expr} {pos : Pos} {tA : TT} (h : PT X a tA) : PW X (.BoolOp .Or [a] pos) tA := pw_or1 h
theorem pe_lit {x : V} {k : Const} {j : Nat} {p : Pos} (h : litB x k = true) : PE X (.Constant k j p) (tC x) := by
  cases k <;> first
    | (cases h; done)
    | (have e := of_decide_eq_true h; subst e; first | exact pe_int | exact pe_bl | exact pe_str | exact pe_non)
/-- what is wanted of a truth value, as what is wanted of a value -/
def onBl (Q : Bool → Hp → Prop) : VK := fun z H => match z with
  | .bl b => Q b H
  | _ => False
theorem onBl_of {Q : Bool → Hp → Prop} {z : V} {H : Hp} (h : onBl Q z H) : ∃ b, z = .bl b ∧ Q b H := by
  unfold onBl at h
  split at h
  · exact ⟨_, rfl, h⟩
  · exact h.elim
theorem pt_cm {op : CmpOp} {a b : Expr} {pos : Pos} {ta tb : TE} {r : V → V → Hp → (Bool → Prop) → Prop} (hr : CmR X op r) (ha : PE X a ta) (hb : PE X b tb) (hm : nSet b = true) : PT X (.Compare a [op] [b] pos) (tCp r ta tb) := by
  refine ⟨fun pins s σ H Q I h => ?_⟩
  refine wpAny_isTrue_Compare1 (thn (ha.run pins s σ H _ I h) fun w1 s1 ⟨x, H1, I1, r1, q1⟩ => thn (hb.run pins s1 σ H1 _ I1 q1) fun w2 s2 ⟨y, H2, I2, r2, q2⟩ => ?_) (no_behind hm)
  refine thn (hr pins s2 σ H2 x y w1 w2 (onBl Q) I2 r1 r2 q2) fun c s3 ⟨z, H3, I3, r3, q3⟩ => ?_
  obtain ⟨b, e, q4⟩ := onBl_of q3
  subst e
  cases r3
  exact wpAny_truthy_bool ⟨H3, I3, q4⟩
theorem pe_ch {o1 o2 : CmpOp} {a b c : Expr} {pos : Pos} {ta tb tc : TE} {r r' : V → V → Hp → (Bool → Prop) → Prop} (hr : CmR X o1 r) (hr' : CmR X o2 r') (ha : PE X a ta) (hb : PE X b tb) (hc : PE X c tc) (hm : nSet c = true) :
    PE X (.Compare a [o1, o2] [b, c] pos) fun σ H Q => tCh r r' ta tb tc σ H fun k H1 => Q (.bl k) H1 := by
  refine ⟨fun pins s σ H Q I h => Compare_chain (thn (ha.run pins s σ H _ I h) fun w1 s1 ⟨x, H1, I1, r1, q1⟩ => chain_link ?_) (by show behindInMarks o2 c = false; exact no_behind hm)⟩
  refine thn (hb.run pins s1 σ H1 _ I1 q1) fun w2 s2 ⟨y, H2, I2, r2, q2⟩ => ?_
  refine thn (hr pins s2 σ H2 x y w1 w2 (onBl fun k H3 => if k = true then tc σ H3 fun z H4 => r' y z H4 fun k' => Q (.bl k') H4 else Q (.bl false) H3) I2 r1 r2 ?_) fun d s3 ⟨z, H3, I3, r3, q3⟩ => ?_
  · exact q2
  obtain ⟨k, e, q4⟩ := onBl_of q3
  subst e
  cases r3
  refine wpAny_truthy_bool ?_
  cases k with
  | false => exact ite_ff ⟨.bl false, H3, I3, rfl, q4⟩
  | true => exact ite_tt (chain_last (thn (hc.run pins s3 σ H3 _ I3 q4) fun w3 s4 ⟨z', H4, I4, r4, q5⟩ => hr' pins s4 σ H4 y z' w2 w3 Q I4 r2 r4 q5))
theorem pt_ch {o1 o2 : CmpOp} {a b c : Expr} {pos : Pos} {ta tb tc : TE} {r r' : V → V → Hp → (Bool → Prop) → Prop} (hr : CmR X o1 r) (hr' : CmR X o2 r') (ha : PE X a ta) (hb : PE X b tb) (hc : PE X c tc) (hm : nSet c = true) :
    PT X (.Compare a [o1, o2] [b, c] pos) (tCh r r' ta tb tc) := by
  refine ⟨fun pins s σ H Q I h => isTrue_chain (thn (ha.run pins s σ H _ I h) fun w1 s1 ⟨x, H1, I1, r1, q1⟩ => test_link ?_) (by show behindInMarks o2 c = false; exact no_behind hm)⟩
  refine thn (hb.run pins s1 σ H1 _ I1 q1) fun w2 s2 ⟨y, H2, I2, r2, q2⟩ => ?_
  refine thn (hr pins s2 σ H2 x y w1 w2 (onBl fun k H3 => if k = true then tc σ H3 fun z H4 => r' y z H4 fun k' => Q k' H4 else Q false H3) I2 r1 r2 ?_) fun d s3 ⟨z, H3, I3, r3, q3⟩ => ?_
  · exact q2
  obtain ⟨k, e, q4⟩ := onBl_of q3
  subst e
  cases r3
  refine wpAny_truthy_bool ?_
  cases k with
  | false => exact ite_ff ⟨H3, I3, q4⟩
  | true =>
    refine ite_tt (test_last (thn (hc.run pins s3 σ H3 _ I3 q4) fun w3 s4 ⟨z', H4, I4, r4, q5⟩ => thn (hr' pins s4 σ H4 y z' w2 w3 (onBl Q) I4 r2 r4 q5) fun d' s5 ⟨z2, H5, I5, r5, q6⟩ => ?_))
    obtain ⟨k', e', q7⟩ := onBl_of q6
    subst e'
    cases r5
    exact wpAny_truthy_bool ⟨H5, I5, q7⟩
theorem pe_ch3 {o1 o2 o3 : CmpOp} {a b c d : Expr} {pos : Pos} {ta tb tc td : TE} {r r' r'' : V → V → Hp → (Bool → Prop) → Prop} (hr : CmR X o1 r) (hr' : CmR X o2 r') (hr2 : CmR X o3 r'') (ha : PE X a ta) (hb : PE X b tb) (hc : PE X c tc) (hd : PE X d td) (hm : nSet d = true) :
    PE X (.Compare a [o1, o2, o3] [b, c, d] pos) fun σ H Q => tCh3 r r' r'' ta tb tc td σ H fun k H1 => Q (.bl k) H1 := by
  refine ⟨fun pins s σ H Q I h => Compare_chain (thn (ha.run pins s σ H _ I h) fun w1 s1 ⟨x, H1, I1, r1, q1⟩ => chain_link ?_) (by show behindInMarks o3 d = false; exact no_behind hm)⟩
  refine thn (hb.run pins s1 σ H1 _ I1 q1) fun w2 s2 ⟨y, H2, I2, r2, q2⟩ => ?_
  refine thn (hr pins s2 σ H2 x y w1 w2 (onBl fun k H3 => if k = true then tc σ H3 fun z H4 => r' y z H4 fun k' => if k' = true then td σ H4 fun u H5 => r'' z u H5 fun k2 => Q (.bl k2) H5 else Q (.bl false) H4 else Q (.bl false) H3) I2 r1 r2 q2) fun e s3 ⟨z0, H3, I3, r3, q3⟩ => ?_
  obtain ⟨k, e1, q4⟩ := onBl_of q3
  subst e1
  cases r3
  refine wpAny_truthy_bool ?_
  cases k with
  | false => exact ite_ff ⟨.bl false, H3, I3, rfl, q4⟩
  | true =>
    refine ite_tt (chain_link (thn (hc.run pins s3 σ H3 _ I3 q4) fun w3 s4 ⟨z, H4, I4, r4, q5⟩ => ?_))
    refine thn (hr' pins s4 σ H4 y z w2 w3 (onBl fun k' H5 => if k' = true then td σ H5 fun u H6 => r'' z u H6 fun k2 => Q (.bl k2) H6 else Q (.bl false) H5) I4 r2 r4 q5) fun e s5 ⟨z2, H5, I5, r5, q6⟩ => ?_
    obtain ⟨k', e2, q7⟩ := onBl_of q6
    subst e2
    cases r5
    refine wpAny_truthy_bool ?_
    cases k' with
    | false => exact ite_ff ⟨.bl false, H5, I5, rfl, q7⟩
    | true => exact ite_tt (chain_last (thn (hd.run pins s5 σ H5 _ I5 q7) fun w4 s6 ⟨u, H6, I6, r6, q8⟩ => hr2 pins s6 σ H6 z u w3 w4 Q I6 r4 r6 q8))
theorem pt_ch3 {o1 o2 o3 : CmpOp} {a b c d : Expr} {pos : Pos} {ta tb tc td : TE} {r r' r'' : V → V → Hp → (Bool → Prop) → Prop} (hr : CmR X o1 r) (hr' : CmR X o2 r') (hr2 : CmR X o3 r'') (ha : PE X a ta) (hb : PE X b tb) (hc : PE X c tc) (hd : PE X d td) (hm : nSet d = true) :
    PT X (.Compare a [o1, o2, o3] [b, c, d] pos) (tCh3 r r' r'' ta tb tc td) := by
  refine ⟨fun pins s σ H Q I h => isTrue_chain (thn (ha.run pins s σ H _ I h) fun w1 s1 ⟨x, H1, I1, r1, q1⟩ => test_link ?_) (by show behindInMarks o3 d = false; exact no_behind hm)⟩
  refine thn (hb.run pins s1 σ H1 _ I1 q1) fun w2 s2 ⟨y, H2, I2, r2, q2⟩ => ?_
  refine thn (hr pins s2 σ H2 x y w1 w2 (onBl fun k H3 => if k = true then tc σ H3 fun z H4 => r' y z H4 fun k' => if k' = true then td σ H4 fun u H5 => r'' z u H5 fun k2 => Q k2 H5 else Q false H4 else Q false H3) I2 r1 r2 q2) fun e s3 ⟨z0, H3, I3, r3, q3⟩ => ?_
  obtain ⟨k, e1, q4⟩ := onBl_of q3
  subst e1
  cases r3
  refine wpAny_truthy_bool ?_
  cases k with
  | false => exact ite_ff ⟨H3, I3, q4⟩
  | true =>
    refine ite_tt (test_link (thn (hc.run pins s3 σ H3 _ I3 q4) fun w3 s4 ⟨z, H4, I4, r4, q5⟩ => ?_))
    refine thn (hr' pins s4 σ H4 y z w2 w3 (onBl fun k' H5 => if k' = true then td σ H5 fun u H6 => r'' z u H6 fun k2 => Q k2 H6 else Q false H5) I4 r2 r4 q5) fun e s5 ⟨z2, H5, I5, r5, q6⟩ => ?_
    obtain ⟨k', e2, q7⟩ := onBl_of q6
    subst e2
    cases r5
    refine wpAny_truthy_bool ?_
    cases k' with
    | false => exact ite_ff ⟨H5, I5, q7⟩
    | true =>
      refine ite_tt (test_last (thn (hd.run pins s5 σ H5 _ I5 q7) fun w4 s6 ⟨u, H6, I6, r6, q8⟩ => thn (hr2 pins s6 σ H6 z u w3 w4 (onBl Q) I6 r4 r6 q8) fun e s7 ⟨z3, H7, I7, r7, q9⟩ => ?_))
      obtain ⟨k2, e3, q10⟩ := onBl_of q9
      subst e3
      cases r7
      exact wpAny_truthy_bool ⟨H7, I7, q10⟩
/-- and, or as values -/
theorem tIfV_imp {ta : TE} {f : Bool → L2.St → Hp → VK → Prop} {σ : L2.St} {H : Hp} {Q : VK} {pins : List (Addr × Obj)} {s : Shared} {e : Expr} (he : PE X e ta) (I : Inv X pins σ H s) (h : tIfV ta f σ H Q) :
    wpAny (model X.prog X.w) X.A (eval e X.env) (fun u s' => ∃ k H', Inv X pins σ H' s' ∧ u = Value.bool k ∧ f k σ H' Q) X.xe s := by
  refine thn (he.run pins s σ H _ I h) fun u s1 ⟨x, H1, I1, r1, q1⟩ => ?_
  dsimp only at q1
  split at q1
  · exact ⟨_, H1, I1, r1, q1⟩
  · exact q1.elim
theorem pe_andA {a b : Expr} {rest : List Expr} {pos : Pos} {ta tb : TE} (ha : PE X a ta) (hb : PE X (.BoolOp .And (b :: rest) pos) tb) :
    PE X (.BoolOp .And (a :: b :: rest) pos) (tIfV ta fun k σ H Q => if k = true then tb σ H Q else Q (.bl false) H) := by
  refine ⟨fun pins s σ H Q I h => BoolOp_and (thn (tIfV_imp ha I h) fun u s1 ⟨k, H1, I1, e, q1⟩ => ?_)⟩
  subst e
  refine wpAny_truthy_bool ?_
  cases k with
  | true => exact hb.run pins s1 σ H1 Q I1 q1
  | false => exact ⟨.bl false, H1, I1, rfl, q1⟩
theorem pe_orA {a b : Expr} {rest : List Expr} {pos : Pos} {ta tb : TE} (ha : PE X a ta) (hb : PE X (.BoolOp .Or (b :: rest) pos) tb) :
    PE X (.BoolOp .Or (a :: b :: rest) pos) (tIfV ta fun k σ H Q => if k = true then Q (.bl true) H else tb σ H Q) := by
  refine ⟨fun pins s σ H Q I h => BoolOp_or (thn (tIfV_imp ha I h) fun u s1 ⟨k, H1, I1, e, q1⟩ => ?_)⟩
  subst e
  refine wpAny_truthy_bool ?_
  cases k with
  | false => exact hb.run pins s1 σ H1 Q I1 q1
  | true => exact ⟨.bl true, H1, I1, rfl, q1⟩
theorem pe_notA {a : Expr} {pos : Pos} {ta : TE} (ha : PE X a ta) : PE X (.UnaryOp .Not a pos) (tIfV ta fun k _ H Q => Q (.bl (!k)) H) := by
  refine ⟨fun pins s σ H Q I h => UnaryOp_ (thn (tIfV_imp ha I h) fun u s1 ⟨k, H1, I1, e, q1⟩ => ?_)⟩
  subst e
  exact not_of (wpAny_truthy_bool ⟨.bl (!k), H1, I1, rfl, q1⟩)
theorem PI.or {tg it : Expr} {w1 w2 : TI} (h1 : PI X tg it w1) (h2 : PI X tg it w2) : PI X tg it fun σ H R => w1 σ H R ∨ w2 σ H R :=
  ⟨fun pins s σ H R I h => h.elim (fun h => h1.run pins s σ H R I h) fun h => h2.run pins s σ H R I h⟩
theorem gs_len : ∀ {c : Tgs} {t : CK} {l : List Expr} {env : Env}, c.chk t l = true → (assignEach l env).length = c.len ∧ (assignEach l env).findIdx? (·.1) = none
  | .nil, _, [], _, _ => ⟨rfl, rfl⟩
  | .nil, _, _ :: _, _, h => by cases h
  | .cons a r, _, [], _, h => by cases h
  | .cons a r, t, e :: es, env, h => by
    simp only [Tgs.chk, Bool.and_eq_true] at h
    obtain ⟨h1, h2⟩ := gs_len (env := env) h.2
    rw [assign_cons h.1.1]
    refine ⟨?_, ?_⟩
    · show (assignEach es env).length + 1 = r.len + 1
      rw [h1]
    · rw [List.findIdx?_cons]
      simp [h2]
end
end DI

/-! DI, part 7: soundness of the reading. -/
namespace DI
open L2
open PySem.Spec
open PyProof.Rows hiding St
open PySem

section
variable {v : Ev} {fa : Nat → Addr} {m : Nat}

theorem all_tail {e : Expr} {es : List Expr} (h : (e :: es).all nStar = true) : nStar e = true ∧ es.all nStar = true := by
  rw [List.all_cons, Bool.and_eq_true] at h
  exact h
theorem kw_nil {l : List Str} (h : l.isEmpty = true) : l = [] := by simpa using h
theorem hotF {t : CK} (h : (!t.hot) = true) : t.hot = false := by simpa using h
theorem ok_calls {t : CK} {X : Cx} {W : WX} (O : Ok v fa m t X W) {f : Nat} (h : t.calls.contains f = true) :
    ∃ fd ps, FnG X.prog X.w X.K X.mg X.base m (fa f) fd ps (v.sp f) ∧ Bnd X.K fd ps (t.kw f) ∧ X.mg (t.fn f) = some (.ref (fa f)) ∧ PySem.W.keepIn X.K (.ref (fa f)) = true := by
  have hf : f ∈ t.calls := by simpa using h
  obtain ⟨fd, ps, F, b⟩ := O.F.fn f (.inl hf)
  have c := O.F.calls f hf
  rw [O.K] at F b c
  exact ⟨fd, ps, F, b, c.1, c.2⟩
theorem ok_call {t : CK} {X : Cx} {W : WX} (O : Ok v fa m t X W) {f : Nat} (h : t.cl f = true) :
    ∃ fd ps, FnG X.prog X.w X.K X.mg X.base m (fa f) fd ps (v.sp f) ∧ Binds X.K fd ps [] ∧ X.mg (t.fn f) = some (.ref (fa f)) ∧ PySem.W.keepIn X.K (.ref (fa f)) = true := by
  unfold CK.cl at h
  rw [Bool.and_eq_true] at h
  obtain ⟨fd, ps, F, b, c⟩ := ok_calls O h.1
  rw [kw_nil h.2] at b
  exact ⟨fd, ps, F, b.plain, c⟩
theorem ok_meth {t : CK} {X : Cx} {W : WX} (O : Ok v fa m t X W) {C f : Nat} {nm : Str} (h : t.mt C f nm = true) :
    ∃ fd ps, FnG X.prog X.w X.K X.mg X.base m (fa f) fd ps (v.sp f) ∧ Binds X.K fd ps [] ∧ Cls X.K (v.cls C) ∧ Meth X.K (v.cls C) nm (fa f) := by
  unfold CK.mt at h
  rw [Bool.and_eq_true] at h
  have hf : (C, f, nm) ∈ t.mths := by simpa using h.1
  obtain ⟨fd, ps, F, b⟩ := O.F.fn f (.inr (.inl ⟨C, nm, hf⟩))
  have c := O.F.mths _ hf
  rw [O.K] at F b c
  rw [kw_nil h.2] at b
  exact ⟨fd, ps, F, b.plain, c.1, c.2⟩
theorem ok_mk {t : CK} {X : Cx} {W : WX} (O : Ok v fa m t X W) {C f : Nat} (h : t.mkq C f = true) :
    ∃ fd ps, FnG X.prog X.w X.K X.mg X.base m (fa f) fd ps (v.sp f) ∧ Binds X.K fd ps [] ∧ X.mg (t.cn C) = some (.ref (v.cls C)) ∧ Mk X.K (v.cls C) (fa f) := by
  unfold CK.mkq at h
  rw [Bool.and_eq_true] at h
  have hf : (C, f) ∈ t.mks := by simpa using h.1
  obtain ⟨fd, ps, F, b⟩ := O.F.fn f (.inr (.inr ⟨C, hf⟩))
  have c := O.F.mks _ hf
  rw [O.K] at F b c
  rw [kw_nil h.2] at b
  exact ⟨fd, ps, F, b.plain, c.1, c.2⟩
theorem ok_fld {t : CK} {X : Cx} {W : WX} (O : Ok v fa m t X W) {C : Nat} {f : Str} (h : t.flds.contains (C, f) = true) : Cls X.K (v.cls C) ∧ NoAttr X.K (v.cls C) f := by
  have hf : (C, f) ∈ t.flds := by simpa using h
  have c := O.F.flds _ hf
  rw [O.K] at c
  exact c

theorem kw_names {kws : List Keyword} {ks : List Str} {pos : Pos} {env : Env} (h : kws.map (·.arg) = ks.map some) :
    (backToKw pos (keywordEach kws env)).all (·.1.isSome) = true ∧ (backToKw pos (keywordEach kws env)).filterMap (·.1) = ks ∧ (backToKw pos (keywordEach kws env)).any (·.1.isNone) = false := by
  induction kws generalizing ks with
  | nil =>
    cases ks with
    | nil => exact ⟨rfl, rfl, rfl⟩
    | cons a r => cases h
  | cons k r ih =>
    obtain ⟨nm, val, kp⟩ := k
    cases ks with
    | nil => cases h
    | cons a r' =>
      rw [List.map_cons, List.map_cons] at h
      injection h with h1 h2
      have h1 : nm = some a := h1
      subst h1
      obtain ⟨i1, i2, i3⟩ := ih h2
      refine ⟨?_, ?_, ?_⟩
      · show (true && (backToKw pos (keywordEach r env)).all (·.1.isSome)) = true
        rw [i1]; rfl
      · show a :: (backToKw pos (keywordEach r env)).filterMap (·.1) = _
        rw [i2]
      · show (false || (backToKw pos (keywordEach r env)).any (·.1.isNone)) = false
        rw [i3]; rfl
theorem Xps.len_chk : ∀ {c : Xps} {t : CK} {l : List Expr}, c.chk t l = true → l.length = c.len
  | .nil, _, [], _ => rfl
  | .nil, _, _ :: _, h => by cases h
  | .cons a r, t, [], h => by cases h
  | .cons a r, t, e :: es, h => by
    simp only [Xps.chk, Bool.and_eq_true] at h
    show es.length + 1 = r.len + 1
    rw [Xps.len_chk h.2]
theorem PT.pwB {X : Cx} {op : BoolOp} {l : List Expr} {pos : Pos} {t : TT} (h : PT X (.BoolOp op l pos) t) : PW X (.BoolOp op l pos) t := ⟨fun w pins s σ H Q I q => h.run pins s σ H Q I q⟩

inductive PEs (X : Cx) : List Expr → List TE → Prop
  | nil : PEs X [] []
  | cons {e : Expr} {es : List Expr} {t : TE} {ts : List TE} (h : PE X e t) (r : PEs X es ts) : PEs X (e :: es) (t :: ts)
theorem pps_of {X : Cx} {pos : Pos} : ∀ {keys : List (Option Expr)} {values : List Expr} {tk tv : List TE}, allSome keys = true → keys.length = values.length → PEs X (somes keys) tk → PEs X values tv → PPs X pos keys values (tk.zip tv)
  | [], [], _, _, _, _, .nil, .nil => pps_nil
  | [], _ :: _, _, _, _, h, _, _ => by cases h
  | _ :: _, [], _, _, _, h, _, _ => by cases h
  | none :: ks, y :: ys, _, _, h, _, _, _ => by cases h
  | some k :: ks, y :: ys, _, _, h, hl, .cons a r, .cons b r' => by
    refine pps_cons a b (pps_of ?_ (by simpa using hl) r r')
    unfold allSome at h ⊢
    simpa using h
set_option maxHeartbeats 2000000 in
mutual
theorem Xp.sound : ∀ (c : Xp) {t : CK} {e : Expr} {X : Cx} {W : WX}, Ok v fa m t X W → c.chk t e = true → PE X e (c.den v W)
  | .v i, t, e, X, W, O, h => by
    simp only [Xp.chk] at h
    split at h
    · simp only [Bool.and_eq_true, decide_eq_true_eq] at h
      exact PE.imp (pe_var (by rw [O.N]; exact h.1.1) (O.vis h.1.2) (dbg1 h.2) (dbg2 h.2)) fun σ H Q => tV_imp
    · cases h
  | .c x, t, e, X, W, O, h => by
    simp only [Xp.chk] at h
    split at h
    · exact pe_lit h
    · cases h
  | .g i, t, e, X, W, O, h => by
    simp only [Xp.chk] at h
    split at h
    · simp only [Bool.and_eq_true, decide_eq_true_eq] at h
      obtain ⟨⟨⟨h1, h2⟩, h3⟩, h4⟩ := h
      obtain ⟨u, hu, ru⟩ := O.F.gls i (by simpa using h2)
      rw [← h1] at hu
      exact pe_glob (O.gl h3) hu ru (dbg1 h4)
    · cases h
  | .ty n, t, e, X, W, O, h => by
    simp only [Xp.chk] at h
    split at h
    · simp only [Bool.and_eq_true, decide_eq_true_eq] at h
      obtain ⟨⟨h1, h2⟩, h3⟩ := h
      subst h1
      obtain ⟨b1, b2, b3, b4⟩ := ty_in n (by simpa using h2)
      exact pe_bltn (O.gl h3) (O.bt b1) b2 rfl b3 b4
    · cases h
  | .bin op a b, t, e, X, W, O, h => by
    simp only [Xp.chk] at h
    split at h
    · simp only [Bool.and_eq_true, decide_eq_true_eq] at h
      obtain ⟨⟨h1, h2⟩, h3⟩ := h
      subst h1
      exact pe_op (opBin O.K _) (Xp.sound a O h2) (Xp.sound b O h3)
    · cases h
  | .neg a, t, e, X, W, O, h => by
    simp only [Xp.chk] at h
    split at h
    · exact pe_un un_neg (Xp.sound a O h)
    · cases h
  | .cmp op a b, t, e, X, W, O, h => by
    simp only [Xp.chk] at h
    split at h
    · simp only [Bool.and_eq_true, decide_eq_true_eq] at h
      obtain ⟨⟨⟨h1, h2⟩, h3⟩, h4⟩ := h
      subst h1
      exact pe_cmpR (cmAll O.K O.u65 _) (Xp.sound a O h3) (Xp.sound b O h4) (no_behind h2)
    · cases h
  | .chn o1 o2 a b c, t, e, X, W, O, h => by
    simp only [Xp.chk] at h
    split at h
    · simp only [Bool.and_eq_true, decide_eq_true_eq] at h
      obtain ⟨⟨⟨⟨⟨h1, h2⟩, h3⟩, h4⟩, h5⟩, h6⟩ := h
      subst h1 h2
      exact pe_ch (cmAll O.K O.u65 _) (cmAll O.K O.u65 _) (Xp.sound a O h4) (Xp.sound b O h5) (Xp.sound c O h6) h3
    · cases h
  | .and a b, t, e, X, W, O, h => by
    simp only [Xp.chk] at h
    split at h
    · simp only [Bool.and_eq_true, decide_eq_true_eq] at h
      exact pe_andA (Xp.sound a O h.1) (pe_one (Xp.sound b O h.2))
    · simp only [Bool.and_eq_true, decide_eq_true_eq] at h
      exact pe_andA (Xp.sound a O h.1) (Xp.sound b O h.2)
    · cases h
  | .or a b, t, e, X, W, O, h => by
    simp only [Xp.chk] at h
    split at h
    · simp only [Bool.and_eq_true, decide_eq_true_eq] at h
      exact pe_orA (Xp.sound a O h.1) (pe_one (Xp.sound b O h.2))
    · simp only [Bool.and_eq_true, decide_eq_true_eq] at h
      exact pe_orA (Xp.sound a O h.1) (Xp.sound b O h.2)
    · cases h
  | .not a, t, e, X, W, O, h => by
    simp only [Xp.chk] at h
    split at h
    · exact pe_notA (Xp.sound a O h)
    · cases h
  | .ite c a b, t, e, X, W, O, h => by
    simp only [Xp.chk] at h
    split at h
    · simp only [Bool.and_eq_true, decide_eq_true_eq] at h
      obtain ⟨⟨h1, h2⟩, h3⟩ := h
      exact pe_ifExp (Tt.sound c O h1) (Xp.sound a O h2) (Xp.sound b O h3)
    · cases h
  | .tup es, t, e, X, W, O, h => by
    simp only [Xp.chk] at h
    split at h
    · exact pe_tup (Xps.sound es O h)
    · cases h
  | .lst es, t, e, X, W, O, h => by
    simp only [Xp.chk] at h
    split at h
    · exact pe_lst (Xps.sound es O h)
    · cases h
  | .dct0, t, e, X, W, O, h => by
    simp only [Xp.chk] at h
    split at h
    · exact pe_dnewK
    · cases h
  | .dctT0, t, e, X, W, O, h => by
    simp only [Xp.chk] at h
    split at h
    · exact pe_dnewT
    · cases h
  | .dct ks vs, t, e, X, W, O, h => by
    simp only [Xp.chk] at h
    split at h
    · rename_i keys values pos
      simp only [Bool.and_eq_true, decide_eq_true_eq] at h
      obtain ⟨⟨⟨⟨⟨h1, h2⟩, h3⟩, h4⟩, h5⟩, h6⟩ := h
      exact pe_disp (pps_of h1 h6 (Xps.soundD ks O h4) (Xps.soundD vs O h5)) h1 h6 h2 h3
    · cases h
  | .dget d k x, t, e, X, W, O, h => by
    simp only [Xp.chk] at h
    split at h
    · rename_i r m ap l1 l2 p
      simp only [Bool.and_eq_true, decide_eq_true_eq] at h
      obtain ⟨⟨⟨⟨⟨⟨⟨h1, h2⟩, h3⟩, h4⟩, h5⟩, h6⟩, h7⟩, h8⟩ := h
      subst h1
      refine pe_dget2 (Nat.lt_of_le_of_lt (Nat.add_le_add_left (by decide : 1 ≤ 65) _) O.u65) (Xp.sound d O h6) (Xp.sound k O h7) (Xp.sound x O h8) ⟨attr_plain h2 _ _ _, ?_, h3, by rw [starEach_cons h4, starEach_cons h5]; rfl⟩
      rw [backTo_all (by rw [List.all_cons, List.all_cons, h4, h5]; rfl)]
      rfl
    · cases h
  | .lrg1 a, t, e, X, W, O, h => by
    simp only [Xp.chk] at h
    split at h
    · simp only [Bool.and_eq_true, decide_eq_true_eq] at h
      obtain ⟨⟨⟨⟨⟨⟨h0, h1⟩, h2⟩, h3⟩, h4⟩, h5⟩, h6⟩ := h
      subst h1 h2
      exact pe_listRg (O.calm (hotF h0)) (O.gl h3) (O.bt (by decide +kernel)) (prg_1 (O.gl h4) (O.bt (by decide +kernel)) (Xp.sound a O h6) (starEach_cons h5 _ _)) (starEach_cons rfl _ _)
    · cases h
  | .lrg2 a b, t, e, X, W, O, h => by
    simp only [Xp.chk] at h
    split at h
    · simp only [Bool.and_eq_true, decide_eq_true_eq] at h
      obtain ⟨⟨⟨⟨⟨⟨⟨⟨h0, h1⟩, h2⟩, h3⟩, h4⟩, h5⟩, h6⟩, h7⟩, h8⟩ := h
      subst h1 h2
      exact pe_listRg (O.calm (hotF h0)) (O.gl h3) (O.bt (by decide +kernel)) (prg_2 (O.gl h4) (O.bt (by decide +kernel)) (Xp.sound a O h7) (Xp.sound b O h8) (starEach_cons h5 _ _) (starEach_cons h6 _ _) (backTo_any (by rw [List.all_cons, h6]; rfl))) (starEach_cons rfl _ _)
    · cases h
  | .chn3 o1 o2 o3 a b c d, t, e, X, W, O, h => by
    simp only [Xp.chk] at h
    split at h
    · simp only [Bool.and_eq_true, decide_eq_true_eq] at h
      obtain ⟨⟨⟨⟨⟨⟨⟨h1, h2⟩, h2'⟩, h3⟩, h4⟩, h5⟩, h6⟩, h7⟩ := h
      subst h1 h2 h2'
      exact pe_ch3 (cmAll O.K O.u65 _) (cmAll O.K O.u65 _) (cmAll O.K O.u65 _) (Xp.sound a O h4) (Xp.sound b O h5) (Xp.sound c O h6) (Xp.sound d O h7) h3
    · cases h
  | .ef i f, t, e, X, W, O, h => by
    simp only [Xp.chk] at h
    split at h
    · rename_i x p1 m p2
      simp only [Bool.and_eq_true, decide_eq_true_eq] at h
      obtain ⟨⟨⟨⟨h1, h2⟩, h3⟩, h4⟩, h5⟩ := h
      subst h1
      have pv : PE X (.Name x p1) (tVar i) := pe_var (by rw [O.N]; exact h3) (O.vis h4) (dbg1 h5) (dbg2 h5)
      obtain ⟨X0, a0, oe, pn, cls, d, eX, ev, hz, hf⟩ := O.suit h2
      subst eX
      refine ⟨fun pins s σ H Q I q => ?_⟩
      obtain ⟨a, dd, j, fs, z, e1, hj, hs, hd, hl, q⟩ := q
      rw [ev] at e1
      cases e1
      rw [O.F.vxs] at hj
      obtain ⟨_, E, _⟩ := O.F.exs _ hj
      have E : ExCls X0.prog v.K (v.cls j) m := E
      rw [O.K] at E
      exact (pe_xf (X := X0) (C := v.cls j) E.xf E.no hz hf pv (by rfl)).run pins s σ H Q I ⟨.ref a0, hs, rfl, rfl, dd, fs, z, rfl, hd, hl, q⟩
    · cases h
  | .ei i C, t, e, X, W, O, h => by
    simp only [Xp.chk] at h
    split at h
    · rename_i n1 p0 x p1 c p2 p3
      simp only [Bool.and_eq_true, decide_eq_true_eq] at h
      obtain ⟨⟨⟨⟨⟨⟨⟨⟨⟨h1, h2⟩, h3⟩, h4⟩, h5⟩, h6⟩, h7⟩, h8⟩, h9⟩, h10⟩ := h
      subst h1 h7
      have hmc : X.mg (t.cn C) = some (.ref (v.cls C)) := by
        rw [Bool.or_eq_true] at h10
        rcases h10 with h10 | h10
        · rw [List.any_eq_true] at h10
          obtain ⟨q, hq, e⟩ := h10
          have e := of_decide_eq_true e
          rw [← e]
          exact (O.F.exs q hq).1
        · exact O.F.bss C (by simpa using h10)
      have pv : PE X (.Name x p1) (tVar i) := pe_var (by rw [O.N]; exact h4) (O.vis h5) (dbg1 h6) (dbg2 h6)
      have pc : PE X (.Name (t.cn C) p2) (tC (.ref (v.cls C))) := pe_glob (O.gl h8) hmc rfl (dbg1 h9)
      obtain ⟨X0, a0, oe, pn, cls, d, eX, ev, hz, hf⟩ := O.suit h3
      subst eX
      refine ⟨fun pins s σ H Q I q => ?_⟩
      obtain ⟨a, dd, j, f, fs, b, e1, hj, hs, hd, hk, q⟩ := q
      rw [ev] at e1
      cases e1
      rw [O.F.vxs] at hj
      obtain ⟨_, _, E⟩ := O.F.exs _ hj
      have hK : v.K = X0.K := O.K
      rw [hK] at E hk
      refine (pe_callB (call_isED E hz hf) (O.gl h2) (O.bt (by decide +kernel)) (by decide +kernel) (pa_cons pv (pa_cons pc pa_nil (starEach_cons rfl _ _)) (starEach_cons rfl _ _)) (by decide +kernel) (by decide +kernel) (starEach_cons rfl _ _) (backTo_any rfl)).run pins s σ H Q I ?_
      exact ⟨.ref a0, hs, .ref (v.cls C), .ref (v.cls C), fs, b, rfl, fun u hu => hu, hd, hk, q⟩
    · cases h
  | .eib i n, t, e, X, W, O, h => by
    simp only [Xp.chk] at h
    split at h
    · rename_i n1 p0 x p1 c p2 p3
      simp only [Bool.and_eq_true, decide_eq_true_eq] at h
      obtain ⟨⟨⟨⟨⟨⟨⟨⟨h1, h2⟩, h3⟩, h4⟩, h5⟩, h6⟩, h7⟩, h8⟩, h9⟩ := h
      subst h1 h7 h9
      have pv : PE X (.Name x p1) (tVar i) := pe_var (by rw [O.N]; exact h4) (O.vis h5) (dbg1 h6) (dbg2 h6)
      have pc : PE X (.Name (Str.ofString "ValueError") p2) (tC (.ty "ValueError")) := pe_bltn (O.gl h8) (O.bt (by decide +kernel)) (by decide +kernel) rfl (by decide +kernel) (by decide +kernel)
      obtain ⟨X0, a0, oe, pn, cls, d, eX, ev, hz, hf⟩ := O.suit h3
      subst eX
      refine ⟨fun pins s σ H Q I q => ?_⟩
      obtain ⟨a, dd, j, f, fs, b, e1, hj, hs, hd, hk, q⟩ := q
      rw [ev] at e1
      cases e1
      rw [O.F.vxs] at hj
      obtain ⟨_, _, E⟩ := O.F.exs _ hj
      have hK : v.K = X0.K := O.K
      rw [hK] at E hk
      refine (pe_callB (call_isED E hz hf) (O.gl h2) (O.bt (by decide +kernel)) (by decide +kernel) (pa_cons pv (pa_cons pc pa_nil (starEach_cons rfl _ _)) (starEach_cons rfl _ _)) (by decide +kernel) (by decide +kernel) (starEach_cons rfl _ _) (backTo_any rfl)).run pins s σ H Q I ?_
      exact ⟨.ref a0, hs, .ty "ValueError", .type "ValueError", fs, b, rfl, fun u hu => hu, hd, hk, q⟩
    · cases h
  | .ix a i, t, e, X, W, O, h => by
    simp only [Xp.chk] at h
    split at h
    · simp only [Bool.and_eq_true, decide_eq_true_eq] at h
      obtain ⟨⟨h1, h2⟩, h3⟩ := h
      exact pe_ix (ixAll O.K (Nat.lt_of_le_of_lt (Nat.add_le_add_left (by decide : 1 ≤ 65) _) O.u65)) (Xp.sound a O h1) (Xp.sound i O h2) fun o i => subs_plain h3 o i
    · cases h
  | .sl a lo hi, t, e, X, W, O, h => by
    simp only [Xp.chk] at h
    split at h
    · simp only [Bool.and_eq_true, decide_eq_true_eq] at h
      obtain ⟨⟨h1, h2⟩, h3⟩ := h
      exact pe_slice (slAll O.K) (Xp.sound a O h1) (Xpo.sound lo O h2) (Xpo.sound hi O h3)
    · cases h
  | .rev a, t, e, X, W, O, h => by
    simp only [Xp.chk] at h
    split at h
    · refine ⟨fun pins s σ H Q I q => (pe_revL (Xp.sound a O h)).run pins s σ H Q I ?_⟩
      rw [← O.K]
      exact q
    · cases h
  | .fld C o f, t, e, X, W, O, h => by
    simp only [Xp.chk] at h
    split at h
    · simp only [Bool.and_eq_true, decide_eq_true_eq] at h
      obtain ⟨⟨⟨h1, h2⟩, h3⟩, h4⟩ := h
      subst h1
      obtain ⟨c, n⟩ := ok_fld O h2
      refine ⟨fun pins s σ H Q I q => attr_of (attr_plain h3 _ _ _) (thn ((Xp.sound o O h4).run pins s σ H _ I q) fun u s1 ⟨x, H1, I1, rx, a, dx, fs, w, ex, ea, l, q1⟩ => ?_)⟩
      subst ex
      cases rx
      exact getattr_ok I1 ea c n l fun u' s2 I2 ru => ⟨w, H1, I2, ru, q1⟩
    · cases h
  | .call f es, t, e, X, W, O, h => by
    simp only [Xp.chk] at h
    split at h
    · simp only [Bool.and_eq_true, decide_eq_true_eq] at h
      obtain ⟨⟨⟨⟨⟨h0, h1⟩, h2⟩, h3⟩, h4⟩, h5⟩ := h
      have hh := hotF h0
      subst h1
      obtain ⟨fd, ps, F, b, c1, c2⟩ := ok_call O h2
      rename_i x p l pos
      have st := Xps.stars h5
      cases l with
      | nil =>
        cases es with
        | nil => exact peCallG0 F ((O.room hh).mono (Nat.le_succ _)) b (O.tk hh) (O.gl h3) c1 c2 (dbg1 h4)
        | cons a r => cases h5
      | cons y ys => exact peCallG F ((O.room hh).mono (Nat.le_succ _)) b (O.tk hh) (O.gl h3) c1 c2 (Xps.sound es O h5) (dbg1 h4) (starEach_cons (all_tail st).1 _ _) (backTo_any (all_tail st).2)
    · cases h
  | .callk f es ks, t, e, X, W, O, h => by
    simp only [Xp.chk] at h
    split at h
    · simp only [Bool.and_eq_true, decide_eq_true_eq] at h
      obtain ⟨⟨⟨⟨⟨⟨⟨h0, h1⟩, h2⟩, h3⟩, h4⟩, h6⟩, h5⟩, h7⟩ := h
      have hh := hotF h0
      subst h1
      obtain ⟨fd, ps, F, b, c1, c2⟩ := ok_calls O h2
      have st := Xps.stars h5
      rename_i x p a l kws pos
      have hn := kw_names (pos := pos) (env := X.env) h6
      have hl : (t.kw f).length = ks.len := by
        have e1 := congrArg List.length h6
        have e2 := Xps.len_chk h7
        rw [List.length_map, List.length_map] at e1
        rw [List.length_map] at e2
        omega
      show PE X _ (fun σ H Q => es.den v W σ H fun vs H1 => ks.den v W σ H1 fun zs H2 => zs.length = ks.len ∧ v.sp f (vs ++ zs) H2 Q fun c d H3 => W c d σ H3)
      rw [← hl]
      exact peCallKG F ((O.room hh).mono (Nat.le_succ _)) b (O.tk hh) (O.gl h3) c1 c2 (Xps.sound es O h5) (Xps.soundK ks O h7) hn.1 hn.2.1 (dbg1 h4) (starEach_cons (all_tail st).1 _ _) (by rw [backTo_any st, hn.2.2]; rfl)
    · cases h
  | .bits a, t, e, X, W, O, h => by
    simp only [Xp.chk] at h
    split at h
    · simp only [Bool.and_eq_true, decide_eq_true_eq] at h
      obtain ⟨⟨⟨h1, h2⟩, h3⟩, h4⟩ := h
      subst h1
      exact pe_bits (Xp.sound a O h4) (attr_plain h2 _ _ _) h3
    · cases h
  | .mk C f es, t, e, X, W, O, h => by
    simp only [Xp.chk] at h
    split at h
    · simp only [Bool.and_eq_true, decide_eq_true_eq] at h
      obtain ⟨⟨⟨⟨⟨h0, h1⟩, h2⟩, h3⟩, h4⟩, h5⟩ := h
      have hh := hotF h0
      subst h1
      obtain ⟨fd, ps, F, b, c1, c2⟩ := ok_mk O h2
      rename_i x p l pos
      have st := Xps.stars h5
      cases l with
      | nil =>
        cases es with
        | nil => exact peMakeG0 c2 F (O.room hh) b (O.tk hh) (O.gl h3) c1 (dbg1 h4)
        | cons a r => cases h5
      | cons y ys => exact peMakeG c2 F (O.room hh) b (O.tk hh) (O.gl h3) c1 (Xps.sound es O h5) (dbg1 h4) (starEach_cons (all_tail st).1 _ _) (backTo_any (all_tail st).2)
    · cases h
  | .meth f C nm o es, t, e, X, W, O, h => by
    simp only [Xp.chk] at h
    split at h
    · simp only [Bool.and_eq_true] at h
      obtain ⟨⟨⟨⟨⟨⟨⟨h0, h1⟩, h2⟩, h3⟩, h4⟩, h5⟩, h6⟩, h7⟩ := h
      have hh := hotF h0
      have h1 := of_decide_eq_true h1
      subst h1
      obtain ⟨fd, ps, F, b, c1, c2⟩ := ok_meth O h2
      rename_i r x ap l pos
      have st := Xps.stars h7
      have mt := meth_tree (X := X) (m := x) h3 h4 h5 st
      cases l with
      | nil =>
        cases es with
        | nil => exact peMethG0 (Xp.sound o O h6) c1 c2 F ((O.room hh).mono (Nat.le_succ _)) b (O.tk hh) mt
        | cons a r => cases h7
      | cons y ys => exact peMethG (Xp.sound o O h6) c1 c2 F ((O.room hh).mono (Nat.le_succ _)) b (O.tk hh) (Xps.sound es O h7) (starEach_cons (all_tail st).1 _ _) (backTo_any (all_tail st).2) mt
    · cases h
  | .bc b es, t, e, X, W, O, h => by
    simp only [Xp.chk] at h
    split at h
    · simp only [Bool.and_eq_true, decide_eq_true_eq] at h
      obtain ⟨⟨⟨h0, h1⟩, h2⟩, h3⟩ := h
      subst h1
      have st := Xps.stars h3
      have cr : CallR X b.val (rBf v.K b) := by
        by_cases hb : b = .isi
        · rw [hb]; exact isiOk O.K
        · exact bfOk O.F.sysm O.K (O.calm (hotF (by simpa [hb] using h0))) O.grd O.u65 b
      have bo := b.boot
      cases hv : b.val with
      | builtin i =>
        rw [hv] at cr bo
        exact pe_callB cr (O.gl h2) (O.bt (bf_in b)) bo (Xps.sound es O h3) b.notName b.notDbg (starEach_cons (all_tail st).1 _ _) (backTo_any (all_tail st).2)
      | type i =>
        rw [hv] at cr bo
        exact pe_callTy cr (O.gl h2) (O.bt (bf_in b)) bo (Xps.sound es O h3) b.notName b.notDbg (starEach_cons (all_tail st).1 _ _) (backTo_any (all_tail st).2)
      | _ => cases b <;> cases hv
    · cases h
  | .lckE a, t, e, X, W, O, h => pe_lock (Xp.sound a O h)
  | .lenO f C es, t, e, X, W, O, h => by
    simp only [Xp.chk] at h
    split at h
    · simp only [Bool.and_eq_true, decide_eq_true_eq] at h
      obtain ⟨⟨⟨⟨h0, h1⟩, h2⟩, h4⟩, h3⟩ := h
      have hh := hotF h0
      subst h1
      have st := Xps.stars h3
      obtain ⟨fd, ps, F, b, c1, c2⟩ := ok_meth O h4
      have cr := callLenO c2 F (O.room hh) b (O.tk hh)
      exact pe_callB cr (O.gl h2) (O.bt (bf_in .len)) Bf.len.boot (Xps.sound es O h3) Bf.len.notName Bf.len.notDbg (starEach_cons (all_tail st).1 _ _) (backTo_any (all_tail st).2)
    · cases h
  | .bm k o es, t, e, X, W, O, h => by
    simp only [Xp.chk] at h
    split at h
    · simp only [Bool.and_eq_true] at h
      obtain ⟨⟨⟨⟨⟨⟨h0, h1⟩, h3⟩, h4⟩, h5⟩, h6⟩, h7⟩ := h
      have hh := hotF h0
      have h1 := of_decide_eq_true h1
      subst h1
      rename_i r ap l pos
      have st := Xps.stars h7
      have hm := bmOk (X := X) O.K (O.calm hh) k
      cases l with
      | nil =>
        cases es with
        | nil =>
          refine ⟨fun pins s σ H Q I q => (pe_bm0 k.plain k.slot k.desc hm (Xp.sound o O h6) (attr_plain h3 _ _ _) h5).run pins s σ H Q I ?_⟩
          unfold tBM0
          rw [← O.K]
          exact q
        | cons a r => cases h7
      | cons y ys =>
        refine ⟨fun pins s σ H Q I q => (pe_bm k.plain k.slot k.desc hm (Xp.sound o O h6) (Xps.sound es O h7) (attr_plain h3 _ _ _) ?_ h5 (starEach_cons (all_tail st).1 _ _) (backTo_any (all_tail st).2)).run pins s σ H Q I ?_⟩
        · rw [backTo_all st]
          have h4 := of_decide_eq_true h4
          simpa [keywordEach, backToKw] using h4
        · unfold tBM
          rw [← O.K]
          exact q
    · cases h
  | .mxd mx a d, t, e, X, W, O, h => by
    simp only [Xp.chk] at h
    split at h
    · simp only [Bool.and_eq_true, decide_eq_true_eq] at h
      obtain ⟨⟨⟨⟨⟨⟨h0, h1⟩, h2⟩, h3⟩, h4⟩, h5⟩, h6⟩ := h
      have hh := hotF h0
      subst h2
      rename_i x p l r kp pos
      have hst : nStar l = true := h4
      cases mx with
      | true =>
        subst h1
        have g := pe_callBK (p := p) (pos := pos) (x := "max") (kws := [⟨some "default", r, kp⟩]) (MX.cr_maxDf (O.calm hh) O.u65) (O.gl h3) (O.bt (by decide +kernel)) (by first | rfl | decide +kernel) (pa_cons (Xp.sound a O h5) pa_nil (starEach_cons h4 _ _)) (pk_cons (nm := some "default") (kpos := kp) (Xp.sound d O h6) pk_nil) (by decide) (by decide) (by rw [starEach_cons h4 _ _]; rfl) (by rw [starEach_cons h4 _ _]; rfl)
        rw [← O.K] at g
        exact g
      | false =>
        subst h1
        have g := pe_callBK (p := p) (pos := pos) (x := "min") (kws := [⟨some "default", r, kp⟩]) (MX.cr_minDf (O.calm hh) O.u65) (O.gl h3) (O.bt (by decide +kernel)) (by first | rfl | decide +kernel) (pa_cons (Xp.sound a O h5) pa_nil (starEach_cons h4 _ _)) (pk_cons (nm := some "default") (kpos := kp) (Xp.sound d O h6) pk_nil) (by decide) (by decide) (by rw [starEach_cons h4 _ _]; rfl) (by rw [starEach_cons h4 _ _]; rfl)
        rw [← O.K] at g
        exact g
    · cases h
  | .dc k el tg it ifs own, t, e, X, W, O, h => by
    simp only [Xp.chk] at h
    split at h
    · simp only [Bool.and_eq_true, decide_eq_true_eq] at h
      obtain ⟨⟨⟨⟨⟨⟨⟨h0, h1⟩, h2⟩, h3⟩, h4⟩, h5⟩, h7⟩, h6⟩ := h
      have hh := hotF h0
      rename_i x y tt ii ff sc pos
      have ok : BlkOk X.N X.env.scope sc (ownP t.N own) := by
        rw [O.N, O.sc]
        exact blkOk_by h1
      have g := pe_dc (pos := pos) (O.calm hh) (by rw [O.N]; exact O.nd) (Sq.sound it O h3) ok (fun s H C cl fp => Tg.sound tg (O.blk hh) h4) (fun s H C cl fp => Tto.sound ifs (O.blk hh) h5) (fun s H C cl fp => Xp.sound k (O.blk hh) h7) (fun s H C cl fp => Xp.sound el (O.blk hh) h6) (fun x => folded_plain h2 _ x)
      rw [ownP_snd] at g
      exact g
    · cases h
  | .lc el tg it ifs own, t, e, X, W, O, h => by
    simp only [Xp.chk] at h
    split at h
    · simp only [Bool.and_eq_true, decide_eq_true_eq] at h
      obtain ⟨⟨⟨⟨⟨⟨h0, h1⟩, h2⟩, h3⟩, h4⟩, h5⟩, h6⟩ := h
      have hh := hotF h0
      rename_i y tt ii ff sc pos
      have ok : BlkOk X.N X.env.scope sc (ownP t.N own) := by
        rw [O.N, O.sc]
        exact blkOk_by h1
      have g := pe_lc (pos := pos) (O.calm hh) (by rw [O.N]; exact O.nd) (Sq.sound it O h3) ok (fun s H C cl fp => Tg.sound tg (O.blk hh) h4) (fun s H C cl fp => Tto.sound ifs (O.blk hh) h5) (fun s H C cl fp => Xp.sound el (O.blk hh) h6) (fun x => folded_plain h2 _ x)
      rw [ownP_snd] at g
      exact g
    · cases h
theorem Xpo.sound : ∀ (c : Xpo) {t : CK} {e : Option Expr} {X : Cx} {W : WX}, Ok v fa m t X W → c.chk t e = true → PO X e (c.den v W)
  | .no, t, e, X, W, O, h => by
    simp only [Xpo.chk] at h
    split at h
    · exact po_none
    · cases h
  | .so a, t, e, X, W, O, h => by
    simp only [Xpo.chk] at h
    split at h
    · cases h
    · exact po_some (Xp.sound a O h)
theorem Xps.sound : ∀ (c : Xps) {t : CK} {l : List Expr} {X : Cx} {W : WX}, Ok v fa m t X W → c.chk t l = true → PA X l (c.den v W)
  | .nil, t, [], X, W, O, h => pa_nil
  | .nil, t, _ :: _, X, W, O, h => by cases h
  | .cons a r, t, [], X, W, O, h => by cases h
  | .cons a r, t, e :: es, X, W, O, h => by
    simp only [Xps.chk, Bool.and_eq_true] at h
    exact pa_cons (Xp.sound a O h.1.2) (Xps.sound r O h.2) (starEach_cons h.1.1 _ _)
theorem Xps.soundD : ∀ (c : Xps) {t : CK} {l : List Expr} {X : Cx} {W : WX}, Ok v fa m t X W → c.chk t l = true → PEs X l (c.dens v W)
  | .nil, t, [], X, W, O, h => .nil
  | .nil, t, _ :: _, X, W, O, h => by cases h
  | .cons a r, t, [], X, W, O, h => by cases h
  | .cons a r, t, e :: es, X, W, O, h => by
    simp only [Xps.chk, Bool.and_eq_true] at h
    exact .cons (Xp.sound a O h.1.2) (Xps.soundD r O h.2)
theorem Xps.soundK : ∀ (c : Xps) {t : CK} {l : List Keyword} {X : Cx} {W : WX}, Ok v fa m t X W → c.chk t (l.map (·.value)) = true → PK X l (c.den v W)
  | .nil, t, [], X, W, O, h => pk_nil
  | .nil, t, _ :: _, X, W, O, h => by cases h
  | .cons a r, t, [], X, W, O, h => by cases h
  | .cons a r, t, ⟨nm, e, kp⟩ :: es, X, W, O, h => by
    simp only [List.map_cons, Xps.chk, Bool.and_eq_true] at h
    exact pk_cons (Xp.sound a O h.1.2) (Xps.soundK r O h.2)
theorem Tt.sound : ∀ (c : Tt) {t : CK} {e : Expr} {X : Cx} {W : WX}, Ok v fa m t X W → c.chk t e = true → PT X e (c.den v W)
  | .tr a, t, e, X, W, O, h => by
    simp only [Tt.chk, Bool.and_eq_true] at h
    refine ⟨fun pins s σ H Q I q => isTrue_plain (thn ((Xp.sound a O h.2).run pins s σ H _ I q) fun u s1 ⟨x, H1, I1, r1, q1⟩ => ?_) (test_plain h.1 _ _)⟩
    exact truAll O.K pins s1 σ H1 x u Q I1 r1 q1
  | .cmp op a b, t, e, X, W, O, h => by
    simp only [Tt.chk] at h
    split at h
    · simp only [Bool.and_eq_true, decide_eq_true_eq] at h
      obtain ⟨⟨⟨h1, h2⟩, h3⟩, h4⟩ := h
      subst h1
      exact pt_cm (cmAll O.K O.u65 _) (Xp.sound a O h3) (Xp.sound b O h4) h2
    · cases h
  | .chn o1 o2 a b c, t, e, X, W, O, h => by
    simp only [Tt.chk] at h
    split at h
    · simp only [Bool.and_eq_true, decide_eq_true_eq] at h
      obtain ⟨⟨⟨⟨⟨h1, h2⟩, h3⟩, h4⟩, h5⟩, h6⟩ := h
      subst h1 h2
      exact pt_ch (cmAll O.K O.u65 _) (cmAll O.K O.u65 _) (Xp.sound a O h4) (Xp.sound b O h5) (Xp.sound c O h6) h3
    · cases h
  | .chn3 o1 o2 o3 a b c d, t, e, X, W, O, h => by
    simp only [Tt.chk] at h
    split at h
    · simp only [Bool.and_eq_true, decide_eq_true_eq] at h
      obtain ⟨⟨⟨⟨⟨⟨⟨h1, h2⟩, h2'⟩, h3⟩, h4⟩, h5⟩, h6⟩, h7⟩ := h
      subst h1 h2 h2'
      exact pt_ch3 (cmAll O.K O.u65 _) (cmAll O.K O.u65 _) (cmAll O.K O.u65 _) (Xp.sound a O h4) (Xp.sound b O h5) (Xp.sound c O h6) (Xp.sound d O h7) h3
    · cases h
  | .and a b, t, e, X, W, O, h => by
    simp only [Tt.chk] at h
    split at h
    · simp only [Bool.and_eq_true, decide_eq_true_eq] at h
      exact (pw_and (Tt.sound a O h.1) (pw_and1 (Tt.sound b O h.2))).pt
    · simp only [Bool.and_eq_true, decide_eq_true_eq] at h
      exact (pw_and (Tt.sound a O h.1) (PT.pwB (Tt.sound b O h.2))).pt
    · cases h
  | .or a b, t, e, X, W, O, h => by
    simp only [Tt.chk] at h
    split at h
    · simp only [Bool.and_eq_true, decide_eq_true_eq] at h
      exact (pw_or (Tt.sound a O h.1) (pw_or1 (Tt.sound b O h.2))).pt
    · simp only [Bool.and_eq_true, decide_eq_true_eq] at h
      exact (pw_or (Tt.sound a O h.1) (PT.pwB (Tt.sound b O h.2))).pt
    · cases h
  | .not a, t, e, X, W, O, h => by
    simp only [Tt.chk] at h
    split at h
    · exact pt_not (Tt.sound a O h)
    · cases h
theorem Tto.sound : ∀ (c : Tto) {t : CK} {l : List Expr} {X : Cx} {W : WX}, Ok v fa m t X W → c.chk t l = true → PTs X l (c.den v W)
  | .no, t, l, X, W, O, h => by
    simp only [Tto.chk] at h
    split at h
    · exact pts_nil
    · cases h
  | .so a, t, l, X, W, O, h => by
    simp only [Tto.chk] at h
    split at h
    · exact pts_one (Tt.sound a O h)
    · cases h
theorem Sq.sound : ∀ (c : Sq) {t : CK} {tg e : Expr} {X : Cx} {W : WX}, Ok v fa m t X W → c.chk t tg e = true → PI X tg e (c.den v W)
  | .lst a, t, tg, e, X, W, O, h => by
    have g := pi_list (tg := tg) (Xp.sound a O h)
    rw [← O.K] at g
    exact g
  | .tup a, t, tg, e, X, W, O, h => by
    have g := pi_tup (tg := tg) (Xp.sound a O h)
    rw [← O.K] at g
    exact g
  | .dk a, t, tg, e, X, W, O, h => pi_keys (Xp.sound a O h)
  | .txt a, t, tg, e, X, W, O, h => pi_str (Xp.sound a O h)
  | .rng1 a, t, tg, e, X, W, O, h => by
    simp only [Sq.chk] at h
    split at h
    · simp only [Bool.and_eq_true, decide_eq_true_eq] at h
      obtain ⟨⟨⟨h1, h2⟩, h3⟩, h4⟩ := h
      subst h1
      exact pi_range1 (O.gl h2) (O.bt (by decide +kernel)) (pa_cons (Xp.sound a O h4) pa_nil (starEach_cons h3 _ _)) (starEach_cons h3 _ _)
    · cases h
  | .rng3 a b c, t, tg, e, X, W, O, h => by
    simp only [Sq.chk] at h
    split at h
    · simp only [Bool.and_eq_true, decide_eq_true_eq] at h
      obtain ⟨⟨⟨⟨⟨⟨⟨h1, h2⟩, h3⟩, h4⟩, h5⟩, h6⟩, h7⟩, h8⟩ := h
      subst h1
      exact pi_range3 (O.gl h2) (O.bt (by decide +kernel)) (pa_cons (Xp.sound a O h6) (pa_cons (Xp.sound b O h7) (pa_cons (Xp.sound c O h8) pa_nil (starEach_cons h5 _ _)) (starEach_cons h4 _ _)) (starEach_cons h3 _ _))
        (by rw [starEach_cons h3]) (backTo_any (by rw [List.all_cons, List.all_cons, h4, h5]; rfl))
    · cases h
  | .rng2 a b, t, tg, e, X, W, O, h => by
    simp only [Sq.chk] at h
    split at h
    · simp only [Bool.and_eq_true, decide_eq_true_eq] at h
      obtain ⟨⟨⟨⟨⟨h1, h2⟩, h3⟩, h4⟩, h5⟩, h6⟩ := h
      subst h1
      exact pi_range2 (O.gl h2) (O.bt (by decide +kernel)) (pa_cons (Xp.sound a O h5) (pa_cons (Xp.sound b O h6) pa_nil (starEach_cons h4 _ _)) (starEach_cons h3 _ _))
        (by rw [starEach_cons h3, starEach_cons h4]; rfl) (starEach_cons h4 _ _)
    · cases h
  | .enm a, t, tg, e, X, W, O, h => by
    simp only [Sq.chk] at h
    split at h
    · simp only [Bool.and_eq_true, decide_eq_true_eq] at h
      obtain ⟨⟨⟨h1, h2⟩, h3⟩, h4⟩ := h
      subst h1
      have g := fun (elts : List Expr) (kk : Nat) (tp p pos : Pos) => pi_enum (elts := elts) (kk := kk) (tpos := tp) (p := p) (pos := pos) (O.gl h2) (O.bt (by decide +kernel)) (pa_cons (Xp.sound a O h4) pa_nil (starEach_cons h3 _ _)) (starEach_cons h3 _ _)
      rw [← O.K] at g
      exact g _ _ _ _ _
    · cases h
  | .enmT a, t, tg, e, X, W, O, h => by
    simp only [Sq.chk] at h
    split at h
    · simp only [Bool.and_eq_true, decide_eq_true_eq] at h
      obtain ⟨⟨⟨h1, h2⟩, h3⟩, h4⟩ := h
      subst h1
      have g := fun (elts : List Expr) (kk : Nat) (tp p pos : Pos) => pi_enumT (elts := elts) (kk := kk) (tpos := tp) (p := p) (pos := pos) (O.gl h2) (O.bt (by decide +kernel)) (pa_cons (Xp.sound a O h4) pa_nil (starEach_cons h3 _ _)) (starEach_cons h3 _ _)
      rw [← O.K] at g
      exact g _ _ _ _ _
    · cases h
  | .zip a b, t, tg, e, X, W, O, h => by
    simp only [Sq.chk] at h
    split at h
    · simp only [Bool.and_eq_true, decide_eq_true_eq] at h
      obtain ⟨⟨⟨⟨⟨h1, h2⟩, h3⟩, h4⟩, h5⟩, h6⟩ := h
      subst h1
      have g := fun (elts : List Expr) (kk : Nat) (tp p pos : Pos) => RZ.pi_zipA (elts := elts) (kk := kk) (tpos := tp) (p := p) (pos := pos) (O.gl h2) (O.bt (by decide +kernel)) (pa_cons (Xp.sound a O h5) (pa_cons (Xp.sound b O h6) pa_nil (starEach_cons h4 _ _)) (starEach_cons h3 _ _)) (starEach_cons h3 _ _) (by rw [starEach_cons h4]; rfl)
      rw [← O.K] at g
      exact g _ _ _ _ _
    · cases h
  | .zipS a b, t, tg, e, X, W, O, h => by
    simp only [Sq.chk] at h
    split at h
    · simp only [Bool.and_eq_true, decide_eq_true_eq] at h
      obtain ⟨⟨⟨⟨⟨h1, h2⟩, h3⟩, h4⟩, h5⟩, h6⟩ := h
      subst h1
      have g := fun (elts : List Expr) (kk : Nat) (tp p pos : Pos) => pi_zipS (elts := elts) (kk := kk) (tpos := tp) (p := p) (pos := pos) (O.gl h2) (O.bt (by decide +kernel)) (pa_cons (Xp.sound a O h5) (pa_cons (Xp.sound b O h6) pa_nil (starEach_cons h4 _ _)) (starEach_cons h3 _ _)) (starEach_cons h3 _ _) (by rw [starEach_cons h4]; rfl)
      exact g _ _ _ _ _
    · cases h
  | .rvs a, t, tg, e, X, W, O, h => by
    simp only [Sq.chk] at h
    split at h
    · simp only [Bool.and_eq_true, decide_eq_true_eq] at h
      obtain ⟨⟨⟨h1, h2⟩, h3⟩, h4⟩ := h
      subst h1
      have g := fun (p pos : Pos) => RT.pi_revA (tg := tg) (p := p) (pos := pos) (O.gl h2) (O.bt (by decide +kernel)) (Xp.sound a O h4) (starEach_cons h3 _ _)
      rw [← O.K] at g
      exact g _ _
    · cases h
  | .rvT a, t, tg, e, X, W, O, h => by
    simp only [Sq.chk] at h
    split at h
    · simp only [Bool.and_eq_true, decide_eq_true_eq] at h
      obtain ⟨⟨⟨h1, h2⟩, h3⟩, h4⟩ := h
      subst h1
      have g := fun (p pos : Pos) => RX.pi_revT (tg := tg) (p := p) (pos := pos) (O.gl h2) (O.bt (by decide +kernel)) (Xp.sound a O h4) (starEach_cons h3 _ _)
      exact g _ _
    · cases h
  | .rvr1 a, t, tg, e, X, W, O, h => by
    simp only [Sq.chk] at h
    split at h
    · simp only [Bool.and_eq_true, decide_eq_true_eq] at h
      obtain ⟨⟨⟨⟨⟨h1, h2⟩, h3⟩, h4⟩, h5⟩, h6⟩ := h
      subst h1 h2
      exact pi_revR (O.gl h3) (O.bt (by decide +kernel)) (prg_1 (O.gl h4) (O.bt (by decide +kernel)) (Xp.sound a O h6) (starEach_cons h5 _ _)) (starEach_cons rfl _ _)
    · cases h
  | .rvr2 a b, t, tg, e, X, W, O, h => by
    simp only [Sq.chk] at h
    split at h
    · simp only [Bool.and_eq_true, decide_eq_true_eq] at h
      obtain ⟨⟨⟨⟨⟨⟨⟨h1, h2⟩, h3⟩, h4⟩, h5⟩, h6⟩, h7⟩, h8⟩ := h
      subst h1 h2
      exact pi_revR (O.gl h3) (O.bt (by decide +kernel)) (prg_2 (O.gl h4) (O.bt (by decide +kernel)) (Xp.sound a O h7) (Xp.sound b O h8) (starEach_cons h5 _ _) (starEach_cons h6 _ _) (backTo_any (by rw [List.all_cons, h6]; rfl))) (starEach_cons rfl _ _)
    · cases h
  | .any a b, t, tg, e, X, W, O, h => by
    simp only [Sq.chk, Bool.and_eq_true] at h
    exact PI.or (Sq.sound a O h.1) (Sq.sound b O h.2)
theorem Tg.sound : ∀ (c : Tg) {t : CK} {e : Expr} {X : Cx} {W : WX}, Ok v fa m t X W → c.chk t e = true → PG X e (c.den v W)
  | .nm i, t, e, X, W, O, h => by
    simp only [Tg.chk] at h
    split at h
    · simp only [Bool.and_eq_true, decide_eq_true_eq] at h
      obtain ⟨h1, h2⟩ := h
      have nd : X.N.Nodup := by rw [O.N]; exact O.nd
      rename_i x pos
      have hi : X.N[i]? = some x := by rw [O.N]; exact h1
      split at h2
      · rename_i hb
        rcases Bool.or_eq_true _ _ |>.mp h2 with h2 | h2
        · have h2 := of_decide_eq_true h2
          rw [← O.sc] at h2
          exact pg_name nd hi (.inl h2) (.inr h2)
        · simp only [Bool.and_eq_true, decide_eq_true_eq] at h2
          have h3 := h2.1
          rw [← O.sc] at h3
          exact pg_name nd hi (.inr h3) (.inl (O.own hb _ h2.2))
      · rename_i hb
        exact pg_name nd hi (O.loc h2) (.inl (O.fnc (by simpa using hb) _))
    · cases h
  | .tup gs, t, e, X, W, O, h => by
    simp only [Tg.chk] at h
    split at h
    · rename_i l kk pos
      simp only [Bool.and_eq_true] at h
      obtain ⟨h0, h⟩ := h
      have hh := hotF h0
      have g := pg_tup (k := kk) (pos := pos) (O.calm hh) (Tgs.sound gs O h) (gs_len h).1 (gs_len h).2
      have g2 := pg_lst (k := kk) (pos := pos) (O.calm hh) (Tgs.sound gs O h) (gs_len h).1 (gs_len h).2
      rw [← O.K] at g g2
      exact ⟨fun pins s σ H x u Q I r q => q.elim (g.run pins s σ H x u Q I r) (g2.run pins s σ H x u Q I r)⟩
    · cases h
  | .sub o i, t, e, X, W, O, h => by
    simp only [Tg.chk] at h
    split at h
    · simp only [Bool.and_eq_true, decide_eq_true_eq] at h
      obtain ⟨⟨h1, h2⟩, h3⟩ := h
      exact pg_sub (Xp.sound o O h2) (Xp.sound i O h3) (setAll (Nat.lt_of_le_of_lt (Nat.add_le_add_left (by decide : 1 ≤ 65) _) O.u65)) fun v => sub_assign h1 v
    · cases h
theorem Tgs.sound : ∀ (c : Tgs) {t : CK} {l : List Expr} {X : Cx} {W : WX}, Ok v fa m t X W → c.chk t l = true → PGs X l (c.den v W)
  | .nil, t, [], X, W, O, h => pgs_nil
  | .nil, t, _ :: _, X, W, O, h => by cases h
  | .cons a r, t, [], X, W, O, h => by cases h
  | .cons a r, t, e :: es, X, W, O, h => by
    simp only [Tgs.chk, Bool.and_eq_true] at h
    exact pgs_cons (Tg.sound a O h.1.2) (Tgs.sound r O h.2) (by rw [assign_cons h.1.1]; rfl)
end
end
end DI

/-! DI, part 8: soundness for statements; every def at every depth. -/
namespace DI
open L2
open PySem.Spec
open PyProof.Rows hiding St
open PySem

section
variable {fa : Nat → Addr} {m : Nat}

theorem inop_all {v : Ev} {X : Cx} (hK : v.K = X.K) (op : Operator) : InOp X op (rAug v.K op) := fun pins s σ H x y u w Q I rx ry h => augAll hK op pins s σ H x y u w Q I rx ry h
set_option maxHeartbeats 2000000 in
mutual
theorem Sm.sound : ∀ (c : Sm) {v : Ev} {t : CK} {e : Stmt} {X : Cx} {W : WX}, Ok v fa m t X W → c.chk t e = true → PS X e (c.den v W)
  | .asg g y, v, t, e, X, W, O, h => by
    simp only [Sm.chk] at h
    split at h
    · simp only [Bool.and_eq_true] at h
      obtain ⟨⟨⟨⟨h1, h2⟩, h3⟩, h4⟩, h5⟩ := h
      rcases Bool.or_eq_true _ _ |>.mp h1 with h1 | h1
      · exact ps_asg (Xp.sound y O h5) (Tg.sound g O h4) (swap_plain h1 _ _ _) (swapped_plain h3) (by rw [assign_cons h2]; rfl)
      · exact ps_asg (Xp.sound y O h5) (Tg.sound g O h4) (swap_cell (by rw [O.sc]; exact h1) _) (swapped_plain h3) (by rw [assign_cons h2]; rfl)
    · cases h
  | .asl i el tg it ifs own, v, t, e, X, W, O, h => by
    simp only [Sm.chk] at h
    split at h
    · rename_i x px y tt ii ff sc p sp
      simp only [Bool.and_eq_true, Bool.not_eq_true'] at h
      obtain ⟨⟨⟨⟨⟨⟨⟨⟨⟨⟨⟨h0, h1⟩, h2⟩, h3⟩, h4⟩, h5⟩, h6⟩, h7⟩, h8⟩, h9⟩, h10⟩, h11⟩ := h
      have hh : t.hot = false := h0
      have h1 := of_decide_eq_true h1
      have h2 := of_decide_eq_true h2
      have h5 := of_decide_eq_true h5
      have ok : BlkOk X.N X.env.scope sc (ownP t.N own) := by
        rw [O.N, O.sc]
        exact blkOk_by h6
      have k5 : X.env.scope.kind = .function := by rw [O.sc]; exact h5
      have k2 : X.env.scope.names.lookup x = some .local := by rw [O.sc]; exact h2
      have g := ps_setLc (py := px) (pos := p) (spos := sp) (O.calm hh) (by rw [O.N]; exact O.nd) (by rw [O.N]; exact h1) k2 (sw_true k5 k2 h3 h4) (Sq.sound it O h8) ok
        (fun s H C cl fp => Tg.sound tg (O.blk hh) h9) (fun s H C cl fp => Tto.sound ifs (O.blk hh) h10) (fun s H C cl fp => Xp.sound el (O.blk hh) h11) (fun x => folded_plain h7 _ x)
      rw [ownP_snd] at g
      exact g
    · cases h
  | .par i j a b, v, t, e, X, W, O, h => by
    simp only [Sm.chk] at h
    split at h
    · rename_i x px y py kt pt e1 e2 k2 pt2 pos
      simp only [Bool.and_eq_true, decide_eq_true_eq] at h
      obtain ⟨⟨⟨⟨⟨⟨⟨⟨h0, h1⟩, h2⟩, h3⟩, h4⟩, h5⟩, h6⟩, h7⟩, h8⟩ := h
      have hh := hotF h0
      have l := parB_loc h4
      have l1 := l (x, px) (by simp)
      have l2 := l (y, py) (by simp)
      exact ps_par (O.calm hh) (by rw [O.N]; exact O.nd) (by rw [O.N]; exact h1) (by rw [O.N]; exact h2) h3 (by rw [O.sc]; exact l1) (by rw [O.sc]; exact l2)
        (pa_cons (Xp.sound a O h7) (pa_cons (Xp.sound b O h8) pa_nil (starEach_cons h6 _ _)) (starEach_cons h5 _ _)) (swapped_2 (by rw [O.sc]; exact h4))
    · cases h
  | .par3 i j l a b c, v, t, e, X, W, O, h => by
    simp only [Sm.chk] at h
    split at h
    · rename_i x px y py z pz kt pt e1 e2 e3 k2 pt2 pos
      simp only [Bool.and_eq_true, decide_eq_true_eq] at h
      obtain ⟨⟨⟨⟨⟨⟨⟨⟨⟨⟨⟨⟨⟨h0, h1⟩, h2⟩, h3⟩, h4⟩, h5⟩, h6⟩, h7⟩, h8⟩, h9⟩, h10⟩, h11⟩, h12⟩, h13⟩ := h
      have hh := hotF h0
      have l := parB_loc h7
      have l1 := l (x, px) (by simp)
      have l2 := l (y, py) (by simp)
      have l3 := l (z, pz) (by simp)
      exact ps_par3 (O.calm hh) (by rw [O.N]; exact O.nd) (by rw [O.N]; exact h1) (by rw [O.N]; exact h2) (by rw [O.N]; exact h3) h4 h5 h6 (by rw [O.sc]; exact l1) (by rw [O.sc]; exact l2) (by rw [O.sc]; exact l3)
        (pa_cons (Xp.sound a O h11) (pa_cons (Xp.sound b O h12) (pa_cons (Xp.sound c O h13) pa_nil (starEach_cons h10 _ _)) (starEach_cons h9 _ _)) (starEach_cons h8 _ _)) (swapped_3 (by rw [O.sc]; exact h7))
    · cases h
  | .fld C o f y, v, t, e, X, W, O, h => by
    simp only [Sm.chk] at h
    split at h
    · simp only [Bool.and_eq_true] at h
      obtain ⟨⟨⟨h1, h2⟩, h4⟩, h5⟩ := h
      have h1 := of_decide_eq_true h1
      subst h1
      obtain ⟨c, n⟩ := ok_fld O h2
      refine ⟨fun pins s σ H D I q => plainObj_wpAny_Assign_Attribute (thn ((Xp.sound y O h5).run pins s σ H _ I q) fun u s1 ⟨z, H1, I1, rz, q1⟩ =>
        thn ((Xp.sound o O h4).run pins s1 σ H1 _ I1 q1) fun ov s2 ⟨x, H2, I2, rx, a, dx, fs, ex, ea, l, q2⟩ => ?_) (swap_attr _ _ _ _ _ _)⟩
      subst ex
      cases rx
      exact setattr_ok I2 ea c n l rz fun s3 I3 => ⟨σ, _, I3, q2⟩
    · cases h
  | .aug i op y, v, t, e, X, W, O, h => by
    simp only [Sm.chk] at h
    split at h
    · simp only [Bool.and_eq_true, Bool.not_eq_true'] at h
      obtain ⟨⟨⟨⟨h1, h2⟩, h3⟩, h4⟩, h5⟩ := h
      have h1 := of_decide_eq_true h1
      have h2 := of_decide_eq_true h2
      subst h1
      refine PS.imp (ps_aug (by rw [O.N]; exact O.nd) (by rw [O.N]; exact h2) (O.loc h3) (Xp.sound y O h5) (augAll O.K _) (.inl (O.fnc h4 _))) fun D σ H q => ?_
      unfold Sm.den tAugA at q
      split at q
      · exact ⟨_, by assumption, q⟩
      · exact q.elim
    · cases h
  | .augf C o f op y, v, t, e, X, W, O, h => by
    simp only [Sm.chk] at h
    split at h
    · simp only [Bool.and_eq_true] at h
      obtain ⟨⟨⟨⟨h0, h1⟩, h2⟩, h4⟩, h5⟩ := h
      have h0 := of_decide_eq_true h0
      have h1 := of_decide_eq_true h1
      subst h0 h1
      obtain ⟨c, n⟩ := ok_fld O h2
      refine ⟨fun pins s σ H D I q => wpAny_AugAssign_AttributeAny (thn ((Xp.sound o O h4).run pins s σ H _ I q) fun ov s1 ⟨x, H1, I1, rx, a, dx, fs, w, ex, ea, l, q1⟩ => ?_)⟩
      subst ex
      cases rx
      refine getattr_ok I1 ea c n l fun u s2 I2 ru => thn ((Xp.sound y O h5).run pins s2 σ H1 _ I2 q1) fun w3 s3 ⟨z, H2, I3, rz, q3⟩ =>
        thn (inop_all O.K _ pins s3 σ H2 w z u w3 _ I3 ru rz q3) fun w4 s4 ⟨z', H3, I4, rz', fs', ea', l', q4⟩ => ?_
      exact setattr_ok I4 ea' c n l' rz' fun s5 I5 => ⟨σ, _, I5, q4⟩
    · cases h
  | .exp y, v, t, e, X, W, O, h => by
    simp only [Sm.chk] at h
    split at h
    · simp only [Bool.and_eq_true] at h
      exact ps_expr (Xp.sound y O h.2) (swap_plain h.1 _ _ _)
    · cases h
  | .ret y, v, t, e, X, W, O, h => by
    simp only [Sm.chk] at h
    split at h
    · exact ps_ret (Xp.sound y O h)
    · cases h
  | .retN, v, t, e, X, W, O, h => by
    simp only [Sm.chk] at h
    split at h
    · exact ps_retN
    · cases h
  | .pass, v, t, e, X, W, O, h => by
    simp only [Sm.chk] at h
    split at h
    · exact ps_pass
    · cases h
  | .brk, v, t, e, X, W, O, h => by
    simp only [Sm.chk] at h
    split at h
    · exact ps_break
    · cases h
  | .cnt, v, t, e, X, W, O, h => by
    simp only [Sm.chk] at h
    split at h
    · exact ps_continue
    · cases h
  | .ite c a b, v, t, e, X, W, O, h => by
    simp only [Sm.chk] at h
    split at h
    · simp only [Bool.and_eq_true] at h
      exact ps_if (Tt.sound c O h.1.1) (Sms.sound a O h.1.2) (Sms.sound b O h.2)
    · cases h
  | .whl c b, v, t, e, X, W, O, h => by
    simp only [Sm.chk] at h
    split at h
    · simp only [Bool.and_eq_true] at h
      exact ps_while O.pas (Tt.sound c O h.1) (Sms.sound b O h.2)
    · cases h
  | .for_ tg it b, v, t, e, X, W, O, h => by
    simp only [Sm.chk] at h
    split at h
    · simp only [Bool.and_eq_true] at h
      obtain ⟨⟨⟨⟨h0, h1⟩, h2⟩, h3⟩, h4⟩ := h
      exact ps_for O.pas (O.calm (hotF h0)) (Sq.sound it O h2) (Tg.sound tg O h3) (Sms.sound b O h4) fun x => folded_plain h1 _ x
    · cases h
  | .rai C f es, v, t, e, X, W, O, h => by
    simp only [Sm.chk] at h
    split at h
    · rename_i x p0 l r p1 p2
      simp only [Bool.and_eq_true] at h
      obtain ⟨⟨⟨⟨⟨h0, h1⟩, h2⟩, h3⟩, h4⟩, h5⟩ := h
      have hh := hotF h0
      have h1 := of_decide_eq_true h1
      subst h1
      have st := Xps.stars h5
      obtain ⟨mc, E, _⟩ := O.F.exs (C, f) (by simpa using h4)
      have E : ExCls X.prog v.K (v.cls C) f := E
      rw [O.K] at E
      exact ps_raise (O.calm hh) (O.tk hh) (pmk_sup E (O.room hh).r (O.gl h2) mc (Xps.sound es O h5) (dbg1 h3) (starEach_cons (all_tail st).1 _ _) (backTo_any (all_tail st).2))
    · cases h
  | .tryA b C i sb, v, t, e, X, W, O, h => by
    simp only [Sm.chk] at h
    split at h
    · rename_i body x p0 n b0 su p1 p2
      simp only [Bool.and_eq_true, Bool.not_eq_true'] at h
      obtain ⟨⟨⟨⟨⟨⟨⟨⟨⟨h0, hb⟩, h1⟩, h2⟩, h3⟩, h4⟩, h5⟩, h6⟩, h7⟩, h8⟩ := h
      have h1 := of_decide_eq_true h1
      have h5 := of_decide_eq_true h5
      have h6 := of_decide_eq_true h6
      subst h1
      have hmc := O.clsIn h4
      obtain ⟨tp, fr⟩ := O.top hb
      have g := ps_try_as (i := i) (ts := fun a c d => sb.den { v with ex := some (a, c, d) } fun _ _ _ _ => False) (tb := fun W' => b.den v W') (Wout := W) (np := p0) (pos := p2) (pos' := p1) tp fr (by rw [O.N]; exact O.nd) (by rw [O.N]; exact h5) (by show X.env.scope.names.lookup n = _; rw [O.sc]; exact h6) (c := .ref (v.cls C)) ⟨O.gl h2, dbg1 h3, .inl hmc⟩ (O.tk h0)
        (fun W' pn xe tk pa => Sms.sound b (O.tr h0 tk pa) h7) (fun a oe cls d pn hz hf => Sms.sound sb (O.suite hz hf) h8)
      rw [← O.K] at g
      exact g
    · cases h
  | .tryO b C sb, v, t, e, X, W, O, h => by
    simp only [Sm.chk] at h
    split at h
    · rename_i body x p0 b0 su p1 p2
      simp only [Bool.and_eq_true, Bool.not_eq_true'] at h
      obtain ⟨⟨⟨⟨⟨⟨⟨h0, hb⟩, h1⟩, h2⟩, h3⟩, h4⟩, h7⟩, h8⟩ := h
      have h1 := of_decide_eq_true h1
      subst h1
      have hmc := O.clsIn h4
      obtain ⟨tp, fr⟩ := O.top hb
      have g := ps_try_only (ts := fun a c d => sb.den { v with ex := some (a, c, d) } fun _ _ _ _ => False) (tb := fun W' => b.den v W') (Wout := W) (np := p0) (pos := p2) (pos' := p1) tp fr (c := .ref (v.cls C)) ⟨O.gl h2, dbg1 h3, .inl hmc⟩ (O.tk h0)
        (fun W' pn xe tk pa => Sms.sound b (O.tr h0 tk pa) h7) (fun a oe cls d pn hz hf => Sms.sound sb (O.suite hz hf) h8)
      rw [← O.K] at g
      exact g
    · cases h
  | .lck a, v, t, e, X, W, O, h => ps_lock (Sm.sound a O h)
  | .tryM b hs, v, t, e, X, W, O, h => by
    simp only [Sm.chk] at h
    split at h
    · rename_i body h0' hds p2
      simp only [Bool.and_eq_true, Bool.not_eq_true'] at h
      obtain ⟨⟨⟨h0, hb⟩, h7⟩, h8⟩ := h
      obtain ⟨tp, fr⟩ := O.top hb
      have g := ps_try_many (l := hs.den v) (tb := fun W' => b.den v W') (Wout := W) (pos := p2) tp fr (O.tk h0) (fun W' pn xe tk pa => Sms.sound b (O.tr h0 tk pa) h7) (Hds.sound hs O h8)
      rw [← O.K] at g
      exact g
    · cases h
  | .ddel d k, v, t, e, X, W, O, h => by
    simp only [Sm.chk] at h
    split at h
    · simp only [Bool.and_eq_true] at h
      exact ps_ddel (Xp.sound d O h.1) (Xp.sound k O h.2)
    · cases h
  | .never, v, t, e, X, W, O, h => ps_never
theorem Sms.sound : ∀ (c : Sms) {v : Ev} {t : CK} {l : List Stmt} {X : Cx} {W : WX}, Ok v fa m t X W → c.chk t l = true → PSs X l (c.den v W)
  | .nil, v, t, [], X, W, O, h => pss_nil
  | .nil, v, t, _ :: _, X, W, O, h => by cases h
  | .cons a r, v, t, [], X, W, O, h => by cases h
  | .cons a r, v, t, s :: ss, X, W, O, h => by
    simp only [Sms.chk, Bool.and_eq_true] at h
    exact pss_cons (Sm.sound a O h.1) (Sms.sound r O h.2)
theorem Hds.sound : ∀ (c : Hds) {v : Ev} {t : CK} {l : List ExceptHandler} {X : Cx} {W : WX}, Ok v fa m t X W → c.chk t l = true → HdsOk X l (c.den v)
  | .nil, v, t, [], X, W, O, h => .nil
  | .nil, v, t, _ :: _, X, W, O, h => by cases h
  | .cons C sb r, v, t, l, X, W, O, h => by
    simp only [Hds.chk] at h
    split at h
    · rename_i x p0 b0 su p1 hds
      simp only [Bool.and_eq_true] at h
      obtain ⟨⟨⟨⟨⟨h1, h2⟩, h3⟩, h4⟩, h8⟩, h9⟩ := h
      have h1 := of_decide_eq_true h1
      subst h1
      have hmc := O.clsIn h4
      exact .cons ⟨O.gl h2, dbg1 h3, .inl hmc⟩ (fun a oe cls d pn hz hf => Sms.sound sb (O.suite hz hf) h8) (Hds.sound r O h9)
    · cases h
end
end

/-- a def as code: its parameters, its names (the parameters first), its body -/
structure Df where
  ps : List Str
  N : List Str
  body : Sms
  kw : List Str
/-- the promise of each def by its own body, n deep -/
def spOf (v : Ev) (D : Nat → Df) : Nat → Nat → Sp
  | 0, _ => fun _ _ _ _ => False
  | n + 1, f => fun vs H Q E => vs.length = (D f).ps.length ∧
      (D f).body.den { v with sp := spOf v D n } (fun c d _ H' => E c d H') { nx := fun _ H' => Q .non H', rt := Q } (start (D f).N vs) H

/-- a def as it stands behind the top, and its code -/
structure DfOk (P : Program) (w : World) (mg : Str → Option Value) (K : PySem.W.Frag) (t : CK) (d : Df) (f : Addr) (fd : FuncData) : Prop where
  ex : ∃ (name qual : Str) (params : Arguments) (body : List Stmt) (scope : Scope) (dV kV doc pm cdv ct oc : Value) (an od : Option Addr) (osl : Array (Option Value)),
    fd = PySem.W.fnOf name qual params body scope dV kV doc pm an cdv ct ∧ K.lookup f = some ⟨oc, od, .func (PySem.W.fnOf name qual params body scope dV kV doc pm an cdv ct), osl⟩ ∧ PySem.W.codeIn K cdv qual = true ∧ FnScope d.N d.ps scope ∧
      d.body.chk { t with N := d.N, sc := scope, blk := false } body = true ∧ Bnd K (PySem.W.fnOf name qual params body scope dV kV doc pm an cdv ct) d.ps d.kw

/-- the program's facts but the promises -/
structure Base (P : Program) (mg : Str → Option Value) (v : Ev) (fa : Nat → Addr) (t : CK) : Prop where
  calls : ∀ f ∈ t.calls, mg (t.fn f) = some (.ref (fa f)) ∧ PySem.W.keepIn v.K (.ref (fa f)) = true
  mths : ∀ q ∈ t.mths, Cls v.K (v.cls q.1) ∧ Meth v.K (v.cls q.1) q.2.2 (fa q.2.1)
  mks : ∀ q ∈ t.mks, mg (t.cn q.1) = some (.ref (v.cls q.1)) ∧ Mk v.K (v.cls q.1) (fa q.2)
  flds : ∀ q ∈ t.flds, Cls v.K (v.cls q.1) ∧ NoAttr v.K (v.cls q.1) q.2
  gls : ∀ i ∈ t.gls, ∃ u, mg (t.gn i) = some u ∧ RelV (v.gv i) u
  bts : ∀ x ∈ btNames, mg x = none
  exs : ∀ q ∈ t.exs, mg (t.cn q.1) = some (.ref (v.cls q.1)) ∧ ExCls P v.K (v.cls q.1) q.2 ∧ ExcC v.K (v.cls q.1)
  bss : ∀ C ∈ t.bases, mg (t.cn C) = some (.ref (v.cls C))
  vxs : v.exs = t.exs
  cold : t.hot = false

theorem room65 {k : Nat} {A : Around} (hr : RoomG (k + 1) A) : A.units + 65 < cLine := by have := hr.r.un; omega
def inFn (t : CK) (f : Nat) : Prop := f ∈ t.calls ∨ (∃ C nm, (C, f, nm) ∈ t.mths) ∨ ∃ C, (C, f) ∈ t.mks
theorem all_fn {P : Program} {w : World} {mg : Str → Option Value} {base : Heap} {v : Ev} {fa : Nat → Addr} {t : CK} {D : Nat → Df} (sm : SysM base) (B : Base P mg v fa t)
    (hkw : ∀ f, (D f).kw = t.kw f) (hd : ∀ f, inFn t f → ∃ fd, DfOk P w mg v.K t (D f) (fa f) fd) : ∀ n f fd, DfOk P w mg v.K t (D f) (fa f) fd → FnG P w v.K mg base (2 * n) (fa f) fd (D f).ps (spOf v D n f) ∧ Bnd v.K fd (D f).ps (D f).kw
  | 0, f, fd, h => by
    obtain ⟨name, qual, params, body, scope, dV, kV, doc, pm, cdv, ct, oc, an, od, osl, e, lk, hcd, S, ck, b⟩ := h.ex
    subst e
    exact ⟨⟨fun vs H Q E h => h.elim, fun A outer s H args us vs Q E _ _ _ _ h => h.elim⟩, b⟩
  | n + 1, f, fd, h => by
    have ih := all_fn (base := base) sm B hkw hd n
    obtain ⟨name, qual, params, body, scope, dV, kV, doc, pm, cdv, ct, oc, an, od, osl, e, lk, hcd, S, ck, b⟩ := h.ex
    subst e
    refine ⟨fnG_of (k := 2 * n + 1) lk hcd S (fun vs H Q E h => h.1) fun A outer s H vs Q E hr h => ⟨_, ?_, h.2⟩, b⟩
    have cold := B.cold
    refine Sms.sound (m := 2 * n) (fa := fa) (t := { t with N := (D f).N, sc := scope, blk := false }) (D f).body ?_ ck
    exact { F := ⟨fun g hg => let ⟨fd, h⟩ := hd g hg; ⟨fd, _, (ih g fd h).1, hkw g ▸ (ih g fd h).2⟩, B.calls, B.mths, B.mks, B.flds, B.gls, B.bts, B.exs, B.bss, B.vxs, sm⟩, K := rfl, N := rfl, sc := rfl, nd := S.nd, calm := fun _ => rfl, room := fun _ => hr, grd := hr.g, u65 := room65 hr, tk := fun _ => takes_of rfl rfl rfl rfl, pas := passes_of rfl, fnc := fun _ _ => rfl, own := fun _ _ _ => rfl, top := fun _ => ⟨rfl, rfl⟩, suit := fun z => by rw [show t.hot = true from z] at cold; cases cold }
end DI

/-! DI, part 9: the law's end. -/
namespace DI
open L2
open PySem.Spec
open PyProof.Rows hiding St
open PySem

theorem lawG {P : Program} {w : World} {K : PySem.W.Frag} {mg mb : Str → Option Value} {k : Nat} {fa a : Addr} {fd : FuncData} {x : Str} {sp : Sp} {t : Shared} {vs : List Value} {ns : List Int}
    (KX : K.In t.heap) (hsm : ∃ mm, t.heap.Ns sysModules mm) (hns : t.heap.Ns mainGlobals mg) (hb : t.heap.Ns builtinsNs mb) (hbb : ∀ x : Str, x ≠ "__name__" → mb x = bootBuiltins x) (hlim : t.heap.NoLimit) (hg : t.gens = #[])
    (ha : t.heap.get? a = some { cls := .type "list", data := .seq vs.toArray }) (hi : IntsAre vs ns) (hl : ns.length ≤ sizeLine) (hr : RoomG k callerA)
    (F : ∀ base : Heap, K.In base → base.Ns mainGlobals mg → SysM base → FnG P w K mg base k fa fd [x] sp) (hbind : ∀ (s : Shared) (u : Value), K.In s.heap → BindsTo s fd ⟨[u], []⟩ [(x, u)])
    (hsp : ∀ H : Hp, Only H → SqL K H a (ns.map V.int) → sp [.ref a] H (fun v _ => v = .bl true) fun _ _ _ => False) :
    codeAny (model P w) callerA (.call (.ref fa) ⟨[.ref a], []⟩) (fun r s' => r = .ok (.ret (.bool true)) ∧ OldK t.heap s'.heap ∧ s'.os = t.os ∧ AllBare s'.gens) t := by
  have rvs := vals_ints hi
  have core : ∀ H : Hp, Only H → SqL K H a (ns.map V.int) → HOk P w H t.heap → (∀ b, H b ≠ none → b = a) → (H a ≠ none → K.lookup a = none) →
      codeAny (model P w) callerA (.call (.ref fa) ⟨[.ref a], []⟩) (fun r s' => r = .ok (.ret (.bool true)) ∧ OldK t.heap s'.heap ∧ s'.os = t.os ∧ AllBare s'.gens) t := by
    intro H only hS hok atA noK
    have dictFree : ∀ {b : Addr} {o : Obj} {es : Array DictEntry} {ep : Nat}, t.heap.get? b = some o → o.data = .dict es ep → H b = none := by
      intro b o es ep e d
      cases q : H b with
      | none => rfl
      | some u =>
        cases atA b (by rw [q]; simp)
        rw [ha] at e
        cases e
        cases d
    have nsT : ∀ {b : Addr} {f : Str → Option Value}, t.heap.Ns b f → (hidT t.heap H).Ns b f := by
      rintro b f ⟨o, es, ep, e, d, r⟩
      exact ⟨o, es, ep, hidT_get e (dictFree e d), d, r⟩
    have kin : K.In (hidT t.heap H) := by
      intro b o e
      refine hidT_get (KX b o e) ?_
      cases q : H b with
      | none => rfl
      | some u =>
        cases atA b (by rw [q]; simp)
        rw [noK (by rw [q]; simp)] at e
        cases e
    have md : Mod K mg (hidT t.heap H) := by
      obtain ⟨mc, l1, l2⟩ := hlim
      exact ⟨kin, nsT hns, ⟨mb, nsT hb, hbb⟩, ⟨mc, nsT l1, l2⟩⟩
    have e0 : Env0 P w K mg (hidT t.heap H) callerA [] t H := ⟨rfl, md, fun b o e => of_hidT e, Nat.le_of_eq (hidT_size _ _), trivial, (fun b z => by cases z), hok, .of_eq hg⟩
    refine codeAny_mono ((F _ kin (nsT hns) (by obtain ⟨mm, hm⟩ := hsm; obtain ⟨o, es, ep, e, d, _⟩ := nsT hm; exact ⟨o, es, ep, e, d⟩)).run callerA [] t H ⟨[.ref a], []⟩ [.ref a] [.ref a] _ _ hr e0 (hbind t (.ref a) KX) (.cons rfl .nil) (hsp H only hS)) fun r s' h => ?_
    rcases r with e | fl
    · obtain ⟨_, _, _, _, _, _, _, _, _, _, _, _, z⟩ := h
      exact z.elim
    · rcases fl with _ | _ | _ | u
      all_goals try exact False.elim h
      obtain ⟨z, H', os, bare, un, hok', rz, q⟩ := h
      have q : z = .bl true := q
      subst q
      cases rz
      refine ⟨rfl, OldK.of_keep fun b o e => ?_, os, bare⟩
      cases q : H b with
      | none => exact un.keep b o e q (by intro z; cases z) (by simp)
      | some u =>
        rcases only b with z | ⟨ob, xs, z⟩
        · rw [q] at z; cases z
        · have w1 := (hok b _ z).1
          have w2 := (hok' b _ (un.frzs b ob _ z)).1
          rw [e] at w1
          cases w1
          exact w2
  cases hk : K.lookup a with
  | some o =>
    have e := KX a o hk
    rw [ha] at e
    cases e
    exact core (fun _ => none) (fun _ => .inl rfl) (.inr ⟨_, vs.toArray, _, hk, rfl, rfl, rfl, by rw [List.size_toArray, hi.length]; exact hl, by simpa using rvs⟩) (fun b u z => by cases z) (fun b z => absurd rfl z) fun z => absurd rfl z
  | none =>
    refine core (fun b => if b = a then some (.frz { cls := .type "list", data := .seq vs.toArray } (.lst (ns.map V.int))) else none) (fun b => ?_) (.inl (.inr ⟨_, if_pos rfl⟩)) (fun b u z => ?_) (fun b z => ?_) fun _ => hk
    · by_cases hb : b = a
      · exact .inr ⟨_, _, if_pos hb⟩
      · exact .inl (if_neg hb)
    · by_cases hb : b = a
      · have y := (if_pos hb).symm.trans z
        cases y
        subst hb
        exact ⟨ha, by rw [List.length_map]; exact hl, vs, _, rvs, ha⟩
      · have y := (if_neg hb).symm.trans z
        cases y
    · by_cases hb : b = a
      · exact hb
      · exact absurd (if_neg hb) z

/-- the goal behind the head, from the program's facts and the law's promise -/
theorem walkG {l : PySem.W.OpenLaw} {q : Program} {loose : List Str} {XP : (Str → Option Value) → Heap → Prop} {YP : World → Heap → Prop} {d : DefRec} {K : Params → PySem.W.Frag} {x : Str} (m : Nat)
    (hq : importsNone q = true) (hn : l.most = some 63) (hdf : d.params.defaults = []) (hr : RoomG (2 * m) callerA) (hY : ∀ (w : World) (h : Heap), YP w h → (K w.params).In h)
    (F : ∀ (w : World) (mg : Str → Option Value) (fa : Addr) (h : Heap), (K w.params).In h → h.Ns mainGlobals mg → mg d.name = some (.ref fa) →
      ∃ (fd : FuncData) (sp : Sp), (∀ (s : Shared) (u : Value), (K w.params).In s.heap → BindsTo s fd ⟨[u], []⟩ [(x, u)]) ∧
        (∀ base : Heap, SysM base → FnG l.prog w (K w.params) mg base (2 * m) fa fd [x] sp) ∧
        ∀ (H : Hp) (a : Addr) (ns : List Int), ns.length ≤ 63 → SqL (K w.params) H a (ns.map V.int) → sp [.ref a] H (fun v _ => v = .bl true) fun _ _ _ => False) :
    PySem.W.WalkO q loose XP YP l.row.toRowW d [] (fun f vs => PySem.call f vs) := by
  refine Att.attach_call hn hdf fun w s₀ s₁ mg mb fa o pm cd doc a vs ns G Y ho hd hcd hmg hobj hints hlen hg => ?_
  have KX := hY w _ Y
  obtain ⟨fd, sp, hb, hF, hS⟩ := F w mg fa _ KX G.T.g hmg
  exact lawG KX (by obtain ⟨mm, hm, _⟩ := (G.T.seer hq).mods; exact ⟨mm, hm⟩) G.T.g G.T.b G.T.builtins G.T.nolimit hg hobj hints (Nat.le_trans hlen (by rw [sizeLine_eq]; decide)) hr (fun base _ _ sm => hF base sm) hb fun H _ h => hS H a ns hlen h
end DI

/-! DI, part 10: a program's code and facts brought together. -/
namespace DI
open L2
open PySem.Spec
open PyProof.Rows hiding St
open PySem

/-- a text by its signs -/
def S (l : List Nat) : Str := ⟨l.toArray⟩

def AllL {α : Type} (p : α → Prop) : List α → Prop
  | [] => True
  | a :: r => p a ∧ AllL p r
theorem allL {α : Type} {p : α → Prop} : ∀ {l : List α}, AllL p l → ∀ a ∈ l, p a
  | [], _, _, h => by cases h
  | b :: r, h, a, ha => by
    rcases List.mem_cons.mp ha with e | ha
    · rw [e]; exact h.1
    · exact allL h.2 a ha
inductive DfAll (P : Program) (w : World) (mg : Str → Option Value) (K : PySem.W.Frag) (t : CK) : List Df → List Addr → Prop
  | nil : DfAll P w mg K t [] []
  | cons {d : Df} {ds : List Df} {f : Addr} {fs : List Addr} (h : ∃ fd, DfOk P w mg K t d f fd) (r : DfAll P w mg K t ds fs) : DfAll P w mg K t (d :: ds) (f :: fs)
theorem DfAll.get {P : Program} {w : World} {mg : Str → Option Value} {K : PySem.W.Frag} {t : CK} {d0 : Df} : ∀ {ds : List Df} {fs : List Addr}, DfAll P w mg K t ds fs → ∀ i, i < ds.length → ∃ fd, DfOk P w mg K t (ds.getD i d0) (fs.getD i 0) fd
  | _, _, .nil, i, h => absurd h (Nat.not_lt_zero i)
  | _, _, .cons h r, 0, _ => h
  | _, _, .cons h r, i + 1, hi => DfAll.get r i (Nat.lt_of_succ_lt_succ hi)
theorem dfOk_mk {P : Program} {w : World} {mg : Str → Option Value} {K : PySem.W.Frag} {t : CK} {d : Df} {st : Stmt} {x qual : Str} {f : Addr} {oc kV doc pm cdv ct : Value} {od an : Option Addr} {osl : Array (Option Value)}
    (l : K.lookup f = some ⟨oc, od, .func (PySem.W.fnOf x qual (defArgs st) (defBody st) (defScope st) .none kV doc pm an cdv ct), osl⟩) (c : PySem.W.codeIn K cdv qual = true)
    (s : C8.scC d.N d.ps (defScope st) = true) (ck : d.body.chk { t with N := d.N, sc := defScope st, blk := false } (defBody st) = true)
    (b : ∀ (kV doc pm : Value) (an : Option Addr) (cdv ct : Value) (us ws : List Value), us.length = d.ps.length - d.kw.length → ws.length = d.kw.length → bindArgs (PySem.W.fnOf x qual (defArgs st) (defBody st) (defScope st) .none kV doc pm an cdv ct) ⟨us, d.kw.zip ws⟩ = pure (d.ps.zip (us ++ ws))) :
    ∃ fd, DfOk P w mg K t d f fd := ⟨_, ⟨x, qual, _, _, _, _, kV, doc, pm, cdv, ct, oc, an, od, osl, rfl, l, c, C8.fnScope_by s, ck, fun s us ws hk h1 h2 => .of_eq (b kV doc pm an cdv ct us ws (by rw [List.length_append] at h2; omega) h1)⟩⟩
/-- every number that is called is one of the defs' -/
def inB (t : CK) (n : Nat) : Bool := (t.calls.all fun f => decide (f < n)) && (t.mths.all fun q => decide (q.2.1 < n)) && t.mks.all fun q => decide (q.2 < n)
theorem inB_of {t : CK} {n f : Nat} (h : inB t n = true) (hf : inFn t f) : f < n := by
  unfold inB at h
  simp only [Bool.and_eq_true, List.all_eq_true, decide_eq_true_eq] at h
  rcases hf with hf | ⟨C, nm, hf⟩ | ⟨C, hf⟩
  · exact h.1.1 f hf
  · exact h.1.2 _ hf
  · exact h.2 _ hf
theorem law_end {P : Program} {w : World} {mg : Str → Option Value} {v : Ev} {t : CK} {Dl : List Df} {d0 : Df} {fl : List Addr} {x : Str} (lawi m : Nat) (B : Base P mg v (fun i => fl.getD i 0) t) (A : DfAll P w mg v.K t Dl fl)
    (hkw : ∀ f, (Dl.getD f d0).kw = t.kw f) (hk0 : (Dl.getD lawi d0).kw = []) (hi : inB t Dl.length = true) (hl : t.calls.contains lawi = true) (hx : (Dl.getD lawi d0).ps = [x]) :
    ∃ fd : FuncData, (∀ (s : Shared) (u : Value), v.K.In s.heap → BindsTo s fd ⟨[u], []⟩ [(x, u)]) ∧
      ∀ base : Heap, SysM base → FnG P w v.K mg base (2 * m) (fl.getD lawi 0) fd [x] (spOf v (fun i => Dl.getD i d0) m lawi) := by
  have hf : inFn t lawi := .inl (by simpa using hl)
  have hd : ∀ f, inFn t f → ∃ fd, DfOk P w mg v.K t (Dl.getD f d0) (fl.getD f 0) fd := fun f h => A.get f (inB_of hi h)
  obtain ⟨fd, h⟩ := hd lawi hf
  have b : Bnd v.K fd (Dl.getD lawi d0).ps (Dl.getD lawi d0).kw := by
    obtain ⟨name, qual, params, body, scope, dV, kV, doc, pm, cdv, ct, oc, an, od, osl, e, lk, hcd, S, ck, b⟩ := h.ex
    subst e
    exact b
  rw [hx, hk0] at b
  refine ⟨fd, fun s u hk => ?_, fun base sm => ?_⟩
  · have q := b s [u] [] hk rfl rfl
    exact q
  · have F := (all_fn (base := base) (D := fun i => Dl.getD i d0) sm B hkw hd m lawi fd h).1
    rw [hx] at F
    exact F
end DI

/-! DI, part 11: worlds. A heap and the addresses whose objects never change again; deep readings; frames. -/
namespace DI
open L2
open PySem.Spec
open PyProof.Rows hiding St
open PySem

structure Wd where
  H : Hp
  S : Addr → Prop
  wf : ∀ b, S b → ∃ o, H b = some o

mutual
/-- x stands for d, all of it sealed -/
inductive Dv (w : Wd) : V → PyData → Prop
  | non : Dv w .non .none
  | bl (b : Bool) : Dv w (.bl b) (.bool b)
  | int (i : Int) : Dv w (.int i) (.int i)
  | str (x : Str) : Dv w (.str x) (.str x)
  | lst {a : Addr} {xs : List V} {ds : List PyData} (s : w.S a) (h : w.H a = some (.lst xs)) (r : Dvs w xs ds) : Dv w (.ref a) (.list ds)
  | tup {a : Addr} {xs : List V} {ds : List PyData} (s : w.S a) (h : w.H a = some (.tup xs)) (r : Dvs w xs ds) : Dv w (.ref a) (.tuple ds)
  | dic {a : Addr} {kvs : List (Key × V)} {ds : List PyData} (s : w.S a) (h : w.H a = some (.dK kvs)) (r : Dvs w (kvs.map (·.2)) ds) : Dv w (.ref a) (.dict ((kvs.map fun kv => kD kv.1).zip ds))
inductive Dvs (w : Wd) : List V → List PyData → Prop
  | nil : Dvs w [] []
  | cons {x : V} {xs : List V} {d : PyData} {ds : List PyData} (h : Dv w x d) (r : Dvs w xs ds) : Dvs w (x :: xs) (d :: ds)
end

/-- from w to w' only what T names was written, or sealed -/
structure Ex (T : List Addr) (w w' : Wd) : Prop where
  op : ∀ b ∈ T, ¬ w.S b
  sub : ∀ b, w.S b → w'.S b
  kp : ∀ b o, w.H b = some o → b ∉ T → w'.H b = some o
  nw : ∀ b, w'.S b → w.S b ∨ w.H b = none ∨ b ∈ T
  al : ∀ b o, w.H b = some o → ∃ o', w'.H b = some o'
/-- an open object -/
structure Op (w : Wd) (a : Addr) (o : HO) : Prop where
  h : w.H a = some o
  n : ¬ w.S a

theorem Ex.refl (w : Wd) : Ex [] w w := ⟨fun _ h => (by cases h), fun _ h => h, fun _ _ h _ => h, fun _ h => .inl h, fun _ o h => ⟨o, h⟩⟩
theorem Ex.free {T : List Addr} {w w' : Wd} (e : Ex T w w') {b : Addr} (h : w'.H b = none) : w.H b = none := by
  cases q : w.H b with
  | none => rfl
  | some o => obtain ⟨o', r⟩ := e.al b o q; rw [h] at r; cases r
theorem Ex.trans {T U : List Addr} {w w1 w2 : Wd} (e : Ex T w w1) (f : Ex U w1 w2) (s : ∀ b ∈ U, b ∈ T ∨ w.H b = none) : Ex T w w2 := by
  refine ⟨e.op, fun b h => f.sub b (e.sub b h), fun b o h n => f.kp b o (e.kp b o h n) fun hb => ?_, fun b h => ?_, fun b o h => ?_⟩
  · rcases s b hb with h' | h'
    · exact n h'
    · rw [h] at h'; cases h'
  · rcases f.nw b h with h | h | h
    · exact e.nw b h
    · exact .inr (.inl (e.free h))
    · rcases s b h with h | h
      · exact .inr (.inr h)
      · exact .inr (.inl h)
  · obtain ⟨o', h⟩ := e.al b o h
    exact f.al b o' h
theorem Ex.more {T U : List Addr} {w w' : Wd} (e : Ex T w w') (s : ∀ b ∈ T, b ∈ U) (n : ∀ b ∈ U, ¬ w.S b) : Ex U w w' :=
  ⟨n, e.sub, fun b o h m => e.kp b o h fun z => m (s b z), fun b h => (e.nw b h).imp id (Or.imp id (s b)), e.al⟩
mutual
theorem Dv.ex {T : List Addr} {w w' : Wd} (e : Ex T w w') : ∀ {d : PyData} {x : V}, Dv w x d → Dv w' x d
  | _, _, .non => .non
  | _, _, .bl b => .bl b
  | _, _, .int i => .int i
  | _, _, .str x => .str x
  | _, _, .lst s h r => .lst (e.sub _ s) (e.kp _ _ h fun hb => e.op _ hb s) (Dvs.ex e r)
  | _, _, .tup s h r => .tup (e.sub _ s) (e.kp _ _ h fun hb => e.op _ hb s) (Dvs.ex e r)
  | _, _, .dic s h r => .dic (e.sub _ s) (e.kp _ _ h fun hb => e.op _ hb s) (Dvs.ex e r)
theorem Dvs.ex {T : List Addr} {w w' : Wd} (e : Ex T w w') : ∀ {ds : List PyData} {xs : List V}, Dvs w xs ds → Dvs w' xs ds
  | _, _, .nil => .nil
  | _, _, .cons h r => .cons (Dv.ex e h) (Dvs.ex e r)
end
theorem Op.ex {T : List Addr} {w w' : Wd} {a : Addr} {o : HO} (e : Ex T w w') (h : Op w a o) (n : a ∉ T) : Op w' a o :=
  ⟨e.kp _ _ h.h n, fun s => by
    rcases e.nw _ s with q | q | q
    · exact h.n q
    · rw [h.h] at q; cases q
    · exact n q⟩
/-- a fresh address is none of the old ones -/
theorem Op.ne {w : Wd} {a b : Addr} {o : HO} (h : Op w a o) (n : w.H b = none) : a ≠ b := by
  intro e; subst e; rw [h.h] at n; cases n

/-! ### making -/
def Wd.put (w : Wd) (a : Addr) (o : HO) : Wd := ⟨upd w.H a o, w.S, fun b h => by
  by_cases e : b = a
  · exact ⟨o, by subst e; exact upd_same⟩
  · rw [upd_ne e]; exact w.wf b h⟩
def Wd.seal (w : Wd) (a : Addr) (o : HO) (h : w.H a = some o) : Wd := ⟨w.H, fun b => w.S b ∨ b = a, fun b q => by
  rcases q with q | q
  · exact w.wf b q
  · subst q; exact ⟨o, h⟩⟩
theorem Wd.notS {w : Wd} {a : Addr} (h : w.H a = none) : ¬ w.S a := fun s => by obtain ⟨o, q⟩ := w.wf a s; rw [h] at q; cases q
theorem ex_new {w : Wd} {p : Addr} {o : HO} (h : w.H p = none) : Ex [] w (w.put p o) :=
  ⟨fun _ z => (by cases z), fun _ z => z, fun b u e _ => by
    show upd w.H p o b = some u
    rw [upd_ne (fun z => by subst z; rw [h] at e; cases e)]; exact e, fun _ z => .inl z, fun b u e => by
    by_cases z : b = p
    · exact ⟨o, by subst z; exact upd_same⟩
    · exact ⟨u, by show upd w.H p o b = some u; rw [upd_ne z]; exact e⟩⟩
theorem op_new {w : Wd} {p : Addr} {o : HO} (h : w.H p = none) : Op (w.put p o) p o := ⟨upd_same, (Wd.notS h : ¬ w.S p)⟩
theorem ex_set {w : Wd} {p : Addr} {o u : HO} (h : Op w p u) : Ex [p] w (w.put p o) :=
  ⟨fun b z => by simp only [List.mem_singleton] at z; subst z; exact h.n, fun _ z => z, fun b u e n => by
    simp only [List.mem_singleton] at n
    show upd w.H p o b = some u
    rw [upd_ne n]; exact e, fun _ z => .inl z, fun b u e => by
    by_cases z : b = p
    · exact ⟨o, by subst z; exact upd_same⟩
    · exact ⟨u, by show upd w.H p o b = some u; rw [upd_ne z]; exact e⟩⟩
theorem op_set {w : Wd} {p : Addr} {o u : HO} (h : Op w p u) : Op (w.put p o) p o := ⟨upd_same, h.n⟩
theorem ex_seal {w : Wd} {p : Addr} {o : HO} (h : Op w p o) : Ex [p] w (w.seal p o h.h) :=
  ⟨fun b z => by simp only [List.mem_singleton] at z; subst z; exact h.n, fun _ z => .inl z, fun b u e _ => e, fun b z => by
    rcases z with z | z
    · exact .inl z
    · exact .inr (.inr (by simp [z])), fun b u e => ⟨u, e⟩⟩
/-- an open list is sealed -/
theorem seal_lst {w : Wd} {p : Addr} {xs : List V} {ds : List PyData} (h : Op w p (.lst xs)) (d : Dvs w xs ds) : ∃ w', w'.H = w.H ∧ Ex [p] w w' ∧ Dv w' (.ref p) (.list ds) :=
  ⟨w.seal p _ h.h, rfl, ex_seal h, .lst (.inr rfl) h.h (d.ex (ex_seal h))⟩

theorem seal_dK {w : Wd} {p : Addr} {kvs : List (Key × V)} {ds : List PyData} (h : Op w p (.dK kvs)) (d : Dvs w (kvs.map (·.2)) ds) : ∃ w', w'.H = w.H ∧ Ex [p] w w' ∧ Dv w' (.ref p) (.dict ((kvs.map fun kv => kD kv.1).zip ds)) :=
  ⟨w.seal p _ h.h, rfl, ex_seal h, .dic (.inr rfl) h.h (d.ex (ex_seal h))⟩
theorem Dv.of_dic {w : Wd} {x : V} {m : List (PyData × PyData)} (h : Dv w x (.dict m)) : ∃ a kvs, x = .ref a ∧ w.S a ∧ w.H a = some (.dK kvs) := by
  cases h with
  | dic s h r => exact ⟨_, _, rfl, s, h⟩
/-- what waits for a made object -/
def KNew (o : HO) (Q : VK) (H : Hp) : Prop := ∀ p, H p = none → Q (.ref p) (upd H p o)
theorem new_op {w : Wd} {o : HO} {Q : VK} (h : ∀ w' p, Ex [] w w' → w.H p = none → Op w' p o → Q (.ref p) w'.H) : KNew o Q w.H := fun p hp => h (w.put p o) p (ex_new hp) hp (op_new hp)
theorem new_tup {w : Wd} {xs : List V} {ds : List PyData} {Q : VK} (d : Dvs w xs ds) (h : ∀ w' x, Ex [] w w' → Dv w' x (.tuple ds) → Q x w'.H) : KNew (.tup xs) Q w.H := fun p hp => by
  have e := ex_new (o := .tup xs) hp
  have o := op_new (o := .tup xs) hp
  have s := ex_seal o
  exact h ((w.put p (.tup xs)).seal p _ o.h) (.ref p) (e.trans s fun b z => .inr (by simp only [List.mem_singleton] at z; subst z; exact hp)) (.tup (.inr rfl) o.h ((d.ex e).ex s))
theorem new_lst {w : Wd} {xs : List V} {ds : List PyData} {Q : VK} (d : Dvs w xs ds) (h : ∀ w' x, Ex [] w w' → Dv w' x (.list ds) → Q x w'.H) : KNew (.lst xs) Q w.H := fun p hp => by
  have e := ex_new (o := .lst xs) hp
  have o := op_new (o := .lst xs) hp
  have s := ex_seal o
  exact h ((w.put p (.lst xs)).seal p _ o.h) (.ref p) (e.trans s fun b z => .inr (by simp only [List.mem_singleton] at z; subst z; exact hp)) (.lst (.inr rfl) o.h ((d.ex e).ex s))

/-! ### deep readings, taken apart -/
theorem Dv.of_int {w : Wd} {x : V} {i : Int} (h : Dv w x (.int i)) : x = .int i := by cases h; rfl
theorem Dv.of_str {w : Wd} {x : V} {i : Str} (h : Dv w x (.str i)) : x = .str i := by cases h; rfl
theorem Dv.of_bl {w : Wd} {x : V} {i : Bool} (h : Dv w x (.bool i)) : x = .bl i := by cases h; rfl
theorem Dv.of_non {w : Wd} {x : V} (h : Dv w x .none) : x = .non := by cases h; rfl
theorem Dv.of_lst {w : Wd} {x : V} {ds : List PyData} (h : Dv w x (.list ds)) : ∃ a xs, x = .ref a ∧ w.S a ∧ w.H a = some (.lst xs) ∧ Dvs w xs ds := by
  cases h with
  | lst s h r => exact ⟨_, _, rfl, s, h, r⟩
theorem Dv.of_tup {w : Wd} {x : V} {ds : List PyData} (h : Dv w x (.tuple ds)) : ∃ a xs, x = .ref a ∧ w.S a ∧ w.H a = some (.tup xs) ∧ Dvs w xs ds := by
  cases h with
  | tup s h r => exact ⟨_, _, rfl, s, h, r⟩
theorem Dvs.length {w : Wd} : ∀ {xs : List V} {ds : List PyData}, Dvs w xs ds → xs.length = ds.length
  | _, _, .nil => rfl
  | _, _, .cons _ r => by simp [r.length]
theorem Dvs.get {w : Wd} : ∀ {xs : List V} {ds : List PyData}, Dvs w xs ds → ∀ {i : Nat} {d : PyData}, ds[i]? = some d → ∃ x, xs[i]? = some x ∧ Dv w x d
  | _, _, .nil, i, d, h => by simp at h
  | _, _, .cons h r, 0, d, e => by simp at e; subst e; exact ⟨_, rfl, h⟩
  | _, _, .cons h r, i + 1, d, e => by simpa using r.get (by simpa using e)
theorem Dvs.get' {w : Wd} : ∀ {xs : List V} {ds : List PyData}, Dvs w xs ds → ∀ {i : Nat} {x : V}, xs[i]? = some x → ∃ d, ds[i]? = some d ∧ Dv w x d
  | _, _, .nil, i, d, h => by simp at h
  | _, _, .cons h r, 0, d, e => by simp at e; subst e; exact ⟨_, rfl, h⟩
  | _, _, .cons h r, i + 1, d, e => by simpa using r.get' (by simpa using e)
theorem Dvs.app {w : Wd} : ∀ {xs ys : List V} {ds es : List PyData}, Dvs w xs ds → Dvs w ys es → Dvs w (xs ++ ys) (ds ++ es)
  | _, _, _, _, .nil, h => h
  | _, _, _, _, .cons h r, h' => .cons h (r.app h')
theorem Dvs.snoc {w : Wd} {xs : List V} {ds : List PyData} {x : V} {d : PyData} (h : Dvs w xs ds) (g : Dv w x d) : Dvs w (xs ++ [x]) (ds ++ [d]) := h.app (.cons g .nil)
theorem Dvs.ints {w : Wd} : ∀ (ns : List Int), Dvs w (ns.map V.int) (ns.map PyData.int)
  | [] => .nil
  | n :: r => .cons (.int n) (Dvs.ints r)
theorem Dvs.of_ints {w : Wd} : ∀ {ns : List Int} {xs : List V}, Dvs w xs (ns.map PyData.int) → xs = ns.map V.int
  | [], _, .nil => rfl
  | n :: r, _, .cons (.int _) q => by simp [Dvs.of_ints q]
theorem Dv.ints {w : Wd} {x : V} {ns : List Int} (h : Dv w x (.list (ns.map .int))) : ∃ a, x = .ref a ∧ w.S a ∧ w.H a = some (.lst (ns.map V.int)) := by
  obtain ⟨a, xs, e, s, h, r⟩ := h.of_lst
  rw [r.of_ints] at h
  exact ⟨a, e, s, h⟩
mutual
theorem Dv.dp {K : PySem.W.Frag} {w : Wd} : ∀ {d : PyData} {x : V}, Dv w x d → Dq K w.H x d
  | _, _, .non => .non
  | _, _, .bl b => .bl b
  | _, _, .int b => .int b
  | _, _, .str b => .str b
  | _, _, .lst _ h r => .lst (.inl (.inl h)) r.dp
  | _, _, .tup _ h r => .tup (.inl (.inl h)) r.dp
  | _, _, .dic _ h r => .dic h r.dp
theorem Dvs.dp {K : PySem.W.Frag} {w : Wd} : ∀ {ds : List PyData} {xs : List V}, Dvs w xs ds → DqAll K w.H xs ds
  | _, _, .nil => .nil
  | _, _, .cons h r => .cons h.dp r.dp
end
/-- an open list, read -/
theorem Op.dp {K : PySem.W.Frag} {w : Wd} {a : Addr} {xs : List V} {ds : List PyData} (o : Op w a (.lst xs)) (r : Dvs w xs ds) : Dq K w.H (.ref a) (.list ds) := .lst (.inl (.inl o.h)) r.dp
theorem sqL {K : PySem.W.Frag} {w : Wd} {a : Addr} {xs : List V} (h : w.H a = some (.lst xs)) : SqL K w.H a xs := .inl (.inl h)
theorem sqT {K : PySem.W.Frag} {w : Wd} {a : Addr} {xs : List V} (h : w.H a = some (.tup xs)) : SqT K w.H a xs := .inl (.inl h)
end DI

/-! DI, part 12: the reading, step by step. -/
namespace DI
open L2
open PySem.Spec
open PyProof.Rows hiding St
open PySem

/-- the environment inside a def's body, n calls deep -/
def evAt (v : Ev) (D : Nat → Df) (n : Nat) : Ev := { v with sp := spOf v D n }
theorem evAt_K (v : Ev) (D : Nat → Df) (n : Nat) : (evAt v D n).K = v.K := rfl
section
variable {v : Ev} {D : Nat → Df} {n : Nat} {W : WX} {σ : St} {H : Hp} {Q : VK} {nx bk ct : St → Hp → Prop} {rt : VK}
theorem r_in {f : Nat} {vs : List V} {E : XK} {b : Sms} {N : List Str} {ps kw : List Str} {σ : St} (e : D f = ⟨ps, N, b, kw⟩) (hl : vs.length = ps.length) (hs : start N vs = σ)
    (h : b.den (evAt v D n) (fun c d _ H' => E c d H') ⟨fun _ H' => Q .non H', Q, fun _ _ => False, fun _ _ => False⟩ σ H) : spOf v D (n + 1) f vs H Q E := by
  subst hs
  show vs.length = (D f).ps.length ∧ _
  rw [e]
  exact ⟨hl, h⟩

/-! ### statements -/
/-- what stands behind a statement, not yet looked at -/
def Nx (v : Ev) (r : Sms) (W : WX) (nx : St → Hp → Prop) (rt : VK) (bk ct : St → Hp → Prop) : St → Hp → Prop := fun σ H => r.den v W ⟨nx, rt, bk, ct⟩ σ H
theorem r_nx {r : Sms} (h : r.den v W ⟨nx, rt, bk, ct⟩ σ H) : Nx v r W nx rt bk ct σ H := h
theorem r_one {s : Sm} (h : s.den v W ⟨nx, rt, bk, ct⟩ σ H) : Sms.den v (.cons s .nil) W ⟨nx, rt, bk, ct⟩ σ H := h
theorem r_sq {s : Sm} {r : Sms} (h : s.den v W ⟨Nx v r W nx rt bk ct, rt, bk, ct⟩ σ H) : Sms.den v (.cons s r) W ⟨nx, rt, bk, ct⟩ σ H := h
theorem r_nil (h : nx σ H) : Sms.den v .nil W ⟨nx, rt, bk, ct⟩ σ H := h
/-- a target waits for its value -/
def KTg (v : Ev) (g : Tg) (W : WX) (σ : St) (P : St → Hp → Prop) : VK := fun x H => g.den v W x σ H P
theorem r_asg {g : Tg} {e : Xp} (h : e.den v W σ H (KTg v g W σ nx)) : Sm.den v (.asg g e) W ⟨nx, rt, bk, ct⟩ σ H := h
theorem r_asl {i : Nat} {el : Xp} {tg : Tg} {it : Sq} {ifs : Tto} {own : List Nat} (h : (Xp.lc el tg it ifs own).den v W σ H (KTg v (.nm i) W σ nx)) : Sm.den v (.asl i el tg it ifs own) W ⟨nx, rt, bk, ct⟩ σ H := h
theorem r_exp {e : Xp} (h : e.den v W σ H (fun _ H1 => nx σ H1)) : Sm.den v (.exp e) W ⟨nx, rt, bk, ct⟩ σ H := h
theorem r_ret {e : Xp} (h : e.den v W σ H rt) : Sm.den v (.ret e) W ⟨nx, rt, bk, ct⟩ σ H := h
theorem r_retN (h : rt .non H) : Sm.den v .retN W ⟨nx, rt, bk, ct⟩ σ H := h
theorem r_pass (h : nx σ H) : Sm.den v .pass W ⟨nx, rt, bk, ct⟩ σ H := h
theorem r_brk (h : bk σ H) : Sm.den v .brk W ⟨nx, rt, bk, ct⟩ σ H := h
theorem r_cnt (h : ct σ H) : Sm.den v .cnt W ⟨nx, rt, bk, ct⟩ σ H := h
/-- two ways -/
def KIf (v : Ev) (a b : Sms) (W : WX) (D : Ends) (σ : St) : Bool → Hp → Prop := fun c H => if c = true then a.den v W D σ H else b.den v W D σ H
theorem r_ite {t : Tt} {a b : Sms} {D : Ends} (h : t.den v W σ H (KIf v a b W D σ)) : Sm.den v (.ite t a b) W D σ H := h
theorem kif_t {a b : Sms} {D : Ends} (h : a.den v W D σ H) : KIf v a b W D σ true H := h
theorem kif_f {a b : Sms} {D : Ends} (h : b.den v W D σ H) : KIf v a b W D σ false H := h
theorem kif_d {a b : Sms} {D : Ends} {p : Prop} [Decidable p] (ht : p → a.den v W D σ H) (hf : ¬ p → b.den v W D σ H) : KIf v a b W D σ (decide p) H := by
  by_cases h : p
  · rw [decide_eq_true h]; exact ht h
  · rw [decide_eq_false h]; exact hf h
theorem kif_n {a b : Sms} {D : Ends} {p : Prop} [Decidable p] (ht : ¬ p → a.den v W D σ H) (hf : p → b.den v W D σ H) : KIf v a b W D σ (!decide p) H := by
  by_cases h : p
  · rw [decide_eq_true h]; exact hf h
  · rw [decide_eq_false h]; exact ht h
theorem kif_b {a b : Sms} {D : Ends} {c : Bool} (ht : c = true → a.den v W D σ H) (hf : c = false → b.den v W D σ H) : KIf v a b W D σ c H := by
  cases c with
  | true => exact ht rfl
  | false => exact hf rfl
/-- op= -/
def KAu (K : PySem.W.Frag) (i : Nat) (op : Operator) (x : V) (P : St → Hp → Prop) (σ : St) : VK := fun y H1 => rAug K op x y H1 fun z H2 => P (σ.set i (some z)) H2
def KAg (o : Option (Option V)) (v : Ev) (i : Nat) (op : Operator) (e : Xp) (W : WX) (P : St → Hp → Prop) (σ : St) (H : Hp) : Prop := match o with
  | some (some x) => e.den v W σ H (KAu v.K i op x P σ)
  | _ => False
theorem r_aug {i : Nat} {op : Operator} {e : Xp} (h : KAg σ[i]? v i op e W nx σ H) : Sm.den v (.aug i op e) W ⟨nx, rt, bk, ct⟩ σ H := by
  show tAugA i _ _ _ σ H
  unfold tAugA
  revert h
  unfold KAg
  cases σ[i]? with
  | none => exact id
  | some o => cases o with
    | none => exact id
    | some x => exact id
theorem k_ag {i : Nat} {op : Operator} {e : Xp} {P : St → Hp → Prop} {x : V} (h : e.den v W σ H (KAu v.K i op x P σ)) : KAg (some (some x)) v i op e W P σ H := h
theorem k_aug_add {K : PySem.W.Frag} {i : Nat} {a b : Int} {P : St → Hp → Prop} (h : P (σ.set i (some (.int (a + b)))) H) : KAu K i .Add (.int a) P σ (.int b) H := h
theorem k_aug_adds {K : PySem.W.Frag} {i : Nat} {a b : Str} {P : St → Hp → Prop} (hl : a.length + b.length ≤ sizeLine) (h : P (σ.set i (some (.str (a ++ b)))) H) : KAu K i .Add (.str a) P σ (.str b) H := ⟨hl, h⟩
theorem k_aug_sub {K : PySem.W.Frag} {i : Nat} {a b : Int} {P : St → Hp → Prop} (h : P (σ.set i (some (.int (a - b)))) H) : KAu K i .Sub (.int a) P σ (.int b) H := h

/-! ### targets -/
theorem k_tg {g : Tg} {P : St → Hp → Prop} {x : V} (h : g.den v W x σ H P) : KTg v g W σ P x H := h
theorem k_nm {i : Nat} {P : St → Hp → Prop} {x : V} (h : P (σ.set i (some x)) H) : KTg v (.nm i) W σ P x H := h
theorem g_nm {i : Nat} {P : St → Hp → Prop} {x : V} (h : P (σ.set i (some x)) H) : Tg.den v (.nm i) W x σ H P := h
def KTs (v : Ev) (gs : Tgs) (W : WX) (P : St → Hp → Prop) : List V → St → Hp → Prop := fun xs σ H => gs.den v W xs σ H P
theorem g_tup {w : Wd} {gs : Tgs} {P : St → Hp → Prop} {x : V} {ds : List PyData} (hx : Dv w x (.tuple ds)) (hn : ds.length = gs.len) (h : ∀ xs, Dvs w xs ds → KTs v gs W P xs σ w.H) : Tg.den v (.tup gs) W x σ w.H P := by
  obtain ⟨a, xs, e, s, q, r⟩ := hx.of_tup
  exact .inl ⟨a, xs, e, sqT q, by rw [r.length, hn], h xs r⟩
theorem g_lst {w : Wd} {gs : Tgs} {P : St → Hp → Prop} {x : V} {ds : List PyData} (hx : Dv w x (.list ds)) (hn : ds.length = gs.len) (h : ∀ xs, Dvs w xs ds → KTs v gs W P xs σ w.H) : Tg.den v (.tup gs) W x σ w.H P := by
  obtain ⟨a, xs, e, s, q, r⟩ := hx.of_lst
  exact .inr ⟨a, xs, e, sqL q, by rw [r.length, hn], h xs r⟩
theorem g_nil {P : St → Hp → Prop} (h : P σ H) : KTs v .nil W P [] σ H := ⟨rfl, h⟩
theorem g_cons {g : Tg} {gs : Tgs} {P : St → Hp → Prop} {x : V} {xs : List V} (h : g.den v W x σ H (KTs v gs W P xs)) : KTs v (.cons g gs) W P (x :: xs) σ H := ⟨x, xs, rfl, h⟩
theorem g_cons_nm {i : Nat} {gs : Tgs} {P : St → Hp → Prop} {x : V} {xs : List V} (h : KTs v gs W P xs (σ.set i (some x)) H) : KTs v (.cons (.nm i) gs) W P (x :: xs) σ H := ⟨x, xs, rfl, h⟩
def KSub (v : Ev) (i : Xp) (W : WX) (P : St → Hp → Prop) (x : V) (σ : St) : VK := fun o H => i.den v W σ H fun y H2 => rSetA o y x H2 fun H3 => P σ H3
def KSet (P : St → Hp → Prop) (o x : V) (σ : St) : VK := fun y H => rSetA o y x H fun H3 => P σ H3
theorem g_sub {o i : Xp} {P : St → Hp → Prop} {x : V} (h : o.den v W σ H (KSub v i W P x σ)) : Tg.den v (.sub o i) W x σ H P := h
theorem k_sub {i : Xp} {P : St → Hp → Prop} {o x : V} (h : i.den v W σ H (KSet P o x σ)) : KSub v i W P x σ o H := h
theorem k_set_lst {w : Wd} {a : Addr} {xs : List V} {k : Int} {j : Nat} {x : V} {P : St → Hp → Prop} (o : Op w a (.lst xs)) (hj : ixN xs.length k = some j) (h : ∀ w', Ex [a] w w' → Op w' a (.lst (xs.set j x)) → P σ w'.H) : KSet P (.ref a) x σ (.int k) w.H :=
  RSetR.lst o.h rfl hj (h (w.put a _) (ex_set o) (op_set o))
theorem k_set_dK {w : Wd} {a : Addr} {kvs : List (Key × V)} {k : Key} {x y : V} {P : St → Hp → Prop} (o : Op w a (.dK kvs)) (hy : y = kV k) (hl : kvs.length < sizeLine) (h : ∀ w', Ex [a] w w' → Op w' a (.dK (putK kvs k x)) → P σ w'.H) : KSet P (.ref a) x σ y w.H := by
  subst hy
  exact RSetR.dict (DPut.k o.h hl) (h (w.put a _) (ex_set o) (op_set o))
theorem k_set_dT {w : Wd} {a b : Addr} {kvs : List (List Key × V)} {k : List Key} {x : V} {P : St → Hp → Prop} (o : Op w a (.dT kvs)) (hy : w.H b = some (.tup (k.map kV))) (hl : kvs.length < sizeLine) (h : ∀ w', Ex [a] w w' → Op w' a (.dT (putK kvs k x)) → P σ w'.H) : KSet P (.ref a) x σ (.ref b) w.H :=
  RSetR.dict (DPut.t o.h hy hl) (h (w.put a _) (ex_set o) (op_set o))

/-! ### expressions -/
def KV (o : Option (Option V)) (Q : VK) (H : Hp) : Prop := match o with
  | some (some x) => Q x H
  | _ => False
theorem e_v {i : Nat} (h : KV σ[i]? Q H) : Xp.den v (.v i) W σ H Q := h
theorem k_v {x : V} (h : Q x H) : KV (some (some x)) Q H := h
theorem e_c {x : V} (h : Q x H) : Xp.den v (.c x) W σ H Q := h
theorem e_g {i : Nat} (h : Q (v.gv i) H) : Xp.den v (.g i) W σ H Q := h
theorem e_ty {s : String} (h : Q (.ty s) H) : Xp.den v (.ty s) W σ H Q := h
def KB1 (v : Ev) (op : Operator) (b : Xp) (W : WX) (σ : St) (Q : VK) : VK := fun x H => b.den v W σ H fun y H2 => rBin v.K op x y H2 Q
def KB2 (K : PySem.W.Frag) (op : Operator) (x : V) (Q : VK) : VK := fun y H => rBin K op x y H Q
theorem e_bin {op : Operator} {a b : Xp} (h : a.den v W σ H (KB1 v op b W σ Q)) : Xp.den v (.bin op a b) W σ H Q := h
theorem k_b1 {op : Operator} {b : Xp} {x : V} (h : b.den v W σ H (KB2 v.K op x Q)) : KB1 v op b W σ Q x H := h
section
variable {K : PySem.W.Frag} {i j : Int}
theorem o_add (h : Q (.int (i + j)) H) : KB2 K .Add (.int i) Q (.int j) H := h
theorem o_sub (h : Q (.int (i - j)) H) : KB2 K .Sub (.int i) Q (.int j) H := h
theorem o_mul (c : CMul i j) (h : Q (.int (i * j)) H) : KB2 K .Mult (.int i) Q (.int j) H := ⟨c, h⟩
theorem o_fdv (c : 0 < j) (c2 : j.natAbs.log2 < 9000) (h : Q (.int (i / j)) H) : KB2 K .FloorDiv (.int i) Q (.int j) H := ⟨⟨c, c2⟩, h⟩
theorem o_mod (c : 0 < j) (h : Q (.int (i % j)) H) : KB2 K .Mod (.int i) Q (.int j) H := ⟨c, h⟩
theorem o_pow (c : CPow i j) (h : Q (.int (i ^ j.toNat)) H) : KB2 K .Pow (.int i) Q (.int j) H := ⟨c, h⟩
theorem o_shl (c : CPow i j ∨ CShl i j) (h : Q (.int (i * 2 ^ j.toNat)) H) : KB2 K .LShift (.int i) Q (.int j) H := ⟨c, h⟩
theorem o_shr (c : 0 ≤ j) (h : Q (.int (i / 2 ^ j.toNat)) H) : KB2 K .RShift (.int i) Q (.int j) H := ⟨c, h⟩
theorem o_and (h : Q (.int (Builtin.bitAnd i j)) H) : KB2 K .BitAnd (.int i) Q (.int j) H := h
theorem o_or (h : Q (.int (Builtin.bitOr i j)) H) : KB2 K .BitOr (.int i) Q (.int j) H := h
theorem o_xor (h : Q (.int (Builtin.bitXor i j)) H) : KB2 K .BitXor (.int i) Q (.int j) H := h
theorem o_adds {a b : Str} (c : a.length + b.length ≤ sizeLine) (h : Q (.str (a ++ b)) H) : KB2 K .Add (.str a) Q (.str b) H := ⟨c, h⟩
/-- list + list, both open: an open list -/
theorem o_addl {w : Wd} {a b : Addr} {xs ys : List V} (ha : w.H a = some (.lst xs)) (hb : w.H b = some (.lst ys)) (c : xs.length + ys.length ≤ sizeLine) (h : KNew (.lst (xs ++ ys)) Q w.H) : KB2 K .Add (.ref a) Q (.ref b) w.H :=
  RCat.lst ha hb c h
theorem o_addL {w : Wd} {x y : V} {ds es : List PyData} (ha : Dv w x (.list ds)) (hb : Dv w y (.list es)) (c : ds.length + es.length ≤ sizeLine) (h : ∀ w' z, Ex [] w w' → Dv w' z (.list (ds ++ es)) → Q z w'.H) : KB2 K .Add x Q y w.H := by
  obtain ⟨a, xs, rfl, s, ha, r⟩ := ha.of_lst
  obtain ⟨b, ys, rfl, t, hb, u⟩ := hb.of_lst
  exact RCat.lst ha hb (by rw [r.length, u.length]; exact c) (new_lst (r.app u) h)
theorem o_addT {w : Wd} {x y : V} {ds es : List PyData} (ha : Dv w x (.tuple ds)) (hb : Dv w y (.tuple es)) (c : ds.length + es.length ≤ sizeLine) (h : ∀ w' z, Ex [] w w' → Dv w' z (.tuple (ds ++ es)) → Q z w'.H) : KB2 K .Add x Q y w.H := by
  have ha0 := ha; have hb0 := hb
  obtain ⟨a, xs, rfl, s, ha, r⟩ := ha.of_tup
  obtain ⟨b, ys, rfl, t, hb, u⟩ := hb.of_tup
  refine RCat.tup (sqT ha) (sqT hb) (by rw [r.length, u.length]; exact c) (fun e => ?_) (fun _ e => ?_) fun _ _ => new_tup (r.app u) h
  · subst e
    have : ds = [] := by cases r; rfl
    subst this
    exact h w _ (Ex.refl w) hb0
  · subst e
    have : es = [] := by cases u; rfl
    subst this
    exact h w _ (Ex.refl w) (by simpa using ha0)
/-- [x] * k -/
theorem o_rep {w : Wd} {a : Addr} {xs : List V} {k : Int} (ha : w.H a = some (.lst xs)) (h1 : -(2 ^ 63) ≤ k) (h2 : k < 2 ^ 63) (c : xs.length * k.toNat ≤ sizeLine) (h : KNew (.lst (List.replicate k.toNat xs).flatten) Q w.H) : KB2 K .Mult (.ref a) Q (.int k) w.H :=
  RRep.lst ha h1 h2 c h
end
theorem e_neg {a : Xp} (h : a.den v W σ H (fun x H1 => rU (fun i => .int (-i)) x H1 Q)) : Xp.den v (.neg a) W σ H Q := h
theorem k_neg {i : Int} (h : Q (.int (-i)) H) : rU (fun i => .int (-i)) (.int i) H Q := ⟨i, rfl, h⟩
def KC1 (v : Ev) (op : CmpOp) (b : Xp) (W : WX) (σ : St) (P : Bool → Hp → Prop) : VK := fun x H => b.den v W σ H fun y H2 => rCmpB v.K op x y H2 fun c => P c H2
def KC2 (K : PySem.W.Frag) (op : CmpOp) (x : V) (P : Bool → Hp → Prop) : VK := fun y H => rCmpB K op x y H fun c => P c H
def KBl (Q : VK) : Bool → Hp → Prop := fun c H => Q (.bl c) H
theorem k_bl {c : Bool} (h : Q (.bl c) H) : KBl Q c H := h
theorem e_cmp {op : CmpOp} {a b : Xp} (h : a.den v W σ H (KC1 v op b W σ (KBl Q))) : Xp.den v (.cmp op a b) W σ H Q := h
theorem k_c1 {op : CmpOp} {b : Xp} {x : V} {P : Bool → Hp → Prop} (h : b.den v W σ H (KC2 v.K op x P)) : KC1 v op b W σ P x H := h
section
variable {K : PySem.W.Frag} {i j : Int} {P : Bool → Hp → Prop}
theorem c_eq (h : P (decide (i = j)) H) : KC2 K .Eq (.int i) P (.int j) H := h
theorem c_ne (h : P (!decide (i = j)) H) : KC2 K .NotEq (.int i) P (.int j) H := h
theorem c_lt (h : P (decide (i < j)) H) : KC2 K .Lt (.int i) P (.int j) H := h
theorem c_le (h : P (decide (i ≤ j)) H) : KC2 K .LtE (.int i) P (.int j) H := h
theorem c_gt (h : P (decide (j < i)) H) : KC2 K .Gt (.int i) P (.int j) H := h
theorem c_ge (h : P (decide (j ≤ i)) H) : KC2 K .GtE (.int i) P (.int j) H := h
theorem c_eqs {a b : Str} (h : P (decide (a = b)) H) : KC2 K .Eq (.str a) P (.str b) H := h
theorem c_nes {a b : Str} (h : P (!decide (a = b)) H) : KC2 K .NotEq (.str a) P (.str b) H := h
theorem c_eqb {a b : Bool} (h : P (decide (a = b)) H) : KC2 K .Eq (.bl a) P (.bl b) H := h
theorem c_neb {a b : Bool} (h : P (!decide (a = b)) H) : KC2 K .NotEq (.bl a) P (.bl b) H := h
theorem rEqB_of {x y : V} {Q : Bool → Prop} (h : REq K x y H Q) : rEqB K x y H Q := by
  unfold rEqB
  split
  all_goals try exact h
  all_goals
    cases h with
    | scal _ q => simpa using q
    | deep hd he _ _ q => cases hd; cases he; simpa [PyData.eqv, beq_iff_eq, ← Bool.beq_eq_decide_eq] using q
theorem c_eqD {w : Wd} {x y : V} {d e : PyData} (hd : Dq K w.H x d) (he : Dq K w.H y e) (sd : SeqAt.shaped d = true) (se : SeqAt.shaped e = true) (h : P (PyData.eqv d e) w.H) : KC2 K .Eq x P y w.H := rEqB_of (Q := fun c => P c w.H) (.deep hd he sd se h)
theorem c_neD {w : Wd} {x y : V} {d e : PyData} (hd : Dq K w.H x d) (he : Dq K w.H y e) (sd : SeqAt.shaped d = true) (se : SeqAt.shaped e = true) (h : P (!PyData.eqv d e) w.H) : KC2 K .NotEq x P y w.H := rEqB_of (Q := fun c => P (!c) w.H) (.deep hd he sd se h)
theorem c_isN {x : V} (h : P (decide (x = .non)) H) : KC2 K .Is x P .non H := .inl ⟨rfl, h⟩
theorem c_isnN {x : V} (h : P (!decide (x = .non)) H) : KC2 K .IsNot x P .non H := .inl ⟨rfl, h⟩
theorem c_isB {a b : Bool} (h : P (decide (a = b)) H) : KC2 K .Is (.bl a) P (.bl b) H := .inr ⟨a, b, rfl, rfl, h⟩
theorem c_isnB {a b : Bool} (h : P (!decide (a = b)) H) : KC2 K .IsNot (.bl a) P (.bl b) H := .inr ⟨a, b, rfl, rfl, h⟩
theorem c_in_dK {w : Wd} {a : Addr} {kvs : List (Key × V)} {k : Key} {y : V} (o : w.H a = some (.dK kvs)) (hy : y = kV k) (h : P (valV kvs k).isSome w.H) : KC2 K .In y P (.ref a) w.H := by subst hy; exact RIn.dict (DGet.k o) h
theorem c_nin_dK {w : Wd} {a : Addr} {kvs : List (Key × V)} {k : Key} {y : V} (o : w.H a = some (.dK kvs)) (hy : y = kV k) (h : P (!(valV kvs k).isSome) w.H) : KC2 K .NotIn y P (.ref a) w.H := by subst hy; exact RIn.dict (DGet.k o) h
theorem c_in_l {w : Wd} {a : Addr} {xs : List V} {y : V} (o : w.H a = some (.lst xs)) (fx : flatV y = true) (fs : xs.all flatV = true) (h : P (inV y xs) w.H) : KC2 K .In y P (.ref a) w.H := RIn.flat (.inl (sqL o)) fx fs h
theorem c_nin_l {w : Wd} {a : Addr} {xs : List V} {y : V} (o : w.H a = some (.lst xs)) (fx : flatV y = true) (fs : xs.all flatV = true) (h : P (!inV y xs) w.H) : KC2 K .NotIn y P (.ref a) w.H := RIn.flat (.inl (sqL o)) fx fs h
end
def KAnd (v : Ev) (b : Xp) (W : WX) (σ : St) (Q : VK) : VK := fun x H => match x with
  | .bl k => if k = true then b.den v W σ H Q else Q (.bl false) H
  | _ => False
def KOr (v : Ev) (b : Xp) (W : WX) (σ : St) (Q : VK) : VK := fun x H => match x with
  | .bl k => if k = true then Q (.bl true) H else b.den v W σ H Q
  | _ => False
theorem e_and {a b : Xp} (h : a.den v W σ H (KAnd v b W σ Q)) : Xp.den v (.and a b) W σ H Q := h
theorem e_or {a b : Xp} (h : a.den v W σ H (KOr v b W σ Q)) : Xp.den v (.or a b) W σ H Q := h
theorem k_and {b : Xp} {c : Bool} (ht : c = true → b.den v W σ H Q) (hf : c = false → Q (.bl false) H) : KAnd v b W σ Q (.bl c) H := by
  cases c with
  | true => exact ht rfl
  | false => exact hf rfl
theorem k_or {b : Xp} {c : Bool} (ht : c = true → Q (.bl true) H) (hf : c = false → b.den v W σ H Q) : KOr v b W σ Q (.bl c) H := by
  cases c with
  | true => exact ht rfl
  | false => exact hf rfl
theorem e_not {a : Xp} (h : a.den v W σ H (fun x H1 => match x with | .bl b => Q (.bl (!b)) H1 | _ => False)) : Xp.den v (.not a) W σ H Q := h
def KIx (v : Ev) (a b : Xp) (W : WX) (Q : VK) (σ : St) : Bool → Hp → Prop := fun c H => if c = true then a.den v W σ H Q else b.den v W σ H Q
theorem e_ite {t : Tt} {a b : Xp} (h : t.den v W σ H (KIx v a b W Q σ)) : Xp.den v (.ite t a b) W σ H Q := h
theorem k_ix {a b : Xp} {c : Bool} (ht : c = true → a.den v W σ H Q) (hf : c = false → b.den v W σ H Q) : KIx v a b W Q σ c H := by
  cases c with
  | true => exact ht rfl
  | false => exact hf rfl
/-! argument lists -/
def KAs (v : Ev) (r : Xps) (W : WX) (σ : St) (P : List V → Hp → Prop) : VK := fun x H => r.den v W σ H fun xs H2 => P (x :: xs) H2
def KCn (x : V) (P : List V → Hp → Prop) : List V → Hp → Prop := fun xs H => P (x :: xs) H
theorem a_nil {P : List V → Hp → Prop} (h : P [] H) : Xps.den v .nil W σ H P := h
theorem a_cons {e : Xp} {r : Xps} {P : List V → Hp → Prop} (h : e.den v W σ H (KAs v r W σ P)) : Xps.den v (.cons e r) W σ H P := h
theorem k_as {r : Xps} {P : List V → Hp → Prop} {x : V} (h : r.den v W σ H (KCn x P)) : KAs v r W σ P x H := h
theorem k_cn {P : List V → Hp → Prop} {x : V} {xs : List V} (h : P (x :: xs) H) : KCn x P xs H := h
def KTup (Q : VK) : List V → Hp → Prop := fun xs H1 => xs.length ≤ sizeLine ∧ KNew (.tup xs) Q H1
def KLst (Q : VK) : List V → Hp → Prop := fun xs H1 => xs.length ≤ sizeLine ∧ KNew (.lst xs) Q H1
theorem e_tup {es : Xps} (h : es.den v W σ H (KTup Q)) : Xp.den v (.tup es) W σ H Q := h
theorem e_lst {es : Xps} (h : es.den v W σ H (KLst Q)) : Xp.den v (.lst es) W σ H Q := h
theorem small_len {xs : List V} (h : xs.length ≤ 1000 := by decide) : xs.length ≤ sizeLine := by rw [sizeLine_eq]; omega
theorem k_tup {w : Wd} {xs : List V} {ds : List PyData} (hl : xs.length ≤ 1000) (d : Dvs w xs ds) (h : ∀ w' x, Ex [] w w' → Dv w' x (.tuple ds) → Q x w'.H) : KTup Q xs w.H := ⟨small_len hl, new_tup d h⟩
theorem k_lst {w : Wd} {xs : List V} {ds : List PyData} (hl : xs.length ≤ 1000) (d : Dvs w xs ds) (h : ∀ w' x, Ex [] w w' → Dv w' x (.list ds) → Q x w'.H) : KLst Q xs w.H := ⟨small_len hl, new_lst d h⟩
theorem k_lstO {w : Wd} {xs : List V} (hl : xs.length ≤ 1000) (h : ∀ w' p, Ex [] w w' → w.H p = none → Op w' p (.lst xs) → Q (.ref p) w'.H) : KLst Q xs w.H := ⟨small_len hl, new_op h⟩
theorem e_d0 (h : KNew (.dK []) Q H) : Xp.den v .dct0 W σ H Q := h
theorem e_dT0 (h : KNew (.dT []) Q H) : Xp.den v .dctT0 W σ H Q := h
/-! subscripts -/
def KI1 (v : Ev) (b : Xp) (W : WX) (σ : St) (Q : VK) : VK := fun x H => b.den v W σ H fun y H2 => rIxA v.K x y H2 Q
def KI2 (K : PySem.W.Frag) (x : V) (Q : VK) : VK := fun y H => rIxA K x y H Q
theorem e_ix {a b : Xp} (h : a.den v W σ H (KI1 v b W σ Q)) : Xp.den v (.ix a b) W σ H Q := h
theorem k_i1 {b : Xp} {x : V} (h : b.den v W σ H (KI2 v.K x Q)) : KI1 v b W σ Q x H := h
theorem atI_pos {α : Type} {xs : List α} {i : Int} {y : α} (hi : 0 ≤ i) (e : xs[i.toNat]? = some y) : atI xs i = some y := by
  have hl : i.toNat < xs.length := by
    rcases Nat.lt_or_ge i.toNat xs.length with h | h
    · exact h
    · rw [List.getElem?_eq_none h] at e; cases e
  unfold atI ixN
  rw [if_pos hi, if_pos (by omega)]
  exact e
theorem atI_neg {α : Type} {xs : List α} {i : Int} {y : α} (hi : i < 0) (hl : 0 ≤ i + xs.length) (e : xs[(i + xs.length).toNat]? = some y) : atI xs i = some y := by
  unfold atI ixN
  rw [if_neg (by omega), if_pos (by omega)]
  exact e
section
variable {K : PySem.W.Frag} {w : Wd}
theorem i_L {x : V} {ds : List PyData} {i : Int} {d : PyData} (hx : Dv w x (.list ds)) (hi : 0 ≤ i) (hd : ds[i.toNat]? = some d) (h : ∀ y, Dv w y d → Q y w.H) : KI2 K x Q (.int i) w.H := by
  obtain ⟨a, xs, rfl, s, e, r⟩ := hx.of_lst
  obtain ⟨y, hy, q⟩ := r.get hd
  exact RIxR.lst (sqL e) rfl (atI_pos hi hy) (h y q)
theorem i_T {x : V} {ds : List PyData} {i : Int} {d : PyData} (hx : Dv w x (.tuple ds)) (hi : 0 ≤ i) (hd : ds[i.toNat]? = some d) (h : ∀ y, Dv w y d → Q y w.H) : KI2 K x Q (.int i) w.H := by
  obtain ⟨a, xs, rfl, s, e, r⟩ := hx.of_tup
  obtain ⟨y, hy, q⟩ := r.get hd
  exact RIxR.tup (sqT e) rfl (atI_pos hi hy) (h y q)
theorem i_Li {x : V} {ds : List PyData} {i : Int} {k : Int} (hx : Dv w x (.list ds)) (hi : 0 ≤ i) (hd : ds[i.toNat]? = some (.int k)) (h : Q (.int k) w.H) : KI2 K x Q (.int i) w.H := i_L hx hi hd fun y q => by rw [q.of_int]; exact h
theorem i_Ti {x : V} {ds : List PyData} {i : Int} {k : Int} (hx : Dv w x (.tuple ds)) (hi : 0 ≤ i) (hd : ds[i.toNat]? = some (.int k)) (h : Q (.int k) w.H) : KI2 K x Q (.int i) w.H := i_T hx hi hd fun y q => by rw [q.of_int]; exact h
theorem i_O {a : Addr} {xs : List V} {i : Int} {y : V} (e : w.H a = some (.lst xs)) (hi : 0 ≤ i) (hy : xs[i.toNat]? = some y) (h : Q y w.H) : KI2 K (.ref a) Q (.int i) w.H := RIxR.lst (sqL e) rfl (atI_pos hi hy) h
theorem i_On {a : Addr} {xs : List V} {i : Int} {y : V} (e : w.H a = some (.lst xs)) (hi : i < 0) (hl : 0 ≤ i + xs.length) (hy : xs[(i + xs.length).toNat]? = some y) (h : Q y w.H) : KI2 K (.ref a) Q (.int i) w.H := RIxR.lst (sqL e) rfl (atI_neg hi hl hy) h
theorem i_dK {a : Addr} {kvs : List (Key × V)} {k : Key} {y z : V} (o : w.H a = some (.dK kvs)) (hy : y = kV k) (hz : valV kvs k = some z) (h : Q z w.H) : KI2 K (.ref a) Q y w.H := by
  subst hy
  exact RIxR.dict (by have := DGet.k (k := k) o; rwa [hz] at this) h
/-! len and its like -/
def KBf (K : PySem.W.Frag) (b : Bf) (Q : VK) : List V → Hp → Prop := fun vs H => rBf K b vs H Q
theorem e_bc {b : Bf} {es : Xps} (h : es.den v W σ H (KBf v.K b Q)) : Xp.den v (.bc b es) W σ H Q := h
theorem f_lenL {x : V} {ds : List PyData} (hx : Dv w x (.list ds)) (h : Q (.int ds.length) w.H) : KBf K .len Q [x] w.H := by
  obtain ⟨a, xs, rfl, s, e, r⟩ := hx.of_lst
  exact RLen.lst (sqL e) (by rw [r.length]; exact h)
theorem f_lenT {x : V} {ds : List PyData} (hx : Dv w x (.tuple ds)) (h : Q (.int ds.length) w.H) : KBf K .len Q [x] w.H := by
  obtain ⟨a, xs, rfl, s, e, r⟩ := hx.of_tup
  exact RLen.tup (sqT e) (by rw [r.length]; exact h)
theorem f_lenO {a : Addr} {xs : List V} (e : w.H a = some (.lst xs)) (h : Q (.int xs.length) w.H) : KBf K .len Q [.ref a] w.H := RLen.lst (sqL e) h
theorem f_lenS {s : Str} (hl : s.length ≤ sizeLine) (h : Q (.int s.length) H) : KBf K .len Q [.str s] H := ⟨hl, h⟩
theorem f_int {i : Int} (h : Q (.int i) H) : KBf K .int Q [.int i] H := h
theorem f_intb {b : Bool} (h : Q (.int (if b = true then 1 else 0)) H) : KBf K .int Q [.bl b] H := h
theorem f_abs {i : Int} (h : Q (.int (if i < 0 then -i else i)) H) : KBf K .abs Q [.int i] H := h
theorem f_max {i j : Int} (h : Q (.int (if j > i then j else i)) H) : KBf K .max Q [.int i, .int j] H := h
theorem f_min {i j : Int} (h : Q (.int (if j < i then j else i)) H) : KBf K .min Q [.int i, .int j] H := h
theorem f_isi {x c : V} {t u : Value} {b : Bool} (hc : ClsV c u) (ht : TyX K H x t) (hk : PySem.W.kitOne K t u = some b) (h : Q (.bl b) H) : KBf K .isi Q [x, c] H := ⟨t, u, b, hc, ht, hk, h⟩
theorem f_repr {x : V} {d : PyData} (hd : Dq K H x d) (h1 : d.showable = true) (h3 : d.depth < 63) (h4 : d.shown.length ≤ sizeLine) (h : Q (.str d.shown) H) : KBf K .repr Q [x] H := ⟨d, hd, h1, h3, h4, h⟩
theorem f_tupL {x : V} {ds : List PyData} (hx : Dv w x (.list ds)) (h : ∀ w' y, Ex [] w w' → Dv w' y (.tuple ds) → Q y w'.H) : KBf K .tuple Q [x] w.H := by
  obtain ⟨a, xs, rfl, s, e, r⟩ := hx.of_lst
  exact RTup.lst (sqL e) (new_tup r h)
theorem f_tupO {a : Addr} {xs : List V} {ds : List PyData} (e : w.H a = some (.lst xs)) (r : Dvs w xs ds) (h : ∀ w' y, Ex [] w w' → Dv w' y (.tuple ds) → Q y w'.H) : KBf K .tuple Q [.ref a] w.H := RTup.lst (sqL e) (new_tup r h)
theorem f_lstL {x : V} {ds : List PyData} (hx : Dv w x (.list ds)) (h : ∀ w' y, Ex [] w w' → Dv w' y (.list ds) → Q y w'.H) : KBf K .list Q [x] w.H := by
  obtain ⟨a, xs, rfl, s, e, r⟩ := hx.of_lst
  exact RLst.lst (sqL e) (new_lst r h)
theorem f_lstO {a : Addr} {xs : List V} (e : w.H a = some (.lst xs)) (h : KNew (.lst xs) Q w.H) : KBf K .list Q [.ref a] w.H := RLst.lst (sqL e) h
theorem f_lstOT {a : Addr} {xs : List V} (e : w.H a = some (.tup xs)) (h : KNew (.lst xs) Q w.H) : KBf K .list Q [.ref a] w.H := RLst.tup (sqT e) h
/-! methods of built-in types -/
def KM1 (v : Ev) (m : Bm) (es : Xps) (W : WX) (σ : St) (Q : VK) : VK := fun x H => tyV v.K m.ty x H ∧ es.den v W σ H fun vs H2 => rBm v.K m x vs H2 Q
def KM2 (K : PySem.W.Frag) (m : Bm) (x : V) (Q : VK) : List V → Hp → Prop := fun vs H => rBm K m x vs H Q
theorem e_bm {m : Bm} {o : Xp} {es : Xps} (h : o.den v W σ H (KM1 v m es W σ Q)) : Xp.den v (.bm m o es) W σ H Q := h
theorem m_app {a : Addr} {xs : List V} {x : V} (o : Op w a (.lst xs)) (hl : xs.length < sizeLine) (h : ∀ w', Ex [a] w w' → Op w' a (.lst (xs ++ [x])) → Q .non w'.H) : KM2 K .append (.ref a) Q [x] w.H :=
  ⟨xs, o.h, hl, h (w.put a _) (ex_set o) (op_set o)⟩
theorem m_pop {a : Addr} {xs : List V} {x : V} (o : Op w a (.lst (xs ++ [x]))) (h : ∀ w', Ex [a] w w' → Op w' a (.lst xs) → Q x w'.H) : KM2 K .pop (.ref a) Q [] w.H := by
  have hd : (xs ++ [x]).dropLast = xs := by simp
  refine ⟨xs ++ [x], x, o.h, by simp, ?_⟩
  rw [hd]
  exact h (w.put a _) (ex_set o) (op_set o)
end
/-! calls -/
def KCl (v : Ev) (f : Nat) (W : WX) (σ : St) (Q : VK) : List V → Hp → Prop := fun vs H1 => v.sp f vs H1 Q fun c d H2 => W c d σ H2
theorem e_call {f : Nat} {es : Xps} (h : es.den v W σ H (KCl v f W σ Q)) : Xp.den v (.call f es) W σ H Q := h
theorem k_cl {f : Nat} {vs : List V} (h : spOf v D n f vs H Q fun c d H2 => W c d σ H2) : KCl (evAt v D n) f W σ Q vs H := h
/-! fields -/
theorem e_fld {C : Nat} {o : Xp} {f : Str} (h : o.den v W σ H (fun x H1 => ∃ a dx fs z, x = .ref a ∧ H1 a = some (.ins (v.cls C) dx fs) ∧ fs.lookup f = some z ∧ Q z H1)) : Xp.den v (.fld C o f) W σ H Q := h
/-! tests -/
section
variable {P : Bool → Hp → Prop} {K : PySem.W.Frag}
def KTr (K : PySem.W.Frag) (P : Bool → Hp → Prop) : VK := fun x H => rTru K x H fun b => P b H
theorem t_tr {e : Xp} (h : e.den v W σ H (KTr v.K P)) : Tt.den v (.tr e) W σ H P := h
theorem k_trb {b : Bool} (h : P b H) : KTr K P (.bl b) H := h
theorem k_tri {b : Int} (h : P (decide (b ≠ 0)) H) : KTr K P (.int b) H := h
theorem k_trn (h : P false H) : KTr K P .non H := h
theorem t_cmp {op : CmpOp} {a b : Xp} (h : a.den v W σ H (KC1 v op b W σ P)) : Tt.den v (.cmp op a b) W σ H P := h
def KTA (v : Ev) (b : Tt) (W : WX) (σ : St) (P : Bool → Hp → Prop) : Bool → Hp → Prop := fun c H => if c = true then b.den v W σ H P else P false H
def KTO (v : Ev) (b : Tt) (W : WX) (σ : St) (P : Bool → Hp → Prop) : Bool → Hp → Prop := fun c H => if c = true then P true H else b.den v W σ H P
def KTN (P : Bool → Hp → Prop) : Bool → Hp → Prop := fun c H => P (!c) H
theorem t_and {a b : Tt} (h : a.den v W σ H (KTA v b W σ P)) : Tt.den v (.and a b) W σ H P := h
theorem t_or {a b : Tt} (h : a.den v W σ H (KTO v b W σ P)) : Tt.den v (.or a b) W σ H P := h
theorem t_not {a : Tt} (h : a.den v W σ H (KTN P)) : Tt.den v (.not a) W σ H P := h
theorem k_tn {c : Bool} (h : P (!c) H) : KTN P c H := h
theorem k_ta {b : Tt} {c : Bool} (ht : c = true → b.den v W σ H P) (hf : c = false → P false H) : KTA v b W σ P c H := by
  cases c with
  | true => exact ht rfl
  | false => exact hf rfl
theorem k_to {b : Tt} {c : Bool} (ht : c = true → P true H) (hf : c = false → b.den v W σ H P) : KTO v b W σ P c H := by
  cases c with
  | true => exact ht rfl
  | false => exact hf rfl
end
/-! slices -/
theorem e_sl {a : Xp} {lo hi : Xpo} (h : tSl (rSlAny v.K) (a.den v W) (lo.den v W) (hi.den v W) σ H Q) : Xp.den v (.sl a lo hi) W σ H Q := h

/-! ### loops -/
/-- the end of a turn -/
def KIs (P : St → Wd → Prop) : St → Hp → Prop := fun σ H => ∃ w, H = w.H ∧ P σ w
theorem k_is {P : St → Wd → Prop} {w : Wd} (h : P σ w) : KIs P σ w.H := ⟨w, rfl, h⟩
def KFor (g : TG) (tb : TS) (D : Ends) (σ : St) (J : It) (H1 : Hp) : Prop := ∃ W : Nat → Nat → St → Hp → Prop, (∃ m, W 0 m σ H1) ∧ ∀ i m σ H, W i m σ H →
  (J.stop i H ∧ D.nx σ H) ∨ (J.go i H ∧ ∃ N : St → Hp → Prop, (∀ σ' H', N σ' H' → ∃ m', m' < m ∧ W (i + 1) m' σ' H') ∧ ∀ x H', J.yld i H x H' → g x σ H' fun σ2 H2 => tb { D with nx := N, ct := N, bk := D.nx } σ2 H2)
theorem r_for {g : Tg} {it : Sq} {b : Sms} {D : Ends} (h : it.den v W σ H (KFor (g.den v W) (b.den v W) D σ)) : Sm.den v (.for_ g it b) W D σ H := h
def KR1 (R : It → Hp → Prop) : VK := fun x H => ∃ j : Int, [x] = [.int j] ∧ -(2 ^ 62) ≤ j ∧ j < 2 ^ 62 ∧ R (Itr 0 j.toNat) H
theorem q_rng1 {a : Xp} {R : It → Hp → Prop} (h : a.den v W σ H (KR1 R)) : Sq.den v (.rng1 a) W σ H R := h
theorem k_r1 {j : Int} {R : It → Hp → Prop} (h1 : -(2 ^ 62) ≤ j) (h2 : j < 2 ^ 62) (h : R (Itr 0 j.toNat) H) : KR1 R (.int j) H := ⟨j, rfl, h1, h2, h⟩
def KR2 (v : Ev) (b : Xp) (W : WX) (σ : St) (R : It → Hp → Prop) : VK := fun x H => b.den v W σ H fun y H => ∃ i j : Int, [x, y] = [.int i, .int j] ∧ (-(2 ^ 62) ≤ i ∧ i < 2 ^ 62 ∧ -(2 ^ 62) ≤ j ∧ j < 2 ^ 62) ∧ R (Itr i (j - i).toNat) H
theorem q_rng2 {a b : Xp} {R : It → Hp → Prop} (h : a.den v W σ H (KR2 v b W σ R)) : Sq.den v (.rng2 a b) W σ H R := h
def KR3 (i : Int) (R : It → Hp → Prop) : VK := fun y H => ∃ j : Int, y = .int j ∧ (-(2 ^ 62) ≤ i ∧ i < 2 ^ 62 ∧ -(2 ^ 62) ≤ j ∧ j < 2 ^ 62) ∧ R (Itr i (j - i).toNat) H
theorem k_r2 {i j : Int} {b : Xp} {R : It → Hp → Prop} (c : -(2 ^ 62) ≤ i ∧ i < 2 ^ 62 ∧ -(2 ^ 62) ≤ j ∧ j < 2 ^ 62) (h : b.den v W σ H (fun y H => y = .int j ∧ R (Itr i (j - i).toNat) H)) (mono : ∀ (P P' : VK), (∀ y H, P y H → P' y H) → b.den v W σ H P → b.den v W σ H P') : KR2 v b W σ R (.int i) H :=
  mono _ _ (fun y H q => ⟨i, j, by rw [q.1], c, q.2⟩) h
theorem k_for_rng {lo : Int} {m : Nat} {g : TG} {tb : TS} {w : Wd} (Inv : Nat → St → Wd → Prop) (h0 : Inv 0 σ w)
    (hs : ∀ i σ w, i < m → Inv i σ w → g (.int (lo + i)) σ w.H fun σ2 H2 => tb ⟨KIs (Inv (i + 1)), rt, nx, KIs (Inv (i + 1))⟩ σ2 H2)
    (hd : ∀ σ w, Inv m σ w → nx σ w.H) : KFor g tb ⟨nx, rt, bk, ct⟩ σ (Itr lo m) w.H :=
  for_range (fun i => KIs (Inv i)) (k_is h0) (fun i σ H hi ⟨w, e, p⟩ => by subst e; exact hs i σ w hi p) fun σ H ⟨w, e, p⟩ => by subst e; exact hd σ w p
theorem k_for_lst {K : PySem.W.Frag} {a : Addr} {xs : List V} {g : TG} {tb : TS} {w : Wd} (Inv : Nat → St → Wd → Prop) (hk : ∀ i σ w', Inv i σ w' → w'.H a = some (.lst xs)) (h0 : Inv 0 σ w)
    (hs : ∀ i x σ w, xs[i]? = some x → Inv i σ w → g x σ w.H fun σ2 H2 => tb ⟨KIs (Inv (i + 1)), rt, nx, KIs (Inv (i + 1))⟩ σ2 H2)
    (hd : ∀ σ w, Inv xs.length σ w → nx σ w.H) : KFor g tb ⟨nx, rt, bk, ct⟩ σ (Itl K a) w.H :=
  for_list (xs := xs) (fun i => KIs (Inv i)) (k_is h0) (fun i σ H hi ⟨w, e, p⟩ => by subst e; exact sqL (hk i σ w p)) (fun i x σ H hx ⟨w, e, p⟩ => by subst e; exact hs i x σ w hx p) fun σ H ⟨w, e, p⟩ => by subst e; exact hd σ w p
theorem k_for_tup {K : PySem.W.Frag} {a : Addr} {xs : List V} {g : TG} {tb : TS} {w : Wd} (Inv : Nat → St → Wd → Prop) (hk : ∀ i σ w', Inv i σ w' → w'.H a = some (.tup xs)) (h0 : Inv 0 σ w)
    (hs : ∀ i x σ w, xs[i]? = some x → Inv i σ w → g x σ w.H fun σ2 H2 => tb ⟨KIs (Inv (i + 1)), rt, nx, KIs (Inv (i + 1))⟩ σ2 H2)
    (hd : ∀ σ w, Inv xs.length σ w → nx σ w.H) : KFor g tb ⟨nx, rt, bk, ct⟩ σ (Itt K a) w.H :=
  for_tup (xs := xs) (fun i => KIs (Inv i)) (k_is h0) (fun i σ H hi ⟨w, e, p⟩ => by subst e; exact sqT (hk i σ w p)) (fun i x σ H hx ⟨w, e, p⟩ => by subst e; exact hs i x σ w hx p) fun σ H ⟨w, e, p⟩ => by subst e; exact hd σ w p
def KLs (K : PySem.W.Frag) (R : It → Hp → Prop) : VK := fun x H1 => ∃ a, x = .ref a ∧ (∃ xs, SqL K H1 a xs) ∧ R (Itl K a) H1
theorem q_lst {e : Xp} {R : It → Hp → Prop} (h : e.den v W σ H (KLs v.K R)) : Sq.den v (.lst e) W σ H R := h
theorem k_ls {K : PySem.W.Frag} {w : Wd} {a : Addr} {xs : List V} {R : It → Hp → Prop} (e : w.H a = some (.lst xs)) (h : R (Itl K a) w.H) : KLs K R (.ref a) w.H := ⟨a, rfl, ⟨xs, sqL e⟩, h⟩
theorem k_lsD {K : PySem.W.Frag} {w : Wd} {x : V} {ds : List PyData} {R : It → Hp → Prop} (hx : Dv w x (.list ds)) (h : ∀ a xs, x = .ref a → w.S a → w.H a = some (.lst xs) → Dvs w xs ds → R (Itl K a) w.H) : KLs K R x w.H := by
  obtain ⟨a, xs, rfl, s, e, r⟩ := hx.of_lst
  exact k_ls e (h a xs rfl s e r)
def KLt (K : PySem.W.Frag) (R : It → Hp → Prop) : VK := fun x H1 => ∃ a, x = .ref a ∧ (∃ xs, SqT K H1 a xs) ∧ R (Itt K a) H1
theorem q_tup {e : Xp} {R : It → Hp → Prop} (h : e.den v W σ H (KLt v.K R)) : Sq.den v (.tup e) W σ H R := h
theorem k_ltD {K : PySem.W.Frag} {w : Wd} {x : V} {ds : List PyData} {R : It → Hp → Prop} (hx : Dv w x (.tuple ds)) (h : ∀ a xs, x = .ref a → w.S a → w.H a = some (.tup xs) → Dvs w xs ds → R (Itt K a) w.H) : KLt K R x w.H := by
  obtain ⟨a, xs, rfl, s, e, r⟩ := hx.of_tup
  exact ⟨a, rfl, ⟨xs, sqT e⟩, h a xs rfl s e r⟩
/-- what is sealed stays -/
theorem Ex.keepL {T : List Addr} {w w' : Wd} {a : Addr} {o : HO} (e : Ex T w w') (s : w.S a) (h : w.H a = some o) : w'.H a = some o := e.kp a o h fun z => e.op a z s
/-! while -/
def KWb (P : St → Wd → Prop) (nx : St → Hp → Prop) (tb : Ends → St → Hp → Prop) (rt : VK) (σ : St) : Bool → Hp → Prop := fun b H1 => if b = true then tb ⟨KIs P, rt, nx, KIs P⟩ σ H1 else nx σ H1
/-! comprehensions -/
def KLc (g : TG) (tt : TT) (te : TE) (vs : List Nat) (σ : St) (Q : VK) (J : It) (H1 : Hp) : Prop := ∀ D, H1 D = none → ∃ W : Nat → Nat → Hp → Prop, (∃ m, W 0 m (upd H1 D (.lst []))) ∧ ∀ i m H, W i m H →
  (J.stop i H ∧ Q (.ref D) H) ∨ (J.go i H ∧ ∃ Nx : Hp → Prop, (∀ H', Nx H' → ∃ m', m' < m ∧ W (i + 1) m' H') ∧ ∀ x H', J.yld i H x H' → g x (wipe σ vs) H' fun σ2 H2 => wipe σ2 vs = wipe σ vs ∧ tt σ2 H2 fun b H3 =>
    if b = true then te σ2 H3 fun y H4 => ∃ acc, H4 D = some (.lst acc) ∧ acc.length < sizeLine ∧ Nx (upd H4 D (.lst (acc ++ [y]))) else Nx H3)
def noW : WX := fun _ _ _ _ => False
theorem e_lc {el : Xp} {tg : Tg} {it : Sq} {ifs : Tto} {own : List Nat} (h : it.den v W σ H (KLc (tg.den v noW) (ifs.den v noW) (el.den v noW) own σ Q)) : Xp.den v (.lc el tg it ifs own) W σ H Q := h
def KIw (P : Wd → Prop) : Hp → Prop := fun H => ∃ w, H = w.H ∧ P w
def KAp (D : Addr) (P : Wd → Prop) : VK := fun y H4 => ∃ acc, H4 D = some (.lst acc) ∧ acc.length < sizeLine ∧ KIw P (upd H4 D (.lst (acc ++ [y])))
theorem k_ap {D : Addr} {P : Wd → Prop} {w : Wd} {acc : List V} {y : V} (o : Op w D (.lst acc)) (hl : acc.length < sizeLine) (h : ∀ w', Ex [D] w w' → Op w' D (.lst (acc ++ [y])) → P w') : KAp D P y w.H :=
  ⟨acc, o.h, hl, w.put D _, rfl, h _ (ex_set o) (op_set o)⟩
def KLb (tt : TT) (te : TE) (vs : List Nat) (σ0 : St) (D : Addr) (P : Wd → Prop) : St → Hp → Prop := fun σ2 H2 => wipe σ2 vs = wipe σ0 vs ∧ tt σ2 H2 fun b H3 => if b = true then te σ2 H3 (KAp D P) else KIw P H3
theorem k_lb0 {te : TE} {vs : List Nat} {σ0 : St} {D : Addr} {P : Wd → Prop} (hw : wipe σ vs = wipe σ0 vs) (h : te σ H (KAp D P)) : KLb (Tto.den v .no W) te vs σ0 D P σ H := ⟨hw, h⟩
def KLd (te : TE) (D : Addr) (P : Wd → Prop) (σ : St) : Bool → Hp → Prop := fun b H3 => if b = true then te σ H3 (KAp D P) else KIw P H3
theorem k_lb1 {t : Tt} {te : TE} {vs : List Nat} {σ0 : St} {D : Addr} {P : Wd → Prop} (hw : wipe σ vs = wipe σ0 vs) (h : t.den v W σ H (KLd te D P σ)) : KLb (Tto.den v (.so t) W) te vs σ0 D P σ H := ⟨hw, h⟩
theorem k_ld {te : TE} {D : Addr} {P : Wd → Prop} {w : Wd} {b : Bool} (ht : b = true → te σ w.H (KAp D P)) (hf : b = false → P w) : KLd te D P σ b w.H := by
  cases b with
  | true => exact ht rfl
  | false => exact ⟨w, rfl, hf rfl⟩
theorem k_lc_rng {lo : Int} {m : Nat} {g : TG} {tt : TT} {te : TE} {vs : List Nat} {w : Wd} (h : ∀ w1 D, Ex [] w w1 → w.H D = none → Op w1 D (.lst []) → ∃ Inv : Nat → Wd → Prop, Inv 0 w1 ∧
    (∀ i w', i < m → Inv i w' → g (.int (lo + i)) (wipe σ vs) w'.H (KLb tt te vs σ D (Inv (i + 1)))) ∧ ∀ w', Inv m w' → Q (.ref D) w'.H) : KLc g tt te vs σ Q (Itr lo m) w.H := fun D hD => by
  obtain ⟨Inv, h0, hs, hd⟩ := h (w.put D (.lst [])) D (ex_new hD) hD (op_new hD)
  exact lc_range (Qd := Q (.ref D)) (fun i => KIw (Inv i)) ⟨_, rfl, h0⟩ (fun i H hi ⟨w', e, p⟩ => by subst e; exact hs i w' hi p) fun H ⟨w', e, p⟩ => by subst e; exact hd w' p
theorem k_lc_lst {K : PySem.W.Frag} {a : Addr} {xs : List V} {g : TG} {tt : TT} {te : TE} {vs : List Nat} {w : Wd} (h : ∀ w1 D, Ex [] w w1 → w.H D = none → Op w1 D (.lst []) → ∃ Inv : Nat → Wd → Prop, Inv 0 w1 ∧ (∀ i w', Inv i w' → SqL K w'.H a xs) ∧
    (∀ i x w', xs[i]? = some x → Inv i w' → g x (wipe σ vs) w'.H (KLb tt te vs σ D (Inv (i + 1)))) ∧ ∀ w', Inv xs.length w' → Q (.ref D) w'.H) : KLc g tt te vs σ Q (Itl K a) w.H := fun D hD => by
  obtain ⟨Inv, h0, hk, hs, hd⟩ := h (w.put D (.lst [])) D (ex_new hD) hD (op_new hD)
  exact lc_list (xs := xs) (Qd := Q (.ref D)) (fun i => KIw (Inv i)) ⟨_, rfl, h0⟩ (fun i H hi ⟨w', e, p⟩ => by subst e; exact hk i w' p) (fun i x H hx ⟨w', e, p⟩ => by subst e; exact hs i x w' hx p) fun H ⟨w', e, p⟩ => by subst e; exact hd w' p
end
end DI

/-! DI, part 13: more of the readings' rules. -/
namespace DI
open L2
open PySem.Spec
open PyProof.Rows hiding St
open PySem

section
variable {v : Ev} {D : Nat → Df} {n : Nat} {W : WX} {σ : St} {H : Hp} {Q : VK} {nx bk ct : St → Hp → Prop} {rt : VK} {K : PySem.W.Frag} {w : Wd}
theorem get_of {α : Type} {xs : List α} {i : Nat} (h : i < xs.length) : ∃ a, xs[i]? = some a := ⟨xs[i], by simp [h]⟩
theorem getD_some {α : Type} {xs : List α} {i : Nat} {z : α} (h : i < xs.length) : xs[i]? = some (xs.getD i z) := by
  rw [List.getD_eq_getElem?_getD, List.getElem?_eq_getElem h]; rfl
/-- an int out of a list, by its bounds -/
theorem i_G {x : V} {xs : List Int} {i : Int} (hx : Dv w x (.list (xs.map PyData.int))) (h0 : 0 ≤ i) (h1 : i < xs.length) (h : Q (.int (xs.getD i.toNat 0)) w.H) : KI2 K x Q (.int i) w.H :=
  i_Li hx h0 (by rw [List.getElem?_map, getD_some (z := 0) (by omega)]; rfl) h
theorem i_GT {x : V} {xs : List Int} {i : Int} (hx : Dv w x (.tuple (xs.map PyData.int))) (h0 : 0 ≤ i) (h1 : i < xs.length) (h : Q (.int (xs.getD i.toNat 0)) w.H) : KI2 K x Q (.int i) w.H :=
  i_Ti hx h0 (by rw [List.getElem?_map, getD_some (z := 0) (by omega)]; rfl) h
theorem i_M {α : Type} {g : α → PyData} {z : α} {x : V} {xs : List α} {i : Int} (hx : Dv w x (.list (xs.map g))) (h0 : 0 ≤ i) (h1 : i < xs.length) (h : ∀ y, Dv w y (g (xs.getD i.toNat z)) → Q y w.H) : KI2 K x Q (.int i) w.H :=
  i_L hx h0 (by rw [List.getElem?_map, getD_some (z := z) (by omega)]; rfl) h
theorem i_OG {a : Addr} {xs : List Int} {i : Int} (e : w.H a = some (.lst (xs.map V.int))) (h0 : 0 ≤ i) (h1 : i < xs.length) (h : Q (.int (xs.getD i.toNat 0)) w.H) : KI2 K (.ref a) Q (.int i) w.H :=
  i_O e h0 (by rw [List.getElem?_map, getD_some (z := 0) (by omega)]; rfl) h
theorem i_OM {α : Type} {g : α → PyData} {z : α} {a : Addr} {vs : List V} {xs : List α} {i : Int} (e : w.H a = some (.lst vs)) (r : Dvs w vs (xs.map g)) (h0 : 0 ≤ i) (h1 : i < xs.length) (h : ∀ y, Dv w y (g (xs.getD i.toNat z)) → Q y w.H) : KI2 K (.ref a) Q (.int i) w.H := by
  obtain ⟨y, hy, q⟩ := r.get (i := i.toNat) (d := g (xs.getD i.toNat z)) (by rw [List.getElem?_map, getD_some (z := z) (by omega)]; rfl)
  exact i_O e h0 hy (h y q)
/-- a pair of ints -/
theorem i_T0 {x : V} {i j : Int} (hx : Dv w x (.tuple [.int i, .int j])) (h : Q (.int i) w.H) : KI2 K x Q (.int 0) w.H := i_Ti hx (by decide) rfl h
theorem i_T1 {x : V} {i j : Int} (hx : Dv w x (.tuple [.int i, .int j])) (h : Q (.int j) w.H) : KI2 K x Q (.int 1) w.H := i_Ti hx (by decide) rfl h
theorem g_ii {x : V} {i j : Int} {g1 g2 : Tg} {P : St → Hp → Prop} (hx : Dv w x (.tuple [.int i, .int j])) (h : KTs v (.cons g1 (.cons g2 .nil)) W P [.int i, .int j] σ w.H) : Tg.den v (.tup (.cons g1 (.cons g2 .nil))) W x σ w.H P :=
  g_tup hx rfl fun xs r => by
    cases r with
    | cons a r => cases a; cases r with
      | cons b r => cases b; cases r; exact h
theorem f_isiI {i : Int} {b : String} {r : Bool} (e : kitB "int" b = some r) (h : Q (.bl r) H) : KBf K .isi Q [.int i, .ty b] H := f_isi (.ty _) (.base (.int i)) (kit_ty e) h
theorem f_isiB {i : Bool} {b : String} {r : Bool} (e : kitB "bool" b = some r) (h : Q (.bl r) H) : KBf K .isi Q [.bl i, .ty b] H := f_isi (.ty _) (.base (.bl i)) (kit_ty e) h
theorem f_isiS {i : Str} {b : String} {r : Bool} (e : kitB "str" b = some r) (h : Q (.bl r) H) : KBf K .isi Q [.str i, .ty b] H := f_isi (.ty _) (.base (.str i)) (kit_ty e) h
theorem f_isiO {a : Addr} {xs : List V} {b : String} {r : Bool} (o : w.H a = some (.lst xs)) (e : kitB "list" b = some r) (h : Q (.bl r) w.H) : KBf K .isi Q [.ref a, .ty b] w.H := f_isi (.ty _) (.base (.lst o)) (kit_ty e) h
theorem f_isiL {x : V} {ds : List PyData} {b : String} {r : Bool} (hx : Dv w x (.list ds)) (e : kitB "list" b = some r) (h : Q (.bl r) w.H) : KBf K .isi Q [x, .ty b] w.H := by
  obtain ⟨a, xs, rfl, s, o, _⟩ := hx.of_lst
  exact f_isiO o e h
theorem f_isiD {x : V} {m : List (PyData × PyData)} {b : String} {r : Bool} (hx : Dv w x (.dict m)) (e : kitB "dict" b = some r) (h : Q (.bl r) w.H) : KBf K .isi Q [x, .ty b] w.H := by
  obtain ⟨a, kvs, rfl, s, o⟩ := hx.of_dic
  exact f_isi (.ty _) (.base (.dK o)) (kit_ty e) h
theorem f_isiT {x : V} {ds : List PyData} {b : String} {r : Bool} (hx : Dv w x (.tuple ds)) (e : kitB "tuple" b = some r) (h : Q (.bl r) w.H) : KBf K .isi Q [x, .ty b] w.H := by
  obtain ⟨a, xs, rfl, s, o, _⟩ := hx.of_tup
  exact f_isi (.ty _) (.base (.tup o)) (kit_ty e) h
/-- x[lo:hi] of a list, any -/
theorem sl_L {a : Addr} {xs : List V} {lo hi : Option Int} (h : SqL K H a xs) (q : KNew (.lst (cutV xs lo hi)) Q H) : rSlAny K (.ref a) lo hi H Q := RSlR.lst h q

theorem k_for_n {m : Nat} {g : TG} {tb : TS} (k : Nat) (hk : m = k) (Inv : Nat → St → Wd → Prop) (h0 : Inv 0 σ w)
    (hs : ∀ i σ w, i < k → Inv i σ w → g (.int i) σ w.H fun σ2 H2 => tb ⟨KIs (Inv (i + 1)), rt, nx, KIs (Inv (i + 1))⟩ σ2 H2)
    (hd : ∀ σ w, Inv k σ w → nx σ w.H) : KFor g tb ⟨nx, rt, bk, ct⟩ σ (Itr 0 m) w.H := by
  subst hk
  exact k_for_rng Inv h0 (fun i σ w hi p => by have := hs i σ w hi p; rwa [← Int.zero_add (i : Int)] at this) hd
theorem k_lc_n {m : Nat} {g : TG} {tt : TT} {te : TE} {vs : List Nat} (k : Nat) (hk : m = k) (h : ∀ w1 D, Ex [] w w1 → w.H D = none → Op w1 D (.lst []) → ∃ Inv : Nat → Wd → Prop, Inv 0 w1 ∧
    (∀ i w', i < k → Inv i w' → g (.int i) (wipe σ vs) w'.H (KLb tt te vs σ D (Inv (i + 1)))) ∧ ∀ w', Inv k w' → Q (.ref D) w'.H) : KLc g tt te vs σ Q (Itr 0 m) w.H := by
  subst hk
  refine k_lc_rng fun w1 D e hd o => ?_
  obtain ⟨Inv, h0, hs, h1⟩ := h w1 D e hd o
  exact ⟨Inv, h0, fun i w' hi p => by have := hs i w' hi p; rwa [← Int.zero_add (i : Int)] at this, h1⟩
theorem k_m1 {m : Bm} {es : Xps} {a : Addr} {xs : List V} (o : w.H a = some (.lst xs)) (hm : m.ty = "list") (h : es.den v W σ w.H (KM2 v.K m (.ref a) Q)) : KM1 v m es W σ Q (.ref a) w.H := by
  refine ⟨?_, h⟩
  rw [hm]
  exact .inl ⟨rfl, xs, sqL o⟩
/-! ### the walk of a list of data -/
theorem k_for_D {x : V} {ds : List PyData} {g : TG} {tb : TS} (hx : Dv w x (.list ds)) (Inv : Nat → St → Wd → Prop) (hk : ∀ i σ w', Inv i σ w' → ∃ T, Ex T w w') (h0 : Inv 0 σ w)
    (hs : ∀ i d y σ w', ds[i]? = some d → Dv w' y d → Inv i σ w' → g y σ w'.H fun σ2 H2 => tb ⟨KIs (Inv (i + 1)), rt, nx, KIs (Inv (i + 1))⟩ σ2 H2)
    (hd : ∀ σ w', Inv ds.length σ w' → nx σ w'.H) : KLs K (KFor g tb ⟨nx, rt, bk, ct⟩ σ) x w.H := by
  refine k_lsD hx fun a xs e s ha r => ?_
  refine k_for_lst (xs := xs) Inv (fun i σ w' p => ?_) h0 (fun i y σ w' hy p => ?_) fun σ w' p => hd σ w' (by rw [← r.length]; exact p)
  · obtain ⟨T, ex⟩ := hk i σ w' p
    exact ex.keepL s ha
  · obtain ⟨T, ex⟩ := hk i σ w' p
    obtain ⟨d, hd, hv⟩ := r.get' hy
    exact hs i d y σ w' hd (hv.ex ex) p
theorem k_for_DT {x : V} {ds : List PyData} {g : TG} {tb : TS} (hx : Dv w x (.tuple ds)) (Inv : Nat → St → Wd → Prop) (hk : ∀ i σ w', Inv i σ w' → ∃ T, Ex T w w') (h0 : Inv 0 σ w)
    (hs : ∀ i d y σ w', ds[i]? = some d → Dv w' y d → Inv i σ w' → g y σ w'.H fun σ2 H2 => tb ⟨KIs (Inv (i + 1)), rt, nx, KIs (Inv (i + 1))⟩ σ2 H2)
    (hd : ∀ σ w', Inv ds.length σ w' → nx σ w'.H) : KLt K (KFor g tb ⟨nx, rt, bk, ct⟩ σ) x w.H := by
  refine k_ltD hx fun a xs e s ha r => ?_
  refine k_for_tup (xs := xs) Inv (fun i σ w' p => ?_) h0 (fun i y σ w' hy p => ?_) fun σ w' p => hd σ w' (by rw [← r.length]; exact p)
  · obtain ⟨T, ex⟩ := hk i σ w' p
    exact ex.keepL s ha
  · obtain ⟨T, ex⟩ := hk i σ w' p
    obtain ⟨d, hd, hv⟩ := r.get' hy
    exact hs i d y σ w' hd (hv.ex ex) p
end

/-! ### the drawing of numbers -/
/-- the state of the numbers that a law draws -/
structure Gen (w : Wd) (s c : Addr) : Prop where
  g : ∃ (i : Int) (cells : List Int), Op w s (.lst [.int i, .ref c]) ∧ Op w c (.lst (cells.map V.int)) ∧ 0 ≤ i ∧ 0 < cells.length ∧ ∀ x ∈ cells, 0 ≤ x
  ne : s ≠ c
theorem Gen.ex {w w' : Wd} {s c : Addr} {T : List Addr} (e : Ex T w w') (g : Gen w s c) (hs : s ∉ T) (hc : c ∉ T) : Gen w' s c := by
  obtain ⟨i, cs, h1, h2, h3⟩ := g.g
  exact ⟨⟨i, cs, h1.ex e hs, h2.ex e hc, h3⟩, g.ne⟩
theorem Gen.ex0 {w w' : Wd} {s c : Addr} (e : Ex [] w w') (g : Gen w s c) : Gen w' s c := g.ex e (by simp) (by simp)
theorem Gen.fs {w : Wd} {s c p : Addr} (g : Gen w s c) (h : w.H p = none) : s ≠ p := by obtain ⟨i, cs, h1, h2, h3⟩ := g.g; exact h1.ne h
theorem Gen.fc {w : Wd} {s c p : Addr} (g : Gen w s c) (h : w.H p = none) : c ≠ p := by obtain ⟨i, cs, h1, h2, h3⟩ := g.g; exact h2.ne h
theorem Gen.op {w : Wd} {s c : Addr} (g : Gen w s c) : ∀ b ∈ [s, c], ¬ w.S b := by
  obtain ⟨i, cs, h1, h2, h3⟩ := g.g
  intro b hb
  simp only [List.mem_cons, List.not_mem_nil, or_false] at hb
  rcases hb with rfl | rfl
  · exact h1.n
  · exact h2.n
/-- frames of the drawing -/
theorem Ex.gen {w w' : Wd} {s c : Addr} (e : Ex [] w w') (g : Gen w s c) : Ex [s, c] w w' := e.more (by simp) g.op
theorem Ex.t0 {T : List Addr} {w w1 w2 : Wd} (e : Ex T w w1) (f : Ex [] w1 w2) : Ex T w w2 := e.trans f (by simp)
theorem Ex.tt {T : List Addr} {w w1 w2 : Wd} (e : Ex T w w1) (f : Ex T w1 w2) : Ex T w w2 := e.trans f fun b h => .inl h
theorem Ex.tf {T : List Addr} {w w1 w2 : Wd} {p : Addr} (e : Ex T w w1) (f : Ex [p] w1 w2) (h : w.H p = none) : Ex T w w2 := e.trans f fun b hb => by
  simp only [List.mem_singleton] at hb; subst hb; exact .inr h
theorem Ex.tm {T : List Addr} {w w1 w2 : Wd} {p : Addr} (e : Ex T w w1) (f : Ex [p] w1 w2) (h : p ∈ T) : Ex T w w2 := e.trans f fun b hb => by
  simp only [List.mem_singleton] at hb; subst hb; exact .inl h
/-- the world of a heap of which nothing is sealed -/
def Wd.of (H : Hp) : Wd := ⟨H, fun _ => False, fun _ h => h.elim⟩
theorem cutV_ints {ns : List Int} {lo hi : Option Int} : ∃ ms : List Int, cutV (ns.map V.int) lo hi = ms.map V.int ∧ ms.length ≤ ns.length := by
  refine ⟨((ns.drop (HT.sIx (ns.map V.int).length 0 lo)).take (HT.sIx (ns.map V.int).length (ns.map V.int).length hi - HT.sIx (ns.map V.int).length 0 lo)), ?_, ?_⟩
  · unfold cutV; rw [List.map_take, List.map_drop]
  · rw [List.length_take, List.length_drop]; omega
end DI

/-! DI, part 14: sizes of data; repr and == of it. -/
namespace DI
open L2
open PySem.Spec
open PyProof.Rows hiding St
open PySem

/-- data that may be shown and compared: its depth, the signs of its text -/
structure Sz (p n : Nat) (d : PyData) : Prop where
  cl : d.canLay0 = true
  sh : d.showable = true
  dp : d.depth ≤ p
  ln : d.shown.length ≤ n
theorem Sz.mono {p n p' n' : Nat} {d : PyData} (h : Sz p n d) (hp : p ≤ p') (hn : n ≤ n') : Sz p' n' d := ⟨h.cl, h.sh, Nat.le_trans h.dp hp, Nat.le_trans h.ln hn⟩
theorem Sz.int {i : Int} (h : i.natAbs < 10 ^ 18) : Sz 0 19 (.int i) := by
  refine ⟨by simp [PyData.canLay0], ?_, Nat.le_refl _, ?_⟩
  · simp only [PyData.showable, decide_eq_true_eq]
    have : i.natAbs < 2 ^ 60 := Nat.lt_of_lt_of_le h (by decide)
    rcases Nat.eq_zero_or_pos i.natAbs with e | e
    · rw [e]; decide
    · exact Nat.lt_of_lt_of_le ((Nat.log2_lt (by omega)).mpr this) (by decide)
  · show (Str.ofString (toString i)).length ≤ 19
    rw [PySem.ofString_length]
    exact int_text_length_le10 (by decide) h
theorem Sz.bool (b : Bool) : Sz 0 5 (.bool b) := ⟨by simp [PyData.canLay0], by simp [PyData.showable], Nat.le_refl _, by cases b <;> decide⟩
theorem Sz.none : Sz 0 4 .none := ⟨by simp [PyData.canLay0], by simp [PyData.showable], Nat.le_refl _, by decide⟩
theorem textFrom_le : ∀ (ts : List Str) (k : Nat) (acc : Str), (textFrom k acc ts).length ≤ acc.length + piled ts
  | [], k, acc => by show acc.length ≤ acc.length + _; omega
  | t :: r, k, acc => by
    have h := textFrom_le r (k + 1) (acc ++ (if k > 0 then ", " else "" : String) ++ t)
    have e : (acc ++ (if k > 0 then ", " else "" : String) ++ t).length = acc.length + (if k > 0 then 2 else 0) + t.length := by
      rw [strLen_append, strLen_append]
      split <;> rfl
    rw [e] at h
    rw [piled_cons]
    show (textFrom (k + 1) (acc ++ (if k > 0 then ", " else "" : String) ++ t) r).length ≤ _
    have : (if k > 0 then 2 else 0) ≤ 2 := by split <;> omega
    omega
theorem listText_le (ts : List Str) : (listText ts).length ≤ piled ts + 2 := by
  unfold listText
  rw [strLen_append]
  have := textFrom_le ts 0 ("[" : String)
  have e1 : ((("[" : String) : Str)).length = 1 := rfl
  have e2 : ((("]" : String) : Str)).length = 1 := rfl
  rw [e1] at this
  rw [e2]
  omega
theorem tupleText_le (ts : List Str) : (tupleText ts).length ≤ piled ts + 3 := by
  unfold tupleText
  rw [strLen_append, strLen_append]
  have e1 : ((("(" : String) : Str)).length = 1 := rfl
  have e3 : (((if ts.length == 1 then ",)" else ")" : String) : Str)).length ≤ 2 := by split <;> decide
  rw [e1]
  have : (Str.join ", " ts).length ≤ piled ts := by
    by_cases h : ts = []
    · subst h; exact Nat.zero_le _
    · have := join_length_add ts h; omega
  omega
theorem piled_shown {n : Nat} : ∀ {ds : List PyData}, (∀ d ∈ ds, d.shown.length ≤ n) → piled (PyData.shownAll ds) ≤ ds.length * (n + 2)
  | [], _ => by simp [PyData.shownAll, piled]
  | d :: r, h => by
    have := piled_shown (ds := r) fun e he => h e (List.mem_cons_of_mem _ he)
    have h1 := h d (List.mem_cons_self ..)
    simp only [PyData.shownAll, piled_cons, List.length_cons]
    rw [Nat.add_mul]
    omega
theorem all_cl {p n : Nat} : ∀ {ds : List PyData}, (∀ d ∈ ds, Sz p n d) → PyData.canLayAll0 ds = true ∧ PyData.showableAll ds = true ∧ PyData.depthAll ds ≤ p
  | [], _ => ⟨by simp [PyData.canLayAll0], by simp [PyData.showableAll], by simp [PyData.depthAll]⟩
  | d :: r, h => by
    obtain ⟨h1, h2, h3⟩ := all_cl (ds := r) fun e he => h e (List.mem_cons_of_mem _ he)
    have z := h d (List.mem_cons_self ..)
    exact ⟨by simp [PyData.canLayAll0, z.cl, h1], by simp [PyData.showableAll, z.sh, h2], by simp only [PyData.depthAll]; have := z.dp; omega⟩
theorem Sz.list {p n m : Nat} {ds : List PyData} (h : ∀ d ∈ ds, Sz p n d) (hm : ds.length ≤ m) : Sz (p + 1) (m * (n + 2) + 2) (.list ds) := by
  obtain ⟨h1, h2, h3⟩ := all_cl h
  refine ⟨by simpa [PyData.canLay0] using h1, by simpa [PyData.showable] using h2, by simp only [PyData.depth]; omega, ?_⟩
  have a := listText_le (PyData.shownAll ds)
  have b := piled_shown (ds := ds) fun d hd => (h d hd).ln
  have c := Nat.mul_le_mul_right (n + 2) hm
  show (listText (PyData.shownAll ds)).length ≤ _
  omega
theorem Sz.tup {p n m : Nat} {ds : List PyData} (h : ∀ d ∈ ds, Sz p n d) (hm : ds.length ≤ m) : Sz (p + 1) (m * (n + 2) + 3) (.tuple ds) := by
  obtain ⟨h1, h2, h3⟩ := all_cl h
  refine ⟨by simpa [PyData.canLay0] using h1, by simpa [PyData.showable] using h2, by simp only [PyData.depth]; omega, ?_⟩
  have a := tupleText_le (PyData.shownAll ds)
  have b := piled_shown (ds := ds) fun d hd => (h d hd).ln
  have c := Nat.mul_le_mul_right (n + 2) hm
  show (tupleText (PyData.shownAll ds)).length ≤ _
  omega
theorem Sz.two {p n : Nat} {d e : PyData} (h : Sz p n d) (h' : Sz p n e) : Sz (p + 1) (2 * (n + 2) + 3) (.tuple [d, e]) := Sz.tup (m := 2) (by simp [h, h']) (by simp)
theorem Sz.ints {m : Nat} {ns : List Int} (h : ∀ i ∈ ns, i.natAbs < 10 ^ 18) (hm : ns.length ≤ m) : Sz 1 (m * 21 + 2) (.list (ns.map .int)) :=
  Sz.list (p := 0) (n := 19) (by simpa using fun i hi => Sz.int (h i hi)) (by simpa using hm)
theorem Sz.shaped {p n : Nat} {d : PyData} (h : Sz p n d) (hp : p ≤ 64) : SeqAt.shaped d = true := by
  unfold SeqAt.shaped
  rw [h.cl]
  simpa using Nat.le_trans h.dp hp
section
variable {K : PySem.W.Frag} {H : Hp} {Q : VK} {w : Wd} {P : Bool → Hp → Prop}
theorem f_reprS {p n : Nat} {x : V} {d : PyData} (hd : Dq K H x d) (z : Sz p n d) (hp : p < 63) (hn : n ≤ 16777216) (h : Q (.str d.shown) H) : KBf K .repr Q [x] H :=
  f_repr hd z.sh (Nat.lt_of_le_of_lt z.dp hp) (Nat.le_trans z.ln (by rw [sizeLine_eq]; exact hn)) h
/-- the same data are equal -/
theorem c_neS {p n : Nat} {x y : V} {d : PyData} (hd : Dq K w.H x d) (he : Dq K w.H y d) (z : Sz p n d) (hp : p ≤ 64) (h : P false w.H) : KC2 K .NotEq x P y w.H :=
  c_neD hd he (z.shaped hp) (z.shaped hp) (by rw [SeqAt.eqv_refl d z.cl]; exact h)
theorem c_eqS {p n : Nat} {x y : V} {d : PyData} (hd : Dq K w.H x d) (he : Dq K w.H y d) (z : Sz p n d) (hp : p ≤ 64) (h : P true w.H) : KC2 K .Eq x P y w.H :=
  c_eqD hd he (z.shaped hp) (z.shaped hp) (by rw [SeqAt.eqv_refl d z.cl]; exact h)
end
end DI

/-! DI, part 15: objects with fields; dicts with pairs as keys. -/
namespace DI
open L2
open PySem.Spec
open PyProof.Rows hiding St
open PySem

section
variable {v : Ev} {D : Nat → Df} {n : Nat} {W : WX} {σ : St} {H : Hp} {Q : VK} {nx bk ct : St → Hp → Prop} {rt : VK} {K : PySem.W.Frag} {w : Wd}
/-- a field, read -/
def KFl (C : Addr) (f : Str) (Q : VK) : VK := fun x H1 => ∃ a dx fs z, x = .ref a ∧ H1 a = some (.ins C dx fs) ∧ fs.lookup f = some z ∧ Q z H1
theorem x_fld {C : Nat} {o : Xp} {f : Str} (h : o.den v W σ H (KFl (v.cls C) f Q)) : Xp.den v (.fld C o f) W σ H Q := h
theorem k_fl {C a dx : Addr} {f : Str} {fs : List (Str × V)} {z : V} (o : Op w a (.ins C dx fs)) (hl : fs.lookup f = some z) (h : Q z w.H) : KFl C f Q (.ref a) w.H := ⟨a, dx, fs, z, rfl, o.h, hl, h⟩
/-- a field, set -/
def KFs (v : Ev) (C : Nat) (o : Xp) (f : Str) (W : WX) (σ : St) (P : St → Hp → Prop) : VK := fun y H1 => o.den v W σ H1 fun x H2 => ∃ a dx fs, x = .ref a ∧ H2 a = some (.ins (v.cls C) dx fs) ∧ fs.length < 1000 ∧ P σ (upd H2 a (.ins (v.cls C) dx (putF f y fs)))
def KFt (C : Addr) (f : Str) (y : V) (σ : St) (P : St → Hp → Prop) : VK := fun x H2 => ∃ a dx fs, x = .ref a ∧ H2 a = some (.ins C dx fs) ∧ fs.length < 1000 ∧ P σ (upd H2 a (.ins C dx (putF f y fs)))
theorem r_fld {C : Nat} {o e : Xp} {f : Str} (h : e.den v W σ H (KFs v C o f W σ nx)) : Sm.den v (.fld C o f e) W ⟨nx, rt, bk, ct⟩ σ H := h
theorem k_fs {C : Nat} {o : Xp} {f : Str} {P : St → Hp → Prop} {y : V} (h : o.den v W σ H (KFt (v.cls C) f y σ P)) : KFs v C o f W σ P y H := h
theorem k_ft {C a dx : Addr} {f : Str} {fs gs : List (Str × V)} {y : V} {P : St → Hp → Prop} (o : Op w a (.ins C dx fs)) (hl : fs.length < 1000) (hg : putF f y fs = gs) (h : ∀ w', Ex [a] w w' → Op w' a (.ins C dx gs) → P σ w'.H) : KFt C f y σ P (.ref a) w.H := by
  subst hg
  exact ⟨a, dx, fs, rfl, o.h, hl, h (w.put a _) (ex_set o) (op_set o)⟩
/-- a method of an own class -/
def KMe (v : Ev) (m C : Nat) (nm : Str) (es : Xps) (W : WX) (σ : St) (Q : VK) : VK := fun x H1 => ∃ a dx fs, x = .ref a ∧ H1 a = some (.ins (v.cls C) dx fs) ∧ fs.lookup nm = none ∧
  es.den v W σ H1 fun vs H2 => v.sp m (.ref a :: vs) H2 Q fun c d H3 => W c d σ H3
def KMc (v : Ev) (m : Nat) (a : Addr) (W : WX) (σ : St) (Q : VK) : List V → Hp → Prop := fun vs H2 => v.sp m (.ref a :: vs) H2 Q fun c d H3 => W c d σ H3
theorem e_meth {m C : Nat} {nm : Str} {o : Xp} {es : Xps} (h : o.den v W σ H (KMe v m C nm es W σ Q)) : Xp.den v (.meth m C nm o es) W σ H Q := h
theorem k_me {m C : Nat} {nm : Str} {es : Xps} {a dx : Addr} {fs : List (Str × V)} (o : Op w a (.ins (v.cls C) dx fs)) (hn : fs.lookup nm = none) (h : es.den v W σ w.H (KMc v m a W σ Q)) : KMe v m C nm es W σ Q (.ref a) w.H := ⟨a, dx, fs, rfl, o.h, hn, h⟩
theorem k_mc {m : Nat} {a : Addr} {vs : List V} (h : spOf v D n m (.ref a :: vs) H Q fun c d H2 => W c d σ H2) : KMc (evAt v D n) m a W σ Q vs H := h
/-- an object of an own class is made -/
def KMk (v : Ev) (C f : Nat) (W : WX) (σ : St) (Q : VK) : List V → Hp → Prop := fun vs H1 => ∀ x dx, H1 x = none → H1 dx = none → dx ≠ x →
  v.sp f (.ref x :: vs) (upd (upd H1 dx (.own x)) x (.ins (v.cls C) dx [])) (fun u H2 => u = .non ∧ Q (.ref x) H2) fun c d H2 => W c d σ H2
theorem e_mk {C f : Nat} {es : Xps} (h : es.den v W σ H (KMk v C f W σ Q)) : Xp.den v (.mk C f es) W σ H Q := h
theorem k_mk {C f : Nat} {vs : List V} (h : ∀ w' x dx, Ex [] w w' → w.H x = none → Op w' x (.ins (v.cls C) dx []) → spOf v D n f (.ref x :: vs) w'.H (fun u H2 => u = .non ∧ Q (.ref x) H2) fun c d H2 => W c d σ H2) : KMk (evAt v D n) C f W σ Q vs w.H := fun x dx hx hd hne => by
  have e1 := ex_new (o := .own x) hd
  have hx1 : (w.put dx (.own x)).H x = none := by
    show upd w.H dx (.own x) x = none
    rw [upd_ne (Ne.symm hne)]; exact hx
  have e2 := ex_new (o := .ins (v.cls C) dx []) hx1
  exact h ((w.put dx (.own x)).put x (.ins (v.cls C) dx [])) x dx (e1.t0 e2) hx (op_new hx1)
theorem e_gI {i : Nat} {z : V} (hg : v.gv i = z) (h : Q z H) : Xp.den (evAt v D n) (.g i) W σ H Q := by
  show Q (v.gv i) H
  rw [hg]; exact h
/-! dicts with pairs as keys -/
theorem c_in_dT {a b : Addr} {P : Bool → Hp → Prop} {kvs : List (List Key × V)} {k : List Key} (o : w.H a = some (.dT kvs)) (hy : w.H b = some (.tup (k.map kV))) (h : P (valV kvs k).isSome w.H) : KC2 K .In (.ref b) P (.ref a) w.H := RIn.dict (DGet.t o hy) h
theorem i_dT {a b : Addr} {kvs : List (List Key × V)} {k : List Key} {z : V} (o : w.H a = some (.dT kvs)) (hy : w.H b = some (.tup (k.map kV))) (hz : valV kvs k = some z) (h : Q z w.H) : KI2 K (.ref a) Q (.ref b) w.H :=
  RIxR.dict (by have := DGet.t o hy; rwa [hz] at this) h
/-- a pair of ints as a key -/
abbrev pk (p : Int × Int) : List Key := [.inl p.1, .inl p.2]
abbrev dp (p : Int × Int) : PyData := .tuple [.int p.1, .int p.2]
theorem Dv.pair {x : V} {i j : Int} (h : Dv w x (.tuple [.int i, .int j])) : ∃ b, x = .ref b ∧ w.S b ∧ w.H b = some (.tup [.int i, .int j]) := by
  obtain ⟨b, xs, e, s, hb, r⟩ := h.of_tup
  cases r with
  | cons a r => cases a; cases r with
    | cons c r => cases c; cases r; exact ⟨b, e, s, hb⟩
theorem c_in_pair {a : Addr} {x : V} {P : Bool → Hp → Prop} {kvs : List (List Key × V)} {i j : Int} (hx : Dv w x (.tuple [.int i, .int j])) (o : w.H a = some (.dT kvs)) (h : P (valV kvs (pk (i, j))).isSome w.H) : KC2 K .In x P (.ref a) w.H := by
  obtain ⟨b, rfl, s, hb⟩ := hx.pair
  exact c_in_dT (k := pk (i, j)) o hb h
theorem i_pair {a : Addr} {x : V} {kvs : List (List Key × V)} {i j : Int} {z : V} (hx : Dv w x (.tuple [.int i, .int j])) (o : w.H a = some (.dT kvs)) (hz : valV kvs (pk (i, j)) = some z) (h : Q z w.H) : KI2 K (.ref a) Q x w.H := by
  obtain ⟨b, rfl, s, hb⟩ := hx.pair
  exact i_dT (k := pk (i, j)) o hb hz h
theorem k_set_pair {a : Addr} {x y : V} {kvs : List (List Key × V)} {i j : Int} {P : St → Hp → Prop} (hx : Dv w x (.tuple [.int i, .int j])) (o : Op w a (.dT kvs)) (hl : kvs.length < sizeLine) (h : ∀ w', Ex [a] w w' → Op w' a (.dT (putK kvs (pk (i, j)) y)) → P σ w'.H) : KSet P (.ref a) y σ x w.H := by
  obtain ⟨b, rfl, s, hb⟩ := hx.pair
  exact k_set_dT (k := pk (i, j)) o hb hl h
/-! name, name = value, value -/
def KPr (i j : Nat) (P : St → Hp → Prop) (σ : St) : List V → Hp → Prop := fun vs H1 => ∃ v w, vs = [v, w] ∧ P ((σ.set i (some v)).set j (some w)) H1
theorem r_par {i j : Nat} {a b : Xp} (h : Xps.den v (.cons a (.cons b .nil)) W σ H (KPr i j nx σ)) : Sm.den v (.par i j a b) W ⟨nx, rt, bk, ct⟩ σ H := h
theorem k_pr {i j : Nat} {P : St → Hp → Prop} {x y : V} (h : P ((σ.set i (some x)).set j (some y)) H) : KPr i j P σ [x, y] H := ⟨x, y, rfl, h⟩
def KPr3 (i j l : Nat) (P : St → Hp → Prop) (σ : St) : List V → Hp → Prop := fun vs H1 => ∃ u v w, vs = [u, v, w] ∧ P (((σ.set i (some u)).set j (some v)).set l (some w)) H1
theorem r_par3 {i j l : Nat} {a b c : Xp} (h : Xps.den v (.cons a (.cons b (.cons c .nil))) W σ H (KPr3 i j l nx σ)) : Sm.den v (.par3 i j l a b c) W ⟨nx, rt, bk, ct⟩ σ H := h
theorem k_pr3 {i j l : Nat} {P : St → Hp → Prop} {x y z : V} (h : P (((σ.set i (some x)).set j (some y)).set l (some z)) H) : KPr3 i j l P σ [x, y, z] H := ⟨x, y, z, rfl, h⟩
end
/-! truths that are known -/
section
variable {v : Ev} {W : WX} {σ : St} {H : Hp} {Q : VK} {P : Bool → Hp → Prop} {a b : Sms} {E : Ends} {t : Tt} {x y : Xp}
theorem kif_nt (h : b.den v W E σ H) : KIf v a b W E σ (!true) H := h
theorem kif_nf (h : a.den v W E σ H) : KIf v a b W E σ (!false) H := h
theorem kto_t (h : P true H) : KTO v t W σ P true H := h
theorem kto_f (h : t.den v W σ H P) : KTO v t W σ P false H := h
theorem kto_nt (h : t.den v W σ H P) : KTO v t W σ P (!true) H := h
theorem kto_nf (h : P true H) : KTO v t W σ P (!false) H := h
theorem kta_t (h : t.den v W σ H P) : KTA v t W σ P true H := h
theorem kta_f (h : P false H) : KTA v t W σ P false H := h
theorem kta_nt (h : P false H) : KTA v t W σ P (!true) H := h
theorem kta_nf (h : t.den v W σ H P) : KTA v t W σ P (!false) H := h
theorem ktn_t (h : P false H) : KTN P true H := h
theorem ktn_f (h : P true H) : KTN P false H := h
theorem kan_t (h : x.den v W σ H Q) : KAnd v x W σ Q (.bl true) H := h
theorem kan_f (h : Q (.bl false) H) : KAnd v x W σ Q (.bl false) H := h
theorem kor_t (h : Q (.bl true) H) : KOr v x W σ Q (.bl true) H := h
theorem kor_f (h : x.den v W σ H Q) : KOr v x W σ Q (.bl false) H := h
theorem kix_t (h : x.den v W σ H Q) : KIx v x y W Q σ true H := h
theorem kix_f (h : y.den v W σ H Q) : KIx v x y W Q σ false H := h
end
/-! ### lists of data, open -/
theorem Op.set_ne {w w' : Wd} {a b : Addr} {o : HO} (e : Ex [a] w w') (h : Op w b o) (n : b ≠ a) : Op w' b o := h.ex e (by simpa using n)
end DI

/-! DI, part 16: chains, slices, enumerate, zip, reversed; what is read from the written part. -/
namespace DI
open L2
open PySem.Spec
open PyProof.Rows hiding St
open PySem

section
variable {v : Ev} {D : Nat → Df} {n : Nat} {W : WX} {σ : St} {H : Hp} {Q : VK} {nx bk ct : St → Hp → Prop} {rt : VK} {K : PySem.W.Frag} {w w' : Wd}
theorem SqL.ex {T : List Addr} {a : Addr} {xs : List V} (e : Ex T w w') (h : SqL K w.H a xs) (n : a ∉ T) : SqL K w'.H a xs := by
  rcases h with (h | ⟨o, h⟩) | h
  · exact .inl (.inl (e.kp _ _ h n))
  · exact .inl (.inr ⟨o, e.kp _ _ h n⟩)
  · exact .inr h
theorem SqL.ex0 {a : Addr} {xs : List V} (e : Ex [] w w') (h : SqL K w.H a xs) : SqL K w'.H a xs := SqL.ex e h (by simp)
theorem SqT.ex {T : List Addr} {a : Addr} {xs : List V} (e : Ex T w w') (h : SqT K w.H a xs) (n : a ∉ T) : SqT K w'.H a xs := by
  rcases h with (h | ⟨o, h⟩) | h
  · exact .inl (.inl (e.kp _ _ h n))
  · exact .inl (.inr ⟨o, e.kp _ _ h n⟩)
  · exact .inr h
/-! chains -/
def KH1 (v : Ev) (o1 o2 : CmpOp) (b c : Xp) (W : WX) (σ : St) (P : Bool → Hp → Prop) : VK := fun x H1 => b.den v W σ H1 fun y H2 => rCmpB v.K o1 x y H2 fun k =>
  if k = true then c.den v W σ H2 fun z H3 => rCmpB v.K o2 y z H3 fun k' => P k' H3 else P false H2
def KH2 (v : Ev) (o1 o2 : CmpOp) (c : Xp) (W : WX) (σ : St) (P : Bool → Hp → Prop) (x : V) : VK := fun y H2 => rCmpB v.K o1 x y H2 fun k =>
  if k = true then c.den v W σ H2 fun z H3 => rCmpB v.K o2 y z H3 fun k' => P k' H3 else P false H2
def KH3 (v : Ev) (o2 : CmpOp) (c : Xp) (W : WX) (σ : St) (P : Bool → Hp → Prop) (y : V) : Bool → Hp → Prop := fun k H2 =>
  if k = true then c.den v W σ H2 (KC2 v.K o2 y P) else P false H2
theorem e_chn {o1 o2 : CmpOp} {a b c : Xp} (h : a.den v W σ H (KH1 v o1 o2 b c W σ (KBl Q))) : Xp.den v (.chn o1 o2 a b c) W σ H Q := h
theorem t_chn {o1 o2 : CmpOp} {a b c : Xp} {P : Bool → Hp → Prop} (h : a.den v W σ H (KH1 v o1 o2 b c W σ P)) : Tt.den v (.chn o1 o2 a b c) W σ H P := h
theorem k_h1 {o1 o2 : CmpOp} {b c : Xp} {P : Bool → Hp → Prop} {x : V} (h : b.den v W σ H (KH2 v o1 o2 c W σ P x)) : KH1 v o1 o2 b c W σ P x H := h
theorem k_h2 {o1 o2 : CmpOp} {c : Xp} {P : Bool → Hp → Prop} {x y : V} (h : KC2 v.K o1 x (KH3 v o2 c W σ P y) y H) : KH2 v o1 o2 c W σ P x y H := h
theorem k_h3 {o2 : CmpOp} {c : Xp} {P : Bool → Hp → Prop} {y : V} {k : Bool} (ht : k = true → c.den v W σ H (KC2 v.K o2 y P)) (hf : k = false → P false H) : KH3 v o2 c W σ P y k H := by
  cases k with
  | true => exact ht rfl
  | false => exact hf rfl
/-! slices -/
def KSa (v : Ev) (lo hi : Xpo) (W : WX) (σ : St) (Q : VK) : VK := fun x H1 => lo.den v W σ H1 fun l H2 => hi.den v W σ H2 fun u H3 => rSlAny v.K x l u H3 Q
def KSb (v : Ev) (hi : Xpo) (W : WX) (σ : St) (Q : VK) (x : V) : Option Int → Hp → Prop := fun l H2 => hi.den v W σ H2 fun u H3 => rSlAny v.K x l u H3 Q
def KSc (K : PySem.W.Frag) (Q : VK) (x : V) (l : Option Int) : Option Int → Hp → Prop := fun u H3 => rSlAny K x l u H3 Q
def KPa (P : Option Int → Hp → Prop) : VK := fun x H1 => ∃ i, x = .int i ∧ P (some i) H1
theorem e_slc {a : Xp} {lo hi : Xpo} (h : a.den v W σ H (KSa v lo hi W σ Q)) : Xp.den v (.sl a lo hi) W σ H Q := h
theorem k_sa {lo hi : Xpo} {x : V} (h : lo.den v W σ H (KSb v hi W σ Q x)) : KSa v lo hi W σ Q x H := h
theorem k_sb {hi : Xpo} {x : V} {l : Option Int} (h : hi.den v W σ H (KSc v.K Q x l)) : KSb v hi W σ Q x l H := h
theorem p_no {P : Option Int → Hp → Prop} (h : P none H) : Xpo.den v .no W σ H P := h
theorem p_so {e : Xp} {P : Option Int → Hp → Prop} (h : e.den v W σ H (KPa P)) : Xpo.den v (.so e) W σ H P := h
theorem k_pa {P : Option Int → Hp → Prop} {i : Int} (h : P (some i) H) : KPa P (.int i) H := ⟨i, rfl, h⟩
theorem k_scL {a : Addr} {xs : List V} {l u : Option Int} (h : SqL K w.H a xs) (q : KNew (.lst (cutV xs l u)) Q w.H) : KSc K Q (.ref a) l u w.H := RSlR.lst h q
theorem cutV_map {α : Type} (f : α → V) (xs : List α) (l u : Option Int) : cutV (xs.map f) l u = ((xs.drop (HT.sIx xs.length 0 l)).take (HT.sIx xs.length xs.length u - HT.sIx xs.length 0 l)).map f := by
  unfold cutV; rw [List.length_map, List.map_take, List.map_drop]
/-- the part of a list -/
def cutD {α : Type} (xs : List α) (l u : Option Int) : List α := (xs.drop (HT.sIx xs.length 0 l)).take (HT.sIx xs.length xs.length u - HT.sIx xs.length 0 l)
theorem cut_none {α : Type} {xs : List α} : cutD xs none none = xs := by
  unfold cutD; rw [HT.sIx_none, HT.sIx_none, List.drop_zero, Nat.sub_zero, List.take_length]
theorem cut_take {α : Type} {xs : List α} {k : Nat} : cutD xs none (some (k : Int)) = xs.take k := by
  unfold cutD
  rw [HT.sIx_none, HT.sIx_nat, List.drop_zero, Nat.sub_zero]
  rcases Nat.le_total k xs.length with h | h
  · rw [Nat.min_eq_left h]
  · rw [Nat.min_eq_right h, List.take_length, List.take_of_length_le h]
theorem cut_drop {α : Type} {xs : List α} {k : Nat} : cutD xs (some (k : Int)) none = xs.drop k := by
  unfold cutD
  rw [HT.sIx_none, HT.sIx_nat]
  rcases Nat.le_total k xs.length with h | h
  · rw [Nat.min_eq_left h, List.take_of_length_le (by simp)]
  · rw [Nat.min_eq_right h, List.drop_length, List.drop_of_length_le h]; simp
theorem cut_mid {α : Type} {xs : List α} {i j : Nat} : cutD xs (some (i : Int)) (some (j : Int)) = (xs.drop i).take (j - i) := by
  unfold cutD
  rw [HT.sIx_nat, HT.sIx_nat]
  rcases Nat.le_total i xs.length with h | h
  · rw [Nat.min_eq_left h]
    rcases Nat.le_total j xs.length with h' | h'
    · rw [Nat.min_eq_left h']
    · rw [Nat.min_eq_right h', List.take_of_length_le (by simp), List.take_of_length_le (by simp; omega)]
  · rw [Nat.min_eq_right h, List.drop_length, List.drop_of_length_le h]; simp
theorem cut_len {α : Type} {xs : List α} {l u : Option Int} : (cutD xs l u).length ≤ xs.length := by
  unfold cutD; rw [List.length_take, List.length_drop]; omega
theorem Dvs.take : ∀ {xs : List V} {ds : List PyData} (k : Nat), Dvs w xs ds → Dvs w (xs.take k) (ds.take k)
  | _, _, 0, _ => by simpa using Dvs.nil
  | _, _, k + 1, .nil => by simpa using Dvs.nil
  | _, _, k + 1, .cons h r => .cons h (Dvs.take k r)
theorem Dvs.drop : ∀ {xs : List V} {ds : List PyData} (k : Nat), Dvs w xs ds → Dvs w (xs.drop k) (ds.drop k)
  | _, _, 0, h => h
  | _, _, k + 1, .nil => .nil
  | _, _, k + 1, .cons h r => Dvs.drop k r
theorem Dvs.cut {xs : List V} {ds : List PyData} {l u : Option Int} (h : Dvs w xs ds) : Dvs w (cutV xs l u) (cutD ds l u) := by
  unfold cutV cutD
  rw [h.length]
  exact (h.drop _).take _
theorem cutD_map {α β : Type} (f : α → β) (xs : List α) (l u : Option Int) : cutD (xs.map f) l u = (cutD xs l u).map f := by
  unfold cutD; rw [List.length_map, List.map_take, List.map_drop]
/-- the part of sealed data -/
theorem k_scD {x : V} {ds : List PyData} {l u : Option Int} (hx : Dv w x (.list ds)) (q : ∀ w' y, Ex [] w w' → Dv w' y (.list (cutD ds l u)) → Q y w'.H) : KSc K Q x l u w.H := by
  obtain ⟨a, xs, rfl, s, e, r⟩ := hx.of_lst
  exact k_scL (sqL e) (new_lst r.cut q)
theorem k_scO {a : Addr} {xs : List V} {ds : List PyData} {l u : Option Int} (e : w.H a = some (.lst xs)) (r : Dvs w xs ds) (q : ∀ w' y, Ex [] w w' → Dv w' y (.list (cutD ds l u)) → Q y w'.H) : KSc K Q (.ref a) l u w.H :=
  k_scL (sqL e) (new_lst r.cut q)
theorem k_scF {a : Addr} {ns : List Int} {l u : Option Int} (h : SqL K w.H a (ns.map V.int)) (q : ∀ w' y, Ex [] w w' → Dv w' y (.list ((cutD ns l u).map .int)) → Q y w'.H) : KSc K Q (.ref a) l u w.H :=
  k_scL h (by rw [cutV_map]; exact new_lst (Dvs.ints _) q)
/-! what the given list holds -/
theorem f_lenF {a : Addr} {xs : List V} (h : SqL K w.H a xs) (q : Q (.int xs.length) w.H) : KBf K .len Q [.ref a] w.H := RLen.lst h q
theorem i_F {a : Addr} {xs : List V} {i : Int} {y : V} (h : SqL K w.H a xs) (hi : 0 ≤ i) (hy : xs[i.toNat]? = some y) (q : Q y w.H) : KI2 K (.ref a) Q (.int i) w.H := RIxR.lst h rfl (atI_pos hi hy) q
theorem i_FT {a : Addr} {xs : List V} {i : Int} {y : V} (h : SqT K w.H a xs) (hi : 0 ≤ i) (hy : xs[i.toNat]? = some y) (q : Q y w.H) : KI2 K (.ref a) Q (.int i) w.H := RIxR.tup h rfl (atI_pos hi hy) q
theorem f_lstF {a : Addr} {xs : List V} (h : SqL K w.H a xs) (q : KNew (.lst xs) Q w.H) : KBf K .list Q [.ref a] w.H := RLst.lst h q
theorem f_lstT {x : V} {ds : List PyData} (hx : Dv w x (.tuple ds)) (h : ∀ w' y, Ex [] w w' → Dv w' y (.list ds) → Q y w'.H) : KBf K .list Q [x] w.H := by
  obtain ⟨a, xs, rfl, s, e, r⟩ := hx.of_tup
  exact RLst.tup (sqT e) (new_lst r h)
/-! pairs, raw -/
theorem g_tupR {gs : Tgs} {P : St → Hp → Prop} {T : Addr} {xs : List V} (h : w.H T = some (.tup xs)) (hn : xs.length = gs.len) (k : KTs v gs W P xs σ w.H) : Tg.den v (.tup gs) W (.ref T) σ w.H P :=
  .inl ⟨T, xs, rfl, sqT h, hn, k⟩
/-! enumerate -/
def KEn (K : PySem.W.Frag) (R : It → Hp → Prop) : List V → Hp → Prop := fun vs H1 => ∃ a xs, vs = [.ref a] ∧ SqL K H1 a xs ∧ R (Ite K a) H1
theorem q_enm {e : Xp} {R : It → Hp → Prop} (h : Xps.den v (.cons e .nil) W σ H (KEn v.K R)) : Sq.den v (.enm e) W σ H R := h
theorem k_en {a : Addr} {xs : List V} {R : It → Hp → Prop} (h : SqL K w.H a xs) (r : R (Ite K a) w.H) : KEn K R [.ref a] w.H := ⟨a, xs, rfl, h, r⟩
theorem k_for_enm {a : Addr} {xs : List V} {g : TG} {tb : TS} (Inv : Nat → St → Wd → Prop) (hk : ∀ i σ w', Inv i σ w' → SqL K w'.H a xs) (h0 : Inv 0 σ w)
    (hs : ∀ (i : Nat) x σ w' w2 T, xs[i]? = some x → Inv i σ w' → Ex [] w' w2 → w2.H T = some (.tup [.int i, x]) → g (.ref T) σ w2.H fun σ2 H2 => tb ⟨KIs (Inv (i + 1)), rt, nx, KIs (Inv (i + 1))⟩ σ2 H2)
    (hd : ∀ σ w', Inv xs.length σ w' → nx σ w'.H) : KFor g tb ⟨nx, rt, bk, ct⟩ σ (Ite K a) w.H := by
  refine ⟨fun i m σ H => m = xs.length - i ∧ i ≤ xs.length ∧ KIs (Inv i) σ H, ⟨xs.length, by simp, Nat.zero_le _, k_is h0⟩, ?_⟩
  rintro i m σ H ⟨rfl, hi, w', rfl, p⟩
  have q := hk i σ w' p
  by_cases hlt : i < xs.length
  · refine .inr ⟨⟨xs, xs[i], q, by simp [hlt]⟩, KIs (Inv (i + 1)), fun σ' H' p' => ⟨xs.length - (i + 1), by omega, rfl, hlt, p'⟩, fun z H' y => ?_⟩
    obtain ⟨T, x, rfl, hT, rfl, f⟩ := y
    exact hs i x σ w' (w'.put T _) T (f xs q) p (ex_new hT) upd_same
  · have e : i = xs.length := by omega
    subst e
    exact .inl ⟨⟨xs, q, Nat.le_refl _⟩, hd σ w' p⟩
/-! a comprehension over a tuple -/
theorem k_lc_tup {a : Addr} {xs : List V} {g : TG} {tt : TT} {te : TE} {vs : List Nat} (h : ∀ w1 D, Ex [] w w1 → w.H D = none → Op w1 D (.lst []) → ∃ Inv : Nat → Wd → Prop, Inv 0 w1 ∧ (∀ i w', Inv i w' → SqT K w'.H a xs) ∧
    (∀ i x w', xs[i]? = some x → Inv i w' → g x (wipe σ vs) w'.H (KLb tt te vs σ D (Inv (i + 1)))) ∧ ∀ w', Inv xs.length w' → Q (.ref D) w'.H) : KLc g tt te vs σ Q (Itt K a) w.H := fun D hD => by
  obtain ⟨Inv, h0, hk, hs, hd⟩ := h (w.put D (.lst [])) D (ex_new hD) hD (op_new hD)
  exact lc_tup (xs := xs) (Qd := Q (.ref D)) (fun i => KIw (Inv i)) ⟨_, rfl, h0⟩ (fun i H hi ⟨w', e, p⟩ => by subst e; exact hk i w' p) (fun i x H hx ⟨w', e, p⟩ => by subst e; exact hs i x w' hx p) fun H ⟨w', e, p⟩ => by subst e; exact hd w' p
/-! comprehensions that make one thing of each -/
theorem k_lc_D {x : V} {ds : List PyData} {g : TG} {tt : TT} {te : TE} {vs : List Nat} (hx : Dv w x (.list ds)) (h : ∀ w1 D, Ex [] w w1 → w.H D = none → Op w1 D (.lst []) → ∃ Inv : Nat → Wd → Prop, Inv 0 w1 ∧ (∀ i w', Inv i w' → ∃ T, Ex T w w') ∧
    (∀ i d y w', ds[i]? = some d → Dv w' y d → Inv i w' → g y (wipe σ vs) w'.H (KLb tt te vs σ D (Inv (i + 1)))) ∧ ∀ w', Inv ds.length w' → Q (.ref D) w'.H) : KLs K (KLc g tt te vs σ Q) x w.H := by
  refine k_lsD hx fun a xs e s ha r => ?_
  refine k_lc_lst (xs := xs) fun w1 D e1 hD o1 => ?_
  obtain ⟨Inv, h0, hk, hs, hd⟩ := h w1 D e1 hD o1
  refine ⟨Inv, h0, fun i w' p => ?_, fun i y w' hy p => ?_, fun w' p => hd w' (by rw [← r.length]; exact p)⟩
  · obtain ⟨T, ex⟩ := hk i w' p
    exact sqL (ex.keepL s ha)
  · obtain ⟨T, ex⟩ := hk i w' p
    obtain ⟨d, hd, hv⟩ := r.get' hy
    exact hs i d y w' hd (hv.ex ex) p
theorem k_lc_DT {x : V} {ds : List PyData} {g : TG} {tt : TT} {te : TE} {vs : List Nat} (hx : Dv w x (.tuple ds)) (h : ∀ w1 D, Ex [] w w1 → w.H D = none → Op w1 D (.lst []) → ∃ Inv : Nat → Wd → Prop, Inv 0 w1 ∧ (∀ i w', Inv i w' → ∃ T, Ex T w w') ∧
    (∀ i d y w', ds[i]? = some d → Dv w' y d → Inv i w' → g y (wipe σ vs) w'.H (KLb tt te vs σ D (Inv (i + 1)))) ∧ ∀ w', Inv ds.length w' → Q (.ref D) w'.H) : KLt K (KLc g tt te vs σ Q) x w.H := by
  refine k_ltD hx fun a xs e s ha r => ?_
  refine k_lc_tup (xs := xs) fun w1 D e1 hD o1 => ?_
  obtain ⟨Inv, h0, hk, hs, hd⟩ := h w1 D e1 hD o1
  refine ⟨Inv, h0, fun i w' p => ?_, fun i y w' hy p => ?_, fun w' p => hd w' (by rw [← r.length]; exact p)⟩
  · obtain ⟨T, ex⟩ := hk i w' p
    exact sqT (ex.keepL s ha)
  · obtain ⟨T, ex⟩ := hk i w' p
    obtain ⟨d, hd, hv⟩ := r.get' hy
    exact hs i d y w' hd (hv.ex ex) p
/-- the turn of such a comprehension -/
def KMk1 (te : TE) (vs : List Nat) (σ0 : St) (R : VK) : St → Hp → Prop := fun σ2 H2 => wipe σ2 vs = wipe σ0 vs ∧ te σ2 H2 R
theorem k_mk1 {te : TE} {vs : List Nat} {σ0 : St} {R : VK} (hw : wipe σ vs = wipe σ0 vs) (h : te σ H R) : KMk1 te vs σ0 R σ H := ⟨hw, h⟩
def InvM (w : Wd) (D : Addr) (f : Nat → PyData) (i : Nat) (w' : Wd) : Prop := Ex [] w w' ∧ ∃ zs, Op w' D (.lst zs) ∧ Dvs w' zs ((List.range i).map f)
theorem invM_next {D : Addr} {f : Nat → PyData} {i : Nat} {w1 w2 : Wd} {x : V} (hD : w.H D = none) (p : InvM w D f i w1) (e : Ex [] w1 w2) (d : Dv w2 x (f i)) (hl : i < 1000000) : KAp D (InvM w D f (i + 1)) x w2.H := by
  obtain ⟨E, zs, o, r⟩ := p
  have rl := r.length
  rw [List.length_map, List.length_range] at rl
  refine k_ap (o.ex e (by simp)) (by rw [rl, sizeLine_eq]; omega) fun w3 e3 o3 => ⟨(E.t0 e).tf e3 hD, _, o3, ?_⟩
  rw [List.range_succ, List.map_append]
  exact ((r.ex e).ex e3).app (.cons (d.ex e3) .nil)
theorem k_lc_mk {x : V} {ds : List PyData} {g : TG} {te : TE} {vs : List Nat} (hx : Dv w x (.list ds)) (f : Nat → PyData) (hn : ds.length ≤ 1000000)
    (hs : ∀ i d y w' (R : VK), ds[i]? = some d → Ex [] w w' → Dv w' y d → (∀ w2 z, Ex [] w' w2 → Dv w2 z (f i) → R z w2.H) → g y (wipe σ vs) w'.H (KMk1 te vs σ R))
    (hd : ∀ w' p zs, Ex [] w w' → w.H p = none → Op w' p (.lst zs) → Dvs w' zs ((List.range ds.length).map f) → Q (.ref p) w'.H) : KLs K (KLc g (Tto.den v .no W) te vs σ Q) x w.H := by
  refine k_lc_D hx fun w1 D e1 hD o1 => ⟨InvM w D f, ⟨e1, [], o1, .nil⟩, fun i w' p => ⟨[], p.1⟩, fun i d y w' hd' dy p => ?_, fun w' p => ?_⟩
  · have hi : i < ds.length := by
      rcases Nat.lt_or_ge i ds.length with h | h
      · exact h
      · rw [List.getElem?_eq_none h] at hd'; cases hd'
    exact hs i d y w' (KAp D (InvM w D f (i + 1))) hd' p.1 dy fun w2 z e d => invM_next hD p e d (by omega)
  · obtain ⟨E, zs, o, r⟩ := p
    exact hd w' D zs E hD o r
theorem k_lc_mkT {x : V} {ds : List PyData} {g : TG} {te : TE} {vs : List Nat} (hx : Dv w x (.tuple ds)) (f : Nat → PyData) (hn : ds.length ≤ 1000000)
    (hs : ∀ i d y w' (R : VK), ds[i]? = some d → Ex [] w w' → Dv w' y d → (∀ w2 z, Ex [] w' w2 → Dv w2 z (f i) → R z w2.H) → g y (wipe σ vs) w'.H (KMk1 te vs σ R))
    (hd : ∀ w' p zs, Ex [] w w' → w.H p = none → Op w' p (.lst zs) → Dvs w' zs ((List.range ds.length).map f) → Q (.ref p) w'.H) : KLt K (KLc g (Tto.den v .no W) te vs σ Q) x w.H := by
  refine k_lc_DT hx fun w1 D e1 hD o1 => ⟨InvM w D f, ⟨e1, [], o1, .nil⟩, fun i w' p => ⟨[], p.1⟩, fun i d y w' hd' dy p => ?_, fun w' p => ?_⟩
  · have hi : i < ds.length := by
      rcases Nat.lt_or_ge i ds.length with h | h
      · exact h
      · rw [List.getElem?_eq_none h] at hd'; cases hd'
    exact hs i d y w' (KAp D (InvM w D f (i + 1))) hd' p.1 dy fun w2 z e d => invM_next hD p e d (by omega)
  · obtain ⟨E, zs, o, r⟩ := p
    exact hd w' D zs E hD o r
theorem k_lc_mkR {m : Nat} {g : TG} {te : TE} {vs : List Nat} (n : Nat) (hm : m = n) (f : Nat → PyData) (hn : n ≤ 1000000)
    (hs : ∀ (i : Nat) w' (R : VK), i < n → Ex [] w w' → (∀ w2 z, Ex [] w' w2 → Dv w2 z (f i) → R z w2.H) → g (.int i) (wipe σ vs) w'.H (KMk1 te vs σ R))
    (hd : ∀ w' p zs, Ex [] w w' → w.H p = none → Op w' p (.lst zs) → Dvs w' zs ((List.range n).map f) → Q (.ref p) w'.H) : KLc g (Tto.den v .no W) te vs σ Q (Itr 0 m) w.H := by
  subst hm
  refine k_lc_n m rfl fun w1 D e1 hD o1 => ⟨InvM w D f, ⟨e1, [], o1, .nil⟩, fun i w' hi p => ?_, fun w' p => ?_⟩
  · exact hs i w' (KAp D (InvM w D f (i + 1))) hi p.1 fun w2 z e d => invM_next hD p e d (by omega)
  · obtain ⟨E, zs, o, r⟩ := p
    exact hd w' D zs E hD o r
/-- ints made so -/
theorem Dvs.ints_of {zs : List V} {n : Nat} {f : Nat → Int} (h : Dvs w zs ((List.range n).map fun i => .int (f i))) : zs = ((List.range n).map f).map V.int := by
  refine Dvs.of_ints (w := w) ?_
  rw [List.map_map]; exact h
theorem range_map {α β : Type} {z : α} (f : α → β) (l : List α) : (List.range l.length).map (fun i => f (l.getD i z)) = l.map f := by
  refine List.ext_getElem? fun i => ?_
  rw [List.getElem?_map, List.getElem?_map]
  by_cases h : i < l.length
  · rw [List.getElem?_range h, List.getElem?_eq_getElem h]
    show some (f (l.getD i z)) = some (f l[i])
    rw [List.getD_eq_getElem?_getD, List.getElem?_eq_getElem h]; rfl
  · rw [List.getElem?_eq_none (by simpa using h), List.getElem?_eq_none (by simpa using h)]; rfl
theorem get_map {α β : Type} {z : α} {f : α → β} {l : List α} {i : Nat} {d : β} (h : (l.map f)[i]? = some d) : i < l.length ∧ d = f (l.getD i z) := by
  rw [List.getElem?_map] at h
  obtain ⟨x, hx, rfl⟩ := Option.map_eq_some_iff.mp h
  have hi : i < l.length := by
    rcases Nat.lt_or_ge i l.length with q | q
    · exact q
    · rw [List.getElem?_eq_none q] at hx; cases hx
  refine ⟨hi, ?_⟩
  rw [List.getD_eq_getElem?_getD, hx]; rfl
/-! sum, all, any -/
theorem f_sum {a : Addr} {ns : List Int} (h : w.H a = some (.lst (ns.map V.int))) (q : Q (.int ns.sum) w.H) : KBf K .sum Q [.ref a] w.H := ⟨ns, sqL h, q⟩
theorem f_all {a : Addr} {bs : List Bool} (h : w.H a = some (.lst (bs.map V.bl))) (q : Q (.bl (bs.all id)) w.H) : KBf K .all Q [.ref a] w.H := ⟨bs, sqL h, q⟩
theorem f_any {a : Addr} {bs : List Bool} (h : w.H a = some (.lst (bs.map V.bl))) (q : Q (.bl (bs.any id)) w.H) : KBf K .any Q [.ref a] w.H := ⟨bs, sqL h, q⟩
/-! sealing anything -/
theorem seal_any {a : Addr} {o : HO} (h : Op w a o) : ∃ w', w'.H = w.H ∧ Ex [a] w w' ∧ w'.S a ∧ w'.H a = some o :=
  ⟨w.seal a o h.h, rfl, ex_seal h, .inr rfl, h.h⟩
theorem k_ltR {a : Addr} {xs : List V} {R : It → Hp → Prop} (e : w.H a = some (.tup xs)) (h : R (Itt K a) w.H) : KLt K R (.ref a) w.H := ⟨a, rfl, ⟨xs, sqT e⟩, h⟩
/-- a field of an object, open or sealed -/
theorem k_flH {C a dx : Addr} {f : Str} {fs : List (Str × V)} {z : V} (o : w.H a = some (.ins C dx fs)) (hl : fs.lookup f = some z) (h : Q z w.H) : KFl C f Q (.ref a) w.H := ⟨a, dx, fs, z, rfl, o, hl, h⟩
theorem k_meH {m C : Nat} {nm : Str} {es : Xps} {a dx : Addr} {fs : List (Str × V)} (o : w.H a = some (.ins (v.cls C) dx fs)) (hn : fs.lookup nm = none) (h : es.den v W σ w.H (KMc v m a W σ Q)) : KMe v m C nm es W σ Q (.ref a) w.H := ⟨a, dx, fs, rfl, o, hn, h⟩
/-! zip -/
def KZp (K : PySem.W.Frag) (R : It → Hp → Prop) : List V → Hp → Prop := fun vs H1 => ∃ a b xs ys, vs = [.ref a, .ref b] ∧ ((SqL K H1 a xs ∧ SqL K H1 b ys ∧ R (Itz K a b) H1) ∨ (SqT K H1 a xs ∧ SqT K H1 b ys ∧ R (RZ.ItzT K a b) H1))
theorem q_zip {e e' : Xp} {R : It → Hp → Prop} (h : Xps.den v (.cons e (.cons e' .nil)) W σ H (KZp v.K R)) : Sq.den v (.zip e e') W σ H R := h
theorem k_zp {a b : Addr} {xs ys : List V} {R : It → Hp → Prop} (h : SqL K w.H a xs) (h' : SqL K w.H b ys) (r : R (Itz K a b) w.H) : KZp K R [.ref a, .ref b] w.H := ⟨a, b, xs, ys, rfl, .inl ⟨h, h', r⟩⟩
theorem k_for_zip {a b : Addr} {xs ys : List V} {g : TG} {tb : TS} (hl : xs.length = ys.length) (Inv : Nat → St → Wd → Prop) (hk : ∀ i σ w', Inv i σ w' → SqL K w'.H a xs ∧ SqL K w'.H b ys) (h0 : Inv 0 σ w)
    (hs : ∀ (i : Nat) x y σ w' w2 T, xs[i]? = some x → ys[i]? = some y → Inv i σ w' → Ex [] w' w2 → w2.H T = some (.tup [x, y]) → g (.ref T) σ w2.H fun σ2 H2 => tb ⟨KIs (Inv (i + 1)), rt, nx, KIs (Inv (i + 1))⟩ σ2 H2)
    (hd : ∀ σ w', Inv xs.length σ w' → nx σ w'.H) : KFor g tb ⟨nx, rt, bk, ct⟩ σ (Itz K a b) w.H :=
  RZ.for_zipL (xs := xs) (ys := ys) hl (fun i => KIs (Inv i)) (k_is h0) (fun i σ H ⟨w', e, p⟩ => by subst e; exact hk i σ w' p)
    (fun i x y T σ H hx hy ⟨w', e, p⟩ hT => by subst e; exact hs i x y σ w' (w'.put T _) T hx hy p (ex_new hT) upd_same) fun σ H ⟨w', e, p⟩ => by subst e; exact hd σ w' p
/-! reversed -/
def KRv (K : PySem.W.Frag) (R : It → Hp → Prop) : VK := fun x H1 => ∃ (a : Addr) (xs : List V), x = .ref a ∧ ((SqL K H1 a xs ∧ R (Itv K a xs.length) H1) ∨ (SqT K H1 a xs ∧ R (RT.ItvT K a xs.length) H1))
/-- reversed(a text) -/
def KRvT (R : It → Hp → Prop) : VK := fun x H1 => ∃ z : Str, x = .str z ∧ z.length ≤ sizeLine ∧ R (RX.ItsR z) H1
theorem q_rvT {e : Xp} {R : It → Hp → Prop} (h : e.den v W σ H (KRvT R)) : Sq.den v (.rvT e) W σ H R := h
theorem k_rvT {z : Str} {R : It → Hp → Prop} (hz : z.length ≤ sizeLine) (r : R (RX.ItsR z) H) : KRvT R (.str z) H := ⟨z, rfl, hz, r⟩
theorem k_for_rvT {z : Str} {g : TG} {tb : TS} {w : Wd} (Inv : Nat → St → Wd → Prop) (h0 : Inv 0 σ w)
    (hs : ∀ (i c : Nat) σ w', z.cps[z.cps.size - 1 - i]? = some c → i < z.cps.size → Inv i σ w' → g (.str ⟨#[c]⟩) σ w'.H fun σ2 H2 => tb ⟨KIs (Inv (i + 1)), rt, nx, KIs (Inv (i + 1))⟩ σ2 H2)
    (hd : ∀ σ w', Inv z.cps.size σ w' → nx σ w'.H) : KFor g tb ⟨nx, rt, bk, ct⟩ σ (RX.ItsR z) w.H := by
  refine ⟨fun i m σ H => m = z.cps.size - i ∧ i ≤ z.cps.size ∧ KIs (Inv i) σ H, ⟨z.cps.size, by simp, Nat.zero_le _, k_is h0⟩, ?_⟩
  rintro i m σ H ⟨rfl, hi, w', rfl, p⟩
  by_cases hlt : i < z.cps.size
  · refine .inr ⟨hlt, KIs (Inv (i + 1)), fun σ' H' p' => ⟨z.cps.size - (i + 1), by omega, rfl, hlt, p'⟩, fun y H' q => ?_⟩
    obtain ⟨rfl, c, hc, rfl⟩ := q
    exact hs i c σ w' hc hlt p
  · have e : i = z.cps.size := by omega
    subst e
    exact .inl ⟨Nat.le_refl _, hd σ w' p⟩
theorem q_rvs {e : Xp} {R : It → Hp → Prop} (h : e.den v W σ H (KRv v.K R)) : Sq.den v (.rvs e) W σ H R := h
theorem k_rvL {a : Addr} {xs : List V} {R : It → Hp → Prop} (h : SqL K w.H a xs) (r : R (Itv K a xs.length) w.H) : KRv K R (.ref a) w.H := ⟨a, xs, rfl, .inl ⟨h, r⟩⟩
theorem k_for_rvL {a : Addr} {xs : List V} {g : TG} {tb : TS} (Inv : Nat → St → Wd → Prop) (hk : ∀ i σ w', Inv i σ w' → SqL K w'.H a xs) (h0 : Inv 0 σ w)
    (hs : ∀ (i : Nat) x σ w', i < xs.length → xs[xs.length - 1 - i]? = some x → Inv i σ w' → g x σ w'.H fun σ2 H2 => tb ⟨KIs (Inv (i + 1)), rt, nx, KIs (Inv (i + 1))⟩ σ2 H2)
    (hd : ∀ σ w', Inv xs.length σ w' → nx σ w'.H) : KFor g tb ⟨nx, rt, bk, ct⟩ σ (Itv K a xs.length) w.H :=
  RT.for_Itv (fun i => KIs (Inv i)) (k_is h0) (fun i σ H ⟨w', e, p⟩ => by subst e; exact hk i σ w' p)
    (fun i x σ H hi hx ⟨w', e, p⟩ => by subst e; exact hs i x σ w' hi hx p) fun σ H ⟨w', e, p⟩ => by subst e; exact hd σ w' p
end
/-- a divisor's size -/
theorem log_small {m : Int} (h : m.natAbs < 2 ^ 9000 := by decide) : m.natAbs.log2 < 9000 := by
  rcases Nat.eq_zero_or_pos m.natAbs with e | e
  · rw [e]; decide
  · exact (Nat.log2_lt (by omega)).mpr h
theorem log_small' {m : Int} (h0 : 0 ≤ m) (h1 : m < 2 ^ 64) : m.natAbs.log2 < 9000 := log_small (Nat.lt_of_lt_of_le (show m.natAbs < 2 ^ 64 by omega) (Nat.pow_le_pow_right (by decide) (by decide)))
end DI

/-! DI, part 17: keyword calls, bit_length, range with a step; texts by their signs. -/
namespace DI
open L2
open PySem.Spec
open PyProof.Rows hiding St
open PySem

section
variable {v : Ev} {D : Nat → Df} {n : Nat} {W : WX} {σ : St} {H : Hp} {Q : VK} {nx bk ct : St → Hp → Prop} {rt : VK} {w : Wd} {K : PySem.W.Frag}

/-! keyword calls -/
def KK1 (v : Ev) (f : Nat) (ks : Xps) (W : WX) (σ : St) (Q : VK) : List V → Hp → Prop := fun vs H => ks.den v W σ H fun zs H2 => zs.length = ks.len ∧ v.sp f (vs ++ zs) H2 Q fun c d H3 => W c d σ H3
def KK2 (v : Ev) (f l : Nat) (vs : List V) (W : WX) (σ : St) (Q : VK) : List V → Hp → Prop := fun zs H => zs.length = l ∧ v.sp f (vs ++ zs) H Q fun c d H3 => W c d σ H3
theorem e_callk {f : Nat} {es ks : Xps} (h : es.den v W σ H (KK1 v f ks W σ Q)) : Xp.den v (.callk f es ks) W σ H Q := h
theorem k_k1 {f : Nat} {ks : Xps} {vs : List V} (h : ks.den v W σ H (KK2 v f ks.len vs W σ Q)) : KK1 v f ks W σ Q vs H := h
theorem k_k2 {f l : Nat} {vs zs : List V} (hl : zs.length = l) (h : spOf v D n f (vs ++ zs) H Q fun c d H3 => W c d σ H3) : KK2 (evAt v D n) f l vs W σ Q zs H := ⟨hl, h⟩
/-! bit_length -/
def KBi (Q : VK) : VK := fun x H1 => ∃ i, x = .int i ∧ Q (.int (Builtin.Int.intBits i : Nat)) H1
theorem e_bits {a : Xp} (h : a.den v W σ H (KBi Q)) : Xp.den v (.bits a) W σ H Q := h
theorem k_bits {i : Int} (h : Q (.int (Builtin.Int.intBits i : Nat)) H) : KBi Q (.int i) H := ⟨i, rfl, h⟩
/-! range with a step -/
def KR3c (R : It → Hp → Prop) : List V → Hp → Prop := fun vs H1 => ∃ (i j c : Int) (n : Nat), vs = [.int i, .int j, .int c] ∧ RgC i j c n ∧ R (Itc i c n) H1
theorem q_rng3 {a b c : Xp} {R : It → Hp → Prop} (h : Xps.den v (.cons a (.cons b (.cons c .nil))) W σ H (KR3c R)) : Sq.den v (.rng3 a b c) W σ H R := h
theorem k_r3 {i j : Int} {R : It → Hp → Prop} (c : -(2 ^ 62) ≤ i ∧ i < 2 ^ 62 ∧ -(2 ^ 62) ≤ j ∧ j < 2 ^ 62) (h : R (Itc i (-1) (i - j).toNat) H) : KR3c R [.int i, .int j, .int (-1)] H :=
  ⟨i, j, -1, _, rfl, RgC.neg c.1 c.2.1 c.2.2.1 c.2.2.2, h⟩
theorem k_for_rngC {lo c : Int} {m : Nat} {g : TG} {tb : TS} (Inv : Nat → St → Wd → Prop) (h0 : Inv 0 σ w)
    (hs : ∀ (i : Nat) σ w', i < m → Inv i σ w' → g (.int (lo + (i : Int) * c)) σ w'.H fun σ2 H2 => tb ⟨KIs (Inv (i + 1)), rt, nx, KIs (Inv (i + 1))⟩ σ2 H2)
    (hd : ∀ σ w', Inv m σ w' → nx σ w'.H) : KFor g tb ⟨nx, rt, bk, ct⟩ σ (Itc lo c m) w.H := by
  refine ⟨fun i k σ H => k = m - i ∧ i ≤ m ∧ KIs (Inv i) σ H, ⟨m, by simp, Nat.zero_le _, k_is h0⟩, ?_⟩
  rintro i k σ H ⟨rfl, hi, w', rfl, p⟩
  by_cases hlt : i < m
  · refine .inr ⟨hlt, KIs (Inv (i + 1)), fun σ' H' p' => ⟨m - (i + 1), by omega, rfl, hlt, p'⟩, fun z H' y => ?_⟩
    obtain ⟨rfl, rfl⟩ := y
    exact hs i σ w' hlt p
  · have e : i = m := by omega
    subst e
    exact .inl ⟨Nat.le_refl _, hd σ w' p⟩

/-! ### texts -/
theorem S_tl (x : Str) : S x.cps.toList = x := rfl
theorem S_len (a : List Nat) : (S a).length = a.length := by simp [S, Str.length]
theorem S_list (a : List Nat) : (S a).cps.toList = a := by simp [S]
theorem S_inj {a b : List Nat} (h : S a = S b) : a = b := by rw [← S_list a, ← S_list b, h]
theorem S_dec {a b : List Nat} : decide (S a = S b) = decide (a = b) := by
  by_cases h : a = b
  · subst h; simp
  · rw [decide_eq_false h, decide_eq_false (fun q => h (S_inj q))]
theorem S_cat (a b : List Nat) : S a ++ S b = S (a ++ b) := SX.S_cat a b
theorem o_addS {a b : List Nat} (c : a.length + b.length ≤ sizeLine) (h : Q (.str (S (a ++ b))) H) : KB2 K .Add (.str (S a)) Q (.str (S b)) H := o_adds (by rw [S_len, S_len]; exact c) (by rw [S_cat]; exact h)
theorem f_lenSS {s : List Nat} (hl : s.length ≤ sizeLine) (h : Q (.int s.length) H) : KBf K .len Q [.str (S s)] H := f_lenS (by rw [S_len]; exact hl) (by rw [S_len]; exact h)
theorem foldl_sing (c : Nat) : ∀ (k : Nat) (acc : Array Nat), (List.replicate k #[c]).foldl (· ++ ·) acc = acc ++ (List.replicate k c).toArray
  | 0, acc => by simp
  | k + 1, acc => by
    rw [List.replicate_succ, List.foldl_cons, foldl_sing c k, List.replicate_succ]
    refine Array.ext' ?_
    simp
theorem mul_sing (c : Nat) (k : Int) : Txt.mul (S [c]) k = S (List.replicate k.toNat c) := by
  unfold Txt.mul
  split
  · rename_i h
    rw [show k.toNat = 0 by omega]
    rfl
  · rename_i h
    split
    · rename_i h2
      simp only [Bool.or_eq_true, beq_iff_eq] at h2
      rcases h2 with h2 | h2
      · subst h2; rfl
      · cases h2
    · show (⟨(List.replicate k.toNat #[c]).foldl (· ++ ·) #[]⟩ : Str) = _
      rw [foldl_sing]
      simp [S]
theorem o_repS {c : Nat} {k : Int} (h1 : -1000000 ≤ k) (h2 : k ≤ 1000000) (h : Q (.str (S (List.replicate k.toNat c))) H) : KB2 K .Mult (.str (S [c])) Q (.int k) H := by
  refine ⟨⟨?_, fun h3 _ => ?_, fun h3 _ => ?_⟩, by rw [mul_sing]; exact h⟩
  · simp; omega
  · have e1 : ((S [c]).length : Int) = 1 := rfl
    rw [e1]
    have : 1 ≤ (2 ^ 63 - 1 : Int) / k := by
      rw [Int.le_ediv_iff_mul_le (by omega)]
      omega
    omega
  · have e1 : (S [c]).length = 1 := rfl
    rw [e1]
    unfold Builtin.Str.tooLong
    rw [decide_eq_false]
    rw [sizeLine_eq]
    omega
theorem cutS_S (a : List Nat) (l u : Option Int) : cutS (S a) l u = S (cutD a l u) := by
  unfold cutS cutD
  simp [S, Str.length]
theorem k_scS {a : List Nat} {l u : Option Int} (hl : a.length ≤ sizeLine) (q : Q (.str (S (cutD a l u))) H) : KSc K Q (.str (S a)) l u H := ⟨by rw [S_len]; exact hl, by rw [cutS_S]; exact q⟩
theorem i_S {a : List Nat} {i : Int} {c : Nat} (hl : a.length ≤ sizeLine) (hi : 0 ≤ i) (hc : a[i.toNat]? = some c) (q : Q (.str (S [c])) H) : KI2 K (.str (S a)) Q (.int i) H :=
  ⟨i, c, rfl, by rw [S_len]; exact hl, by rw [S_list]; exact atI_pos hi hc, q⟩
theorem c_eqT {a b : List Nat} {P : Bool → Hp → Prop} (h : P (decide (a = b)) H) : KC2 K .Eq (.str (S a)) P (.str (S b)) H := c_eqs (by rw [S_dec]; exact h)
theorem c_neT {a b : List Nat} {P : Bool → Hp → Prop} (h : P (!decide (a = b)) H) : KC2 K .NotEq (.str (S a)) P (.str (S b)) H := c_nes (by rw [S_dec]; exact h)
theorem c_inS {c : Nat} {z : List Nat} {P : Bool → Hp → Prop} (h : P (decide (c ∈ z)) H) : KC2 K .In (.str (S [c])) P (.str (S z)) H := RInS.sign c rfl (by rw [S_list]; exact h)
theorem c_niS {c : Nat} {z : List Nat} {P : Bool → Hp → Prop} (h : P (!decide (c ∈ z)) H) : KC2 K .NotIn (.str (S [c])) P (.str (S z)) H := RInS.sign c rfl (by rw [S_list]; exact h)
theorem k_trS {s : List Nat} {P : Bool → Hp → Prop} (hl : s.length ≤ sizeLine) (h : P (decide (s.length ≠ 0)) H) : KTr K P (.str (S s)) H := ⟨by rw [S_len]; exact hl, by rw [S_len]; exact h⟩
/-- str of a bit -/
theorem f_strb {i : Int} (h0 : i = 0 ∨ i = 1) (h : Q (.str (S [48 + i.toNat])) H) : KBf K .str Q [.int i] H := by
  rcases h0 with e | e
  · subst e; exact ⟨by decide, h⟩
  · subst e; exact ⟨by decide, h⟩
/-! what a text is walked by -/
def KTx (R : It → Hp → Prop) : VK := fun z H1 => ∃ x, z = .str x ∧ R (Its x) H1
theorem q_txt {e : Xp} {R : It → Hp → Prop} (h : e.den v W σ H (KTx R)) : Sq.den v (.txt e) W σ H R := h
theorem k_tx {x : Str} {R : It → Hp → Prop} (h : R (Its x) H) : KTx R (.str x) H := ⟨x, rfl, h⟩
theorem k_for_txt {cs : List Nat} {g : TG} {tb : TS} (Inv : Nat → St → Wd → Prop) (h0 : Inv 0 σ w)
    (hs : ∀ (i : Nat) c σ w', cs[i]? = some c → Inv i σ w' → g (.str (S [c])) σ w'.H fun σ2 H2 => tb ⟨KIs (Inv (i + 1)), rt, nx, KIs (Inv (i + 1))⟩ σ2 H2)
    (hd : ∀ σ w', Inv cs.length σ w' → nx σ w'.H) : KFor g tb ⟨nx, rt, bk, ct⟩ σ (Its (S cs)) w.H := by
  refine ⟨fun i k σ H => k = cs.length - i ∧ i ≤ cs.length ∧ KIs (Inv i) σ H, ⟨cs.length, by simp, Nat.zero_le _, k_is h0⟩, ?_⟩
  rintro i k σ H ⟨rfl, hi, w', rfl, p⟩
  by_cases hlt : i < cs.length
  · refine .inr ⟨by show i < (S cs).cps.size; simpa [S] using hlt, KIs (Inv (i + 1)), fun σ' H' p' => ⟨cs.length - (i + 1), by omega, rfl, hlt, p'⟩, fun z H' y => ?_⟩
    obtain ⟨rfl, c, hc, rfl⟩ := y
    exact hs i c σ w' (by simpa [S] using hc) p
  · have e : i = cs.length := by omega
    subst e
    exact .inl ⟨by show (S cs).cps.size ≤ _; simp [S], hd σ w' p⟩
/-! comprehensions that make a list of plain values: f of each place -/
def InvV (w : Wd) (D : Addr) (f : Nat → V) (i : Nat) (w' : Wd) : Prop := Ex [] w w' ∧ Op w' D (.lst ((List.range i).map f))
theorem invV_next {D : Addr} {f : Nat → V} {i : Nat} {w1 w2 : Wd} (hD : w.H D = none) (p : InvV w D f i w1) (e : Ex [] w1 w2) (hl : i < 1000000) : KAp D (InvV w D f (i + 1)) (f i) w2.H := by
  obtain ⟨E, o⟩ := p
  refine k_ap (o.ex e (by simp)) (by rw [List.length_map, List.length_range, sizeLine_eq]; omega) fun w3 e3 o3 => ⟨(E.t0 e).tf e3 hD, ?_⟩
  rw [List.range_succ, List.map_append]
  exact o3
/-- over a text -/
theorem k_lc_tx {cs : List Nat} {g : TG} {te : TE} {vs : List Nat} {W' : WX} (f : Nat → V) (hn : cs.length ≤ 1000000)
    (hs : ∀ (i c : Nat) w' (R : VK), cs[i]? = some c → Ex [] w w' → (∀ w2, Ex [] w' w2 → R (f c) w2.H) → g (.str (S [c])) (wipe σ vs) w'.H (KMk1 te vs σ R))
    (hd : ∀ w' p, Ex [] w w' → w.H p = none → Op w' p (.lst (cs.map f)) → Q (.ref p) w'.H) : KLc g (Tto.den v .no W') te vs σ Q (Its (S cs)) w.H := fun D hD => by
  have hf : ∀ i, (List.range i).map (fun j => f (cs.getD j 0)) = (List.range i).map (fun j => f (cs.getD j 0)) := fun _ => rfl
  refine ⟨fun i k H => k = cs.length - i ∧ i ≤ cs.length ∧ KIw (InvV w D (fun j => f (cs.getD j 0)) i) H, ⟨cs.length, by simp, Nat.zero_le _, w.put D (.lst []), rfl, ex_new hD, op_new hD⟩, ?_⟩
  rintro i k H ⟨rfl, hi, w', rfl, p⟩
  by_cases hlt : i < cs.length
  · refine .inr ⟨by show i < (S cs).cps.size; simpa [S] using hlt, KIw (InvV w D (fun j => f (cs.getD j 0)) (i + 1)), fun H' p' => ⟨cs.length - (i + 1), by omega, rfl, hlt, p'⟩, fun z H' y => ?_⟩
    obtain ⟨rfl, c, hc, rfl⟩ := y
    have hc : cs[i]? = some c := by simpa [S] using hc
    have e : cs.getD i 0 = c := by rw [List.getD_eq_getElem?_getD, hc]; rfl
    refine hs i c w' (KAp D (InvV w D (fun j => f (cs.getD j 0)) (i + 1))) hc p.1 fun w2 e2 => ?_
    have := invV_next (f := fun j => f (cs.getD j 0)) hD p e2 (by omega)
    rwa [e] at this
  · have e : i = cs.length := by omega
    subst e
    refine .inl ⟨by show (S cs).cps.size ≤ _; simp [S], hd w' D p.1 hD ?_⟩
    have o := p.2
    rwa [range_map] at o
/-- over a range -/
theorem k_lc_rv {m : Nat} {g : TG} {te : TE} {vs : List Nat} {W' : WX} (f : Nat → V) (hn : m ≤ 1000000)
    (hs : ∀ (i : Nat) w' (R : VK), i < m → Ex [] w w' → (∀ w2, Ex [] w' w2 → R (f i) w2.H) → g (.int i) (wipe σ vs) w'.H (KMk1 te vs σ R))
    (hd : ∀ w' p, Ex [] w w' → w.H p = none → Op w' p (.lst ((List.range m).map f)) → Q (.ref p) w'.H) : KLc g (Tto.den v .no W') te vs σ Q (Itr 0 m) w.H := by
  refine k_lc_n m rfl fun w1 D e1 hD o1 => ⟨InvV w D f, ⟨e1, o1⟩, fun i w' hi p => ?_, fun w' p => hd w' D p.1 hD p.2⟩
  exact hs i w' (KAp D (InvV w D f (i + 1))) hi p.1 fun w2 e => invV_next hD p e (by omega)
/-- over sealed ints -/
theorem k_lc_iv {x : V} {ns : List Int} {g : TG} {te : TE} {vs : List Nat} {W' : WX} (hx : Dv w x (.list (ns.map .int))) (f : Int → V) (hn : ns.length ≤ 1000000)
    (hs : ∀ (i : Int) w' (R : VK), i ∈ ns → Ex [] w w' → (∀ w2, Ex [] w' w2 → R (f i) w2.H) → g (.int i) (wipe σ vs) w'.H (KMk1 te vs σ R))
    (hd : ∀ w' p, Ex [] w w' → w.H p = none → Op w' p (.lst (ns.map f)) → Q (.ref p) w'.H) : KLs K (KLc g (Tto.den v .no W') te vs σ Q) x w.H := by
  refine k_lc_D hx fun w1 D e1 hD o1 => ⟨InvV w D (fun j => f (ns.getD j 0)), ⟨e1, o1⟩, fun i w' p => ⟨[], p.1⟩, fun i d y w' hd' dy p => ?_, fun w' p => ?_⟩
  · obtain ⟨hi, rfl⟩ := get_map (z := 0) hd'
    obtain rfl := dy.of_int
    have hm : ns.getD i 0 ∈ ns := by
      rw [List.getD_eq_getElem?_getD, List.getElem?_eq_getElem hi]
      exact List.getElem_mem hi
    exact hs _ w' (KAp D (InvV w D (fun j => f (ns.getD j 0)) (i + 1))) hm p.1 fun w2 e => invV_next (f := fun j => f (ns.getD j 0)) hD p e (by omega)
  · have o := p.2
    rw [List.length_map, range_map] at o
    exact hd w' D p.1 hD o
/-! zip of two texts -/
def KZs (R : It → Hp → Prop) : List V → Hp → Prop := fun vs H1 => ∃ x y : Str, vs = [.str x, .str y] ∧ R (Izs x y) H1
theorem q_zipS {e e' : Xp} {R : It → Hp → Prop} (h : Xps.den v (.cons e (.cons e' .nil)) W σ H (KZs R)) : Sq.den v (.zipS e e') W σ H R := h
theorem k_zs {x y : Str} {R : It → Hp → Prop} (r : R (Izs x y) H) : KZs R [.str x, .str y] H := ⟨x, y, rfl, r⟩
theorem zip_map {f : Nat → Nat → V} (as bs : List Nat) : (List.range (min as.length bs.length)).map (fun j => f (as.getD j 0) (bs.getD j 0)) = List.zipWith f as bs := by
  refine List.ext_getElem? fun i => ?_
  rw [List.getElem?_map, List.getElem?_zipWith]
  by_cases h : i < min as.length bs.length
  · have h1 : i < as.length := by omega
    have h2 : i < bs.length := by omega
    rw [List.getElem?_range h, List.getElem?_eq_getElem h1, List.getElem?_eq_getElem h2]
    simp only [Option.map_some]
    rw [List.getD_eq_getElem?_getD, List.getElem?_eq_getElem h1, List.getD_eq_getElem?_getD, List.getElem?_eq_getElem h2]
    rfl
  · rw [List.getElem?_eq_none (by simpa using h)]
    rcases Nat.lt_or_ge i as.length with h1 | h1
    · rw [List.getElem?_eq_none (show bs.length ≤ i by omega)]
      cases as[i]? <;> rfl
    · rw [List.getElem?_eq_none h1]; rfl
theorem k_lc_zs {as bs : List Nat} {g : TG} {te : TE} {vs : List Nat} {W' : WX} (f : Nat → Nat → V) (hn : as.length ≤ 1000000)
    (hs : ∀ (c d : Nat) w' T (R : VK), c ∈ as → d ∈ bs → Ex [] w w' → w'.H T = some (.tup [.str (S [c]), .str (S [d])]) → (∀ w2, Ex [] w' w2 → R (f c d) w2.H) → g (.ref T) (wipe σ vs) w'.H (KMk1 te vs σ R))
    (hd : ∀ w' p, Ex [] w w' → w.H p = none → Op w' p (.lst (List.zipWith f as bs)) → Q (.ref p) w'.H) : KLc g (Tto.den v .no W') te vs σ Q (Izs (S as) (S bs)) w.H := fun D hD => by
  have sa : (S as).cps.size = as.length := by simp [S]
  have sb : (S bs).cps.size = bs.length := by simp [S]
  refine ⟨fun i k H => k = min as.length bs.length - i ∧ i ≤ min as.length bs.length ∧ KIw (InvV w D (fun j => f (as.getD j 0) (bs.getD j 0)) i) H, ⟨min as.length bs.length, by simp, Nat.zero_le _, w.put D (.lst []), rfl, ex_new hD, op_new hD⟩, ?_⟩
  rintro i k H ⟨rfl, hi, w', rfl, p⟩
  by_cases hlt : i < min as.length bs.length
  · refine .inr ⟨by show i < min (S as).cps.size (S bs).cps.size; rw [sa, sb]; exact hlt, KIw (InvV w D (fun j => f (as.getD j 0) (bs.getD j 0)) (i + 1)), fun H' p' => ⟨min as.length bs.length - (i + 1), by omega, rfl, hlt, p'⟩, fun z H' y => ?_⟩
    obtain ⟨T, c, d, rfl, hT, rfl, hc, hd'⟩ := y
    have hc : as[i]? = some c := by simpa [S] using hc
    have hd' : bs[i]? = some d := by simpa [S] using hd'
    have e1 : as.getD i 0 = c := by rw [List.getD_eq_getElem?_getD, hc]; rfl
    have e2 : bs.getD i 0 = d := by rw [List.getD_eq_getElem?_getD, hd']; rfl
    have eT : Ex [] w' (w'.put T (.tup [.str ⟨#[c]⟩, .str ⟨#[d]⟩])) := ex_new hT
    refine hs c d (w'.put T _) T (KAp D (InvV w D (fun j => f (as.getD j 0) (bs.getD j 0)) (i + 1))) (List.mem_of_getElem? hc) (List.mem_of_getElem? hd') (p.1.t0 eT) upd_same fun w2 e2' => ?_
    have := invV_next (f := fun j => f (as.getD j 0) (bs.getD j 0)) hD p (eT.t0 e2') (by omega)
    rwa [e1, e2] at this
  · have e : i = min as.length bs.length := by omega
    subst e
    refine .inl ⟨by show min (S as).cps.size (S bs).cps.size ≤ _; rw [sa, sb]; exact Nat.le_refl _, hd w' D p.1 hD ?_⟩
    have o := p.2
    rwa [zip_map] at o
/-- join of an open list -/
theorem join_S (ys : List (List Nat)) : Txt.join (S []) (ys.map S) = S ys.flatten := by
  have hj : ∀ l : List (List Nat), TL.joinL [] l = l.flatten := by
    intro l
    induction l with
    | nil => rfl
    | cons a r ih =>
      cases r with
      | nil => simp [TL.joinL]
      | cons b r2 => simp only [TL.joinL] at ih ⊢; simpa using ih
  exact (SX.join_S [] ys).trans (congrArg S (hj ys))
theorem m_join {a : Addr} {ys : List (List Nat)} (e : w.H a = some (.lst (ys.map fun y => .str (S y)))) (hl : (ys.map (·.length)).sum ≤ 16777216) (h : Q (.str (S ys.flatten)) w.H) : KM2 K .join (.str (S [])) Q [.ref a] w.H := by
  refine ⟨ys.map S, .inl (sqL (by rw [List.map_map]; exact e)), ?_, by rw [join_S]; exact h⟩
  rw [List.map_map]
  have : (S []).length = 0 := rfl
  rw [this, Nat.mul_zero, Nat.add_zero]
  refine Nat.le_trans (Nat.le_of_eq ?_) hl
  exact congrArg List.sum (List.map_congr_left fun y _ => S_len y)
theorem m_find {a b : Str} (h : Q (.int (Txt.find a b)) H) : KM2 K .find (.str a) Q [.str b] H := h
theorem flat1 : ∀ cs : List Nat, (cs.map fun c => [c]).flatten = cs
  | [] => rfl
  | c :: r => by rw [List.map_cons, List.flatten_cons, flat1 r]; rfl
theorem m_join1 {a : Addr} {cs : List Nat} (e : w.H a = some (.lst (cs.map fun c => .str (S [c])))) (hl : cs.length ≤ 16777216) (h : Q (.str (S cs)) w.H) : KM2 K .join (.str (S [])) Q [.ref a] w.H := by
  refine m_join (ys := cs.map fun c => [c]) (by rw [List.map_map]; exact e) ?_ (by rw [flat1]; exact h)
  rw [List.map_map]
  have : ∀ l : List Nat, (l.map ((fun x : List Nat => x.length) ∘ fun c => [c])).sum = l.length := by
    intro l
    induction l with
    | nil => rfl
    | cons a r ih => rw [List.map_cons, List.sum_cons, ih, List.length_cons]; simp; omega
  rw [this]
  exact hl
def KRvL (K : PySem.W.Frag) (Q : VK) : VK := fun x H1 => ∃ (a : Addr) (xs : List V), x = .ref a ∧ SqL K H1 a xs ∧ ∀ p, H1 p = none → Q (.ref p) (upd H1 p (.lst xs.reverse))
theorem k_revO {a : Addr} {xs : List V} (e : w.H a = some (.lst xs)) (h : ∀ w' p, Ex [] w w' → w.H p = none → Op w' p (.lst xs.reverse) → Q (.ref p) w'.H) : KRvL K Q (.ref a) w.H :=
  ⟨a, xs, rfl, sqL e, fun p hp => h (w.put p _) p (ex_new hp) hp (op_new hp)⟩
theorem e_rev {a : Xp} (h : a.den v W σ H (KRvL v.K Q)) : Xp.den v (.rev a) W σ H Q := by
  exact h
theorem tyS {s : Str} {P : Prop} (h : P) : tyV K "str" (.str s) H ∧ P := ⟨rfl, h⟩
theorem k_mS {m : Bm} {es : Xps} {s : Str} (hm : m.ty = "str") (h : es.den v W σ H (KM2 v.K m (.str s) Q)) : KM1 v m es W σ Q (.str s) H := ⟨hm, h⟩
end
end DI

/-! DI, part 18: more rules. -/
namespace DI
open L2
open PySem.Spec
open PyProof.Rows hiding St
open PySem

section
variable {v : Ev} {D : Nat → Df} {n : Nat} {W : WX} {σ : St} {H : Hp} {Q : VK} {nx bk ct : St → Hp → Prop} {rt : VK} {w : Wd} {K : PySem.W.Frag} {P : Bool → Hp → Prop}
/-! is True, is False of what is known -/
theorem c_isTT (h : P true H) : KC2 K .Is (.bl true) P (.bl true) H := .inr ⟨true, true, rfl, rfl, by simpa using h⟩
theorem c_isFF (h : P true H) : KC2 K .Is (.bl false) P (.bl false) H := .inr ⟨false, false, rfl, rfl, by simpa using h⟩
theorem c_isnTT (h : P false H) : KC2 K .IsNot (.bl true) P (.bl true) H := .inr ⟨true, true, rfl, rfl, by simpa using h⟩
theorem c_isnFF (h : P false H) : KC2 K .IsNot (.bl false) P (.bl false) H := .inr ⟨false, false, rfl, rfl, by simpa using h⟩
/-- int of a digit -/
theorem f_ints {s : List Nat} {i : Int} (e : PySem.intText? (S s) = some i) (hl : s.length ≤ 640) (h : Q (.int i) H) : KBf K .int Q [.str (S s)] H := ⟨i, e, by rw [S_len]; exact hl, h⟩
theorem f_int0 (h : Q (.int 0) H) : KBf K .int Q [.str (S [48])] H := f_ints (by decide +kernel) (by decide) h
theorem f_int1 (h : Q (.int 1) H) : KBf K .int Q [.str (S [49])] H := f_ints (by decide +kernel) (by decide) h
/-! the same on both sides -/
theorem c_eqR {i : Int} (h : P true H) : KC2 K .Eq (.int i) P (.int i) H := c_eq (by simpa using h)
theorem c_neR {i : Int} (h : P false H) : KC2 K .NotEq (.int i) P (.int i) H := c_ne (by simpa using h)
theorem c_eqsR {a : Str} (h : P true H) : KC2 K .Eq (.str a) P (.str a) H := c_eqs (by simpa using h)
theorem c_nesR {a : Str} (h : P false H) : KC2 K .NotEq (.str a) P (.str a) H := c_nes (by simpa using h)
/-! range of two -/
def KR2b (x : V) (R : It → Hp → Prop) : VK := fun y H => ∃ i j : Int, [x, y] = [.int i, .int j] ∧ (-(2 ^ 62) ≤ i ∧ i < 2 ^ 62 ∧ -(2 ^ 62) ≤ j ∧ j < 2 ^ 62) ∧ R (Itr i (j - i).toNat) H
def KR2a (v : Ev) (b : Xp) (W : WX) (σ : St) (R : It → Hp → Prop) : VK := fun x H => b.den v W σ H (KR2b x R)
theorem q_rng2a {a b : Xp} {R : It → Hp → Prop} (h : a.den v W σ H (KR2a v b W σ R)) : Sq.den v (.rng2 a b) W σ H R := h
theorem k_r2a {b : Xp} {x : V} {R : It → Hp → Prop} (h : b.den v W σ H (KR2b x R)) : KR2a v b W σ R x H := h
theorem k_r2b {i j : Int} {R : It → Hp → Prop} (c : -(2 ^ 62) ≤ i ∧ i < 2 ^ 62 ∧ -(2 ^ 62) ≤ j ∧ j < 2 ^ 62) (h : R (Itr i (j - i).toNat) H) : KR2b (.int i) R (.int j) H := ⟨i, j, rfl, c, h⟩
end
end DI

/-! DI, part 19: rules for raise, try, displays, chains of three. -/
namespace DI
open L2
open PySem.Spec
open PyProof.Rows hiding St
open PySem

/-- the text of an __init__ that keeps one field -/
def supOf : List Stmt → Option SupTxt
  | [.Expr (.Call (.Attribute (.Call (.Name s p0) [] [] p1) i p2) [.Constant (.str m) j p3] [] p4) p5, .Assign [.Attribute (.Name se q1) f q2] (.Name x q3) q4] =>
    if s = "super" ∧ i = "__init__" ∧ se = "self" then some ⟨m, x, f, j, p0, p1, p2, p3, p4, p5, q1, q2, q3, q4, q4⟩ else none
  | _ => none
theorem supOf_body {b : List Stmt} {T : SupTxt} (h : supOf b = some T) : b = T.body := by
  unfold supOf at h
  split at h
  · split at h
    · rename_i e
      obtain ⟨rfl, rfl, rfl⟩ := e
      cases h
      rfl
    · cases h
  · cases h
/-- the checks of the trees -/
def supB (params : Arguments) (scope : Scope) (T : SupTxt) (f : Str) : Bool :=
  decide (T.f = f) && decide ((params.posonlyargs ++ params.args).head?.map (·.arg) = some ("self" : Str)) && (T.p2.endLine == T.p4.line) && decide (T.x ≠ "self") && !(T.x == ("__debug__" : Str)) &&
  decide (scope.names.lookup ("super" : Str) = some .globalImplicit) && decide (scope.names.lookup ("__class__" : Str) = some .free) && decide (scope.names.lookup ("self" : Str) = some .local) && decide (scope.names.lookup T.x = some .local) &&
  (scope.names.all fun y => !decide (y.2 = .cell)) && !scope.isCoroutine && !scope.isGenerator && decide (scope.kind = .function)
theorem exCls_mk {P : Program} {K : PySem.W.Frag} {C R fI cc cda : Addr} {f qual : Str} {st : Stmt} {T : SupTxt} {nm q : Str} {N : Addr} {bs : List Value} {sn : List Str} {sub : List Value} {ab : Bool} {col : Option Bool} {dd : Option Addr} {m0 m1 m2 m3 m5 : Option Value}
    {kV doc pm ct oc ccl cl : Value} {an od cdd cld : Option Addr} {osl ccs csl : Array (Option Value)} {vs : Array Value} {file : Str} {tf : Tok}
    (xL : K.lookup C = some (excClassObj nm q C N bs [.ref R, .type "ValueError", .type "Exception", .type "BaseException", .type "object"] true sn sub ab col dd m0 m1 m2 m3 m5 "ValueError.__new__"))
    (sa : PySem.W.findIn K (.ref C) "__setattr__" = some (some (.builtin "object.__setattr__"))) (ga : PySem.W.findIn K (.ref C) "__getattribute__" = some (some (.builtin "BaseException.__getattribute__"))) (gg : PySem.W.findIn K (.ref C) "__getattr__" = some none) (nb : PySem.W.findIn K (.ref C) f = some none)
    (eC : PySem.W.subIn K (.ref C) (.type "BaseException") = some true) (tC : PySem.W.typeIn K (.ref C) = some (.type "type")) (kC : PySem.W.keepIn K (.ref C) = true) (hC : PySem.W.hasDictIn K C = true)
    (a1 : PySem.W.findIn K (.ref C) "__init__" = some (some (.ref fI))) (t1 : PySem.W.typeIn K (.ref fI) = some (.type "function"))
    (l1 : K.lookup fI = some ⟨oc, od, .func (PySem.W.ksFn "__init__" qual (defArgs st) (defBody st) (defScope st) .none kV doc pm an (.ref cda) ct cc), osl⟩) (c1 : PySem.W.codeIn K (.ref cda) qual = true)
    (lc : K.lookup cda = some ⟨ccl, cdd, .fields vs, ccs⟩) (hv : vs[2]? = some (.str file tf)) (lx : K.lookup cc = some ⟨cl, cld, .cell (some (.ref C)), csl⟩)
    (zs : PySem.W.nsIn K mainGlobals "super" = some none) (si : PySem.W.ks_superIn K C C "__init__" = some (some (.builtin "ValueError.__init__"))) (mr : PySem.W.mroIn K C (.ref C) = some true) (ve : PySem.W.subIn K (.ref C) (.type "ValueError") = some true)
    (th : PySem.W.nsIn K cStatics "thirdparty.any" = some none) (ha : PySem.W.findIn K (.ref C) "__class__" = some (some (.builtin "object.__class__"))) (hn : PySem.W.specialIn K (.builtin "object.__class__") "__get__" = some (some (.builtin "getset_descriptor.__get__")))
    (ht : PySem.W.takesIn K (.builtin "object.__class__") = some true) (hm : PySem.W.mroIn K C (.type "object") = some true)
    (hf : ((P.main.file : Str) == file) = true) (htop : (P.main.scope.names.lookup ("super" : Str)).isSome = false) (hT : supOf (defBody st) = some T) (hB : supB (defArgs st) (defScope st) T f = true)
    (hb : ∀ (kV doc pm : Value) (an : Option Addr) (cdv ct : Value) (cc : Addr) (a b : Value), bindArgs (PySem.W.ksFn "__init__" qual (defArgs st) (defBody st) (defScope st) .none kV doc pm an cdv ct cc) ⟨[a, b], []⟩ = pure [(("self" : Str), a), (T.x, b)]) : ExCls P K C f ∧ ExcC K C := by
  have eb := supOf_body hT
  unfold supB at hB
  simp only [Bool.and_eq_true, decide_eq_true_eq, Bool.not_eq_true', List.all_eq_true, decide_eq_false_iff_not] at hB
  obtain ⟨⟨⟨⟨⟨⟨⟨⟨⟨⟨⟨⟨b1, b2⟩, b3⟩, b4⟩, b5⟩, b6⟩, b7⟩, b8⟩, b9⟩, b10⟩, b11⟩, b12⟩, b13⟩ := hB
  obtain ⟨ar, har, hse⟩ := Option.map_eq_some_iff.mp b2
  rw [eb] at l1 hb
  exact ⟨⟨⟨⟨_, _, _, _, _, _, _, _, _, _, _, _, _, _, _, xL, rfl⟩, sa, eC, tC, kC⟩, ⟨ga, gg, eC, hC⟩, nb,
    ⟨fI, cc, cda, T, qual, _, _, .none, kV, doc, pm, ct, oc, ccl, cl, an, od, cdd, cld, osl, ccs, csl, vs, file, tf, ar, a1, t1, b1, l1, c1, lc, hv, hf, lx, zs, htop, si, mr, ve, th, har, hse, b3, b4, b5, b6, b7, b8, b9, fun y hy => b10 y hy, b11, b12, b13, hb, rfl⟩⟩,
    ⟨ga, gg, eC, hC, ha, hn, ht, hm⟩⟩
/-- super's __init__ is that of the base -/
theorem superIn_of {K : PySem.W.Frag} {C R : Addr} {nm q : Str} {N : Addr} {bs : List Value} {sn : List Str} {sub : List Value} {ab : Bool} {col : Option Bool} {dd : Option Addr} {m0 m1 m2 m3 m5 : Option Value} {nm' q' : Str} {N' : Addr} {bs' : List Value} {sn' : List Str} {sub' : List Value} {ab' : Bool} {col' : Option Bool} {dd' : Option Addr} {m0' m1' m2' m3' m5' : Option Value} {bm : List Value}
    (xL : K.lookup C = some (excClassObj nm q C N bs (.ref R :: bm) true sn sub ab col dd m0 m1 m2 m3 m5 "ValueError.__new__")) (xR : K.lookup R = some (excClassObj nm' q' R N' bs' bm true sn' sub' ab' col' dd' m0' m1' m2' m3' m5' "ValueError.__new__"))
    (fR : PySem.W.findIn K (.ref R) "__init__" = some (some (.builtin "ValueError.__init__"))) : PySem.W.ks_superIn K C C "__init__" = some (some (.builtin "ValueError.__init__")) := by
  have hC : PySem.W.clsIn K C = some { name := nm, bases := bs, mro := .ref C :: .ref R :: bm, ns := N, qualname := q, hasDict := true, slotNames := sn, subclasses := sub, abstract := ab, collection := col, hasDel := false } := by unfold PySem.W.clsIn; rw [xL] <;> rfl
  unfold PySem.W.ks_superIn
  rw [hC]
  have e : ((Value.ref C :: .ref R :: bm).dropWhile (· != .ref C)).drop 1 = .ref R :: bm := by simp [List.dropWhile_cons]
  show PySem.W.alongIn K "__init__" (((Value.ref C :: .ref R :: bm).dropWhile (· != .ref C)).drop 1) = _
  rw [e]
  unfold PySem.W.findIn at fR
  dsimp only at fR
  rw [xR] at fR
  exact fR
/-- who is a kind of whom -/
theorem exm_of {K : PySem.W.Frag} {D C : Addr} {b : Bool} (h1 : PySem.W.subIn K (.ref C) (.type "BaseException") = some true) (hd : PySem.W.hasDictIn K C = true) (ht : PySem.W.typeIn K (.ref C) = some (.type "type")) (h : PySem.W.subIn K (.ref D) (.ref C) = some b) : PySem.W.exmOne K (.ref D) (.ref C) = some b :=
  PySem.W.exm_ref h1 hd ht h
theorem kit_of {K : PySem.W.Frag} {D C : Addr} {b : Bool} (hc : PySem.W.isClsIn K C = true) (ht : PySem.W.typeIn K (.ref C) = some (.type "type")) (h : PySem.W.subIn K (.ref D) (.ref C) = some b) (h0 : PySem.W.subIn K (.ref D) (.ref D) = some true) : PySem.W.kitOne K (.ref D) (.ref C) = some b := by
  unfold PySem.W.kitOne
  by_cases e : D = C
  · subst e
    rw [h0] at h
    rw [if_pos (by simp), ← h]
  · rw [if_neg (by simpa using e)]
    have hc' : (PySem.W.clsIn K C).isSome = true := hc
    have e2 : ((PySem.W.clsIn K C).isSome && PySem.W.typeIn K (.ref C) == some (.type "type")) = true := by rw [hc', ht] <;> rfl
    show PySem.W.kitCls K (.ref D) (.ref C) = some b
    unfold PySem.W.kitCls
    first
    | (show (if ((PySem.W.clsIn K C).isSome && PySem.W.typeIn K (.ref C) == some (.type "type")) = true then PySem.W.subIn K (.ref D) (.ref C) else none) = some b; rw [if_pos e2]; exact h)
    | simp [hc', ht, h]
theorem kit_VE {K : PySem.W.Frag} {D : Addr} (h : PySem.W.subIn K (.ref D) (.type "ValueError") = some true) : PySem.W.kitOne K (.ref D) (.type "ValueError") = some true := by
  unfold PySem.W.kitOne
  rw [if_neg (by simp)]
  unfold PySem.W.kitCls
  first
  | exact h
  | (rw [if_pos (by decide +kernel)]; exact h)
  | simp [h]
/-- what a law must know of its exception classes: L the raised ones with their fields, sub who is a kind of whom, B the others that are named -/
structure XT (v : Ev) (L : List (Nat × Str)) (B : List Nat) (sub : Nat → Nat → Bool) : Prop where
  xs : v.exs = L
  em : ∀ q ∈ L, ∀ c ∈ L.map (·.1) ++ B, PySem.W.exmOne v.K (.ref (v.cls q.1)) (.ref (v.cls c)) = some (sub q.1 c)
  ki : ∀ q ∈ L, ∀ c ∈ L.map (·.1) ++ B, PySem.W.kitOne v.K (.ref (v.cls q.1)) (.ref (v.cls c)) = some (sub q.1 c)
  kv : ∀ q ∈ L, PySem.W.kitOne v.K (.ref (v.cls q.1)) (.type "ValueError") = some true

section
variable {v : Ev} {D : Nat → Df} {n : Nat} {W : WX} {σ : St} {H : Hp} {Q : VK} {nx bk ct : St → Hp → Prop} {rt : VK} {w : Wd} {K : PySem.W.Frag} {P : Bool → Hp → Prop}
/-! raise -/
def KRa (v : Ev) (C : Nat) (f : Str) (W : WX) (σ : St) : List V → Hp → Prop := fun vs H1 => ∃ y, vs = [y] ∧ ∀ dx, H1 dx = none → W (.ref (v.cls C)) (some dx) σ (upd H1 dx (.xd [(f, y)]))
theorem r_rai {C : Nat} {f : Str} {es : Xps} (h : es.den v W σ H (KRa v C f W σ)) : Sm.den v (.rai C f es) W ⟨nx, rt, bk, ct⟩ σ H := h
theorem k_ra {C : Nat} {f : Str} {y : V} (h : ∀ w' dx, Ex [] w w' → w.H dx = none → Op w' dx (.xd [(f, y)]) → W (.ref (v.cls C)) (some dx) σ w'.H) : KRa v C f W σ [y] w.H :=
  ⟨y, rfl, fun dx hd => h (w.put dx _) dx (ex_new hd) hd (op_new hd)⟩
/-! try -/
/-- the code of an except suite, in the place of a call's way out -/
def KTyA (v : Ev) (C i : Nat) (s : Sms) (W : WX) (D : Ends) : WX := wAs v.K (.ref (v.cls C)) i (fun a c d => s.den { v with ex := some (a, c, d) } fun _ _ _ _ => False) W D
def KTyO (v : Ev) (C : Nat) (s : Sms) (W : WX) (D : Ends) : WX := wOnly v.K (.ref (v.cls C)) (fun a c d => s.den { v with ex := some (a, c, d) } fun _ _ _ _ => False) W D
theorem r_tryA {b s : Sms} {C i : Nat} (h : b.den v (KTyA v C i s W ⟨nx, rt, bk, ct⟩) ⟨nx, rt, bk, ct⟩ σ H) : Sm.den v (.tryA b C i s) W ⟨nx, rt, bk, ct⟩ σ H := h
theorem r_tryO {b s : Sms} {C : Nat} (h : b.den v (KTyO v C s W ⟨nx, rt, bk, ct⟩) ⟨nx, rt, bk, ct⟩ σ H) : Sm.den v (.tryO b C s) W ⟨nx, rt, bk, ct⟩ σ H := h
def KUn (i : Nat) (P : St → Hp → Prop) : St → Hp → Prop := fun σ' H' => P (σ'.set i none) H'
theorem k_un {i : Nat} {P : St → Hp → Prop} (h : P (σ.set i none) H) : KUn i P σ H := h
theorem k_tyA {C i j : Nat} {d : Option Addr} {s : Sms} (he : PySem.W.exmOne v.K (.ref (v.cls j)) (.ref (v.cls C)) = some true)
    (h : ∀ a, H a = none → s.den { v with ex := some (a, .ref (v.cls j), d) } (fun _ _ _ _ => False) ⟨KUn i nx, rt, KUn i bk, KUn i ct⟩ (σ.set i (some (.ref a))) H) : KTyA v C i s W ⟨nx, rt, bk, ct⟩ (.ref (v.cls j)) d σ H :=
  ⟨true, he, fun _ a ha => h a ha, fun z => by cases z⟩
theorem k_tyAn {C i j : Nat} {d : Option Addr} {s : Sms} {E : Ends} (he : PySem.W.exmOne v.K (.ref (v.cls j)) (.ref (v.cls C)) = some false) (h : W (.ref (v.cls j)) d σ H) : KTyA v C i s W E (.ref (v.cls j)) d σ H :=
  ⟨false, he, fun z => (by cases z), fun _ => h⟩
theorem k_tyO {C j : Nat} {d : Option Addr} {s : Sms} (he : PySem.W.exmOne v.K (.ref (v.cls j)) (.ref (v.cls C)) = some true)
    (h : ∀ a, H a = none → s.den { v with ex := some (a, .ref (v.cls j), d) } (fun _ _ _ _ => False) ⟨nx, rt, bk, ct⟩ σ H) : KTyO v C s W ⟨nx, rt, bk, ct⟩ (.ref (v.cls j)) d σ H :=
  ⟨true, he, fun _ a ha => h a ha, fun z => by cases z⟩
theorem k_tyOn {C j : Nat} {d : Option Addr} {s : Sms} {E : Ends} (he : PySem.W.exmOne v.K (.ref (v.cls j)) (.ref (v.cls C)) = some false) (h : W (.ref (v.cls j)) d σ H) : KTyO v C s W E (.ref (v.cls j)) d σ H :=
  ⟨false, he, fun z => (by cases z), fun _ => h⟩
/-- several clauses without a name -/
def KTyM (v : Ev) (hs : Hds) (W : WX) (D : Ends) : WX := wMany v.K W D (hs.den v)
theorem r_tryM {b : Sms} {hs : Hds} (h : b.den v (KTyM v hs W ⟨nx, rt, bk, ct⟩) ⟨nx, rt, bk, ct⟩ σ H) : Sm.den v (.tryM b hs) W ⟨nx, rt, bk, ct⟩ σ H := h
theorem k_tyM0 {j : Nat} {d : Option Addr} {E : Ends} (h : W (.ref (v.cls j)) d σ H) : KTyM v .nil W E (.ref (v.cls j)) d σ H := h
theorem k_tyM {C j : Nat} {d : Option Addr} {s : Sms} {r : Hds} (he : PySem.W.exmOne v.K (.ref (v.cls j)) (.ref (v.cls C)) = some true)
    (h : ∀ a, H a = none → s.den { v with ex := some (a, .ref (v.cls j), d) } (fun _ _ _ _ => False) ⟨nx, rt, bk, ct⟩ σ H) : KTyM v (.cons C s r) W ⟨nx, rt, bk, ct⟩ (.ref (v.cls j)) d σ H :=
  ⟨true, he, fun _ a ha => h a ha, fun z => by cases z⟩
theorem k_tyMn {C j : Nat} {d : Option Addr} {s : Sms} {r : Hds} {E : Ends} (he : PySem.W.exmOne v.K (.ref (v.cls j)) (.ref (v.cls C)) = some false) (h : KTyM v r W E (.ref (v.cls j)) d σ H) : KTyM v (.cons C s r) W E (.ref (v.cls j)) d σ H :=
  ⟨false, he, fun z => (by cases z), fun _ => h⟩
/-- the suite's exception: its field, its kind -/
theorem x_ef {u : Ev} {a dd : Addr} {i j : Nat} {f : Str} {fs : List (Str × V)} {z : V} (hx : u.ex = some (a, .ref (u.cls j), some dd)) (hj : (j, f) ∈ u.exs) (hs : σ[i]? = some (some (.ref a))) (hd : H dd = some (.xd fs)) (hl : fs.lookup f = some z) (h : Q z H) : Xp.den u (.ef i f) W σ H Q :=
  ⟨a, dd, j, fs, z, hx, hj, hs, hd, hl, h⟩
theorem x_ei {u : Ev} {a dd : Addr} {i j C : Nat} {f : Str} {fs : List (Str × V)} {b : Bool} (hx : u.ex = some (a, .ref (u.cls j), some dd)) (hj : (j, f) ∈ u.exs) (hs : σ[i]? = some (some (.ref a))) (hd : H dd = some (.xd fs)) (hk : PySem.W.kitOne u.K (.ref (u.cls j)) (.ref (u.cls C)) = some b) (h : Q (.bl b) H) : Xp.den u (.ei i C) W σ H Q :=
  ⟨a, dd, j, f, fs, b, hx, hj, hs, hd, hk, h⟩
theorem x_eib {u : Ev} {a dd : Addr} {i j : Nat} {n : String} {f : Str} {fs : List (Str × V)} {b : Bool} (hx : u.ex = some (a, .ref (u.cls j), some dd)) (hj : (j, f) ∈ u.exs) (hs : σ[i]? = some (some (.ref a))) (hd : H dd = some (.xd fs)) (hk : PySem.W.kitOne u.K (.ref (u.cls j)) (.type n) = some b) (h : Q (.bl b) H) : Xp.den u (.eib i n) W σ H Q :=
  ⟨a, dd, j, f, fs, b, hx, hj, hs, hd, hk, h⟩
/-! chains of three -/
def KG1 (v : Ev) (o1 o2 o3 : CmpOp) (b c d : Xp) (W : WX) (σ : St) (P : Bool → Hp → Prop) : VK := fun x H1 => b.den v W σ H1 fun y H2 => rCmpB v.K o1 x y H2 fun k =>
  if k = true then c.den v W σ H2 fun z H3 => rCmpB v.K o2 y z H3 fun k' => if k' = true then d.den v W σ H3 fun u H4 => rCmpB v.K o3 z u H4 fun k2 => P k2 H4 else P false H3 else P false H2
def KG2 (v : Ev) (o1 o2 o3 : CmpOp) (c d : Xp) (W : WX) (σ : St) (P : Bool → Hp → Prop) (x : V) : VK := fun y H2 => rCmpB v.K o1 x y H2 fun k =>
  if k = true then c.den v W σ H2 fun z H3 => rCmpB v.K o2 y z H3 fun k' => if k' = true then d.den v W σ H3 fun u H4 => rCmpB v.K o3 z u H4 fun k2 => P k2 H4 else P false H3 else P false H2
def KG3 (v : Ev) (o2 o3 : CmpOp) (c d : Xp) (W : WX) (σ : St) (P : Bool → Hp → Prop) (y : V) : Bool → Hp → Prop := fun k H2 =>
  if k = true then c.den v W σ H2 (KH2 v o2 o3 d W σ P y) else P false H2
theorem e_chn3 {o1 o2 o3 : CmpOp} {a b c d : Xp} (h : a.den v W σ H (KG1 v o1 o2 o3 b c d W σ (KBl Q))) : Xp.den v (.chn3 o1 o2 o3 a b c d) W σ H Q := h
theorem t_chn3 {o1 o2 o3 : CmpOp} {a b c d : Xp} (h : a.den v W σ H (KG1 v o1 o2 o3 b c d W σ P)) : Tt.den v (.chn3 o1 o2 o3 a b c d) W σ H P := h
theorem k_g1 {o1 o2 o3 : CmpOp} {b c d : Xp} {x : V} (h : b.den v W σ H (KG2 v o1 o2 o3 c d W σ P x)) : KG1 v o1 o2 o3 b c d W σ P x H := h
theorem k_g2 {o1 o2 o3 : CmpOp} {c d : Xp} {x y : V} (h : KC2 v.K o1 x (KG3 v o2 o3 c d W σ P y) y H) : KG2 v o1 o2 o3 c d W σ P x y H := h
theorem k_g3 {o2 o3 : CmpOp} {c d : Xp} {y : V} {k : Bool} (ht : k = true → c.den v W σ H (KH2 v o2 o3 d W σ P y)) (hf : k = false → P false H) : KG3 v o2 o3 c d W σ P y k H := by
  cases k with
  | true => exact ht rfl
  | false => exact hf rfl
/-! dicts: displays, get, del -/
def KDi (Q : VK) (ps : List (TE × TE)) (σ : St) (H : Hp) : Prop := ∀ p, H p = none → tPairs ps σ (upd H p (.dK [])) fun qs H2 => H2 p = some (.dK []) ∧ ∃ kvs : List (Key × V), qs = kvs.map (fun kv => (kV kv.1, kv.2)) ∧ kvs.length ≤ 15 ∧ Q (.ref p) (upd H2 p (.dK (mergeK [] kvs)))
def KPs (ps : List (TE × TE)) (σ : St) (R : List (V × V) → Hp → Prop) (H : Hp) : Prop := tPairs ps σ H R
def KPk (tv : TE) (ps : List (TE × TE)) (σ : St) (R : List (V × V) → Hp → Prop) : VK := fun x H1 => tv σ H1 fun y H2 => tPairs ps σ H2 fun qs H3 => R ((x, y) :: qs) H3
def KPv (x : V) (ps : List (TE × TE)) (σ : St) (R : List (V × V) → Hp → Prop) : VK := fun y H2 => KPs ps σ (fun qs H3 => R ((x, y) :: qs) H3) H2
theorem e_dct {ks vs : Xps} (h : KDi Q ((ks.dens v W).zip (vs.dens v W)) σ H) : Xp.den v (.dct ks vs) W σ H Q := h
theorem k_di {ps : List (TE × TE)} (h : ∀ w' p, Ex [] w w' → w.H p = none → Op w' p (.dK []) → KPs ps σ (fun qs H2 => H2 p = some (.dK []) ∧ ∃ kvs : List (Key × V), qs = kvs.map (fun kv => (kV kv.1, kv.2)) ∧ kvs.length ≤ 15 ∧ Q (.ref p) (upd H2 p (.dK (mergeK [] kvs)))) w'.H) : KDi Q ps σ w.H :=
  fun p hp => h (w.put p (.dK [])) p (ex_new hp) hp (op_new hp)
theorem k_ps0 {R : List (V × V) → Hp → Prop} (h : R [] H) : KPs [] σ R H := h
theorem k_ps1 {k x : Xp} {ks vs : Xps} {R : List (V × V) → Hp → Prop} (h : k.den v W σ H (KPk (x.den v W) ((ks.dens v W).zip (vs.dens v W)) σ R)) : KPs (((Xps.cons k ks).dens v W).zip ((Xps.cons x vs).dens v W)) σ R H := h
theorem k_pk {x : Xp} {ps : List (TE × TE)} {y : V} {R : List (V × V) → Hp → Prop} (h : x.den v W σ H (KPv y ps σ R)) : KPk (x.den v W) ps σ R y H := h
theorem k_pv {ps : List (TE × TE)} {x y : V} {R : List (V × V) → Hp → Prop} (h : KPs ps σ (fun qs H3 => R ((x, y) :: qs) H3) H) : KPv x ps σ R y H := h
def KGe1 (v : Ev) (k x : Xp) (W : WX) (σ : St) (Q : VK) : VK := fun d H1 => ∃ a, d = .ref a ∧ IsD H1 a ∧ k.den v W σ H1 fun y H2 => x.den v W σ H2 fun z H3 => ∃ o, DGet H3 a y o ∧ Q (o.getD z) H3
def KGe2 (v : Ev) (x : Xp) (W : WX) (σ : St) (a : Addr) (Q : VK) : VK := fun y H2 => x.den v W σ H2 fun z H3 => ∃ o, DGet H3 a y o ∧ Q (o.getD z) H3
def KGe3 (a : Addr) (y : V) (Q : VK) : VK := fun z H3 => ∃ o, DGet H3 a y o ∧ Q (o.getD z) H3
theorem e_dget {d k x : Xp} (h : d.den v W σ H (KGe1 v k x W σ Q)) : Xp.den v (.dget d k x) W σ H Q := h
theorem k_ge1 {k x : Xp} {a : Addr} {kvs : List (Key × V)} (hd : H a = some (.dK kvs)) (h : k.den v W σ H (KGe2 v x W σ a Q)) : KGe1 v k x W σ Q (.ref a) H := ⟨a, rfl, .inl ⟨_, .inl hd⟩, h⟩
theorem k_ge2 {x : Xp} {a : Addr} {y : V} (h : x.den v W σ H (KGe3 a y Q)) : KGe2 v x W σ a Q y H := h
theorem k_ge3 {a : Addr} {kvs : List (Key × V)} {k : Key} {y z : V} (hd : H a = some (.dK kvs)) (hy : y = kV k) (h : Q ((valV kvs k).getD z) H) : KGe3 a y Q z H := by subst hy; exact ⟨_, DGet.k hd, h⟩
def KDl1 (v : Ev) (k : Xp) (W : WX) (σ : St) (P : St → Hp → Prop) : VK := fun x H1 => k.den v W σ H1 fun y H2 => ∃ a kvs k, x = .ref a ∧ H2 a = some (.dK kvs) ∧ y = kV k ∧ (valV kvs k).isSome = true ∧ P σ (upd H2 a (.dK (dropK kvs k)))
def KDl2 (σ : St) (P : St → Hp → Prop) (x : V) : VK := fun y H2 => ∃ a kvs k, x = .ref a ∧ H2 a = some (.dK kvs) ∧ y = kV k ∧ (valV kvs k).isSome = true ∧ P σ (upd H2 a (.dK (dropK kvs k)))
theorem r_ddel {d k : Xp} (h : d.den v W σ H (KDl1 v k W σ nx)) : Sm.den v (.ddel d k) W ⟨nx, rt, bk, ct⟩ σ H := h
theorem k_dl1 {k : Xp} {x : V} {P : St → Hp → Prop} (h : k.den v W σ H (KDl2 σ P x)) : KDl1 v k W σ P x H := h
theorem k_dl2 {a : Addr} {kvs : List (Key × V)} {k : Key} {y : V} {P : St → Hp → Prop} (o : Op w a (.dK kvs)) (hy : y = kV k) (hs : (valV kvs k).isSome = true) (h : ∀ w', Ex [a] w w' → Op w' a (.dK (dropK kvs k)) → P σ w'.H) : KDl2 σ P (.ref a) y w.H :=
  ⟨a, kvs, k, rfl, o.h, hy, hs, h (w.put a _) (ex_set o) (op_set o)⟩
/-! list(range(..)), reversed(range(..)) -/
def KLr1 (Q : VK) : VK := fun x H1 => ∃ n, x = .int n ∧ (RgOk 0 n ∧ ∀ q, H1 q = none → Q (.ref q) (upd H1 q (.lst (rgV 0 n))))
theorem e_lrg1 {a : Xp} (h : a.den v W σ H (KLr1 Q)) : Xp.den v (.lrg1 a) W σ H Q := h
theorem k_lr1 {n : Int} (hn : RgOk 0 n) (h : KNew (.lst (rgV 0 n)) Q H) : KLr1 Q (.int n) H := ⟨n, rfl, hn, h⟩
def KRr1 (R : It → Hp → Prop) : VK := fun x H1 => ∃ n, x = .int n ∧ (-(2 ^ 62) ≤ (0 : Int) ∧ (0 : Int) < 2 ^ 62 ∧ -(2 ^ 62) ≤ n ∧ n < 2 ^ 62 ∧ R (Itc (0 + (((n - 0).toNat : Nat) : Int) - 1) (-1) (n - 0).toNat) H1)
theorem q_rvr1 {a : Xp} {R : It → Hp → Prop} (h : a.den v W σ H (KRr1 R)) : Sq.den v (.rvr1 a) W σ H R := h
theorem k_rr1 {n : Int} {R : It → Hp → Prop} (h1 : -(2 ^ 62) ≤ n) (h2 : n < 2 ^ 62) (h : R (Itc (n.toNat - 1) (-1) n.toNat) H) : KRr1 R (.int n) H := ⟨n, rfl, by decide, by decide, h1, h2, by simpa using h⟩
/-- range with a step of two -/
theorem k_r3p {i j c : Int} {R : It → Hp → Prop} {m : Nat} (hr : RgC i j c m) (h : R (Itc i c m) H) : KR3c R [.int i, .int j, .int c] H := ⟨i, j, c, m, rfl, hr, h⟩
/-! len(x) of an instance -/
def KLo (v : Ev) (m C : Nat) (Q : VK) : List V → Hp → Prop := fun vs H1 => ∃ a dx fs, vs = [V.ref a] ∧ H1 a = some (.ins (v.cls C) dx fs) ∧ v.sp m [V.ref a] H1 (fun y H2 => ∃ n : Int, y = .int n ∧ 0 ≤ n ∧ n < 2 ^ 63 ∧ Q (.int n) H2) fun _ _ _ => False
theorem e_lenO {m C : Nat} {es : Xps} (h : es.den v W σ H (KLo v m C Q)) : Xp.den v (.lenO m C es) W σ H Q := h
theorem k_lo {m C : Nat} {a dx : Addr} {fs : List (Str × V)} (ha : H a = some (.ins (v.cls C) dx fs)) (h : v.sp m [V.ref a] H (fun y H2 => ∃ n : Int, y = .int n ∧ 0 ≤ n ∧ n < 2 ^ 63 ∧ Q (.int n) H2) fun _ _ _ => False) : KLo v m C Q [V.ref a] H :=
  ⟨a, dx, fs, rfl, ha, h⟩
/-! enumerate over a tuple -/
def KEnT (K : PySem.W.Frag) (R : It → Hp → Prop) : List V → Hp → Prop := fun vs H1 => ∃ a xs, vs = [.ref a] ∧ SqT K H1 a xs ∧ R (IteT K a xs.length) H1
theorem q_enmT {e : Xp} {R : It → Hp → Prop} (h : Xps.den v (.cons e .nil) W σ H (KEnT v.K R)) : Sq.den v (.enmT e) W σ H R := h
theorem k_enT {a : Addr} {xs : List V} {R : It → Hp → Prop} (h : SqT K w.H a xs) (r : R (IteT K a xs.length) w.H) : KEnT K R [.ref a] w.H := ⟨a, xs, rfl, h, r⟩
theorem k_for_enmT {a : Addr} {xs : List V} {g : TG} {tb : TS} (Inv : Nat → St → Wd → Prop) (hk : ∀ i σ w', Inv i σ w' → SqT K w'.H a xs) (h0 : Inv 0 σ w)
    (hs : ∀ (i : Nat) x σ w' w2 T, xs[i]? = some x → Inv i σ w' → Ex [] w' w2 → w2.H T = some (.tup [.int i, x]) → g (.ref T) σ w2.H fun σ2 H2 => tb ⟨KIs (Inv (i + 1)), rt, nx, KIs (Inv (i + 1))⟩ σ2 H2)
    (hd : ∀ σ w', Inv xs.length σ w' → nx σ w'.H) : KFor g tb ⟨nx, rt, bk, ct⟩ σ (IteT K a xs.length) w.H := by
  refine ⟨fun i m σ H => m = xs.length - i ∧ i ≤ xs.length ∧ KIs (Inv i) σ H, ⟨xs.length, by simp, Nat.zero_le _, k_is h0⟩, ?_⟩
  rintro i m σ H ⟨rfl, hi, w', rfl, p⟩
  have q := hk i σ w' p
  by_cases hlt : i < xs.length
  · refine .inr ⟨⟨xs, xs[i], q, rfl, by simp [hlt]⟩, KIs (Inv (i + 1)), fun σ' H' p' => ⟨xs.length - (i + 1), by omega, rfl, hlt, p'⟩, fun z H' y => ?_⟩
    obtain ⟨T, x, rfl, hT, rfl, f⟩ := y
    exact hs i x σ w' (w'.put T _) T (f xs q) p (ex_new hT) upd_same
  · have e : i = xs.length := by omega
    subst e
    exact .inl ⟨⟨xs, q, rfl, Nat.le_refl _⟩, hd σ w' p⟩
/-! max, min with default; min of data -/
def KMy (K : PySem.W.Frag) (mx : Bool) (x : V) (Q : VK) : VK := fun z H2 => MX.rDf K mx [x] [z] H2 Q
def KMx (v : Ev) (mx : Bool) (d : Xp) (W : WX) (σ : St) (Q : VK) : VK := fun x H1 => d.den v W σ H1 (KMy v.K mx x Q)
theorem e_mxd {mx : Bool} {a d : Xp} (h : a.den v W σ H (KMx v mx d W σ Q)) : Xp.den v (.mxd mx a d) W σ H Q := h
theorem k_mx {mx : Bool} {d : Xp} {x : V} (h : d.den v W σ H (KMy v.K mx x Q)) : KMx v mx d W σ Q x H := h
theorem k_my {mx : Bool} {a : Addr} {ns : List Int} {d : Int} (hs : SqL K H a (ns.map V.int)) (q0 : ns = [] → Q (.int d) H) (q1 : ∀ m, m ∈ ns → (∀ y, y ∈ ns → if mx = true then y ≤ m else m ≤ y) → Q (.int m) H) : KMy K mx (.ref a) Q (.int d) H := ⟨a, ns, d, rfl, rfl, hs, q0, q1⟩
theorem f_minD {a : Addr} {xs : List V} {z : PyData} {zs : List PyData} (o : w.H a = some (.lst xs)) (r : Dvs w xs (z :: zs)) (nd : PyData.hasDictAll (z :: zs) = false) (al : PySem.W.AlikeAll (z :: zs)) (dp : PyData.depthAll (z :: zs) < 60)
    (q : ∀ (i : Nat) y, xs[i]? = some y → (z :: zs).getD i .none = PySem.W.minD z zs → Q y w.H) : KBf K .min Q [.ref a] w.H := .inr ⟨a, xs, z, zs, rfl, sqL o, r.dp.dp nd, al, dp, q⟩
theorem f_minL {a : Addr} {ns : List Int} (hs : SqL K H a (ns.map V.int)) (h0 : 0 < ns.length) (q : ∀ m, m ∈ ns → (∀ y, y ∈ ns → m ≤ y) → Q (.int m) H) : KBf K .min Q [.ref a] H := .inl ⟨ns, hs, h0, q⟩
theorem f_maxL {a : Addr} {ns : List Int} (hs : SqL K H a (ns.map V.int)) (h0 : 0 < ns.length) (q : ∀ m, m ∈ ns → (∀ y, y ∈ ns → y ≤ m) → Q (.int m) H) : KBf K .max Q [.ref a] H := ⟨ns, hs, h0, q⟩
/-! sorted of a dict's keys -/
theorem f_srtD {a : Addr} {kvs : List (Key × V)} {ks : List Int} (hd : w.H a = some (.dK kvs)) (e : kvs.map (·.1) = ks.map Sum.inl) (hl : ks.length < 64) (h : ∀ (ys : List Int), ys.Perm ks → ys.Pairwise (· ≤ ·) → KNew (.lst (ys.map V.int)) Q w.H) : KBf K .sorted Q [.ref a] w.H :=
  RSrt.dct (.inl hd) e hl fun ys p hp hs hn => h ys hp hs p hn
theorem f_srtL {a : Addr} {ns : List Int} (hd : w.H a = some (.lst (ns.map V.int))) (h : ∀ (ys : List Int), ys.Perm ns → ys.Pairwise (· ≤ ·) → KNew (.lst (ys.map V.int)) Q w.H) : KBf K .sorted Q [.ref a] w.H :=
  RSrt.srt (sqL hd) fun ys p hp hs hn => h ys hp hs p hn
end
end DI

/-! DI, part 20: rules for locked dicts: walks over their keys, comprehensions that make dicts. -/
namespace DI
open L2
open PySem.Spec
open PyProof.Rows hiding St
open PySem
section
variable {v : Ev} {D : Nat → Df} {n : Nat} {W : WX} {σ : St} {H : Hp} {Q : VK} {nx bk ct : St → Hp → Prop} {rt : VK} {w : Wd} {K : PySem.W.Frag} {P : Bool → Hp → Prop}
/-! ### while a thing is only read -/
def KUs (d : Addr) (od : Obj) (u : HO) (P : St → Hp → Prop) : St → Hp → Prop := fun σ' H' => H' d = some (.frz od u) ∧ P σ' (upd H' d u)
def KUv (d : Addr) (od : Obj) (u : HO) (Q : VK) : VK := fun x H' => H' d = some (.frz od u) ∧ Q x (upd H' d u)
theorem r_lck {s : Sm} {d : Addr} {u : HO} (o : Op w d u) (hm : Mut (some u)) (h : ∀ od w', Ex [d] w w' → Op w' d (.frz od u) → s.den v W ⟨KUs d od u nx, KUv d od u rt, KUs d od u bk, KUs d od u ct⟩ σ w'.H) : Sm.den v (.lck s) W ⟨nx, rt, bk, ct⟩ σ w.H :=
  ⟨d, u, o.h, hm, fun od => h od (w.put d (.frz od u)) (ex_set o) (op_set o)⟩
theorem e_lck {e : Xp} {d : Addr} {u : HO} (o : Op w d u) (hm : Mut (some u)) (h : ∀ od w', Ex [d] w w' → Op w' d (.frz od u) → e.den v W σ w'.H (KUv d od u Q)) : Xp.den v (.lckE e) W σ w.H Q :=
  ⟨d, u, o.h, hm, fun od => h od (w.put d (.frz od u)) (ex_set o) (op_set o)⟩
theorem k_us {d : Addr} {od : Obj} {u : HO} {P : St → Hp → Prop} (o : Op w d (.frz od u)) (h : ∀ w', Ex [d] w w' → Op w' d u → P σ w'.H) : KUs d od u P σ w.H :=
  ⟨o.h, h (w.put d u) (ex_set o) (op_set o)⟩
theorem k_uv {d : Addr} {od : Obj} {u : HO} {x : V} (o : Op w d (.frz od u)) (h : ∀ w', Ex [d] w w' → Op w' d u → Q x w'.H) : KUv d od u Q x w.H :=
  ⟨o.h, h (w.put d u) (ex_set o) (op_set o)⟩
/-! ### the keys of a dict -/
def KDk (R : It → Hp → Prop) : VK := fun x H1 => ∃ d o, x = .ref d ∧ ((∃ kvs, H1 d = some (.frz o (.dK kvs)) ∧ R (Itk d o kvs) H1) ∨ ∃ kvs, H1 d = some (.frz o (.dT kvs)) ∧ R (Itkt d o kvs) H1)
theorem q_dk {e : Xp} {R : It → Hp → Prop} (h : e.den v W σ H (KDk R)) : Sq.den v (.dk e) W σ H R := h
theorem k_dk {d : Addr} {od : Obj} {kvs : List (Key × V)} {R : It → Hp → Prop} (o : H d = some (.frz od (.dK kvs))) (h : R (Itk d od kvs) H) : KDk R (.ref d) H := ⟨d, od, rfl, .inl ⟨kvs, o, h⟩⟩
theorem k_for_dk {d : Addr} {od : Obj} {kvs : List (Key × V)} {g : TG} {tb : TS} (Inv : Nat → St → Wd → Prop) (hk : ∀ i σ w', Inv i σ w' → w'.H d = some (.frz od (.dK kvs))) (h0 : Inv 0 σ w)
    (hs : ∀ i k x σ w', kvs[i]? = some (k, x) → Inv i σ w' → g (kV k) σ w'.H fun σ2 H2 => tb ⟨KIs (Inv (i + 1)), rt, nx, KIs (Inv (i + 1))⟩ σ2 H2)
    (hd : ∀ σ w', Inv kvs.length σ w' → nx σ w'.H) : KFor g tb ⟨nx, rt, bk, ct⟩ σ (Itk d od kvs) w.H :=
  for_it walk_keys (fun i => KIs (Inv i)) (k_is h0) (fun i σ H hi ⟨w', e, p⟩ => by subst e; exact hk i σ w' p)
    (fun i x σ H H' hi ⟨w', e, p⟩ ⟨e2, k, y, hy, ex⟩ => by subst e e2 ex; exact hs i k y σ w' hy p) fun σ H ⟨w', e, p⟩ => by subst e; exact hd σ w' p
/-! ### comprehensions that make dicts -/
def KDc (g : TG) (tt : TT) (tk te : TE) (vs : List Nat) (σ : St) (Q : VK) (J : It) (H1 : Hp) : Prop := ∀ D, H1 D = none → ∃ W : Nat → Nat → Hp → Prop, (∃ m, W 0 m (upd H1 D (.dK []))) ∧ ∀ i m H, W i m H →
  (J.stop i H ∧ Q (.ref D) H) ∨ (J.go i H ∧ ∃ Nx : Hp → Prop, (∀ H', Nx H' → ∃ m', m' < m ∧ W (i + 1) m' H') ∧ ∀ x H', J.yld i H x H' → g x (wipe σ vs) H' fun σ2 H2 => wipe σ2 vs = wipe σ vs ∧ tt σ2 H2 fun b H3 =>
    if b = true then tk σ2 H3 fun y H4 => te σ2 H4 fun z H5 => ∃ kvs k, y = kV k ∧ H5 D = some (.dK kvs) ∧ kvs.length < sizeLine ∧ Nx (upd H5 D (.dK (putK kvs k z))) else Nx H3)
theorem e_dc {k el : Xp} {tg : Tg} {it : Sq} {ifs : Tto} {own : List Nat} (h : it.den v W σ H (KDc (tg.den v noW) (ifs.den v noW) (k.den v noW) (el.den v noW) own σ Q)) : Xp.den v (.dc k el tg it ifs own) W σ H Q := h
def KDz (D : Addr) (P : Wd → Prop) (y : V) : VK := fun z H5 => ∃ kvs k, y = kV k ∧ H5 D = some (.dK kvs) ∧ kvs.length < sizeLine ∧ KIw P (upd H5 D (.dK (putK kvs k z)))
def KDy (te : TE) (σ : St) (D : Addr) (P : Wd → Prop) : VK := fun y H4 => te σ H4 (KDz D P y)
theorem k_dy {te : TE} {D : Addr} {P : Wd → Prop} {y : V} (h : te σ H (KDz D P y)) : KDy te σ D P y H := h
theorem k_dz {D : Addr} {P : Wd → Prop} {kvs : List (Key × V)} {k : Key} {y z : V} (o : Op w D (.dK kvs)) (hy : y = kV k) (hl : kvs.length < sizeLine) (h : ∀ w', Ex [D] w w' → Op w' D (.dK (putK kvs k z)) → P w') : KDz D P y z w.H :=
  ⟨kvs, k, hy, o.h, hl, w.put D _, rfl, h _ (ex_set o) (op_set o)⟩
def KDb (tt : TT) (tk te : TE) (vs : List Nat) (σ0 : St) (D : Addr) (P : Wd → Prop) : St → Hp → Prop := fun σ2 H2 => wipe σ2 vs = wipe σ0 vs ∧ tt σ2 H2 fun b H3 => if b = true then tk σ2 H3 (KDy te σ2 D P) else KIw P H3
theorem k_db0 {tk te : TE} {vs : List Nat} {σ0 : St} {D : Addr} {P : Wd → Prop} (hw : wipe σ vs = wipe σ0 vs) (h : tk σ H (KDy te σ D P)) : KDb (Tto.den v .no W) tk te vs σ0 D P σ H := ⟨hw, h⟩
theorem dc_it {J : It} {n : Nat} {G : Hp → Prop} {Y : Nat → Hp → V → Hp → Prop} (wk : Walk J n G Y) {g : TG} {tt : TT} {tk te : TE} {vs : List Nat} {σ : St} {H1 : Hp} {D : Addr} {Qd : Hp → Prop} (Pv : Nat → Hp → Prop) (h0 : Pv 0 (upd H1 D (.dK []))) (hG : ∀ i H, i ≤ n → Pv i H → G H)
    (hs : ∀ i x H H', i < n → Pv i H → Y i H x H' → g x (wipe σ vs) H' fun σ2 H2 => wipe σ2 vs = wipe σ vs ∧ tt σ2 H2 fun b H3 =>
      if b = true then tk σ2 H3 fun y H4 => te σ2 H4 fun z H5 => ∃ kvs k, y = kV k ∧ H5 D = some (.dK kvs) ∧ kvs.length < sizeLine ∧ Pv (i + 1) (upd H5 D (.dK (putK kvs k z))) else Pv (i + 1) H3) (hd : ∀ H, Pv n H → Qd H) :
    ∃ W : Nat → Nat → Hp → Prop, (∃ m, W 0 m (upd H1 D (.dK []))) ∧ ∀ i m H, W i m H →
      (J.stop i H ∧ Qd H) ∨ (J.go i H ∧ ∃ Nx : Hp → Prop, (∀ H', Nx H' → ∃ m', m' < m ∧ W (i + 1) m' H') ∧ ∀ x H', J.yld i H x H' → g x (wipe σ vs) H' fun σ2 H2 => wipe σ2 vs = wipe σ vs ∧ tt σ2 H2 fun b H3 =>
        if b = true then tk σ2 H3 fun y H4 => te σ2 H4 fun z H5 => ∃ kvs k, y = kV k ∧ H5 D = some (.dK kvs) ∧ kvs.length < sizeLine ∧ Nx (upd H5 D (.dK (putK kvs k z))) else Nx H3) := by
  refine ⟨fun i m H => m = n - i ∧ i ≤ n ∧ Pv i H, ⟨n, by simp, Nat.zero_le _, h0⟩, ?_⟩
  rintro i m H ⟨rfl, hi, p⟩
  have q := hG i H hi p
  by_cases hlt : i < n
  · refine .inr ⟨wk.goes i H hlt q, Pv (i + 1), fun H' p' => ⟨n - (i + 1), by omega, rfl, hlt, p'⟩, fun x H' y => hs i x H H' hlt p (wk.yields i H x H' hlt q y)⟩
  · have e : i = n := by omega
    subst e
    exact .inl ⟨wk.stops H q, hd H p⟩
theorem k_dc_dk {d : Addr} {od : Obj} {kvs : List (Key × V)} {g : TG} {tt : TT} {tk te : TE} {vs : List Nat} (h : ∀ w1 D, Ex [] w w1 → w.H D = none → Op w1 D (.dK []) → ∃ Inv : Nat → Wd → Prop, Inv 0 w1 ∧ (∀ i w', Inv i w' → w'.H d = some (.frz od (.dK kvs))) ∧
    (∀ i k x w', kvs[i]? = some (k, x) → Inv i w' → g (kV k) (wipe σ vs) w'.H (KDb tt tk te vs σ D (Inv (i + 1)))) ∧ ∀ w', Inv kvs.length w' → Q (.ref D) w'.H) : KDc g tt tk te vs σ Q (Itk d od kvs) w.H := fun D hD => by
  obtain ⟨Inv, h0, hk, hs, hd⟩ := h (w.put D (.dK [])) D (ex_new hD) hD (op_new hD)
  exact dc_it walk_keys (Qd := Q (.ref D)) (fun i => KIw (Inv i)) ⟨_, rfl, h0⟩ (fun i H hi ⟨w', e, p⟩ => by subst e; exact hk i w' p)
    (fun i x H H' hi ⟨w', e, p⟩ ⟨e2, k, y, hy, ex⟩ => by subst e e2 ex; exact hs i k y w' hy p) fun H ⟨w', e, p⟩ => by subst e; exact hd w' p
end
end DI

namespace LK
open L2 DI
open PySem.Spec
open PyProof.Rows hiding St
open PySem

/-! the code of k48, printed by gen.py -/
def topS (i : Nat) : Stmt := PySem.Challenge.pw_clockwright_k48_whole_timed_run.main.body.getD i (.Pass ⟨0, 0, 0, 0⟩)
abbrev c_Clocked : Nat := 0
abbrev c_Cell : Nat := 1
abbrev c_Library : Nat := 2
abbrev c_Netlist : Nat := 3
abbrev i_wall : Nat := 0
abbrev i_Clocked_init : Nat := 1
abbrev i_Clocked_source_value : Nat := 2
abbrev i_Clocked_needed_times : Nat := 3
abbrev i_Clocked_values_at : Nat := 4
abbrev i_run_delayed : Nat := 5
abbrev i_Cell_init : Nat := 6
abbrev i_Cell_output : Nat := 7
abbrev i_Library_init : Nat := 8
abbrev i_Library_cell_named : Nat := 9
abbrev i_Library_inverter : Nat := 10
abbrev i_Library_is_complete : Nat := 11
abbrev i_Library_bindings : Nat := 12
abbrev i_Netlist_init : Nat := 13
abbrev i_Netlist_first_register : Nat := 14
abbrev i_Netlist_first_gate : Nat := 15
abbrev i_Netlist_net_count : Nat := 16
abbrev i_Netlist_area : Nat := 17
abbrev i_Netlist_initial_state : Nat := 18
abbrev i_Netlist_net_values : Nat := 19
abbrev i_Netlist_step : Nat := 20
abbrev i_run_netlist : Nat := 21
abbrev i_pin_arrivals : Nat := 22
abbrev i_arrivals : Nat := 23
abbrev i_ends : Nat := 24
abbrev i_least_period : Nat := 25
abbrev i_law_numbers : Nat := 26
abbrev i_law_cell : Nat := 27
abbrev i_law_cells : Nat := 28
abbrev i_law_netlist : Nat := 29
abbrev i_law_all_values : Nat := 30
abbrev i_law_step : Nat := 31
abbrev i_law_run : Nat := 32
abbrev i_law_rows : Nat := 33
abbrev i_law : Nat := 34
/-- _wall: 0 k -/
def b_wall : Sms := (.cons (.whl (.tr (.c (.bl true))) (.cons .pass
  .nil))
  .nil)
def d_wall : Df := ⟨["k"], ["k"], b_wall, []⟩
/-- Clocked.__init__: 0 self, 1 netlist, 2 rows, 3 period -/
def b_Clocked_init : Sms := (.cons (.fld c_Clocked (.v 0) "netlist" (.v 1))
  (.cons (.fld c_Clocked (.v 0) "rows" (.v 2))
  (.cons (.fld c_Clocked (.v 0) "period" (.v 3))
  (.cons (.fld c_Clocked (.v 0) "states" (.lst (.cons (.meth i_Netlist_initial_state c_Netlist "initial_state" (.v 1) .nil) .nil)))
  .nil))))
def d_Clocked_init : Df := ⟨["self", "netlist", "rows", "period"], ["self", "netlist", "rows", "period"], b_Clocked_init, []⟩
/-- Clocked.source_value: 0 self, 1 net, 2 time, 3 first, 4 cycle -/
def b_Clocked_source_value : Sms := (.cons (.ite (.cmp .Lt (.v 1) (.c (.int 2))) (.cons (.ret (.v 1))
  .nil) .nil)
  (.cons (.asg (.nm 3) (.meth i_Netlist_first_register c_Netlist "first_register" (.fld c_Clocked (.v 0) "netlist") .nil))
  (.cons (.ite (.cmp .Lt (.v 1) (.v 3)) (.cons (.ret (.ix (.ix (.fld c_Clocked (.v 0) "rows") (.bc .max (.cons (.bin .FloorDiv (.v 2) (.fld c_Clocked (.v 0) "period")) (.cons (.c (.int 0)) .nil)))) (.bin .Sub (.v 1) (.c (.int 2)))))
  .nil) .nil)
  (.cons (.asg (.nm 4) (.bc .max (.cons (.bin .FloorDiv (.bin .Sub (.v 2) (.fld c_Library (.fld c_Netlist (.fld c_Clocked (.v 0) "netlist") "library") "flop_delay")) (.fld c_Clocked (.v 0) "period")) (.cons (.c (.int 0)) .nil))))
  (.cons (.ret (.ix (.ix (.fld c_Clocked (.v 0) "states") (.v 4)) (.bin .Sub (.v 1) (.v 3))))
  .nil)))))
def d_Clocked_source_value : Df := ⟨["self", "net", "time"], ["self", "net", "time", "first", "cycle"], b_Clocked_source_value, []⟩
/-- Clocked.needed_times: 0 self, 1 nets, 2 time, 3 needed, 4 net, 5 start, 6 place, 7 delays, 8 _, 9 cell, 10 pins, 11 delay, 12 at -/
def b_Clocked_needed_times : Sms := (.cons (.asl 3 .dct0 (.nm 8) (.rng1 (.meth i_Netlist_net_count c_Netlist "net_count" (.fld c_Clocked (.v 0) "netlist") .nil)) .no [8])
  (.cons (.for_ (.nm 4) (.lst (.v 1)) (.cons (.asg (.sub (.ix (.v 3) (.v 4)) (.v 2)) (.c (.bl true)))
  .nil))
  (.cons (.asg (.nm 5) (.meth i_Netlist_first_gate c_Netlist "first_gate" (.fld c_Clocked (.v 0) "netlist") .nil))
  (.cons (.for_ (.nm 6) (.rvr1 (.bc .len (.cons (.fld c_Netlist (.fld c_Clocked (.v 0) "netlist") "gates") .nil))) (.cons (.asg (.tup (.cons (.nm 9) (.cons (.nm 10) .nil))) (.ix (.fld c_Netlist (.fld c_Clocked (.v 0) "netlist") "gates") (.v 6)))
  (.cons (.asg (.nm 7) (.fld c_Cell (.ix (.fld c_Library (.fld c_Netlist (.fld c_Clocked (.v 0) "netlist") "library") "cells") (.v 9)) "delays"))
  (.cons (.for_ (.tup (.cons (.nm 4) (.cons (.nm 11) .nil))) (.zip (.v 10) (.v 7)) (.cons (.lck (.for_ (.nm 12) (.dk (.ix (.v 3) (.bin .Add (.v 5) (.v 6)))) (.cons (.asg (.sub (.ix (.v 3) (.v 4)) (.bin .Sub (.v 12) (.v 11))) (.c (.bl true)))
  .nil)))
  .nil))
  .nil))))
  (.cons (.ret (.v 3))
  .nil)))))
def d_Clocked_needed_times : Df := ⟨["self", "nets", "time"], ["self", "nets", "time", "needed", "net", "start", "place", "delays", "_", "cell", "pins", "delay", "at"], b_Clocked_needed_times, []⟩
/-- Clocked.values_at: 0 self, 1 nets, 2 time, 3 needed, 4 start, 5 values, 6 net, 7 place, 8 kind, 9 found, 10 at, 11 cell, 12 pins, 13 delay -/
def b_Clocked_values_at : Sms := (.cons (.asg (.nm 3) (.meth i_Clocked_needed_times c_Clocked "needed_times" (.v 0) (.cons (.v 1) (.cons (.v 2) .nil))))
  (.cons (.asg (.nm 4) (.meth i_Netlist_first_gate c_Netlist "first_gate" (.fld c_Clocked (.v 0) "netlist") .nil))
  (.cons (.asg (.nm 5) (.lst .nil))
  (.cons (.for_ (.nm 6) (.rng1 (.v 4)) (.cons (.exp (.bm .append (.v 5) (.cons (.lckE (.dc (.v 10) (.meth i_Clocked_source_value c_Clocked "source_value" (.v 0) (.cons (.v 6) (.cons (.v 10) .nil))) (.nm 10) (.dk (.ix (.v 3) (.v 6))) .no [10])) .nil)))
  .nil))
  (.cons (.for_ (.tup (.cons (.nm 7) (.cons (.tup (.cons (.nm 11) (.cons (.nm 12) .nil))) .nil))) (.enm (.fld c_Netlist (.fld c_Clocked (.v 0) "netlist") "gates")) (.cons (.asg (.nm 8) (.ix (.fld c_Library (.fld c_Netlist (.fld c_Clocked (.v 0) "netlist") "library") "cells") (.v 11)))
  (.cons (.asg (.nm 9) .dct0)
  (.cons (.lck (.for_ (.nm 10) (.dk (.ix (.v 3) (.bin .Add (.v 4) (.v 7)))) (.cons (.asg (.sub (.v 9) (.v 10)) (.meth i_Cell_output c_Cell "output" (.v 8) (.cons (.lc (.ix (.ix (.v 5) (.v 6)) (.bin .Sub (.v 10) (.v 13))) (.tup (.cons (.nm 6) (.cons (.nm 13) .nil))) (.zip (.v 12) (.fld c_Cell (.v 8) "delays")) .no [6, 13]) .nil)))
  .nil)))
  (.cons (.exp (.bm .append (.v 5) (.cons (.v 9) .nil)))
  .nil)))))
  (.cons (.ret (.lc (.ix (.ix (.v 5) (.v 6)) (.v 2)) (.nm 6) (.lst (.v 1)) .no [6]))
  .nil))))))
def d_Clocked_values_at : Df := ⟨["self", "nets", "time"], ["self", "nets", "time", "needed", "start", "values", "net", "place", "kind", "found", "at", "cell", "pins", "delay"], b_Clocked_values_at, []⟩
/-- run_delayed: 0 netlist, 1 rows, 2 resets, 3 period, 4 run, 5 ends, 6 result, 7 cycle, 8 reset, 9 time, 10 values, 11 state, 12 net, 13 _ -/
def b_run_delayed : Sms := (.cons (.asg (.nm 4) (.mk c_Clocked i_Clocked_init (.cons (.v 0) (.cons (.v 1) (.cons (.v 3) .nil)))))
  (.cons (.asg (.nm 5) (.bin .Add (.lc (.v 12) (.tup (.cons (.nm 12) (.cons (.nm 13) .nil))) (.lst (.fld c_Netlist (.v 0) "registers")) .no [12, 13]) (.fld c_Netlist (.v 0) "outputs")))
  (.cons (.asg (.nm 6) (.lst .nil))
  (.cons (.for_ (.tup (.cons (.nm 7) (.cons (.nm 8) .nil))) (.enm (.v 2)) (.cons (.asg (.nm 9) (.bin .Sub (.bin .Mult (.bin .Add (.v 7) (.c (.int 1))) (.v 3)) (.fld c_Library (.fld c_Netlist (.v 0) "library") "setup")))
  (.cons (.asg (.nm 10) (.meth i_Clocked_values_at c_Clocked "values_at" (.v 4) (.cons (.v 5) (.cons (.v 9) .nil))))
  (.cons (.asg (.nm 11) (.sl (.v 10) .no (.so (.bc .len (.cons (.fld c_Netlist (.v 0) "registers") .nil)))))
  (.cons (.ite (.cmp .Eq (.v 8) (.c (.int 1))) (.cons (.asg (.nm 11) (.meth i_Netlist_initial_state c_Netlist "initial_state" (.v 0) .nil))
  .nil) .nil)
  (.cons (.exp (.bm .append (.fld c_Clocked (.v 4) "states") (.cons (.v 11) .nil)))
  (.cons (.exp (.bm .append (.v 6) (.cons (.sl (.v 10) (.so (.bc .len (.cons (.fld c_Netlist (.v 0) "registers") .nil))) .no) .nil)))
  .nil)))))))
  (.cons (.ret (.v 6))
  .nil)))))
def d_run_delayed : Df := ⟨["netlist", "rows", "resets", "period"], ["netlist", "rows", "resets", "period", "run", "ends", "result", "cycle", "reset", "time", "values", "state", "net", "_"], b_run_delayed, []⟩
/-- Cell.__init__: 0 self, 1 name, 2 table, 3 pins, 4 area, 5 delays -/
def b_Cell_init : Sms := (.cons (.fld c_Cell (.v 0) "name" (.v 1))
  (.cons (.fld c_Cell (.v 0) "table" (.v 2))
  (.cons (.fld c_Cell (.v 0) "pins" (.v 3))
  (.cons (.fld c_Cell (.v 0) "area" (.v 4))
  (.cons (.fld c_Cell (.v 0) "delays" (.v 5))
  .nil)))))
def d_Cell_init : Df := ⟨["self", "name", "table", "pins", "area", "delays"], ["self", "name", "table", "pins", "area", "delays"], b_Cell_init, []⟩
/-- Cell.output: 0 self, 1 values, 2 row, 3 place, 4 value -/
def b_Cell_output : Sms := (.cons (.asg (.nm 2) (.c (.int 0)))
  (.cons (.for_ (.tup (.cons (.nm 3) (.cons (.nm 4) .nil))) (.enm (.v 1)) (.cons (.asg (.nm 2) (.bin .Add (.v 2) (.bin .LShift (.v 4) (.v 3))))
  .nil))
  (.cons (.ret (.bin .BitAnd (.bin .RShift (.fld c_Cell (.v 0) "table") (.v 2)) (.c (.int 1))))
  .nil)))
def d_Cell_output : Df := ⟨["self", "values"], ["self", "values", "row", "place", "value"], b_Cell_output, []⟩
/-- Library.__init__: 0 self, 1 cells, 2 setup, 3 flop_delay -/
def b_Library_init : Sms := (.cons (.fld c_Library (.v 0) "cells" (.bc .list (.cons (.v 1) .nil)))
  (.cons (.fld c_Library (.v 0) "setup" (.v 2))
  (.cons (.fld c_Library (.v 0) "flop_delay" (.v 3))
  .nil)))
def d_Library_init : Df := ⟨["self", "cells", "setup", "flop_delay"], ["self", "cells", "setup", "flop_delay"], b_Library_init, []⟩
/-- Library.cell_named: 0 self, 1 name -/
def b_Library_cell_named : Sms := (.cons (.exp (.call i_wall (.cons (.c (.int 0)) .nil)))
  .nil)
def d_Library_cell_named : Df := ⟨["self", "name"], ["self", "name"], b_Library_cell_named, []⟩
/-- Library.inverter: 0 self -/
def b_Library_inverter : Sms := (.cons (.exp (.call i_wall (.cons (.c (.int 1)) .nil)))
  .nil)
def d_Library_inverter : Df := ⟨["self"], ["self"], b_Library_inverter, []⟩
/-- Library.is_complete: 0 self -/
def b_Library_is_complete : Sms := (.cons (.exp (.call i_wall (.cons (.c (.int 2)) .nil)))
  .nil)
def d_Library_is_complete : Df := ⟨["self"], ["self"], b_Library_is_complete, []⟩
/-- Library.bindings: 0 self, 1 table, 2 count -/
def b_Library_bindings : Sms := (.cons (.exp (.call i_wall (.cons (.c (.int 3)) .nil)))
  .nil)
def d_Library_bindings : Df := ⟨["self", "table", "count"], ["self", "table", "count"], b_Library_bindings, []⟩
/-- Netlist.__init__: 0 self, 1 library, 2 inputs, 3 registers, 4 gates, 5 outputs -/
def b_Netlist_init : Sms := (.cons (.fld c_Netlist (.v 0) "library" (.v 1))
  (.cons (.fld c_Netlist (.v 0) "inputs" (.v 2))
  (.cons (.fld c_Netlist (.v 0) "registers" (.bc .list (.cons (.v 3) .nil)))
  (.cons (.fld c_Netlist (.v 0) "gates" (.bc .list (.cons (.v 4) .nil)))
  (.cons (.fld c_Netlist (.v 0) "outputs" (.bc .list (.cons (.v 5) .nil)))
  .nil)))))
def d_Netlist_init : Df := ⟨["self", "library", "inputs", "registers", "gates", "outputs"], ["self", "library", "inputs", "registers", "gates", "outputs"], b_Netlist_init, []⟩
/-- Netlist.first_register: 0 self -/
def b_Netlist_first_register : Sms := (.cons (.ret (.bin .Add (.c (.int 2)) (.fld c_Netlist (.v 0) "inputs")))
  .nil)
def d_Netlist_first_register : Df := ⟨["self"], ["self"], b_Netlist_first_register, []⟩
/-- Netlist.first_gate: 0 self -/
def b_Netlist_first_gate : Sms := (.cons (.ret (.bin .Add (.bin .Add (.c (.int 2)) (.fld c_Netlist (.v 0) "inputs")) (.bc .len (.cons (.fld c_Netlist (.v 0) "registers") .nil))))
  .nil)
def d_Netlist_first_gate : Df := ⟨["self"], ["self"], b_Netlist_first_gate, []⟩
/-- Netlist.net_count: 0 self -/
def b_Netlist_net_count : Sms := (.cons (.ret (.bin .Add (.meth i_Netlist_first_gate c_Netlist "first_gate" (.v 0) .nil) (.bc .len (.cons (.fld c_Netlist (.v 0) "gates") .nil))))
  .nil)
def d_Netlist_net_count : Df := ⟨["self"], ["self"], b_Netlist_net_count, []⟩
/-- Netlist.area: 0 self, 1 cell, 2 _ -/
def b_Netlist_area : Sms := (.cons (.ret (.bc .sum (.cons (.lc (.fld c_Cell (.ix (.fld c_Library (.fld c_Netlist (.v 0) "library") "cells") (.v 1)) "area") (.tup (.cons (.nm 1) (.cons (.nm 2) .nil))) (.lst (.fld c_Netlist (.v 0) "gates")) .no [1, 2]) .nil)))
  .nil)
def d_Netlist_area : Df := ⟨["self"], ["self", "cell", "_"], b_Netlist_area, []⟩
/-- Netlist.initial_state: 0 self, 1 _, 2 initial -/
def b_Netlist_initial_state : Sms := (.cons (.ret (.lc (.v 2) (.tup (.cons (.nm 1) (.cons (.nm 2) .nil))) (.lst (.fld c_Netlist (.v 0) "registers")) .no [1, 2]))
  .nil)
def d_Netlist_initial_state : Df := ⟨["self"], ["self", "_", "initial"], b_Netlist_initial_state, []⟩
/-- Netlist.net_values: 0 self, 1 row, 2 state, 3 values, 4 cell, 5 pins, 6 net -/
def b_Netlist_net_values : Sms := (.cons (.asg (.nm 3) (.bin .Add (.bin .Add (.lst (.cons (.c (.int 0)) (.cons (.c (.int 1)) .nil))) (.bc .list (.cons (.v 1) .nil))) (.bc .list (.cons (.v 2) .nil))))
  (.cons (.for_ (.tup (.cons (.nm 4) (.cons (.nm 5) .nil))) (.lst (.fld c_Netlist (.v 0) "gates")) (.cons (.exp (.bm .append (.v 3) (.cons (.meth i_Cell_output c_Cell "output" (.ix (.fld c_Library (.fld c_Netlist (.v 0) "library") "cells") (.v 4)) (.cons (.lc (.ix (.v 3) (.v 6)) (.nm 6) (.tup (.v 5)) .no [6]) .nil)) .nil)))
  .nil))
  (.cons (.ret (.v 3))
  .nil)))
def d_Netlist_net_values : Df := ⟨["self", "row", "state"], ["self", "row", "state", "values", "cell", "pins", "net"], b_Netlist_net_values, []⟩
/-- Netlist.step: 0 self, 1 row, 2 state, 3 values, 4 net, 5 _ -/
def b_Netlist_step : Sms := (.cons (.asg (.nm 3) (.meth i_Netlist_net_values c_Netlist "net_values" (.v 0) (.cons (.v 1) (.cons (.v 2) .nil))))
  (.cons (.ret (.tup (.cons (.lc (.ix (.v 3) (.v 4)) (.nm 4) (.lst (.fld c_Netlist (.v 0) "outputs")) .no [4]) (.cons (.lc (.ix (.v 3) (.v 4)) (.tup (.cons (.nm 4) (.cons (.nm 5) .nil))) (.lst (.fld c_Netlist (.v 0) "registers")) .no [4, 5]) .nil))))
  .nil))
def d_Netlist_step : Df := ⟨["self", "row", "state"], ["self", "row", "state", "values", "net", "_"], b_Netlist_step, []⟩
/-- run_netlist: 0 netlist, 1 rows, 2 resets, 3 result, 4 state, 5 row, 6 reset, 7 outputs -/
def b_run_netlist : Sms := (.cons (.asg (.nm 3) (.lst .nil))
  (.cons (.asg (.nm 4) (.meth i_Netlist_initial_state c_Netlist "initial_state" (.v 0) .nil))
  (.cons (.for_ (.tup (.cons (.nm 5) (.cons (.nm 6) .nil))) (.zip (.v 1) (.v 2)) (.cons (.asg (.tup (.cons (.nm 7) (.cons (.nm 4) .nil))) (.meth i_Netlist_step c_Netlist "step" (.v 0) (.cons (.v 5) (.cons (.v 4) .nil))))
  (.cons (.ite (.cmp .Eq (.v 6) (.c (.int 1))) (.cons (.asg (.nm 4) (.meth i_Netlist_initial_state c_Netlist "initial_state" (.v 0) .nil))
  .nil) .nil)
  (.cons (.exp (.bm .append (.v 3) (.cons (.v 7) .nil)))
  .nil))))
  (.cons (.ret (.v 3))
  .nil))))
def d_run_netlist : Df := ⟨["netlist", "rows", "resets"], ["netlist", "rows", "resets", "result", "state", "row", "reset", "outputs"], b_run_netlist, []⟩
/-- pin_arrivals: 0 netlist, 1 times, 2 gate, 3 delays, 4 net, 5 delay -/
def b_pin_arrivals : Sms := (.cons (.asg (.nm 3) (.fld c_Cell (.ix (.fld c_Library (.fld c_Netlist (.v 0) "library") "cells") (.ix (.v 2) (.c (.int 0)))) "delays"))
  (.cons (.ret (.lc (.bin .Add (.ix (.v 1) (.v 4)) (.v 5)) (.tup (.cons (.nm 4) (.cons (.nm 5) .nil))) (.zip (.ix (.v 2) (.c (.int 1))) (.v 3)) (.so (.cmp .Gt (.v 4) (.c (.int 1)))) [4, 5]))
  .nil))
def d_pin_arrivals : Df := ⟨["netlist", "times", "gate"], ["netlist", "times", "gate", "delays", "net", "delay"], b_pin_arrivals, []⟩
/-- arrivals: 0 netlist, 1 times, 2 _, 3 gate -/
def b_arrivals : Sms := (.cons (.asg (.nm 1) (.lst (.cons (.c (.int 0)) (.cons (.c (.int 0)) .nil))))
  (.cons (.for_ (.nm 2) (.rng1 (.fld c_Netlist (.v 0) "inputs")) (.cons (.exp (.bm .append (.v 1) (.cons (.c (.int 0)) .nil)))
  .nil))
  (.cons (.for_ (.nm 2) (.lst (.fld c_Netlist (.v 0) "registers")) (.cons (.exp (.bm .append (.v 1) (.cons (.fld c_Library (.fld c_Netlist (.v 0) "library") "flop_delay") .nil)))
  .nil))
  (.cons (.for_ (.nm 3) (.lst (.fld c_Netlist (.v 0) "gates")) (.cons (.exp (.bm .append (.v 1) (.cons (.mxd true (.call i_pin_arrivals (.cons (.v 0) (.cons (.v 1) (.cons (.v 3) .nil)))) (.c (.int 0))) .nil)))
  .nil))
  (.cons (.ret (.v 1))
  .nil)))))
def d_arrivals : Df := ⟨["netlist"], ["netlist", "times", "_", "gate"], b_arrivals, []⟩
/-- ends: 0 netlist, 1 net, 2 _ -/
def b_ends : Sms := (.cons (.ret (.bin .Add (.lc (.v 1) (.tup (.cons (.nm 1) (.cons (.nm 2) .nil))) (.lst (.fld c_Netlist (.v 0) "registers")) .no [1, 2]) (.fld c_Netlist (.v 0) "outputs")))
  .nil)
def d_ends : Df := ⟨["netlist"], ["netlist", "net", "_"], b_ends, []⟩
/-- least_period: 0 netlist, 1 times, 2 net -/
def b_least_period : Sms := (.cons (.asg (.nm 1) (.call i_arrivals (.cons (.v 0) .nil)))
  (.cons (.ret (.bin .Add (.fld c_Library (.fld c_Netlist (.v 0) "library") "setup") (.mxd true (.lc (.ix (.v 1) (.v 2)) (.nm 2) (.lst (.call i_ends (.cons (.v 0) .nil))) .no [2]) (.c (.int 0)))))
  .nil))
def d_least_period : Df := ⟨["netlist"], ["netlist", "times", "net"], b_least_period, []⟩
/-- _law_numbers: 0 _law_script, 1 _law_base, 2 _law_many, 3 _law_numbers_here, 4 _law_seed, 5 _law_cell_here, 6 _law_k, 7 _law_rest, 8 _law_spin -/
def b_law_numbers : Sms := (.cons (.asg (.nm 3) (.lst .nil))
  (.cons (.asg (.nm 4) (.c (.int 7)))
  (.cons (.for_ (.nm 5) (.lst (.sl (.v 0) .no (.so (.c (.int 63))))) (.cons (.asg (.nm 7) (.bc .abs (.cons (.v 5) .nil)))
  (.cons (.asg (.nm 4) (.bin .Mod (.bc .int (.cons (.bin .Add (.bin .Mult (.v 4) (.c (.int 48271))) (.v 7)) .nil)) (.c (.int 2147483647))))
  (.cons (.for_ (.nm 8) (.rng1 (.c (.int 60))) (.cons (.exp (.bm .append (.v 3) (.cons (.bin .Mod (.bc .int (.cons (.v 7) .nil)) (.v 1)) .nil)))
  (.cons (.asg (.nm 7) (.bin .FloorDiv (.v 7) (.v 1)))
  (.cons (.ite (.cmp .Eq (.v 7) (.c (.int 0))) (.cons .brk
  .nil) .nil)
  .nil))))
  .nil))))
  (.cons (.for_ (.nm 6) (.rng1 (.v 2)) (.cons (.asg (.nm 4) (.bin .Mod (.bc .int (.cons (.bin .Add (.bin .Add (.bin .Mult (.v 4) (.c (.int 16807))) (.c (.int 12345))) (.v 6)) .nil)) (.c (.int 2147483647))))
  (.cons (.exp (.bm .append (.v 3) (.cons (.bin .Mod (.bin .FloorDiv (.v 4) (.c (.int 64))) (.v 1)) .nil)))
  .nil)))
  (.cons (.ret (.sl (.v 3) .no (.so (.v 2))))
  .nil)))))
def d_law_numbers : Df := ⟨["_law_script", "_law_base", "_law_many"], ["_law_script", "_law_base", "_law_many", "_law_numbers_here", "_law_seed", "_law_cell_here", "_law_k", "_law_rest", "_law_spin"], b_law_numbers, []⟩
/-- _law_cell: 0 _law_script, 1 _law_k -/
def b_law_cell : Sms := (.cons (.ite (.cmp .Lt (.v 1) (.bc .len (.cons (.v 0) .nil))) (.cons (.ret (.ix (.v 0) (.v 1)))
  .nil) .nil)
  (.cons (.ret (.c (.int 0)))
  .nil))
def d_law_cell : Df := ⟨["_law_script", "_law_k"], ["_law_script", "_law_k"], b_law_cell, []⟩
/-- _law_cells: 0 _law_numbers_here, 1 _law_count, 2 _law_cells_here, 3 _law_k, 4 _law_pins, 5 _law_table, 6 _law_delays, 7 _law_place -/
def b_law_cells : Sms := (.cons (.asg (.nm 2) (.lst .nil))
  (.cons (.for_ (.nm 3) (.rng1 (.v 1)) (.cons (.asg (.nm 4) (.bin .Add (.c (.int 1)) (.bin .Mod (.ix (.v 0) (.bin .Mult (.c (.int 3)) (.v 3))) (.c (.int 4)))))
  (.cons (.asg (.nm 5) (.bin .Mod (.bc .int (.cons (.bin .Add (.ix (.v 0) (.bin .Add (.bin .Mult (.c (.int 3)) (.v 3)) (.c (.int 1)))) (.bin .Mult (.c (.int 256)) (.bin .Add (.ix (.v 0) (.bin .Add (.bin .Mult (.c (.int 3)) (.v 3)) (.c (.int 2)))) (.bin .Mult (.c (.int 3)) (.ix (.v 0) (.bin .Mult (.c (.int 3)) (.v 3))))))) .nil)) (.bin .LShift (.c (.int 1)) (.bin .LShift (.c (.int 1)) (.v 4)))))
  (.cons (.asg (.nm 6) (.bc .tuple (.cons (.lc (.bin .Add (.c (.int 1)) (.bin .Mod (.bin .Add (.ix (.v 0) (.bin .Add (.bin .Mult (.c (.int 3)) (.v 3)) (.c (.int 2)))) (.bin .Mult (.c (.int 5)) (.v 7))) (.c (.int 7)))) (.nm 7) (.rng1 (.v 4)) .no [7]) .nil)))
  (.cons (.exp (.bm .append (.v 2) (.cons (.mk c_Cell i_Cell_init (.cons (.bin .Add (.c (.str (S [99]))) (.bc .str (.cons (.v 3) .nil))) (.cons (.v 5) (.cons (.v 4) (.cons (.bin .Add (.c (.int 1)) (.bin .Mod (.ix (.v 0) (.bin .Add (.bin .Mult (.c (.int 3)) (.v 3)) (.c (.int 2)))) (.c (.int 9)))) (.cons (.v 6) .nil)))))) .nil)))
  .nil)))))
  (.cons (.ret (.v 2))
  .nil)))
def d_law_cells : Df := ⟨["_law_numbers_here", "_law_count"], ["_law_numbers_here", "_law_count", "_law_cells_here", "_law_k", "_law_pins", "_law_table", "_law_delays", "_law_place"], b_law_cells, []⟩
/-- _law_netlist: 0 _law_script, 1 _law_most, 2 _law_numbers_here, 3 _law_cells_here, 4 _law_gates, 5 _law_k, 6 _law_nets, 7 _law_last, 8 _law_registers, 9 _law_outputs, 10 _law_setup, 11 _law_delay, 12 _law_inputs, 13 _law_count, 14 _law_own, 15 _law_cell_here, 16 _law_place -/
def b_law_netlist : Sms := (.cons (.asg (.nm 2) (.call i_law_numbers (.cons (.sl (.v 0) (.so (.c (.int 2))) .no) (.cons (.c (.int 256)) (.cons (.bin .Add (.bin .Add (.c (.int 12)) (.bin .Mult (.c (.int 4)) (.v 1))) (.c (.int 12))) .nil)))))
  (.cons (.par 10 11 (.bin .Add (.c (.int 1)) (.bin .Mod (.call i_law_cell (.cons (.v 0) (.cons (.c (.int 0)) .nil))) (.c (.int 4)))) (.bin .Mod (.bin .FloorDiv (.call i_law_cell (.cons (.v 0) (.cons (.c (.int 0)) .nil))) (.c (.int 4))) (.c (.int 6))))
  (.cons (.asg (.nm 3) (.call i_law_cells (.cons (.v 2) (.cons (.bin .Add (.c (.int 1)) (.bin .Mod (.ix (.v 2) (.c (.int 11))) (.c (.int 3)))) .nil))))
  (.cons (.par 12 13 (.bin .Mod (.call i_law_cell (.cons (.v 0) (.cons (.c (.int 1)) .nil))) (.c (.int 4))) (.bin .Mod (.bin .FloorDiv (.call i_law_cell (.cons (.v 0) (.cons (.c (.int 1)) .nil))) (.c (.int 4))) (.c (.int 3))))
  (.cons (.asg (.nm 4) (.lst .nil))
  (.cons (.for_ (.nm 5) (.rng1 (.bin .Mod (.bin .FloorDiv (.call i_law_cell (.cons (.v 0) (.cons (.c (.int 1)) .nil))) (.c (.int 12))) (.bin .Add (.v 1) (.c (.int 1))))) (.cons (.asg (.nm 14) (.sl (.v 2) (.so (.bin .Add (.c (.int 12)) (.bin .Mult (.c (.int 4)) (.v 5)))) (.so (.bin .Add (.c (.int 16)) (.bin .Mult (.c (.int 4)) (.v 5))))))
  (.cons (.asg (.nm 15) (.bin .Mod (.ix (.v 14) (.c (.int 0))) (.bc .len (.cons (.v 3) .nil))))
  (.cons (.asg (.nm 6) (.bin .Add (.bin .Add (.bin .Add (.c (.int 2)) (.v 12)) (.v 13)) (.v 5)))
  (.cons (.exp (.bm .append (.v 4) (.cons (.tup (.cons (.v 15) (.cons (.bc .tuple (.cons (.lc (.bin .Sub (.bin .Sub (.v 6) (.c (.int 1))) (.bin .Mod (.bin .FloorDiv (.ix (.v 14) (.bin .Add (.c (.int 1)) (.bin .Mod (.v 16) (.c (.int 3))))) (.bin .Add (.c (.int 1)) (.bin .Mult (.c (.int 5)) (.bin .FloorDiv (.v 16) (.c (.int 3)))))) (.v 6))) (.nm 16) (.rng1 (.fld c_Cell (.ix (.v 3) (.v 15)) "pins")) .no [16]) .nil)) .nil))) .nil)))
  .nil)))))
  (.cons (.asg (.nm 6) (.bin .Add (.bin .Add (.bin .Add (.c (.int 2)) (.v 12)) (.v 13)) (.bc .len (.cons (.v 4) .nil))))
  (.cons (.asg (.nm 7) (.sl (.v 2) (.so (.bin .Add (.c (.int 12)) (.bin .Mult (.c (.int 4)) (.v 1)))) .no))
  (.cons (.asl 8 (.tup (.cons (.bin .Sub (.bin .Sub (.v 6) (.c (.int 1))) (.bin .Mod (.ix (.v 7) (.v 5)) (.v 6))) (.cons (.bin .Mod (.bin .FloorDiv (.ix (.v 7) (.v 5)) (.c (.int 16))) (.c (.int 2))) .nil))) (.nm 5) (.rng1 (.v 13)) .no [5])
  (.cons (.asl 9 (.bin .Sub (.bin .Sub (.v 6) (.c (.int 1))) (.bin .Mod (.ix (.v 7) (.bin .Add (.c (.int 3)) (.v 5))) (.v 6))) (.nm 5) (.rng1 (.bin .Mod (.ix (.v 7) (.c (.int 9))) (.c (.int 4)))) .no [5])
  (.cons (.ret (.mk c_Netlist i_Netlist_init (.cons (.mk c_Library i_Library_init (.cons (.v 3) (.cons (.v 10) (.cons (.v 11) .nil)))) (.cons (.v 12) (.cons (.v 8) (.cons (.v 4) (.cons (.v 9) .nil)))))))
  .nil)))))))))))
def d_law_netlist : Df := ⟨["_law_script", "_law_most"], ["_law_script", "_law_most", "_law_numbers_here", "_law_cells_here", "_law_gates", "_law_k", "_law_nets", "_law_last", "_law_registers", "_law_outputs", "_law_setup", "_law_delay", "_law_inputs", "_law_count", "_law_own", "_law_cell_here", "_law_place"], b_law_netlist, []⟩
/-- _law_all_values: 0 _law_netlist_here, 1 _law_row, 2 _law_state, 3 _law_values, 4 _law_gate, 5 _law_source, 6 _law_place -/
def b_law_all_values : Sms := (.cons (.asg (.nm 3) (.bin .Add (.bin .Add (.lst (.cons (.c (.int 0)) (.cons (.c (.int 1)) .nil))) (.bc .list (.cons (.v 1) .nil))) (.bc .list (.cons (.v 2) .nil))))
  (.cons (.for_ (.nm 4) (.lst (.fld c_Netlist (.v 0) "gates")) (.cons (.asg (.nm 5) (.c (.int 0)))
  (.cons (.for_ (.nm 6) (.rng1 (.bc .len (.cons (.ix (.v 4) (.c (.int 1))) .nil))) (.cons (.asg (.nm 5) (.bin .Add (.v 5) (.bin .Mult (.ix (.v 3) (.ix (.ix (.v 4) (.c (.int 1))) (.v 6))) (.bin .LShift (.c (.int 1)) (.v 6)))))
  .nil))
  (.cons (.exp (.bm .append (.v 3) (.cons (.bin .Mod (.bin .FloorDiv (.fld c_Cell (.ix (.fld c_Library (.fld c_Netlist (.v 0) "library") "cells") (.ix (.v 4) (.c (.int 0)))) "table") (.bin .LShift (.c (.int 1)) (.v 5))) (.c (.int 2))) .nil)))
  .nil))))
  (.cons (.ret (.v 3))
  .nil)))
def d_law_all_values : Df := ⟨["_law_netlist_here", "_law_row", "_law_state"], ["_law_netlist_here", "_law_row", "_law_state", "_law_values", "_law_gate", "_law_source", "_law_place"], b_law_all_values, []⟩
/-- _law_step: 0 _law_netlist_here, 1 _law_row, 2 _law_state, 3 _law_values, 4 _law_net, 5 _law_pair -/
def b_law_step : Sms := (.cons (.asg (.nm 3) (.call i_law_all_values (.cons (.v 0) (.cons (.v 1) (.cons (.v 2) .nil)))))
  (.cons (.ret (.tup (.cons (.lc (.ix (.v 3) (.v 4)) (.nm 4) (.lst (.fld c_Netlist (.v 0) "outputs")) .no [4]) (.cons (.lc (.ix (.v 3) (.ix (.v 5) (.c (.int 0)))) (.nm 5) (.lst (.fld c_Netlist (.v 0) "registers")) .no [5]) .nil))))
  .nil))
def d_law_step : Df := ⟨["_law_netlist_here", "_law_row", "_law_state"], ["_law_netlist_here", "_law_row", "_law_state", "_law_values", "_law_net", "_law_pair"], b_law_step, []⟩
/-- _law_run: 0 _law_netlist_here, 1 _law_rows_here, 2 _law_resets, 3 _law_result, 4 _law_state, 5 _law_k, 6 _law_pair -/
def b_law_run : Sms := (.cons (.asg (.nm 3) (.lst .nil))
  (.cons (.asl 4 (.ix (.v 6) (.c (.int 1))) (.nm 6) (.lst (.fld c_Netlist (.v 0) "registers")) .no [6])
  (.cons (.for_ (.nm 5) (.rng1 (.bc .len (.cons (.v 1) .nil))) (.cons (.asg (.nm 6) (.call i_law_step (.cons (.v 0) (.cons (.ix (.v 1) (.v 5)) (.cons (.v 4) .nil)))))
  (.cons (.exp (.bm .append (.v 3) (.cons (.ix (.v 6) (.c (.int 0))) .nil)))
  (.cons (.asg (.nm 4) (.ix (.v 6) (.c (.int 1))))
  (.cons (.ite (.cmp .Eq (.ix (.v 2) (.v 5)) (.c (.int 1))) (.cons (.asl 4 (.ix (.v 6) (.c (.int 1))) (.nm 6) (.lst (.fld c_Netlist (.v 0) "registers")) .no [6])
  .nil) .nil)
  .nil)))))
  (.cons (.ret (.v 3))
  .nil))))
def d_law_run : Df := ⟨["_law_netlist_here", "_law_rows_here", "_law_resets"], ["_law_netlist_here", "_law_rows_here", "_law_resets", "_law_result", "_law_state", "_law_k", "_law_pair"], b_law_run, []⟩
/-- _law_rows: 0 _law_script, 1 _law_width, 2 _law_count, 3 _law_bits, 4 _law_rows_here, 5 _law_k -/
def b_law_rows : Sms := (.cons (.asg (.nm 3) (.call i_law_numbers (.cons (.v 0) (.cons (.c (.int 2)) (.cons (.bin .Mult (.bin .Add (.v 1) (.c (.int 1))) (.v 2)) .nil)))))
  (.cons (.asl 4 (.sl (.v 3) (.so (.bin .Mult (.bin .Add (.v 1) (.c (.int 1))) (.v 5))) (.so (.bin .Add (.bin .Mult (.bin .Add (.v 1) (.c (.int 1))) (.v 5)) (.v 1)))) (.nm 5) (.rng1 (.v 2)) .no [5])
  (.cons (.ret (.tup (.cons (.v 4) (.cons (.lc (.ix (.v 3) (.bin .Add (.bin .Mult (.bin .Add (.v 1) (.c (.int 1))) (.v 5)) (.v 1))) (.nm 5) (.rng1 (.v 2)) .no [5]) .nil))))
  .nil)))
def d_law_rows : Df := ⟨["_law_script", "_law_width", "_law_count"], ["_law_script", "_law_width", "_law_count", "_law_bits", "_law_rows_here", "_law_k"], b_law_rows, []⟩
/-- law: 0 _law_script, 1 _law_netlist_here, 2 _law_due, 3 _law_least, 4 _law_more, 5 _law_rows_here, 6 _law_resets, 7 _law_row -/
def b_law : Sms := (.cons (.asg (.nm 1) (.call i_law_netlist (.cons (.v 0) (.cons (.c (.int 8)) .nil))))
  (.cons (.asg (.tup (.cons (.nm 5) (.cons (.nm 6) .nil))) (.call i_law_rows (.cons (.sl (.v 0) (.so (.c (.int 1))) .no) (.cons (.fld c_Netlist (.v 1) "inputs") (.cons (.bin .Mod (.bin .FloorDiv (.call i_law_cell (.cons (.v 0) (.cons (.c (.int 0)) .nil))) (.c (.int 24))) (.c (.int 10))) .nil)))))
  (.cons (.asg (.nm 2) (.call i_law_run (.cons (.v 1) (.cons (.v 5) (.cons (.v 6) .nil)))))
  (.cons (.asg (.nm 3) (.call i_least_period (.cons (.v 1) .nil)))
  (.cons (.ite (.or (.not (.tr (.bc .isi (.cons (.v 3) (.cons (.ty "int") .nil))))) (.or (.tr (.bc .isi (.cons (.v 3) (.cons (.ty "bool") .nil)))) (.cmp .Lt (.v 3) (.c (.int 1))))) (.cons (.ret (.c (.bl false)))
  .nil) .nil)
  (.cons (.ite (.cmp .NotEq (.call i_run_netlist (.cons (.v 1) (.cons (.lc (.bc .list (.cons (.v 7) .nil)) (.nm 7) (.lst (.v 5)) .no [7]) (.cons (.bc .list (.cons (.v 6) .nil)) .nil)))) (.v 2)) (.cons (.ret (.c (.bl false)))
  .nil) .nil)
  (.cons (.for_ (.nm 4) (.lst (.lst (.cons (.c (.int 0)) (.cons (.bin .Add (.c (.int 1)) (.bin .Mod (.bin .FloorDiv (.call i_law_cell (.cons (.v 0) (.cons (.c (.int 0)) .nil))) (.c (.int 240))) (.c (.int 5)))) (.cons (.bin .Mod (.bin .FloorDiv (.call i_law_cell (.cons (.v 0) (.cons (.c (.int 0)) .nil))) (.c (.int 1200))) (.c (.int 60))) .nil))))) (.cons (.ite (.cmp .NotEq (.call i_run_delayed (.cons (.v 1) (.cons (.lc (.bc .list (.cons (.v 7) .nil)) (.nm 7) (.lst (.v 5)) .no [7]) (.cons (.bc .list (.cons (.v 6) .nil)) (.cons (.bin .Add (.v 3) (.v 4)) .nil))))) (.v 2)) (.cons (.ret (.c (.bl false)))
  .nil) .nil)
  .nil))
  (.cons (.ret (.c (.bl true)))
  .nil))))))))
def d_law : Df := ⟨["_law_script"], ["_law_script", "_law_netlist_here", "_law_due", "_law_least", "_law_more", "_law_rows_here", "_law_resets", "_law_row"], b_law, []⟩
def Dl : List Df := [d_wall, d_Clocked_init, d_Clocked_source_value, d_Clocked_needed_times, d_Clocked_values_at, d_run_delayed, d_Cell_init, d_Cell_output, d_Library_init, d_Library_cell_named, d_Library_inverter, d_Library_is_complete, d_Library_bindings, d_Netlist_init, d_Netlist_first_register, d_Netlist_first_gate, d_Netlist_net_count, d_Netlist_area, d_Netlist_initial_state, d_Netlist_net_values, d_Netlist_step, d_run_netlist, d_pin_arrivals, d_arrivals, d_ends, d_least_period, d_law_numbers, d_law_cell, d_law_cells, d_law_netlist, d_law_all_values, d_law_step, d_law_run, d_law_rows, d_law]
def D (i : Nat) : Df := Dl.getD i ⟨[], [], .nil, []⟩
theorem in_wall {v : Ev} {n : Nat} {x0 : V} {H : Hp} {Q : VK} {E : XK} (h : b_wall.den (evAt v D n) (fun c d _ H1 => E c d H1) ⟨fun _ H1 => Q .non H1, Q, fun _ _ => False, fun _ _ => False⟩ [some x0] H) : spOf v D (n + 1) i_wall [x0] H Q E := r_in (f := i_wall) (b := b_wall) (N := ["k"]) (ps := ["k"]) (kw := []) rfl rfl rfl h
theorem in_Clocked_init {v : Ev} {n : Nat} {x0 x1 x2 x3 : V} {H : Hp} {Q : VK} {E : XK} (h : b_Clocked_init.den (evAt v D n) (fun c d _ H1 => E c d H1) ⟨fun _ H1 => Q .non H1, Q, fun _ _ => False, fun _ _ => False⟩ [some x0, some x1, some x2, some x3] H) : spOf v D (n + 1) i_Clocked_init [x0, x1, x2, x3] H Q E := r_in (f := i_Clocked_init) (b := b_Clocked_init) (N := ["self", "netlist", "rows", "period"]) (ps := ["self", "netlist", "rows", "period"]) (kw := []) rfl rfl rfl h
theorem in_Clocked_source_value {v : Ev} {n : Nat} {x0 x1 x2 : V} {H : Hp} {Q : VK} {E : XK} (h : b_Clocked_source_value.den (evAt v D n) (fun c d _ H1 => E c d H1) ⟨fun _ H1 => Q .non H1, Q, fun _ _ => False, fun _ _ => False⟩ [some x0, some x1, some x2, none, none] H) : spOf v D (n + 1) i_Clocked_source_value [x0, x1, x2] H Q E := r_in (f := i_Clocked_source_value) (b := b_Clocked_source_value) (N := ["self", "net", "time", "first", "cycle"]) (ps := ["self", "net", "time"]) (kw := []) rfl rfl rfl h
theorem in_Clocked_needed_times {v : Ev} {n : Nat} {x0 x1 x2 : V} {H : Hp} {Q : VK} {E : XK} (h : b_Clocked_needed_times.den (evAt v D n) (fun c d _ H1 => E c d H1) ⟨fun _ H1 => Q .non H1, Q, fun _ _ => False, fun _ _ => False⟩ [some x0, some x1, some x2, none, none, none, none, none, none, none, none, none, none] H) : spOf v D (n + 1) i_Clocked_needed_times [x0, x1, x2] H Q E := r_in (f := i_Clocked_needed_times) (b := b_Clocked_needed_times) (N := ["self", "nets", "time", "needed", "net", "start", "place", "delays", "_", "cell", "pins", "delay", "at"]) (ps := ["self", "nets", "time"]) (kw := []) rfl rfl rfl h
theorem in_Clocked_values_at {v : Ev} {n : Nat} {x0 x1 x2 : V} {H : Hp} {Q : VK} {E : XK} (h : b_Clocked_values_at.den (evAt v D n) (fun c d _ H1 => E c d H1) ⟨fun _ H1 => Q .non H1, Q, fun _ _ => False, fun _ _ => False⟩ [some x0, some x1, some x2, none, none, none, none, none, none, none, none, none, none, none] H) : spOf v D (n + 1) i_Clocked_values_at [x0, x1, x2] H Q E := r_in (f := i_Clocked_values_at) (b := b_Clocked_values_at) (N := ["self", "nets", "time", "needed", "start", "values", "net", "place", "kind", "found", "at", "cell", "pins", "delay"]) (ps := ["self", "nets", "time"]) (kw := []) rfl rfl rfl h
theorem in_run_delayed {v : Ev} {n : Nat} {x0 x1 x2 x3 : V} {H : Hp} {Q : VK} {E : XK} (h : b_run_delayed.den (evAt v D n) (fun c d _ H1 => E c d H1) ⟨fun _ H1 => Q .non H1, Q, fun _ _ => False, fun _ _ => False⟩ [some x0, some x1, some x2, some x3, none, none, none, none, none, none, none, none, none, none] H) : spOf v D (n + 1) i_run_delayed [x0, x1, x2, x3] H Q E := r_in (f := i_run_delayed) (b := b_run_delayed) (N := ["netlist", "rows", "resets", "period", "run", "ends", "result", "cycle", "reset", "time", "values", "state", "net", "_"]) (ps := ["netlist", "rows", "resets", "period"]) (kw := []) rfl rfl rfl h
theorem in_Cell_init {v : Ev} {n : Nat} {x0 x1 x2 x3 x4 x5 : V} {H : Hp} {Q : VK} {E : XK} (h : b_Cell_init.den (evAt v D n) (fun c d _ H1 => E c d H1) ⟨fun _ H1 => Q .non H1, Q, fun _ _ => False, fun _ _ => False⟩ [some x0, some x1, some x2, some x3, some x4, some x5] H) : spOf v D (n + 1) i_Cell_init [x0, x1, x2, x3, x4, x5] H Q E := r_in (f := i_Cell_init) (b := b_Cell_init) (N := ["self", "name", "table", "pins", "area", "delays"]) (ps := ["self", "name", "table", "pins", "area", "delays"]) (kw := []) rfl rfl rfl h
theorem in_Cell_output {v : Ev} {n : Nat} {x0 x1 : V} {H : Hp} {Q : VK} {E : XK} (h : b_Cell_output.den (evAt v D n) (fun c d _ H1 => E c d H1) ⟨fun _ H1 => Q .non H1, Q, fun _ _ => False, fun _ _ => False⟩ [some x0, some x1, none, none, none] H) : spOf v D (n + 1) i_Cell_output [x0, x1] H Q E := r_in (f := i_Cell_output) (b := b_Cell_output) (N := ["self", "values", "row", "place", "value"]) (ps := ["self", "values"]) (kw := []) rfl rfl rfl h
theorem in_Library_init {v : Ev} {n : Nat} {x0 x1 x2 x3 : V} {H : Hp} {Q : VK} {E : XK} (h : b_Library_init.den (evAt v D n) (fun c d _ H1 => E c d H1) ⟨fun _ H1 => Q .non H1, Q, fun _ _ => False, fun _ _ => False⟩ [some x0, some x1, some x2, some x3] H) : spOf v D (n + 1) i_Library_init [x0, x1, x2, x3] H Q E := r_in (f := i_Library_init) (b := b_Library_init) (N := ["self", "cells", "setup", "flop_delay"]) (ps := ["self", "cells", "setup", "flop_delay"]) (kw := []) rfl rfl rfl h
theorem in_Library_cell_named {v : Ev} {n : Nat} {x0 x1 : V} {H : Hp} {Q : VK} {E : XK} (h : b_Library_cell_named.den (evAt v D n) (fun c d _ H1 => E c d H1) ⟨fun _ H1 => Q .non H1, Q, fun _ _ => False, fun _ _ => False⟩ [some x0, some x1] H) : spOf v D (n + 1) i_Library_cell_named [x0, x1] H Q E := r_in (f := i_Library_cell_named) (b := b_Library_cell_named) (N := ["self", "name"]) (ps := ["self", "name"]) (kw := []) rfl rfl rfl h
theorem in_Library_inverter {v : Ev} {n : Nat} {x0 : V} {H : Hp} {Q : VK} {E : XK} (h : b_Library_inverter.den (evAt v D n) (fun c d _ H1 => E c d H1) ⟨fun _ H1 => Q .non H1, Q, fun _ _ => False, fun _ _ => False⟩ [some x0] H) : spOf v D (n + 1) i_Library_inverter [x0] H Q E := r_in (f := i_Library_inverter) (b := b_Library_inverter) (N := ["self"]) (ps := ["self"]) (kw := []) rfl rfl rfl h
theorem in_Library_is_complete {v : Ev} {n : Nat} {x0 : V} {H : Hp} {Q : VK} {E : XK} (h : b_Library_is_complete.den (evAt v D n) (fun c d _ H1 => E c d H1) ⟨fun _ H1 => Q .non H1, Q, fun _ _ => False, fun _ _ => False⟩ [some x0] H) : spOf v D (n + 1) i_Library_is_complete [x0] H Q E := r_in (f := i_Library_is_complete) (b := b_Library_is_complete) (N := ["self"]) (ps := ["self"]) (kw := []) rfl rfl rfl h
theorem in_Library_bindings {v : Ev} {n : Nat} {x0 x1 x2 : V} {H : Hp} {Q : VK} {E : XK} (h : b_Library_bindings.den (evAt v D n) (fun c d _ H1 => E c d H1) ⟨fun _ H1 => Q .non H1, Q, fun _ _ => False, fun _ _ => False⟩ [some x0, some x1, some x2] H) : spOf v D (n + 1) i_Library_bindings [x0, x1, x2] H Q E := r_in (f := i_Library_bindings) (b := b_Library_bindings) (N := ["self", "table", "count"]) (ps := ["self", "table", "count"]) (kw := []) rfl rfl rfl h
theorem in_Netlist_init {v : Ev} {n : Nat} {x0 x1 x2 x3 x4 x5 : V} {H : Hp} {Q : VK} {E : XK} (h : b_Netlist_init.den (evAt v D n) (fun c d _ H1 => E c d H1) ⟨fun _ H1 => Q .non H1, Q, fun _ _ => False, fun _ _ => False⟩ [some x0, some x1, some x2, some x3, some x4, some x5] H) : spOf v D (n + 1) i_Netlist_init [x0, x1, x2, x3, x4, x5] H Q E := r_in (f := i_Netlist_init) (b := b_Netlist_init) (N := ["self", "library", "inputs", "registers", "gates", "outputs"]) (ps := ["self", "library", "inputs", "registers", "gates", "outputs"]) (kw := []) rfl rfl rfl h
theorem in_Netlist_first_register {v : Ev} {n : Nat} {x0 : V} {H : Hp} {Q : VK} {E : XK} (h : b_Netlist_first_register.den (evAt v D n) (fun c d _ H1 => E c d H1) ⟨fun _ H1 => Q .non H1, Q, fun _ _ => False, fun _ _ => False⟩ [some x0] H) : spOf v D (n + 1) i_Netlist_first_register [x0] H Q E := r_in (f := i_Netlist_first_register) (b := b_Netlist_first_register) (N := ["self"]) (ps := ["self"]) (kw := []) rfl rfl rfl h
theorem in_Netlist_first_gate {v : Ev} {n : Nat} {x0 : V} {H : Hp} {Q : VK} {E : XK} (h : b_Netlist_first_gate.den (evAt v D n) (fun c d _ H1 => E c d H1) ⟨fun _ H1 => Q .non H1, Q, fun _ _ => False, fun _ _ => False⟩ [some x0] H) : spOf v D (n + 1) i_Netlist_first_gate [x0] H Q E := r_in (f := i_Netlist_first_gate) (b := b_Netlist_first_gate) (N := ["self"]) (ps := ["self"]) (kw := []) rfl rfl rfl h
theorem in_Netlist_net_count {v : Ev} {n : Nat} {x0 : V} {H : Hp} {Q : VK} {E : XK} (h : b_Netlist_net_count.den (evAt v D n) (fun c d _ H1 => E c d H1) ⟨fun _ H1 => Q .non H1, Q, fun _ _ => False, fun _ _ => False⟩ [some x0] H) : spOf v D (n + 1) i_Netlist_net_count [x0] H Q E := r_in (f := i_Netlist_net_count) (b := b_Netlist_net_count) (N := ["self"]) (ps := ["self"]) (kw := []) rfl rfl rfl h
theorem in_Netlist_area {v : Ev} {n : Nat} {x0 : V} {H : Hp} {Q : VK} {E : XK} (h : b_Netlist_area.den (evAt v D n) (fun c d _ H1 => E c d H1) ⟨fun _ H1 => Q .non H1, Q, fun _ _ => False, fun _ _ => False⟩ [some x0, none, none] H) : spOf v D (n + 1) i_Netlist_area [x0] H Q E := r_in (f := i_Netlist_area) (b := b_Netlist_area) (N := ["self", "cell", "_"]) (ps := ["self"]) (kw := []) rfl rfl rfl h
theorem in_Netlist_initial_state {v : Ev} {n : Nat} {x0 : V} {H : Hp} {Q : VK} {E : XK} (h : b_Netlist_initial_state.den (evAt v D n) (fun c d _ H1 => E c d H1) ⟨fun _ H1 => Q .non H1, Q, fun _ _ => False, fun _ _ => False⟩ [some x0, none, none] H) : spOf v D (n + 1) i_Netlist_initial_state [x0] H Q E := r_in (f := i_Netlist_initial_state) (b := b_Netlist_initial_state) (N := ["self", "_", "initial"]) (ps := ["self"]) (kw := []) rfl rfl rfl h
theorem in_Netlist_net_values {v : Ev} {n : Nat} {x0 x1 x2 : V} {H : Hp} {Q : VK} {E : XK} (h : b_Netlist_net_values.den (evAt v D n) (fun c d _ H1 => E c d H1) ⟨fun _ H1 => Q .non H1, Q, fun _ _ => False, fun _ _ => False⟩ [some x0, some x1, some x2, none, none, none, none] H) : spOf v D (n + 1) i_Netlist_net_values [x0, x1, x2] H Q E := r_in (f := i_Netlist_net_values) (b := b_Netlist_net_values) (N := ["self", "row", "state", "values", "cell", "pins", "net"]) (ps := ["self", "row", "state"]) (kw := []) rfl rfl rfl h
theorem in_Netlist_step {v : Ev} {n : Nat} {x0 x1 x2 : V} {H : Hp} {Q : VK} {E : XK} (h : b_Netlist_step.den (evAt v D n) (fun c d _ H1 => E c d H1) ⟨fun _ H1 => Q .non H1, Q, fun _ _ => False, fun _ _ => False⟩ [some x0, some x1, some x2, none, none, none] H) : spOf v D (n + 1) i_Netlist_step [x0, x1, x2] H Q E := r_in (f := i_Netlist_step) (b := b_Netlist_step) (N := ["self", "row", "state", "values", "net", "_"]) (ps := ["self", "row", "state"]) (kw := []) rfl rfl rfl h
theorem in_run_netlist {v : Ev} {n : Nat} {x0 x1 x2 : V} {H : Hp} {Q : VK} {E : XK} (h : b_run_netlist.den (evAt v D n) (fun c d _ H1 => E c d H1) ⟨fun _ H1 => Q .non H1, Q, fun _ _ => False, fun _ _ => False⟩ [some x0, some x1, some x2, none, none, none, none, none] H) : spOf v D (n + 1) i_run_netlist [x0, x1, x2] H Q E := r_in (f := i_run_netlist) (b := b_run_netlist) (N := ["netlist", "rows", "resets", "result", "state", "row", "reset", "outputs"]) (ps := ["netlist", "rows", "resets"]) (kw := []) rfl rfl rfl h
theorem in_pin_arrivals {v : Ev} {n : Nat} {x0 x1 x2 : V} {H : Hp} {Q : VK} {E : XK} (h : b_pin_arrivals.den (evAt v D n) (fun c d _ H1 => E c d H1) ⟨fun _ H1 => Q .non H1, Q, fun _ _ => False, fun _ _ => False⟩ [some x0, some x1, some x2, none, none, none] H) : spOf v D (n + 1) i_pin_arrivals [x0, x1, x2] H Q E := r_in (f := i_pin_arrivals) (b := b_pin_arrivals) (N := ["netlist", "times", "gate", "delays", "net", "delay"]) (ps := ["netlist", "times", "gate"]) (kw := []) rfl rfl rfl h
theorem in_arrivals {v : Ev} {n : Nat} {x0 : V} {H : Hp} {Q : VK} {E : XK} (h : b_arrivals.den (evAt v D n) (fun c d _ H1 => E c d H1) ⟨fun _ H1 => Q .non H1, Q, fun _ _ => False, fun _ _ => False⟩ [some x0, none, none, none] H) : spOf v D (n + 1) i_arrivals [x0] H Q E := r_in (f := i_arrivals) (b := b_arrivals) (N := ["netlist", "times", "_", "gate"]) (ps := ["netlist"]) (kw := []) rfl rfl rfl h
theorem in_ends {v : Ev} {n : Nat} {x0 : V} {H : Hp} {Q : VK} {E : XK} (h : b_ends.den (evAt v D n) (fun c d _ H1 => E c d H1) ⟨fun _ H1 => Q .non H1, Q, fun _ _ => False, fun _ _ => False⟩ [some x0, none, none] H) : spOf v D (n + 1) i_ends [x0] H Q E := r_in (f := i_ends) (b := b_ends) (N := ["netlist", "net", "_"]) (ps := ["netlist"]) (kw := []) rfl rfl rfl h
theorem in_least_period {v : Ev} {n : Nat} {x0 : V} {H : Hp} {Q : VK} {E : XK} (h : b_least_period.den (evAt v D n) (fun c d _ H1 => E c d H1) ⟨fun _ H1 => Q .non H1, Q, fun _ _ => False, fun _ _ => False⟩ [some x0, none, none] H) : spOf v D (n + 1) i_least_period [x0] H Q E := r_in (f := i_least_period) (b := b_least_period) (N := ["netlist", "times", "net"]) (ps := ["netlist"]) (kw := []) rfl rfl rfl h
theorem in_law_numbers {v : Ev} {n : Nat} {x0 x1 x2 : V} {H : Hp} {Q : VK} {E : XK} (h : b_law_numbers.den (evAt v D n) (fun c d _ H1 => E c d H1) ⟨fun _ H1 => Q .non H1, Q, fun _ _ => False, fun _ _ => False⟩ [some x0, some x1, some x2, none, none, none, none, none, none] H) : spOf v D (n + 1) i_law_numbers [x0, x1, x2] H Q E := r_in (f := i_law_numbers) (b := b_law_numbers) (N := ["_law_script", "_law_base", "_law_many", "_law_numbers_here", "_law_seed", "_law_cell_here", "_law_k", "_law_rest", "_law_spin"]) (ps := ["_law_script", "_law_base", "_law_many"]) (kw := []) rfl rfl rfl h
theorem in_law_cell {v : Ev} {n : Nat} {x0 x1 : V} {H : Hp} {Q : VK} {E : XK} (h : b_law_cell.den (evAt v D n) (fun c d _ H1 => E c d H1) ⟨fun _ H1 => Q .non H1, Q, fun _ _ => False, fun _ _ => False⟩ [some x0, some x1] H) : spOf v D (n + 1) i_law_cell [x0, x1] H Q E := r_in (f := i_law_cell) (b := b_law_cell) (N := ["_law_script", "_law_k"]) (ps := ["_law_script", "_law_k"]) (kw := []) rfl rfl rfl h
theorem in_law_cells {v : Ev} {n : Nat} {x0 x1 : V} {H : Hp} {Q : VK} {E : XK} (h : b_law_cells.den (evAt v D n) (fun c d _ H1 => E c d H1) ⟨fun _ H1 => Q .non H1, Q, fun _ _ => False, fun _ _ => False⟩ [some x0, some x1, none, none, none, none, none, none] H) : spOf v D (n + 1) i_law_cells [x0, x1] H Q E := r_in (f := i_law_cells) (b := b_law_cells) (N := ["_law_numbers_here", "_law_count", "_law_cells_here", "_law_k", "_law_pins", "_law_table", "_law_delays", "_law_place"]) (ps := ["_law_numbers_here", "_law_count"]) (kw := []) rfl rfl rfl h
theorem in_law_netlist {v : Ev} {n : Nat} {x0 x1 : V} {H : Hp} {Q : VK} {E : XK} (h : b_law_netlist.den (evAt v D n) (fun c d _ H1 => E c d H1) ⟨fun _ H1 => Q .non H1, Q, fun _ _ => False, fun _ _ => False⟩ [some x0, some x1, none, none, none, none, none, none, none, none, none, none, none, none, none, none, none] H) : spOf v D (n + 1) i_law_netlist [x0, x1] H Q E := r_in (f := i_law_netlist) (b := b_law_netlist) (N := ["_law_script", "_law_most", "_law_numbers_here", "_law_cells_here", "_law_gates", "_law_k", "_law_nets", "_law_last", "_law_registers", "_law_outputs", "_law_setup", "_law_delay", "_law_inputs", "_law_count", "_law_own", "_law_cell_here", "_law_place"]) (ps := ["_law_script", "_law_most"]) (kw := []) rfl rfl rfl h
theorem in_law_all_values {v : Ev} {n : Nat} {x0 x1 x2 : V} {H : Hp} {Q : VK} {E : XK} (h : b_law_all_values.den (evAt v D n) (fun c d _ H1 => E c d H1) ⟨fun _ H1 => Q .non H1, Q, fun _ _ => False, fun _ _ => False⟩ [some x0, some x1, some x2, none, none, none, none] H) : spOf v D (n + 1) i_law_all_values [x0, x1, x2] H Q E := r_in (f := i_law_all_values) (b := b_law_all_values) (N := ["_law_netlist_here", "_law_row", "_law_state", "_law_values", "_law_gate", "_law_source", "_law_place"]) (ps := ["_law_netlist_here", "_law_row", "_law_state"]) (kw := []) rfl rfl rfl h
theorem in_law_step {v : Ev} {n : Nat} {x0 x1 x2 : V} {H : Hp} {Q : VK} {E : XK} (h : b_law_step.den (evAt v D n) (fun c d _ H1 => E c d H1) ⟨fun _ H1 => Q .non H1, Q, fun _ _ => False, fun _ _ => False⟩ [some x0, some x1, some x2, none, none, none] H) : spOf v D (n + 1) i_law_step [x0, x1, x2] H Q E := r_in (f := i_law_step) (b := b_law_step) (N := ["_law_netlist_here", "_law_row", "_law_state", "_law_values", "_law_net", "_law_pair"]) (ps := ["_law_netlist_here", "_law_row", "_law_state"]) (kw := []) rfl rfl rfl h
theorem in_law_run {v : Ev} {n : Nat} {x0 x1 x2 : V} {H : Hp} {Q : VK} {E : XK} (h : b_law_run.den (evAt v D n) (fun c d _ H1 => E c d H1) ⟨fun _ H1 => Q .non H1, Q, fun _ _ => False, fun _ _ => False⟩ [some x0, some x1, some x2, none, none, none, none] H) : spOf v D (n + 1) i_law_run [x0, x1, x2] H Q E := r_in (f := i_law_run) (b := b_law_run) (N := ["_law_netlist_here", "_law_rows_here", "_law_resets", "_law_result", "_law_state", "_law_k", "_law_pair"]) (ps := ["_law_netlist_here", "_law_rows_here", "_law_resets"]) (kw := []) rfl rfl rfl h
theorem in_law_rows {v : Ev} {n : Nat} {x0 x1 x2 : V} {H : Hp} {Q : VK} {E : XK} (h : b_law_rows.den (evAt v D n) (fun c d _ H1 => E c d H1) ⟨fun _ H1 => Q .non H1, Q, fun _ _ => False, fun _ _ => False⟩ [some x0, some x1, some x2, none, none, none] H) : spOf v D (n + 1) i_law_rows [x0, x1, x2] H Q E := r_in (f := i_law_rows) (b := b_law_rows) (N := ["_law_script", "_law_width", "_law_count", "_law_bits", "_law_rows_here", "_law_k"]) (ps := ["_law_script", "_law_width", "_law_count"]) (kw := []) rfl rfl rfl h
theorem in_law {v : Ev} {n : Nat} {x0 : V} {H : Hp} {Q : VK} {E : XK} (h : b_law.den (evAt v D n) (fun c d _ H1 => E c d H1) ⟨fun _ H1 => Q .non H1, Q, fun _ _ => False, fun _ _ => False⟩ [some x0, none, none, none, none, none, none, none] H) : spOf v D (n + 1) i_law [x0] H Q E := r_in (f := i_law) (b := b_law) (N := ["_law_script", "_law_netlist_here", "_law_due", "_law_least", "_law_more", "_law_rows_here", "_law_resets", "_law_row"]) (ps := ["_law_script"]) (kw := []) rfl rfl rfl h
def ck : CK where
  N := []
  sc := ⟨.function, [], false, false, []⟩
  fn := fun i => ([("_wall" : Str), ("__init__" : Str), ("source_value" : Str), ("needed_times" : Str), ("values_at" : Str), ("run_delayed" : Str), ("__init__" : Str), ("output" : Str), ("__init__" : Str), ("cell_named" : Str), ("inverter" : Str), ("is_complete" : Str), ("bindings" : Str), ("__init__" : Str), ("first_register" : Str), ("first_gate" : Str), ("net_count" : Str), ("area" : Str), ("initial_state" : Str), ("net_values" : Str), ("step" : Str), ("run_netlist" : Str), ("pin_arrivals" : Str), ("arrivals" : Str), ("ends" : Str), ("least_period" : Str), ("_law_numbers" : Str), ("_law_cell" : Str), ("_law_cells" : Str), ("_law_netlist" : Str), ("_law_all_values" : Str), ("_law_step" : Str), ("_law_run" : Str), ("_law_rows" : Str), ("law" : Str)] : List Str).getD i ""
  cn := fun i => (["Clocked", "Cell", "Library", "Netlist"] : List Str).getD i ""
  gn := fun i => ([] : List Str).getD i ""
  calls := [0, 22, 23, 24, 26, 27, 28, 30, 31, 29, 33, 32, 25, 21, 5, 34]
  mths := [(3, 18, "initial_state"), (3, 14, "first_register"), (3, 16, "net_count"), (3, 15, "first_gate"), (0, 3, "needed_times"), (0, 2, "source_value"), (1, 7, "output"), (0, 4, "values_at"), (3, 19, "net_values"), (3, 20, "step")]
  mks := [(0, 1), (1, 6), (3, 13), (2, 8)]
  flds := [(0, "netlist"), (0, "rows"), (0, "period"), (0, "states"), (2, "flop_delay"), (3, "library"), (3, "gates"), (1, "delays"), (2, "cells"), (3, "registers"), (3, "outputs"), (2, "setup"), (1, "name"), (1, "table"), (1, "pins"), (1, "area"), (3, "inputs")]
  gls := []
  kw := fun i => (D i).kw
abbrev s_wall : Stmt := topS 0
theorem sc_wall : C8.scC d_wall.N d_wall.ps (defScope s_wall) = true := by decide +kernel
theorem ck_wall : d_wall.body.chk { ck with N := d_wall.N, sc := defScope s_wall, blk := false } (defBody s_wall) = true := by decide +kernel
abbrev s_Clocked_init : Stmt := inClass (topS 2) 0
theorem sc_Clocked_init : C8.scC d_Clocked_init.N d_Clocked_init.ps (defScope s_Clocked_init) = true := by decide +kernel
theorem ck_Clocked_init : d_Clocked_init.body.chk { ck with N := d_Clocked_init.N, sc := defScope s_Clocked_init, blk := false } (defBody s_Clocked_init) = true := by decide +kernel
abbrev s_Clocked_source_value : Stmt := inClass (topS 2) 1
theorem sc_Clocked_source_value : C8.scC d_Clocked_source_value.N d_Clocked_source_value.ps (defScope s_Clocked_source_value) = true := by decide +kernel
theorem ck_Clocked_source_value : d_Clocked_source_value.body.chk { ck with N := d_Clocked_source_value.N, sc := defScope s_Clocked_source_value, blk := false } (defBody s_Clocked_source_value) = true := by decide +kernel
abbrev s_Clocked_needed_times : Stmt := inClass (topS 2) 2
theorem sc_Clocked_needed_times : C8.scC d_Clocked_needed_times.N d_Clocked_needed_times.ps (defScope s_Clocked_needed_times) = true := by decide +kernel
theorem ck_Clocked_needed_times : d_Clocked_needed_times.body.chk { ck with N := d_Clocked_needed_times.N, sc := defScope s_Clocked_needed_times, blk := false } (defBody s_Clocked_needed_times) = true := by decide +kernel
abbrev s_Clocked_values_at : Stmt := inClass (topS 2) 3
theorem sc_Clocked_values_at : C8.scC d_Clocked_values_at.N d_Clocked_values_at.ps (defScope s_Clocked_values_at) = true := by decide +kernel
theorem ck_Clocked_values_at : d_Clocked_values_at.body.chk { ck with N := d_Clocked_values_at.N, sc := defScope s_Clocked_values_at, blk := false } (defBody s_Clocked_values_at) = true := by decide +kernel
abbrev s_run_delayed : Stmt := topS 3
theorem sc_run_delayed : C8.scC d_run_delayed.N d_run_delayed.ps (defScope s_run_delayed) = true := by decide +kernel
theorem ck_run_delayed : d_run_delayed.body.chk { ck with N := d_run_delayed.N, sc := defScope s_run_delayed, blk := false } (defBody s_run_delayed) = true := by decide +kernel
abbrev s_Cell_init : Stmt := inClass (topS 5) 0
theorem sc_Cell_init : C8.scC d_Cell_init.N d_Cell_init.ps (defScope s_Cell_init) = true := by decide +kernel
theorem ck_Cell_init : d_Cell_init.body.chk { ck with N := d_Cell_init.N, sc := defScope s_Cell_init, blk := false } (defBody s_Cell_init) = true := by decide +kernel
abbrev s_Cell_output : Stmt := inClass (topS 5) 1
theorem sc_Cell_output : C8.scC d_Cell_output.N d_Cell_output.ps (defScope s_Cell_output) = true := by decide +kernel
theorem ck_Cell_output : d_Cell_output.body.chk { ck with N := d_Cell_output.N, sc := defScope s_Cell_output, blk := false } (defBody s_Cell_output) = true := by decide +kernel
abbrev s_Library_init : Stmt := inClass (topS 6) 0
theorem sc_Library_init : C8.scC d_Library_init.N d_Library_init.ps (defScope s_Library_init) = true := by decide +kernel
theorem ck_Library_init : d_Library_init.body.chk { ck with N := d_Library_init.N, sc := defScope s_Library_init, blk := false } (defBody s_Library_init) = true := by decide +kernel
abbrev s_Library_cell_named : Stmt := inClass (topS 6) 1
theorem sc_Library_cell_named : C8.scC d_Library_cell_named.N d_Library_cell_named.ps (defScope s_Library_cell_named) = true := by decide +kernel
theorem ck_Library_cell_named : d_Library_cell_named.body.chk { ck with N := d_Library_cell_named.N, sc := defScope s_Library_cell_named, blk := false } (defBody s_Library_cell_named) = true := by decide +kernel
abbrev s_Library_inverter : Stmt := inClass (topS 6) 2
theorem sc_Library_inverter : C8.scC d_Library_inverter.N d_Library_inverter.ps (defScope s_Library_inverter) = true := by decide +kernel
theorem ck_Library_inverter : d_Library_inverter.body.chk { ck with N := d_Library_inverter.N, sc := defScope s_Library_inverter, blk := false } (defBody s_Library_inverter) = true := by decide +kernel
abbrev s_Library_is_complete : Stmt := inClass (topS 6) 3
theorem sc_Library_is_complete : C8.scC d_Library_is_complete.N d_Library_is_complete.ps (defScope s_Library_is_complete) = true := by decide +kernel
theorem ck_Library_is_complete : d_Library_is_complete.body.chk { ck with N := d_Library_is_complete.N, sc := defScope s_Library_is_complete, blk := false } (defBody s_Library_is_complete) = true := by decide +kernel
abbrev s_Library_bindings : Stmt := inClass (topS 6) 4
theorem sc_Library_bindings : C8.scC d_Library_bindings.N d_Library_bindings.ps (defScope s_Library_bindings) = true := by decide +kernel
theorem ck_Library_bindings : d_Library_bindings.body.chk { ck with N := d_Library_bindings.N, sc := defScope s_Library_bindings, blk := false } (defBody s_Library_bindings) = true := by decide +kernel
abbrev s_Netlist_init : Stmt := inClass (topS 8) 0
theorem sc_Netlist_init : C8.scC d_Netlist_init.N d_Netlist_init.ps (defScope s_Netlist_init) = true := by decide +kernel
theorem ck_Netlist_init : d_Netlist_init.body.chk { ck with N := d_Netlist_init.N, sc := defScope s_Netlist_init, blk := false } (defBody s_Netlist_init) = true := by decide +kernel
abbrev s_Netlist_first_register : Stmt := inClass (topS 8) 1
theorem sc_Netlist_first_register : C8.scC d_Netlist_first_register.N d_Netlist_first_register.ps (defScope s_Netlist_first_register) = true := by decide +kernel
theorem ck_Netlist_first_register : d_Netlist_first_register.body.chk { ck with N := d_Netlist_first_register.N, sc := defScope s_Netlist_first_register, blk := false } (defBody s_Netlist_first_register) = true := by decide +kernel
abbrev s_Netlist_first_gate : Stmt := inClass (topS 8) 2
theorem sc_Netlist_first_gate : C8.scC d_Netlist_first_gate.N d_Netlist_first_gate.ps (defScope s_Netlist_first_gate) = true := by decide +kernel
theorem ck_Netlist_first_gate : d_Netlist_first_gate.body.chk { ck with N := d_Netlist_first_gate.N, sc := defScope s_Netlist_first_gate, blk := false } (defBody s_Netlist_first_gate) = true := by decide +kernel
abbrev s_Netlist_net_count : Stmt := inClass (topS 8) 3
theorem sc_Netlist_net_count : C8.scC d_Netlist_net_count.N d_Netlist_net_count.ps (defScope s_Netlist_net_count) = true := by decide +kernel
theorem ck_Netlist_net_count : d_Netlist_net_count.body.chk { ck with N := d_Netlist_net_count.N, sc := defScope s_Netlist_net_count, blk := false } (defBody s_Netlist_net_count) = true := by decide +kernel
abbrev s_Netlist_area : Stmt := inClass (topS 8) 4
theorem sc_Netlist_area : C8.scC d_Netlist_area.N d_Netlist_area.ps (defScope s_Netlist_area) = true := by decide +kernel
theorem ck_Netlist_area : d_Netlist_area.body.chk { ck with N := d_Netlist_area.N, sc := defScope s_Netlist_area, blk := false } (defBody s_Netlist_area) = true := by decide +kernel
abbrev s_Netlist_initial_state : Stmt := inClass (topS 8) 5
theorem sc_Netlist_initial_state : C8.scC d_Netlist_initial_state.N d_Netlist_initial_state.ps (defScope s_Netlist_initial_state) = true := by decide +kernel
theorem ck_Netlist_initial_state : d_Netlist_initial_state.body.chk { ck with N := d_Netlist_initial_state.N, sc := defScope s_Netlist_initial_state, blk := false } (defBody s_Netlist_initial_state) = true := by decide +kernel
abbrev s_Netlist_net_values : Stmt := inClass (topS 8) 6
theorem sc_Netlist_net_values : C8.scC d_Netlist_net_values.N d_Netlist_net_values.ps (defScope s_Netlist_net_values) = true := by decide +kernel
theorem ck_Netlist_net_values : d_Netlist_net_values.body.chk { ck with N := d_Netlist_net_values.N, sc := defScope s_Netlist_net_values, blk := false } (defBody s_Netlist_net_values) = true := by decide +kernel
abbrev s_Netlist_step : Stmt := inClass (topS 8) 7
theorem sc_Netlist_step : C8.scC d_Netlist_step.N d_Netlist_step.ps (defScope s_Netlist_step) = true := by decide +kernel
theorem ck_Netlist_step : d_Netlist_step.body.chk { ck with N := d_Netlist_step.N, sc := defScope s_Netlist_step, blk := false } (defBody s_Netlist_step) = true := by decide +kernel
abbrev s_run_netlist : Stmt := topS 9
theorem sc_run_netlist : C8.scC d_run_netlist.N d_run_netlist.ps (defScope s_run_netlist) = true := by decide +kernel
theorem ck_run_netlist : d_run_netlist.body.chk { ck with N := d_run_netlist.N, sc := defScope s_run_netlist, blk := false } (defBody s_run_netlist) = true := by decide +kernel
abbrev s_pin_arrivals : Stmt := topS 11
theorem sc_pin_arrivals : C8.scC d_pin_arrivals.N d_pin_arrivals.ps (defScope s_pin_arrivals) = true := by decide +kernel
theorem ck_pin_arrivals : d_pin_arrivals.body.chk { ck with N := d_pin_arrivals.N, sc := defScope s_pin_arrivals, blk := false } (defBody s_pin_arrivals) = true := by decide +kernel
abbrev s_arrivals : Stmt := topS 12
theorem sc_arrivals : C8.scC d_arrivals.N d_arrivals.ps (defScope s_arrivals) = true := by decide +kernel
theorem ck_arrivals : d_arrivals.body.chk { ck with N := d_arrivals.N, sc := defScope s_arrivals, blk := false } (defBody s_arrivals) = true := by decide +kernel
abbrev s_ends : Stmt := topS 13
theorem sc_ends : C8.scC d_ends.N d_ends.ps (defScope s_ends) = true := by decide +kernel
theorem ck_ends : d_ends.body.chk { ck with N := d_ends.N, sc := defScope s_ends, blk := false } (defBody s_ends) = true := by decide +kernel
abbrev s_least_period : Stmt := topS 14
theorem sc_least_period : C8.scC d_least_period.N d_least_period.ps (defScope s_least_period) = true := by decide +kernel
theorem ck_least_period : d_least_period.body.chk { ck with N := d_least_period.N, sc := defScope s_least_period, blk := false } (defBody s_least_period) = true := by decide +kernel
abbrev s_law_numbers : Stmt := topS 16
theorem sc_law_numbers : C8.scC d_law_numbers.N d_law_numbers.ps (defScope s_law_numbers) = true := by decide +kernel
theorem ck_law_numbers : d_law_numbers.body.chk { ck with N := d_law_numbers.N, sc := defScope s_law_numbers, blk := false } (defBody s_law_numbers) = true := by decide +kernel
abbrev s_law_cell : Stmt := topS 17
theorem sc_law_cell : C8.scC d_law_cell.N d_law_cell.ps (defScope s_law_cell) = true := by decide +kernel
theorem ck_law_cell : d_law_cell.body.chk { ck with N := d_law_cell.N, sc := defScope s_law_cell, blk := false } (defBody s_law_cell) = true := by decide +kernel
abbrev s_law_cells : Stmt := topS 18
theorem sc_law_cells : C8.scC d_law_cells.N d_law_cells.ps (defScope s_law_cells) = true := by decide +kernel
theorem ck_law_cells : d_law_cells.body.chk { ck with N := d_law_cells.N, sc := defScope s_law_cells, blk := false } (defBody s_law_cells) = true := by decide +kernel
abbrev s_law_netlist : Stmt := topS 19
theorem sc_law_netlist : C8.scC d_law_netlist.N d_law_netlist.ps (defScope s_law_netlist) = true := by decide +kernel
theorem ck_law_netlist : d_law_netlist.body.chk { ck with N := d_law_netlist.N, sc := defScope s_law_netlist, blk := false } (defBody s_law_netlist) = true := by decide +kernel
abbrev s_law_all_values : Stmt := topS 20
theorem sc_law_all_values : C8.scC d_law_all_values.N d_law_all_values.ps (defScope s_law_all_values) = true := by decide +kernel
theorem ck_law_all_values : d_law_all_values.body.chk { ck with N := d_law_all_values.N, sc := defScope s_law_all_values, blk := false } (defBody s_law_all_values) = true := by decide +kernel
abbrev s_law_step : Stmt := topS 21
theorem sc_law_step : C8.scC d_law_step.N d_law_step.ps (defScope s_law_step) = true := by decide +kernel
theorem ck_law_step : d_law_step.body.chk { ck with N := d_law_step.N, sc := defScope s_law_step, blk := false } (defBody s_law_step) = true := by decide +kernel
abbrev s_law_run : Stmt := topS 22
theorem sc_law_run : C8.scC d_law_run.N d_law_run.ps (defScope s_law_run) = true := by decide +kernel
theorem ck_law_run : d_law_run.body.chk { ck with N := d_law_run.N, sc := defScope s_law_run, blk := false } (defBody s_law_run) = true := by decide +kernel
abbrev s_law_rows : Stmt := topS 23
theorem sc_law_rows : C8.scC d_law_rows.N d_law_rows.ps (defScope s_law_rows) = true := by decide +kernel
theorem ck_law_rows : d_law_rows.body.chk { ck with N := d_law_rows.N, sc := defScope s_law_rows, blk := false } (defBody s_law_rows) = true := by decide +kernel
abbrev s_law : Stmt := topS 24
theorem sc_law : C8.scC d_law.N d_law.ps (defScope s_law) = true := by decide +kernel
theorem ck_law : d_law.body.chk { ck with N := d_law.N, sc := defScope s_law, blk := false } (defBody s_law) = true := by decide +kernel

end LK

namespace LK
open L2 DI
open PySem.Spec
open PyProof.Rows hiding St
open PySem
local macro_rules | `(tactic| walk_at "stc") => `(tactic| first
  | ((with_reducible refine e_v ?_); refine k_v ?_)
  | with_reducible refine k_as ?_
  | with_reducible refine a_cons ?_
  | with_reducible refine r_nx ?_
  | with_reducible refine a_nil ?_
  | with_reducible refine e_c ?_
  | with_reducible refine r_asg ?_
  | ((with_reducible refine k_nm ?_); dsimp only [List.set_cons_zero, List.set_cons_succ])
  | with_reducible refine e_call ?_
  | with_reducible refine k_cl ?_
  | with_reducible refine e_ix ?_
  | with_reducible refine k_i1 ?_
  | with_reducible refine e_bin ?_
  | with_reducible refine k_b1 ?_
  | with_reducible refine e_bc ?_
  | with_reducible refine x_fld ?_
  | with_reducible refine r_exp ?_
  | with_reducible refine t_cmp ?_
  | with_reducible refine k_c1 ?_
  | with_reducible refine r_ite ?_)
local macro_rules | `(tactic| walk_at "st") => `(tactic| first
  | with_reducible refine r_one ?_
  | with_reducible refine r_sq ?_
  | with_reducible refine r_nil ?_
  | with_reducible refine r_asg ?_
  | with_reducible refine r_asl ?_
  | with_reducible refine r_exp ?_
  | with_reducible refine r_ret ?_
  | with_reducible refine r_ite ?_
  | with_reducible refine r_for ?_
  | with_reducible refine r_nx ?_
  | with_reducible refine r_pass ?_
  | with_reducible refine r_brk ?_
  | with_reducible refine r_cnt ?_
  | with_reducible refine r_retN ?_
  | ((with_reducible refine r_aug ?_); refine k_ag ?_)
  | ((with_reducible refine k_nm ?_); dsimp only [List.set_cons_zero, List.set_cons_succ])
  | ((with_reducible refine g_nm ?_); dsimp only [List.set_cons_zero, List.set_cons_succ])
  | ((with_reducible refine g_cons_nm ?_); dsimp only [List.set_cons_zero, List.set_cons_succ])
  | with_reducible refine g_cons ?_
  | with_reducible refine g_nil ?_
  | with_reducible refine g_sub ?_
  | with_reducible refine k_sub ?_
  | with_reducible refine k_tg ?_
  | ((with_reducible refine e_v ?_); refine k_v ?_)
  | with_reducible refine e_c ?_
  | with_reducible refine e_ty ?_
  | with_reducible refine e_bin ?_
  | with_reducible refine k_b1 ?_
  | with_reducible refine o_add ?_
  | with_reducible refine o_sub ?_
  | with_reducible refine o_and ?_
  | with_reducible refine o_or ?_
  | with_reducible refine o_xor ?_
  | with_reducible refine e_neg ?_
  | with_reducible refine k_neg ?_
  | with_reducible refine e_cmp ?_
  | with_reducible refine k_c1 ?_
  | with_reducible refine k_bl ?_
  | with_reducible refine c_eq ?_
  | with_reducible refine c_ne ?_
  | with_reducible refine c_lt ?_
  | with_reducible refine c_le ?_
  | with_reducible refine c_gt ?_
  | with_reducible refine c_ge ?_
  | with_reducible refine c_eqs ?_
  | with_reducible refine c_nes ?_
  | with_reducible refine c_eqb ?_
  | with_reducible refine c_neb ?_
  | with_reducible refine c_isB ?_
  | with_reducible refine c_isnB ?_
  | with_reducible refine c_isN ?_
  | with_reducible refine c_isnN ?_
  | with_reducible refine e_and ?_
  | with_reducible refine e_or ?_
  | with_reducible refine e_not ?_
  | with_reducible refine e_ite ?_
  | with_reducible refine e_tup ?_
  | with_reducible refine e_lst ?_
  | with_reducible refine e_ix ?_
  | with_reducible refine k_i1 ?_
  | with_reducible refine e_call ?_
  | with_reducible refine k_cl ?_
  | with_reducible refine e_bc ?_
  | with_reducible refine e_bm ?_
  | with_reducible refine e_lc ?_
  | with_reducible refine x_fld ?_
  | with_reducible refine r_fld ?_
  | with_reducible refine k_fs ?_
  | with_reducible refine e_meth ?_
  | with_reducible refine k_mc ?_
  | with_reducible refine e_mk ?_
  | with_reducible refine r_par ?_
  | ((with_reducible refine k_pr ?_); dsimp only [List.set_cons_zero, List.set_cons_succ])
  | with_reducible refine r_par3 ?_
  | ((with_reducible refine k_pr3 ?_); dsimp only [List.set_cons_zero, List.set_cons_succ])
  | (with_reducible refine e_gI (by assumption) ?_)
  | with_reducible refine e_d0 ?_
  | with_reducible refine e_dT0 ?_
  | with_reducible refine a_nil ?_
  | with_reducible refine a_cons ?_
  | with_reducible refine k_as ?_
  | with_reducible refine k_cn ?_
  | with_reducible refine f_int ?_
  | with_reducible refine f_intb ?_
  | with_reducible refine f_abs ?_
  | with_reducible refine f_max ?_
  | with_reducible refine f_min ?_
  | with_reducible refine t_tr ?_
  | with_reducible refine k_trb ?_
  | with_reducible refine k_tri ?_
  | with_reducible refine k_trn ?_
  | with_reducible refine t_cmp ?_
  | with_reducible refine t_and ?_
  | with_reducible refine t_or ?_
  | with_reducible refine t_not ?_
  | with_reducible refine kif_nt ?_
  | with_reducible refine kif_nf ?_
  | with_reducible refine kto_t ?_
  | with_reducible refine kto_f ?_
  | with_reducible refine kto_nt ?_
  | with_reducible refine kto_nf ?_
  | with_reducible refine kta_t ?_
  | with_reducible refine kta_f ?_
  | with_reducible refine kta_nt ?_
  | with_reducible refine kta_nf ?_
  | with_reducible refine ktn_t ?_
  | with_reducible refine ktn_f ?_
  | with_reducible refine kan_t ?_
  | with_reducible refine kan_f ?_
  | with_reducible refine kor_t ?_
  | with_reducible refine kor_f ?_
  | with_reducible refine kix_t ?_
  | with_reducible refine kix_f ?_
  | with_reducible refine k_tn ?_
  | with_reducible refine k_aug_add ?_
  | with_reducible refine k_aug_sub ?_
  | with_reducible refine q_rng1 ?_
  | with_reducible refine q_lst ?_
  | with_reducible refine q_tup ?_
  | with_reducible refine kif_t ?_
  | with_reducible refine kif_f ?_)
local macro_rules | `(tactic| walk_at "go") => `(tactic| repeat first | walk_at "stc" | walk_at "st")
local macro_rules | `(tactic| walk_at "st2") => `(tactic| first
  | walk_at "st"
  | with_reducible refine e_slc ?_
  | with_reducible refine k_sa ?_
  | with_reducible refine k_sb ?_
  | with_reducible refine p_no ?_
  | with_reducible refine p_so ?_
  | with_reducible refine k_pa ?_
  | with_reducible refine q_enm ?_
  | with_reducible refine q_zip ?_
  | with_reducible refine q_rvs ?_
  | with_reducible refine e_chn ?_
  | with_reducible refine t_chn ?_
  | with_reducible refine k_h1 ?_
  | with_reducible refine k_h2 ?_)
local macro_rules | `(tactic| walk_at "g2") => `(tactic| repeat first | walk_at "stc" | walk_at "st2")
local macro_rules | `(tactic| walk_at "st3") => `(tactic| first
  | with_reducible refine c_eqT ?_
  | with_reducible refine c_neT ?_
  | walk_at "st2"
  | with_reducible refine c_inS ?_
  | with_reducible refine c_niS ?_
  | with_reducible refine e_callk ?_
  | with_reducible refine k_k1 ?_
  | ((with_reducible refine k_k2 rfl ?_); dsimp only [List.cons_append, List.nil_append])
  | with_reducible refine e_bits ?_
  | with_reducible refine e_rev ?_
  | with_reducible refine k_bits ?_
  | with_reducible refine q_rng3 ?_
  | with_reducible refine q_txt ?_
  | with_reducible refine q_zipS ?_
  | with_reducible refine k_zs ?_
  | with_reducible refine k_tx ?_
  | with_reducible refine k_mS rfl ?_)
local macro_rules | `(tactic| walk_at "g3") => `(tactic| repeat first | walk_at "stc" | walk_at "st3")
local macro_rules | `(tactic| walk_at "st4") => `(tactic| first
  | with_reducible refine c_isTT ?_
  | with_reducible refine c_isFF ?_
  | with_reducible refine c_isnTT ?_
  | with_reducible refine c_isnFF ?_
  | with_reducible refine c_eqR ?_
  | with_reducible refine c_neR ?_
  | with_reducible refine c_eqsR ?_
  | with_reducible refine c_nesR ?_
  | walk_at "st3"
  | with_reducible refine q_rng2a ?_
  | with_reducible refine k_r2a ?_
  | with_reducible refine f_int0 ?_
  | with_reducible refine f_int1 ?_)
local macro_rules | `(tactic| walk_at "g4") => `(tactic| repeat first | walk_at "stc" | walk_at "st4")
local macro_rules | `(tactic| walk_at "st5") => `(tactic| first
  | walk_at "st4"
  | with_reducible refine e_chn3 ?_
  | with_reducible refine t_chn3 ?_
  | with_reducible refine k_g1 ?_
  | with_reducible refine k_g2 ?_
  | with_reducible refine e_dct ?_
  | with_reducible refine k_ps0 ?_
  | with_reducible refine k_ps1 ?_
  | with_reducible refine k_pk ?_
  | with_reducible refine k_pv ?_
  | with_reducible refine e_dget ?_
  | with_reducible refine k_ge2 ?_
  | with_reducible refine r_ddel ?_
  | with_reducible refine k_dl1 ?_
  | with_reducible refine r_rai ?_
  | with_reducible refine e_lrg1 ?_
  | with_reducible refine e_lenO ?_
  | with_reducible refine q_rvT ?_
  | with_reducible refine e_mxd ?_
  | with_reducible refine k_mx ?_
  | with_reducible refine q_enmT ?_)
local macro_rules | `(tactic| walk_at "g5") => `(tactic| repeat first | walk_at "stc" | walk_at "st5")
/-! ### the numbers of a script: _law_numbers, _law_cell -/
theorem numbers_spec {v : Ev} {n : Nat} {w : Wd} {x : V} {ms : List Int} {base many : Int} {Q : VK} {E : XK} (dx : Dv w x (.list (ms.map .int))) (hms : ms.length ≤ 1000) (b0 : 0 < base) (b1 : base < 1000000) (m0 : 0 ≤ many) (m1 : many < 1000000)
    (q : ∀ w' y (ns : List Int), Ex [] w w' → Dv w' y (.list (ns.map .int)) → (ns.length : Int) = many → (∀ i ∈ ns, 0 ≤ i ∧ i < base) → Q y w'.H) : spOf v D (n + 1) i_law_numbers [x, .int base, .int many] w.H Q E := by
  have hlog : base.natAbs.log2 < 9000 := log_small' (by omega) (by omega)
  obtain ⟨a, rfl, sa, ha⟩ := dx.ints
  refine in_law_numbers ?_
  unfold b_law_numbers
  walk_at "g2"
  refine k_lstO (by simp) fun w1 p e1 hp o1 => ?_
  walk_at "g2"
  refine k_scD (dx.ex e1) fun w2 y e2 dy => ?_
  rw [cutD_map] at dy
  generalize hks : cutD ms none (some 63) = ks at dy
  have hkl : ks.length ≤ 1000 := by rw [← hks]; exact Nat.le_trans cut_len hms
  refine k_for_D dy (fun i σ w' => ∃ seed a5 a6 a7 a8 cs, σ = [some (.ref a), some (.int base), some (.int many), some (.ref p), some (.int seed), a5, a6, a7, a8] ∧ Ex [] w w' ∧ (∃ T, Ex T w2 w') ∧ Op w' p (.lst (cs.map V.int)) ∧ cs.length ≤ 60 * i ∧ ∀ c ∈ cs, 0 ≤ c ∧ c < base) (fun i σ w' h => by obtain ⟨_, _, _, _, _, _, _, _, h, _⟩ := h; exact h)
    ⟨7, _, _, _, _, [], rfl, e1.t0 e2, ⟨[], Ex.refl _⟩, o1.ex e2 (by simp), by simp, by simp⟩ ?_ ?_
  · rintro i d z σ w' hd dz ⟨seed, a5, a6, a7, a8, cs, rfl, E', ⟨T, ET⟩, o', hcl, hcs⟩
    rw [List.getElem?_map] at hd
    obtain ⟨cell, hcell, rfl⟩ := Option.map_eq_some_iff.mp hd
    have hik : i < ks.length := by
      rcases Nat.lt_or_ge i ks.length with h | h
      · exact h
      · rw [List.getElem?_eq_none h] at hcell; cases hcell
    obtain rfl := dz.of_int
    walk_at "g2"
    refine o_mul (.inr ⟨by decide, by decide⟩) ?_
    walk_at "g2"
    refine o_mod (by decide) ?_
    walk_at "g2"
    refine k_r1 (by decide) (by decide) ?_
    refine k_for_n 60 rfl (fun j σ w'' => ∃ seed rest a8 cs, σ = [some (.ref a), some (.int base), some (.int many), some (.ref p), some (.int seed), some (.int cell), a6, some (.int rest), a8] ∧ Ex [] w w'' ∧ (∃ T, Ex T w2 w'') ∧ Op w'' p (.lst (cs.map V.int)) ∧ cs.length ≤ 60 * i + j ∧ ∀ c ∈ cs, 0 ≤ c ∧ c < base)
      ⟨_, _, _, cs, rfl, E', ⟨T, ET⟩, o', by omega, hcs⟩ ?_ ?_
    · rintro j σ w'' hj ⟨seed, rest, a8, cs, rfl, E'', ⟨T, ET⟩, o'', hcl, hcs⟩
      walk_at "g2"
      refine k_m1 o''.h rfl ?_
      walk_at "g2"
      refine o_mod b0 ?_
      walk_at "g2"
      refine m_app o'' (by rw [List.length_map, sizeLine_eq]; omega) fun w3 e3 o3 => ?_
      have E3 := E''.tf e3 hp
      have ET3 : ∃ T, Ex T w2 w3 := ⟨T ++ [p], (ET.more (U := T ++ [p]) (fun b hb => List.mem_append_left _ hb) (by
        intro b hb
        rcases List.mem_append.mp hb with hb | hb
        · exact ET.op b hb
        · simp only [List.mem_singleton] at hb; subst hb; exact (o1.ex e2 (by simp)).n)).trans e3 (by simp)⟩
      have hcs3 : ∀ c ∈ cs ++ [rest % base], 0 ≤ c ∧ c < base := by
        intro c hc
        rcases List.mem_append.mp hc with hc | hc
        · exact hcs c hc
        · simp only [List.mem_singleton] at hc; subst hc
          exact ⟨Int.emod_nonneg _ (by omega), Int.emod_lt_of_pos _ b0⟩
      walk_at "g2"
      refine o_fdv b0 hlog ?_
      walk_at "g2"
      refine kif_d (fun _ => ?_) fun _ => ?_
      · walk_at "g2"
        exact k_is ⟨_, _, _, _, _, cs ++ [rest % base], rfl, E3, ET3, by simpa using o3, by simp; omega, hcs3⟩
      · walk_at "g2"
        exact k_is ⟨_, _, _, cs ++ [rest % base], rfl, E3, ET3, by simpa using o3, by simp; omega, hcs3⟩
    · rintro σ w'' ⟨seed, rest, a8, cs, rfl, E'', ET, o'', hcl, hcs⟩
      walk_at "g2"
      exact k_is ⟨_, _, _, _, _, cs, rfl, E'', ET, o'', by omega, hcs⟩
  · rintro σ w' ⟨seed, a5, a6, a7, a8, cs, rfl, E', _, o', hcl, hcs⟩
    rw [List.length_map] at hcl
    walk_at "g2"
    refine k_r1 (by omega) (by omega) ?_
    refine k_for_n many.toNat rfl (fun j σ w'' => ∃ seed a6 cs', σ = [some (.ref a), some (.int base), some (.int many), some (.ref p), some (.int seed), a5, a6, a7, a8] ∧ Ex [] w w'' ∧ Op w'' p (.lst (cs'.map V.int)) ∧ cs'.length = cs.length + j ∧ ∀ c ∈ cs', 0 ≤ c ∧ c < base)
      ⟨_, _, cs, rfl, E', o', by omega, hcs⟩ ?_ ?_
    · rintro j σ w'' hj ⟨seed, a6, cs', rfl, E'', o'', hcl', hcs'⟩
      walk_at "g2"
      refine o_mul (.inr ⟨by decide, by decide⟩) ?_
      walk_at "g2"
      refine o_mod (by decide) ?_
      walk_at "g2"
      refine k_m1 o''.h rfl ?_
      walk_at "g2"
      refine o_fdv (by decide) (by decide) ?_
      walk_at "g2"
      refine o_mod b0 ?_
      walk_at "g2"
      refine m_app o'' (by rw [List.length_map, sizeLine_eq]; omega) fun w3 e3 o3 => ?_
      walk_at "g2"
      refine k_is ⟨_, _, _, rfl, E''.tf e3 hp, (by rw [← List.map_singleton (f := V.int), ← List.map_append] at o3; exact o3), by simp; omega, ?_⟩
      intro c hc
      rcases List.mem_append.mp hc with hc | hc
      · exact hcs' c hc
      · simp only [List.mem_singleton] at hc; subst hc
        exact ⟨Int.emod_nonneg _ (by omega), Int.emod_lt_of_pos _ b0⟩
    · rintro σ w'' ⟨seed, a6, cs', rfl, E'', o'', hcl', hcs'⟩
      walk_at "g2"
      refine k_scO o''.h (Dvs.ints cs') fun w3 y3 e3 d3 => ?_
      have em : many = ((many.toNat : Nat) : Int) := by omega
      rw [cutD_map, em, cut_take] at d3
      exact q w3 y3 _ (E''.t0 e3) d3 (by rw [List.length_take]; omega) fun i hi => hcs' i (List.mem_of_mem_take hi)
theorem cell_spec {v : Ev} {n : Nat} {w : Wd} {a : Addr} {ns : List Int} {k : Int} {Q : VK} {E : XK} (hS : SqL v.K w.H a (ns.map V.int)) (k0 : 0 ≤ k) (q : ∀ r, Q (.int r) w.H) : spOf v D (n + 1) i_law_cell [.ref a, .int k] w.H Q E := by
  refine in_law_cell ?_
  unfold b_law_cell
  walk_at "g2"
  refine f_lenF hS ?_
  walk_at "g2"
  rw [List.length_map]
  refine kif_d (fun h => ?_) fun h => ?_
  · walk_at "g2"
    exact i_F (y := .int (ns.getD k.toNat 0)) hS k0 (by rw [List.getElem?_map, getD_some (z := 0) (by omega)]; rfl) (q _)
  · walk_at "g2"
    exact q _
/-! ### bits of numbers, sums -/
def bt (T : Int) (r : Nat) : Int := T / 2 ^ r % 2
theorem bt01 (T : Int) (r : Nat) : bt T r = 0 ∨ bt T r = 1 := by unfold bt; omega
def sumF (g : Nat → Int) : Nat → Int
  | 0 => 0
  | n + 1 => sumF g n + g n
theorem sumF_ext {g h : Nat → Int} : ∀ {n : Nat}, (∀ k, k < n → g k = h k) → sumF g n = sumF h n
  | 0, _ => rfl
  | n + 1, e => by
    show sumF g n + g n = sumF h n + h n
    rw [sumF_ext fun k hk => e k (by omega), e n (by omega)]
abbrev tab (f : Nat → Int) (n : Nat) : Int := sumF (fun k => f k * 2 ^ k) n
theorem tab_rng {f : Nat → Int} : ∀ {n : Nat}, (∀ k, k < n → f k = 0 ∨ f k = 1) → 0 ≤ tab f n ∧ tab f n < 2 ^ n
  | 0, _ => by simp [tab, sumF]
  | n + 1, h => by
    have ih := tab_rng (f := f) (n := n) fun k hk => h k (by omega)
    have e := h n (by omega)
    have hp : (0 : Int) < 2 ^ n := Int.pow_pos (by decide)
    show 0 ≤ tab f n + f n * 2 ^ n ∧ tab f n + f n * 2 ^ n < 2 ^ (n + 1)
    rw [Int.pow_succ]
    rcases e with e | e <;> rw [e] <;> omega
theorem p2 (c : Nat) : (1 : Int) * 2 ^ ((c : Nat) : Int).toNat = 2 ^ c := by rw [Int.one_mul, Int.toNat_natCast]
theorem p2I (x : Int) : (1 : Int) * 2 ^ x.toNat = 2 ^ x.toNat := Int.one_mul _
theorem band1 {x : Int} (h : 0 ≤ x) : Builtin.bitAnd x 1 = x % 2 := by
  have := Bits.bitAnd_mask (x := x) 1 h
  simpa using this
theorem ipow16 {c : Nat} (h : c ≤ 4) : (2 : Int) ^ c ≤ 16 ∧ 1 ≤ (2 : Int) ^ c := by
  have : c = 0 ∨ c = 1 ∨ c = 2 ∨ c = 3 ∨ c = 4 := by omega
  rcases this with rfl | rfl | rfl | rfl | rfl <;> decide
theorem getD_mem {ls : List Int} {k : Nat} (h : k < ls.length) : ls.getD k 0 ∈ ls := by
  rw [List.getD_eq_getElem?_getD, List.getElem?_eq_getElem h]; exact List.getElem_mem _
theorem ids_get {ls : List Int} {k : Nat} {x : V} (h : (ls.map V.int)[k]? = some x) : k < ls.length ∧ x = .int (ls.getD k 0) := by
  rw [List.getElem?_map] at h
  obtain ⟨i, hi, rfl⟩ := Option.map_eq_some_iff.mp h
  have hk : k < ls.length := by
    rcases Nat.lt_or_ge k ls.length with z | z
    · exact z
    · rw [List.getElem?_eq_none z] at hi; cases hi
  refine ⟨hk, ?_⟩
  rw [List.getD_eq_getElem?_getD, hi]; rfl
abbrev ids (xs : List Int) : PyData := .list (xs.map .int)
def Bs (vs : List Int) : Prop := ∀ x ∈ vs, x = 0 ∨ x = 1
theorem Bs.get {vs : List Int} (h : Bs vs) (k : Nat) : vs.getD k 0 = 0 ∨ vs.getD k 0 = 1 := by
  rw [List.getD_eq_getElem?_getD]
  cases e : vs[k]? with
  | none => exact .inl rfl
  | some x => exact h x (List.mem_of_getElem? e)
/-! ### netlists -/
structure Ce where
  t : Int
  p : Int
  ar : Int
  dl : List Int
abbrev ce0 : Ce := ⟨0, 0, 0, []⟩
/-- a cell stands -/
def Cel (C : Addr) (w : Wd) (x : V) (c : Ce) : Prop := ∃ a dx nm dl, x = .ref a ∧ w.S a ∧ w.H a = some (.ins C dx [("name", nm), ("table", .int c.t), ("pins", .int c.p), ("area", .int c.ar), ("delays", dl)]) ∧ Dv w dl (.tuple (c.dl.map .int))
theorem Cel.ex {C : Addr} {T : List Addr} {w w' : Wd} {x : V} {c : Ce} (e : Ex T w w') (h : Cel C w x c) : Cel C w' x c := by
  obtain ⟨a, dx, nm, dl, rfl, s, h, d⟩ := h
  exact ⟨a, dx, nm, dl, rfl, e.sub _ s, e.keepL s h, d.ex e⟩
def Cels (C : Addr) (w : Wd) (xs : List V) (cs : List Ce) : Prop := xs.length = cs.length ∧ ∀ i x, xs[i]? = some x → Cel C w x (cs.getD i ce0)
theorem Cels.ex {C : Addr} {T : List Addr} {w w' : Wd} {xs : List V} {cs : List Ce} (e : Ex T w w') (h : Cels C w xs cs) : Cels C w' xs cs := ⟨h.1, fun i x hx => (h.2 i x hx).ex e⟩
structure NL where
  cells : List Ce
  su : Int
  fd : Int
  inp : Int
  regs : List (Int × Int)
  gates : List (Int × List Int)
  outs : List Int
abbrev dg (g : Int × List Int) : PyData := .tuple [.int g.1, .tuple (g.2.map .int)]
abbrev g0 : Int × List Int := (0, [])
abbrev r0 : Int × Int := (0, 0)
structure NA where
  dN : Addr
  lb : Addr
  dL : Addr
  lc : Addr
  xs : List V
  rg : V
  gt : V
  ou : V
/-- a netlist stands -/
structure Nt (v : Ev) (w : Wd) (a : Addr) (A : NA) (N : NL) : Prop where
  s : w.S a
  h : w.H a = some (.ins (v.cls c_Netlist) A.dN [("library", .ref A.lb), ("inputs", .int N.inp), ("registers", A.rg), ("gates", A.gt), ("outputs", A.ou)])
  sl : w.S A.lb
  hl : w.H A.lb = some (.ins (v.cls c_Library) A.dL [("cells", .ref A.lc), ("setup", .int N.su), ("flop_delay", .int N.fd)])
  sc : w.S A.lc
  hc : w.H A.lc = some (.lst A.xs)
  cs : Cels (v.cls c_Cell) w A.xs N.cells
  rg : Dv w A.rg (.list (N.regs.map dp))
  gt : Dv w A.gt (.list (N.gates.map dg))
  ou : Dv w A.ou (ids N.outs)
theorem Nt.ex {v : Ev} {T : List Addr} {w w' : Wd} {a : Addr} {A : NA} {N : NL} (e : Ex T w w') (h : Nt v w a A N) : Nt v w' a A N :=
  ⟨e.sub _ h.s, e.keepL h.s h.h, e.sub _ h.sl, e.keepL h.sl h.hl, e.sub _ h.sc, e.keepL h.sc h.hc, h.cs.ex e, h.rg.ex e, h.gt.ex e, h.ou.ex e⟩
/-- the numbers fit -/
structure Vd (N : NL) : Prop where
  i0 : 0 ≤ N.inp
  i1 : N.inp ≤ 10
  rl : N.regs.length ≤ 10
  gl : N.gates.length ≤ 100
  ol : N.outs.length ≤ 10
  cl : N.cells.length ≤ 100
  su0 : 1 ≤ N.su ∧ N.su ≤ 4
  fd0 : 0 ≤ N.fd ∧ N.fd ≤ 5
  ct : ∀ c ∈ N.cells, 0 ≤ c.t ∧ 0 ≤ c.ar ∧ c.ar < 1000 ∧ c.t < 2 ^ 2 ^ c.p.toNat
  cp : ∀ c ∈ N.cells, (c.dl.length : Int) = c.p ∧ 1 ≤ c.p ∧ c.p ≤ 4 ∧ ∀ d ∈ c.dl, 1 ≤ d ∧ d ≤ 7
  rg : ∀ p ∈ N.regs, 0 ≤ p.1 ∧ p.1 < 2 + N.inp + N.regs.length + N.gates.length ∧ (p.2 = 0 ∨ p.2 = 1)
  gt : ∀ k, k < N.gates.length → 0 ≤ (N.gates.getD k g0).1 ∧ (N.gates.getD k g0).1 < N.cells.length ∧ (N.gates.getD k g0).2.length ≤ 4 ∧ ∀ n ∈ (N.gates.getD k g0).2, 0 ≤ n ∧ n < 2 + N.inp + N.regs.length + k
  gp : ∀ k, k < N.gates.length → ((N.gates.getD k g0).2.length : Int) = (N.cells.getD (N.gates.getD k g0).1.toNat ce0).p
  ou : ∀ n ∈ N.outs, 0 ≤ n ∧ n < 2 + N.inp + N.regs.length + N.gates.length
def pinv (vs : List Int) (pins : List Int) : List Int := pins.map fun n => vs.getD n.toNat 0
def pout (t : Int) (bs : List Int) : Int := bt t (tab (fun k => bs.getD k 0) bs.length).toNat
def gval (cs : List Ce) (vs : List Int) (g : Int × List Int) : Int := pout (cs.getD g.1.toNat ce0).t (pinv vs g.2)
def nvals (cs : List Ce) (base : List Int) (gs : List (Int × List Int)) : List Int := gs.foldl (fun vs g => vs ++ [gval cs vs g]) base
theorem nvals_snoc (cs : List Ce) (base : List Int) (gs : List (Int × List Int)) (g : Int × List Int) : nvals cs base (gs ++ [g]) = nvals cs base gs ++ [gval cs (nvals cs base gs) g] := by
  unfold nvals; rw [List.foldl_append]; rfl
theorem nvals_ok (cs : List Ce) {base : List Int} (hb : Bs base) : ∀ gs : List (Int × List Int), Bs (nvals cs base gs) ∧ (nvals cs base gs).length = base.length + gs.length := by
  intro gs
  induction gs generalizing base with
  | nil => exact ⟨hb, rfl⟩
  | cons g r ih =>
    have : Bs (base ++ [gval cs base g]) := by
      intro x hx
      rcases List.mem_append.mp hx with hx | hx
      · exact hb x hx
      · simp only [List.mem_singleton] at hx; rw [hx]; exact bt01 _ _
    have h := ih this
    refine ⟨h.1, ?_⟩
    show (nvals cs (base ++ [gval cs base g]) r).length = _
    rw [h.2]; simp; omega
theorem take_snoc {α : Type} {z : α} {l : List α} {i : Nat} (h : i < l.length) : l.take (i + 1) = l.take i ++ [l.getD i z] := by
  rw [List.take_add_one, List.getD_eq_getElem?_getD, List.getElem?_eq_getElem h]; rfl
theorem pinv_bits {vs : List Int} (h : Bs vs) (pins : List Int) : Bs (pinv vs pins) := by
  intro x hx
  obtain ⟨n, _, rfl⟩ := List.mem_map.mp hx
  exact h.get _
section
variable {v : Ev} {n : Nat} {w : Wd} {Q : VK} {E : XK} {a : Addr} {A : NA} {N : NL}
theorem g_dp {x : V} {p : Int × Int} {g1 g2 : Tg} {W : WX} {σ : St} {P : St → Hp → Prop} (hx : Dv w x (dp p)) (h : KTs v (.cons g1 (.cons g2 .nil)) W P [.int p.1, .int p.2] σ w.H) : Tg.den v (.tup (.cons g1 (.cons g2 .nil))) W x σ w.H P := g_ii hx h
/-- a cell of the library -/
theorem cell_at {i : Int} {K : PySem.W.Frag} (h : Nt v w a A N) (h0 : 0 ≤ i) (h1 : i < N.cells.length) (q : ∀ x, Cel (v.cls c_Cell) w x (N.cells.getD i.toNat ce0) → Q x w.H) : KI2 K (.ref A.lc) Q (.int i) w.H := by
  obtain ⟨x, hx⟩ := get_of (xs := A.xs) (i := i.toNat) (by rw [h.cs.1]; omega)
  exact i_O h.hc h0 hx (q x (h.cs.2 _ _ hx))
theorem gate_len (VV : Vd N) {base : List Int} (hbl : (base.length : Int) = 2 + N.inp + N.regs.length) (hb : Bs base) {i : Nat} (hi : i < N.gates.length) : ((nvals N.cells base (N.gates.take i)).length : Int) = 2 + N.inp + N.regs.length + i := by
  rw [(nvals_ok N.cells hb _).2, List.length_take]; omega
end
def allv (N : NL) (row st : List Int) : List Int := nvals N.cells ([0, 1] ++ row ++ st) N.gates
def outv (N : NL) (vs : List Int) : List Int := N.outs.map fun n => vs.getD n.toNat 0
def nxtv (N : NL) (vs : List Int) : List Int := N.regs.map fun p => vs.getD p.1.toNat 0
theorem base_bits {row st : List Int} (br : Bs row) (bs : Bs st) : Bs ([0, 1] ++ row ++ st) := by
  intro z hz
  rcases List.mem_append.mp hz with hz | hz
  · rcases List.mem_append.mp hz with hz | hz
    · simp at hz; exact hz
    · exact br z hz
  · exact bs z hz
theorem allv_ok {N : NL} {row st : List Int} (br : Bs row) (bs : Bs st) (hlr : (row.length : Int) = N.inp) (hls : st.length = N.regs.length) : Bs (allv N row st) ∧ ((allv N row st).length : Int) = 2 + N.inp + N.regs.length + N.gates.length := by
  have h := nvals_ok N.cells (base_bits br bs) N.gates
  refine ⟨h.1, ?_⟩
  unfold allv
  rw [h.2]; simp; omega
theorem outv_bits {N : NL} {vs : List Int} (h : Bs vs) : Bs (outv N vs) := by
  intro x hx
  obtain ⟨n, _, rfl⟩ := List.mem_map.mp hx
  exact h.get _
theorem nxtv_bits {N : NL} {vs : List Int} (h : Bs vs) : Bs (nxtv N vs) := by
  intro x hx
  obtain ⟨n, _, rfl⟩ := List.mem_map.mp hx
  exact h.get _
def ini (N : NL) : List Int := N.regs.map (·.2)
theorem ini_bits {N : NL} (VV : Vd N) : Bs (ini N) := by
  intro x hx
  obtain ⟨p, hp, rfl⟩ := List.mem_map.mp hx
  exact (VV.rg p hp).2.2
section
variable {v : Ev} {n : Nat} {w : Wd} {Q : VK} {E : XK} {a : Addr} {A : NA} {N : NL}
theorem init_state_spec (h : Nt v w a A N) (VV : Vd N) (q : ∀ w' p, Ex [] w w' → w.H p = none → Op w' p (.lst ((N.regs.map (·.2)).map V.int)) → Q (.ref p) w'.H) : spOf v D (n + 1) i_Netlist_initial_state [.ref a] w.H Q E := by
  have hr := VV.rl
  refine in_Netlist_initial_state ?_
  unfold b_Netlist_initial_state
  walk_at "g2"
  refine k_flH h.h rfl ?_
  refine k_lc_mk h.rg (fun i => .int (N.regs.getD i r0).2) (by rw [List.length_map]; omega) (fun i d y w' R hd e dy hR => ?_) fun w' p zs e hp o r => ?_
  · obtain ⟨hi, rfl⟩ := get_map (z := r0) hd
    refine g_dp dy ?_
    refine g_cons_nm ?_
    refine g_cons_nm ?_
    refine g_nil ?_
    refine k_mk1 rfl ?_
    walk_at "g2"
    exact hR w' _ (Ex.refl _) (.int _)
  · rw [List.length_map] at r
    have := r.ints_of
    rw [range_map (z := r0) (fun p : Int × Int => p.2)] at this
    rw [this] at o
    exact q w' p e hp o
end
section
variable {v : Ev} {n : Nat} {w : Wd} {Q : VK} {E : XK}
theorem f_strI {K : PySem.W.Frag} {H : Hp} {i : Int} (hi : i.natAbs < 10 ^ 18) (q : (Str.ofString (toString i)).length ≤ 19 → Q (.str (toString i)) H) : KBf K .str Q [.int i] H := by
  refine ⟨?_, q ?_⟩
  · have : i.natAbs < 2 ^ 60 := Nat.lt_of_lt_of_le hi (by decide)
    rcases Nat.eq_zero_or_pos i.natAbs with e | e
    · rw [e]; decide
    · exact Nat.lt_of_lt_of_le ((Nat.log2_lt (by omega)).mpr this) (by decide)
  · rw [PySem.ofString_length]
    exact int_text_length_le10 (by decide) hi
theorem cell_init_spec {g dx : Addr} {nm dl : V} {t p ar : Int} (o : Op w g (.ins (v.cls c_Cell) dx [])) (q : ∀ w', Ex [g] w w' → Op w' g (.ins (v.cls c_Cell) dx [("name", nm), ("table", .int t), ("pins", .int p), ("area", .int ar), ("delays", dl)]) → Q .non w'.H) :
    spOf v D (n + 1) i_Cell_init [.ref g, nm, .int t, .int p, .int ar, dl] w.H Q E := by
  refine in_Cell_init ?_
  unfold b_Cell_init
  walk_at "g2"
  refine k_ft o (by simp) (gs := [("name", nm)]) rfl fun w1 e1 o1 => ?_
  walk_at "g2"
  refine k_ft o1 (by simp) (gs := [("name", nm), ("table", .int t)]) (by rfl) fun w2 e2 o2 => ?_
  walk_at "g2"
  refine k_ft o2 (by simp) (gs := [("name", nm), ("table", .int t), ("pins", .int p)]) (by rfl) fun w3 e3 o3 => ?_
  walk_at "g2"
  refine k_ft o3 (by simp) (gs := [("name", nm), ("table", .int t), ("pins", .int p), ("area", .int ar)]) (by rfl) fun w4 e4 o4 => ?_
  walk_at "g2"
  refine k_ft o4 (by simp) (gs := [("name", nm), ("table", .int t), ("pins", .int p), ("area", .int ar), ("delays", dl)]) (by rfl) fun w5 e5 o5 => ?_
  walk_at "g2"
  exact q w5 ((((e1.tt e2).tt e3).tt e4).tt e5) o5
theorem lst_ne {w : Wd} {a g : Addr} {xs : List V} {C dx : Addr} {fs : List (Str × V)} (h : w.H a = some (.lst xs)) (o : Op w g (.ins C dx fs)) : a ≠ g := fun e => by
  subst e; have := o.h; rw [h] at this; cases this
theorem library_init_spec {g dx lc0 : Addr} {xs : List V} {su fd : V} (o : Op w g (.ins (v.cls c_Library) dx [])) (hc : w.H lc0 = some (.lst xs))
    (q : ∀ w' lc, Ex [g] w w' → Op w' g (.ins (v.cls c_Library) dx [("cells", .ref lc), ("setup", su), ("flop_delay", fd)]) → w.H lc = none → Op w' lc (.lst xs) → Q .non w'.H) :
    spOf v D (n + 1) i_Library_init [.ref g, .ref lc0, su, fd] w.H Q E := by
  refine in_Library_init ?_
  unfold b_Library_init
  walk_at "g2"
  refine f_lstO hc ?_
  refine new_op fun w0 lc e0 hlc o0 => ?_
  have gl := o.ne hlc
  walk_at "g2"
  refine k_ft (o.ex e0 (by simp)) (by simp) (gs := [("cells", .ref lc)]) rfl fun w1 e1 o1 => ?_
  walk_at "g2"
  refine k_ft o1 (by simp) (gs := [("cells", .ref lc), ("setup", su)]) (by rfl) fun w2 e2 o2 => ?_
  walk_at "g2"
  refine k_ft o2 (by simp) (gs := [("cells", .ref lc), ("setup", su), ("flop_delay", fd)]) (by rfl) fun w3 e3 o3 => ?_
  walk_at "g2"
  have E3 : Ex [g] w0 w3 := (e1.tt e2).tt e3
  exact q w3 lc ((e0.more (by simp) (by simpa using o.n)).tt E3) o3 hlc (o0.ex E3 (by simpa using Ne.symm gl))
theorem netlist_init_spec {g dx lb ar ag ao : Addr} {inp : Int} {regs : List (Int × Int)} {gates : List (Int × List Int)} {outs : List Int} {xr xg xo : List V} (o : Op w g (.ins (v.cls c_Netlist) dx []))
    (hr : w.H ar = some (.lst xr)) (dr : Dvs w xr (regs.map dp)) (hg : w.H ag = some (.lst xg)) (dg' : Dvs w xg (gates.map dg)) (ho : w.H ao = some (.lst xo)) (do' : Dvs w xo (outs.map .int))
    (q : ∀ w' rg gt ou, Ex [g] w w' → Op w' g (.ins (v.cls c_Netlist) dx [("library", .ref lb), ("inputs", .int inp), ("registers", rg), ("gates", gt), ("outputs", ou)]) → Dv w' rg (.list (regs.map dp)) → Dv w' gt (.list (gates.map dg)) → Dv w' ou (ids outs) → Q .non w'.H) :
    spOf v D (n + 1) i_Netlist_init [.ref g, .ref lb, .int inp, .ref ar, .ref ag, .ref ao] w.H Q E := by
  have nr := lst_ne hr o
  have ng := lst_ne hg o
  have no := lst_ne ho o
  refine in_Netlist_init ?_
  unfold b_Netlist_init
  walk_at "g2"
  refine k_ft o (by simp) (gs := [("library", .ref lb)]) rfl fun w1 e1 o1 => ?_
  walk_at "g2"
  refine k_ft o1 (by simp) (gs := [("library", .ref lb), ("inputs", .int inp)]) (by rfl) fun w2 e2 o2 => ?_
  have E2 : Ex [g] w w2 := e1.tt e2
  walk_at "g2"
  refine f_lstO (E2.kp _ _ hr (by simpa using nr)) (new_lst (dr.ex E2) fun w3 rg e3 d3 => ?_)
  walk_at "g2"
  refine k_ft (o2.ex e3 (by simp)) (by simp) (gs := [("library", .ref lb), ("inputs", .int inp), ("registers", rg)]) (by rfl) fun w4 e4 o4 => ?_
  have E4 : Ex [g] w w4 := (E2.t0 e3).tt e4
  walk_at "g2"
  refine f_lstO (E4.kp _ _ hg (by simpa using ng)) (new_lst (dg'.ex E4) fun w5 gt e5 d5 => ?_)
  walk_at "g2"
  refine k_ft (o4.ex e5 (by simp)) (by simp) (gs := [("library", .ref lb), ("inputs", .int inp), ("registers", rg), ("gates", gt)]) (by rfl) fun w6 e6 o6 => ?_
  have E6 : Ex [g] w w6 := (E4.t0 e5).tt e6
  walk_at "g2"
  refine f_lstO (E6.kp _ _ ho (by simpa using no)) (new_lst (do'.ex E6) fun w7 ou e7 d7 => ?_)
  walk_at "g2"
  refine k_ft (o6.ex e7 (by simp)) (by simp) (gs := [("library", .ref lb), ("inputs", .int inp), ("registers", rg), ("gates", gt), ("outputs", ou)]) (by rfl) fun w8 e8 o8 => ?_
  walk_at "g2"
  exact q w8 rg gt ou ((E6.t0 e7).tt e8) o8 (((((d3.ex e4).ex e5).ex e6).ex e7).ex e8) (((d5.ex e6).ex e7).ex e8) (d7.ex e8)
theorem Cels.snoc {C : Addr} {xs : List V} {cs : List Ce} {x : V} {c : Ce} (h : Cels C w xs cs) (hx : Cel C w x c) : Cels C w (xs ++ [x]) (cs ++ [c]) := by
  refine ⟨by simp [h.1], fun i y hy => ?_⟩
  rcases Nat.lt_or_ge i xs.length with hi | hi
  · rw [List.getElem?_append_left hi] at hy
    have := h.2 i y hy
    rw [List.getD_eq_getElem?_getD, List.getElem?_append_left (by rw [← h.1]; exact hi), ← List.getD_eq_getElem?_getD]
    exact this
  · rw [List.getElem?_append_right hi] at hy
    have e0 : i - xs.length = 0 := by
      rcases Nat.eq_zero_or_pos (i - xs.length) with e | e
      · exact e
      · rw [List.getElem?_eq_none (by simp; omega)] at hy; cases hy
    rw [e0] at hy
    simp at hy
    subst hy
    rw [List.getD_eq_getElem?_getD, List.getElem?_append_right (by rw [← h.1]; exact hi), ← h.1, e0]
    exact hx
theorem pow64 {p : Nat} (h : p ≤ 4) : (1 : Int) ≤ 2 ^ p ∧ (2 : Int) ^ p ≤ 16 := ⟨(ipow16 h).2, (ipow16 h).1⟩
theorem cells_spec {xN : V} {ms : List Int} {c : Nat} (dN : Dv w xN (ids ms)) (hl : 20 ≤ ms.length) (hm : ∀ i ∈ ms, 0 ≤ i ∧ i < 256) (hc : c ≤ 3)
    (q : ∀ w' p xs cs, Ex [] w w' → w.H p = none → Op w' p (.lst xs) → Cels (v.cls c_Cell) w' xs cs → cs.length = c → (∀ c ∈ cs, (0 ≤ c.t ∧ 0 ≤ c.ar ∧ c.ar < 1000 ∧ c.t < 2 ^ 2 ^ c.p.toNat) ∧ (c.dl.length : Int) = c.p ∧ 1 ≤ c.p ∧ c.p ≤ 4 ∧ ∀ d ∈ c.dl, 1 ≤ d ∧ d ≤ 7) → Q (.ref p) w'.H) :
    spOf v D (n + 2) i_law_cells [xN, .int (c : Nat)] w.H Q E := by
  refine in_law_cells ?_
  unfold b_law_cells
  walk_at "g2"
  refine k_lstO (by simp) fun w1 p e1 hp o1 => ?_
  walk_at "g2"
  refine k_r1 (by omega) (by omega) ?_
  refine k_for_n c (by omega) (fun i σ w' => ∃ a3 a4 a5 a6 a7 xs cs, σ = [some xN, some (.int (c : Nat)), some (.ref p), a3, a4, a5, a6, a7] ∧ Ex [] w w' ∧ Op w' p (.lst xs) ∧ Cels (v.cls c_Cell) w' xs cs ∧ cs.length = i ∧ ∀ c ∈ cs, (0 ≤ c.t ∧ 0 ≤ c.ar ∧ c.ar < 1000 ∧ c.t < 2 ^ 2 ^ c.p.toNat) ∧ (c.dl.length : Int) = c.p ∧ 1 ≤ c.p ∧ c.p ≤ 4 ∧ ∀ d ∈ c.dl, 1 ≤ d ∧ d ≤ 7)
    ⟨_, _, _, _, _, [], [], rfl, e1, o1, ⟨rfl, fun i x h => by simp at h⟩, rfl, by simp⟩ ?_ ?_
  · rintro i σ w' hi ⟨a3, a4, a5, a6, a7, xs, cs, rfl, E', o', hcs, hcl, hcp⟩
    have dN' := dN.ex E'
    have get := fun (j : Int) (h0 : 0 ≤ j) (h1 : j < 20) => hm _ (getD_mem (ls := ms) (k := j.toNat) (by omega))
    walk_at "g2"
    refine o_mul (.inl ⟨by decide, by decide⟩) ?_
    refine i_G dN' (by omega) (by omega) ?_
    have g1 := get (3 * (i : Int)) (by omega) (by omega)
    generalize ms.getD (3 * (i : Int)).toNat 0 = m1 at g1
    walk_at "g2"
    refine o_mod (by decide) ?_
    walk_at "g2"
    refine o_mul (.inl ⟨by decide, by decide⟩) ?_
    walk_at "g2"
    refine i_G dN' (by omega) (by omega) ?_
    have g2 := get (3 * (i : Int) + 1) (by omega) (by omega)
    generalize ms.getD (3 * (i : Int) + 1).toNat 0 = m2 at g2
    walk_at "g2"
    refine o_mul (.inl ⟨by decide, by decide⟩) ?_
    walk_at "g2"
    refine i_G dN' (by omega) (by omega) ?_
    have g3 := get (3 * (i : Int) + 2) (by omega) (by omega)
    generalize hm3 : ms.getD (3 * (i : Int) + 2).toNat 0 = m3 at g3
    walk_at "g2"
    refine o_mul (.inl ⟨by decide, by decide⟩) ?_
    refine i_G dN' (by omega) (by omega) ?_
    have g4 := get (3 * (i : Int)) (by omega) (by omega)
    generalize ms.getD (3 * (i : Int)).toNat 0 = m4 at g4
    refine o_mul (.inl ⟨by decide, by decide⟩) ?_
    walk_at "g2"
    refine o_mul (.inl ⟨by decide, by decide⟩) ?_
    walk_at "g2"
    have hp0 : 0 ≤ m1 % 4 := Int.emod_nonneg _ (by decide)
    have hp1 : m1 % 4 < 4 := Int.emod_lt_of_pos _ (by decide)
    obtain ⟨pn, epn⟩ := Int.eq_ofNat_of_zero_le (show 0 ≤ 1 + m1 % 4 by omega)
    rw [epn]
    have hpn : 1 ≤ pn ∧ pn ≤ 4 := by omega
    have hpw := ipow16 (c := pn) (by omega)
    refine o_shl (.inl ⟨by omega, by omega, by decide⟩) ?_
    rw [p2]
    refine o_shl (.inl ⟨by omega, by omega, by decide⟩) ?_
    rw [p2I]
    have hpp : (0 : Int) < 2 ^ ((2 : Int) ^ pn).toNat := Int.pow_pos (by decide)
    refine o_mod hpp ?_
    have ht0 : ∀ x : Int, 0 ≤ x % 2 ^ ((2 : Int) ^ pn).toNat := fun x => Int.emod_nonneg _ (by omega)
    have ht := ht0 (m2 + 256 * (m3 + 3 * m4))
    have ht1 : (m2 + 256 * (m3 + 3 * m4)) % 2 ^ ((2 : Int) ^ pn).toNat < 2 ^ 2 ^ pn := by
      have := Int.emod_lt_of_pos (m2 + 256 * (m3 + 3 * m4)) hpp
      rwa [show ((2 : Int) ^ pn).toNat = 2 ^ pn from by rw [show ((2 : Int) ^ pn) = ((2 ^ pn : Nat) : Int) from by rw [Int.natCast_pow]; rfl, Int.toNat_natCast]] at this
    generalize (m2 + 256 * (m3 + 3 * m4)) % 2 ^ ((2 : Int) ^ pn).toNat = t at ht ht1
    walk_at "g2"
    refine k_r1 (by omega) (by omega) ?_
    refine k_lc_mkR pn (by omega) (fun k => .int (1 + (m3 + 5 * (k : Int)) % 7)) (by omega) (fun k w'' R hk e hR => ?_) fun w2 p2 zs e2 hp2 o2 r2 => ?_
    · refine g_nm ?_
      refine k_mk1 rfl ?_
      walk_at "g2"
      refine o_mul (.inl ⟨by decide, by decide⟩) ?_
      walk_at "g2"
      refine i_G (dN'.ex e) (by omega) (by omega) ?_
      rw [hm3]
      walk_at "g2"
      refine o_mul (.inl ⟨by decide, by decide⟩) ?_
      walk_at "g2"
      refine o_mod (by decide) ?_
      walk_at "g2"
      exact hR w'' _ (Ex.refl _) (.int _)
    walk_at "g2"
    refine f_tupO o2.h r2 fun w3 y3 e3 d3 => ?_
    have edl : (List.range pn).map (fun k : Nat => PyData.int (1 + (m3 + 5 * (k : Int)) % 7)) = ((List.range pn).map fun k : Nat => 1 + (m3 + 5 * (k : Int)) % 7).map PyData.int := by rw [List.map_map]; rfl
    rw [edl] at d3
    have hdl : ∀ d ∈ (List.range pn).map (fun k : Nat => 1 + (m3 + 5 * (k : Int)) % 7), 1 ≤ d ∧ d ≤ 7 := by
      intro d hd
      obtain ⟨k, _, rfl⟩ := List.mem_map.mp hd
      omega
    have hdn : ((List.range pn).map (fun k : Nat => 1 + (m3 + 5 * (k : Int)) % 7)).length = pn := by simp
    generalize (List.range pn).map (fun k : Nat => 1 + (m3 + 5 * (k : Int)) % 7) = dls at d3 hdl hdn
    have E3 : Ex [] w' w3 := e2.t0 e3
    walk_at "g2"
    have o3 := o'.ex E3 (by simp)
    refine k_m1 o3.h rfl ?_
    walk_at "g2"
    refine f_strI (by omega) fun hsl => ?_
    refine o_adds (by
      have : (S [99]).length = 1 := rfl
      rw [this, sizeLine_eq]
      have := hsl
      show 1 + (Str.ofString (toString ((i : Nat) : Int))).length ≤ _
      omega) ?_
    walk_at "g2"
    refine o_mul (.inl ⟨by decide, by decide⟩) ?_
    walk_at "g2"
    refine i_G (dN'.ex E3) (by omega) (by omega) ?_
    rw [hm3]
    walk_at "g2"
    refine o_mod (by decide) ?_
    walk_at "g2"
    have ha0 : 0 ≤ m3 % 9 := Int.emod_nonneg _ (by decide)
    have ha1 : m3 % 9 < 9 := Int.emod_lt_of_pos _ (by decide)
    refine k_mk fun w4 g dxg e4 hg og => ?_
    refine cell_init_spec og fun w5 e5 o5 => ?_
    refine ⟨rfl, ?_⟩
    obtain ⟨w6, eh, e6, s6, h6⟩ := seal_any o5
    rw [← eh]
    have E6 : Ex [] w3 w6 := ((e4.tf e5 hg).tf e6 hg)
    have hc6 : Cel (v.cls c_Cell) w6 (.ref g) ⟨t, pn, 1 + m3 % 9, dls⟩ := ⟨g, _, _, _, rfl, s6, h6, d3.ex E6⟩
    have o6 := o3.ex E6 (by simp)
    walk_at "g2"
    refine m_app o6 (by rw [hcs.1, hcl, sizeLine_eq]; omega) fun w7 e7 o7 => ?_
    walk_at "g2"
    refine k_is ⟨_, _, _, _, _, _, cs ++ [⟨t, pn, 1 + m3 % 9, dls⟩], rfl, ((E'.t0 E3).t0 E6).tf e7 hp, o7, (((hcs.ex E3).ex E6).ex e7).snoc (hc6.ex e7), by simp [hcl], ?_⟩
    intro c hc
    rcases List.mem_append.mp hc with hc | hc
    · exact hcp c hc
    · simp only [List.mem_singleton] at hc
      subst hc
      exact ⟨⟨ht, by show 0 ≤ 1 + m3 % 9; omega, by show 1 + m3 % 9 < 1000; omega, by show t < 2 ^ 2 ^ ((pn : Int)).toNat; rw [Int.toNat_natCast]; exact ht1⟩, by show (dls.length : Int) = (pn : Int); omega, by show 1 ≤ (pn : Int); omega, by show (pn : Int) ≤ 4; omega, hdl⟩
  · rintro σ w' ⟨a3, a4, a5, a6, a7, xs, cs, rfl, E', o', hcs, hcl, hcp⟩
    walk_at "g2"
    exact q w' p xs cs E' hp o' hcs hcl hcp
end
section
variable {v : Ev} {n : Nat} {w : Wd} {Q : VK} {E : XK}
theorem Nt.of_new {w : Wd} {g dN lb dL lc : Addr} {rg gt ou : V} {xs : List V} {N : NL} (s : w.S g) (h : w.H g = some (.ins (v.cls c_Netlist) dN [("library", .ref lb), ("inputs", .int N.inp), ("registers", rg), ("gates", gt), ("outputs", ou)]))
    (sl : w.S lb) (hl : w.H lb = some (.ins (v.cls c_Library) dL [("cells", .ref lc), ("setup", .int N.su), ("flop_delay", .int N.fd)])) (sc : w.S lc) (hc : w.H lc = some (.lst xs)) (cs : Cels (v.cls c_Cell) w xs N.cells)
    (dr : Dv w rg (.list (N.regs.map dp))) (dg' : Dv w gt (.list (N.gates.map dg))) (do' : Dv w ou (ids N.outs)) : Nt v w g ⟨dN, lb, dL, lc, xs, rg, gt, ou⟩ N := ⟨s, h, sl, hl, sc, hc, cs, dr, dg', do'⟩
theorem netlist_spec {a : Addr} {ns : List Int} {M : Nat} (hM : M ≤ 9) (hS : SqL v.K w.H a (ns.map V.int)) (hn : ns.length ≤ 63) (q : ∀ w' g A N, Ex [] w w' → Nt v w' g A N → Vd N → N.gates.length ≤ M → Q (.ref g) w'.H) : spOf v D (n + 3) i_law_netlist [.ref a, .int (M : Nat)] w.H Q E := by
  refine in_law_netlist ?_
  unfold b_law_netlist
  walk_at "g2"
  refine k_scF hS fun w1 x1 e1 d1 => ?_
  walk_at "g2"
  refine o_mul (.inl ⟨by decide, by decide⟩) ?_
  walk_at "g2"
  refine numbers_spec d1 (Nat.le_trans cut_len (by omega)) (by decide) (by decide) (by omega) (by omega) fun w2 xN ms e2 dN hml hmb => ?_
  have hml : ms.length = 24 + 4 * M := by omega
  have E2 := e1.t0 e2
  have hS2 := SqL.ex0 E2 hS
  walk_at "g2"
  refine cell_spec hS2 (by decide) fun ra => ?_
  walk_at "g2"
  refine o_mod (by decide) ?_
  walk_at "g2"
  refine cell_spec hS2 (by decide) fun rb => ?_
  walk_at "g2"
  refine o_fdv (by decide) (by decide) ?_
  walk_at "g2"
  refine o_mod (by decide) ?_
  walk_at "g2"
  have hsu : 1 ≤ 1 + ra % 4 ∧ 1 + ra % 4 ≤ 4 := by omega
  have hfd : 0 ≤ rb / 4 % 6 ∧ rb / 4 % 6 ≤ 5 := by omega
  generalize 1 + ra % 4 = su at hsu
  generalize rb / 4 % 6 = fd at hfd
  refine i_G dN (by omega) (by omega) ?_
  generalize ms.getD (11 : Int).toNat 0 = m11
  walk_at "g2"
  refine o_mod (by decide) ?_
  walk_at "g2"
  have hc0 : 0 ≤ m11 % 3 := Int.emod_nonneg _ (by decide)
  have hc1 : m11 % 3 < 3 := Int.emod_lt_of_pos _ (by decide)
  obtain ⟨nc, enc⟩ := Int.eq_ofNat_of_zero_le (show 0 ≤ 1 + m11 % 3 by omega)
  rw [enc]
  have hnc : 1 ≤ nc ∧ nc ≤ 3 := by omega
  refine cells_spec dN (by omega) hmb hnc.2 fun w3 pc xs cs e3 hpc oc hcs hcl hcp => ?_
  obtain ⟨w4, eh4, e4, s4, h4⟩ := seal_any oc
  rw [← eh4]
  have e34 : Ex [] w2 w4 := e3.tf e4 hpc
  have hcs4 := hcs.ex e4
  have hxl : xs.length = nc := by rw [hcs.1, hcl]
  have hS4 := SqL.ex0 e34 hS2
  have E4 := E2.t0 e34
  have dN4 := dN.ex e34
  clear oc hcs eh4 e3 e4 hc0 hc1 enc
  walk_at "g2"
  refine cell_spec hS4 (by decide) fun rc => ?_
  walk_at "g2"
  refine o_mod (by decide) ?_
  walk_at "g2"
  refine cell_spec hS4 (by decide) fun rd => ?_
  walk_at "g2"
  refine o_fdv (by decide) (by decide) ?_
  walk_at "g2"
  refine o_mod (by decide) ?_
  walk_at "g2"
  have hi0 : 0 ≤ rc % 4 := Int.emod_nonneg _ (by decide)
  have hi1 : rc % 4 < 4 := Int.emod_lt_of_pos _ (by decide)
  have hr0 : 0 ≤ rd / 4 % 3 := Int.emod_nonneg _ (by decide)
  have hr1 : rd / 4 % 3 < 3 := Int.emod_lt_of_pos _ (by decide)
  generalize rc % 4 = inp at hi0 hi1
  obtain ⟨cnt, ecnt⟩ := Int.eq_ofNat_of_zero_le hr0
  rw [ecnt] at hr1 ⊢
  refine k_lstO (by simp) fun w5 pg e5 hpg o5 => ?_
  have hS5 := SqL.ex0 e5 hS4
  walk_at "g2"
  refine cell_spec hS5 (by decide) fun re => ?_
  walk_at "g2"
  refine o_fdv (by decide) (by decide) ?_
  walk_at "g2"
  refine o_mod (by omega) ?_
  have hg0 : 0 ≤ re / 12 % ((M : Int) + 1) := Int.emod_nonneg _ (by omega)
  have hg1 : re / 12 % ((M : Int) + 1) < (M : Int) + 1 := Int.emod_lt_of_pos _ (by omega)
  generalize re / 12 % ((M : Int) + 1) = ng at hg0 hg1
  refine k_r1 (by omega) (by omega) ?_
  refine k_for_n ng.toNat rfl (fun i σ w' => ∃ a5 a6 a14 a15 a16 zs G, σ = [some (.ref a), some (.int (M : Nat)), some xN, some (.ref pc), some (.ref pg), a5, a6, none, none, none, some (.int su), some (.int fd), some (.int inp), some (.int (cnt : Nat)), a14, a15, a16] ∧ Ex [] w4 w' ∧ Op w' pg (.lst zs) ∧ Dvs w' zs (G.map dg) ∧
      G.length = i ∧ ∀ j, j < i → ((G.getD j g0).2.length : Int) = (cs.getD (G.getD j g0).1.toNat ce0).p ∧ 0 ≤ (G.getD j g0).1 ∧ (G.getD j g0).1 < (nc : Int) ∧ (G.getD j g0).2.length ≤ 4 ∧ ∀ m ∈ (G.getD j g0).2, 0 ≤ m ∧ m < 2 + inp + cnt + j)
    ⟨_, _, _, _, _, [], [], rfl, e5, o5, .nil, rfl, fun j h => by omega⟩ ?_ ?_
  · rintro i σ w' hi ⟨a5, a6, a14, a15, a16, zs, G, rfl, E', o', dz, hGl, hG⟩
    have dN' := dN4.ex E'
    walk_at "g2"
    refine o_mul (.inl ⟨by decide, by decide⟩) ?_
    walk_at "g2"
    refine o_mul (.inl ⟨by decide, by decide⟩) ?_
    walk_at "g2"
    refine k_scD dN' fun w6 xO e6 dO => ?_
    have c1 : (12 + 4 * (i : Int)) = ((12 + 4 * i : Nat) : Int) := by simp
    have c2 : (16 + 4 * (i : Int)) = ((16 + 4 * i : Nat) : Int) := by simp
    rw [cutD_map, c1, c2, cut_mid] at dO
    have hol : ((ms.drop (12 + 4 * i)).take (16 + 4 * i - (12 + 4 * i))).length = 4 := by rw [List.length_take, List.length_drop]; omega
    have hob : ∀ z ∈ (ms.drop (12 + 4 * i)).take (16 + 4 * i - (12 + 4 * i)), 0 ≤ z ∧ z < 256 := fun z hz => hmb z (List.mem_of_mem_drop (List.mem_of_mem_take hz))
    generalize (ms.drop (12 + 4 * i)).take (16 + 4 * i - (12 + 4 * i)) = own at dO hol hob
    have h6 := (E'.t0 e6).keepL s4 h4
    walk_at "g2"
    refine i_G dO (by decide) (by omega) ?_
    walk_at "g2"
    refine f_lenO h6 ?_
    rw [hxl]
    refine o_mod (by omega) ?_
    have hq0 : 0 ≤ own.getD (0 : Int).toNat 0 % (nc : Int) := Int.emod_nonneg _ (by omega)
    have hq1 : own.getD (0 : Int).toNat 0 % (nc : Int) < nc := Int.emod_lt_of_pos _ (by omega)
    generalize own.getD (0 : Int).toNat 0 % (nc : Int) = ch at hq0 hq1
    walk_at "g2"
    have hnet : 0 < 2 + inp + (cnt : Int) + (i : Int) := by omega
    generalize hnets : 2 + inp + (cnt : Int) + (i : Int) = nets at hnet
    have o6 := o'.ex e6 (by simp)
    refine k_m1 o6.h rfl ?_
    walk_at "g2"
    obtain ⟨xc, hxc⟩ := get_of (xs := xs) (i := ch.toNat) (by omega)
    refine i_O h6 hq0 hxc ?_
    have hc6 := ((hcs4.2 _ _ hxc).ex E').ex e6
    have hcm : cs.getD ch.toNat ce0 ∈ cs := by
      rw [List.getD_eq_getElem?_getD, List.getElem?_eq_getElem (by omega)]; exact List.getElem_mem _
    have hcc := hcp _ hcm
    have hcp0 := hcc.2.2.1
    have hcp1 := hcc.2.2.2.1
    obtain ⟨cc, ecc⟩ : ∃ cc, cs.getD ch.toNat ce0 = cc := ⟨_, rfl⟩
    rw [ecc] at hc6 hcc hcp0 hcp1
    obtain ⟨ac, dxc, nmc, dlc, rfl, sc, hcc', _⟩ := hc6
    refine k_flH hcc' rfl ?_
    refine k_r1 (by omega) (by omega) ?_
    refine k_lc_mkR cc.p.toNat rfl (fun k => .int (nets - 1 - own.getD (1 + (k : Int) % 3).toNat 0 / (1 + 5 * ((k : Int) / 3)) % nets)) (by omega) (fun k w'' R hk e hR => ?_) fun w7 p7 zs7 e7 hp7 o7 r7 => ?_
    · refine g_nm ?_
      refine k_mk1 rfl ?_
      walk_at "g2"
      refine o_mod (by decide) ?_
      walk_at "g2"
      refine i_G (dO.ex e) (by omega) (by omega) ?_
      walk_at "g2"
      refine o_fdv (by decide) (by decide) ?_
      refine o_mul (.inl ⟨by decide, by decide⟩) ?_
      walk_at "g2"
      refine o_fdv (by omega) (log_small' (by omega) (by omega)) ?_
      walk_at "g2"
      refine o_mod hnet ?_
      walk_at "g2"
      exact hR w'' _ (Ex.refl _) (.int _)
    have hz := r7.ints_of
    subst hz
    have hpins : ∀ m ∈ (List.range cc.p.toNat).map (fun (k : Nat) => nets - 1 - own.getD (1 + (k : Int) % 3).toNat 0 / (1 + 5 * ((k : Int) / 3)) % nets), 0 ≤ m ∧ m < nets := by
      intro m hm
      obtain ⟨k, _, rfl⟩ := List.mem_map.mp hm
      have g0 : ∀ x : Int, 0 ≤ x % nets := fun x => Int.emod_nonneg _ (by omega)
      have g1 : ∀ x : Int, x % nets < nets := fun x => Int.emod_lt_of_pos _ hnet
      have := g0 (own.getD (1 + (k : Int) % 3).toNat 0 / (1 + 5 * ((k : Int) / 3)))
      have := g1 (own.getD (1 + (k : Int) % 3).toNat 0 / (1 + 5 * ((k : Int) / 3)))
      omega
    have hpl : ((List.range cc.p.toNat).map (fun (k : Nat) => nets - 1 - own.getD (1 + (k : Int) % 3).toNat 0 / (1 + 5 * ((k : Int) / 3)) % nets)).length = cc.p.toNat := by simp
    generalize (List.range cc.p.toNat).map (fun (k : Nat) => nets - 1 - own.getD (1 + (k : Int) % 3).toNat 0 / (1 + 5 * ((k : Int) / 3)) % nets) = pins at o7 hpins hpl
    walk_at "g2"
    refine f_tupO o7.h (Dvs.ints pins) fun w8 y8 e8 d8 => ?_
    walk_at "g2"
    refine k_tup (by simp) (.cons (.int ch) (.cons d8 .nil)) fun w9 y9 e9 d9 => ?_
    have E9 : Ex [] w6 w9 := (e7.t0 e8).t0 e9
    have o9 := o6.ex E9 (by simp)
    walk_at "g2"
    have lz := dz.length
    rw [List.length_map, hGl] at lz
    refine m_app o9 (by rw [lz, sizeLine_eq]; omega) fun w10 e10 o10 => ?_
    walk_at "g2"
    refine k_is ⟨_, _, _, _, _, _, G ++ [(ch, pins)], rfl, ((E'.t0 e6).t0 E9).tf e10 hpg, o10, ?_, by simp [hGl], fun j hj => ?_⟩
    · rw [List.map_append]
      exact (((dz.ex e6).ex E9).ex e10).app (.cons (d9.ex e10) .nil)
    · rcases Nat.lt_or_ge j i with h | h
      · have e : (G ++ [(ch, pins)]).getD j g0 = G.getD j g0 := by
          rw [List.getD_eq_getElem?_getD, List.getElem?_append_left (by omega), ← List.getD_eq_getElem?_getD]
        rw [e]; exact hG j h
      · have ej : j = i := by omega
        have e : (G ++ [(ch, pins)]).getD j g0 = (ch, pins) := by
          rw [List.getD_eq_getElem?_getD, List.getElem?_append_right (by omega), hGl, ej]; simp
        rw [e, ej]
        exact ⟨by show (pins.length : Int) = (cs.getD ch.toNat ce0).p; rw [ecc]; omega, hq0, hq1, by show pins.length ≤ 4; omega, fun m hm => by rw [hnets]; exact hpins m hm⟩
  rintro σ w6 ⟨a5, a6, a14, a15, a16, zs, G, rfl, E6, o6, dz, hGl, hG⟩
  have lz := dz.length
  rw [List.length_map, hGl] at lz
  have dN6 := dN4.ex E6
  walk_at "g2"
  refine f_lenO o6.h ?_
  walk_at "g2"
  rw [lz]
  have hnet : 0 < 2 + inp + (cnt : Int) + ((ng.toNat : Nat) : Int) := by omega
  generalize hnets : 2 + inp + (cnt : Int) + ((ng.toNat : Nat) : Int) = nets at hnet
  refine o_mul (.inl ⟨by decide, by decide⟩) ?_
  walk_at "g2"
  refine k_scD dN6 fun w7 xL e7 dL => ?_
  have c1 : (12 + 4 * (M : Int) : Int) = ((12 + 4 * M : Nat) : Int) := by omega
  rw [cutD_map, c1, cut_drop] at dL
  have hll : (ms.drop (12 + 4 * M)).length = 12 := by rw [List.length_drop]; omega
  generalize ms.drop (12 + 4 * M) = last at dL hll
  have mod_ok : ∀ x : Int, 0 ≤ nets - 1 - x % nets ∧ nets - 1 - x % nets < nets := fun x => by
    have g0 := Int.emod_nonneg x (show nets ≠ 0 by omega)
    have g1 := Int.emod_lt_of_pos x hnet
    omega
  walk_at "g2"
  refine k_r1 (by omega) (by omega) ?_
  refine k_lc_mkR cnt (by omega) (fun k => dp (nets - 1 - last.getD k 0 % nets, last.getD k 0 / 16 % 2)) (by omega) (fun k w'' R hk e hR => ?_) fun w8 pr zr e8 hpr o8 r8 => ?_
  · refine g_nm ?_
    refine k_mk1 rfl ?_
    walk_at "g2"
    refine i_G (dL.ex e) (by omega) (by omega) ?_
    rw [Int.toNat_natCast]
    walk_at "g2"
    refine o_mod hnet ?_
    walk_at "g2"
    refine i_G (dL.ex e) (by omega) (by omega) ?_
    rw [Int.toNat_natCast]
    walk_at "g2"
    refine o_fdv (by decide) (by decide) ?_
    walk_at "g2"
    refine o_mod (by decide) ?_
    walk_at "g2"
    refine k_tup (by simp) (.cons (.int _) (.cons (.int _) .nil)) fun w9 y9 e9 d9 => ?_
    exact hR w9 y9 e9 d9
  have er : (List.range cnt).map (fun k => dp (nets - 1 - last.getD k 0 % nets, last.getD k 0 / 16 % 2)) = ((List.range cnt).map fun k => (nets - 1 - last.getD k 0 % nets, last.getD k 0 / 16 % 2)).map dp := by rw [List.map_map]; rfl
  rw [er] at r8
  have hregs : ∀ p ∈ (List.range cnt).map (fun k => (nets - 1 - last.getD k 0 % nets, last.getD k 0 / 16 % 2)), 0 ≤ p.1 ∧ p.1 < nets ∧ (p.2 = 0 ∨ p.2 = 1) := by
    intro p hp
    obtain ⟨k, _, rfl⟩ := List.mem_map.mp hp
    have := mod_ok (last.getD k 0)
    exact ⟨this.1, this.2, by show last.getD k 0 / 16 % 2 = 0 ∨ last.getD k 0 / 16 % 2 = 1; omega⟩
  have hrl : ((List.range cnt).map (fun k => (nets - 1 - last.getD k 0 % nets, last.getD k 0 / 16 % 2))).length = cnt := by simp
  generalize (List.range cnt).map (fun k => (nets - 1 - last.getD k 0 % nets, last.getD k 0 / 16 % 2)) = regs at r8 hregs hrl
  walk_at "g2"
  refine i_G (dL.ex e8) (by decide) (by omega) ?_
  walk_at "g2"
  refine o_mod (by decide) ?_
  have ho0 : 0 ≤ last.getD (9 : Int).toNat 0 % 4 := Int.emod_nonneg _ (by decide)
  have ho1 : last.getD (9 : Int).toNat 0 % 4 < 4 := Int.emod_lt_of_pos _ (by decide)
  generalize last.getD (9 : Int).toNat 0 % 4 = no at ho0 ho1
  refine k_r1 (by omega) (by omega) ?_
  refine k_lc_mkR no.toNat rfl (fun k => .int (nets - 1 - last.getD (3 + (k : Int)).toNat 0 % nets)) (by omega) (fun k w'' R hk e hR => ?_) fun w9 po zo e9 hpo o9 r9 => ?_
  · refine g_nm ?_
    refine k_mk1 rfl ?_
    walk_at "g2"
    refine i_G ((dL.ex e8).ex e) (by omega) (by omega) ?_
    walk_at "g2"
    refine o_mod hnet ?_
    walk_at "g2"
    exact hR w'' _ (Ex.refl _) (.int _)
  have hz := r9.ints_of
  subst hz
  have houts : ∀ m ∈ (List.range no.toNat).map (fun (k : Nat) => nets - 1 - last.getD (3 + (k : Int)).toNat 0 % nets), 0 ≤ m ∧ m < nets := by
    intro m hm
    obtain ⟨k, _, rfl⟩ := List.mem_map.mp hm
    exact mod_ok _
  have houl : ((List.range no.toNat).map (fun (k : Nat) => nets - 1 - last.getD (3 + (k : Int)).toNat 0 % nets)).length ≤ 4 := by simp; omega
  generalize (List.range no.toNat).map (fun (k : Nat) => nets - 1 - last.getD (3 + (k : Int)).toNat 0 % nets) = outs at o9 houts houl
  have E9 : Ex [] w4 w9 := ((E6.t0 e7).t0 e8).t0 e9
  have h9 := E9.keepL s4 h4
  walk_at "g2"
  refine k_mk fun w10 gl dxl e10 hgl ogl => ?_
  refine library_init_spec ogl (e10.kp _ _ h9 (by simp)) fun w11 lc e11 ogl' hlc olc => ?_
  refine ⟨rfl, ?_⟩
  have glc : gl ≠ lc := ogl.ne hlc
  obtain ⟨w12, eh12, e12, s12, h12⟩ := seal_any ogl'
  rw [← eh12]
  have olc12 := olc.ex e12 (by simpa using Ne.symm glc)
  obtain ⟨w13, eh13, e13, s13, h13⟩ := seal_any olc12
  rw [← eh13]
  have E11 : Ex [] w9 w11 := e10.tf e11 hgl
  have E12 : Ex [] w9 w12 := E11.tf e12 hgl
  have E13 : Ex [] w9 w13 := E12.tf e13 (e10.free hlc)
  have sl13 := e13.sub _ s12
  have hl13 := e13.keepL s12 h12
  have og13 := (((o6.ex e7 (by simp)).ex e8 (by simp)).ex e9 (by simp)).ex E13 (by simp)
  have or13 := (o8.ex e9 (by simp)).ex E13 (by simp)
  have oo13 := o9.ex E13 (by simp)
  have dg13 := (((dz.ex e7).ex e8).ex e9).ex E13
  have dr13 := (r8.ex e9).ex E13
  walk_at "g2"
  refine k_mk fun w14 gn dxn e14 hgn ogn => ?_
  refine netlist_init_spec ogn (e14.kp _ _ or13.h (by simp)) (dr13.ex e14) (e14.kp _ _ og13.h (by simp)) (dg13.ex e14) (e14.kp _ _ oo13.h (by simp)) (Dvs.ints outs) fun w15 rg gt ou e15 ogn' drg dgt dou => ?_
  refine ⟨rfl, ?_⟩
  obtain ⟨w16, eh16, e16, s16, h16⟩ := seal_any ogn'
  rw [← eh16]
  have E16 : Ex [] w13 w16 := (e14.tf e15 hgn).tf e16 hgn
  refine q w16 gn _ ⟨cs, su, fd, inp, regs, G, outs⟩ (((E4.t0 E9).t0 E13).t0 E16) (Nt.of_new (N := ⟨cs, su, fd, inp, regs, G, outs⟩) s16 h16 (E16.sub _ sl13) (E16.keepL sl13 hl13) (E16.sub _ s13) (E16.keepL s13 h13) (((hcs4.ex E9).ex E13).ex E16) (drg.ex e16) (dgt.ex e16) (dou.ex e16)) ?_ (by show G.length ≤ M; omega)
  have eN : nets = 2 + inp + (regs.length : Int) + (G.length : Int) := by rw [hrl, hGl]; exact hnets.symm
  refine ⟨hi0, by show inp ≤ 10; omega, by show regs.length ≤ 10; omega, by show G.length ≤ 100; omega, by show outs.length ≤ 10; omega, by show cs.length ≤ 100; omega, hsu, hfd, fun c hc => (hcp c hc).1, fun c hc => (hcp c hc).2, fun p hp => ?_, fun k hk => ?_, fun k hk => ?_, fun m hm => ?_⟩
  · have := hregs p hp
    rw [eN] at this
    exact this
  · have hk' : k < G.length := hk
    have := hG k (by omega)
    show 0 ≤ (G.getD k g0).1 ∧ (G.getD k g0).1 < (cs.length : Int) ∧ (G.getD k g0).2.length ≤ 4 ∧ ∀ m ∈ (G.getD k g0).2, 0 ≤ m ∧ m < 2 + inp + (regs.length : Int) + (k : Int)
    rw [hcl, hrl]
    exact this.2
  · have hk' : k < G.length := hk
    exact (hG k (by omega)).1
  · have := houts m hm
    rw [eN] at this
    exact this
end
section
variable {v : Ev} {n : Nat} {w : Wd} {Q : VK} {E : XK} {a : Addr} {A : NA} {N : NL}
/-- a cell's output, of an open list as well -/
theorem output_spec {c : Ce} {x : V} {b : Addr} {bs : List Int} (h : Cel (v.cls c_Cell) w x c) (hy : w.H b = some (.lst (bs.map V.int))) (hb : Bs bs) (hl : bs.length ≤ 4) (ht : 0 ≤ c.t) (q : ∀ w', Ex [] w w' → Q (.int (pout c.t bs)) w'.H) : spOf v D (n + 1) i_Cell_output [x, .ref b] w.H Q E := by
  obtain ⟨a, dx, nm, dl, rfl, s, hc, _⟩ := h
  refine in_Cell_output ?_
  unfold b_Cell_output
  walk_at "g2"
  refine k_en (sqL hy) ?_
  refine k_for_enm (xs := bs.map V.int) (fun k σ w' => ∃ a3 a4, σ = [some (.ref a), some (.ref b), some (.int (tab (fun k => bs.getD k 0) k)), a3, a4] ∧ Ex [] w w') (fun k σ w' h => by obtain ⟨_, _, _, h⟩ := h; exact sqL (h.kp _ _ hy (by simp))) ⟨_, _, rfl, Ex.refl _⟩ ?_ ?_
  · rintro k z σ w' w2 P hz ⟨a3, a4, rfl, E'⟩ e2 hP
    obtain ⟨hk, rfl⟩ := ids_get hz
    refine g_tupR hP rfl ?_
    walk_at "g2"
    have hv := hb.get k
    refine o_shl (.inl ⟨by omega, by omega, by rcases hv with z | z <;> rw [z] <;> decide⟩) ?_
    rw [Int.toNat_natCast]
    walk_at "g2"
    exact k_is ⟨_, _, rfl, E'.t0 e2⟩
  · rintro σ w' ⟨a3, a4, rfl, E'⟩
    rw [List.length_map]
    have rg := tab_rng (f := fun k => bs.getD k 0) (n := bs.length) fun k _ => hb.get k
    walk_at "g2"
    refine k_flH (E'.kp _ _ hc (by simp)) rfl ?_
    walk_at "g2"
    refine o_shr rg.1 ?_
    walk_at "g2"
    have hp : (0 : Int) < 2 ^ (tab (fun k => bs.getD k 0) bs.length).toNat := Int.pow_pos (by decide)
    rw [band1 (Int.ediv_nonneg ht (by omega))]
    exact q w' E'
end
/-! ### zip of two tuples -/
section
variable {v : Ev} {n : Nat} {W : WX} {σ : St} {K : PySem.W.Frag} {w : Wd} {nx bk ct : St → Hp → Prop} {rt : VK}
theorem k_zpT {a b : Addr} {xs ys : List V} {R : It → Hp → Prop} (h : SqT K w.H a xs) (h' : SqT K w.H b ys) (r : R (RZ.ItzT K a b) w.H) : KZp K R [.ref a, .ref b] w.H := ⟨a, b, xs, ys, rfl, .inr ⟨h, h', r⟩⟩
theorem k_for_zipT {a b : Addr} {xs ys : List V} {g : TG} {tb : TS} (hl : xs.length = ys.length) (Inv : Nat → St → Wd → Prop) (hk : ∀ i σ w', Inv i σ w' → SqT K w'.H a xs ∧ SqT K w'.H b ys) (h0 : Inv 0 σ w)
    (hs : ∀ (i : Nat) x y σ w' w2 T, xs[i]? = some x → ys[i]? = some y → Inv i σ w' → Ex [] w' w2 → w2.H T = some (.tup [x, y]) → g (.ref T) σ w2.H fun σ2 H2 => tb ⟨KIs (Inv (i + 1)), rt, nx, KIs (Inv (i + 1))⟩ σ2 H2)
    (hd : ∀ σ w', Inv xs.length σ w' → nx σ w'.H) : KFor g tb ⟨nx, rt, bk, ct⟩ σ (RZ.ItzT K a b) w.H :=
  RZ.for_zipT (xs := xs) (ys := ys) hl (fun i => KIs (Inv i)) (k_is h0) (fun i σ H ⟨w', e, p⟩ => by subst e; exact hk i σ w' p)
    (fun i x y T σ H hx hy ⟨w', e, p⟩ hT => by subst e; exact hs i x y σ w' (w'.put T _) T hx hy p (ex_new hT) upd_same) fun σ H ⟨w', e, p⟩ => by subst e; exact hd σ w' p
end
/-! ### a dict as a set of numbers -/
def kvT (ks : List Int) : List (Key × V) := ks.map fun k => (.inl k, .bl true)
theorem kvT_val (ks : List Int) (t : Int) : valV (kvT ks) (.inl t) = if t ∈ ks then some (.bl true) else none := by
  induction ks with
  | nil => rfl
  | cons x r ih =>
    by_cases e : x = t
    · subst e
      show valV ((Sum.inl x, V.bl true) :: kvT r) (.inl x) = _
      rw [valV_pos rfl]; simp
    · show valV ((Sum.inl x, V.bl true) :: kvT r) (.inl t) = _
      rw [valV_neg (by simpa using e), ih]
      have : (t = x) = False := by simpa using Ne.symm e
      simp [this]
theorem kvT_putN {ks : List Int} (hn : ks.Nodup) (t : Int) : ∃ ks', putK (kvT ks) (.inl t) (.bl true) = kvT ks' ∧ ks'.Nodup ∧ (∀ u, u ∈ ks' ↔ u ∈ ks ∨ u = t) := by
  by_cases h : t ∈ ks
  · refine ⟨ks, ?_, hn, fun u => ⟨.inl, fun q => by rcases q with q | q; exact q; rw [q]; exact h⟩⟩
    unfold putK
    rw [valV_any, kvT_val, if_pos h]
    simp only [Option.isSome_some, if_true]
    unfold kvT
    rw [List.map_map]
    refine List.map_congr_left fun x _ => ?_
    simp
  · refine ⟨ks ++ [t], ?_, ?_, fun u => by simp⟩
    · unfold putK
      rw [valV_any, kvT_val, if_neg h]
      simp [kvT]
    · rw [List.nodup_append]
      refine ⟨hn, by simp, fun a ha b hb => ?_⟩
      simp only [List.mem_singleton] at hb
      rw [hb]
      exact fun z => h (z ▸ ha)
theorem kvT_fst (ks : List Int) : (kvT ks).map (·.1) = ks.map Sum.inl := by unfold kvT; rw [List.map_map]; rfl
theorem nodup_len : ∀ (M : Nat) (ks : List Int), ks.Nodup → (∀ t ∈ ks, 0 ≤ t ∧ t < M) → ks.length ≤ M
  | 0, ks, _, h => by
    cases ks with
    | nil => simp
    | cons a r => have := h a (by simp); omega
  | M + 1, ks, hn, h => by
    have ih := nodup_len M (ks.erase (M : Int)) (hn.erase _) fun t ht => by
      have hm := hn.mem_erase_iff.mp ht
      have := h t hm.2
      have := hm.1
      omega
    have := List.le_length_erase (l := ks) (a := (M : Int))
    omega
theorem srt_lt {ys ks : List Int} (hp : ys.Perm ks) (hs : ys.Pairwise (· ≤ ·)) (hn : ks.Nodup) : ys.Pairwise (· < ·) := by
  have hy : ys.Nodup := hp.nodup_iff.mpr hn
  exact List.Pairwise.imp₂ (fun a b h1 h2 => by omega) hs hy
/-! ### waves: values in time, plain -/
/-- the numbers from lo on -/
def irg (lo : Int) : Nat → List Int
  | 0 => []
  | n + 1 => lo :: irg (lo + 1) n
theorem irg_mem {lo : Int} {n : Nat} {t : Int} : t ∈ irg lo n ↔ lo ≤ t ∧ t < lo + n := by
  induction n generalizing lo with
  | zero => simp [irg]
  | succ n ih =>
    simp only [irg, List.mem_cons, ih]
    omega
theorem irg_snoc (lo : Int) (n : Nat) : irg lo (n + 1) = irg lo n ++ [lo + n] := by
  induction n generalizing lo with
  | zero => simp [irg]
  | succ n ih =>
    show lo :: irg (lo + 1) (n + 1) = lo :: irg (lo + 1) n ++ [lo + (n + 1 : Nat)]
    rw [ih (lo + 1)]
    have : lo + 1 + (n : Int) = lo + ((n + 1 : Nat) : Int) := by omega
    rw [this]; rfl
/-- the changes among these times -/
def scn (f : Int → Int) : Int → List Int → List (Int × Int)
  | _, [] => []
  | p, t :: ts => if f t = p then scn f p ts else (t, f t) :: scn f (f t) ts
def lst (f : Int → Int) : Int → List Int → Int
  | p, [] => p
  | _, t :: ts => lst f (f t) ts
theorem scn_mem {f : Int → Int} {p : Int} {ts : List Int} {c : Int × Int} (h : c ∈ scn f p ts) : c.1 ∈ ts ∧ c.2 = f c.1 := by
  induction ts generalizing p with
  | nil => cases h
  | cons t ts ih =>
    unfold scn at h
    split at h
    · exact ⟨by simp [(ih h).1], (ih h).2⟩
    · rcases List.mem_cons.mp h with rfl | h
      · exact ⟨by simp, rfl⟩
      · exact ⟨by simp [(ih h).1], (ih h).2⟩
theorem scn_len (f : Int → Int) (p : Int) (ts : List Int) : (scn f p ts).length ≤ ts.length := by
  induction ts generalizing p with
  | nil => simp [scn]
  | cons t ts ih =>
    unfold scn
    split
    · have := ih p; simp only [List.length_cons]; omega
    · have := ih (f t); simp only [List.length_cons]; omega
theorem scn_snoc (f : Int → Int) (p : Int) (ts : List Int) (t : Int) : scn f p (ts ++ [t]) = scn f p ts ++ (if f t = lst f p ts then [] else [(t, f t)]) := by
  induction ts generalizing p with
  | nil =>
    show (if f t = p then [] else [(t, f t)]) = [] ++ (if f t = p then [] else [(t, f t)])
    rw [List.nil_append]
  | cons s ts ih =>
    show scn f p (s :: (ts ++ [t])) = _
    unfold scn
    split
    · rename_i e
      rw [ih, lst, e]
    · rw [ih, lst]; rfl
theorem lst_snoc (f : Int → Int) (p : Int) (ts : List Int) (t : Int) : lst f p (ts ++ [t]) = f t := by
  induction ts generalizing p with
  | nil => rfl
  | cons s ts ih => exact ih (f s)
/-- only some of the times count -/
theorem scn_sub {f : Int → Int} : ∀ (n : Nat) (lo : Int) (ys : List Int), ys.Pairwise (· < ·) → (∀ t ∈ ys, lo ≤ t ∧ t < lo + n) → (∀ t, lo ≤ t → t < lo + n → t ∉ ys → f t = f (t - 1)) → scn f (f (lo - 1)) ys = scn f (f (lo - 1)) (irg lo n)
  | 0, lo, ys, _, h, _ => by
    cases ys with
    | nil => rfl
    | cons y r => have := h y (by simp); omega
  | n + 1, lo, ys, hp, h, g => by
    have e1 : lo + 1 - 1 = lo := by omega
    cases ys with
    | nil =>
      have h0 := g lo (by omega) (by omega) (by simp)
      have ih := scn_sub (f := f) n (lo + 1) [] .nil (by simp) (fun t h1 h2 _ => g t (by omega) (by omega) (by simp))
      rw [e1, h0] at ih
      simp only [irg, scn, h0, if_true]
      exact ih
    | cons y r =>
      rcases Int.lt_or_eq_of_le (h y (by simp)).1 with hlt | heq
      · have h0 := g lo (by omega) (by omega) (by
          intro hm
          rcases List.mem_cons.mp hm with e | hm
          · omega
          · have := (List.pairwise_cons.mp hp).1 lo hm; omega)
        have hy : ∀ t ∈ y :: r, lo + 1 ≤ t ∧ t < lo + 1 + n := fun t ht => by
          have hb := h t ht
          have : y ≤ t := by
            rcases List.mem_cons.mp ht with e | hm
            · omega
            · have := (List.pairwise_cons.mp hp).1 t hm; omega
          omega
        have ih := scn_sub (f := f) n (lo + 1) (y :: r) hp hy (fun t h1 h2 h3 => g t (by omega) (by omega) h3)
        rw [e1, h0] at ih
        rw [ih]
        simp only [irg]
        rw [show scn f (f (lo - 1)) (lo :: irg (lo + 1) n) = scn f (f (lo - 1)) (irg (lo + 1) n) from by rw [scn, if_pos h0]]
      · subst heq
        have hy : ∀ t ∈ r, lo + 1 ≤ t ∧ t < lo + 1 + n := fun t ht => by
          have hb := h t (by simp [ht])
          have := (List.pairwise_cons.mp hp).1 t ht
          omega
        have ih := scn_sub (f := f) n (lo + 1) r (List.pairwise_cons.mp hp).2 hy (fun t h1 h2 h3 => g t (by omega) (by omega) (by
          intro hm
          rcases List.mem_cons.mp hm with e | hm
          · omega
          · exact h3 hm))
        rw [e1] at ih
        simp only [irg, scn]
        split
        · rename_i e
          rw [← e]; exact ih
        · rw [ih]
/-- the value at a time, out of the changes -/
def vin (old : Int) (ch : List (Int × Int)) (t : Int) : Int := ch.foldl (fun v p => if p.1 ≤ t then p.2 else v) old
theorem vin_lo {f : Int → Int} {old t : Int} {ch : List (Int × Int)} (h : ∀ c ∈ ch, t < c.1) : vin old ch t = old := by
  unfold vin
  induction ch generalizing old with
  | nil => rfl
  | cons c r ih =>
    have := h c (by simp)
    rw [List.foldl_cons, if_neg (by omega)]
    exact ih fun c hc => h c (by simp [hc])
theorem vin_at {f : Int → Int} : ∀ (n : Nat) (lo t : Int), lo - 1 ≤ t → t < lo + n → vin (f (lo - 1)) (scn f (f (lo - 1)) (irg lo n)) t = f t
  | 0, lo, t, h0, h1 => by
    have : t = lo - 1 := by omega
    rw [this]; rfl
  | n + 1, lo, t, h0, h1 => by
    have e1 : lo + 1 - 1 = lo := by omega
    by_cases ht : t = lo - 1
    · subst ht
      exact vin_lo (f := f) fun c hc => by
        have := irg_mem.mp (scn_mem hc).1
        omega
    · have ih := vin_at (f := f) n (lo + 1) t (by omega) (by omega)
      rw [e1] at ih
      simp only [irg, scn]
      split
      · rename_i e
        rw [← e]; exact ih
      · show vin (if lo ≤ t then f lo else f (lo - 1)) _ t = f t
        rw [if_pos (by omega)]
        exact ih
/-- a wave that has its first value before time 0, and none but changes up to T -/
theorem vin_all {f : Int → Int} {b : Int} {n : Nat} (hb : ∀ t, t < 0 → f t = b) {t : Int} (h1 : t < n) : vin b (scn f b (irg 0 n)) t = f t := by
  have hb' : f (0 - 1) = b := hb _ (by omega)
  by_cases h : t < 0
  · rw [hb t h]
    exact vin_lo (f := f) fun c hc => by
      have := irg_mem.mp (scn_mem hc).1
      omega
  · have := vin_at (f := f) n 0 t (by omega) (by omega)
    rw [hb'] at this
    exact this
/-- the last change gives the last value -/
theorem vin_last {b t : Int} : ∀ (ch : List (Int × Int)), (∀ c ∈ ch, c.1 ≤ t) → vin b ch t = if 0 < ch.length then (ch.getD (ch.length - 1) (0, 0)).2 else b := by
  intro ch
  induction ch generalizing b with
  | nil => intro _; rfl
  | cons c r ih =>
    intro h
    show vin (if c.1 ≤ t then c.2 else b) r t = _
    rw [if_pos (h c (by simp)), ih fun c hc => h c (by simp [hc])]
    cases r with
    | nil => rfl
    | cons d r => simp
/-- where a wave has come to rest, nothing changes -/
theorem scn_le {f : Int → Int} {a e : Int} : ∀ (n : Nat) (lo : Int), (∀ t, a ≤ t → f t = e) → ∀ c ∈ scn f (f (lo - 1)) (irg lo n), c.1 ≤ a
  | 0, lo, _, c, hc => by cases hc
  | n + 1, lo, h, c, hc => by
    have e1 : lo + 1 - 1 = lo := by omega
    have ih := scn_le (f := f) (a := a) (e := e) n (lo + 1) h
    rw [e1] at ih
    simp only [irg, scn] at hc
    split at hc
    · rename_i q
      rw [← q] at hc
      exact ih c hc
    · rename_i q
      rcases List.mem_cons.mp hc with rfl | hc
      · rcases Int.le_total lo a with z | z
        · exact z
        · by_cases z2 : lo = a
          · omega
          · exact absurd (by rw [h lo z, h (lo - 1) (by omega)]) q
      · exact ih c hc
/-! ### arrivals and waves of a netlist, plain -/
def mxz (l : List Int) : Int := l.foldr max 0
theorem mxz_ge {l : List Int} {x : Int} (h : x ∈ l) : x ≤ mxz l := by
  induction l with
  | nil => cases h
  | cons a r ih =>
    show x ≤ max a (mxz r)
    rcases List.mem_cons.mp h with rfl | h
    · exact Int.le_max_left ..
    · exact Int.le_trans (ih h) (Int.le_max_right ..)
theorem mxz_0 (l : List Int) : 0 ≤ mxz l := by
  induction l with
  | nil => exact Int.le_refl _
  | cons a r ih => exact Int.le_trans ih (Int.le_max_right ..)
theorem mxz_le {l : List Int} {b : Int} (h0 : 0 ≤ b) (h : ∀ x ∈ l, x ≤ b) : mxz l ≤ b := by
  induction l with
  | nil => exact h0
  | cons a r ih => exact Int.max_le.mpr ⟨h a (by simp), ih fun x hx => h x (by simp [hx])⟩
theorem mxz_eq {l : List Int} {m : Int} (h0 : ∀ x ∈ l, 0 ≤ x) (hm : m ∈ l) (h : ∀ y ∈ l, y ≤ m) : m = mxz l :=
  Int.le_antisymm (mxz_ge hm) (mxz_le (h0 m hm) h)
/-- pins with their delays -/
def pds (cs : List Ce) (g : Int × List Int) : List (Int × Int) := g.2.zip (cs.getD g.1.toNat ce0).dl
def rch (ts : List Int) (ps : List (Int × Int)) : List Int := (ps.filter fun p => decide (1 < p.1)).map fun p => ts.getD p.1.toNat 0 + p.2
theorem rch_snoc (ts : List Int) (ps : List (Int × Int)) (p : Int × Int) : rch ts (ps ++ [p]) = rch ts ps ++ (if 1 < p.1 then [ts.getD p.1.toNat 0 + p.2] else []) := by
  unfold rch
  rw [List.filter_append, List.map_append]
  congr 1
  by_cases h : 1 < p.1
  · simp [h]
  · simp [h]
def arl (cs : List Ce) (base : List Int) (gs : List (Int × List Int)) : List Int := gs.foldl (fun ts g => ts ++ [mxz (rch ts (pds cs g))]) base
theorem arl_snoc (cs : List Ce) (base : List Int) (gs : List (Int × List Int)) (g : Int × List Int) : arl cs base (gs ++ [g]) = arl cs base gs ++ [mxz (rch (arl cs base gs) (pds cs g))] := by
  unfold arl; rw [List.foldl_append]; rfl
theorem arl_len (cs : List Ce) (base : List Int) (gs : List (Int × List Int)) : (arl cs base gs).length = base.length + gs.length := by
  induction gs generalizing base with
  | nil => rfl
  | cons g r ih =>
    show (arl cs (base ++ [mxz (rch base (pds cs g))]) r).length = _
    rw [ih]; simp; omega
abbrev wz : Int → Int := fun _ => 0
def gwv (cs : List Ce) (ws : List (Int → Int)) (g : Int × List Int) : Int → Int := fun t => pout (cs.getD g.1.toNat ce0).t ((pds cs g).map fun p => (ws.getD p.1.toNat wz) (t - p.2))
def wvs (cs : List Ce) (base : List (Int → Int)) (gs : List (Int × List Int)) : List (Int → Int) := gs.foldl (fun ws g => ws ++ [gwv cs ws g]) base
theorem wvs_snoc (cs : List Ce) (base : List (Int → Int)) (gs : List (Int × List Int)) (g : Int × List Int) : wvs cs base (gs ++ [g]) = wvs cs base gs ++ [gwv cs (wvs cs base gs) g] := by
  unfold wvs; rw [List.foldl_append]; rfl
theorem wvs_len (cs : List Ce) (base : List (Int → Int)) (gs : List (Int × List Int)) : (wvs cs base gs).length = base.length + gs.length := by
  induction gs generalizing base with
  | nil => rfl
  | cons g r ih =>
    show (wvs cs (base ++ [gwv cs base g]) r).length = _
    rw [ih]; simp; omega
theorem gd_snoc {α : Type} {z x : α} {l : List α} {n : Nat} : (l ++ [x]).getD n z = if n = l.length then x else l.getD n z := by
  rw [List.getD_eq_getElem?_getD, List.getD_eq_getElem?_getD]
  by_cases h : n = l.length
  · subst h; simp
  · rw [if_neg h]
    rcases Nat.lt_or_ge n l.length with q | q
    · rw [List.getElem?_append_left q]
    · rw [List.getElem?_append_right q, List.getElem?_eq_none q, List.getElem?_eq_none (by simp; omega)]
theorem gd_out {α : Type} {z : α} {l : List α} {n : Nat} (h : l.length ≤ n) : l.getD n z = z := by
  rw [List.getD_eq_getElem?_getD, List.getElem?_eq_none h]; rfl
/-- waves, arrivals, first and last values belong together -/
structure Wv (ws : List (Int → Int)) (ts bv av : List Int) (m : Nat) : Prop where
  lw : ws.length = m
  lt : ts.length = m
  lb : bv.length = m
  la : av.length = m
  m2 : 2 ≤ m
  z : ∀ n t, t < 0 → (ws.getD n wz) t = bv.getD n 0
  e : ∀ n t, ts.getD n 0 ≤ t → (ws.getD n wz) t = av.getD n 0
  c : ∀ n : Nat, n ≤ 1 → ∀ t, (ws.getD n wz) t = n
  p : ∀ n, 0 ≤ ts.getD n 0
  b : ∀ n t, (ws.getD n wz) t = 0 ∨ (ws.getD n wz) t = 1
theorem Wv.ac {ws : List (Int → Int)} {ts bv av : List Int} {m : Nat} (W : Wv ws ts bv av m) {n : Nat} (h : n ≤ 1) : av.getD n 0 = n := by
  rw [← W.e n _ (Int.le_refl _)]; exact W.c n h _
/-- a gate that fits -/
structure Gok (cs : List Ce) (g : Int × List Int) : Prop where
  ln : g.2.length = (cs.getD g.1.toNat ce0).dl.length
  d : ∀ p ∈ pds cs g, 0 ≤ p.1 ∧ 1 ≤ p.2 ∧ p.2 ≤ 7
theorem Gok.fst {cs : List Ce} {g : Int × List Int} (G : Gok cs g) (f : Int → Int) : (pds cs g).map (fun p => f p.1) = g.2.map f := by
  have e : (pds cs g).map Prod.fst = g.2 := List.map_fst_zip (by rw [G.ln]; exact Nat.le_refl _)
  have : (pds cs g).map (fun p => f p.1) = ((pds cs g).map Prod.fst).map f := by rw [List.map_map]; rfl
  rw [this, e]
theorem Wv.step {cs : List Ce} {ws : List (Int → Int)} {ts bv av : List Int} {m : Nat} (W : Wv ws ts bv av m) {g : Int × List Int} (G : Gok cs g) :
    Wv (ws ++ [gwv cs ws g]) (ts ++ [mxz (rch ts (pds cs g))]) (bv ++ [gval cs bv g]) (av ++ [gval cs av g]) (m + 1) := by
  have hb : ∀ t, gwv cs ws g t = 0 ∨ gwv cs ws g t = 1 := fun t => bt01 _ _
  refine ⟨by simp [W.lw], by simp [W.lt], by simp [W.lb], by simp [W.la], by have := W.m2; omega, fun n t h => ?_, fun n t h => ?_, fun n h t => ?_, fun n => ?_, fun n t => ?_⟩
  · rw [gd_snoc, gd_snoc, W.lw, W.lb]
    split
    · unfold gwv gval pinv
      congr 1
      rw [← G.fst]
      exact List.map_congr_left fun p hp => W.z _ _ (by have := G.d p hp; omega)
    · exact W.z n t h
  · rw [gd_snoc, W.lt] at h
    rw [gd_snoc, gd_snoc, W.lw, W.la]
    split
    · rename_i hn
      rw [if_pos hn] at h
      unfold gwv gval pinv
      congr 1
      rw [← G.fst]
      refine List.map_congr_left fun p hp => ?_
      have hd := G.d p hp
      by_cases h1 : 1 < p.1
      · refine W.e _ _ ?_
        have : ts.getD p.1.toNat 0 + p.2 ∈ rch ts (pds cs g) := List.mem_map.mpr ⟨p, List.mem_filter.mpr ⟨hp, by simpa using h1⟩, rfl⟩
        have := mxz_ge this
        omega
      · have hn : p.1.toNat ≤ 1 := by omega
        show (ws.getD p.1.toNat wz) (t - p.2) = av.getD p.1.toNat 0
        rw [W.c _ hn, W.ac hn]
    · rename_i hn
      rw [if_neg hn] at h
      exact W.e n t h
  · have := W.m2
    rw [gd_snoc, W.lw, if_neg (by omega)]
    exact W.c n h t
  · rw [gd_snoc]
    split
    · exact mxz_0 _
    · exact W.p n
  · rw [gd_snoc]
    split
    · exact hb t
    · exact W.b n t
theorem scn_has {f : Int → Int} : ∀ (n : Nat) (lo t : Int), f t ≠ f (t - 1) → lo ≤ t → t < lo + n → (t, f t) ∈ scn f (f (lo - 1)) (irg lo n)
  | 0, lo, t, _, h0, h1 => by omega
  | n + 1, lo, t, hne, h0, h1 => by
    have e1 : lo + 1 - 1 = lo := by omega
    simp only [irg, scn]
    by_cases ht : t = lo
    · subst ht
      rw [if_neg hne]
      simp
    · have ih := scn_has (f := f) n (lo + 1) t hne (by omega) (by omega)
      rw [e1] at ih
      split
      · rename_i e
        rw [← e]; exact ih
      · exact List.mem_cons_of_mem _ ih
/-- the changes of each net up to a time -/
def chs (ws : List (Int → Int)) (bv : List Int) (M n : Nat) : List (Int × Int) := scn (ws.getD n wz) (bv.getD n 0) (irg 0 M)
section
variable {cs : List Ce} {ws : List (Int → Int)} {ts bv av : List Int} {m M : Nat}
theorem Wv.pre (W : Wv ws ts bv av m) (n : Nat) : (ws.getD n wz) (0 - 1) = bv.getD n 0 := W.z n _ (by omega)
theorem Wv.in_ (W : Wv ws ts bv av m) {n : Nat} {c : Int × Int} (h : c ∈ chs ws bv M n) : 0 ≤ c.1 ∧ c.1 ≤ ts.getD n 0 ∧ 1 < n := by
  have h1 := irg_mem.mp (scn_mem h).1
  unfold chs at h
  rw [← W.pre n] at h
  refine ⟨h1.1, scn_le M 0 (W.e n) c h, ?_⟩
  rcases Nat.lt_or_ge 1 n with q | q
  · exact q
  · have := scn_le (a := -1) (e := n) M 0 (fun t _ => W.c n (by omega) t) c h
    omega
theorem Wv.at_ (W : Wv ws ts bv av m) (n : Nat) {t : Int} (h : t < M) : vin (bv.getD n 0) (chs ws bv M n) t = (ws.getD n wz) t := vin_all (W.z n) h
/-- when a gate may change -/
def Tms (cs : List Ce) (ws : List (Int → Int)) (bv : List Int) (M : Nat) (g : Int × List Int) (t : Int) : Prop := ∃ p ∈ pds cs g, ∃ c ∈ chs ws bv M p.1.toNat, t = c.1 + p.2
theorem Wv.tms (W : Wv ws ts bv av m) {g : Int × List Int} (G : Gok cs g) (hM : mxz (rch ts (pds cs g)) < M) {t : Int} (h : Tms cs ws bv M g t) : 0 ≤ t ∧ t < M := by
  obtain ⟨p, hp, c, hc, rfl⟩ := h
  have hi := W.in_ hc
  have hd := G.d p hp
  have : ts.getD p.1.toNat 0 + p.2 ∈ rch ts (pds cs g) := List.mem_map.mpr ⟨p, List.mem_filter.mpr ⟨hp, by simp; omega⟩, rfl⟩
  have := mxz_ge this
  omega
theorem Wv.gate (W : Wv ws ts bv av m) {g : Int × List Int} (G : Gok cs g) (hM : mxz (rch ts (pds cs g)) < M) {ys : List Int} (hp : ys.Pairwise (· < ·)) (hy : ∀ t, t ∈ ys ↔ Tms cs ws bv M g t) :
    scn (gwv cs ws g) (gval cs bv g) ys = scn (gwv cs ws g) (gval cs bv g) (irg 0 M) := by
  have e : gwv cs ws g (0 - 1) = gval cs bv g := by
    have := (W.step G).z m (0 - 1) (by omega)
    rw [gd_snoc, gd_snoc, W.lw, W.lb, if_pos rfl, if_pos rfl] at this
    exact this
  rw [← e]
  refine scn_sub M 0 ys hp (fun t ht => by have := W.tms G hM ((hy t).mp ht); omega) fun t h0 h1 hn => ?_
  unfold gwv
  congr 1
  refine List.map_congr_left fun p hpp => ?_
  have hd := G.d p hpp
  by_cases hlt : t - p.2 < 0
  · rw [W.z _ _ hlt, W.z _ _ (by omega)]
  · by_cases hq : (ws.getD p.1.toNat wz) (t - p.2) = (ws.getD p.1.toNat wz) (t - p.2 - 1)
    · rw [hq, show t - p.2 - 1 = t - 1 - p.2 by omega]
    · have hm := scn_has M 0 (t - p.2) hq (by omega) (by omega)
      rw [W.pre] at hm
      exact absurd ((hy t).mpr ⟨p, hpp, _, hm, by simp⟩) hn
end
/-- a source: one change at most -/
theorem scn_src {a b s : Int} {M : Nat} (h0 : 0 ≤ s) (h1 : s < M) : scn (fun t => if t < s then b else a) b (irg 0 M) = if b = a then [] else [(s, a)] := by
  have e : (if (0 : Int) - 1 < s then b else a) = b := if_pos (by omega)
  have h := scn_sub (f := fun t => if t < s then b else a) M 0 [s] (by simp) (by simp; omega) (fun t h0 h1 hn => by
    have hn : t ≠ s := by simpa using hn
    show (if t < s then b else a) = if t - 1 < s then b else a
    by_cases q : t < s
    · rw [if_pos q, if_pos (by omega)]
    · rw [if_neg q, if_neg (by omega)])
  simp only [e] at h
  rw [← h]
  show (if (if s < s then b else a) = b then [] else [(s, if s < s then b else a)]) = _
  rw [if_neg (Int.lt_irrefl s)]
  by_cases q : b = a
  · rw [if_pos q.symm, if_pos q]
  · rw [if_neg (fun z => q z.symm), if_neg q]
theorem scn_const {b : Int} {M : Nat} {f : Int → Int} (h : ∀ t, f t = b) : scn f b (irg 0 M) = [] := by
  have hM : ∀ (M : Nat) lo, scn f b (irg lo M) = [] := by
    intro M
    induction M with
    | zero => intro lo; rfl
    | succ n ih => intro lo; simp only [irg, scn]; rw [if_pos (h lo)]; exact ih _
  exact hM M 0
/-! ### k47: values in time at a period (plain) -/
def pcl (x : Int) : Int := if 0 > x then 0 else x
def src (N : NL) (rows sts : List (List Int)) (per net t : Int) : Int :=
  if net < 2 then net
  else if net < 2 + N.inp then (rows.getD (pcl (t / per)).toNat []).getD (net - 2).toNat 0
  else (sts.getD (pcl ((t - N.fd) / per)).toNat []).getD (net - 2 - N.inp).toNat 0
def bwv (N : NL) (rows sts : List (List Int)) (per : Int) : List (Int → Int) := (List.range (2 + N.inp.toNat + N.regs.length)).map fun (k : Nat) => src N rows sts per (k : Int)
def dwv (N : NL) (rows sts : List (List Int)) (per : Int) : List (Int → Int) := wvs N.cells (bwv N rows sts per) N.gates
theorem bwv_len (N : NL) (rows sts : List (List Int)) (per : Int) : (bwv N rows sts per).length = 2 + N.inp.toNat + N.regs.length := by simp [bwv]
theorem wvs_take {cs : List Ce} {base : List (Int → Int)} (gs : List (Int × List Int)) {n : Nat} : ∀ m, n < base.length + m → m ≤ gs.length → ∀ {d : Int → Int}, (wvs cs base gs).getD n d = (wvs cs base (gs.take m)).getD n d := by
  intro m
  induction hq : gs.length - m generalizing m with
  | zero =>
    intro h1 h2 d
    rw [List.take_of_length_le (by omega)]
  | succ q ih =>
    intro h1 h2 d
    rw [ih (m + 1) (by omega) (by omega) (by omega), take_snoc (z := g0) (show m < gs.length by omega), wvs_snoc, gd_snoc, if_neg]
    rw [wvs_len, List.length_take]
    omega
theorem dwv_src {N : NL} {rows sts : List (List Int)} {per : Int} (h0 : 0 ≤ N.inp) {n : Int} (h1 : 0 ≤ n) (h2 : n < 2 + N.inp + N.regs.length) : (dwv N rows sts per).getD n.toNat wz = src N rows sts per n := by
  unfold dwv
  rw [wvs_take (n := n.toNat) N.gates 0 (by rw [bwv_len]; omega) (Nat.zero_le _), List.take_zero]
  show (bwv N rows sts per).getD n.toNat wz = _
  unfold bwv
  rw [List.getD_eq_getElem?_getD, List.getElem?_map, List.getElem?_range (by omega)]
  show src N rows sts per ((n.toNat : Nat) : Int) = _
  rw [Int.toNat_of_nonneg h1]
theorem dwv_gate {N : NL} (VV : Vd N) {rows sts : List (List Int)} {per : Int} {k : Nat} (hk : k < N.gates.length) (t : Int) :
    ((dwv N rows sts per).getD (2 + N.inp.toNat + N.regs.length + k) wz) t = pout (N.cells.getD (N.gates.getD k g0).1.toNat ce0).t ((pds N.cells (N.gates.getD k g0)).map fun p => ((dwv N rows sts per).getD p.1.toNat wz) (t - p.2)) := by
  have hi := VV.i0
  have hb := bwv_len N rows sts per
  unfold dwv
  rw [wvs_take (n := 2 + N.inp.toNat + N.regs.length + k) N.gates (k + 1) (by omega) (by omega), take_snoc (z := g0) hk, wvs_snoc, gd_snoc, if_pos (by rw [wvs_len, List.length_take]; omega)]
  unfold gwv
  refine congrArg (pout _) (List.map_congr_left fun p hp => ?_)
  have hm : p.1 ∈ (N.gates.getD k g0).2 := (List.of_mem_zip hp).1
  have hr := (VV.gt k hk).2.2.2 p.1 hm
  rw [wvs_take (n := p.1.toNat) N.gates k (by omega) (by omega)]
/-- what the runs keep: the states, the outputs -/
def dlF (N : NL) (rows : List (List Int)) (rs : List Int) (per : Int) : Nat → List (List Int) × List (List Int)
  | 0 => ([ini N], [])
  | c + 1 =>
    ((dlF N rows rs per c).1 ++ [if rs.getD c 0 = 1 then ini N else N.regs.map fun p => ((dwv N rows (dlF N rows rs per c).1 per).getD p.1.toNat wz) (((c : Int) + 1) * per - N.su)],
      (dlF N rows rs per c).2 ++ [N.outs.map fun n => ((dwv N rows (dlF N rows rs per c).1 per).getD n.toNat wz) (((c : Int) + 1) * per - N.su)])
theorem dlF_len (N : NL) (rows : List (List Int)) (rs : List Int) (per : Int) : ∀ c, (dlF N rows rs per c).1.length = c + 1 ∧ (dlF N rows rs per c).2.length = c
  | 0 => ⟨rfl, rfl⟩
  | c + 1 => by
    have ih := dlF_len N rows rs per c
    unfold dlF
    simp only [List.length_append, List.length_cons, List.length_nil]
    omega
theorem dlF_st (N : NL) (rows : List (List Int)) (rs : List Int) (per : Int) : ∀ c, ∀ s ∈ (dlF N rows rs per c).1, s.length = N.regs.length
  | 0, s, h => by
    have h : s ∈ [ini N] := h
    rw [List.mem_singleton.mp h]
    simp [ini]
  | c + 1, s, h => by
    have h : s ∈ (dlF N rows rs per c).1 ++ [_] := h
    rcases List.mem_append.mp h with h | h
    · exact dlF_st N rows rs per c s h
    · rw [List.mem_singleton.mp h]
      split <;> simp [ini]
/-- the rows and the states are there at a time -/
structure Tm (N : NL) (rows sts : List (List Int)) (per t : Int) : Prop where
  p0 : 0 < per
  pl : per < 1000
  r0 : 0 < rows.length
  s0 : 0 < sts.length
  rr : t / per < rows.length
  sr : (t - N.fd) / per < sts.length
theorem Tm.le {N : NL} {rows sts : List (List Int)} {per t u : Int} (h : Tm N rows sts per t) (hu : u ≤ t) : Tm N rows sts per u :=
  ⟨h.p0, h.pl, h.r0, h.s0, Int.lt_of_le_of_lt (Int.ediv_le_ediv h.p0 hu) h.rr, Int.lt_of_le_of_lt (Int.ediv_le_ediv h.p0 (by omega)) h.sr⟩
theorem Tm.of {N : NL} (VV : Vd N) {rows sts : List (List Int)} {per : Int} {c : Nat} (hp : 0 < per) (hpl : per < 1000) (hr : c < rows.length) (hs : sts.length = c + 1) : Tm N rows sts per (((c : Int) + 1) * per - N.su) := by
  have hsu := VV.su0
  have hfd := VV.fd0
  have key : ∀ x : Int, x < ((c : Int) + 1) * per → x / per < (c : Int) + 1 := fun x h => Int.ediv_lt_of_lt_mul hp h
  refine ⟨hp, hpl, by omega, by omega, ?_, ?_⟩
  · have := key (((c : Int) + 1) * per - N.su) (by omega); omega
  · have := key (((c : Int) + 1) * per - N.su - N.fd) (by omega); omega
theorem pcl_rng {x : Int} {n : Nat} (h : x < n) (h0 : 0 < n) : 0 ≤ pcl x ∧ pcl x < n := by
  unfold pcl; split <;> omega
/-- pairs of pins and delays -/
theorem pds_len {N : NL} (VV : Vd N) {k : Nat} (hk : k < N.gates.length) : (N.gates.getD k g0).2.length = (N.cells.getD (N.gates.getD k g0).1.toNat ce0).dl.length ∧ (pds N.cells (N.gates.getD k g0)).length = (N.gates.getD k g0).2.length ∧ (N.gates.getD k g0).2.length ≤ 4 := by
  have hg := VV.gt k hk
  have hp := VV.gp k hk
  have hc := VV.cp (N.cells.getD (N.gates.getD k g0).1.toNat ce0) (by
    rw [List.getD_eq_getElem?_getD, List.getElem?_eq_getElem (by omega)]
    exact List.getElem_mem _)
  have e : (N.gates.getD k g0).2.length = (N.cells.getD (N.gates.getD k g0).1.toNat ce0).dl.length := by omega
  refine ⟨e, ?_, by omega⟩
  unfold pds
  rw [List.length_zip]
  omega
theorem pds_get {N : NL} (VV : Vd N) {k : Nat} (hk : k < N.gates.length) {j : Nat} (hj : j < (N.gates.getD k g0).2.length) :
    (pds N.cells (N.gates.getD k g0))[j]? = some ((N.gates.getD k g0).2.getD j 0, (N.cells.getD (N.gates.getD k g0).1.toNat ce0).dl.getD j 0) := by
  have e := (pds_len VV hk).1
  unfold pds
  generalize N.gates.getD k g0 = g at e hj ⊢
  generalize (N.cells.getD g.1.toNat ce0).dl = dl at e ⊢
  rw [List.getElem?_zip_eq_some]
  refine ⟨?_, ?_⟩
  · show g.2[j]? = some (g.2.getD j 0)
    rw [List.getD_eq_getElem?_getD, List.getElem?_eq_getElem hj]; rfl
  · show dl[j]? = some (dl.getD j 0)
    rw [List.getD_eq_getElem?_getD, List.getElem?_eq_getElem (show j < dl.length by omega)]; rfl
theorem dl_rng {N : NL} (VV : Vd N) {k : Nat} (hk : k < N.gates.length) {j : Nat} (hj : j < (N.gates.getD k g0).2.length) : 1 ≤ (N.cells.getD (N.gates.getD k g0).1.toNat ce0).dl.getD j 0 ∧ (N.cells.getD (N.gates.getD k g0).1.toNat ce0).dl.getD j 0 ≤ 7 := by
  have e := pds_len VV hk
  have hg := VV.gt k hk
  have hc := VV.cp (N.cells.getD (N.gates.getD k g0).1.toNat ce0) (by
    rw [List.getD_eq_getElem?_getD, List.getElem?_eq_getElem (by omega)]
    exact List.getElem_mem _)
  exact hc.2.2.2 _ (getD_mem (by omega))
theorem pin_rng {N : NL} (VV : Vd N) {k : Nat} (hk : k < N.gates.length) {j : Nat} (hj : j < (N.gates.getD k g0).2.length) : 0 ≤ (N.gates.getD k g0).2.getD j 0 ∧ (N.gates.getD k g0).2.getD j 0 < 2 + N.inp + N.regs.length + k :=
  (VV.gt k hk).2.2.2 _ (getD_mem hj)
/-! ### k47: the run's object -/
structure Clk (v : Ev) (w : Wd) (g a : Addr) (xr : V) (per : Int) (st : Addr) (dx : Addr) (sts : List (List Int)) : Prop where
  og : Op w g (.ins (v.cls c_Clocked) dx [("netlist", .ref a), ("rows", xr), ("period", .int per), ("states", .ref st)])
  os : ∃ vs, Op w st (.lst vs) ∧ Dvs w vs (sts.map ids)
theorem Clk.ex {v : Ev} {T : List Addr} {w w' : Wd} {g a : Addr} {xr : V} {per : Int} {st dx : Addr} {sts : List (List Int)} (e : Ex T w w') (C : Clk v w g a xr per st dx sts) (h1 : g ∉ T) (h2 : st ∉ T) : Clk v w' g a xr per st dx sts := by
  obtain ⟨vs, o, d⟩ := C.os
  exact ⟨C.og.ex e h1, vs, o.ex e h2, d.ex e⟩
theorem Clk.ex0 {v : Ev} {w w' : Wd} {g a : Addr} {xr : V} {per : Int} {st dx : Addr} {sts : List (List Int)} (C : Clk v w g a xr per st dx sts) (e : Ex [] w w') : Clk v w' g a xr per st dx sts := C.ex e (by simp) (by simp)
section
variable {v : Ev} {n : Nat} {w : Wd} {Q : VK} {E : XK} {a g st dx : Addr} {A : NA} {N : NL} {xr : V} {per : Int} {rows sts : List (List Int)}
theorem first_reg_spec (h : Nt v w a A N) (q : Q (.int (2 + N.inp)) w.H) : spOf v D (n + 1) i_Netlist_first_register [.ref a] w.H Q E := by
  refine in_Netlist_first_register ?_
  unfold b_Netlist_first_register
  walk_at "g5"
  refine k_flH h.h rfl ?_
  walk_at "g5"
  exact q
theorem first_gate_spec (h : Nt v w a A N) (q : Q (.int (2 + N.inp + N.regs.length)) w.H) : spOf v D (n + 2) i_Netlist_first_gate [.ref a] w.H Q E := by
  refine in_Netlist_first_gate ?_
  unfold b_Netlist_first_gate
  walk_at "g5"
  refine k_flH h.h rfl ?_
  walk_at "g5"
  refine k_flH h.h rfl ?_
  walk_at "g5"
  refine f_lenL h.rg ?_
  rw [List.length_map]
  walk_at "g5"
  exact q
theorem source_value_spec {net t : Int} (h : Nt v w a A N) (VV : Vd N) (C : Clk v w g a xr per st dx sts) (dr : Dv w xr (.list (rows.map ids))) (hr : ∀ r ∈ rows, (r.length : Int) = N.inp) (hs : ∀ s ∈ sts, s.length = N.regs.length) (TT : Tm N rows sts per t) (h0 : 0 ≤ net) (h1 : net < 2 + N.inp + N.regs.length)
    (q : Q (.int (src N rows sts per net t)) w.H) : spOf v D (n + 2) i_Clocked_source_value [.ref g, .int net, .int t] w.H Q E := by
  have hp := TT.p0
  have hpl := TT.pl
  have hi0 := VV.i0
  have rr := pcl_rng TT.rr TT.r0
  have sr := pcl_rng TT.sr TT.s0
  unfold src at q
  refine in_Clocked_source_value ?_
  unfold b_Clocked_source_value
  walk_at "g5"
  refine kif_d (fun hc => ?_) fun hc => ?_
  · rw [if_pos hc] at q
    walk_at "g5"
    exact q
  rw [if_neg hc] at q
  walk_at "g5"
  refine k_fl C.og rfl ?_
  walk_at "g5"
  refine k_meH h.h (by rfl) ?_
  walk_at "g5"
  refine first_reg_spec h ?_
  walk_at "g5"
  refine kif_d (fun hc => ?_) fun hc => ?_
  · rw [if_pos hc] at q
    walk_at "g5"
    refine k_fl C.og rfl ?_
    walk_at "g5"
    refine k_fl C.og rfl ?_
    walk_at "g5"
    refine o_fdv hp (log_small (by omega)) ?_
    walk_at "g5"
    rw [show (if 0 > t / per then 0 else t / per) = pcl (t / per) from rfl]
    refine i_M (z := ([] : List Int)) (g := ids) dr rr.1 rr.2 fun y dy => ?_
    walk_at "g5"
    have hl := hr (rows.getD (pcl (t / per)).toNat []) (by
      rw [List.getD_eq_getElem?_getD, List.getElem?_eq_getElem (show (pcl (t / per)).toNat < rows.length by omega)]
      exact List.getElem_mem _)
    refine i_G dy (by omega) (by omega) ?_
    walk_at "g5"
    exact q
  · rw [if_neg hc] at q
    obtain ⟨vs, os, ds⟩ := C.os
    walk_at "g5"
    refine k_fl C.og rfl ?_
    walk_at "g5"
    refine k_flH h.h rfl ?_
    walk_at "g5"
    refine k_flH h.hl rfl ?_
    walk_at "g5"
    refine k_fl C.og rfl ?_
    walk_at "g5"
    refine o_fdv hp (log_small (by omega)) ?_
    walk_at "g5"
    refine k_fl C.og rfl ?_
    walk_at "g5"
    rw [show (if 0 > (t - N.fd) / per then 0 else (t - N.fd) / per) = pcl ((t - N.fd) / per) from rfl]
    refine i_OM (z := ([] : List Int)) (g := ids) os.h ds sr.1 sr.2 fun y dy => ?_
    walk_at "g5"
    have hl := hs (sts.getD (pcl ((t - N.fd) / per)).toNat []) (by
      rw [List.getD_eq_getElem?_getD, List.getElem?_eq_getElem (show (pcl ((t - N.fd) / per)).toNat < sts.length by omega)]
      exact List.getElem_mem _)
    refine i_G dy (by omega) (by omega) ?_
    rw [show net - (2 + N.inp) = net - 2 - N.inp by omega]
    exact q
end
/-! ### k47: a list of open dicts -/
abbrev fD : Nat → List Int → HO := fun _ L => .dK (kvT L)
abbrev fL (sp : Nat) (od : Obj) : Nat → List Int → HO := fun i L => if i = sp then .frz od (.dK (kvT L)) else .dK (kvT L)
structure NdW (w0 w : Wd) (nd : Addr) (ps : List Addr) (T : List (List Int)) (F : Nat → List Int → HO) : Prop where
  o : Op w nd (.lst (ps.map V.ref))
  ln : ps.length = T.length
  un : ps.Nodup
  ne : nd ∉ ps
  ds : ∀ i, i < T.length → Op w (ps.getD i nd) (F i (T.getD i []))
  f0 : w0.H nd = none
  fr : ∀ p ∈ ps, w0.H p = none
theorem getD_memA {ps : List Addr} {i : Nat} {z : Addr} (h : i < ps.length) : ps.getD i z ∈ ps := by
  rw [List.getD_eq_getElem?_getD, List.getElem?_eq_getElem h]; exact List.getElem_mem _
theorem nodup_getD {ps : List Addr} (un : ps.Nodup) {i j : Nat} {z : Addr} (hi : i < ps.length) (hj : j < ps.length) (h : ps.getD i z = ps.getD j z) : i = j := by
  rw [List.getD_eq_getElem?_getD, List.getElem?_eq_getElem hi, List.getD_eq_getElem?_getD, List.getElem?_eq_getElem hj] at h
  have key := List.pairwise_iff_getElem.mp un
  rcases Nat.lt_trichotomy i j with z | z | z
  · exact absurd h (key i j hi hj z)
  · exact z
  · exact absurd h.symm (key j i hj hi z)
theorem getD_setL {T : List (List Int)} {i j : Nat} {L : List Int} (hi : i < T.length) : (T.set i L).getD j [] = if i = j then L else T.getD j [] := by
  rw [List.getD_eq_getElem?_getD, List.getElem?_set]
  by_cases e : i = j
  · rw [if_pos e, if_pos e, if_pos (by omega)]; rfl
  · rw [if_neg e, if_neg e, ← List.getD_eq_getElem?_getD]
section
variable {w0 w w' : Wd} {nd : Addr} {ps : List Addr} {T : List (List Int)} {F F' : Nat → List Int → HO}
theorem NdW.ex {U : List Addr} (h : NdW w0 w nd ps T F) (e : Ex U w w') (h0 : nd ∉ U) (h1 : ∀ p ∈ ps, p ∉ U) : NdW w0 w' nd ps T F :=
  ⟨h.o.ex e h0, h.ln, h.un, h.ne, fun i hi => (h.ds i hi).ex e (h1 _ (getD_memA (by rw [h.ln]; exact hi))), h.f0, h.fr⟩
theorem NdW.ex0 (h : NdW w0 w nd ps T F) (e : Ex [] w w') : NdW w0 w' nd ps T F := h.ex e (by simp) (by simp)
/-- another thing at one place -/
theorem NdW.set {i : Nat} {L : List Int} {u : HO} (h : NdW w0 w nd ps T F) (hi : i < T.length) (e : Ex [ps.getD i nd] w w') (o : Op w' (ps.getD i nd) u) (hu : u = F' i L) (hF : ∀ j, j ≠ i → F' j = F j) : NdW w0 w' nd ps (T.set i L) F' := by
  have hl := h.ln
  have hm : ps.getD i nd ∈ ps := getD_memA (by omega)
  refine ⟨h.o.ex e ?_, by rw [List.length_set]; exact hl, h.un, h.ne, fun j hj => ?_, h.f0, h.fr⟩
  · simp only [List.mem_singleton]; exact fun z => h.ne (by rw [z]; exact hm)
  · rw [List.length_set] at hj
    rw [getD_setL hi]
    by_cases z : i = j
    · subst z; rw [if_pos rfl, ← hu]; exact o
    · rw [if_neg z, hF j (Ne.symm z)]
      refine (h.ds j hj).ex e ?_
      simp only [List.mem_singleton]
      exact fun q => z (nodup_getD h.un (by omega) (by omega) q).symm
theorem NdW.fr_ (h : NdW w0 w nd ps T F) {i : Nat} (hi : i < T.length) : w0.H (ps.getD i nd) = none := h.fr _ (getD_memA (by rw [h.ln]; exact hi))
theorem set_same {i : Nat} : T.set i (T.getD i []) = T := by
  refine List.ext_getElem? fun k => ?_
  rw [List.getElem?_set]
  by_cases e : i = k
  · subst e
    rw [if_pos rfl]
    split
    · rename_i h
      rw [List.getD_eq_getElem?_getD, List.getElem?_eq_getElem h]; rfl
    · rename_i h
      rw [List.getElem?_eq_none (by omega)]
  · rw [if_neg e]
/-- locked, unlocked -/
theorem NdW.lock {i : Nat} {od : Obj} (h : NdW w0 w nd ps T fD) (hi : i < T.length) (e : Ex [ps.getD i nd] w w') (o : Op w' (ps.getD i nd) (.frz od (.dK (kvT (T.getD i []))))) : NdW w0 w' nd ps T (fL i od) := by
  have := h.set (F' := fL i od) (L := T.getD i []) hi e o (by show _ = if i = i then _ else _; rw [if_pos rfl]) (fun j hj => by funext L; show (if j = i then _ else _) = _; rw [if_neg hj])
  rwa [set_same] at this
theorem NdW.unlock {i : Nat} {od : Obj} (h : NdW w0 w nd ps T (fL i od)) (hi : i < T.length) (e : Ex [ps.getD i nd] w w') (o : Op w' (ps.getD i nd) (.dK (kvT (T.getD i [])))) : NdW w0 w' nd ps T fD := by
  have := h.set (F' := fD) (L := T.getD i []) hi e o rfl (fun j hj => by funext L; show _ = (if j = i then _ else _); rw [if_neg hj])
  rwa [set_same] at this
end
/-- what stands in the lists of needed times -/
structure Cl (N : NL) (T0 : Int) (T : List (List Int)) (k : Nat) : Prop where
  len : T.length = 2 + N.inp.toNat + N.regs.length + N.gates.length
  un : ∀ i, (T.getD i []).Nodup
  rg : ∀ i, ∀ t ∈ T.getD i [], t ≤ T0 ∧ T0 - 7 * ((N.gates.length : Int) - k) ≤ t
  cl : ∀ m, k ≤ m → m < N.gates.length → ∀ t ∈ T.getD (2 + N.inp.toNat + N.regs.length + m) [], ∀ p ∈ pds N.cells (N.gates.getD m g0), t - p.2 ∈ T.getD p.1.toNat []
theorem rg_len {T0 : Int} {L : List Int} {m : Nat} (un : L.Nodup) (h : ∀ t ∈ L, t ≤ T0 ∧ T0 - m ≤ t) : L.length ≤ m + 1 := by
  have e : (L.map fun t => T0 - t).length = L.length := List.length_map ..
  rw [← e]
  refine nodup_len (m + 1) _ (List.pairwise_map.mpr (un.imp fun hab q => hab (by omega))) fun t ht => ?_
  obtain ⟨u, hu, rfl⟩ := List.mem_map.mp ht
  have := h u hu
  omega
/-! ### k47: the needed times -/
def Grow (T T' : List (List Int)) (S : Nat → Int → Prop) : Prop := T'.length = T.length ∧ (∀ i, (T'.getD i []).Nodup) ∧ ∀ i u, u ∈ T'.getD i [] ↔ u ∈ T.getD i [] ∨ S i u
theorem Grow.refl {T : List (List Int)} (un : ∀ i, (T.getD i []).Nodup) : Grow T T fun _ _ => False := ⟨rfl, un, fun i u => by simp⟩
theorem Grow.iff {T T' : List (List Int)} {S S' : Nat → Int → Prop} (g : Grow T T' S) (h : ∀ i u, S i u ↔ S' i u) : Grow T T' S' := ⟨g.1, g.2.1, fun i u => by rw [g.2.2, h]⟩
theorem Grow.set {T T' : List (List Int)} {S : Nat → Int → Prop} (g : Grow T T' S) {i : Nat} {t : Int} {L : List Int} (hi : i < T'.length) (un : L.Nodup) (hm : ∀ u, u ∈ L ↔ u ∈ T'.getD i [] ∨ u = t) : Grow T (T'.set i L) fun j u => S j u ∨ (j = i ∧ u = t) := by
  refine ⟨by rw [List.length_set]; exact g.1, fun j => ?_, fun j u => ?_⟩
  · rw [getD_setL hi]
    split
    · exact un
    · exact g.2.1 j
  · rw [getD_setL hi]
    split
    · rename_i e
      subst e
      rw [hm, g.2.2]
      simp [or_assoc]
    · rename_i e
      rw [g.2.2]
      show _ ↔ u ∈ T.getD j [] ∨ (S j u ∨ (j = i ∧ u = t))
      have : (j = i ∧ u = t) ↔ False := by constructor; exact fun h => e h.1.symm; exact fun h => h.elim
      rw [this, or_false]
section
variable {w0 w w' : Wd} {nd : Addr} {ps : List Addr} {T : List (List Int)} {F : Nat → List Int → HO}
theorem NdW.put1 {i : Nat} {t : Int} (h : NdW w0 w nd ps T F) (hi : i < T.length) (un : (T.getD i []).Nodup) (hF : F i = fD i) (e : Ex [ps.getD i nd] w w') (o : Op w' (ps.getD i nd) (.dK (putK (kvT (T.getD i [])) (.inl t) (.bl true)))) :
    ∃ L, NdW w0 w' nd ps (T.set i L) F ∧ L.Nodup ∧ ∀ u, u ∈ L ↔ u ∈ T.getD i [] ∨ u = t := by
  obtain ⟨ks', e1, h1, h2⟩ := kvT_putN un t
  rw [e1] at o
  exact ⟨ks', h.set hi e o (by rw [hF]) fun _ _ => rfl, h1, h2⟩
theorem NdW.snoc {i : Nat} {p : Addr} {w2 : Wd} (h : NdW w0 w nd ps (List.replicate i []) fD) (E : Ex [] w0 w) (e : Ex [] w w') (hp : w.H p = none) (o : Op w' p (.dK [])) (e2 : Ex [nd] w' w2) (o2 : Op w2 nd (.lst (ps.map V.ref ++ [.ref p]))) : NdW w0 w2 nd (ps ++ [p]) (List.replicate (i + 1) []) fD := by
  have hl := h.ln
  rw [List.length_replicate] at hl
  have hpn : p ∉ ps := fun hm => by
    obtain ⟨j, hj, ej⟩ := List.getElem_of_mem hm
    have := (h.ds j (by rw [List.length_replicate]; omega)).h
    rw [List.getD_eq_getElem?_getD, List.getElem?_eq_getElem hj, Option.getD_some, ej, hp] at this
    cases this
  have hne : p ≠ nd := fun z => by have := h.o.h; rw [← z, hp] at this; cases this
  refine ⟨by simpa using o2, by simp [hl], ?_, ?_, fun j hj => ?_, h.f0, ?_⟩
  · rw [List.nodup_append]
    exact ⟨h.un, by simp, fun a ha b hb => by rw [List.mem_singleton.mp hb]; exact fun z => hpn (z ▸ ha)⟩
  · intro z
    rcases List.mem_append.mp z with z | z
    · exact h.ne z
    · exact hne (List.mem_singleton.mp z).symm
  · rw [List.length_replicate] at hj
    have er : ∀ m, (List.replicate m ([] : List Int)).getD j [] = [] := fun m => by
      rw [List.getD_eq_getElem?_getD]
      cases q : (List.replicate m ([] : List Int))[j]? with
      | none => rfl
      | some y => have := List.mem_of_getElem? q; rw [List.eq_of_mem_replicate this]; rfl
    rw [er]
    rcases Nat.lt_or_ge j ps.length with z | z
    · rw [List.getD_eq_getElem?_getD, List.getElem?_append_left z, ← List.getD_eq_getElem?_getD]
      have := h.ds j (by rw [List.length_replicate]; omega)
      rw [er] at this
      exact (this.ex e (by simp)).ex e2 (by simp only [List.mem_singleton]; exact fun q => h.ne (q ▸ getD_memA z))
    · have : j = ps.length := by omega
      subst this
      rw [List.getD_eq_getElem?_getD, List.getElem?_append_right (Nat.le_refl _), Nat.sub_self]
      exact o.ex e2 (by simpa using hne)
  · intro b hb
    rcases List.mem_append.mp hb with hb | hb
    · exact h.fr b hb
    · rw [List.mem_singleton.mp hb]; exact E.free hp
end
theorem repl_getD (m j : Nat) : (List.replicate m ([] : List Int)).getD j [] = [] := by
  rw [List.getD_eq_getElem?_getD]
  cases q : (List.replicate m ([] : List Int))[j]? with
  | none => rfl
  | some y => have := List.mem_of_getElem? q; rw [List.eq_of_mem_replicate this]; rfl
/-- one gate more -/
theorem Cl.step {N : NL} (VV : Vd N) {T0 : Int} {T T' : List (List Int)} {k : Nat} (hk : k < N.gates.length) (C : Cl N T0 T (k + 1))
    (G : Grow T T' fun i u => ∃ p ∈ pds N.cells (N.gates.getD k g0), i = p.1.toNat ∧ ∃ t ∈ T.getD (2 + N.inp.toNat + N.regs.length + k) [], u = t - p.2) : Cl N T0 T' k := by
  have hi0 := VV.i0
  have hpd : ∀ p ∈ pds N.cells (N.gates.getD k g0), p.1.toNat < 2 + N.inp.toNat + N.regs.length + k ∧ 1 ≤ p.2 ∧ p.2 ≤ 7 := fun p hp => by
    obtain ⟨j, hj, ej⟩ := List.getElem_of_mem hp
    have e := pds_len VV hk
    have hj' : j < (N.gates.getD k g0).2.length := by omega
    have := pds_get VV hk hj'
    rw [List.getElem?_eq_getElem hj, ej] at this
    cases this
    have h1 := pin_rng VV hk hj'
    have h2 := dl_rng VV hk hj'
    exact ⟨by dsimp only; omega, h2⟩
  have same : ∀ m, k ≤ m → ∀ u, u ∈ T'.getD (2 + N.inp.toNat + N.regs.length + m) [] ↔ u ∈ T.getD (2 + N.inp.toNat + N.regs.length + m) [] := fun m hm u => by
    rw [G.2.2]
    constructor
    · rintro (h | ⟨p, hp, he, _⟩)
      · exact h
      · have := (hpd p hp).1; omega
    · exact .inl
  refine ⟨by rw [G.1]; exact C.len, G.2.1, fun i t ht => ?_, fun m hm hm2 t ht p hp => ?_⟩
  · rcases (G.2.2 i t).mp ht with h | ⟨p, hp, _, u, hu, rfl⟩
    · have := C.rg i t h
      omega
    · have h1 := C.rg _ u hu
      have h2 := hpd p hp
      omega
  · have ht := (same m hm t).mp ht
    rw [G.2.2]
    rcases Nat.lt_or_ge k m with z | z
    · exact .inl (C.cl m z hm2 t ht p hp)
    · have : m = k := by omega
      subst this
      exact .inr ⟨p, hp, rfl, t, ht, rfl⟩
section
variable {v : Ev} {n : Nat} {w : Wd} {Q : VK} {E : XK} {a g st dx : Addr} {A : NA} {N : NL} {xr : V} {per : Int} {rows sts : List (List Int)}
theorem net_count_spec (h : Nt v w a A N) (q : Q (.int (2 + N.inp + N.regs.length + N.gates.length)) w.H) : spOf v D (n + 3) i_Netlist_net_count [.ref a] w.H Q E := by
  refine in_Netlist_net_count ?_
  unfold b_Netlist_net_count
  walk_at "g5"
  refine k_meH h.h (by rfl) ?_
  walk_at "g5"
  refine first_gate_spec h ?_
  walk_at "g5"
  refine k_flH h.h rfl ?_
  walk_at "g5"
  refine f_lenL h.gt ?_
  rw [List.length_map]
  walk_at "g5"
  exact q
theorem nd_at {w0 : Wd} {nd : Addr} {ps : List Addr} {T : List (List Int)} {F : Nat → List Int → HO} {K : PySem.W.Frag} {i : Int} (h : NdW w0 w nd ps T F) (h0 : 0 ≤ i) (h1 : i < T.length) (q : Q (.ref (ps.getD i.toNat nd)) w.H) : KI2 K (.ref nd) Q (.int i) w.H := by
  have hl := h.ln
  refine i_O h.o.h h0 ?_ q
  rw [List.getElem?_map, List.getElem?_eq_getElem (show i.toNat < ps.length by omega), List.getD_eq_getElem?_getD, List.getElem?_eq_getElem (show i.toNat < ps.length by omega)]
  rfl
theorem needed_spec {nets : List Int} {x : V} {T0 : Int} (h : Nt v w a A N) (VV : Vd N) (C : Clk v w g a xr per st dx sts) (hx : Dv w x (ids nets)) (hn : ∀ m ∈ nets, 0 ≤ m ∧ m < 2 + N.inp + N.regs.length + N.gates.length)
    (q : ∀ w' nd ps T, Ex [] w w' → NdW w w' nd ps T fD → Cl N T0 T 0 → (∀ m ∈ nets, T0 ∈ T.getD m.toNat []) → Q (.ref nd) w'.H) : spOf v D (n + 4) i_Clocked_needed_times [.ref g, x, .int T0] w.H Q E := by
  have hi0 := VV.i0
  have hi1 := VV.i1
  have hrl := VV.rl
  have hgl := VV.gl
  refine in_Clocked_needed_times ?_
  unfold b_Clocked_needed_times
  walk_at "g5"
  refine k_fl C.og rfl ?_
  walk_at "g5"
  refine k_meH h.h (by rfl) ?_
  walk_at "g5"
  refine net_count_spec h ?_
  walk_at "g5"
  obtain ⟨M, eM⟩ : ∃ M : Nat, 2 + N.inp + (N.regs.length : Int) + (N.gates.length : Int) = (M : Int) := ⟨2 + N.inp.toNat + N.regs.length + N.gates.length, by omega⟩
  rw [eM]
  refine k_r1 (by omega) (by omega) ?_
  refine k_lc_n M (by omega) fun w1 nd e1 hnd o1 => ⟨fun i w' => Ex [] w w' ∧ ∃ ps, NdW w w' nd ps (List.replicate i []) fD, ?_, ?_, ?_⟩
  · exact ⟨e1, [], by simpa using o1, by simp, by simp, by simp, fun i hi => by simp at hi, hnd, by simp⟩
  · rintro i w' hi ⟨E', ps, H'⟩
    refine g_nm ?_
    refine k_lb0 rfl ?_
    walk_at "g5"
    refine new_op fun w2 p e2 hp o2 => ?_
    have hl := H'.ln
    rw [List.length_replicate] at hl
    refine k_ap (H'.o.ex e2 (by simp)) (by rw [List.length_map, sizeLine_eq]; omega) fun w3 e3 o3 => ⟨(E'.t0 e2).tf e3 hnd, ps ++ [p], H'.snoc E' e2 hp o2 e3 o3⟩
  rintro w1 ⟨E1, ps, H1⟩
  have h1 := h.ex E1
  have C1 := C.ex0 E1
  have hx1 := hx.ex E1
  walk_at "g5"
  have Ops : ∀ b ∈ ps, ¬ w1.S b := fun b hb => by
    obtain ⟨j, hj, ej⟩ := List.getElem_of_mem hb
    have hl := H1.ln
    have := (H1.ds j (by omega)).n
    rw [List.getD_eq_getElem?_getD, List.getElem?_eq_getElem hj, Option.getD_some, ej] at this
    exact this
  have E0 : ∀ {w'}, Ex ps w1 w' → Ex [] w w' := fun e => E1.trans e fun b hb => .inr (H1.fr b hb)
  have npg : ∀ b ∈ ps, b ≠ g ∧ b ≠ st := fun b hb => by
    have hf := H1.fr b hb
    obtain ⟨vs, os, _⟩ := C.os
    exact ⟨fun z => (by rw [z, C.og.h] at hf; cases hf), fun z => (by rw [z, os.h] at hf; cases hf)⟩
  refine k_for_D hx1 (fun i σ w' => ∃ a4 T, σ = [some (.ref g), some x, some (.int T0), some (.ref nd), a4, none, none, none, none, none, none, none, none] ∧ Ex ps w1 w' ∧ NdW w w' nd ps T fD ∧ T.length = M ∧ (∀ i, (T.getD i []).Nodup) ∧ (∀ i, ∀ t ∈ T.getD i [], t = T0) ∧ ∀ m ∈ nets.take i, T0 ∈ T.getD m.toNat []) (fun i σ w' hI => ?_) ?_ ?_ ?_
  · obtain ⟨_, _, _, e, _⟩ := hI
    exact ⟨_, e⟩
  · exact ⟨_, List.replicate M [], rfl, (Ex.refl w1).more (by simp) Ops, H1, by simp, fun i => by rw [repl_getD]; exact .nil, fun i t ht => (by rw [repl_getD] at ht; cases ht), by simp⟩
  · rintro i d y σ w' hd dy ⟨a4, T, rfl, E', H', hT, un, eq0, hin⟩
    rw [List.getElem?_map] at hd
    obtain ⟨m, hm, rfl⟩ := Option.map_eq_some_iff.mp hd
    obtain rfl := dy.of_int
    have hmr := hn m (List.mem_of_getElem? hm)
    have hl := H'.ln
    refine g_nm ?_
    walk_at "g5"
    refine nd_at H' hmr.1 (by omega) ?_
    walk_at "g5"
    have hi : m.toNat < T.length := by omega
    have hlen := rg_len (T0 := T0) (m := 0) (un m.toNat) (fun t ht => by have := eq0 _ t ht; omega)
    refine k_set_dK (H'.ds _ hi) (k := .inl T0) rfl (by unfold kvT; rw [List.length_map, sizeLine_eq]; omega) fun w2 e2 o2 => ?_
    obtain ⟨L, H2, unL, memL⟩ := H'.put1 (t := T0) hi (un _) rfl e2 o2
    walk_at "g5"
    refine k_is ⟨_, T.set m.toNat L, rfl, E'.trans e2 (fun b hb => .inl (by rw [List.mem_singleton.mp hb]; exact getD_memA (by omega))), H2, by rw [List.length_set]; exact hT, fun j => ?_, fun j t ht => ?_, fun m' hm' => ?_⟩
    · rw [getD_setL hi]; split
      · exact unL
      · exact un j
    · rw [getD_setL hi] at ht
      split at ht
      · rcases (memL t).mp ht with h | h
        · exact eq0 _ t h
        · exact h
      · exact eq0 _ t ht
    · rw [getD_setL hi]
      split
      · exact (memL T0).mpr (.inr rfl)
      · rename_i ne
        rw [List.take_add_one, hm] at hm'
        rcases List.mem_append.mp hm' with h | h
        · exact hin m' h
        · have : m' = m := by simpa using h
          exact absurd (by rw [this]) ne
  rintro σ w2 ⟨a4, T1, rfl, E2, H2, hT1, un1, eq1, hin1⟩
  rw [List.length_map, List.take_length] at hin1
  have h2 := h.ex (E0 E2)
  have CL1 : Cl N T0 T1 N.gates.length := ⟨by omega, un1, fun i t ht => by have := eq1 i t ht; omega, fun m h1 h2 => absurd h2 (by omega)⟩
  walk_at "g5"
  refine k_fl (C.ex0 (E0 E2)).og rfl ?_
  walk_at "g5"
  refine k_meH h2.h (by rfl) ?_
  walk_at "g5"
  refine first_gate_spec h2 ?_
  walk_at "g5"
  refine q_rvr1 ?_
  walk_at "g5"
  refine k_fl (C.ex0 (E0 E2)).og rfl ?_
  walk_at "g5"
  refine k_flH h2.h rfl ?_
  walk_at "g5"
  refine f_lenL h2.gt ?_
  rw [List.length_map]
  refine k_rr1 (by omega) (by omega) ?_
  rw [Int.toNat_natCast]
  refine k_for_rngC (fun i σ w' => ∃ a4 a6 a7 a9 a10 a11 a12 T, σ = [some (.ref g), some x, some (.int T0), some (.ref nd), a4, some (.int (2 + N.inp + N.regs.length)), a6, a7, none, a9, a10, a11, a12] ∧ Ex ps w1 w' ∧ NdW w w' nd ps T fD ∧ Cl N T0 T (N.gates.length - i) ∧ ∀ m ∈ nets, T0 ∈ T.getD m.toNat []) ⟨_, _, _, _, _, _, _, T1, rfl, E2, H2, CL1, hin1⟩ ?_ ?_
  · rintro i σ w' hi ⟨a4, a6, a7, a9, a10, a11, a12, T, rfl, E', H', CL, hin⟩
    have h' := h.ex (E0 E')
    have C' := C.ex0 (E0 E')
    obtain ⟨k, ek⟩ : ∃ k, k = N.gates.length - 1 - i := ⟨_, rfl⟩
    have hk : k < N.gates.length := by omega
    rw [show N.gates.length - i = k + 1 by omega] at CL
    rw [show (N.gates.length : Int) - 1 + (i : Nat) * (-1) = (k : Int) by omega]
    have hg := VV.gt k hk
    have hpl := pds_len VV hk
    refine g_nm ?_
    walk_at "g5"
    refine k_fl C'.og rfl ?_
    walk_at "g5"
    refine k_flH h'.h rfl ?_
    walk_at "g5"
    refine i_M (z := g0) (g := dg) h'.gt (by omega) (by omega) fun y dy => ?_
    rw [Int.toNat_natCast] at dy
    refine g_tup dy rfl fun us rr => ?_
    cases rr with
    | cons d1 rr =>
    cases rr with
    | cons d2 rr =>
    cases rr
    obtain rfl := d1.of_int
    rename_i xp
    have d2 : Dv w' xp (.tuple ((N.gates.getD k g0).2.map .int)) := d2
    walk_at "g5"
    refine k_fl C'.og rfl ?_
    walk_at "g5"
    refine k_flH h'.h rfl ?_
    walk_at "g5"
    refine k_flH h'.hl rfl ?_
    walk_at "g5"
    refine cell_at h' hg.1 (by omega) fun xc hc => ?_
    walk_at "g5"
    obtain ⟨ca, cdx, cnm, cdl, rfl, csx, chh, cdd⟩ := hc
    refine k_flH chh rfl ?_
    obtain ⟨zb, zs, rfl, sz, hz, dzs⟩ := d2.of_tup
    obtain ⟨db, ds, rfl, sd, hd, dds⟩ := cdd.of_tup
    obtain rfl := dzs.of_ints
    obtain rfl := dds.of_ints
    have szT : ∀ {w'' : Wd}, Ex ps w1 w'' → Ex ps w' w'' → SqT (evAt v D (n + 3)).K w''.H zb ((N.gates.getD k g0).2.map V.int) ∧ SqT (evAt v D (n + 3)).K w''.H db ((N.cells.getD (N.gates.getD k g0).1.toNat ce0).dl.map V.int) := fun _ e => ⟨sqT (e.keepL sz hz), sqT (e.keepL sd hd)⟩
    have Ops' : ∀ b ∈ ps, ¬ w'.S b := fun b hb => by
      obtain ⟨j, hj, ej⟩ := List.getElem_of_mem hb
      have hl := H'.ln
      have := (H'.ds j (by omega)).n
      rw [List.getD_eq_getElem?_getD, List.getElem?_eq_getElem hj, Option.getD_some, ej] at this
      exact this
    walk_at "g5"
    refine k_zpT (sqT hz) (sqT hd) ?_
    have hlT := CL.len
    obtain ⟨sp, esp⟩ : ∃ sp, sp = 2 + N.inp.toNat + N.regs.length + k := ⟨_, rfl⟩
    have hsp : sp < T.length := by omega
    have ll : ((N.gates.getD k g0).2.map V.int).length = ((N.cells.getD (N.gates.getD k g0).1.toNat ce0).dl.map V.int).length := by rw [List.length_map, List.length_map, hpl.1]
    refine k_for_zipT ll (fun j σ w'' => ∃ a4 a11 a12 Tj, σ = [some (.ref g), some x, some (.int T0), some (.ref nd), a4, some (.int (2 + N.inp + N.regs.length)), some (.int (k : Nat)), some (.ref db), none, some (.int (N.gates.getD k g0).1), some (.ref zb), a11, a12] ∧ Ex ps w1 w'' ∧ Ex ps w' w'' ∧ NdW w w'' nd ps Tj fD ∧ Tj.getD sp [] = T.getD sp [] ∧ Grow T Tj fun i u => ∃ p ∈ (pds N.cells (N.gates.getD k g0)).take j, i = p.1.toNat ∧ ∃ t ∈ T.getD sp [], u = t - p.2)
      (fun j σ w'' h => by obtain ⟨_, _, _, _, _, e1, e2, _⟩ := h; exact szT e1 e2) ⟨_, _, _, T, rfl, E', (Ex.refl w').more (by simp) Ops', H', rfl, (Grow.refl CL.un).iff fun i u => by simp⟩ ?_ ?_
    · rintro j y1 y2 σ w3 w4 TT hx1 hx2 ⟨b4, b11, b12, Tj, rfl, E3, E3', H3, hsj, Gj⟩ e4 hTT
      obtain ⟨hj, rfl⟩ := ids_get hx1
      obtain ⟨hj2, rfl⟩ := ids_get hx2
      have hpr := pin_rng VV hk hj
      have hdr := dl_rng VV hk hj
      have hpg := pds_get VV hk hj
      generalize (N.gates.getD k g0).2.getD j 0 = pn at hpr hpg hTT
      generalize (N.cells.getD (N.gates.getD k g0).1.toNat ce0).dl.getD j 0 = d at hdr hpg hTT
      refine g_tupR hTT rfl ?_
      walk_at "g5"
      have H4 := H3.ex0 e4
      have lj : Tj.length = T.length := Gj.1
      have hsj' : sp < Tj.length := by omega
      refine r_lck (H4.ds sp hsj') trivial fun od w5 e5 o5 => ?_
      have H5 := H4.lock hsj' e5 o5
      have E5 : Ex ps w1 w5 := (E3.t0 e4).trans e5 fun b hb => .inl (by rw [List.mem_singleton.mp hb]; exact getD_memA (by have := H4.ln; omega))
      have E5' : Ex ps w' w5 := (E3'.t0 e4).trans e5 fun b hb => .inl (by rw [List.mem_singleton.mp hb]; exact getD_memA (by have := H4.ln; omega))
      rw [hsj] at o5
      walk_at "g5"
      refine q_dk ?_
      walk_at "g5"
      rw [show 2 + N.inp + (N.regs.length : Int) + ((k : Nat) : Int) = ((sp : Nat) : Int) by omega]
      refine nd_at H5 (by omega) (by omega) ?_
      rw [Int.toNat_natCast]
      refine k_dk o5.h ?_
      refine k_for_dk (kvs := kvT (T.getD sp [])) (fun m σ w'' => ∃ a12 Tm, σ = [some (.ref g), some x, some (.int T0), some (.ref nd), some (.int pn), some (.int (2 + N.inp + N.regs.length)), some (.int (k : Nat)), some (.ref db), none, some (.int (N.gates.getD k g0).1), some (.ref zb), some (.int d), a12] ∧ Ex ps w1 w'' ∧ Ex ps w' w'' ∧ NdW w w'' nd ps Tm (fL sp od) ∧ Tm.getD sp [] = T.getD sp [] ∧ Grow T Tm fun i u => (∃ p ∈ (pds N.cells (N.gates.getD k g0)).take j, i = p.1.toNat ∧ ∃ t ∈ T.getD sp [], u = t - p.2) ∨ (i = pn.toNat ∧ ∃ t ∈ (T.getD sp []).take m, u = t - d))
        (fun m σ w'' h => ?_) ⟨_, Tj, rfl, E5, E5', H5, hsj, Gj.iff fun i u => by simp⟩ ?_ ?_
      · obtain ⟨_, Tm, _, _, _, Hm, hsm, Gm⟩ := h
        have := (Hm.ds sp (by rw [Gm.1]; exact hsp)).h
        simp only [fL, if_true, hsm] at this
        exact this
      · rintro m kk xv σ w6 hkk ⟨a12, Tm, rfl, E6, E6', H6, hsm, Gm⟩
        unfold kvT at hkk
        rw [List.getElem?_map] at hkk
        obtain ⟨t, ht, hkv⟩ := Option.map_eq_some_iff.mp hkk
        cases hkv
        have htm := List.mem_of_getElem? ht
        have htr := CL.rg sp t htm
        have hpm : pn.toNat < Tm.length := by rw [Gm.1]; omega
        have hps : pn.toNat ≠ sp := by omega
        refine g_nm ?_
        walk_at "g5"
        refine nd_at H6 hpr.1 (by omega) ?_
        walk_at "g5"
        have od6 := H6.ds pn.toNat hpm
        simp only [fL, if_neg hps] at od6
        have hlen : (Tm.getD pn.toNat []).length ≤ 7 * (N.gates.length - k) + 1 := rg_len (T0 := T0) (Gm.2.1 _) fun u hu => by
          rcases (Gm.2.2 _ u).mp hu with h | ⟨p, hp, _, t', ht', rfl⟩ | ⟨_, t', ht', rfl⟩
          · have := CL.rg _ u h
            omega
          · have h1 := CL.rg _ t' ht'
            obtain ⟨j', hj', ej'⟩ := List.getElem_of_mem (List.mem_of_mem_take hp)
            have hj2 : j' < (N.gates.getD k g0).2.length := by omega
            have h2 := pds_get VV hk hj2
            rw [List.getElem?_eq_getElem hj', ej'] at h2
            cases h2
            have h3 := dl_rng VV hk hj2
            dsimp only
            omega
          · have h1 := CL.rg _ t' (List.mem_of_mem_take ht')
            omega
        refine k_set_dK od6 (k := .inl (t - d)) rfl (by unfold kvT; rw [List.length_map, sizeLine_eq]; omega) fun w7 e7 o7 => ?_
        obtain ⟨Lm, H7, unL, memL⟩ := H6.put1 (t := t - d) hpm (Gm.2.1 _) (by funext Lx; simp [fL, hps]) e7 o7
        have hpp : ps.getD pn.toNat nd ∈ ps := getD_memA (by have := H6.ln; omega)
        walk_at "g5"
        refine k_is ⟨_, Tm.set pn.toNat Lm, rfl, E6.trans e7 (fun b hb => .inl (by rw [List.mem_singleton.mp hb]; exact hpp)), E6'.trans e7 (fun b hb => .inl (by rw [List.mem_singleton.mp hb]; exact hpp)), H7, ?_, (Gm.set hpm unL memL).iff fun i u => ?_⟩
        · rw [getD_setL hpm, if_neg hps]; exact hsm
        · rw [List.take_add_one, ht]
          simp only [Option.toList_some, List.mem_append, List.mem_singleton]
          constructor
          · rintro ((h | ⟨h1, t', h2, h3⟩) | ⟨h1, h2⟩)
            · exact .inl h
            · exact .inr ⟨h1, t', .inl h2, h3⟩
            · exact .inr ⟨h1, t, .inr rfl, h2⟩
          · rintro (h | ⟨h1, t', h2 | h2, h3⟩)
            · exact .inl (.inl h)
            · exact .inl (.inr ⟨h1, t', h2, h3⟩)
            · exact .inr ⟨h1, by rw [h3, h2]⟩
      · rintro σ w6 ⟨a12, Tm, rfl, E6, E6', H6, hsm, Gm⟩
        have hsm' : sp < Tm.length := by rw [Gm.1]; exact hsp
        have od6 := H6.ds sp hsm'
        simp only [fL, if_true] at od6
        refine k_us (by rw [hsm] at od6; rw [hsj]; exact od6) fun w7 e7 o7 => ?_
        have hpp : ps.getD sp nd ∈ ps := getD_memA (by have := H6.ln; omega)
        have H7 := H6.unlock hsm' e7 (by rw [hsm]; rw [hsj] at o7; exact o7)
        refine k_is ⟨_, _, _, Tm, rfl, E6.trans e7 (fun b hb => .inl (by rw [List.mem_singleton.mp hb]; exact hpp)), E6'.trans e7 (fun b hb => .inl (by rw [List.mem_singleton.mp hb]; exact hpp)), H7, hsm, Gm.iff fun i u => ?_⟩
        rw [List.take_add_one, hpg]
        have hfull : (T.getD sp []).take (kvT (T.getD sp [])).length = T.getD sp [] := by rw [show (kvT (T.getD sp [])).length = (T.getD sp []).length from List.length_map .., List.take_length]
        rw [hfull]
        constructor
        · rintro (⟨p, h1, h2⟩ | ⟨h1, h2⟩)
          · exact ⟨p, List.mem_append_left _ h1, h2⟩
          · exact ⟨(pn, d), List.mem_append_right _ (by simp), h1, h2⟩
        · rintro ⟨p, h1, h2⟩
          rcases List.mem_append.mp h1 with h1 | h1
          · exact .inl ⟨p, h1, h2⟩
          · have : p = (pn, d) := by simpa using h1
            subst this
            exact .inr h2
    · rintro σ w3 ⟨b4, b11, b12, Tj, rfl, E3, E3', H3, hsj, Gj⟩
      have hfull : (pds N.cells (N.gates.getD k g0)).take ((N.gates.getD k g0).2.map V.int).length = pds N.cells (N.gates.getD k g0) := by rw [List.length_map, ← hpl.2.1, List.take_length]
      rw [hfull, esp] at Gj
      have CL' := CL.step VV hk Gj
      refine k_is ⟨_, _, _, _, _, _, _, Tj, rfl, E3, H3, by rw [show N.gates.length - (i + 1) = k by omega]; exact CL', fun m hm => (Gj.2.2 _ _).mpr (.inl (hin m hm))⟩
  · rintro σ w2 ⟨b4, b6, b7, b9, b10, b11, b12, T, rfl, E3, H3, CL, hin⟩
    rw [Nat.sub_self] at CL
    walk_at "g5"
    exact q w2 nd ps T (E0 E3) H3 CL hin
end
/-! ### a comprehension over two tuples of numbers -/
section
variable {v : Ev} {n : Nat} {W : WX} {σ : St} {K : PySem.W.Frag} {w : Wd} {Q : VK}
theorem walk_zipT {a b : Addr} {xs ys : List V} (hl : xs.length = ys.length) : Walk (RZ.ItzT K a b) xs.length (fun H => SqT K H a xs ∧ SqT K H b ys) (YPair (fun i => xs[i]?) (fun i => ys[i]?)) := by
  refine ⟨fun i _ hi q => ?_, fun _ q => ⟨xs, ys, q.1, q.2, by omega⟩, fun i H v H' _ q y => ?_⟩
  · exact ⟨xs, ys, xs[i], ys[i]'(by omega), q.1, q.2, by simp [hi], by simp [show i < ys.length by omega]⟩
  · obtain ⟨T, x, z, h1, h2, h3, h4, h5⟩ := y
    exact ⟨T, x, z, h1, h2, h3, h4 xs q.1, h5 ys q.2⟩
theorem k_lc_zti {a b : Addr} {xs ys : List Int} {g : TG} {te : TE} {vs : List Nat} (sa : w.S a) (ha : w.H a = some (.tup (xs.map V.int))) (sb : w.S b) (hb : w.H b = some (.tup (ys.map V.int))) (hl : xs.length = ys.length) (hn : xs.length ≤ 1000000) (f : Nat → Int)
    (hs : ∀ i w' T (R : VK), i < xs.length → Ex [] w w' → w'.H T = some (.tup [.int (xs.getD i 0), .int (ys.getD i 0)]) → (∀ w2, Ex [] w' w2 → R (.int (f i)) w2.H) → g (.ref T) (wipe σ vs) w'.H (KMk1 te vs σ R))
    (hd : ∀ w' p, Ex [] w w' → w.H p = none → Op w' p (.lst (((List.range xs.length).map f).map V.int)) → Q (.ref p) w'.H) : KLc g (Tto.den v .no W) te vs σ Q (RZ.ItzT K a b) w.H := fun D hD => by
  refine lc_it (walk_zipT (xs := xs.map V.int) (ys := ys.map V.int) (by simp [hl])) (Qd := Q (.ref D)) (fun i => KIw fun w' => Ex [] w w' ∧ Op w' D (.lst (((List.range i).map f).map V.int))) ⟨_, rfl, ex_new hD, op_new hD⟩ (fun i H hi ⟨w', e, E', _⟩ => ?_) (fun i x H H' hi ⟨w', e, E', o'⟩ y => ?_) fun H ⟨w', e, E', o'⟩ => ?_
  · subst e
    exact ⟨sqT (E'.keepL sa ha), sqT (E'.keepL sb hb)⟩
  · obtain ⟨T, x1, x2, rfl, hT, rfl, h1, h2⟩ := y
    subst e
    obtain ⟨hi1, rfl⟩ := ids_get h1
    obtain ⟨hi2, rfl⟩ := ids_get h2
    exact hs i (w'.put T _) T (KAp D fun w' => Ex [] w w' ∧ Op w' D (.lst (((List.range (i + 1)).map f).map V.int))) hi1 (E'.t0 (ex_new hT)) upd_same fun w2 e2 =>
      k_ap ((o'.ex (ex_new hT) (by simp)).ex e2 (by simp)) (by simp [sizeLine_eq]; omega) fun w3 e3 o3 => ⟨((E'.t0 (ex_new hT)).t0 e2).tf e3 hD, by rw [List.range_succ, List.map_append, List.map_append]; exact o3⟩
  · subst e
    rw [List.length_map] at o'
    exact hd w' D E' hD o'
end
/-! ### k47: the values at a time -/
def kvF (L : List Int) (f : Int → Int) : List (Key × V) := L.map fun t => (.inl t, .int (f t))
theorem kvF_val {f : Int → Int} {t : Int} : ∀ {L : List Int}, t ∈ L → valV (kvF L f) (.inl t) = some (.int (f t))
  | x :: r, h => by
    by_cases e : x = t
    · subst e
      exact valV_pos rfl
    · show valV ((Sum.inl x, V.int (f x)) :: kvF r f) (.inl t) = _
      rw [valV_neg (by simpa using e)]
      exact kvF_val ((List.mem_cons.mp h).resolve_left (fun z => e z.symm))
theorem kvF_none {f : Int → Int} {t : Int} : ∀ {L : List Int}, t ∉ L → valV (kvF L f) (.inl t) = none
  | [], _ => rfl
  | x :: r, h => by
    show valV ((Sum.inl x, V.int (f x)) :: kvF r f) (.inl t) = _
    rw [valV_neg (by simpa using fun z : x = t => h (by simp [z]))]
    exact kvF_none fun z => h (List.mem_cons_of_mem _ z)
theorem kvF_put {f : Int → Int} {L : List Int} (un : L.Nodup) {m : Nat} {t : Int} (ht : L[m]? = some t) : putK (kvF (L.take m) f) (.inl t) (.int (f t)) = kvF (L.take (m + 1)) f := by
  have hm : m < L.length := (List.getElem?_eq_some_iff.mp ht).1
  have et : L[m] = t := (List.getElem?_eq_some_iff.mp ht).2
  have hn : t ∉ L.take m := fun h => by
    obtain ⟨j, hj, ej⟩ := List.getElem_of_mem h
    rw [List.length_take] at hj
    rw [List.getElem_take] at ej
    exact List.pairwise_iff_getElem.mp un j m (by omega) hm (by omega) (by rw [ej, et])
  unfold putK
  rw [valV_any, kvF_none hn]
  rw [List.take_add_one, ht]
  simp [kvF]
theorem kvF_len (L : List Int) (f : Int → Int) : (kvF L f).length = L.length := List.length_map ..
structure Vl (w : Wd) (vl : Addr) (qs : List Addr) (T : List (List Int)) (Ws : List (Int → Int)) (k : Nat) : Prop where
  o : Op w vl (.lst (qs.map V.ref))
  ln : qs.length = k
  ds : ∀ i, i < k → w.S (qs.getD i vl) ∧ w.H (qs.getD i vl) = some (.dK (kvF (T.getD i []) (Ws.getD i wz)))
section
variable {w w' : Wd} {vl : Addr} {qs : List Addr} {T : List (List Int)} {Ws : List (Int → Int)} {k : Nat}
theorem Vl.ex {U : List Addr} (h : Vl w vl qs T Ws k) (e : Ex U w w') (hn : vl ∉ U) : Vl w' vl qs T Ws k :=
  ⟨h.o.ex e hn, h.ln, fun i hi => ⟨e.sub _ (h.ds i hi).1, e.keepL (h.ds i hi).1 (h.ds i hi).2⟩⟩
theorem Vl.ex0 (h : Vl w vl qs T Ws k) (e : Ex [] w w') : Vl w' vl qs T Ws k := h.ex e (by simp)
theorem Vl.snoc {p : Addr} (h : Vl w vl qs T Ws k) (s : w.S p) (hp : w.H p = some (.dK (kvF (T.getD k []) (Ws.getD k wz)))) (e : Ex [vl] w w') (o : Op w' vl (.lst (qs.map V.ref ++ [.ref p]))) : Vl w' vl (qs ++ [p]) T Ws (k + 1) := by
  have hl := h.ln
  refine ⟨by simpa using o, by simp [hl], fun i hi => ?_⟩
  rcases Nat.lt_or_ge i k with z | z
  · rw [List.getD_eq_getElem?_getD, List.getElem?_append_left (by omega), ← List.getD_eq_getElem?_getD]
    exact ⟨e.sub _ (h.ds i z).1, e.keepL (h.ds i z).1 (h.ds i z).2⟩
  · have : i = k := by omega
    subst this
    rw [List.getD_eq_getElem?_getD, List.getElem?_append_right (by omega), hl, Nat.sub_self]
    exact ⟨e.sub _ s, e.keepL s hp⟩
/-- one value -/
theorem vl_at {K : PySem.W.Frag} {Q : VK} {i : Int} (h : Vl w vl qs T Ws k) (h0 : 0 ≤ i) (h1 : i < k) (q : ∀ p, w.H p = some (.dK (kvF (T.getD i.toNat []) (Ws.getD i.toNat wz))) → Q (.ref p) w.H) : KI2 K (.ref vl) Q (.int i) w.H := by
  have hl := h.ln
  refine i_O h.o.h h0 ?_ (q (qs.getD i.toNat vl) (h.ds i.toNat (by omega)).2)
  rw [List.getElem?_map, List.getElem?_eq_getElem (show i.toNat < qs.length by omega), List.getD_eq_getElem?_getD, List.getElem?_eq_getElem (show i.toNat < qs.length by omega)]
  rfl
end
/-- the values are bits -/
theorem src_bit {N : NL} {rows sts : List (List Int)} {per n t : Int} (hr : ∀ r ∈ rows, Bs r) (hs : ∀ s ∈ sts, Bs s) (h0 : 0 ≤ n) : src N rows sts per n t = 0 ∨ src N rows sts per n t = 1 := by
  have key : ∀ (ls : List (List Int)) (hb : ∀ s ∈ ls, Bs s) (i j : Nat), (ls.getD i []).getD j 0 = 0 ∨ (ls.getD i []).getD j 0 = 1 := fun ls hb i j => by
    rcases Nat.lt_or_ge i ls.length with h | h
    · refine (hb (ls.getD i []) ?_).get j
      rw [List.getD_eq_getElem?_getD, List.getElem?_eq_getElem h]; exact List.getElem_mem _
    · have : ls.getD i [] = [] := by rw [List.getD_eq_getElem?_getD, List.getElem?_eq_none h]; rfl
      rw [this]; exact .inl rfl
  unfold src
  split
  · omega
  · split
    · exact key _ hr _ _
    · exact key _ hs _ _
theorem dwv_bit {N : NL} (VV : Vd N) {rows sts : List (List Int)} {per : Int} (hr : ∀ r ∈ rows, Bs r) (hs : ∀ s ∈ sts, Bs s) {n : Int} (h0 : 0 ≤ n) (h1 : n < 2 + N.inp + N.regs.length + N.gates.length) (t : Int) : ((dwv N rows sts per).getD n.toNat wz) t = 0 ∨ ((dwv N rows sts per).getD n.toNat wz) t = 1 := by
  have hi := VV.i0
  rcases Int.lt_or_le n (2 + N.inp + N.regs.length) with h | h
  · rw [dwv_src hi h0 h]; exact src_bit hr hs h0
  · rw [show n.toNat = 2 + N.inp.toNat + N.regs.length + (n.toNat - (2 + N.inp.toNat + N.regs.length)) by omega, dwv_gate VV (by omega)]
    exact bt01 _ _
theorem pins_map {N : NL} (VV : Vd N) {k : Nat} (hk : k < N.gates.length) (f : Int × Int → Int) : ((List.range (N.gates.getD k g0).2.length).map fun j => f ((N.gates.getD k g0).2.getD j 0, (N.cells.getD (N.gates.getD k g0).1.toNat ce0).dl.getD j 0)) = (pds N.cells (N.gates.getD k g0)).map f := by
  have hp := pds_len VV hk
  refine List.ext_getElem? fun j => ?_
  rw [List.getElem?_map, List.getElem?_map]
  rcases Nat.lt_or_ge j (N.gates.getD k g0).2.length with z | z
  · rw [List.getElem?_range z, pds_get VV hk z]; rfl
  · rw [List.getElem?_eq_none (by simpa using z), List.getElem?_eq_none (by omega)]; rfl
section
variable {v : Ev} {n : Nat} {w : Wd} {Q : VK} {E : XK} {a g st dx : Addr} {A : NA} {N : NL} {xr : V} {per : Int} {rows sts : List (List Int)}
theorem values_spec {nets : List Int} {x : V} {T0 : Int} (h : Nt v w a A N) (VV : Vd N) (C : Clk v w g a xr per st dx sts) (dr : Dv w xr (.list (rows.map ids))) (hr : ∀ r ∈ rows, Bs r ∧ (r.length : Int) = N.inp) (hs : ∀ s ∈ sts, Bs s ∧ s.length = N.regs.length) (TT : Tm N rows sts per T0)
    (hx : Dv w x (ids nets)) (hnl : nets.length ≤ 1000) (hn : ∀ m ∈ nets, 0 ≤ m ∧ m < 2 + N.inp + N.regs.length + N.gates.length)
    (q : ∀ w' z, Ex [] w w' → Dv w' z (ids (nets.map fun m => ((dwv N rows sts per).getD m.toNat wz) T0)) → Q z w'.H) : spOf v D (n + 5) i_Clocked_values_at [.ref g, x, .int T0] w.H Q E := by
  have hi0 := VV.i0
  have hi1 := VV.i1
  have hrl := VV.rl
  have hgl := VV.gl
  have hrb : ∀ r ∈ rows, Bs r := fun r h => (hr r h).1
  have hsb : ∀ s ∈ sts, Bs s := fun s h => (hs s h).1
  refine in_Clocked_values_at ?_
  unfold b_Clocked_values_at
  walk_at "g5"
  refine k_me C.og (by rfl) ?_
  walk_at "g5"
  refine needed_spec h VV C hx hn fun w1 nd ps T E1 H1 CL hin => ?_
  have hlT := CL.len
  walk_at "g5"
  refine k_fl (C.ex0 E1).og rfl ?_
  walk_at "g5"
  refine k_meH (h.ex E1).h (by rfl) ?_
  walk_at "g5"
  refine first_gate_spec (h.ex E1) ?_
  walk_at "g5"
  refine k_lstO (by simp) fun w2 vl e2 hvl ovl => ?_
  have E2 : Ex [] w w2 := E1.t0 e2
  have H2 := H1.ex0 e2
  have hvl0 : w.H vl = none := E1.free hvl
  have nvp : ∀ {w' : Wd} {T : List (List Int)} {F : Nat → List Int → HO}, NdW w w1 nd ps T F → vl ∉ ps := fun H z => by
    obtain ⟨j, hj, ej⟩ := List.getElem_of_mem z
    have hl := H.ln
    have := (H.ds j (by omega)).h
    rw [List.getD_eq_getElem?_getD, List.getElem?_eq_getElem hj, Option.getD_some, ej, hvl] at this
    cases this
  have nvp : vl ∉ ps := nvp (w' := w) H1
  obtain ⟨M, eM⟩ : ∃ M : Nat, 2 + N.inp + (N.regs.length : Int) = (M : Int) := ⟨2 + N.inp.toNat + N.regs.length, by omega⟩
  have hM : M = 2 + N.inp.toNat + N.regs.length := by omega
  have hps : ∀ {w' : Wd}, NdW w w' nd ps T fD → ∀ i, i < T.length → ps.getD i nd ∈ ps := fun H i hi => getD_memA (by rw [H.ln]; exact hi)
  have hlen : ∀ i, (T.getD i []).length ≤ 701 := fun i => by
    have := rg_len (T0 := T0) (m := 7 * N.gates.length) (CL.un i) fun t ht => by have := CL.rg i t ht; omega
    omega
  walk_at "g5"
  rw [eM]
  refine k_r1 (by omega) (by omega) ?_
  refine k_for_n M (by omega) (fun i σ w' => ∃ a6 a10 qs, σ = [some (.ref g), some x, some (.int T0), some (.ref nd), some (.int (M : Nat)), some (.ref vl), a6, none, none, none, a10, none, none, none] ∧ Ex [] w w' ∧ NdW w w' nd ps T fD ∧ Vl w' vl qs T (dwv N rows sts per) i) ⟨_, _, [], rfl, E2, H2, ⟨by simpa using ovl, rfl, fun i hi => absurd hi (Nat.not_lt_zero _)⟩⟩ ?_ ?_
  · rintro i σ w' hi ⟨a6, a10, qs, rfl, E', H', VL⟩
    have hiT : i < T.length := by omega
    refine g_nm ?_
    walk_at "g5"
    refine k_m1 VL.o.h rfl ?_
    walk_at "g5"
    refine e_lck (H'.ds i hiT) trivial fun od w3 e3 o3 => ?_
    have H3 := H'.lock hiT e3 o3
    have hpi := hps H' i hiT
    have VL3 := VL.ex e3 (by simp only [List.mem_singleton]; exact fun z => nvp (z ▸ hpi))
    have E3 : Ex [] w w3 := E'.trans e3 fun b hb => .inr (by rw [List.mem_singleton.mp hb]; exact H'.fr _ hpi)
    refine e_dc ?_
    refine q_dk ?_
    walk_at "g5"
    refine nd_at H3 (by omega) (by omega) ?_
    rw [Int.toNat_natCast]
    refine k_dk o3.h ?_
    refine k_dc_dk (kvs := kvT (T.getD i [])) fun w4 D4 e4 hD4 o4 => ⟨fun m w' => Ex [] w3 w' ∧ Op w' D4 (.dK (kvF ((T.getD i []).take m) ((dwv N rows sts per).getD i wz))), ?_, ?_, ?_, ?_⟩
    · exact ⟨e4, by simpa [kvF] using o4⟩
    · rintro m w' ⟨e, _⟩
      exact e.kp _ _ o3.h (by simp)
    · rintro m kk xv w5 hkk ⟨E5, o5⟩
      unfold kvT at hkk
      rw [List.getElem?_map] at hkk
      obtain ⟨t, ht, hkv⟩ := Option.map_eq_some_iff.mp hkk
      cases hkv
      have htr := CL.rg i t (List.mem_of_getElem? ht)
      refine g_nm ?_
      refine k_db0 rfl ?_
      walk_at "g5"
      refine k_dy ?_
      walk_at "g5"
      have E5' : Ex [] w w5 := E3.t0 E5
      refine k_me (C.ex0 E5').og (by rfl) ?_
      walk_at "g5"
      refine source_value_spec (h.ex E5') VV (C.ex0 E5') (dr.ex E5') (fun r h => (hr r h).2) (fun s h => (hs s h).2) (TT.le htr.1) (by omega) (by omega) ?_
      have es : src N rows sts per (i : Int) t = ((dwv N rows sts per).getD i wz) t := by rw [← dwv_src hi0 (by omega) (by omega), Int.toNat_natCast]
      rw [es]
      refine k_dz o5 (k := .inl t) rfl (by rw [kvF_len, List.length_take, sizeLine_eq]; have := hlen i; omega) fun w6 e6 o6 => ?_
      rw [kvF_put (CL.un i) ht] at o6
      exact ⟨E5.tf e6 hD4, o6⟩
    · rintro w5 ⟨E5, o5⟩
      have hfull : (T.getD i []).take (kvT (T.getD i [])).length = T.getD i [] := by rw [show (kvT (T.getD i [])).length = (T.getD i []).length from List.length_map .., List.take_length]
      rw [hfull] at o5
      have D4ne : D4 ≠ ps.getD i nd := fun z => by have := o3.h; rw [← z, hD4] at this; cases this
      refine k_uv (o3.ex E5 (by simp)) fun w6 e6 o6 => ?_
      have H6 := (H3.ex0 E5).unlock hiT e6 o6
      have o56 := o5.ex e6 (by simpa using D4ne)
      obtain ⟨w7, eh7, e7, s7, h7⟩ := seal_any o56
      rw [← eh7]
      have D4p : D4 ∉ ps := fun z => by
        obtain ⟨j, hj, ej⟩ := List.getElem_of_mem z
        have hl := H3.ln
        have := (H3.ds j (by omega)).h
        rw [List.getD_eq_getElem?_getD, List.getElem?_eq_getElem hj, Option.getD_some, ej, hD4] at this
        cases this
      have D4d : D4 ≠ nd := fun z => by have := H3.o.h; rw [← z, hD4] at this; cases this
      have D4v : D4 ≠ vl := fun z => by have := VL3.o.h; rw [← z, hD4] at this; cases this
      have H7 := H6.ex e7 (by simpa using Ne.symm D4d) (fun p hp => by simp only [List.mem_singleton]; exact fun z => D4p (z ▸ hp))
      have VL7 := ((VL3.ex0 E5).ex e6 (by simp only [List.mem_singleton]; exact fun z => nvp (z ▸ hpi))).ex e7 (by simpa using Ne.symm D4v)
      have E6 : Ex [] w w6 := (E3.t0 E5).trans e6 fun b hb => .inr (by rw [List.mem_singleton.mp hb]; exact H'.fr _ hpi)
      have E7 : Ex [] w w7 := E6.tf e7 (E3.free hD4)
      walk_at "g5"
      refine m_app VL7.o (by rw [List.length_map, VL7.ln, sizeLine_eq]; omega) fun w8 e8 o8 => ?_
      walk_at "g5"
      exact k_is ⟨_, _, qs ++ [D4], rfl, E7.tf e8 hvl0, H7.ex e8 (by simp only [List.mem_singleton]; exact fun z => by have h1 := H1.o.h; rw [z, hvl] at h1; cases h1) (fun p hp => by simp only [List.mem_singleton]; exact fun z => nvp (z ▸ hp)), VL7.snoc s7 h7 e8 o8⟩
  rintro σ w3 ⟨a6, a10, qs, rfl, E3, H3, VL3⟩
  walk_at "g5"
  refine k_fl (C.ex0 E3).og rfl ?_
  walk_at "g5"
  refine k_flH (h.ex E3).h rfl ?_
  obtain ⟨gb, gxs, egt, sgt, hgt, dgs⟩ := h.gt.of_lst
  have lgx : gxs.length = N.gates.length := by rw [dgs.length, List.length_map]
  rw [egt]
  walk_at "g5"
  refine k_en (sqL (E3.keepL sgt hgt)) ?_
  refine k_for_enm (xs := gxs) (fun k σ w' => ∃ a6 a7 a8 a9 a10 a11 a12 a13 qs, σ = [some (.ref g), some x, some (.int T0), some (.ref nd), some (.int (M : Nat)), some (.ref vl), a6, a7, a8, a9, a10, a11, a12, a13] ∧ Ex [] w w' ∧ NdW w w' nd ps T fD ∧ Vl w' vl qs T (dwv N rows sts per) (M + k)) (fun k σ w' h => ?_) ⟨_, _, _, _, _, _, _, _, qs, rfl, E3, H3, by simpa using VL3⟩ ?_ ?_
  · obtain ⟨_, _, _, _, _, _, _, _, _, _, e, _⟩ := h
    exact sqL (e.keepL sgt hgt)
  · rintro k z σ w' w4 P hz ⟨a6, a7, a8, a9, a10, a11, a12, a13, qs, rfl, E', H', VL⟩ e4 hP
    have hk : k < N.gates.length := by
      rcases Nat.lt_or_ge k gxs.length with h | h
      · omega
      · rw [List.getElem?_eq_none h] at hz; cases hz
    obtain ⟨gd, hgd, dz⟩ := dgs.get' hz
    obtain ⟨_, rfl⟩ := get_map (z := g0) hgd
    have E4 : Ex [] w w4 := E'.t0 e4
    have h4 := h.ex E4
    have H4 := H'.ex0 e4
    have VL4 := VL.ex0 e4
    have dz := dz.ex E4
    have hg := VV.gt k hk
    have hpl := pds_len VV hk
    refine g_tupR hP rfl ?_
    walk_at "g5"
    refine g_tup dz rfl fun us rr => ?_
    cases rr with
    | cons d1 rr =>
    cases rr with
    | cons d2 rr =>
    cases rr
    obtain rfl := d1.of_int
    rename_i xp
    have d2 : Dv w4 xp (.tuple ((N.gates.getD k g0).2.map .int)) := d2
    walk_at "g5"
    refine k_fl (C.ex0 E4).og rfl ?_
    walk_at "g5"
    refine k_flH h4.h rfl ?_
    walk_at "g5"
    refine k_flH h4.hl rfl ?_
    walk_at "g5"
    refine cell_at h4 hg.1 (by omega) fun xc hc => ?_
    obtain ⟨ca, cdx, cnm, cdl, rfl, csx, chh, cdd⟩ := id hc
    walk_at "g5"
    refine new_op fun w5 fo e5 hfo o5 => ?_
    obtain ⟨zb, zs, rfl, sz, hzz, dzs⟩ := d2.of_tup
    obtain ⟨db, ds, rfl, sd, hd, dds⟩ := cdd.of_tup
    obtain rfl := dzs.of_ints
    obtain rfl := dds.of_ints
    have H5 := H4.ex0 e5
    have VL5 := VL4.ex0 e5
    have E5 : Ex [] w w5 := E4.t0 e5
    obtain ⟨sp, esp⟩ : ∃ sp, sp = M + k := ⟨_, rfl⟩
    have hsp : sp < T.length := by omega
    have hpi := hps H5 sp hsp
    have fop : fo ∉ ps := fun z => by
      obtain ⟨j, hj, ej⟩ := List.getElem_of_mem z
      have hl := H4.ln
      have := (H4.ds j (by omega)).h
      rw [List.getD_eq_getElem?_getD, List.getElem?_eq_getElem hj, Option.getD_some, ej, hfo] at this
      cases this
    have fod : fo ≠ nd := fun z => by have := H4.o.h; rw [← z, hfo] at this; cases this
    have fov : fo ≠ vl := fun z => by have := VL4.o.h; rw [← z, hfo] at this; cases this
    walk_at "g5"
    refine r_lck (H5.ds sp hsp) trivial fun od w6 e6 o6 => ?_
    have H6 := H5.lock hsp e6 o6
    have VL6 := VL5.ex e6 (by simp only [List.mem_singleton]; exact fun z => nvp (z ▸ hpi))
    have E6 : Ex [] w w6 := E5.trans e6 fun b hb => .inr (by rw [List.mem_singleton.mp hb]; exact H'.fr _ hpi)
    have of6 := o5.ex e6 (by simp only [List.mem_singleton]; exact fun z => fop (z ▸ hpi))
    have hfo0 : w.H fo = none := E4.free hfo
    walk_at "g5"
    refine q_dk ?_
    walk_at "g5"
    rw [show ((M : Nat) : Int) + ((k : Nat) : Int) = ((sp : Nat) : Int) by omega]
    refine nd_at H6 (by omega) (by omega) ?_
    rw [Int.toNat_natCast]
    refine k_dk o6.h ?_
    refine k_for_dk (kvs := kvT (T.getD sp [])) (fun m σ w' => ∃ a6 a10 a13, σ = [some (.ref g), some x, some (.int T0), some (.ref nd), some (.int (M : Nat)), some (.ref vl), a6, some (.int (k : Nat)), some (.ref ca), some (.ref fo), a10, some (.int (N.gates.getD k g0).1), some (.ref zb), a13] ∧ Ex [fo] w6 w' ∧ Op w' fo (.dK (kvF ((T.getD sp []).take m) ((dwv N rows sts per).getD sp wz)))) (fun m σ w' h => ?_) ⟨_, _, _, rfl, (Ex.refl w6).more (by simp) (by simpa using of6.n), by simpa [kvF] using of6⟩ ?_ ?_
    · obtain ⟨_, _, _, _, e, _⟩ := h
      exact e.kp _ _ o6.h (by simp only [List.mem_singleton]; exact fun z => fop (z ▸ hpi))
    · rintro m kk xv σ w7 hkk ⟨b6, b10, b13, rfl, E7, o7⟩
      unfold kvT at hkk
      rw [List.getElem?_map] at hkk
      obtain ⟨t, ht, hkv⟩ := Option.map_eq_some_iff.mp hkk
      cases hkv
      have htm := List.mem_of_getElem? ht
      have X7 : Ex [] w w7 := E6.tf E7 hfo0
      have VL7 := VL6.ex E7 (by simpa using Ne.symm fov)
      have h7 := h.ex X7
      have S7 : ∀ {b o}, w4.S b → w4.H b = some o → w7.S b ∧ w7.H b = some o := fun s hh => ⟨E7.sub _ (e6.sub _ (e5.sub _ s)), E7.keepL (e6.sub _ (e5.sub _ s)) (e6.keepL (e5.sub _ s) (e5.keepL s hh))⟩
      refine g_nm ?_
      dsimp only [List.set_cons_zero, List.set_cons_succ, kV]
      walk_at "g5"
      refine k_meH (S7 csx chh).2 (by rfl) ?_
      walk_at "g5"
      refine k_flH (S7 csx chh).2 rfl ?_
      walk_at "g5"
      refine k_zpT (sqT (S7 sz hzz).2) (sqT (S7 sd hd).2) ?_
      refine k_lc_zti (S7 sz hzz).1 (S7 sz hzz).2 (S7 sd hd).1 (S7 sd hd).2 hpl.1 (by omega) (fun j => ((dwv N rows sts per).getD ((N.gates.getD k g0).2.getD j 0).toNat wz) (t - (N.cells.getD (N.gates.getD k g0).1.toNat ce0).dl.getD j 0)) (fun j w8 TT' R hj E8 hTT hR => ?_) fun w8 pb E8 hpb opb => ?_
      · have hpr := pin_rng VV hk hj
        have hin' := CL.cl k (Nat.zero_le _) hk t (by rw [← hM, ← esp]; exact htm) _ (List.mem_of_getElem? (pds_get VV hk hj))
        dsimp only at hin'
        refine g_tupR hTT rfl ?_
        dsimp only [wipe, List.set_cons_zero, List.set_cons_succ]
        walk_at "g5"
        refine k_mk1 rfl ?_
        walk_at "g5"
        refine vl_at (VL7.ex0 E8) hpr.1 (by omega) fun pq hpq => ?_
        walk_at "g5"
        refine i_dK hpq (k := .inl _) rfl (kvF_val hin') ?_
        exact hR w8 (Ex.refl _)
      have epm := pins_map VV hk fun p => ((dwv N rows sts per).getD p.1.toNat wz) (t - p.2)
      dsimp only at epm
      rw [epm] at opb
      have X8 : Ex [] w w8 := X7.t0 E8
      have hc8 : Cel ((evAt v D (n + 4)).cls c_Cell) w8 (.ref ca) (N.cells.getD (N.gates.getD k g0).1.toNat ce0) := ((hc.ex e5).ex e6).ex (E7.t0 E8)
      refine output_spec hc8 opb.h (fun y hy => ?_) (by rw [List.length_map, hpl.2.1]; omega) (VV.ct _ (by
        rw [List.getD_eq_getElem?_getD, List.getElem?_eq_getElem (show (N.gates.getD k g0).1.toNat < N.cells.length by omega)]
        exact List.getElem_mem _)).1 fun w9 e9 => ?_
      · obtain ⟨p, hp, rfl⟩ := List.mem_map.mp hy
        have hm : p.1 ∈ (N.gates.getD k g0).2 := (List.of_mem_zip hp).1
        have hr' := hg.2.2.2 p.1 hm
        exact dwv_bit VV hrb hsb hr'.1 (by omega) _
      rw [← dwv_gate VV hk t, ← hM, ← esp]
      have o9 := (o7.ex E8 (by simp)).ex e9 (by simp)
      walk_at "g5"
      refine k_set_dK o9 (k := .inl t) rfl (by rw [kvF_len, List.length_take, sizeLine_eq]; have := hlen sp; omega) fun w10 e10 o10 => ?_
      rw [kvF_put (CL.un sp) ht] at o10
      walk_at "g5"
      exact k_is ⟨_, _, _, rfl, ((E7.t0 E8).t0 e9).tt e10, o10⟩
    · rintro σ w7 ⟨b6, b10, b13, rfl, E7, o7⟩
      have hfull : (T.getD sp []).take (kvT (T.getD sp [])).length = T.getD sp [] := by rw [show (kvT (T.getD sp [])).length = (T.getD sp []).length from List.length_map .., List.take_length]
      rw [hfull] at o7
      refine k_us (o6.ex E7 (by simp only [List.mem_singleton]; exact fun z => fop (z ▸ hpi))) fun w8 e8 o8 => ?_
      have nfd : nd ∉ [fo] := by simpa using Ne.symm fod
      have nfp : ∀ p ∈ ps, p ∉ [fo] := fun p hp => by simp only [List.mem_singleton]; exact fun z => fop (z ▸ hp)
      have nfv : vl ∉ [fo] := by simpa using Ne.symm fov
      have H8 := (H6.ex E7 nfd nfp).unlock hsp e8 o8
      have of8 := o7.ex e8 (by simp only [List.mem_singleton]; exact fun z => fop (z ▸ hpi))
      have VL8 := (VL6.ex E7 nfv).ex e8 (by simp only [List.mem_singleton]; exact fun z => nvp (z ▸ hpi))
      have X8 : Ex [] w w8 := (E6.tf E7 hfo0).trans e8 fun b hb => .inr (by rw [List.mem_singleton.mp hb]; exact H'.fr _ hpi)
      obtain ⟨w9, eh9, e9, s9, h9⟩ := seal_any of8
      rw [← eh9]
      have H9 := H8.ex e9 nfd nfp
      have VL9 := VL8.ex e9 nfv
      have X9 := X8.tf e9 hfo0
      rw [esp] at h9
      walk_at "g5"
      refine k_m1 VL9.o.h rfl ?_
      walk_at "g5"
      refine m_app VL9.o (by rw [List.length_map, VL9.ln, sizeLine_eq]; omega) fun w10 e10 o10 => ?_
      walk_at "g5"
      exact k_is ⟨_, _, _, _, _, _, _, _, qs ++ [fo], rfl, X9.tf e10 hvl0, H9.ex e10 (by simp only [List.mem_singleton]; exact fun z => by have h1 := H1.o.h; rw [z, hvl] at h1; cases h1) (fun p hp => by simp only [List.mem_singleton]; exact fun z => nvp (z ▸ hp)), VL9.snoc s9 h9 e10 o10⟩
  rintro σ w4 ⟨a6, a7, a8, a9, a10, a11, a12, a13, qs, rfl, E4, H4, VL4⟩
  rw [lgx] at VL4
  walk_at "g5"
  refine k_lc_mk (hx.ex E4) (fun i => .int (((dwv N rows sts per).getD (nets.getD i 0).toNat wz) T0)) (by rw [List.length_map]; omega) (fun i d y w' R hd e dy hR => ?_) fun w5 p5 zs e5 hp5 o5 r5 => ?_
  · obtain ⟨hi, rfl⟩ := get_map (z := (0 : Int)) hd
    obtain rfl := dy.of_int
    have hm := hn _ (getD_mem hi)
    have hinm := hin _ (getD_mem hi)
    refine g_nm ?_
    refine k_mk1 rfl ?_
    walk_at "g5"
    refine vl_at (VL4.ex0 e) hm.1 (by omega) fun pq hpq => ?_
    walk_at "g5"
    refine i_dK hpq (k := .inl T0) rfl (kvF_val hinm) ?_
    exact hR w' _ (Ex.refl _) (.int _)
  rw [List.length_map] at r5
  obtain ⟨w6, eh, e6, d6⟩ := seal_lst o5 r5
  rw [← eh]
  refine q w6 _ (E4.t0 (e5.tf e6 hp5)) ?_
  rw [range_map (z := (0 : Int)) (fun m : Int => PyData.int (((dwv N rows sts per).getD m.toNat wz) T0))] at d6
  rw [ids, List.map_map]
  exact d6
end
/-! ### ways that meet again -/
theorem kif_gen2 {v : Ev} {W : WX} {σ : St} {H : Hp} {nx bk ct : St → Hp → Prop} {rt : VK} {c : Bool} {a : Sms} (G : St → Hp → Prop) (ha : c = true → ∀ nx' : St → Hp → Prop, (∀ s h, G s h → nx' s h) → a.den v W ⟨nx', rt, bk, ct⟩ σ H) (hb : c = false → G σ H) (h : ∀ s h, G s h → nx s h) :
    KIf v a .nil W ⟨nx, rt, bk, ct⟩ σ c H := by
  cases c with
  | true => exact kif_t (ha rfl nx h)
  | false =>
    refine kif_f ?_
    walk_at "g5"
    exact h _ _ (hb rfl)
section
variable {v : Ev} {n : Nat} {w : Wd} {Q : VK} {E : XK} {a g st dx : Addr} {A : NA} {N : NL} {xr xz : V} {per : Int} {rows : List (List Int)} {rs : List Int}
theorem dlF_bits {N : NL} (VV : Vd N) {rows : List (List Int)} {rs : List Int} {per : Int} (hr : ∀ r ∈ rows, Bs r) : ∀ c, ∀ s ∈ (dlF N rows rs per c).1, Bs s
  | 0, s, h => by
    have h : s ∈ [ini N] := h
    rw [List.mem_singleton.mp h]
    exact ini_bits VV
  | c + 1, s, h => by
    have h : s ∈ (dlF N rows rs per c).1 ++ [_] := h
    rcases List.mem_append.mp h with h | h
    · exact dlF_bits VV hr c s h
    · rw [List.mem_singleton.mp h]
      split
      · exact ini_bits VV
      · intro y hy
        obtain ⟨p, hp, rfl⟩ := List.mem_map.mp hy
        have := VV.rg p hp
        exact dwv_bit VV hr (dlF_bits VV hr c) this.1 this.2.1 _
theorem clk_init_spec (h : Nt v w a A N) (VV : Vd N) (o : Op w g (.ins (v.cls c_Clocked) dx [])) (q : ∀ w' st, Ex [g] w w' → w.H st = none → Clk v w' g a xr per st dx [ini N] → Q .non w'.H) : spOf v D (n + 2) i_Clocked_init [.ref g, .ref a, xr, .int per] w.H Q E := by
  refine in_Clocked_init ?_
  unfold b_Clocked_init
  walk_at "g5"
  refine k_ft o (by simp) (gs := [("netlist", .ref a)]) rfl fun w1 e1 o1 => ?_
  walk_at "g5"
  refine k_ft o1 (by simp) (gs := [("netlist", .ref a), ("rows", xr)]) (by rfl) fun w2 e2 o2 => ?_
  walk_at "g5"
  refine k_ft o2 (by simp) (gs := [("netlist", .ref a), ("rows", xr), ("period", .int per)]) (by rfl) fun w3 e3 o3 => ?_
  have E3 : Ex [g] w w3 := (e1.tt e2).tt e3
  have h3 := h.ex E3
  walk_at "g5"
  refine k_meH h3.h (by rfl) ?_
  walk_at "g5"
  refine init_state_spec h3 VV fun w4 p e4 hp o4 => ?_
  obtain ⟨w5, eh, e5, d5⟩ := seal_lst o4 (Dvs.ints _)
  rw [← eh]
  have E5 : Ex [] w3 w5 := e4.tf e5 hp
  walk_at "g5"
  refine k_lstO (by simp) fun w6 st e6 hst ost => ?_
  walk_at "g5"
  have o6 := (o3.ex E5 (by simp)).ex e6 (by simp)
  have gst : st ≠ g := fun z => by have := (o3.ex E5 (by simp)).h; rw [← z, hst] at this; cases this
  refine k_ft o6 (by simp) (gs := [("netlist", .ref a), ("rows", xr), ("period", .int per), ("states", .ref st)]) (by rfl) fun w7 e7 o7 => ?_
  walk_at "g5"
  refine q w7 st ((E3.t0 (E5.t0 e6)).tt e7) (E3.free (E5.free hst)) ⟨o7, _, ost.ex e7 (by simpa using gst), .cons ((d5.ex e6).ex e7) .nil⟩
theorem run_spec (h : Nt v w a A N) (VV : Vd N) (dr : Dv w xr (.list (rows.map ids))) (hr : ∀ r ∈ rows, Bs r ∧ (r.length : Int) = N.inp) (dz : Dv w xz (ids rs)) (hrs : rs.length = rows.length) (hrl : rs.length ≤ 1000) (hp : 0 < per) (hp1 : per < 1000)
    (q : ∀ w' z, Ex [] w w' → Dv w' z (.list ((dlF N rows rs per rs.length).2.map ids)) → Q z w'.H) : spOf v D (n + 6) i_run_delayed [.ref a, xr, xz, .int per] w.H Q E := by
  have hi0 := VV.i0
  have hi1 := VV.i1
  have hrgl := VV.rl
  have hgl := VV.gl
  have hol := VV.ol
  refine in_run_delayed ?_
  unfold b_run_delayed
  walk_at "g5"
  refine k_mk fun w1 g dx e1 hg og => ?_
  refine clk_init_spec (h.ex e1) VV og fun w2 st e2 hst C2 => ?_
  refine ⟨rfl, ?_⟩
  have E2 : Ex [] w w2 := e1.tf e2 hg
  have hst0 : w.H st = none := e1.free hst
  have gst : st ≠ g := fun z => by have := og.h; rw [← z, hst] at this; cases this
  walk_at "g5"
  refine k_flH (h.ex E2).h rfl ?_
  walk_at "g5"
  refine k_lc_mk (h.ex E2).rg (fun i => .int (N.regs.getD i r0).1) (by rw [List.length_map]; omega) (fun i d y w' R hd e dy hR => ?_) fun w3 p3 zs e3 hp3 o3 r3 => ?_
  · obtain ⟨hi, rfl⟩ := get_map (z := r0) hd
    refine g_dp dy ?_
    refine g_cons_nm ?_
    refine g_cons_nm ?_
    refine g_nil ?_
    refine k_mk1 rfl ?_
    walk_at "g5"
    exact hR w' _ (Ex.refl _) (.int _)
  rw [List.length_map] at r3
  rw [range_map (z := r0) (fun p : Int × Int => PyData.int p.1)] at r3
  obtain ⟨w4, eh4, e4, d4⟩ := seal_lst o3 r3
  rw [← eh4]
  have E4 : Ex [] w2 w4 := e3.tf e4 hp3
  walk_at "g5"
  refine k_flH ((h.ex E2).ex E4).h rfl ?_
  walk_at "g5"
  refine o_addL d4 ((h.ex E2).ex E4).ou (by simp [sizeLine_eq]; omega) fun w5 y5 e5 d5 => ?_
  have hn5 : Dv w5 y5 (ids (N.regs.map (·.1) ++ N.outs)) := by
    rw [ids, List.map_append, List.map_map]; exact d5
  have E5 : Ex [] w w5 := E2.t0 (E4.t0 e5)
  have C5 := C2.ex0 (E4.t0 e5)
  walk_at "g5"
  refine k_lstO (by simp) fun w6 rl e6 hrl6 orl => ?_
  have E6 : Ex [] w w6 := E5.t0 e6
  have C6 := C5.ex0 e6
  have hn6 := hn5.ex e6
  have hrl0 : w.H rl = none := E5.free hrl6
  have rg : rl ≠ g := fun z => by have := C5.og.h; rw [← z, hrl6] at this; cases this
  have rst : rl ≠ st := fun z => by obtain ⟨_, os, _⟩ := C5.os; have := os.h; rw [← z, hrl6] at this; cases this
  obtain ⟨zb, rfl, sz, hz⟩ := dz.ints
  walk_at "g5"
  refine k_en (sqL (E6.keepL sz hz)) ?_
  refine k_for_enm (xs := rs.map V.int) (fun c σ w' => ∃ a7 a8 a9 a10 a11 vs, σ = [some (.ref a), some xr, some (.ref zb), some (.int per), some (.ref g), some y5, some (.ref rl), a7, a8, a9, a10, a11, none, none] ∧ Ex [st, rl] w6 w' ∧ Clk v w' g a xr per st dx (dlF N rows rs per c).1 ∧ Op w' rl (.lst vs) ∧ Dvs w' vs ((dlF N rows rs per c).2.map ids)) (fun c σ w' h => ?_) ⟨_, _, _, _, _, [], rfl, (Ex.refl w6).more (by simp) (by
    intro b hb
    simp only [List.mem_cons, List.not_mem_nil, or_false] at hb
    rcases hb with rfl | rfl
    · obtain ⟨_, os, _⟩ := C6.os; exact os.n
    · exact orl.n), C6, orl, .nil⟩ ?_ ?_
  · obtain ⟨_, _, _, _, _, _, _, e, _⟩ := h
    exact sqL (e.keepL (E6.sub _ sz) (E6.keepL sz hz))
  · rintro c z σ w' w7 P hzz ⟨a7, a8, a9, a10, a11, vs, rfl, E', C', o', d'⟩ e7 hP
    obtain ⟨hc, rfl⟩ := ids_get hzz
    have X7 : Ex [] w w7 := (E6.trans E' (by
      intro b hb
      simp only [List.mem_cons, List.not_mem_nil, or_false] at hb
      rcases hb with rfl | rfl
      · exact .inr hst0
      · exact .inr hrl0)).t0 e7
    have h7 := h.ex X7
    refine g_tupR hP rfl ?_
    walk_at "g5"
    refine o_mul (.inr ⟨by omega, by omega⟩) ?_
    walk_at "g5"
    refine k_flH h7.h rfl ?_
    walk_at "g5"
    refine k_flH h7.hl rfl ?_
    walk_at "g5"
    have C7 := C'.ex0 e7
    have hsd : ∀ s ∈ (dlF N rows rs per c).1, Bs s ∧ s.length = N.regs.length := fun s hs => ⟨dlF_bits VV (fun r h => (hr r h).1) c s hs, dlF_st N rows rs per c s hs⟩
    have hnr : ∀ m ∈ N.regs.map (·.1) ++ N.outs, 0 ≤ m ∧ m < 2 + N.inp + N.regs.length + N.gates.length := fun m hm => by
      rcases List.mem_append.mp hm with hm | hm
      · obtain ⟨p, hp, rfl⟩ := List.mem_map.mp hm
        have := VV.rg p hp
        exact ⟨this.1, this.2.1⟩
      · exact VV.ou m hm
    have TT := Tm.of VV (rows := rows) (sts := (dlF N rows rs per c).1) hp hp1 (show c < rows.length by omega) (dlF_len N rows rs per c).1
    refine k_me C7.og (by rfl) ?_
    walk_at "g5"
    have hn7 : Dv w7 y5 (ids (N.regs.map (·.1) ++ N.outs)) := (hn6.ex E').ex e7
    refine values_spec h7 VV C7 (dr.ex X7) hr hsd TT hn7 (by simp; omega) hnr fun w8 y8 e8 d8 => ?_
    have h8 := h7.ex e8
    have X8 := X7.t0 e8
    rw [List.map_append] at d8
    walk_at "g5"
    refine k_flH h8.h rfl ?_
    walk_at "g5"
    refine f_lenL h8.rg ?_
    rw [List.length_map]
    walk_at "g5"
    refine k_scD d8 fun w9 y9 e9 d9 => ?_
    rw [cutD_map, cut_take, List.take_left' (by simp)] at d9
    have h9 := h8.ex e9
    have X9 := X8.t0 e9
    have d89 := d8.ex e9
    have C9 := (C7.ex0 e8).ex0 e9
    have o9 := ((o'.ex e7 (by simp)).ex e8 (by simp)).ex e9 (by simp)
    have dd9 := ((d'.ex e7).ex e8).ex e9
    have E9 : Ex [st, rl] w6 w9 := ((E'.t0 e7).t0 e8).t0 e9
    walk_at "g5"
    refine kif_gen2 (fun σ H => ∃ w' z, H = w'.H ∧ σ = [some (.ref a), some xr, some (.ref zb), some (.int per), some (.ref g), some y5, some (.ref rl), some (.int (c : Nat)), some (.int (rs.getD c 0)), some (.int (((c : Nat) + 1) * per - N.su)), some y8, some z, none, none] ∧ Ex [] w9 w' ∧ Dv w' z (ids (if rs.getD c 0 = 1 then ini N else N.regs.map fun p => ((dwv N rows (dlF N rows rs per c).1 per).getD p.1.toNat wz) (((c : Int) + 1) * per - N.su)))) (fun hc1 nx' hnx => ?_) (fun hc1 => ⟨w9, y9, rfl, rfl, Ex.refl _, ?_⟩) ?_
    · walk_at "g5"
      refine k_meH h9.h (by rfl) ?_
      walk_at "g5"
      refine init_state_spec h9 VV fun w10 p e10 hp10 o10 => ?_
      obtain ⟨w11, eh, e11, d11⟩ := seal_lst o10 (Dvs.ints _)
      rw [← eh]
      walk_at "g5"
      refine hnx _ _ ⟨w11, _, rfl, rfl, e10.tf e11 hp10, ?_⟩
      rw [if_pos (of_decide_eq_true hc1)]
      exact d11
    · rw [if_neg (of_decide_eq_false hc1)]
      have e : (N.regs.map fun p => ((dwv N rows (dlF N rows rs per c).1 per).getD p.1.toNat wz) (((c : Int) + 1) * per - N.su)) = (N.regs.map (·.1)).map fun m => ((dwv N rows (dlF N rows rs per c).1 per).getD m.toNat wz) (((c : Int) + 1) * per - N.su) := by rw [List.map_map]; rfl
      rw [e]
      exact d9
    rintro σ H ⟨w10, z, rfl, rfl, e10, dz10⟩
    have C10 := C9.ex0 e10
    have h10 := h9.ex e10
    obtain ⟨vst, os, dvs⟩ := C10.os
    walk_at "g5"
    refine k_fl C10.og rfl ?_
    walk_at "g5"
    refine k_m1 os.h rfl ?_
    walk_at "g5"
    refine m_app os (by rw [dvs.length, List.length_map, (dlF_len N rows rs per c).1, sizeLine_eq]; omega) fun w11 e11 o11 => ?_
    have h11 := h10.ex e11
    walk_at "g5"
    refine k_m1 ((o9.ex e10 (by simp)).ex e11 (by simpa using rst)).h rfl ?_
    walk_at "g5"
    refine k_flH h11.h rfl ?_
    walk_at "g5"
    refine f_lenL h11.rg ?_
    rw [List.length_map]
    walk_at "g5"
    refine k_scD ((d89.ex e10).ex e11) fun w12 y12 e12 d12 => ?_
    rw [cutD_map, cut_drop, List.drop_left' (by simp)] at d12
    walk_at "g5"
    have orl11 := ((o9.ex e10 (by simp)).ex e11 (by simpa using rst)).ex e12 (by simp)
    have dd11 := ((dd9.ex e10).ex e11).ex e12
    refine m_app orl11 (by rw [dd9.length, List.length_map, (dlF_len N rows rs per c).2, sizeLine_eq]; omega) fun w13 e13 o13 => ?_
    walk_at "g5"
    have E11 : Ex [st, rl] w6 w11 := (E9.t0 e10).trans e11 fun b hb => .inl (by simp only [List.mem_singleton] at hb; subst hb; simp)
    have E13 : Ex [st, rl] w6 w13 := (E11.t0 e12).trans e13 fun b hb => .inl (by simp only [List.mem_singleton] at hb; subst hb; simp)
    refine k_is ⟨_, _, _, _, _, _, rfl, E13, ⟨((C10.og.ex e11 (by simpa using Ne.symm gst)).ex e12 (by simp)).ex e13 (by simpa using Ne.symm rg), _, ((o11.ex e12 (by simp)).ex e13 (by simpa using Ne.symm rst)), ?_⟩, o13, ?_⟩
    · show Dvs w13 _ (((dlF N rows rs per c).1 ++ [_]).map ids)
      rw [List.map_append]
      exact (((dvs.ex e11).ex e12).ex e13).app (.cons (((dz10.ex e11).ex e12).ex e13) .nil)
    · show Dvs w13 _ (((dlF N rows rs per c).2 ++ [_]).map ids)
      rw [List.map_append]
      exact (dd11.ex e13).app (.cons (d12.ex e13) .nil)
  · rintro σ w' ⟨a7, a8, a9, a10, a11, vs, rfl, E', C', o', d'⟩
    rw [List.length_map] at C' d'
    walk_at "g5"
    obtain ⟨w8, eh, e8, d8⟩ := seal_lst o' d'
    rw [← eh]
    refine q w8 _ ?_ d8
    exact (E6.trans E' (by
      intro b hb
      simp only [List.mem_cons, List.not_mem_nil, or_false] at hb
      rcases hb with rfl | rfl
      · exact .inr hst0
      · exact .inr hrl0)).tf e8 hrl0
end
theorem i_T0' {w : Wd} {K : PySem.W.Frag} {Q : VK} {x : V} {i : Int} {d : PyData} (hx : Dv w x (.tuple [.int i, d])) (h : Q (.int i) w.H) : KI2 K x Q (.int 0) w.H := i_T hx (by decide) rfl fun y dy => by rw [dy.of_int]; exact h
section
variable {v : Ev} {n : Nat} {w : Wd} {Q : VK} {E : XK} {a : Addr} {A : NA} {N : NL}
theorem lallv_spec {x y : V} {row st : List Int} (h : Nt v w a A N) (VV : Vd N) (dx : Dv w x (ids row)) (dy : Dv w y (ids st)) (br : Bs row) (bs : Bs st) (hlr : (row.length : Int) = N.inp) (hls : st.length = N.regs.length)
    (q : ∀ w' p, Ex [] w w' → w.H p = none → Op w' p (.lst ((allv N row st).map V.int)) → Q (.ref p) w'.H) : spOf v D (n + 2) i_law_all_values [.ref a, x, y] w.H Q E := by
  have hi := VV.i1
  have hr := VV.rl
  have hg := VV.gl
  have hb := base_bits br bs
  have hbl : ((([0, 1] ++ row ++ st).length : Nat) : Int) = 2 + N.inp + N.regs.length := by simp; omega
  unfold allv at q
  refine in_law_all_values ?_
  unfold b_law_all_values
  walk_at "g2"
  refine k_lstO (by simp) fun w1 p1 e1 hp1 o1 => ?_
  walk_at "g2"
  refine f_lstL (dx.ex e1) fun w2 x2 e2 d2 => ?_
  obtain ⟨b2, rfl, s2, h2⟩ := d2.ints
  refine o_addl (o1.ex e2 (by simp)).h h2 (by simp [sizeLine_eq]; omega) ?_
  refine new_op fun w3 p3 e3 hp3 o3 => ?_
  walk_at "g2"
  refine f_lstL (((dy.ex e1).ex e2).ex e3) fun w4 x4 e4 d4 => ?_
  obtain ⟨b4, rfl, s4, h4⟩ := d4.ints
  refine o_addl (o3.ex e4 (by simp)).h h4 (by simp [sizeLine_eq]; omega) ?_
  refine new_op fun w5 p e5 hp o5 => ?_
  have E5 : Ex [] w w5 := (((e1.t0 e2).t0 e3).t0 e4).t0 e5
  have frp : w.H p = none := (((e1.t0 e2).t0 e3).t0 e4).free hp
  have h5 := h.ex E5
  generalize hbase : [0, 1] ++ row ++ st = base at hb hbl q
  have o5 : Op w5 p (.lst (base.map V.int)) := by rw [← hbase]; simpa using o5
  walk_at "g2"
  refine k_flH h5.h rfl ?_
  refine k_for_D h5.gt (fun i σ w' => ∃ a4 a5 a6, σ = [some (.ref a), some x, some y, some (.ref p), a4, a5, a6] ∧ Ex [] w w' ∧ Ex [p] w5 w' ∧ Op w' p (.lst ((nvals N.cells base (N.gates.take i)).map V.int))) (fun i σ w' h => by obtain ⟨_, _, _, _, _, h, _⟩ := h; exact ⟨_, h⟩)
    ⟨_, _, _, rfl, E5, (Ex.refl w5).more (by simp) (by simpa using o5.n), by simpa [nvals] using o5⟩ ?_ ?_
  · rintro i d z σ w' hd dz ⟨a4, a5, a6, rfl, E', ET, o'⟩
    obtain ⟨hi, rfl⟩ := get_map (z := g0) hd
    have hv := VV.gt i hi
    have ln := gate_len VV hbl hb hi
    have nb := (nvals_ok N.cells hb (N.gates.take i)).1
    have ts := take_snoc (z := g0) hi
    generalize N.gates.getD i g0 = g at hv dz ts
    have hN := h.ex E'
    walk_at "g2"
    refine i_T dz (by decide) rfl fun yp dp => ?_
    walk_at "g2"
    refine f_lenT dp ?_
    walk_at "g2"
    rw [List.length_map]
    refine k_r1 (by omega) (by omega) ?_
    refine k_for_n g.2.length (by omega) (fun k σ w'' => w'' = w' ∧ ∃ a6, σ = [some (.ref a), some x, some y, some (.ref p), some z, some (.int (tab (fun k => (pinv (nvals N.cells base (N.gates.take i)) g.2).getD k 0) k)), a6]) ⟨rfl, _, rfl⟩ ?_ ?_
    · rintro k σ w'' hk ⟨rfl, a6, rfl⟩
      have hm := hv.2.2.2 _ (getD_mem hk)
      walk_at "g2"
      refine i_T dz (by decide) rfl fun yp dp => ?_
      walk_at "g2"
      refine i_GT dp (by omega) (by omega) ?_
      rw [Int.toNat_natCast]
      refine i_OG (xs := nvals N.cells base (N.gates.take i)) o'.h hm.1 (by omega) ?_
      walk_at "g2"
      refine o_shl (.inl ⟨by omega, by omega, by decide⟩) ?_
      rw [p2]
      have hvv := nb.get (g.2.getD k 0).toNat
      refine o_mul (.inl (by rcases hvv with z | z <;> rw [z] <;> decide)) ?_
      walk_at "g2"
      refine k_is ⟨rfl, some (.int (k : Nat)), ?_⟩
      have e1 : (pinv (nvals N.cells base (N.gates.take i)) g.2).getD k 0 = (nvals N.cells base (N.gates.take i)).getD (g.2.getD k 0).toNat 0 := by
        unfold pinv
        rw [List.getD_eq_getElem?_getD, List.getElem?_map, List.getElem?_eq_getElem hk, List.getD_eq_getElem?_getD, List.getD_eq_getElem?_getD (l := g.2), List.getElem?_eq_getElem hk]
        rfl
      rw [← e1]; rfl
    · rintro σ w'' ⟨rfl, a6, rfl⟩
      have pb := pinv_bits nb g.2
      have rg := tab_rng (f := fun k => (pinv (nvals N.cells base (N.gates.take i)) g.2).getD k 0) (n := g.2.length) fun k _ => pb.get k
      have p4 := ipow16 hv.2.2.1
      walk_at "g2"
      refine k_m1 o'.h rfl ?_
      walk_at "g2"
      refine k_flH hN.h rfl ?_
      walk_at "g2"
      refine k_flH hN.hl rfl ?_
      walk_at "g2"
      refine i_T0' dz ?_
      refine cell_at hN hv.1 hv.2.1 fun xc hc => ?_
      obtain ⟨ac, dxc, nmc, dlc, rfl, sc, hcc, _⟩ := id hc
      refine k_flH hcc rfl ?_
      walk_at "g2"
      refine o_shl (.inl ⟨rg.1, by omega, by decide⟩) ?_
      rw [p2I]
      have hp : (0 : Int) < 2 ^ (tab (fun k => (pinv (nvals N.cells base (N.gates.take i)) g.2).getD k 0) g.2.length).toNat := Int.pow_pos (by decide)
      refine o_fdv hp (log_small ?_) ?_
      · rw [Int.natAbs_pow]
        exact Nat.pow_lt_pow_right (by decide) (by omega)
      walk_at "g2"
      refine o_mod (by decide) ?_
      walk_at "g2"
      refine m_app o' (by rw [List.length_map, sizeLine_eq]; omega) fun w8 e8 o8 => ?_
      walk_at "g2"
      refine k_is ⟨_, _, _, rfl, E'.tf e8 frp, ET.tt e8, ?_⟩
      rw [ts, nvals_snoc]
      have : gval N.cells (nvals N.cells base (N.gates.take i)) g = bt (N.cells.getD g.1.toNat ce0).t (tab (fun k => (pinv (nvals N.cells base (N.gates.take i)) g.2).getD k 0) g.2.length).toNat := by
        unfold gval pout
        rw [show (pinv (nvals N.cells base (N.gates.take i)) g.2).length = g.2.length from by unfold pinv; rw [List.length_map]]
      rw [this, List.map_append]
      exact o8
  · rintro σ w' ⟨a4, a5, a6, rfl, E', _, o'⟩
    rw [List.length_map, List.take_length] at o'
    walk_at "g2"
    exact q w' p E' frp o'
end
section
variable {v : Ev} {n : Nat} {w : Wd} {Q : VK} {E : XK} {a : Addr} {A : NA} {N : NL}
theorem lstep_spec {x y : V} {row st : List Int} (h : Nt v w a A N) (VV : Vd N) (dx : Dv w x (ids row)) (dy : Dv w y (ids st)) (br : Bs row) (bs : Bs st) (hlr : (row.length : Int) = N.inp) (hls : st.length = N.regs.length)
    (q : ∀ w' z, Ex [] w w' → Dv w' z (.tuple [ids (outv N (allv N row st)), ids (nxtv N (allv N row st))]) → Q z w'.H) : spOf v D (n + 3) i_law_step [.ref a, x, y] w.H Q E := by
  have ao := allv_ok (N := N) br bs hlr hls
  have hol := VV.ol
  have hrl := VV.rl
  refine in_law_step ?_
  unfold b_law_step
  walk_at "g2"
  refine lallv_spec h VV dx dy br bs hlr hls fun w1 p e1 hp o1 => ?_
  generalize allv N row st = vs at *
  have h1 := h.ex e1
  walk_at "g2"
  refine k_flH h1.h rfl ?_
  refine k_lc_mk h1.ou (fun i => .int (vs.getD (N.outs.getD i 0).toNat 0)) (by rw [List.length_map]; omega) (fun i d z w' R hd e dz hR => ?_) fun w2 p2 zs e2 hp2 o2 r2 => ?_
  · obtain ⟨hi, rfl⟩ := get_map (z := (0 : Int)) hd
    obtain rfl := dz.of_int
    have hm := VV.ou _ (getD_mem hi)
    refine g_nm ?_
    refine k_mk1 rfl ?_
    walk_at "g2"
    refine i_OG (xs := vs) (o1.ex e (by simp)).h hm.1 (by omega) ?_
    exact hR w' _ (Ex.refl _) (.int _)
  rw [List.length_map] at r2
  have hz := r2.ints_of
  rw [range_map (z := (0 : Int)) (fun n => vs.getD n.toNat 0)] at hz
  subst hz
  obtain ⟨w3, eh, e3, d3⟩ := seal_lst o2 (Dvs.ints _)
  rw [← eh]
  have E3 : Ex [] w1 w3 := e2.tf e3 hp2
  have h3 := h1.ex E3
  walk_at "g2"
  refine k_flH h3.h rfl ?_
  refine k_lc_mk h3.rg (fun i => .int (vs.getD (N.regs.getD i r0).1.toNat 0)) (by rw [List.length_map]; omega) (fun i d z w' R hd e dz hR => ?_) fun w4 p4 zs e4 hp4 o4 r4 => ?_
  · obtain ⟨hi, rfl⟩ := get_map (z := r0) hd
    have hm := VV.rg (N.regs.getD i r0) (by rw [List.getD_eq_getElem?_getD, List.getElem?_eq_getElem hi]; exact List.getElem_mem _)
    refine g_nm ?_
    refine k_mk1 rfl ?_
    walk_at "g2"
    refine i_T0 dz ?_
    refine i_OG (xs := vs) ((o1.ex E3 (by simp)).ex e (by simp)).h hm.1 (by omega) ?_
    exact hR w' _ (Ex.refl _) (.int _)
  rw [List.length_map] at r4
  have hz := r4.ints_of
  rw [range_map (z := r0) (fun p : Int × Int => vs.getD p.1.toNat 0)] at hz
  subst hz
  obtain ⟨w5, eh5, e5, d5⟩ := seal_lst o4 (Dvs.ints _)
  rw [← eh5]
  have E5 : Ex [] w3 w5 := e4.tf e5 hp4
  walk_at "g2"
  refine k_tup (by simp) (.cons (d3.ex E5) (.cons d5 .nil)) fun w6 z e6 d6 => ?_
  exact q w6 z (((e1.t0 E3).t0 E5).t0 e6) d6
/-- the initial bits, as the law takes them -/
theorem linit {K : PySem.W.Frag} {σ : St} {i : Nat} {Q : VK} {W : WX} (h : Nt v w a A N) (VV : Vd N) (hw : ∀ y : V, wipe (List.set (wipe σ [i]) i (some y)) [i] = wipe σ [i]) (hv : ∀ y : V, (List.set (wipe σ [i]) i (some y))[i]? = some (some y))
    (q : ∀ w' p, Ex [] w w' → w.H p = none → Op w' p (.lst ((ini N).map V.int)) → Q (.ref p) w'.H) : KLs v.K (KLc (Tg.den (evAt v D n) (.nm i) noW) (Tto.den (evAt v D n) .no W) (Xp.den (evAt v D n) (.ix (.v i) (.c (.int 1))) noW) [i] σ Q) A.rg w.H := by
  have hr := VV.rl
  refine k_lc_mk h.rg (fun i => .int (N.regs.getD i r0).2) (by rw [List.length_map]; omega) (fun j d y w' R hd e dy hR => ?_) fun w' p zs e hp o r => ?_
  · obtain ⟨hi, rfl⟩ := get_map (z := r0) hd
    refine g_nm ?_
    refine k_mk1 (hw y) ?_
    refine e_ix ?_
    refine e_v ?_
    rw [hv y]
    refine k_v ?_
    walk_at "g2"
    refine i_T1 dy ?_
    exact hR w' _ (Ex.refl _) (.int _)
  · rw [List.length_map] at r
    have := r.ints_of
    rw [range_map (z := r0) (fun p : Int × Int => p.2)] at this
    rw [this] at o
    exact q w' p e hp o
end
/-! ### runs without delays (out of k39) -/
def stN (N : NL) (rows : List (List Int)) (rs : List Int) : Nat → List Int
  | 0 => ini N
  | k + 1 => if rs.getD k 0 = 1 then ini N else nxtv N (allv N (rows.getD k []) (stN N rows rs k))
def outN (N : NL) (rows : List (List Int)) (rs : List Int) (k : Nat) : List Int := outv N (allv N (rows.getD k []) (stN N rows rs k))
/-- rows of bits -/
def Rws (N : NL) (rows : List (List Int)) : Prop := ∀ r ∈ rows, Bs r ∧ (r.length : Int) = N.inp
theorem getD_memL {ls : List (List Int)} {k : Nat} (h : k < ls.length) : ls.getD k [] ∈ ls := by
  rw [List.getD_eq_getElem?_getD, List.getElem?_eq_getElem h]; exact List.getElem_mem _
theorem stN_ok {N : NL} (VV : Vd N) {rows : List (List Int)} {rs : List Int} (hr : Rws N rows) : ∀ k, k ≤ rows.length → Bs (stN N rows rs k) ∧ (stN N rows rs k).length = N.regs.length
  | 0, _ => ⟨ini_bits VV, by simp [stN, ini]⟩
  | k + 1, hk => by
    have ih := stN_ok VV (rs := rs) hr k (by omega)
    have hm := hr _ (getD_memL (show k < rows.length by omega))
    unfold stN
    split
    · exact ⟨ini_bits VV, by simp [ini]⟩
    · exact ⟨nxtv_bits (allv_ok hm.1 ih.1 hm.2 ih.2).1, by simp [nxtv]⟩
section
variable {v : Ev} {n : Nat} {w : Wd} {Q : VK} {E : XK} {a : Addr} {A : NA} {N : NL}
theorem netv_spec {x y : V} {row st : List Int} (h : Nt v w a A N) (VV : Vd N) (dx : Dv w x (ids row)) (dy : Dv w y (ids st)) (br : Bs row) (bs : Bs st) (hlr : (row.length : Int) = N.inp) (hls : st.length = N.regs.length)
    (q : ∀ w' p, Ex [] w w' → w.H p = none → Op w' p (.lst ((nvals N.cells ([0, 1] ++ row ++ st) N.gates).map V.int)) → Q (.ref p) w'.H) : spOf v D (n + 2) i_Netlist_net_values [.ref a, x, y] w.H Q E := by
  have hi := VV.i1
  have hr := VV.rl
  have hg := VV.gl
  have hb : Bs ([0, 1] ++ row ++ st) := by
    intro z hz
    rcases List.mem_append.mp hz with hz | hz
    · rcases List.mem_append.mp hz with hz | hz
      · simp at hz; exact hz
      · exact br z hz
    · exact bs z hz
  have hbl : ((([0, 1] ++ row ++ st).length : Nat) : Int) = 2 + N.inp + N.regs.length := by simp; omega
  refine in_Netlist_net_values ?_
  unfold b_Netlist_net_values
  walk_at "g2"
  refine k_lstO (by simp) fun w1 p1 e1 hp1 o1 => ?_
  walk_at "g2"
  refine f_lstL (dx.ex e1) fun w2 x2 e2 d2 => ?_
  obtain ⟨b2, rfl, s2, h2⟩ := d2.ints
  refine o_addl (o1.ex e2 (by simp)).h h2 (by simp [sizeLine_eq]; omega) ?_
  refine new_op fun w3 p3 e3 hp3 o3 => ?_
  walk_at "g2"
  refine f_lstL (((dy.ex e1).ex e2).ex e3) fun w4 x4 e4 d4 => ?_
  obtain ⟨b4, rfl, s4, h4⟩ := d4.ints
  refine o_addl (o3.ex e4 (by simp)).h h4 (by simp [sizeLine_eq]; omega) ?_
  refine new_op fun w5 p e5 hp o5 => ?_
  have E5 : Ex [] w w5 := (((e1.t0 e2).t0 e3).t0 e4).t0 e5
  have frp : w.H p = none := (((e1.t0 e2).t0 e3).t0 e4).free hp
  have h5 := h.ex E5
  generalize hbase : [0, 1] ++ row ++ st = base at hb hbl q
  have o5 : Op w5 p (.lst (base.map V.int)) := by rw [← hbase]; simpa using o5
  walk_at "g2"
  refine k_flH h5.h rfl ?_
  refine k_for_D h5.gt (fun i σ w' => ∃ a4 a5 a6, σ = [some (.ref a), some x, some y, some (.ref p), a4, a5, a6] ∧ Ex [] w w' ∧ Ex [p] w5 w' ∧ Op w' p (.lst ((nvals N.cells base (N.gates.take i)).map V.int))) (fun i σ w' h => by obtain ⟨_, _, _, _, _, h, _⟩ := h; exact ⟨_, h⟩)
    ⟨_, _, _, rfl, E5, (Ex.refl w5).more (by simp) (by simpa using o5.n), by simpa [nvals] using o5⟩ ?_ ?_
  · rintro i d z σ w' hd dz ⟨a4, a5, a6, rfl, E', ET, o'⟩
    obtain ⟨hi, rfl⟩ := get_map (z := g0) hd
    have hv := VV.gt i hi
    have ln := gate_len VV hbl hb hi
    have nb := (nvals_ok N.cells hb (N.gates.take i)).1
    have ts := take_snoc (z := g0) hi
    generalize N.gates.getD i g0 = g at hv dz ts
    refine g_tup dz rfl fun zs rz => ?_
    cases rz with
    | cons za rz => cases za; cases rz with
      | cons zb rz => cases rz; rename_i pv
                      have hN := h.ex E'
                      walk_at "g2"
                      refine k_m1 o'.h rfl ?_
                      walk_at "g2"
                      refine k_flH hN.h rfl ?_
                      walk_at "g2"
                      refine k_flH hN.hl rfl ?_
                      walk_at "g2"
                      refine cell_at hN hv.1 hv.2.1 fun xc hc => ?_
                      obtain ⟨ac, dxc, nmc, dlc, rfl, sc, hcc, _⟩ := id hc
                      refine k_meH hcc rfl ?_
                      walk_at "g2"
                      refine k_lc_mkT zb (fun k => .int ((nvals N.cells base (N.gates.take i)).getD (g.2.getD k 0).toNat 0)) (by rw [List.length_map]; omega) (fun k d y w'' R hd e dy hR => ?_) fun w'' pp zs e hpp o r => ?_
                      · obtain ⟨hk, rfl⟩ := get_map (z := (0 : Int)) hd
                        obtain rfl := dy.of_int
                        have hm := hv.2.2.2 _ (getD_mem hk)
                        refine g_nm ?_
                        refine k_mk1 rfl ?_
                        walk_at "g2"
                        refine i_OG (xs := nvals N.cells base (N.gates.take i)) (o'.ex e (by simp)).h hm.1 (by omega) ?_
                        exact hR w'' _ (Ex.refl _) (.int _)
                      · rw [List.length_map] at r
                        have hz := r.ints_of
                        rw [range_map (z := (0 : Int)) (fun n => (nvals N.cells base (N.gates.take i)).getD n.toNat 0)] at hz
                        subst hz
                        have E6 : Ex [] w' w'' := e
                        walk_at "g2"
                        refine output_spec (hc.ex E6) o.h (pinv_bits nb g.2) (by rw [List.length_map]; exact hv.2.2.1) (VV.ct _ (by
                          rw [List.getD_eq_getElem?_getD, List.getElem?_eq_getElem (by omega)]
                          exact List.getElem_mem _)).1 fun w7 e7 => ?_
                        walk_at "g2"
                        have o7 := (o'.ex E6 (by simp)).ex e7 (by simp)
                        refine m_app o7 (by rw [List.length_map, sizeLine_eq]; omega) fun w8 e8 o8 => ?_
                        walk_at "g2"
                        refine k_is ⟨_, _, _, rfl, ((E'.t0 E6).t0 e7).tf e8 frp, ((ET.t0 E6).t0 e7).tt e8, ?_⟩
                        rw [ts, nvals_snoc]
                        simpa [gval, pinv] using o8
  · rintro σ w' ⟨a4, a5, a6, rfl, E', _, o'⟩
    rw [List.length_map, List.take_length] at o'
    walk_at "g2"
    exact q w' p E' frp o'
theorem step_spec {x y : V} {row st : List Int} (h : Nt v w a A N) (VV : Vd N) (dx : Dv w x (ids row)) (dy : Dv w y (ids st)) (br : Bs row) (bs : Bs st) (hlr : (row.length : Int) = N.inp) (hls : st.length = N.regs.length)
    (q : ∀ w' z, Ex [] w w' → Dv w' z (.tuple [ids (outv N (allv N row st)), ids (nxtv N (allv N row st))]) → Q z w'.H) : spOf v D (n + 3) i_Netlist_step [.ref a, x, y] w.H Q E := by
  have ao := allv_ok (N := N) br bs hlr hls
  have hol := VV.ol
  have hrl := VV.rl
  refine in_Netlist_step ?_
  unfold b_Netlist_step
  walk_at "g2"
  refine k_meH h.h rfl ?_
  walk_at "g2"
  refine netv_spec h VV dx dy br bs hlr hls fun w1 p e1 hp o1 => ?_
  change Op w1 p (.lst ((allv N row st).map V.int)) at o1
  generalize allv N row st = vs at *
  have h1 := h.ex e1
  walk_at "g2"
  refine k_flH h1.h rfl ?_
  refine k_lc_mk h1.ou (fun i => .int (vs.getD (N.outs.getD i 0).toNat 0)) (by rw [List.length_map]; omega) (fun i d z w' R hd e dz hR => ?_) fun w2 p2 zs e2 hp2 o2 r2 => ?_
  · obtain ⟨hi, rfl⟩ := get_map (z := (0 : Int)) hd
    obtain rfl := dz.of_int
    have hm := VV.ou _ (getD_mem hi)
    refine g_nm ?_
    refine k_mk1 rfl ?_
    walk_at "g2"
    refine i_OG (xs := vs) (o1.ex e (by simp)).h hm.1 (by omega) ?_
    exact hR w' _ (Ex.refl _) (.int _)
  rw [List.length_map] at r2
  have hz := r2.ints_of
  rw [range_map (z := (0 : Int)) (fun n => vs.getD n.toNat 0)] at hz
  subst hz
  obtain ⟨w3, eh, e3, d3⟩ := seal_lst o2 (Dvs.ints _)
  rw [← eh]
  have E3 : Ex [] w1 w3 := e2.tf e3 hp2
  have h3 := h1.ex E3
  walk_at "g2"
  refine k_flH h3.h rfl ?_
  refine k_lc_mk h3.rg (fun i => .int (vs.getD (N.regs.getD i r0).1.toNat 0)) (by rw [List.length_map]; omega) (fun i d z w' R hd e dz hR => ?_) fun w4 p4 zs e4 hp4 o4 r4 => ?_
  · obtain ⟨hi, rfl⟩ := get_map (z := r0) hd
    have hm := VV.rg (N.regs.getD i r0) (by rw [List.getD_eq_getElem?_getD, List.getElem?_eq_getElem hi]; exact List.getElem_mem _)
    refine g_dp dz ?_
    refine g_cons_nm ?_
    refine g_cons_nm ?_
    refine g_nil ?_
    refine k_mk1 rfl ?_
    walk_at "g2"
    refine i_OG (xs := vs) ((o1.ex E3 (by simp)).ex e (by simp)).h hm.1 (by omega) ?_
    exact hR w' _ (Ex.refl _) (.int _)
  rw [List.length_map] at r4
  have hz := r4.ints_of
  rw [range_map (z := r0) (fun p : Int × Int => vs.getD p.1.toNat 0)] at hz
  subst hz
  obtain ⟨w5, eh5, e5, d5⟩ := seal_lst o4 (Dvs.ints _)
  rw [← eh5]
  have E5 : Ex [] w3 w5 := e4.tf e5 hp4
  walk_at "g2"
  refine k_tup (by simp) (.cons (d3.ex E5) (.cons d5 .nil)) fun w6 z e6 d6 => ?_
  exact q w6 z (((e1.t0 E3).t0 E5).t0 e6) d6
theorem runN_spec {x y : V} {rows : List (List Int)} {rs : List Int} (h : Nt v w a A N) (VV : Vd N) (dx : Dv w x (.list (rows.map ids))) (dy : Dv w y (ids rs)) (hl : rs.length = rows.length) (hl2 : rows.length ≤ 100) (hr : Rws N rows)
    (q : ∀ w' z, Ex [] w w' → Dv w' z (.list (((List.range rows.length).map (outN N rows rs)).map ids)) → Q z w'.H) : spOf v D (n + 4) i_run_netlist [.ref a, x, y] w.H Q E := by
  obtain ⟨ax, xs, rfl, sx, hx, rx⟩ := dx.of_lst
  obtain ⟨ay, rfl, sy, hy⟩ := dy.ints
  have lx : xs.length = rows.length := by rw [rx.length, List.length_map]
  refine in_run_netlist ?_
  unfold b_run_netlist
  walk_at "g2"
  refine k_lstO (by simp) fun w1 p e1 hp o1 => ?_
  walk_at "g2"
  refine k_meH (h.ex e1).h rfl ?_
  walk_at "g2"
  refine init_state_spec (h.ex e1) VV fun w2 p2 e2 hp2 o2 => ?_
  obtain ⟨w3, eh, e3, d3⟩ := seal_lst o2 (Dvs.ints _)
  rw [← eh]
  have E3 : Ex [] w w3 := e1.t0 (e2.tf e3 hp2)
  have o3 := (o1.ex e2 (by simp)).ex e3 (by simpa using o1.ne hp2)
  walk_at "g2"
  refine k_zp (ys := rs.map V.int) (sqL (E3.kp _ _ hx (by simp))) (sqL (E3.kp _ _ hy (by simp))) ?_
  refine k_for_zip (xs := xs) (ys := rs.map V.int) (by rw [List.length_map, lx, hl]) (fun i σ w' => ∃ s5 a5 a6 a7 zs, σ = [some (.ref a), some (.ref ax), some (.ref ay), some (.ref p), some s5, a5, a6, a7] ∧ Ex [] w w' ∧ Dv w' s5 (ids (stN N rows rs i)) ∧ Op w' p (.lst zs) ∧ Dvs w' zs (((List.range i).map (outN N rows rs)).map ids))
    (fun i σ w' h => by obtain ⟨_, _, _, _, _, _, h, _⟩ := h; exact ⟨sqL (h.kp _ _ hx (by simp)), sqL (h.kp _ _ hy (by simp))⟩) ⟨_, _, _, _, [], rfl, E3, d3, o3, .nil⟩ ?_ ?_
  · rintro i x1 y1 σ w' w4 P hx1 hy1 ⟨s5, a5, a6, a7, zs, rfl, E', ds, o', dz⟩ e4 hP
    obtain ⟨d, hd, dv⟩ := rx.get' hx1
    obtain ⟨hi, rfl⟩ := get_map (z := ([] : List Int)) hd
    obtain ⟨hi2, rfl⟩ := ids_get hy1
    have hm := hr _ (getD_memL hi)
    have so := stN_ok VV (rs := rs) hr i (by omega)
    have E4 := E'.t0 e4
    refine g_tupR hP rfl ?_
    walk_at "g2"
    refine k_meH (h.ex E4).h rfl ?_
    walk_at "g2"
    refine step_spec (h.ex E4) VV (dv.ex E4) (ds.ex e4) hm.1 so.1 hm.2 so.2 fun w5 z e5 d5 => ?_
    have E5 := E4.t0 e5
    refine k_tg ?_
    refine g_tup d5 rfl fun us ru => ?_
    cases ru with
    | cons da ru => cases ru with
      | cons db ru => cases ru; rename_i ua ub
                      walk_at "g2"
                      generalize hN : Nx _ _ _ _ _ _ _ = NN
                      have rest : ∀ (w6 : Wd) (s6 : V), Ex [] w5 w6 → Dv w6 s6 (ids (stN N rows rs (i + 1))) → NN [some (.ref a), some (.ref ax), some (.ref ay), some (.ref p), some s6, some x1, some (.int (rs.getD i 0)), some ua] w6.H := by
                        intro w6 s6 e6 d6
                        subst hN
                        have o6 := ((o'.ex e4 (by simp)).ex e5 (by simp)).ex e6 (by simp)
                        walk_at "g2"
                        refine k_m1 o6.h rfl ?_
                        walk_at "g2"
                        have lz := dz.length
                        rw [List.length_map, List.length_map, List.length_range] at lz
                        refine m_app o6 (by rw [lz, sizeLine_eq]; omega) fun w7 e7 o7 => ?_
                        walk_at "g2"
                        refine k_is ⟨_, _, _, _, _, rfl, (E5.t0 e6).tf e7 hp, d6.ex e7, o7, ?_⟩
                        rw [List.range_succ, List.map_append, List.map_append]
                        exact ((((dz.ex e4).ex e5).ex e6).ex e7).app (.cons ((da.ex e6).ex e7) .nil)
                      refine kif_d (fun hz => ?_) fun hz => ?_
                      · walk_at "g2"
                        refine k_meH (h.ex E5).h rfl ?_
                        walk_at "g2"
                        refine init_state_spec (h.ex E5) VV fun w6 p6 e6 hp6 o6 => ?_
                        obtain ⟨w7, eh7, e7, d7⟩ := seal_lst o6 (Dvs.ints _)
                        rw [← eh7]
                        walk_at "g2"
                        refine rest w7 _ (e6.tf e7 hp6) ?_
                        unfold stN
                        rw [if_pos hz]
                        exact d7
                      · walk_at "g2"
                        refine rest w5 _ (Ex.refl _) ?_
                        unfold stN
                        rw [if_neg hz]
                        exact db
  · rintro σ w' ⟨s5, a5, a6, a7, zs, rfl, E', ds, o', dz⟩
    rw [lx] at dz
    walk_at "g2"
    obtain ⟨w4, eh4, e4, d4⟩ := seal_lst o' dz
    rw [← eh4]
    exact q w4 _ (E'.tf e4 hp) d4
theorem lrun_spec {x y : V} {rows : List (List Int)} {rs : List Int} (h : Nt v w a A N) (VV : Vd N) (dx : Dv w x (.list (rows.map ids))) (dy : Dv w y (ids rs)) (hl : rs.length = rows.length) (hl2 : rows.length ≤ 100) (hr : Rws N rows)
    (q : ∀ w' z, Ex [] w w' → Dv w' z (.list (((List.range rows.length).map (outN N rows rs)).map ids)) → Q z w'.H) : spOf v D (n + 4) i_law_run [.ref a, x, y] w.H Q E := by
  refine in_law_run ?_
  unfold b_law_run
  walk_at "g2"
  refine k_lstO (by simp) fun w1 p e1 hp o1 => ?_
  walk_at "g2"
  refine k_flH (h.ex e1).h rfl ?_
  refine linit (v := v) (K := v.K) (h.ex e1) VV (fun y => rfl) (fun y => rfl) fun w2 p2 e2 hp2 o2 => ?_
  obtain ⟨w3, eh, e3, d3⟩ := seal_lst o2 (Dvs.ints _)
  rw [← eh]
  have E3 : Ex [] w w3 := e1.t0 (e2.tf e3 hp2)
  have o3 := (o1.ex e2 (by simp)).ex e3 (by simpa using o1.ne hp2)
  walk_at "g2"
  refine f_lenL (dx.ex E3) ?_
  walk_at "g2"
  refine k_r1 (by omega) (by rw [List.length_map]; omega) ?_
  refine k_for_n rows.length (by simp) (fun i σ w' => ∃ s4 a5 a6 zs, σ = [some (.ref a), some x, some y, some (.ref p), some s4, a5, a6] ∧ Ex [] w w' ∧ Dv w' s4 (ids (stN N rows rs i)) ∧ Op w' p (.lst zs) ∧ Dvs w' zs (((List.range i).map (outN N rows rs)).map ids))
    ⟨_, _, _, [], rfl, E3, d3, o3, .nil⟩ ?_ ?_
  · rintro i σ w' hi ⟨s4, a5, a6, zs, rfl, E', ds, o', dz⟩
    have hm := hr _ (getD_memL hi)
    have so := stN_ok VV (rs := rs) hr i (by omega)
    walk_at "g2"
    refine i_M (g := ids) (xs := rows) (z := []) (dx.ex E') (by omega) (by omega) fun yr dr => ?_
    rw [Int.toNat_natCast] at dr
    walk_at "g2"
    refine lstep_spec (h.ex E') VV dr ds hm.1 so.1 hm.2 so.2 fun w5 z e5 d5 => ?_
    have E5 := E'.t0 e5
    have o5 := o'.ex e5 (by simp)
    walk_at "g2"
    refine k_m1 o5.h rfl ?_
    walk_at "g2"
    refine i_T d5 (by decide) rfl fun ua da => ?_
    have lz := dz.length
    rw [List.length_map, List.length_map, List.length_range] at lz
    walk_at "g2"
    refine m_app o5 (by rw [lz, sizeLine_eq]; omega) fun w7 e7 o7 => ?_
    have E7 := E5.tf e7 hp
    have dz7 : Dvs w7 (zs ++ [ua]) (((List.range (i + 1)).map (outN N rows rs)).map ids) := by
      rw [List.range_succ, List.map_append, List.map_append]
      exact ((dz.ex e5).ex e7).app (.cons (da.ex e7) .nil)
    walk_at "g2"
    refine i_T (d5.ex e7) (by decide) rfl fun ub db => ?_
    walk_at "g2"
    refine i_G (dy.ex E7) (by omega) (by omega) ?_
    rw [Int.toNat_natCast]
    walk_at "g2"
    refine kif_d (fun hz => ?_) fun hz => ?_
    · walk_at "g2"
      refine k_flH (h.ex E7).h rfl ?_
      refine linit (v := v) (K := v.K) (h.ex E7) VV (fun y => rfl) (fun y => rfl) fun w8 p8 e8 hp8 o8 => ?_
      obtain ⟨w9, eh9, e9, d9⟩ := seal_lst o8 (Dvs.ints _)
      rw [← eh9]
      have E9 : Ex [] w7 w9 := e8.tf e9 hp8
      walk_at "g2"
      refine k_is ⟨_, _, _, _, rfl, E7.t0 E9, ?_, o7.ex E9 (by simp), dz7.ex E9⟩
      unfold stN
      rw [if_pos hz]
      exact d9
    · walk_at "g2"
      refine k_is ⟨_, _, _, _, rfl, E7, ?_, o7, dz7⟩
      unfold stN
      rw [if_neg hz]
      exact db
  · rintro σ w' ⟨s4, a5, a6, zs, rfl, E', ds, o', dz⟩
    walk_at "g2"
    obtain ⟨w4, eh4, e4, d4⟩ := seal_lst o' dz
    rw [← eh4]
    exact q w4 _ (E'.tf e4 hp) d4
end
/-! ### k48: late enough, the values are those without delays (plain) -/
def grw {α β : Type} (F : List α → β → α) (base : List α) (gs : List β) : List α := gs.foldl (fun vs g => vs ++ [F vs g]) base
theorem grw_snoc {α β : Type} (F : List α → β → α) (base : List α) (gs : List β) (g : β) : grw F base (gs ++ [g]) = grw F base gs ++ [F (grw F base gs) g] := by
  unfold grw; rw [List.foldl_append]; rfl
theorem grw_len {α β : Type} (F : List α → β → α) (base : List α) : ∀ gs : List β, (grw F base gs).length = base.length + gs.length := by
  intro gs
  induction hn : gs.length generalizing gs with
  | zero => rw [List.length_eq_zero_iff.mp hn]; simp [grw]
  | succ k ih =>
    obtain ⟨pre, g, rfl⟩ : ∃ pre g, gs = pre ++ [g] := by
      rcases List.eq_nil_or_concat gs with e | ⟨p, l, e⟩
      · rw [e] at hn; cases hn
      · exact ⟨p, l, by rw [e, List.concat_eq_append]⟩
    rw [grw_snoc, List.length_append, ih pre (by simpa using hn)]
    simp; simp at hn; omega
theorem grw_take {α β : Type} {F : List α → β → α} {base : List α} (z : β) (gs : List β) {n : Nat} : ∀ m, n < base.length + m → m ≤ gs.length → ∀ {d : α}, (grw F base gs).getD n d = (grw F base (gs.take m)).getD n d := by
  intro m
  induction hq : gs.length - m generalizing m with
  | zero =>
    intro h1 h2 d
    rw [List.take_of_length_le (by omega)]
  | succ q ih =>
    intro h1 h2 d
    rw [ih (m + 1) (by omega) (by omega) (by omega), take_snoc (z := z) (show m < gs.length by omega), grw_snoc, gd_snoc, if_neg]
    rw [grw_len, List.length_take]
    omega
theorem grw_at {α β : Type} {F : List α → β → α} {base : List α} (z : β) {gs : List β} {k : Nat} (hk : k < gs.length) {d : α} : (grw F base gs).getD (base.length + k) d = F (grw F base (gs.take k)) (gs.getD k z) := by
  rw [grw_take z gs (k + 1) (by omega) (by omega), take_snoc (z := z) hk, grw_snoc, gd_snoc, if_pos (by rw [grw_len, List.length_take]; omega)]
def bar (N : NL) : List Int := [0, 0] ++ List.replicate N.inp.toNat 0 ++ List.replicate N.regs.length N.fd
def arv (N : NL) : List Int := arl N.cells (bar N) N.gates
theorem arv_grw (N : NL) : arv N = grw (fun ts g => mxz (rch ts (pds N.cells g))) (bar N) N.gates := rfl
theorem allv_grw (N : NL) (row st : List Int) : allv N row st = grw (gval N.cells) ([0, 1] ++ row ++ st) N.gates := rfl
theorem bar_len (N : NL) : (bar N).length = 2 + N.inp.toNat + N.regs.length := by simp [bar]; omega
theorem bar_reg {N : NL} {k : Nat} (h : k < N.regs.length) : (bar N).getD (2 + N.inp.toNat + k) 0 = N.fd := by
  unfold bar
  rw [List.getD_eq_getElem?_getD, List.getElem?_append_right (by simp; omega), List.getElem?_replicate]
  simp only [List.length_append, List.length_replicate, List.length_cons, List.length_nil]
  rw [if_pos (by omega)]; rfl
theorem mxz_nn (l : List Int) : 0 ≤ mxz l := mxz_0 l
theorem pds_fst {N : NL} (VV : Vd N) {k : Nat} (hk : k < N.gates.length) (f : Int → Int) : (pds N.cells (N.gates.getD k g0)).map (fun p => f p.1) = (N.gates.getD k g0).2.map f := by
  have e := (pds_len VV hk).1
  have : (pds N.cells (N.gates.getD k g0)).map Prod.fst = (N.gates.getD k g0).2 := List.map_fst_zip (by omega)
  conv => rhs; rw [← this]
  rw [List.map_map]
  rfl
theorem bs_row {row st : List Int} {n : Nat} (h1 : 2 ≤ n) (h2 : n < 2 + row.length) : ([0, 1] ++ row ++ st).getD n 0 = row.getD (n - 2) 0 := by
  rw [List.getD_eq_getElem?_getD, List.getElem?_append_left (by simp; omega), List.getElem?_append_right (by simp; omega), List.getD_eq_getElem?_getD]; rfl
theorem bs_st {row st : List Int} {n : Nat} (h : 2 + row.length ≤ n) : ([0, 1] ++ row ++ st).getD n 0 = st.getD (n - (2 + row.length)) 0 := by
  rw [List.getD_eq_getElem?_getD, List.getElem?_append_right (by simp; omega), List.getD_eq_getElem?_getD]
  have : n - ([0, 1] ++ row : List Int).length = n - (2 + row.length) := by simp; omega
  rw [this]
theorem dwv_static {N : NL} (VV : Vd N) {rows sts : List (List Int)} {per : Int} (hp : 0 < per) {c : Nat} (hrow : ((rows.getD c []).length : Int) = N.inp) (hst : (sts.getD c []).length = N.regs.length) :
    ∀ n : Nat, n < 2 + N.inp.toNat + N.regs.length + N.gates.length → ∀ t : Int, (c : Int) * per + (arv N).getD n 0 ≤ t → t < ((c : Int) + 1) * per → ((dwv N rows sts per).getD n wz) t = (allv N (rows.getD c []) (sts.getD c [])).getD n 0 := by
  have hi := VV.i0
  have hfd := VV.fd0
  have lb : ([0, 1] ++ rows.getD c [] ++ sts.getD c []).length = 2 + N.inp.toNat + N.regs.length := by
    rw [List.length_append, List.length_append]
    show 2 + (rows.getD c []).length + (sts.getD c []).length = _
    omega
  have quo : ∀ t : Int, (c : Int) * per ≤ t → t < ((c : Int) + 1) * per → pcl (t / per) = (c : Int) := fun t h1 h2 => by
    have e : t / per = (c : Int) := by
      have a1 := Int.le_ediv_of_mul_le hp h1
      have a2 := Int.ediv_lt_of_lt_mul hp h2
      omega
    rw [e]; unfold pcl; rw [if_neg (by omega)]
  intro n
  induction n using Nat.strongRecOn with
  | _ n ih =>
    intro hn t h1 h2
    rcases Nat.lt_or_ge n (2 + N.inp.toNat + N.regs.length) with z | z
    · have e1 : (dwv N rows sts per).getD n wz = src N rows sts per n := by
        have := dwv_src (N := N) (rows := rows) (sts := sts) (per := per) hi (n := (n : Int)) (by omega) (by omega)
        rwa [Int.toNat_natCast] at this
      have e2 : (allv N (rows.getD c []) (sts.getD c [])).getD n 0 = ([0, 1] ++ rows.getD c [] ++ sts.getD c []).getD n 0 := by
        rw [allv_grw, grw_take g0 N.gates 0 (by omega) (Nat.zero_le _), List.take_zero]; rfl
      have e3 : (arv N).getD n 0 = (bar N).getD n 0 := by
        rw [arv_grw, grw_take g0 N.gates 0 (by rw [bar_len]; omega) (Nat.zero_le _), List.take_zero]; rfl
      rw [e1, e2]
      rw [e3] at h1
      unfold src
      split
      · rcases Nat.lt_or_ge n 1 with y | y
        · have : n = 0 := by omega
          subst this; rfl
        · have : n = 1 := by omega
          subst this; rfl
      · rename_i n2
        split
        · rename_i n3
          have b0 : (bar N).getD n 0 = 0 := by
            unfold bar
            rw [List.getD_eq_getElem?_getD, List.getElem?_append_left (by simp; omega), List.getElem?_append_right (by simp; omega), List.getElem?_replicate]
            split <;> rfl
          rw [b0] at h1
          rw [quo t (by omega) h2]
          rw [Int.toNat_natCast, bs_row (by omega) (by omega), show ((n : Nat) - 2 : Int).toNat = n - 2 by omega]
        · rename_i n3
          have b0 : (bar N).getD n 0 = N.fd := by
            have := bar_reg (N := N) (k := n - (2 + N.inp.toNat)) (by omega)
            rwa [show 2 + N.inp.toNat + (n - (2 + N.inp.toNat)) = n by omega] at this
          rw [b0] at h1
          rw [quo (t - N.fd) (by omega) (by omega), Int.toNat_natCast]
          rw [bs_st (by omega), show ((n : Nat) - 2 - N.inp : Int).toNat = n - (2 + (rows.getD c []).length) by omega]
    · obtain ⟨k, rfl⟩ : ∃ k, n = 2 + N.inp.toNat + N.regs.length + k := ⟨n - (2 + N.inp.toNat + N.regs.length), by omega⟩
      have hk : k < N.gates.length := by omega
      rw [dwv_gate VV hk]
      have e2 : (allv N (rows.getD c []) (sts.getD c [])).getD (2 + N.inp.toNat + N.regs.length + k) 0 = gval N.cells (grw (gval N.cells) ([0, 1] ++ rows.getD c [] ++ sts.getD c []) (N.gates.take k)) (N.gates.getD k g0) := by
        rw [allv_grw, ← lb, grw_at g0 hk]
      have e3 : (arv N).getD (2 + N.inp.toNat + N.regs.length + k) 0 = mxz (rch (grw (fun ts g => mxz (rch ts (pds N.cells g))) (bar N) (N.gates.take k)) (pds N.cells (N.gates.getD k g0))) := by
        rw [arv_grw, ← bar_len, grw_at g0 hk]
      rw [e2]
      rw [e3] at h1
      generalize hak : grw (fun ts g => mxz (rch ts (pds N.cells g))) (bar N) (N.gates.take k) = ak at h1
      generalize hvk : grw (gval N.cells) ([0, 1] ++ rows.getD c [] ++ sts.getD c []) (N.gates.take k) = vk
      show _ = pout _ ((N.gates.getD k g0).2.map fun n => vk.getD n.toNat 0)
      rw [← pds_fst VV hk (fun n => vk.getD n.toNat 0)]
      refine congrArg (pout _) (List.map_congr_left fun p hp' => ?_)
      obtain ⟨j, hj, ej⟩ := List.getElem_of_mem hp'
      have hj2 : j < (N.gates.getD k g0).2.length := by have := pds_len VV hk; omega
      have pg := pds_get VV hk hj2
      rw [List.getElem?_eq_getElem hj, ej] at pg
      have pr := pin_rng VV hk hj2
      have dr := dl_rng VV hk hj2
      have ep : p = ((N.gates.getD k g0).2.getD j 0, (N.cells.getD (N.gates.getD k g0).1.toNat ce0).dl.getD j 0) := by simpa using pg
      have pr1 : 0 ≤ p.1 ∧ p.1 < 2 + N.inp + N.regs.length + k := by rw [ep]; exact pr
      have dr1 : 1 ≤ p.2 ∧ p.2 ≤ 7 := by rw [ep]; exact dr
      have e4 : vk.getD p.1.toNat 0 = (allv N (rows.getD c []) (sts.getD c [])).getD p.1.toNat 0 := by
        rw [← hvk, allv_grw, grw_take g0 N.gates k (by omega) (by omega)]
      rw [e4]
      rcases Int.lt_or_le 1 p.1 with hp1 | hp1
      · refine ih p.1.toNat (by omega) (by omega) (t - p.2) ?_ (by omega)
        have e5 : (arv N).getD p.1.toNat 0 = ak.getD p.1.toNat 0 := by
          rw [← hak, arv_grw, grw_take g0 N.gates k (by rw [bar_len]; omega) (by omega)]
        have hm : (arv N).getD p.1.toNat 0 + p.2 ≤ mxz (rch ak (pds N.cells (N.gates.getD k g0))) := by
          refine mxz_ge ?_
          unfold rch
          refine List.mem_map.mpr ⟨p, List.mem_filter.mpr ⟨hp', decide_eq_true hp1⟩, ?_⟩
          rw [e5]
        omega
      · have c1 := dwv_src (N := N) (rows := rows) (sts := sts) (per := per) hi pr1.1 (by omega)
        rw [c1]
        have e6 : (allv N (rows.getD c []) (sts.getD c [])).getD p.1.toNat 0 = ([0, 1] ++ rows.getD c [] ++ sts.getD c []).getD p.1.toNat 0 := by
          rw [allv_grw, grw_take g0 N.gates 0 (by omega) (Nat.zero_le _), List.take_zero]; rfl
        rw [e6]
        unfold src
        rw [if_pos (by omega)]
        rcases Int.lt_or_le p.1 1 with y | y
        · have : p.1 = 0 := by omega
          rw [this]; rfl
        · have : p.1 = 1 := by omega
          rw [this]; rfl
/-- what the period must be -/
def lst_ (N : NL) : Int := N.su + mxz ((N.regs.map (·.1) ++ N.outs).map fun n => (arv N).getD n.toNat 0)
theorem dlF_static {N : NL} (VV : Vd N) {rows : List (List Int)} {rs : List Int} {per : Int} (hr : Rws N rows) (hp : lst_ N ≤ per) : ∀ c, c ≤ rows.length → (dlF N rows rs per c).1 = (List.range (c + 1)).map (stN N rows rs) ∧ (dlF N rows rs per c).2 = (List.range c).map (outN N rows rs)
  | 0, _ => ⟨rfl, rfl⟩
  | c + 1, hc => by
    obtain ⟨ih1, ih2⟩ := dlF_static VV (rs := rs) hr hp c (by omega)
    have hi := VV.i0
    have hsu := VV.su0
    have hm0 := mxz_0 ((N.regs.map (·.1) ++ N.outs).map fun n => (arv N).getD n.toNat 0)
    have hper : 0 < per := by unfold lst_ at hp; omega
    have hm := hr _ (getD_memL (show c < rows.length by omega))
    have so := stN_ok VV (rs := rs) hr c (by omega)
    have es : ((List.range (c + 1)).map (stN N rows rs)).getD c [] = stN N rows rs c := by
      rw [List.getD_eq_getElem?_getD, List.getElem?_map, List.getElem?_range (by omega)]; rfl
    have key : ∀ n ∈ N.regs.map (·.1) ++ N.outs, 0 ≤ n → n < 2 + N.inp + N.regs.length + N.gates.length → ((dwv N rows (dlF N rows rs per c).1 per).getD n.toNat wz) (((c : Int) + 1) * per - N.su) = (allv N (rows.getD c []) (stN N rows rs c)).getD n.toNat 0 := fun n hn n0 n1 => by
      have hge : (arv N).getD n.toNat 0 ≤ mxz ((N.regs.map (·.1) ++ N.outs).map fun n => (arv N).getD n.toNat 0) := mxz_ge (List.mem_map.mpr ⟨n, hn, rfl⟩)
      have h1 : N.su + (arv N).getD n.toNat 0 ≤ per := by unfold lst_ at hp; omega
      have e : ((c : Int) + 1) * per = (c : Int) * per + per := by rw [Int.add_mul, Int.one_mul]
      have := dwv_static VV (rows := rows) (sts := (dlF N rows rs per c).1) hper (c := c) hm.2 (by rw [ih1, es]; exact so.2) n.toNat (by omega) (((c : Int) + 1) * per - N.su) (by omega) (by omega)
      rw [this, ih1, es]
    constructor
    · show (dlF N rows rs per c).1 ++ [_] = _
      rw [List.range_succ, List.map_append, ← ih1]
      refine congrArg (fun x => (dlF N rows rs per c).1 ++ [x]) ?_
      show _ = stN N rows rs (c + 1)
      conv => rhs; unfold stN
      split
      · rfl
      · unfold nxtv
        refine List.map_congr_left fun p hp' => ?_
        have hrg := VV.rg p hp'
        exact key p.1 (List.mem_append_left _ (List.mem_map.mpr ⟨p, hp', rfl⟩)) hrg.1 hrg.2.1
    · show (dlF N rows rs per c).2 ++ [_] = _
      rw [List.range_succ, List.map_append, ← ih2]
      refine congrArg (fun x => (dlF N rows rs per c).2 ++ [x]) ?_
      show _ = outv N (allv N (rows.getD c []) (stN N rows rs c))
      unfold outv
      refine List.map_congr_left fun n hn => ?_
      have ho := VV.ou n hn
      exact key n (List.mem_append_right _ hn) ho.1 ho.2
/-! ### k48: arrivals, the least period -/
section
variable {v : Ev} {n : Nat} {W : WX} {σ : St} {K : PySem.W.Frag} {w : Wd} {Q : VK}
theorem k_lc_zipTi {a b : Addr} {xs ys : List Int} {g : TG} {tt : TT} {te : TE} {vs : List Nat} (sa : w.S a) (ha : w.H a = some (.tup (xs.map V.int))) (sb : w.S b) (hb : w.H b = some (.tup (ys.map V.int))) (hl : xs.length = ys.length)
    (h : ∀ w1 D, Ex [] w w1 → w.H D = none → Op w1 D (.lst []) → ∃ Inv : Nat → Wd → Prop, Inv 0 w1 ∧ (∀ i w', Inv i w' → ∃ U, Ex U w w') ∧
      (∀ i w' w2 T, i < xs.length → Inv i w' → Ex [] w' w2 → w2.H T = some (.tup [.int (xs.getD i 0), .int (ys.getD i 0)]) → g (.ref T) (wipe σ vs) w2.H (KLb tt te vs σ D (Inv (i + 1)))) ∧ ∀ w', Inv xs.length w' → Q (.ref D) w'.H) : KLc g tt te vs σ Q (RZ.ItzT K a b) w.H := fun D hD => by
  obtain ⟨Inv, h0, hk, hs, hd⟩ := h (w.put D (.lst [])) D (ex_new hD) hD (op_new hD)
  refine lc_it (walk_zipT (xs := xs.map V.int) (ys := ys.map V.int) (by simp [hl])) (Qd := Q (.ref D)) (fun i => KIw (Inv i)) ⟨_, rfl, h0⟩ (fun i H hi ⟨w', e, p⟩ => ?_) (fun i x H H' hi ⟨w', e, p⟩ y => ?_) fun H ⟨w', e, p⟩ => ?_
  · subst e
    obtain ⟨U, E'⟩ := hk i w' p
    exact ⟨sqT (E'.keepL sa ha), sqT (E'.keepL sb hb)⟩
  · obtain ⟨T, x1, x2, rfl, hT, rfl, h1, h2⟩ := y
    subst e
    obtain ⟨hi1, rfl⟩ := ids_get h1
    obtain ⟨hi2, rfl⟩ := ids_get h2
    exact hs i w' (w'.put T _) T hi1 p (ex_new hT) upd_same
  · subst e
    rw [List.length_map] at p
    exact hd w' p
end
theorem rch_len (ts : List Int) (ps : List (Int × Int)) : (rch ts ps).length ≤ ps.length := by
  unfold rch
  rw [List.length_map]
  exact List.length_filter_le _ _
section
variable {v : Ev} {n : Nat} {w : Wd} {Q : VK} {E : XK} {a : Addr} {A : NA} {N : NL}
theorem pin_arr_spec {ta : Addr} {x : V} {ts : List Int} {k : Nat} (h : Nt v w a A N) (VV : Vd N) (hk : k < N.gates.length) (ot : w.H ta = some (.lst (ts.map V.int))) (hts : (ts.length : Int) = 2 + N.inp + N.regs.length + k) (dz : Dv w x (dg (N.gates.getD k g0)))
    (q : ∀ w' p, Ex [] w w' → w.H p = none → Op w' p (.lst ((rch ts (pds N.cells (N.gates.getD k g0))).map V.int)) → Q (.ref p) w'.H) : spOf v D (n + 1) i_pin_arrivals [.ref a, .ref ta, x] w.H Q E := by
  have hg := VV.gt k hk
  have hpl := pds_len VV hk
  refine in_pin_arrivals ?_
  unfold b_pin_arrivals
  walk_at "g5"
  refine k_flH h.h rfl ?_
  walk_at "g5"
  refine k_flH h.hl rfl ?_
  walk_at "g5"
  refine i_T0' dz ?_
  refine cell_at h hg.1 (by omega) fun xc hc => ?_
  obtain ⟨ca, cdx, cnm, cdl, rfl, csx, chh, cdd⟩ := id hc
  walk_at "g5"
  refine k_flH chh rfl ?_
  walk_at "g5"
  refine i_T dz (by decide) rfl fun yp dp => ?_
  have dp : Dv w yp (.tuple ((N.gates.getD k g0).2.map .int)) := dp
  obtain ⟨zb, zs, rfl, sz, hzz, dzs⟩ := id dp.of_tup
  obtain ⟨db, ds, rfl, sd, hd, dds⟩ := id cdd.of_tup
  obtain rfl := dzs.of_ints
  obtain rfl := dds.of_ints
  walk_at "g5"
  refine k_zpT (sqT hzz) (sqT hd) ?_
  refine k_lc_zipTi sz hzz sd hd hpl.1 fun w1 D0 e1 hD o1 => ⟨fun i w' => Ex [] w w' ∧ Op w' D0 (.lst ((rch ts ((pds N.cells (N.gates.getD k g0)).take i)).map V.int)), ⟨e1, by simpa [rch] using o1⟩, fun i w' p => ⟨_, p.1⟩, ?_, ?_⟩
  · rintro i w' w2 T hi ⟨E', o'⟩ e2 hT
    have pr := pin_rng VV hk hi
    have pg := pds_get VV hk hi
    have o2 := o'.ex e2 (by simp)
    have E2 := E'.t0 e2
    have hln := rch_len ts ((pds N.cells (N.gates.getD k g0)).take i)
    rw [List.length_take] at hln
    have hrs : rch ts ((pds N.cells (N.gates.getD k g0)).take (i + 1)) = rch ts ((pds N.cells (N.gates.getD k g0)).take i) ++ (if 1 < (N.gates.getD k g0).2.getD i 0 then [ts.getD ((N.gates.getD k g0).2.getD i 0).toNat 0 + (N.cells.getD (N.gates.getD k g0).1.toNat ce0).dl.getD i 0] else []) := by
      rw [List.take_add_one, pg]
      exact rch_snoc ts _ _
    refine g_tupR hT rfl ?_
    dsimp only [wipe, List.set_cons_zero, List.set_cons_succ]
    walk_at "g5"
    refine k_lb1 rfl ?_
    walk_at "g5"
    refine k_ld (fun hb => ?_) fun hb => ?_
    · have hb : 1 < (N.gates.getD k g0).2.getD i 0 := by simpa using hb
      walk_at "g5"
      refine i_OG (E2.kp _ _ ot (by simp)) pr.1 (by omega) ?_
      walk_at "g5"
      refine k_ap o2 (by rw [List.length_map, sizeLine_eq]; omega) fun w3 e3 o3 => ⟨E2.tf e3 hD, ?_⟩
      rw [hrs, if_pos hb]
      simpa using o3
    · have hb : ¬ 1 < (N.gates.getD k g0).2.getD i 0 := by simpa using hb
      refine ⟨E2, ?_⟩
      rw [hrs, if_neg hb, List.append_nil]
      exact o2
  · rintro w' ⟨E', o'⟩
    rw [← hpl.2.1, List.take_length] at o'
    exact q w' D0 E' hD o'
end
theorem arl_pos {cs : List Ce} {base : List Int} (h : ∀ n, 0 ≤ base.getD n 0) (gs : List (Int × List Int)) : ∀ n, 0 ≤ (arl cs base gs).getD n 0 := by
  induction hn : gs.length generalizing gs with
  | zero => rw [List.length_eq_zero_iff.mp hn]; exact h
  | succ k ih =>
    obtain ⟨pre, g, rfl⟩ : ∃ pre g, gs = pre ++ [g] := by
      rcases List.eq_nil_or_concat gs with e | ⟨p, l, e⟩
      · rw [e] at hn; cases hn
      · exact ⟨p, l, by rw [e, List.concat_eq_append]⟩
    intro n
    rw [arl_snoc, gd_snoc]
    split
    · exact mxz_0 _
    · exact ih pre (by simpa using hn) n
theorem bar_pos {N : NL} (VV : Vd N) : ∀ n, 0 ≤ (bar N).getD n 0 := by
  have hfd := VV.fd0
  have key : ∀ x ∈ bar N, 0 ≤ x := fun x hx => by
    unfold bar at hx
    rcases List.mem_append.mp hx with h | h
    · rcases List.mem_append.mp h with h | h
      · simp at h; omega
      · rw [List.eq_of_mem_replicate h]; omega
    · rw [List.eq_of_mem_replicate h]; omega
  intro n
  rcases Nat.lt_or_ge n (bar N).length with z | z
  · rw [List.getD_eq_getElem?_getD, List.getElem?_eq_getElem z]
    exact key _ (List.getElem_mem _)
  · rw [gd_out z]; omega
section
variable {v : Ev} {n : Nat} {w : Wd} {Q : VK} {E : XK} {a : Addr} {A : NA} {N : NL}
theorem max0 {K : PySem.W.Frag} {p : Addr} {ls : List Int} (o : w.H p = some (.lst (ls.map V.int))) (h0 : ∀ x ∈ ls, 0 ≤ x) (q : Q (.int (mxz ls)) w.H) : KMy K true (.ref p) Q (.int 0) w.H :=
  k_my (sqL o) (fun e => by rw [e] at q; exact q) fun m hm hy => by
    rw [mxz_eq h0 hm fun y hy' => by simpa using hy y hy']
    exact q
theorem arrivals_spec (h : Nt v w a A N) (VV : Vd N) (q : ∀ w' p, Ex [] w w' → w.H p = none → Op w' p (.lst ((arv N).map V.int)) → Q (.ref p) w'.H) : spOf v D (n + 2) i_arrivals [.ref a] w.H Q E := by
  have hi0 := VV.i0
  have hi1 := VV.i1
  have hrl := VV.rl
  have hgl := VV.gl
  refine in_arrivals ?_
  unfold b_arrivals
  walk_at "g5"
  refine k_lstO (by simp) fun w1 p e1 hp o1 => ?_
  walk_at "g5"
  refine k_flH (h.ex e1).h rfl ?_
  walk_at "g5"
  refine k_r1 (by omega) (by omega) ?_
  refine k_for_n N.inp.toNat rfl (fun i σ w' => ∃ a2, σ = [some (.ref a), some (.ref p), a2, none] ∧ Ex [] w w' ∧ Op w' p (.lst (([0, 0] ++ List.replicate i 0 : List Int).map V.int))) ⟨_, rfl, e1, by simpa using o1⟩ ?_ ?_
  · rintro i σ w' hi ⟨a2, rfl, E', o'⟩
    refine g_nm ?_
    walk_at "g5"
    refine k_m1 o'.h rfl ?_
    walk_at "g5"
    refine m_app o' (by simp [sizeLine_eq]; omega) fun w2 e2 o2 => ?_
    walk_at "g5"
    refine k_is ⟨_, rfl, E'.tf e2 hp, ?_⟩
    rw [List.replicate_succ', ← List.append_assoc, List.map_append]
    exact o2
  rintro σ w2 ⟨a2, rfl, E2, o2⟩
  have h2 := h.ex E2
  walk_at "g5"
  refine k_flH h2.h rfl ?_
  refine k_for_D h2.rg (fun i σ w' => ∃ a2, σ = [some (.ref a), some (.ref p), a2, none] ∧ Ex [] w w' ∧ Ex [p] w2 w' ∧ Op w' p (.lst (([0, 0] ++ List.replicate N.inp.toNat 0 ++ List.replicate i N.fd : List Int).map V.int))) (fun i σ w' h => by obtain ⟨_, _, _, e, _⟩ := h; exact ⟨_, e⟩) ⟨_, rfl, E2, (Ex.refl w2).more (by simp) (by simpa using o2.n), by simpa using o2⟩ ?_ ?_
  · rintro i d y σ w' hd dy ⟨a2, rfl, E', ET, o'⟩
    obtain ⟨hi, rfl⟩ := get_map (z := r0) hd
    have h' := h.ex E'
    refine g_nm ?_
    walk_at "g5"
    refine k_m1 o'.h rfl ?_
    walk_at "g5"
    refine k_flH h'.h rfl ?_
    walk_at "g5"
    refine k_flH h'.hl rfl ?_
    walk_at "g5"
    refine m_app o' (by simp [sizeLine_eq]; omega) fun w3 e3 o3 => ?_
    walk_at "g5"
    refine k_is ⟨_, rfl, E'.tf e3 hp, ET.tt e3, ?_⟩
    rw [List.replicate_succ', ← List.append_assoc, List.map_append]
    exact o3
  rintro σ w3 ⟨a2, rfl, E3, _, o3⟩
  have h3 := h.ex E3
  rw [List.length_map] at o3
  walk_at "g5"
  refine k_flH h3.h rfl ?_
  refine k_for_D h3.gt (fun i σ w' => ∃ a2 a3, σ = [some (.ref a), some (.ref p), a2, a3] ∧ Ex [] w w' ∧ Ex [p] w3 w' ∧ Op w' p (.lst ((arl N.cells (bar N) (N.gates.take i)).map V.int))) (fun i σ w' h => by obtain ⟨_, _, _, _, e, _⟩ := h; exact ⟨_, e⟩) ⟨_, _, rfl, E3, (Ex.refl w3).more (by simp) (by simpa using o3.n), o3⟩ ?_ ?_
  · rintro i d y σ w' hd dy ⟨a2, a3, rfl, E', ET, o'⟩
    obtain ⟨hi, rfl⟩ := get_map (z := g0) hd
    have h' := h.ex E'
    have la : (arl N.cells (bar N) (N.gates.take i)).length = 2 + N.inp.toNat + N.regs.length + i := by rw [arl_len, bar_len, List.length_take]; omega
    refine g_nm ?_
    walk_at "g5"
    refine k_m1 o'.h rfl ?_
    walk_at "g5"
    refine pin_arr_spec h' VV hi o'.h (by omega) dy fun w4 p4 e4 hp4 o4 => ?_
    walk_at "g5"
    refine max0 o4.h (fun x hx => ?_) ?_
    · unfold rch at hx
      obtain ⟨pp, hpp, rfl⟩ := List.mem_map.mp hx
      have hmem := (List.mem_filter.mp hpp).1
      obtain ⟨j, hj, ej⟩ := List.getElem_of_mem hmem
      have hj2 : j < (N.gates.getD i g0).2.length := by have := pds_len VV hi; omega
      have pg := pds_get VV hi hj2
      rw [List.getElem?_eq_getElem hj, ej] at pg
      have dr := dl_rng VV hi hj2
      have ep : pp = ((N.gates.getD i g0).2.getD j 0, (N.cells.getD (N.gates.getD i g0).1.toNat ce0).dl.getD j 0) := by simpa using pg
      have := arl_pos (cs := N.cells) (bar_pos VV) (N.gates.take i) pp.1.toNat
      have d2 : 1 ≤ pp.2 := by rw [ep]; exact dr.1
      omega
    walk_at "g5"
    refine m_app (o'.ex e4 (by simp)) (by rw [List.length_map, sizeLine_eq]; omega) fun w5 e5 o5 => ?_
    walk_at "g5"
    refine k_is ⟨_, _, rfl, (E'.t0 e4).tf e5 hp, (ET.t0 e4).tt e5, ?_⟩
    rw [take_snoc (z := g0) hi, arl_snoc, List.map_append]
    exact o5
  rintro σ w4 ⟨a2, a3, rfl, E4, _, o4⟩
  rw [List.length_map, List.take_length] at o4
  walk_at "g5"
  exact q w4 p E4 hp o4
theorem ends_spec (h : Nt v w a A N) (VV : Vd N) (q : ∀ w' y, Ex [] w w' → Dv w' y (ids (N.regs.map (·.1) ++ N.outs)) → Q y w'.H) : spOf v D (n + 1) i_ends [.ref a] w.H Q E := by
  have hrl := VV.rl
  have hol := VV.ol
  refine in_ends ?_
  unfold b_ends
  walk_at "g5"
  refine k_flH h.h rfl ?_
  walk_at "g5"
  refine k_lc_mk h.rg (fun i => .int (N.regs.getD i r0).1) (by rw [List.length_map]; omega) (fun i d y w' R hd e dy hR => ?_) fun w3 p3 zs e3 hp3 o3 r3 => ?_
  · obtain ⟨hi, rfl⟩ := get_map (z := r0) hd
    refine g_dp dy ?_
    refine g_cons_nm ?_
    refine g_cons_nm ?_
    refine g_nil ?_
    refine k_mk1 rfl ?_
    walk_at "g5"
    exact hR w' _ (Ex.refl _) (.int _)
  rw [List.length_map] at r3
  rw [range_map (z := r0) (fun p : Int × Int => PyData.int p.1)] at r3
  obtain ⟨w4, eh4, e4, d4⟩ := seal_lst o3 r3
  rw [← eh4]
  have E4 : Ex [] w w4 := e3.tf e4 hp3
  walk_at "g5"
  refine k_flH (h.ex E4).h rfl ?_
  walk_at "g5"
  refine o_addL d4 (h.ex E4).ou (by simp [sizeLine_eq]; omega) fun w5 y5 e5 d5 => ?_
  exact q w5 y5 (E4.t0 e5) (by rw [ids, List.map_append, List.map_map]; exact d5)
theorem least_spec (h : Nt v w a A N) (VV : Vd N) (q : ∀ w', Ex [] w w' → Q (.int (lst_ N)) w'.H) : spOf v D (n + 3) i_least_period [.ref a] w.H Q E := by
  have hi0 := VV.i0
  have hrl := VV.rl
  have hol := VV.ol
  refine in_least_period ?_
  unfold b_least_period
  walk_at "g5"
  refine arrivals_spec h VV fun w1 p1 e1 hp1 o1 => ?_
  have h1 := h.ex e1
  have la : (arv N).length = 2 + N.inp.toNat + N.regs.length + N.gates.length := by unfold arv; rw [arl_len, bar_len]
  walk_at "g5"
  refine k_flH h1.h rfl ?_
  walk_at "g5"
  refine k_flH h1.hl rfl ?_
  walk_at "g5"
  refine ends_spec h1 VV fun w2 y2 e2 d2 => ?_
  have o2 := o1.ex e2 (by simp)
  walk_at "g5"
  refine k_lc_mk d2 (fun i => .int ((arv N).getD ((N.regs.map (·.1) ++ N.outs).getD i 0).toNat 0)) (by simp; omega) (fun i d y w' R hd e dy hR => ?_) fun w3 p3 zs e3 hp3 o3 r3 => ?_
  · obtain ⟨hi, rfl⟩ := get_map (z := (0 : Int)) hd
    obtain rfl := dy.of_int
    have hm : 0 ≤ (N.regs.map (·.1) ++ N.outs).getD i 0 ∧ (N.regs.map (·.1) ++ N.outs).getD i 0 < 2 + N.inp + N.regs.length + N.gates.length := by
      rcases List.mem_append.mp (getD_mem hi) with hm | hm
      · obtain ⟨p, hp, e⟩ := List.mem_map.mp hm
        have := VV.rg p hp
        rw [← e]
        exact ⟨this.1, this.2.1⟩
      · exact VV.ou _ hm
    refine g_nm ?_
    refine k_mk1 rfl ?_
    walk_at "g5"
    refine i_OG (o2.ex e (by simp)).h hm.1 (by omega) ?_
    exact hR w' _ (Ex.refl _) (.int _)
  rw [List.length_map] at r3
  have hz := r3.ints_of
  rw [range_map (z := (0 : Int)) (fun m => (arv N).getD m.toNat 0)] at hz
  subst hz
  walk_at "g5"
  refine max0 o3.h (fun x hx => ?_) ?_
  · obtain ⟨m, _, rfl⟩ := List.mem_map.mp hx
    exact arl_pos (bar_pos VV) N.gates _
  walk_at "g5"
  exact q w3 ((e1.t0 e2).t0 e3)
end
section
variable {v : Ev} {n : Nat} {w : Wd} {Q : VK} {E : XK}
theorem rows_spec {x : V} {ms : List Int} {wd c : Nat} (dx : Dv w x (ids ms)) (hms : ms.length ≤ 1000) (hw : wd ≤ 10) (hc : c ≤ 20)
    (q : ∀ w' z (rows : List (List Int)) (rs : List Int), Ex [] w w' → Dv w' z (.tuple [.list (rows.map ids), ids rs]) → rows.length = c → rs.length = c → (∀ r ∈ rows, Bs r ∧ r.length = wd) → Bs rs → Q z w'.H) :
    spOf v D (n + 2) i_law_rows [x, .int (wd : Nat), .int (c : Nat)] w.H Q E := by
  have hmul : (wd + 1) * c ≤ 11 * 20 := Nat.mul_le_mul (by omega) hc
  have ec : ∀ k : Nat, ((wd : Int) + 1) * (k : Int) = (((wd + 1) * k : Nat) : Int) := fun k => by simp
  refine in_law_rows ?_
  unfold b_law_rows
  walk_at "g2"
  refine o_mul (.inl ⟨by omega, by omega⟩) ?_
  rw [ec]
  walk_at "g2"
  refine numbers_spec dx hms (by decide) (by decide) (by omega) (by omega) fun w1 y bits e1 dy hbl hb => ?_
  have hbl : bits.length = (wd + 1) * c := by omega
  have bb : Bs bits := fun z hz => by have := hb z hz; omega
  have hk : ∀ k, k < c → (wd + 1) * k + wd < bits.length := fun k h => by
    rw [hbl]
    have := Nat.mul_le_mul_left (wd + 1) (show k + 1 ≤ c from h)
    rw [Nat.mul_add, Nat.mul_one] at this
    omega
  walk_at "g2"
  refine k_r1 (by omega) (by omega) ?_
  refine k_lc_mkR c (by omega) (fun k => ids ((bits.drop ((wd + 1) * k)).take wd)) (by omega) (fun k w'' R hk e hR => ?_) fun w2 p2 zs e2 hp2 o2 r2 => ?_
  · refine g_nm ?_
    refine k_mk1 rfl ?_
    walk_at "g2"
    refine o_mul (.inl ⟨by omega, by omega⟩) ?_
    rw [ec]
    walk_at "g2"
    refine o_mul (.inl ⟨by omega, by omega⟩) ?_
    rw [ec]
    walk_at "g2"
    refine k_scD (dy.ex e) fun w3 z e3 d3 => ?_
    have : (((wd + 1) * k : Nat) : Int) + (wd : Int) = (((wd + 1) * k + wd : Nat) : Int) := by simp
    rw [cutD_map, this, cut_mid, Nat.add_sub_cancel_left] at d3
    exact hR w3 z e3 d3
  obtain ⟨w3, eh, e3, d3⟩ := seal_lst o2 r2
  rw [← eh]
  have E3 : Ex [] w1 w3 := e2.tf e3 hp2
  walk_at "g2"
  refine k_r1 (by omega) (by omega) ?_
  refine k_lc_mkR c (by omega) (fun k => .int (bits.getD ((wd + 1) * k + wd) 0)) (by omega) (fun k w'' R hk' e hR => ?_) fun w4 p4 zs e4 hp4 o4 r4 => ?_
  · have hk' := hk k hk'
    refine g_nm ?_
    refine k_mk1 rfl ?_
    walk_at "g2"
    refine o_mul (.inl ⟨by omega, by omega⟩) ?_
    rw [ec]
    walk_at "g2"
    have : (((wd + 1) * k : Nat) : Int) + (wd : Int) = (((wd + 1) * k + wd : Nat) : Int) := by simp
    rw [this]
    refine i_G ((dy.ex E3).ex e) (by omega) (by omega) ?_
    exact hR w'' _ (Ex.refl _) (.int _)
  have hz := r4.ints_of
  subst hz
  obtain ⟨w5, eh5, e5, d5⟩ := seal_lst o4 (Dvs.ints _)
  rw [← eh5]
  have E5 : Ex [] w3 w5 := e4.tf e5 hp4
  walk_at "g2"
  refine k_tup (by simp) (.cons (d3.ex E5) (.cons d5 .nil)) fun w6 z e6 d6 => ?_
  have em : (List.range c).map (fun k => ids ((bits.drop ((wd + 1) * k)).take wd)) = ((List.range c).map fun k => (bits.drop ((wd + 1) * k)).take wd).map ids := by rw [List.map_map]; rfl
  rw [em] at d6
  refine q w6 z _ _ (((e1.t0 E3).t0 E5).t0 e6) d6 (by simp) (by simp) ?_ ?_
  · intro r hr
    obtain ⟨k, hk1, rfl⟩ := List.mem_map.mp hr
    have hk1 : k < c := by simpa using hk1
    have := hk k hk1
    refine ⟨fun z hz => bb z (List.mem_of_mem_drop (List.mem_of_mem_take hz)), ?_⟩
    rw [List.length_take, List.length_drop]
    omega
  · intro z hz
    obtain ⟨k, _, rfl⟩ := List.mem_map.mp hz
    exact bb.get _
end
theorem arv_le {N : NL} (VV : Vd N) : ∀ m, m ≤ N.gates.length → ∀ n, (arl N.cells (bar N) (N.gates.take m)).getD n 0 ≤ 5 + 7 * (m : Int)
  | 0, _, n => by
    have hfd := VV.fd0
    have key : ∀ x ∈ bar N, x ≤ 5 := fun x hx => by
      unfold bar at hx
      rcases List.mem_append.mp hx with h | h
      · rcases List.mem_append.mp h with h | h
        · simp at h; omega
        · rw [List.eq_of_mem_replicate h]; omega
      · rw [List.eq_of_mem_replicate h]; omega
    show (bar N).getD n 0 ≤ _
    rcases Nat.lt_or_ge n (bar N).length with z | z
    · rw [List.getD_eq_getElem?_getD, List.getElem?_eq_getElem z]
      have : (bar N)[n] ≤ 5 := key _ (List.getElem_mem _)
      show (bar N)[n] ≤ _
      omega
    · rw [gd_out z]; omega
  | m + 1, hm, n => by
    have ih := arv_le VV m (by omega)
    rw [take_snoc (z := g0) (show m < N.gates.length by omega), arl_snoc, gd_snoc]
    split
    · refine mxz_le (by omega) fun x hx => ?_
      unfold rch at hx
      obtain ⟨p, hp, rfl⟩ := List.mem_map.mp hx
      obtain ⟨j, hj, ej⟩ := List.getElem_of_mem (List.mem_filter.mp hp).1
      have hj2 : j < (N.gates.getD m g0).2.length := by have := pds_len VV (show m < N.gates.length by omega); omega
      have pg := pds_get VV (show m < N.gates.length by omega) hj2
      rw [List.getElem?_eq_getElem hj, ej] at pg
      have dr := dl_rng VV (show m < N.gates.length by omega) hj2
      have ep : p = ((N.gates.getD m g0).2.getD j 0, (N.cells.getD (N.gates.getD m g0).1.toNat ce0).dl.getD j 0) := by simpa using pg
      have d2 : p.2 ≤ 7 := by rw [ep]; exact dr.2
      have := ih p.1.toNat
      omega
    · have := ih n
      omega
theorem lst_rng {N : NL} (VV : Vd N) (hg : N.gates.length ≤ 8) : 1 ≤ lst_ N ∧ lst_ N ≤ 70 := by
  have hsu := VV.su0
  have h0 := mxz_0 ((N.regs.map (·.1) ++ N.outs).map fun n => (arv N).getD n.toNat 0)
  have h1 : mxz ((N.regs.map (·.1) ++ N.outs).map fun n => (arv N).getD n.toNat 0) ≤ 5 + 7 * 8 := mxz_le (by omega) fun x hx => by
    obtain ⟨m, _, rfl⟩ := List.mem_map.mp hx
    have := arv_le VV N.gates.length (Nat.le_refl _) m.toNat
    rw [List.take_length] at this
    have : (arv N).getD m.toNat 0 ≤ 5 + 7 * (N.gates.length : Int) := this
    omega
  unfold lst_
  omega
theorem sz_rows {ls : List (List Int)} (h : ∀ s ∈ ls, Bs s ∧ s.length ≤ 10) (hl : ls.length ≤ 20) : Sz 2 (20 * ((10 * 21 + 2) + 2) + 2) (.list (ls.map ids)) := Sz.list (m := 20) (fun d hd => by
  obtain ⟨s, hs, rfl⟩ := List.mem_map.mp hd
  exact Sz.ints (m := 10) (fun i hi => by rcases (h s hs).1 i hi with e | e <;> rw [e] <;> decide) (h s hs).2) (by rw [List.length_map]; exact hl)
theorem outN_ok {N : NL} (VV : Vd N) {rows : List (List Int)} {rs : List Int} (hr : Rws N rows) : ∀ s ∈ (List.range rows.length).map (outN N rows rs), Bs s ∧ s.length ≤ 10 := fun s hs => by
  obtain ⟨k, hk, rfl⟩ := List.mem_map.mp hs
  have hk := List.mem_range.mp hk
  have hm := hr _ (getD_memL hk)
  have so := stN_ok VV (rs := rs) hr k (by omega)
  exact ⟨outv_bits (allv_ok hm.1 so.1 hm.2 so.2).1, by unfold outN outv; rw [List.length_map]; exact VV.ol⟩
abbrev LEVEL : Nat := 12
theorem law_ok (v : Ev) (H : Hp) (a : Addr) (ns : List Int) (hl : ns.length ≤ 63) (hS : SqL v.K H a (ns.map V.int)) : spOf v D LEVEL i_law [.ref a] H (fun v _ => v = .bl true) fun _ _ _ => False := by
  show spOf v D LEVEL i_law [.ref a] (Wd.of H).H _ _
  have hS : SqL v.K (Wd.of H).H a (ns.map V.int) := hS
  generalize Wd.of H = w at hS
  refine in_law ?_
  unfold b_law
  walk_at "g5"
  refine netlist_spec (M := 8) (by decide) hS hl fun w1 g A N e1 h1 VV hg8 => ?_
  have hS1 := SqL.ex0 e1 hS
  have hi0 := VV.i0
  have hi1 := VV.i1
  have hol := VV.ol
  walk_at "g5"
  refine k_scF hS1 fun w2 x2 e2 d2 => ?_
  walk_at "g5"
  refine k_flH (h1.ex e2).h rfl ?_
  walk_at "g5"
  refine cell_spec (SqL.ex0 e2 hS1) (by decide) fun ra => ?_
  walk_at "g5"
  refine o_fdv (by decide) (by decide) ?_
  walk_at "g5"
  refine o_mod (by decide) ?_
  walk_at "g5"
  obtain ⟨wd, ewd⟩ := Int.eq_ofNat_of_zero_le hi0
  obtain ⟨c, ec⟩ := Int.eq_ofNat_of_zero_le (show 0 ≤ ra / 24 % 10 by omega)
  rw [ewd, ec]
  refine rows_spec d2 (Nat.le_trans cut_len (by omega)) (by omega) (by omega) fun w3 z3 rows rs e3 d3 hrows hrs hrb hsb => ?_
  have h3 := (h1.ex e2).ex e3
  have hS3 := SqL.ex0 e3 (SqL.ex0 e2 hS1)
  have hr : ∀ r ∈ rows, Bs r ∧ (r.length : Int) = N.inp := fun r h => ⟨(hrb r h).1, by rw [(hrb r h).2, ewd]⟩
  refine k_tg ?_
  refine g_tup d3 rfl fun xs rr => ?_
  cases rr with
  | cons dR rr =>
  cases rr with
  | cons dZ rr =>
  cases rr
  rename_i xR xZ
  walk_at "g5"
  refine lrun_spec h3 VV dR dZ (by omega) (by omega) hr fun w4 z4 e4 d4 => ?_
  have LR := lst_rng VV hg8
  have szo := sz_rows (outN_ok VV (rs := rs) hr) (by simp; omega)
  walk_at "g5"
  refine least_spec (h3.ex e4) VV fun w5 e5 => ?_
  walk_at "g5"
  refine f_isiI (by rfl) ?_
  walk_at "g5"
  refine f_isiI (by rfl) ?_
  walk_at "g5"
  refine kif_d (fun hc => absurd hc (by omega)) fun _ => ?_
  have E5 := e4.t0 e5
  have dR5 := dR.ex E5
  have dZ5 := dZ.ex E5
  have d45 := d4.ex e5
  have h5 := h3.ex E5
  have hS5 := SqL.ex0 E5 hS3
  walk_at "g5"
  refine k_lc_mk dR5 (fun i => ids (rows.getD i [])) (by rw [List.length_map]; omega) (fun i d y w' R hd e dy hR => ?_) fun w6 p6 zs e6 hp6 o6 r6 => ?_
  · obtain ⟨hi, rfl⟩ := get_map (z := ([] : List Int)) hd
    refine g_nm ?_
    refine k_mk1 rfl ?_
    walk_at "g5"
    refine f_lstL dy fun w5 y5 e5 d5 => ?_
    exact hR w5 y5 e5 d5
  rw [List.length_map] at r6
  obtain ⟨w7, eh7, e7, d7⟩ := seal_lst o6 r6
  rw [← eh7]
  have E7 : Ex [] w5 w7 := e6.tf e7 hp6
  rw [range_map (z := ([] : List Int)) (fun r : List Int => ids r)] at d7
  walk_at "g5"
  refine f_lstL (dZ5.ex E7) fun w8 z8 e8 d8 => ?_
  walk_at "g5"
  refine runN_spec ((h5.ex E7).ex e8) VV (d7.ex e8) d8 (by omega) (by omega) hr fun w9 z9 e9 d9 => ?_
  have E9 : Ex [] w5 w9 := (E7.t0 e8).t0 e9
  walk_at "g5"
  refine c_neS d9.dp (d45.ex E9).dp szo (by decide) ?_
  have h9 := h5.ex E9
  have hS9 := SqL.ex0 E9 hS5
  have d49 := d45.ex E9
  have dR9 := dR5.ex E9
  have dZ9 := dZ5.ex E9
  walk_at "g5"
  refine cell_spec hS9 (by decide) fun rb => ?_
  walk_at "g5"
  refine o_fdv (by decide) (by decide) ?_
  walk_at "g5"
  refine o_mod (by decide) ?_
  walk_at "g5"
  refine cell_spec hS9 (by decide) fun rc => ?_
  walk_at "g5"
  refine o_fdv (by decide) (by decide) ?_
  walk_at "g5"
  refine o_mod (by decide) ?_
  walk_at "g5"
  refine k_lstO (by simp) fun w10 q10 e10 hq10 o10 => ?_
  refine k_ls o10.h ?_
  refine k_for_lst (xs := [V.int 0, .int (1 + rb / 240 % 5), .int (rc / 1200 % 60)]) (fun i σ w' => ∃ a4, σ = [some (.ref a), some (.ref g), some z4, some (.int (lst_ N)), a4, some xR, some xZ, none] ∧ Ex [] w10 w') (fun i σ w' h => ?_) ⟨_, rfl, Ex.refl _⟩ ?_ ?_
  · obtain ⟨_, _, e⟩ := h
    exact e.kp _ _ o10.h (by simp)
  · rintro i x σ w' hx ⟨a4, rfl, E'⟩
    obtain ⟨m, rfl, m0, m1⟩ : ∃ m : Int, x = .int m ∧ 0 ≤ m ∧ m < 60 := by
      have hm := List.mem_of_getElem? hx
      simp only [List.mem_cons, List.not_mem_nil, or_false] at hm
      rcases hm with rfl | rfl | rfl
      · exact ⟨_, rfl, by decide, by decide⟩
      · exact ⟨_, rfl, by omega, by omega⟩
      · exact ⟨_, rfl, by omega, by omega⟩
    have E10 : Ex [] w9 w' := e10.t0 E'
    have dR' := dR9.ex E10
    have dZ' := dZ9.ex E10
    have h' := h9.ex E10
    refine g_nm ?_
    walk_at "g5"
    refine k_lc_mk dR' (fun i => ids (rows.getD i [])) (by rw [List.length_map]; omega) (fun i d y w' R hd e dy hR => ?_) fun w11 p11 zs e11 hp11 o11 r11 => ?_
    · obtain ⟨hi, rfl⟩ := get_map (z := ([] : List Int)) hd
      refine g_nm ?_
      refine k_mk1 rfl ?_
      walk_at "g5"
      refine f_lstL dy fun w5 y5 e5 d5 => ?_
      exact hR w5 y5 e5 d5
    rw [List.length_map] at r11
    obtain ⟨w12, eh12, e12, d12⟩ := seal_lst o11 r11
    rw [← eh12]
    have E12 : Ex [] w' w12 := e11.tf e12 hp11
    rw [range_map (z := ([] : List Int)) (fun r : List Int => ids r)] at d12
    walk_at "g5"
    refine f_lstL (dZ'.ex E12) fun w13 z13 e13 d13 => ?_
    walk_at "g5"
    refine run_spec ((h'.ex E12).ex e13) VV (d12.ex e13) hr d13 (by omega) (by omega) (by omega) (by omega) fun w14 z14 e14 d14 => ?_
    have ds := (dlF_static VV (rs := rs) (per := lst_ N + m) hr (by omega) rows.length (Nat.le_refl _)).2
    rw [show rs.length = rows.length by omega, ds] at d14
    have X14 : Ex [] w9 w14 := E10.t0 ((E12.t0 e13).t0 e14)
    walk_at "g5"
    refine c_neS d14.dp (d49.ex X14).dp szo (by decide) ?_
    walk_at "g5"
    exact k_is ⟨_, rfl, E'.t0 ((E12.t0 e13).t0 e14)⟩
  · rintro σ w' ⟨a4, rfl, E'⟩
    walk_at "g5"
    all_goals rfl
end LK

namespace LK
open L2 DI
open PySem.Spec
open PyProof.Rows hiding St
open PySem

/-- the reading's environment -/
def evOf (K : PySem.W.Frag) (C : List Addr) (G : List V) : Ev := ⟨K, fun i => C.getD i 0, fun i => G.getD i .non, fun _ _ _ _ _ => False, [], none⟩
theorem fin {l : PySem.W.OpenLaw} {w : World} {K : PySem.W.Frag} {h : Heap} {mg : Str → Option Value} {fa : Addr} {f0 f1 f2 f3 f4 f5 f6 f7 f8 f9 f10 f11 f12 f13 f14 f15 f16 f17 f18 f19 f20 f21 f22 f23 f24 f25 f26 f27 f28 f29 f30 f31 f32 f33 f34 C0 C1 C2 C3 : Addr}
    
    (X : K.In h) (G : h.Ns mainGlobals mg) (hfa : mg "law" = some (.ref fa))
    {od0 an0 : Option Addr} {sl0 : Array (Option Value)} {oc0 kV0 dc0 pm0 cd0 ct0 : Value}
    {od1 an1 : Option Addr} {sl1 : Array (Option Value)} {oc1 kV1 dc1 pm1 cd1 ct1 : Value}
    {od2 an2 : Option Addr} {sl2 : Array (Option Value)} {oc2 kV2 dc2 pm2 cd2 ct2 : Value}
    {od3 an3 : Option Addr} {sl3 : Array (Option Value)} {oc3 kV3 dc3 pm3 cd3 ct3 : Value}
    {od4 an4 : Option Addr} {sl4 : Array (Option Value)} {oc4 kV4 dc4 pm4 cd4 ct4 : Value}
    {od5 an5 : Option Addr} {sl5 : Array (Option Value)} {oc5 kV5 dc5 pm5 cd5 ct5 : Value}
    {od6 an6 : Option Addr} {sl6 : Array (Option Value)} {oc6 kV6 dc6 pm6 cd6 ct6 : Value}
    {od7 an7 : Option Addr} {sl7 : Array (Option Value)} {oc7 kV7 dc7 pm7 cd7 ct7 : Value}
    {od8 an8 : Option Addr} {sl8 : Array (Option Value)} {oc8 kV8 dc8 pm8 cd8 ct8 : Value}
    {od9 an9 : Option Addr} {sl9 : Array (Option Value)} {oc9 kV9 dc9 pm9 cd9 ct9 : Value}
    {od10 an10 : Option Addr} {sl10 : Array (Option Value)} {oc10 kV10 dc10 pm10 cd10 ct10 : Value}
    {od11 an11 : Option Addr} {sl11 : Array (Option Value)} {oc11 kV11 dc11 pm11 cd11 ct11 : Value}
    {od12 an12 : Option Addr} {sl12 : Array (Option Value)} {oc12 kV12 dc12 pm12 cd12 ct12 : Value}
    {od13 an13 : Option Addr} {sl13 : Array (Option Value)} {oc13 kV13 dc13 pm13 cd13 ct13 : Value}
    {od14 an14 : Option Addr} {sl14 : Array (Option Value)} {oc14 kV14 dc14 pm14 cd14 ct14 : Value}
    {od15 an15 : Option Addr} {sl15 : Array (Option Value)} {oc15 kV15 dc15 pm15 cd15 ct15 : Value}
    {od16 an16 : Option Addr} {sl16 : Array (Option Value)} {oc16 kV16 dc16 pm16 cd16 ct16 : Value}
    {od17 an17 : Option Addr} {sl17 : Array (Option Value)} {oc17 kV17 dc17 pm17 cd17 ct17 : Value}
    {od18 an18 : Option Addr} {sl18 : Array (Option Value)} {oc18 kV18 dc18 pm18 cd18 ct18 : Value}
    {od19 an19 : Option Addr} {sl19 : Array (Option Value)} {oc19 kV19 dc19 pm19 cd19 ct19 : Value}
    {od20 an20 : Option Addr} {sl20 : Array (Option Value)} {oc20 kV20 dc20 pm20 cd20 ct20 : Value}
    {od21 an21 : Option Addr} {sl21 : Array (Option Value)} {oc21 kV21 dc21 pm21 cd21 ct21 : Value}
    {od22 an22 : Option Addr} {sl22 : Array (Option Value)} {oc22 kV22 dc22 pm22 cd22 ct22 : Value}
    {od23 an23 : Option Addr} {sl23 : Array (Option Value)} {oc23 kV23 dc23 pm23 cd23 ct23 : Value}
    {od24 an24 : Option Addr} {sl24 : Array (Option Value)} {oc24 kV24 dc24 pm24 cd24 ct24 : Value}
    {od25 an25 : Option Addr} {sl25 : Array (Option Value)} {oc25 kV25 dc25 pm25 cd25 ct25 : Value}
    {od26 an26 : Option Addr} {sl26 : Array (Option Value)} {oc26 kV26 dc26 pm26 cd26 ct26 : Value}
    {od27 an27 : Option Addr} {sl27 : Array (Option Value)} {oc27 kV27 dc27 pm27 cd27 ct27 : Value}
    {od28 an28 : Option Addr} {sl28 : Array (Option Value)} {oc28 kV28 dc28 pm28 cd28 ct28 : Value}
    {od29 an29 : Option Addr} {sl29 : Array (Option Value)} {oc29 kV29 dc29 pm29 cd29 ct29 : Value}
    {od30 an30 : Option Addr} {sl30 : Array (Option Value)} {oc30 kV30 dc30 pm30 cd30 ct30 : Value}
    {od31 an31 : Option Addr} {sl31 : Array (Option Value)} {oc31 kV31 dc31 pm31 cd31 ct31 : Value}
    {od32 an32 : Option Addr} {sl32 : Array (Option Value)} {oc32 kV32 dc32 pm32 cd32 ct32 : Value}
    {od33 an33 : Option Addr} {sl33 : Array (Option Value)} {oc33 kV33 dc33 pm33 cd33 ct33 : Value}
    {od34 an34 : Option Addr} {sl34 : Array (Option Value)} {oc34 kV34 dc34 pm34 cd34 ct34 : Value}
    (a0 : PySem.W.nsIn K mainGlobals "_wall" = some (some (.ref f0)))
    (l0 : K.lookup f0 = some ⟨oc0, od0, .func (PySem.W.fnOf "_wall" "_wall" (defArgs s_wall) (defBody s_wall) (defScope s_wall) .none kV0 dc0 pm0 an0 cd0 ct0), sl0⟩)
    (c0 : PySem.W.codeIn K cd0 "_wall" = true)
    (k0 : PySem.W.keepIn K (.ref f0) = true)
    (a1 : PySem.W.findIn K (.ref C0) "__init__" = some (some (.ref f1)))
    (i1 : PySem.W.isFn K (.ref f1) = true)
    (l1 : K.lookup f1 = some ⟨oc1, od1, .func (PySem.W.fnOf "__init__" "Clocked.__init__" (defArgs s_Clocked_init) (defBody s_Clocked_init) (defScope s_Clocked_init) .none kV1 dc1 pm1 an1 cd1 ct1), sl1⟩)
    (c1 : PySem.W.codeIn K cd1 "Clocked.__init__" = true)
    (k1 : PySem.W.keepIn K (.ref f1) = true)
    (a2 : PySem.W.findIn K (.ref C0) "source_value" = some (some (.ref f2)))
    (i2 : PySem.W.isFn K (.ref f2) = true)
    (l2 : K.lookup f2 = some ⟨oc2, od2, .func (PySem.W.fnOf "source_value" "Clocked.source_value" (defArgs s_Clocked_source_value) (defBody s_Clocked_source_value) (defScope s_Clocked_source_value) .none kV2 dc2 pm2 an2 cd2 ct2), sl2⟩)
    (c2 : PySem.W.codeIn K cd2 "Clocked.source_value" = true)
    (k2 : PySem.W.keepIn K (.ref f2) = true)
    (a3 : PySem.W.findIn K (.ref C0) "needed_times" = some (some (.ref f3)))
    (i3 : PySem.W.isFn K (.ref f3) = true)
    (l3 : K.lookup f3 = some ⟨oc3, od3, .func (PySem.W.fnOf "needed_times" "Clocked.needed_times" (defArgs s_Clocked_needed_times) (defBody s_Clocked_needed_times) (defScope s_Clocked_needed_times) .none kV3 dc3 pm3 an3 cd3 ct3), sl3⟩)
    (c3 : PySem.W.codeIn K cd3 "Clocked.needed_times" = true)
    (k3 : PySem.W.keepIn K (.ref f3) = true)
    (a4 : PySem.W.findIn K (.ref C0) "values_at" = some (some (.ref f4)))
    (i4 : PySem.W.isFn K (.ref f4) = true)
    (l4 : K.lookup f4 = some ⟨oc4, od4, .func (PySem.W.fnOf "values_at" "Clocked.values_at" (defArgs s_Clocked_values_at) (defBody s_Clocked_values_at) (defScope s_Clocked_values_at) .none kV4 dc4 pm4 an4 cd4 ct4), sl4⟩)
    (c4 : PySem.W.codeIn K cd4 "Clocked.values_at" = true)
    (k4 : PySem.W.keepIn K (.ref f4) = true)
    (a5 : PySem.W.nsIn K mainGlobals "run_delayed" = some (some (.ref f5)))
    (l5 : K.lookup f5 = some ⟨oc5, od5, .func (PySem.W.fnOf "run_delayed" "run_delayed" (defArgs s_run_delayed) (defBody s_run_delayed) (defScope s_run_delayed) .none kV5 dc5 pm5 an5 cd5 ct5), sl5⟩)
    (c5 : PySem.W.codeIn K cd5 "run_delayed" = true)
    (k5 : PySem.W.keepIn K (.ref f5) = true)
    (a6 : PySem.W.findIn K (.ref C1) "__init__" = some (some (.ref f6)))
    (i6 : PySem.W.isFn K (.ref f6) = true)
    (l6 : K.lookup f6 = some ⟨oc6, od6, .func (PySem.W.fnOf "__init__" "Cell.__init__" (defArgs s_Cell_init) (defBody s_Cell_init) (defScope s_Cell_init) .none kV6 dc6 pm6 an6 cd6 ct6), sl6⟩)
    (c6 : PySem.W.codeIn K cd6 "Cell.__init__" = true)
    (k6 : PySem.W.keepIn K (.ref f6) = true)
    (a7 : PySem.W.findIn K (.ref C1) "output" = some (some (.ref f7)))
    (i7 : PySem.W.isFn K (.ref f7) = true)
    (l7 : K.lookup f7 = some ⟨oc7, od7, .func (PySem.W.fnOf "output" "Cell.output" (defArgs s_Cell_output) (defBody s_Cell_output) (defScope s_Cell_output) .none kV7 dc7 pm7 an7 cd7 ct7), sl7⟩)
    (c7 : PySem.W.codeIn K cd7 "Cell.output" = true)
    (k7 : PySem.W.keepIn K (.ref f7) = true)
    (a8 : PySem.W.findIn K (.ref C2) "__init__" = some (some (.ref f8)))
    (i8 : PySem.W.isFn K (.ref f8) = true)
    (l8 : K.lookup f8 = some ⟨oc8, od8, .func (PySem.W.fnOf "__init__" "Library.__init__" (defArgs s_Library_init) (defBody s_Library_init) (defScope s_Library_init) .none kV8 dc8 pm8 an8 cd8 ct8), sl8⟩)
    (c8 : PySem.W.codeIn K cd8 "Library.__init__" = true)
    (k8 : PySem.W.keepIn K (.ref f8) = true)
    (a9 : PySem.W.findIn K (.ref C2) "cell_named" = some (some (.ref f9)))
    (i9 : PySem.W.isFn K (.ref f9) = true)
    (l9 : K.lookup f9 = some ⟨oc9, od9, .func (PySem.W.fnOf "cell_named" "Library.cell_named" (defArgs s_Library_cell_named) (defBody s_Library_cell_named) (defScope s_Library_cell_named) .none kV9 dc9 pm9 an9 cd9 ct9), sl9⟩)
    (c9 : PySem.W.codeIn K cd9 "Library.cell_named" = true)
    (k9 : PySem.W.keepIn K (.ref f9) = true)
    (a10 : PySem.W.findIn K (.ref C2) "inverter" = some (some (.ref f10)))
    (i10 : PySem.W.isFn K (.ref f10) = true)
    (l10 : K.lookup f10 = some ⟨oc10, od10, .func (PySem.W.fnOf "inverter" "Library.inverter" (defArgs s_Library_inverter) (defBody s_Library_inverter) (defScope s_Library_inverter) .none kV10 dc10 pm10 an10 cd10 ct10), sl10⟩)
    (c10 : PySem.W.codeIn K cd10 "Library.inverter" = true)
    (k10 : PySem.W.keepIn K (.ref f10) = true)
    (a11 : PySem.W.findIn K (.ref C2) "is_complete" = some (some (.ref f11)))
    (i11 : PySem.W.isFn K (.ref f11) = true)
    (l11 : K.lookup f11 = some ⟨oc11, od11, .func (PySem.W.fnOf "is_complete" "Library.is_complete" (defArgs s_Library_is_complete) (defBody s_Library_is_complete) (defScope s_Library_is_complete) .none kV11 dc11 pm11 an11 cd11 ct11), sl11⟩)
    (c11 : PySem.W.codeIn K cd11 "Library.is_complete" = true)
    (k11 : PySem.W.keepIn K (.ref f11) = true)
    (a12 : PySem.W.findIn K (.ref C2) "bindings" = some (some (.ref f12)))
    (i12 : PySem.W.isFn K (.ref f12) = true)
    (l12 : K.lookup f12 = some ⟨oc12, od12, .func (PySem.W.fnOf "bindings" "Library.bindings" (defArgs s_Library_bindings) (defBody s_Library_bindings) (defScope s_Library_bindings) .none kV12 dc12 pm12 an12 cd12 ct12), sl12⟩)
    (c12 : PySem.W.codeIn K cd12 "Library.bindings" = true)
    (k12 : PySem.W.keepIn K (.ref f12) = true)
    (a13 : PySem.W.findIn K (.ref C3) "__init__" = some (some (.ref f13)))
    (i13 : PySem.W.isFn K (.ref f13) = true)
    (l13 : K.lookup f13 = some ⟨oc13, od13, .func (PySem.W.fnOf "__init__" "Netlist.__init__" (defArgs s_Netlist_init) (defBody s_Netlist_init) (defScope s_Netlist_init) .none kV13 dc13 pm13 an13 cd13 ct13), sl13⟩)
    (c13 : PySem.W.codeIn K cd13 "Netlist.__init__" = true)
    (k13 : PySem.W.keepIn K (.ref f13) = true)
    (a14 : PySem.W.findIn K (.ref C3) "first_register" = some (some (.ref f14)))
    (i14 : PySem.W.isFn K (.ref f14) = true)
    (l14 : K.lookup f14 = some ⟨oc14, od14, .func (PySem.W.fnOf "first_register" "Netlist.first_register" (defArgs s_Netlist_first_register) (defBody s_Netlist_first_register) (defScope s_Netlist_first_register) .none kV14 dc14 pm14 an14 cd14 ct14), sl14⟩)
    (c14 : PySem.W.codeIn K cd14 "Netlist.first_register" = true)
    (k14 : PySem.W.keepIn K (.ref f14) = true)
    (a15 : PySem.W.findIn K (.ref C3) "first_gate" = some (some (.ref f15)))
    (i15 : PySem.W.isFn K (.ref f15) = true)
    (l15 : K.lookup f15 = some ⟨oc15, od15, .func (PySem.W.fnOf "first_gate" "Netlist.first_gate" (defArgs s_Netlist_first_gate) (defBody s_Netlist_first_gate) (defScope s_Netlist_first_gate) .none kV15 dc15 pm15 an15 cd15 ct15), sl15⟩)
    (c15 : PySem.W.codeIn K cd15 "Netlist.first_gate" = true)
    (k15 : PySem.W.keepIn K (.ref f15) = true)
    (a16 : PySem.W.findIn K (.ref C3) "net_count" = some (some (.ref f16)))
    (i16 : PySem.W.isFn K (.ref f16) = true)
    (l16 : K.lookup f16 = some ⟨oc16, od16, .func (PySem.W.fnOf "net_count" "Netlist.net_count" (defArgs s_Netlist_net_count) (defBody s_Netlist_net_count) (defScope s_Netlist_net_count) .none kV16 dc16 pm16 an16 cd16 ct16), sl16⟩)
    (c16 : PySem.W.codeIn K cd16 "Netlist.net_count" = true)
    (k16 : PySem.W.keepIn K (.ref f16) = true)
    (a17 : PySem.W.findIn K (.ref C3) "area" = some (some (.ref f17)))
    (i17 : PySem.W.isFn K (.ref f17) = true)
    (l17 : K.lookup f17 = some ⟨oc17, od17, .func (PySem.W.fnOf "area" "Netlist.area" (defArgs s_Netlist_area) (defBody s_Netlist_area) (defScope s_Netlist_area) .none kV17 dc17 pm17 an17 cd17 ct17), sl17⟩)
    (c17 : PySem.W.codeIn K cd17 "Netlist.area" = true)
    (k17 : PySem.W.keepIn K (.ref f17) = true)
    (a18 : PySem.W.findIn K (.ref C3) "initial_state" = some (some (.ref f18)))
    (i18 : PySem.W.isFn K (.ref f18) = true)
    (l18 : K.lookup f18 = some ⟨oc18, od18, .func (PySem.W.fnOf "initial_state" "Netlist.initial_state" (defArgs s_Netlist_initial_state) (defBody s_Netlist_initial_state) (defScope s_Netlist_initial_state) .none kV18 dc18 pm18 an18 cd18 ct18), sl18⟩)
    (c18 : PySem.W.codeIn K cd18 "Netlist.initial_state" = true)
    (k18 : PySem.W.keepIn K (.ref f18) = true)
    (a19 : PySem.W.findIn K (.ref C3) "net_values" = some (some (.ref f19)))
    (i19 : PySem.W.isFn K (.ref f19) = true)
    (l19 : K.lookup f19 = some ⟨oc19, od19, .func (PySem.W.fnOf "net_values" "Netlist.net_values" (defArgs s_Netlist_net_values) (defBody s_Netlist_net_values) (defScope s_Netlist_net_values) .none kV19 dc19 pm19 an19 cd19 ct19), sl19⟩)
    (c19 : PySem.W.codeIn K cd19 "Netlist.net_values" = true)
    (k19 : PySem.W.keepIn K (.ref f19) = true)
    (a20 : PySem.W.findIn K (.ref C3) "step" = some (some (.ref f20)))
    (i20 : PySem.W.isFn K (.ref f20) = true)
    (l20 : K.lookup f20 = some ⟨oc20, od20, .func (PySem.W.fnOf "step" "Netlist.step" (defArgs s_Netlist_step) (defBody s_Netlist_step) (defScope s_Netlist_step) .none kV20 dc20 pm20 an20 cd20 ct20), sl20⟩)
    (c20 : PySem.W.codeIn K cd20 "Netlist.step" = true)
    (k20 : PySem.W.keepIn K (.ref f20) = true)
    (a21 : PySem.W.nsIn K mainGlobals "run_netlist" = some (some (.ref f21)))
    (l21 : K.lookup f21 = some ⟨oc21, od21, .func (PySem.W.fnOf "run_netlist" "run_netlist" (defArgs s_run_netlist) (defBody s_run_netlist) (defScope s_run_netlist) .none kV21 dc21 pm21 an21 cd21 ct21), sl21⟩)
    (c21 : PySem.W.codeIn K cd21 "run_netlist" = true)
    (k21 : PySem.W.keepIn K (.ref f21) = true)
    (a22 : PySem.W.nsIn K mainGlobals "pin_arrivals" = some (some (.ref f22)))
    (l22 : K.lookup f22 = some ⟨oc22, od22, .func (PySem.W.fnOf "pin_arrivals" "pin_arrivals" (defArgs s_pin_arrivals) (defBody s_pin_arrivals) (defScope s_pin_arrivals) .none kV22 dc22 pm22 an22 cd22 ct22), sl22⟩)
    (c22 : PySem.W.codeIn K cd22 "pin_arrivals" = true)
    (k22 : PySem.W.keepIn K (.ref f22) = true)
    (a23 : PySem.W.nsIn K mainGlobals "arrivals" = some (some (.ref f23)))
    (l23 : K.lookup f23 = some ⟨oc23, od23, .func (PySem.W.fnOf "arrivals" "arrivals" (defArgs s_arrivals) (defBody s_arrivals) (defScope s_arrivals) .none kV23 dc23 pm23 an23 cd23 ct23), sl23⟩)
    (c23 : PySem.W.codeIn K cd23 "arrivals" = true)
    (k23 : PySem.W.keepIn K (.ref f23) = true)
    (a24 : PySem.W.nsIn K mainGlobals "ends" = some (some (.ref f24)))
    (l24 : K.lookup f24 = some ⟨oc24, od24, .func (PySem.W.fnOf "ends" "ends" (defArgs s_ends) (defBody s_ends) (defScope s_ends) .none kV24 dc24 pm24 an24 cd24 ct24), sl24⟩)
    (c24 : PySem.W.codeIn K cd24 "ends" = true)
    (k24 : PySem.W.keepIn K (.ref f24) = true)
    (a25 : PySem.W.nsIn K mainGlobals "least_period" = some (some (.ref f25)))
    (l25 : K.lookup f25 = some ⟨oc25, od25, .func (PySem.W.fnOf "least_period" "least_period" (defArgs s_least_period) (defBody s_least_period) (defScope s_least_period) .none kV25 dc25 pm25 an25 cd25 ct25), sl25⟩)
    (c25 : PySem.W.codeIn K cd25 "least_period" = true)
    (k25 : PySem.W.keepIn K (.ref f25) = true)
    (a26 : PySem.W.nsIn K mainGlobals "_law_numbers" = some (some (.ref f26)))
    (l26 : K.lookup f26 = some ⟨oc26, od26, .func (PySem.W.fnOf "_law_numbers" "_law_numbers" (defArgs s_law_numbers) (defBody s_law_numbers) (defScope s_law_numbers) .none kV26 dc26 pm26 an26 cd26 ct26), sl26⟩)
    (c26 : PySem.W.codeIn K cd26 "_law_numbers" = true)
    (k26 : PySem.W.keepIn K (.ref f26) = true)
    (a27 : PySem.W.nsIn K mainGlobals "_law_cell" = some (some (.ref f27)))
    (l27 : K.lookup f27 = some ⟨oc27, od27, .func (PySem.W.fnOf "_law_cell" "_law_cell" (defArgs s_law_cell) (defBody s_law_cell) (defScope s_law_cell) .none kV27 dc27 pm27 an27 cd27 ct27), sl27⟩)
    (c27 : PySem.W.codeIn K cd27 "_law_cell" = true)
    (k27 : PySem.W.keepIn K (.ref f27) = true)
    (a28 : PySem.W.nsIn K mainGlobals "_law_cells" = some (some (.ref f28)))
    (l28 : K.lookup f28 = some ⟨oc28, od28, .func (PySem.W.fnOf "_law_cells" "_law_cells" (defArgs s_law_cells) (defBody s_law_cells) (defScope s_law_cells) .none kV28 dc28 pm28 an28 cd28 ct28), sl28⟩)
    (c28 : PySem.W.codeIn K cd28 "_law_cells" = true)
    (k28 : PySem.W.keepIn K (.ref f28) = true)
    (a29 : PySem.W.nsIn K mainGlobals "_law_netlist" = some (some (.ref f29)))
    (l29 : K.lookup f29 = some ⟨oc29, od29, .func (PySem.W.fnOf "_law_netlist" "_law_netlist" (defArgs s_law_netlist) (defBody s_law_netlist) (defScope s_law_netlist) .none kV29 dc29 pm29 an29 cd29 ct29), sl29⟩)
    (c29 : PySem.W.codeIn K cd29 "_law_netlist" = true)
    (k29 : PySem.W.keepIn K (.ref f29) = true)
    (a30 : PySem.W.nsIn K mainGlobals "_law_all_values" = some (some (.ref f30)))
    (l30 : K.lookup f30 = some ⟨oc30, od30, .func (PySem.W.fnOf "_law_all_values" "_law_all_values" (defArgs s_law_all_values) (defBody s_law_all_values) (defScope s_law_all_values) .none kV30 dc30 pm30 an30 cd30 ct30), sl30⟩)
    (c30 : PySem.W.codeIn K cd30 "_law_all_values" = true)
    (k30 : PySem.W.keepIn K (.ref f30) = true)
    (a31 : PySem.W.nsIn K mainGlobals "_law_step" = some (some (.ref f31)))
    (l31 : K.lookup f31 = some ⟨oc31, od31, .func (PySem.W.fnOf "_law_step" "_law_step" (defArgs s_law_step) (defBody s_law_step) (defScope s_law_step) .none kV31 dc31 pm31 an31 cd31 ct31), sl31⟩)
    (c31 : PySem.W.codeIn K cd31 "_law_step" = true)
    (k31 : PySem.W.keepIn K (.ref f31) = true)
    (a32 : PySem.W.nsIn K mainGlobals "_law_run" = some (some (.ref f32)))
    (l32 : K.lookup f32 = some ⟨oc32, od32, .func (PySem.W.fnOf "_law_run" "_law_run" (defArgs s_law_run) (defBody s_law_run) (defScope s_law_run) .none kV32 dc32 pm32 an32 cd32 ct32), sl32⟩)
    (c32 : PySem.W.codeIn K cd32 "_law_run" = true)
    (k32 : PySem.W.keepIn K (.ref f32) = true)
    (a33 : PySem.W.nsIn K mainGlobals "_law_rows" = some (some (.ref f33)))
    (l33 : K.lookup f33 = some ⟨oc33, od33, .func (PySem.W.fnOf "_law_rows" "_law_rows" (defArgs s_law_rows) (defBody s_law_rows) (defScope s_law_rows) .none kV33 dc33 pm33 an33 cd33 ct33), sl33⟩)
    (c33 : PySem.W.codeIn K cd33 "_law_rows" = true)
    (k33 : PySem.W.keepIn K (.ref f33) = true)
    (a34 : PySem.W.nsIn K mainGlobals "law" = some (some (.ref f34)))
    (l34 : K.lookup f34 = some ⟨oc34, od34, .func (PySem.W.fnOf "law" "law" (defArgs s_law) (defBody s_law) (defScope s_law) .none kV34 dc34 pm34 an34 cd34 ct34), sl34⟩)
    (c34 : PySem.W.codeIn K cd34 "law" = true)
    (k34 : PySem.W.keepIn K (.ref f34) = true)
    (aC0 : PySem.W.nsIn K mainGlobals "Clocked" = some (some (.ref C0)))
    (pg0 : PySem.W.plainGet K C0 Str.empty = true)
    (hd0 : PySem.W.hasDictIn K C0 = true)
    (po0 : PySem.W.plainOver K C0 = true)
    (sa0 : PySem.W.findIn K (.ref C0) "__setattr__" = some (some (.builtin "object.__setattr__")))
    (mk0 : PySem.W.makesIn K C0 = true)
    (kc0 : PySem.W.keepIn K (.ref C0) = true)
    (aC1 : PySem.W.nsIn K mainGlobals "Cell" = some (some (.ref C1)))
    (pg1 : PySem.W.plainGet K C1 Str.empty = true)
    (hd1 : PySem.W.hasDictIn K C1 = true)
    (po1 : PySem.W.plainOver K C1 = true)
    (sa1 : PySem.W.findIn K (.ref C1) "__setattr__" = some (some (.builtin "object.__setattr__")))
    (mk1 : PySem.W.makesIn K C1 = true)
    (kc1 : PySem.W.keepIn K (.ref C1) = true)
    (aC2 : PySem.W.nsIn K mainGlobals "Library" = some (some (.ref C2)))
    (pg2 : PySem.W.plainGet K C2 Str.empty = true)
    (hd2 : PySem.W.hasDictIn K C2 = true)
    (po2 : PySem.W.plainOver K C2 = true)
    (sa2 : PySem.W.findIn K (.ref C2) "__setattr__" = some (some (.builtin "object.__setattr__")))
    (mk2 : PySem.W.makesIn K C2 = true)
    (kc2 : PySem.W.keepIn K (.ref C2) = true)
    (aC3 : PySem.W.nsIn K mainGlobals "Netlist" = some (some (.ref C3)))
    (pg3 : PySem.W.plainGet K C3 Str.empty = true)
    (hd3 : PySem.W.hasDictIn K C3 = true)
    (po3 : PySem.W.plainOver K C3 = true)
    (sa3 : PySem.W.findIn K (.ref C3) "__setattr__" = some (some (.builtin "object.__setattr__")))
    (mk3 : PySem.W.makesIn K C3 = true)
    (kc3 : PySem.W.keepIn K (.ref C3) = true)
    (n0 : PySem.W.findIn K (.ref C0) "netlist" = some none)
    (n1 : PySem.W.findIn K (.ref C0) "rows" = some none)
    (n2 : PySem.W.findIn K (.ref C0) "period" = some none)
    (n3 : PySem.W.findIn K (.ref C0) "states" = some none)
    (n4 : PySem.W.findIn K (.ref C2) "flop_delay" = some none)
    (n5 : PySem.W.findIn K (.ref C3) "library" = some none)
    (n6 : PySem.W.findIn K (.ref C3) "gates" = some none)
    (n7 : PySem.W.findIn K (.ref C1) "delays" = some none)
    (n8 : PySem.W.findIn K (.ref C2) "cells" = some none)
    (n9 : PySem.W.findIn K (.ref C3) "registers" = some none)
    (n10 : PySem.W.findIn K (.ref C3) "outputs" = some none)
    (n11 : PySem.W.findIn K (.ref C2) "setup" = some none)
    (n12 : PySem.W.findIn K (.ref C1) "name" = some none)
    (n13 : PySem.W.findIn K (.ref C1) "table" = some none)
    (n14 : PySem.W.findIn K (.ref C1) "pins" = some none)
    (n15 : PySem.W.findIn K (.ref C1) "area" = some none)
    (n16 : PySem.W.findIn K (.ref C3) "inputs" = some none)
    (z0 : PySem.W.nsIn K mainGlobals "len" = some none)
    (z1 : PySem.W.nsIn K mainGlobals "int" = some none)
    (z2 : PySem.W.nsIn K mainGlobals "str" = some none)
    (z3 : PySem.W.nsIn K mainGlobals "abs" = some none)
    (z4 : PySem.W.nsIn K mainGlobals "max" = some none)
    (z5 : PySem.W.nsIn K mainGlobals "min" = some none)
    (z6 : PySem.W.nsIn K mainGlobals "sum" = some none)
    (z7 : PySem.W.nsIn K mainGlobals "list" = some none)
    (z8 : PySem.W.nsIn K mainGlobals "tuple" = some none)
    (z9 : PySem.W.nsIn K mainGlobals "sorted" = some none)
    (z10 : PySem.W.nsIn K mainGlobals "all" = some none)
    (z11 : PySem.W.nsIn K mainGlobals "any" = some none)
    (z12 : PySem.W.nsIn K mainGlobals "isinstance" = some none)
    (z13 : PySem.W.nsIn K mainGlobals "repr" = some none)
    (z14 : PySem.W.nsIn K mainGlobals "bool" = some none)
    (z15 : PySem.W.nsIn K mainGlobals "dict" = some none)
    (z16 : PySem.W.nsIn K mainGlobals "range" = some none)
    (z17 : PySem.W.nsIn K mainGlobals "enumerate" = some none)
    (z18 : PySem.W.nsIn K mainGlobals "zip" = some none)
    (z19 : PySem.W.nsIn K mainGlobals "reversed" = some none)
    (z20 : PySem.W.nsIn K mainGlobals "super" = some none)
    (z21 : PySem.W.nsIn K mainGlobals "ValueError" = some none)
    : ∃ (fd : FuncData) (sp : Sp), (∀ (s : Shared) (u : Value), K.In s.heap → BindsTo s fd ⟨[u], []⟩ [("_law_script", u)]) ∧
      (∀ base : Heap, SysM base → FnG l.prog w K mg base (2 * LEVEL) fa fd ["_law_script"] sp) ∧
      ∀ (H : Hp) (a : Addr) (ns : List Int), ns.length ≤ 63 → SqL K H a (ns.map V.int) → sp [.ref a] H (fun v _ => v = .bl true) fun _ _ _ => False := by
  have e : f34 = fa := by
    have e := (PySem.W.mg_of X G a34).symm.trans hfa
    injection e with e; injection e
  subst e
  have B : DI.Base l.prog mg (evOf K [C0, C1, C2, C3] []) (fun i => ([f0, f1, f2, f3, f4, f5, f6, f7, f8, f9, f10, f11, f12, f13, f14, f15, f16, f17, f18, f19, f20, f21, f22, f23, f24, f25, f26, f27, f28, f29, f30, f31, f32, f33, f34] : List Addr).getD i 0) ck := by
    refine ⟨?_, ?_, ?_, ?_, ?_, ?_, ?_, ?_, rfl, rfl⟩
    · exact allL (l := ck.calls) ⟨⟨PySem.W.mg_of X G a0, k0⟩, ⟨PySem.W.mg_of X G a22, k22⟩, ⟨PySem.W.mg_of X G a23, k23⟩, ⟨PySem.W.mg_of X G a24, k24⟩, ⟨PySem.W.mg_of X G a26, k26⟩, ⟨PySem.W.mg_of X G a27, k27⟩, ⟨PySem.W.mg_of X G a28, k28⟩, ⟨PySem.W.mg_of X G a30, k30⟩, ⟨PySem.W.mg_of X G a31, k31⟩, ⟨PySem.W.mg_of X G a29, k29⟩, ⟨PySem.W.mg_of X G a33, k33⟩, ⟨PySem.W.mg_of X G a32, k32⟩, ⟨PySem.W.mg_of X G a25, k25⟩, ⟨PySem.W.mg_of X G a21, k21⟩, ⟨PySem.W.mg_of X G a5, k5⟩, ⟨PySem.W.mg_of X G a34, k34⟩, trivial⟩
    · exact allL (l := ck.mths) ⟨⟨⟨pg3, hd3, po3, sa3⟩, ⟨a18, i18, k18⟩⟩, ⟨⟨pg3, hd3, po3, sa3⟩, ⟨a14, i14, k14⟩⟩, ⟨⟨pg3, hd3, po3, sa3⟩, ⟨a16, i16, k16⟩⟩, ⟨⟨pg3, hd3, po3, sa3⟩, ⟨a15, i15, k15⟩⟩, ⟨⟨pg0, hd0, po0, sa0⟩, ⟨a3, i3, k3⟩⟩, ⟨⟨pg0, hd0, po0, sa0⟩, ⟨a2, i2, k2⟩⟩, ⟨⟨pg1, hd1, po1, sa1⟩, ⟨a7, i7, k7⟩⟩, ⟨⟨pg0, hd0, po0, sa0⟩, ⟨a4, i4, k4⟩⟩, ⟨⟨pg3, hd3, po3, sa3⟩, ⟨a19, i19, k19⟩⟩, ⟨⟨pg3, hd3, po3, sa3⟩, ⟨a20, i20, k20⟩⟩, trivial⟩
    · exact allL (l := ck.mks) ⟨⟨PySem.W.mg_of X G aC0, ⟨mk0, a1, i1, kc0⟩⟩, ⟨PySem.W.mg_of X G aC1, ⟨mk1, a6, i6, kc1⟩⟩, ⟨PySem.W.mg_of X G aC3, ⟨mk3, a13, i13, kc3⟩⟩, ⟨PySem.W.mg_of X G aC2, ⟨mk2, a8, i8, kc2⟩⟩, trivial⟩
    · exact allL (l := ck.flds) ⟨⟨⟨pg0, hd0, po0, sa0⟩, n0⟩, ⟨⟨pg0, hd0, po0, sa0⟩, n1⟩, ⟨⟨pg0, hd0, po0, sa0⟩, n2⟩, ⟨⟨pg0, hd0, po0, sa0⟩, n3⟩, ⟨⟨pg2, hd2, po2, sa2⟩, n4⟩, ⟨⟨pg3, hd3, po3, sa3⟩, n5⟩, ⟨⟨pg3, hd3, po3, sa3⟩, n6⟩, ⟨⟨pg1, hd1, po1, sa1⟩, n7⟩, ⟨⟨pg2, hd2, po2, sa2⟩, n8⟩, ⟨⟨pg3, hd3, po3, sa3⟩, n9⟩, ⟨⟨pg3, hd3, po3, sa3⟩, n10⟩, ⟨⟨pg2, hd2, po2, sa2⟩, n11⟩, ⟨⟨pg1, hd1, po1, sa1⟩, n12⟩, ⟨⟨pg1, hd1, po1, sa1⟩, n13⟩, ⟨⟨pg1, hd1, po1, sa1⟩, n14⟩, ⟨⟨pg1, hd1, po1, sa1⟩, n15⟩, ⟨⟨pg3, hd3, po3, sa3⟩, n16⟩, trivial⟩
    · exact allL (l := ck.gls) trivial
    · exact allL (l := btNames) ⟨PySem.W.mg_none_of X G z0, PySem.W.mg_none_of X G z1, PySem.W.mg_none_of X G z2, PySem.W.mg_none_of X G z3, PySem.W.mg_none_of X G z4, PySem.W.mg_none_of X G z5, PySem.W.mg_none_of X G z6, PySem.W.mg_none_of X G z7, PySem.W.mg_none_of X G z8, PySem.W.mg_none_of X G z9, PySem.W.mg_none_of X G z10, PySem.W.mg_none_of X G z11, PySem.W.mg_none_of X G z12, PySem.W.mg_none_of X G z13, PySem.W.mg_none_of X G z14, PySem.W.mg_none_of X G z15, PySem.W.mg_none_of X G z16, PySem.W.mg_none_of X G z17, PySem.W.mg_none_of X G z18, PySem.W.mg_none_of X G z19, PySem.W.mg_none_of X G z20, PySem.W.mg_none_of X G z21, trivial⟩
    · exact allL (l := ck.exs) trivial
    · exact allL (l := ck.bases) trivial
  have A : DfAll l.prog w mg K ck Dl [f0, f1, f2, f3, f4, f5, f6, f7, f8, f9, f10, f11, f12, f13, f14, f15, f16, f17, f18, f19, f20, f21, f22, f23, f24, f25, f26, f27, f28, f29, f30, f31, f32, f33, f34] :=
    .cons (dfOk_mk (st := s_wall) l0 c0 sc_wall ck_wall fun _ _ _ _ _ _ us ws hl hw => match us, ws, hl, hw with | [_], [], _, _ => rfl) <|
    .cons (dfOk_mk (st := s_Clocked_init) l1 c1 sc_Clocked_init ck_Clocked_init fun _ _ _ _ _ _ us ws hl hw => match us, ws, hl, hw with | [_, _, _, _], [], _, _ => rfl) <|
    .cons (dfOk_mk (st := s_Clocked_source_value) l2 c2 sc_Clocked_source_value ck_Clocked_source_value fun _ _ _ _ _ _ us ws hl hw => match us, ws, hl, hw with | [_, _, _], [], _, _ => rfl) <|
    .cons (dfOk_mk (st := s_Clocked_needed_times) l3 c3 sc_Clocked_needed_times ck_Clocked_needed_times fun _ _ _ _ _ _ us ws hl hw => match us, ws, hl, hw with | [_, _, _], [], _, _ => rfl) <|
    .cons (dfOk_mk (st := s_Clocked_values_at) l4 c4 sc_Clocked_values_at ck_Clocked_values_at fun _ _ _ _ _ _ us ws hl hw => match us, ws, hl, hw with | [_, _, _], [], _, _ => rfl) <|
    .cons (dfOk_mk (st := s_run_delayed) l5 c5 sc_run_delayed ck_run_delayed fun _ _ _ _ _ _ us ws hl hw => match us, ws, hl, hw with | [_, _, _, _], [], _, _ => rfl) <|
    .cons (dfOk_mk (st := s_Cell_init) l6 c6 sc_Cell_init ck_Cell_init fun _ _ _ _ _ _ us ws hl hw => match us, ws, hl, hw with | [_, _, _, _, _, _], [], _, _ => rfl) <|
    .cons (dfOk_mk (st := s_Cell_output) l7 c7 sc_Cell_output ck_Cell_output fun _ _ _ _ _ _ us ws hl hw => match us, ws, hl, hw with | [_, _], [], _, _ => rfl) <|
    .cons (dfOk_mk (st := s_Library_init) l8 c8 sc_Library_init ck_Library_init fun _ _ _ _ _ _ us ws hl hw => match us, ws, hl, hw with | [_, _, _, _], [], _, _ => rfl) <|
    .cons (dfOk_mk (st := s_Library_cell_named) l9 c9 sc_Library_cell_named ck_Library_cell_named fun _ _ _ _ _ _ us ws hl hw => match us, ws, hl, hw with | [_, _], [], _, _ => rfl) <|
    .cons (dfOk_mk (st := s_Library_inverter) l10 c10 sc_Library_inverter ck_Library_inverter fun _ _ _ _ _ _ us ws hl hw => match us, ws, hl, hw with | [_], [], _, _ => rfl) <|
    .cons (dfOk_mk (st := s_Library_is_complete) l11 c11 sc_Library_is_complete ck_Library_is_complete fun _ _ _ _ _ _ us ws hl hw => match us, ws, hl, hw with | [_], [], _, _ => rfl) <|
    .cons (dfOk_mk (st := s_Library_bindings) l12 c12 sc_Library_bindings ck_Library_bindings fun _ _ _ _ _ _ us ws hl hw => match us, ws, hl, hw with | [_, _, _], [], _, _ => rfl) <|
    .cons (dfOk_mk (st := s_Netlist_init) l13 c13 sc_Netlist_init ck_Netlist_init fun _ _ _ _ _ _ us ws hl hw => match us, ws, hl, hw with | [_, _, _, _, _, _], [], _, _ => rfl) <|
    .cons (dfOk_mk (st := s_Netlist_first_register) l14 c14 sc_Netlist_first_register ck_Netlist_first_register fun _ _ _ _ _ _ us ws hl hw => match us, ws, hl, hw with | [_], [], _, _ => rfl) <|
    .cons (dfOk_mk (st := s_Netlist_first_gate) l15 c15 sc_Netlist_first_gate ck_Netlist_first_gate fun _ _ _ _ _ _ us ws hl hw => match us, ws, hl, hw with | [_], [], _, _ => rfl) <|
    .cons (dfOk_mk (st := s_Netlist_net_count) l16 c16 sc_Netlist_net_count ck_Netlist_net_count fun _ _ _ _ _ _ us ws hl hw => match us, ws, hl, hw with | [_], [], _, _ => rfl) <|
    .cons (dfOk_mk (st := s_Netlist_area) l17 c17 sc_Netlist_area ck_Netlist_area fun _ _ _ _ _ _ us ws hl hw => match us, ws, hl, hw with | [_], [], _, _ => rfl) <|
    .cons (dfOk_mk (st := s_Netlist_initial_state) l18 c18 sc_Netlist_initial_state ck_Netlist_initial_state fun _ _ _ _ _ _ us ws hl hw => match us, ws, hl, hw with | [_], [], _, _ => rfl) <|
    .cons (dfOk_mk (st := s_Netlist_net_values) l19 c19 sc_Netlist_net_values ck_Netlist_net_values fun _ _ _ _ _ _ us ws hl hw => match us, ws, hl, hw with | [_, _, _], [], _, _ => rfl) <|
    .cons (dfOk_mk (st := s_Netlist_step) l20 c20 sc_Netlist_step ck_Netlist_step fun _ _ _ _ _ _ us ws hl hw => match us, ws, hl, hw with | [_, _, _], [], _, _ => rfl) <|
    .cons (dfOk_mk (st := s_run_netlist) l21 c21 sc_run_netlist ck_run_netlist fun _ _ _ _ _ _ us ws hl hw => match us, ws, hl, hw with | [_, _, _], [], _, _ => rfl) <|
    .cons (dfOk_mk (st := s_pin_arrivals) l22 c22 sc_pin_arrivals ck_pin_arrivals fun _ _ _ _ _ _ us ws hl hw => match us, ws, hl, hw with | [_, _, _], [], _, _ => rfl) <|
    .cons (dfOk_mk (st := s_arrivals) l23 c23 sc_arrivals ck_arrivals fun _ _ _ _ _ _ us ws hl hw => match us, ws, hl, hw with | [_], [], _, _ => rfl) <|
    .cons (dfOk_mk (st := s_ends) l24 c24 sc_ends ck_ends fun _ _ _ _ _ _ us ws hl hw => match us, ws, hl, hw with | [_], [], _, _ => rfl) <|
    .cons (dfOk_mk (st := s_least_period) l25 c25 sc_least_period ck_least_period fun _ _ _ _ _ _ us ws hl hw => match us, ws, hl, hw with | [_], [], _, _ => rfl) <|
    .cons (dfOk_mk (st := s_law_numbers) l26 c26 sc_law_numbers ck_law_numbers fun _ _ _ _ _ _ us ws hl hw => match us, ws, hl, hw with | [_, _, _], [], _, _ => rfl) <|
    .cons (dfOk_mk (st := s_law_cell) l27 c27 sc_law_cell ck_law_cell fun _ _ _ _ _ _ us ws hl hw => match us, ws, hl, hw with | [_, _], [], _, _ => rfl) <|
    .cons (dfOk_mk (st := s_law_cells) l28 c28 sc_law_cells ck_law_cells fun _ _ _ _ _ _ us ws hl hw => match us, ws, hl, hw with | [_, _], [], _, _ => rfl) <|
    .cons (dfOk_mk (st := s_law_netlist) l29 c29 sc_law_netlist ck_law_netlist fun _ _ _ _ _ _ us ws hl hw => match us, ws, hl, hw with | [_, _], [], _, _ => rfl) <|
    .cons (dfOk_mk (st := s_law_all_values) l30 c30 sc_law_all_values ck_law_all_values fun _ _ _ _ _ _ us ws hl hw => match us, ws, hl, hw with | [_, _, _], [], _, _ => rfl) <|
    .cons (dfOk_mk (st := s_law_step) l31 c31 sc_law_step ck_law_step fun _ _ _ _ _ _ us ws hl hw => match us, ws, hl, hw with | [_, _, _], [], _, _ => rfl) <|
    .cons (dfOk_mk (st := s_law_run) l32 c32 sc_law_run ck_law_run fun _ _ _ _ _ _ us ws hl hw => match us, ws, hl, hw with | [_, _, _], [], _, _ => rfl) <|
    .cons (dfOk_mk (st := s_law_rows) l33 c33 sc_law_rows ck_law_rows fun _ _ _ _ _ _ us ws hl hw => match us, ws, hl, hw with | [_, _, _], [], _, _ => rfl) <|
    .cons (dfOk_mk (st := s_law) l34 c34 sc_law ck_law fun _ _ _ _ _ _ us ws hl hw => match us, ws, hl, hw with | [_], [], _, _ => rfl) <|
    .nil
  obtain ⟨fd, h1, h2⟩ := law_end (d0 := ⟨[], [], .nil, []⟩) (x := "_law_script") i_law LEVEL B A (fun _ => rfl) rfl (by decide +kernel) (by decide +kernel) rfl
  exact ⟨fd, _, fun s u => h1 s u, h2, fun H a ns hl hS => law_ok _ H a ns hl hS⟩
end LK
open PySem PySem.W PyProof.Rows
set_option maxRecDepth 100000 in
set_option maxHeartbeats 0 in
theorem PySem.Challenge.cw_clockwright_k48_whole_timed_run_holds : PySem.Challenge.rw_clockwright_k48_whole_timed_run.Holds := by
  w_on; o_law; k_head; (case hw => w_witness2)
  k_fill
  refine DI.walkG (l := PySem.Challenge.rw_clockwright_k48_whole_timed_run) (x := "_law_script") LK.LEVEL rfl rfl rfl ⟨⟨rfl, by decide, by decide⟩, rfl⟩ (fun w h Y => PySem.W.kIn_of Y) ?F
  case F =>
    intro w mg fa h KX G hmg
    refine' LK.fin KX G hmg ?a0 ?l0 ?c0 ?k0 ?a1 ?i1 ?l1 ?c1 ?k1 ?a2 ?i2 ?l2 ?c2 ?k2 ?a3 ?i3 ?l3 ?c3 ?k3 ?a4 ?i4 ?l4 ?c4 ?k4 ?a5 ?l5 ?c5 ?k5 ?a6 ?i6 ?l6 ?c6 ?k6 ?a7 ?i7 ?l7 ?c7 ?k7 ?a8 ?i8 ?l8 ?c8 ?k8 ?a9 ?i9 ?l9 ?c9 ?k9 ?a10 ?i10 ?l10 ?c10 ?k10 ?a11 ?i11 ?l11 ?c11 ?k11 ?a12 ?i12 ?l12 ?c12 ?k12 ?a13 ?i13 ?l13 ?c13 ?k13 ?a14 ?i14 ?l14 ?c14 ?k14 ?a15 ?i15 ?l15 ?c15 ?k15 ?a16 ?i16 ?l16 ?c16 ?k16 ?a17 ?i17 ?l17 ?c17 ?k17 ?a18 ?i18 ?l18 ?c18 ?k18 ?a19 ?i19 ?l19 ?c19 ?k19 ?a20 ?i20 ?l20 ?c20 ?k20 ?a21 ?l21 ?c21 ?k21 ?a22 ?l22 ?c22 ?k22 ?a23 ?l23 ?c23 ?k23 ?a24 ?l24 ?c24 ?k24 ?a25 ?l25 ?c25 ?k25 ?a26 ?l26 ?c26 ?k26 ?a27 ?l27 ?c27 ?k27 ?a28 ?l28 ?c28 ?k28 ?a29 ?l29 ?c29 ?k29 ?a30 ?l30 ?c30 ?k30 ?a31 ?l31 ?c31 ?k31 ?a32 ?l32 ?c32 ?k32 ?a33 ?l33 ?c33 ?k33 ?a34 ?l34 ?c34 ?k34 ?aC0 ?pg0 ?hd0 ?po0 ?sa0 ?mk0 ?kc0 ?aC1 ?pg1 ?hd1 ?po1 ?sa1 ?mk1 ?kc1 ?aC2 ?pg2 ?hd2 ?po2 ?sa2 ?mk2 ?kc2 ?aC3 ?pg3 ?hd3 ?po3 ?sa3 ?mk3 ?kc3 ?n0 ?n1 ?n2 ?n3 ?n4 ?n5 ?n6 ?n7 ?n8 ?n9 ?n10 ?n11 ?n12 ?n13 ?n14 ?n15 ?n16 ?z0 ?z1 ?z2 ?z3 ?z4 ?z5 ?z6 ?z7 ?z8 ?z9 ?z10 ?z11 ?z12 ?z13 ?z14 ?z15 ?z16 ?z17 ?z18 ?z19 ?z20 ?z21
    (case aC0 => k_is); (case aC1 => k_is); (case aC2 => k_is); (case aC3 => k_is); (case a0 => k_is); (case l0 => k_is)
    (case c0 => k_is); (case k0 => k_is); (case a1 => k_is); (case i1 => k_is); (case l1 => k_is); (case c1 => k_is)
    (case k1 => k_is); (case a2 => k_is); (case i2 => k_is); (case l2 => k_is); (case c2 => k_is); (case k2 => k_is)
    (case a3 => k_is); (case i3 => k_is); (case l3 => k_is); (case c3 => k_is); (case k3 => k_is); (case a4 => k_is)
    (case i4 => k_is); (case l4 => k_is); (case c4 => k_is); (case k4 => k_is); (case a5 => k_is); (case l5 => k_is)
    (case c5 => k_is); (case k5 => k_is); (case a6 => k_is); (case i6 => k_is); (case l6 => k_is); (case c6 => k_is)
    (case k6 => k_is); (case a7 => k_is); (case i7 => k_is); (case l7 => k_is); (case c7 => k_is); (case k7 => k_is)
    (case a8 => k_is); (case i8 => k_is); (case l8 => k_is); (case c8 => k_is); (case k8 => k_is); (case a9 => k_is)
    (case i9 => k_is); (case l9 => k_is); (case c9 => k_is); (case k9 => k_is); (case a10 => k_is); (case i10 => k_is)
    (case l10 => k_is); (case c10 => k_is); (case k10 => k_is); (case a11 => k_is); (case i11 => k_is); (case l11 => k_is)
    (case c11 => k_is); (case k11 => k_is); (case a12 => k_is); (case i12 => k_is); (case l12 => k_is); (case c12 => k_is)
    (case k12 => k_is); (case a13 => k_is); (case i13 => k_is); (case l13 => k_is); (case c13 => k_is); (case k13 => k_is)
    (case a14 => k_is); (case i14 => k_is); (case l14 => k_is); (case c14 => k_is); (case k14 => k_is); (case a15 => k_is)
    (case i15 => k_is); (case l15 => k_is); (case c15 => k_is); (case k15 => k_is); (case a16 => k_is); (case i16 => k_is)
    (case l16 => k_is); (case c16 => k_is); (case k16 => k_is); (case a17 => k_is); (case i17 => k_is); (case l17 => k_is)
    (case c17 => k_is); (case k17 => k_is); (case a18 => k_is); (case i18 => k_is); (case l18 => k_is); (case c18 => k_is)
    (case k18 => k_is); (case a19 => k_is); (case i19 => k_is); (case l19 => k_is); (case c19 => k_is); (case k19 => k_is)
    (case a20 => k_is); (case i20 => k_is); (case l20 => k_is); (case c20 => k_is); (case k20 => k_is); (case a21 => k_is)
    (case l21 => k_is); (case c21 => k_is); (case k21 => k_is); (case a22 => k_is); (case l22 => k_is); (case c22 => k_is)
    (case k22 => k_is); (case a23 => k_is); (case l23 => k_is); (case c23 => k_is); (case k23 => k_is); (case a24 => k_is)
    (case l24 => k_is); (case c24 => k_is); (case k24 => k_is); (case a25 => k_is); (case l25 => k_is); (case c25 => k_is)
    (case k25 => k_is); (case a26 => k_is); (case l26 => k_is); (case c26 => k_is); (case k26 => k_is); (case a27 => k_is)
    (case l27 => k_is); (case c27 => k_is); (case k27 => k_is); (case a28 => k_is); (case l28 => k_is); (case c28 => k_is)
    (case k28 => k_is); (case a29 => k_is); (case l29 => k_is); (case c29 => k_is); (case k29 => k_is); (case a30 => k_is)
    (case l30 => k_is); (case c30 => k_is); (case k30 => k_is); (case a31 => k_is); (case l31 => k_is); (case c31 => k_is)
    (case k31 => k_is); (case a32 => k_is); (case l32 => k_is); (case c32 => k_is); (case k32 => k_is); (case a33 => k_is)
    (case l33 => k_is); (case c33 => k_is); (case k33 => k_is); (case a34 => k_is); (case l34 => k_is); (case c34 => k_is)
    (case k34 => k_is); (case pg0 => k_is); (case hd0 => k_is); (case po0 => k_is); (case sa0 => k_is); (case mk0 => k_is)
    (case kc0 => k_is); (case pg1 => k_is); (case hd1 => k_is); (case po1 => k_is); (case sa1 => k_is); (case mk1 => k_is)
    (case kc1 => k_is); (case pg2 => k_is); (case hd2 => k_is); (case po2 => k_is); (case sa2 => k_is); (case mk2 => k_is)
    (case kc2 => k_is); (case pg3 => k_is); (case hd3 => k_is); (case po3 => k_is); (case sa3 => k_is); (case mk3 => k_is)
    (case kc3 => k_is); (case n0 => k_is); (case n1 => k_is); (case n2 => k_is); (case n3 => k_is); (case n4 => k_is)
    (case n5 => k_is); (case n6 => k_is); (case n7 => k_is); (case n8 => k_is); (case n9 => k_is); (case n10 => k_is)
    (case n11 => k_is); (case n12 => k_is); (case n13 => k_is); (case n14 => k_is); (case n15 => k_is); (case n16 => k_is)
    (case z0 => k_is); (case z1 => k_is); (case z2 => k_is); (case z3 => k_is); (case z4 => k_is); (case z5 => k_is)
    (case z6 => k_is); (case z7 => k_is); (case z8 => k_is); (case z9 => k_is); (case z10 => k_is); (case z11 => k_is)
    (case z12 => k_is); (case z13 => k_is); (case z14 => k_is); (case z15 => k_is); (case z16 => k_is); (case z17 => k_is)
    (case z18 => k_is); (case z19 => k_is); (case z20 => k_is); (case z21 => k_is)
