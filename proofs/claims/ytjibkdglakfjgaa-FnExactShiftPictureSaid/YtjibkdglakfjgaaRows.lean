/-
  No cell of these rows narrows 'for every input' (looked for: loops, veiled, ifaces, maps, wideKeys, modest, calm, conditions, laid).
  DERIVED. THE GIVEN ROWS OF THIS SEAT. 29 by the template 'for every input the law returns true; each argument reads behind the call as it read before'; 0 by the template 'total and deterministic' (their statements: YtjibkdglakfjgaaTotals.lean).
  GIVEN WITH THE SEED: the statements are not yours to turn. If you find one false, say at which input.
  Laid BY PROGRAM, IN A SANDBOX (cutbox-rows.mjs): the forced cells as the released guide's own fill.sh prints them over the translation 650b3b2cfc99ae1d… (all of the seat's roots in one cut). By AI agents, Wed Nov 11 2026. No macro, syntax, notation, axiom, sorry.
-/
import Derived.Test.YtjibkdglakfjgaaChecked
import GoSem.Claim
import GoSem.ClaimJoined
import GoSem.ClaimMapViews
import Derived.JoinedTies
import Derived.KernelRfl
namespace Go.Proofs.Ytjibkdglakfjgaa
/- THE CELL 'sum', in the pinned program and in every row, IS THE sha256 OF THE DUMP (.gsa) THAT YtjibkdglakfjgaaProg.lean LOADS. Nothing in Lean hashes anything: it is a label: what it is worth is what the hold of that sum in a sandbox is worth. -/
noncomputable def Try.pinned : Pinned := { name := "ytjibkdglakfjgaa", sum := "650b3b2cfc99ae1d4293b0671fabc26b816835872aaf79acb7a2f37935525646", checked := Try.checked }
namespace Rows
def none {H : Type} : Left H := { results := [], args := [] }

/-- 'laws.FnExactFlipPicture': WHATEVER THE INPUT: true; the input reads as it did. -/
def fnExactFlipPictureSpec : ChangeSpec := { name := "fnExactFlipPicture", fn := fun _ => fun
  | [d] => { results := [.lit (.bool true)], args := [d] }
  | _ => none }
def fnExactFlipPictureRow : OpenClaim := { program := "ytjibkdglakfjgaa", sum := "650b3b2cfc99ae1d4293b0671fabc26b816835872aaf79acb7a2f37935525646", func := "loop.example/g01308/laws.FnExactFlipPicture", spec := "fnExactFlipPicture", unfollowed := true, recurses := true, apart := false }
def FnExactFlipPictureSaid : Prop := fnExactFlipPictureRow.holds Try.pinned (OpenSpec.ofChange fnExactFlipPictureSpec)

/-- ITS FALSE NEIGHBOUR: 'it returns false'. Refute it at one input. -/
def fnExactFlipPictureWrong : ChangeSpec := { name := "fnExactFlipPicture", fn := fun _ => fun
  | [d] => { results := [.lit (.bool false)], args := [d] }
  | _ => none }
def FnExactFlipPictureWrongFalsely : Prop := fnExactFlipPictureRow.holds Try.pinned (OpenSpec.ofChange fnExactFlipPictureWrong)

/-- 'laws.FnExactTurnPicture': WHATEVER THE INPUT: true; the input reads as it did. -/
def fnExactTurnPictureSpec : ChangeSpec := { name := "fnExactTurnPicture", fn := fun _ => fun
  | [d] => { results := [.lit (.bool true)], args := [d] }
  | _ => none }
def fnExactTurnPictureRow : OpenClaim := { program := "ytjibkdglakfjgaa", sum := "650b3b2cfc99ae1d4293b0671fabc26b816835872aaf79acb7a2f37935525646", func := "loop.example/g01308/laws.FnExactTurnPicture", spec := "fnExactTurnPicture", unfollowed := true, recurses := true, apart := false }
def FnExactTurnPictureSaid : Prop := fnExactTurnPictureRow.holds Try.pinned (OpenSpec.ofChange fnExactTurnPictureSpec)

/-- ITS FALSE NEIGHBOUR: 'it returns false'. Refute it at one input. -/
def fnExactTurnPictureWrong : ChangeSpec := { name := "fnExactTurnPicture", fn := fun _ => fun
  | [d] => { results := [.lit (.bool false)], args := [d] }
  | _ => none }
def FnExactTurnPictureWrongFalsely : Prop := fnExactTurnPictureRow.holds Try.pinned (OpenSpec.ofChange fnExactTurnPictureWrong)

/-- 'laws.FnExactEvenTone': WHATEVER THE INPUT: true; the input reads as it did. -/
def fnExactEvenToneSpec : ChangeSpec := { name := "fnExactEvenTone", fn := fun _ => fun
  | [d] => { results := [.lit (.bool true)], args := [d] }
  | _ => none }
def fnExactEvenToneRow : OpenClaim := { program := "ytjibkdglakfjgaa", sum := "650b3b2cfc99ae1d4293b0671fabc26b816835872aaf79acb7a2f37935525646", func := "loop.example/g01308/laws.FnExactEvenTone", spec := "fnExactEvenTone", unfollowed := true, recurses := true, apart := false }
def FnExactEvenToneSaid : Prop := fnExactEvenToneRow.holds Try.pinned (OpenSpec.ofChange fnExactEvenToneSpec)

/-- ITS FALSE NEIGHBOUR: 'it returns false'. Refute it at one input. -/
def fnExactEvenToneWrong : ChangeSpec := { name := "fnExactEvenTone", fn := fun _ => fun
  | [d] => { results := [.lit (.bool false)], args := [d] }
  | _ => none }
def FnExactEvenToneWrongFalsely : Prop := fnExactEvenToneRow.holds Try.pinned (OpenSpec.ofChange fnExactEvenToneWrong)

/-- 'laws.FnExactCropPicture': WHATEVER THE INPUT: true; the input reads as it did. -/
def fnExactCropPictureSpec : ChangeSpec := { name := "fnExactCropPicture", fn := fun _ => fun
  | [d1, d2, d3, d4, d5] => { results := [.lit (.bool true)], args := [d1, d2, d3, d4, d5] }
  | _ => none }
def fnExactCropPictureRow : OpenClaim := { program := "ytjibkdglakfjgaa", sum := "650b3b2cfc99ae1d4293b0671fabc26b816835872aaf79acb7a2f37935525646", func := "loop.example/g01308/laws.FnExactCropPicture", spec := "fnExactCropPicture", unfollowed := true, recurses := true, apart := false }
def FnExactCropPictureSaid : Prop := fnExactCropPictureRow.holds Try.pinned (OpenSpec.ofChange fnExactCropPictureSpec)

/-- ITS FALSE NEIGHBOUR: 'it returns false'. Refute it at one input. -/
def fnExactCropPictureWrong : ChangeSpec := { name := "fnExactCropPicture", fn := fun _ => fun
  | [d1, d2, d3, d4, d5] => { results := [.lit (.bool false)], args := [d1, d2, d3, d4, d5] }
  | _ => none }
def FnExactCropPictureWrongFalsely : Prop := fnExactCropPictureRow.holds Try.pinned (OpenSpec.ofChange fnExactCropPictureWrong)

/-- 'laws.FnExactAddPictures': WHATEVER THE INPUT: true; the input reads as it did. -/
def fnExactAddPicturesSpec : ChangeSpec := { name := "fnExactAddPictures", fn := fun _ => fun
  | [d1, d2] => { results := [.lit (.bool true)], args := [d1, d2] }
  | _ => none }
def fnExactAddPicturesRow : OpenClaim := { program := "ytjibkdglakfjgaa", sum := "650b3b2cfc99ae1d4293b0671fabc26b816835872aaf79acb7a2f37935525646", func := "loop.example/g01308/laws.FnExactAddPictures", spec := "fnExactAddPictures", unfollowed := true, recurses := true, apart := false }
def FnExactAddPicturesSaid : Prop := fnExactAddPicturesRow.holds Try.pinned (OpenSpec.ofChange fnExactAddPicturesSpec)

/-- ITS FALSE NEIGHBOUR: 'it returns false'. Refute it at one input. -/
def fnExactAddPicturesWrong : ChangeSpec := { name := "fnExactAddPictures", fn := fun _ => fun
  | [d1, d2] => { results := [.lit (.bool false)], args := [d1, d2] }
  | _ => none }
def FnExactAddPicturesWrongFalsely : Prop := fnExactAddPicturesRow.holds Try.pinned (OpenSpec.ofChange fnExactAddPicturesWrong)

/-- 'laws.FnExactExpose': WHATEVER THE INPUT: true; the input reads as it did. -/
def fnExactExposeSpec : ChangeSpec := { name := "fnExactExpose", fn := fun _ => fun
  | [d1, d2, d3] => { results := [.lit (.bool true)], args := [d1, d2, d3] }
  | _ => none }
def fnExactExposeRow : OpenClaim := { program := "ytjibkdglakfjgaa", sum := "650b3b2cfc99ae1d4293b0671fabc26b816835872aaf79acb7a2f37935525646", func := "loop.example/g01308/laws.FnExactExpose", spec := "fnExactExpose", unfollowed := true, recurses := true, apart := false }
def FnExactExposeSaid : Prop := fnExactExposeRow.holds Try.pinned (OpenSpec.ofChange fnExactExposeSpec)

/-- ITS FALSE NEIGHBOUR: 'it returns false'. Refute it at one input. -/
def fnExactExposeWrong : ChangeSpec := { name := "fnExactExpose", fn := fun _ => fun
  | [d1, d2, d3] => { results := [.lit (.bool false)], args := [d1, d2, d3] }
  | _ => none }
def FnExactExposeWrongFalsely : Prop := fnExactExposeRow.holds Try.pinned (OpenSpec.ofChange fnExactExposeWrong)

/-- 'laws.FnExactShiftPicture': WHATEVER THE INPUT: true; the input reads as it did. -/
def fnExactShiftPictureSpec : ChangeSpec := { name := "fnExactShiftPicture", fn := fun _ => fun
  | [d1, d2, d3] => { results := [.lit (.bool true)], args := [d1, d2, d3] }
  | _ => none }
def fnExactShiftPictureRow : OpenClaim := { program := "ytjibkdglakfjgaa", sum := "650b3b2cfc99ae1d4293b0671fabc26b816835872aaf79acb7a2f37935525646", func := "loop.example/g01308/laws.FnExactShiftPicture", spec := "fnExactShiftPicture", unfollowed := true, recurses := true, apart := false }
def FnExactShiftPictureSaid : Prop := fnExactShiftPictureRow.holds Try.pinned (OpenSpec.ofChange fnExactShiftPictureSpec)

/-- ITS FALSE NEIGHBOUR: 'it returns false'. Refute it at one input. -/
def fnExactShiftPictureWrong : ChangeSpec := { name := "fnExactShiftPicture", fn := fun _ => fun
  | [d1, d2, d3] => { results := [.lit (.bool false)], args := [d1, d2, d3] }
  | _ => none }
def FnExactShiftPictureWrongFalsely : Prop := fnExactShiftPictureRow.holds Try.pinned (OpenSpec.ofChange fnExactShiftPictureWrong)

/-- 'laws.FnExactMixPictures': WHATEVER THE INPUT: true; the input reads as it did. -/
def fnExactMixPicturesSpec : ChangeSpec := { name := "fnExactMixPictures", fn := fun _ => fun
  | [d1, d2, d3] => { results := [.lit (.bool true)], args := [d1, d2, d3] }
  | _ => none }
def fnExactMixPicturesRow : OpenClaim := { program := "ytjibkdglakfjgaa", sum := "650b3b2cfc99ae1d4293b0671fabc26b816835872aaf79acb7a2f37935525646", func := "loop.example/g01308/laws.FnExactMixPictures", spec := "fnExactMixPictures", unfollowed := true, recurses := true, apart := false }
def FnExactMixPicturesSaid : Prop := fnExactMixPicturesRow.holds Try.pinned (OpenSpec.ofChange fnExactMixPicturesSpec)

/-- ITS FALSE NEIGHBOUR: 'it returns false'. Refute it at one input. -/
def fnExactMixPicturesWrong : ChangeSpec := { name := "fnExactMixPictures", fn := fun _ => fun
  | [d1, d2, d3] => { results := [.lit (.bool false)], args := [d1, d2, d3] }
  | _ => none }
def FnExactMixPicturesWrongFalsely : Prop := fnExactMixPicturesRow.holds Try.pinned (OpenSpec.ofChange fnExactMixPicturesWrong)

/-- 'laws.FnExactDoublePicture': WHATEVER THE INPUT: true; the input reads as it did. -/
def fnExactDoublePictureSpec : ChangeSpec := { name := "fnExactDoublePicture", fn := fun _ => fun
  | [d1, d2, d3] => { results := [.lit (.bool true)], args := [d1, d2, d3] }
  | _ => none }
def fnExactDoublePictureRow : OpenClaim := { program := "ytjibkdglakfjgaa", sum := "650b3b2cfc99ae1d4293b0671fabc26b816835872aaf79acb7a2f37935525646", func := "loop.example/g01308/laws.FnExactDoublePicture", spec := "fnExactDoublePicture", unfollowed := true, recurses := true, apart := false }
def FnExactDoublePictureSaid : Prop := fnExactDoublePictureRow.holds Try.pinned (OpenSpec.ofChange fnExactDoublePictureSpec)

/-- ITS FALSE NEIGHBOUR: 'it returns false'. Refute it at one input. -/
def fnExactDoublePictureWrong : ChangeSpec := { name := "fnExactDoublePicture", fn := fun _ => fun
  | [d1, d2, d3] => { results := [.lit (.bool false)], args := [d1, d2, d3] }
  | _ => none }
def FnExactDoublePictureWrongFalsely : Prop := fnExactDoublePictureRow.holds Try.pinned (OpenSpec.ofChange fnExactDoublePictureWrong)

/-- 'laws.FnExactNoisyPicture': WHATEVER THE INPUT: true; the input reads as it did. -/
def fnExactNoisyPictureSpec : ChangeSpec := { name := "fnExactNoisyPicture", fn := fun _ => fun
  | [d1, d2, d3] => { results := [.lit (.bool true)], args := [d1, d2, d3] }
  | _ => none }
def fnExactNoisyPictureRow : OpenClaim := { program := "ytjibkdglakfjgaa", sum := "650b3b2cfc99ae1d4293b0671fabc26b816835872aaf79acb7a2f37935525646", func := "loop.example/g01308/laws.FnExactNoisyPicture", spec := "fnExactNoisyPicture", unfollowed := true, recurses := true, apart := false }
def FnExactNoisyPictureSaid : Prop := fnExactNoisyPictureRow.holds Try.pinned (OpenSpec.ofChange fnExactNoisyPictureSpec)

/-- ITS FALSE NEIGHBOUR: 'it returns false'. Refute it at one input. -/
def fnExactNoisyPictureWrong : ChangeSpec := { name := "fnExactNoisyPicture", fn := fun _ => fun
  | [d1, d2, d3] => { results := [.lit (.bool false)], args := [d1, d2, d3] }
  | _ => none }
def FnExactNoisyPictureWrongFalsely : Prop := fnExactNoisyPictureRow.holds Try.pinned (OpenSpec.ofChange fnExactNoisyPictureWrong)

/-- 'laws.FnExactHaloOf': WHATEVER THE INPUT: true; the input reads as it did. -/
def fnExactHaloOfSpec : ChangeSpec := { name := "fnExactHaloOf", fn := fun _ => fun
  | [d1, d2] => { results := [.lit (.bool true)], args := [d1, d2] }
  | _ => none }
def fnExactHaloOfRow : OpenClaim := { program := "ytjibkdglakfjgaa", sum := "650b3b2cfc99ae1d4293b0671fabc26b816835872aaf79acb7a2f37935525646", func := "loop.example/g01308/laws.FnExactHaloOf", spec := "fnExactHaloOf", unfollowed := true, recurses := true, apart := false }
def FnExactHaloOfSaid : Prop := fnExactHaloOfRow.holds Try.pinned (OpenSpec.ofChange fnExactHaloOfSpec)

/-- ITS FALSE NEIGHBOUR: 'it returns false'. Refute it at one input. -/
def fnExactHaloOfWrong : ChangeSpec := { name := "fnExactHaloOf", fn := fun _ => fun
  | [d1, d2] => { results := [.lit (.bool false)], args := [d1, d2] }
  | _ => none }
def FnExactHaloOfWrongFalsely : Prop := fnExactHaloOfRow.holds Try.pinned (OpenSpec.ofChange fnExactHaloOfWrong)

/-- 'laws.FnBends': WHATEVER THE INPUT: true; the input reads as it did. -/
def fnBendsSpec : ChangeSpec := { name := "fnBends", fn := fun _ => fun
  | [d1, d2] => { results := [.lit (.bool true)], args := [d1, d2] }
  | _ => none }
def fnBendsRow : OpenClaim := { program := "ytjibkdglakfjgaa", sum := "650b3b2cfc99ae1d4293b0671fabc26b816835872aaf79acb7a2f37935525646", func := "loop.example/g01308/laws.FnBends", spec := "fnBends", inPlace := ["math.archFloor", "math.Float64bits", "math.Float64frombits", "math.archTrunc"], unfollowed := true, recurses := true, apart := false }
def FnBendsSaid : Prop := fnBendsRow.holds Try.pinned (OpenSpec.ofChange fnBendsSpec)

/-- ITS FALSE NEIGHBOUR: 'it returns false'. Refute it at one input. -/
def fnBendsWrong : ChangeSpec := { name := "fnBends", fn := fun _ => fun
  | [d1, d2] => { results := [.lit (.bool false)], args := [d1, d2] }
  | _ => none }
def FnBendsWrongFalsely : Prop := fnBendsRow.holds Try.pinned (OpenSpec.ofChange fnBendsWrong)

/-- 'laws.FnExactBoxMean': WHATEVER THE INPUT: true; the input reads as it did. -/
def fnExactBoxMeanSpec : ChangeSpec := { name := "fnExactBoxMean", fn := fun _ => fun
  | [d1, d2] => { results := [.lit (.bool true)], args := [d1, d2] }
  | _ => none }
def fnExactBoxMeanRow : OpenClaim := { program := "ytjibkdglakfjgaa", sum := "650b3b2cfc99ae1d4293b0671fabc26b816835872aaf79acb7a2f37935525646", func := "loop.example/g01308/laws.FnExactBoxMean", spec := "fnExactBoxMean", unfollowed := true, recurses := true, apart := false }
def FnExactBoxMeanSaid : Prop := fnExactBoxMeanRow.holds Try.pinned (OpenSpec.ofChange fnExactBoxMeanSpec)

/-- ITS FALSE NEIGHBOUR: 'it returns false'. Refute it at one input. -/
def fnExactBoxMeanWrong : ChangeSpec := { name := "fnExactBoxMean", fn := fun _ => fun
  | [d1, d2] => { results := [.lit (.bool false)], args := [d1, d2] }
  | _ => none }
def FnExactBoxMeanWrongFalsely : Prop := fnExactBoxMeanRow.holds Try.pinned (OpenSpec.ofChange fnExactBoxMeanWrong)

/-- 'laws.FnExactHalvePicture': WHATEVER THE INPUT: true; the input reads as it did. -/
def fnExactHalvePictureSpec : ChangeSpec := { name := "fnExactHalvePicture", fn := fun _ => fun
  | [d] => { results := [.lit (.bool true)], args := [d] }
  | _ => none }
def fnExactHalvePictureRow : OpenClaim := { program := "ytjibkdglakfjgaa", sum := "650b3b2cfc99ae1d4293b0671fabc26b816835872aaf79acb7a2f37935525646", func := "loop.example/g01308/laws.FnExactHalvePicture", spec := "fnExactHalvePicture", unfollowed := true, recurses := true, apart := false }
def FnExactHalvePictureSaid : Prop := fnExactHalvePictureRow.holds Try.pinned (OpenSpec.ofChange fnExactHalvePictureSpec)

/-- ITS FALSE NEIGHBOUR: 'it returns false'. Refute it at one input. -/
def fnExactHalvePictureWrong : ChangeSpec := { name := "fnExactHalvePicture", fn := fun _ => fun
  | [d] => { results := [.lit (.bool false)], args := [d] }
  | _ => none }
def FnExactHalvePictureWrongFalsely : Prop := fnExactHalvePictureRow.holds Try.pinned (OpenSpec.ofChange fnExactHalvePictureWrong)

/-- 'laws.FnExactEdgeFilter': WHATEVER THE INPUT: true; the input reads as it did. -/
def fnExactEdgeFilterSpec : ChangeSpec := { name := "fnExactEdgeFilter", fn := fun _ => fun
  | [d1, d2, d3] => { results := [.lit (.bool true)], args := [d1, d2, d3] }
  | _ => none }
def fnExactEdgeFilterRow : OpenClaim := { program := "ytjibkdglakfjgaa", sum := "650b3b2cfc99ae1d4293b0671fabc26b816835872aaf79acb7a2f37935525646", func := "loop.example/g01308/laws.FnExactEdgeFilter", spec := "fnExactEdgeFilter", unfollowed := true, recurses := true, apart := false }
def FnExactEdgeFilterSaid : Prop := fnExactEdgeFilterRow.holds Try.pinned (OpenSpec.ofChange fnExactEdgeFilterSpec)

/-- ITS FALSE NEIGHBOUR: 'it returns false'. Refute it at one input. -/
def fnExactEdgeFilterWrong : ChangeSpec := { name := "fnExactEdgeFilter", fn := fun _ => fun
  | [d1, d2, d3] => { results := [.lit (.bool false)], args := [d1, d2, d3] }
  | _ => none }
def FnExactEdgeFilterWrongFalsely : Prop := fnExactEdgeFilterRow.holds Try.pinned (OpenSpec.ofChange fnExactEdgeFilterWrong)

/-- 'laws.FnExactSharpenPicture': WHATEVER THE INPUT: true; the input reads as it did. -/
def fnExactSharpenPictureSpec : ChangeSpec := { name := "fnExactSharpenPicture", fn := fun _ => fun
  | [d1, d2, d3] => { results := [.lit (.bool true)], args := [d1, d2, d3] }
  | _ => none }
def fnExactSharpenPictureRow : OpenClaim := { program := "ytjibkdglakfjgaa", sum := "650b3b2cfc99ae1d4293b0671fabc26b816835872aaf79acb7a2f37935525646", func := "loop.example/g01308/laws.FnExactSharpenPicture", spec := "fnExactSharpenPicture", unfollowed := true, recurses := true, apart := false }
def FnExactSharpenPictureSaid : Prop := fnExactSharpenPictureRow.holds Try.pinned (OpenSpec.ofChange fnExactSharpenPictureSpec)

/-- ITS FALSE NEIGHBOUR: 'it returns false'. Refute it at one input. -/
def fnExactSharpenPictureWrong : ChangeSpec := { name := "fnExactSharpenPicture", fn := fun _ => fun
  | [d1, d2, d3] => { results := [.lit (.bool false)], args := [d1, d2, d3] }
  | _ => none }
def FnExactSharpenPictureWrongFalsely : Prop := fnExactSharpenPictureRow.holds Try.pinned (OpenSpec.ofChange fnExactSharpenPictureWrong)

/-- 'laws.FnExactNoiseBetween': WHATEVER THE INPUT: true; the input reads as it did. -/
def fnExactNoiseBetweenSpec : ChangeSpec := { name := "fnExactNoiseBetween", fn := fun _ => fun
  | [d1, d2] => { results := [.lit (.bool true)], args := [d1, d2] }
  | _ => none }
def fnExactNoiseBetweenRow : OpenClaim := { program := "ytjibkdglakfjgaa", sum := "650b3b2cfc99ae1d4293b0671fabc26b816835872aaf79acb7a2f37935525646", func := "loop.example/g01308/laws.FnExactNoiseBetween", spec := "fnExactNoiseBetween", inPlace := ["math.sqrt"], unfollowed := true, recurses := true, apart := false }
def FnExactNoiseBetweenSaid : Prop := fnExactNoiseBetweenRow.holds Try.pinned (OpenSpec.ofChange fnExactNoiseBetweenSpec)

/-- ITS FALSE NEIGHBOUR: 'it returns false'. Refute it at one input. -/
def fnExactNoiseBetweenWrong : ChangeSpec := { name := "fnExactNoiseBetween", fn := fun _ => fun
  | [d1, d2] => { results := [.lit (.bool false)], args := [d1, d2] }
  | _ => none }
def FnExactNoiseBetweenWrongFalsely : Prop := fnExactNoiseBetweenRow.holds Try.pinned (OpenSpec.ofChange fnExactNoiseBetweenWrong)

/-- 'laws.FnFrames': WHATEVER THE INPUT: true; the input reads as it did. -/
def fnFramesSpec : ChangeSpec := { name := "fnFrames", fn := fun _ => fun
  | [d1, d2] => { results := [.lit (.bool true)], args := [d1, d2] }
  | _ => none }
def fnFramesRow : OpenClaim := { program := "ytjibkdglakfjgaa", sum := "650b3b2cfc99ae1d4293b0671fabc26b816835872aaf79acb7a2f37935525646", func := "loop.example/g01308/laws.FnFrames", spec := "fnFrames", inPlace := ["math.Float64bits"], unfollowed := true, recurses := true, apart := false }
def FnFramesSaid : Prop := fnFramesRow.holds Try.pinned (OpenSpec.ofChange fnFramesSpec)

/-- ITS FALSE NEIGHBOUR: 'it returns false'. Refute it at one input. -/
def fnFramesWrong : ChangeSpec := { name := "fnFrames", fn := fun _ => fun
  | [d1, d2] => { results := [.lit (.bool false)], args := [d1, d2] }
  | _ => none }
def FnFramesWrongFalsely : Prop := fnFramesRow.holds Try.pinned (OpenSpec.ofChange fnFramesWrong)

/-- 'laws.FnExactCurvePicture': WHATEVER THE INPUT: true; the input reads as it did. -/
def fnExactCurvePictureSpec : ChangeSpec := { name := "fnExactCurvePicture", fn := fun _ => fun
  | [d1, d2] => { results := [.lit (.bool true)], args := [d1, d2] }
  | _ => none }
def fnExactCurvePictureRow : OpenClaim := { program := "ytjibkdglakfjgaa", sum := "650b3b2cfc99ae1d4293b0671fabc26b816835872aaf79acb7a2f37935525646", func := "loop.example/g01308/laws.FnExactCurvePicture", spec := "fnExactCurvePicture", unfollowed := true, recurses := true, apart := false }
def FnExactCurvePictureSaid : Prop := fnExactCurvePictureRow.holds Try.pinned (OpenSpec.ofChange fnExactCurvePictureSpec)

/-- ITS FALSE NEIGHBOUR: 'it returns false'. Refute it at one input. -/
def fnExactCurvePictureWrong : ChangeSpec := { name := "fnExactCurvePicture", fn := fun _ => fun
  | [d1, d2] => { results := [.lit (.bool false)], args := [d1, d2] }
  | _ => none }
def FnExactCurvePictureWrongFalsely : Prop := fnExactCurvePictureRow.holds Try.pinned (OpenSpec.ofChange fnExactCurvePictureWrong)

/-- 'laws.FnExactBoxSpread': WHATEVER THE INPUT: true; the input reads as it did. -/
def fnExactBoxSpreadSpec : ChangeSpec := { name := "fnExactBoxSpread", fn := fun _ => fun
  | [d1, d2] => { results := [.lit (.bool true)], args := [d1, d2] }
  | _ => none }
def fnExactBoxSpreadRow : OpenClaim := { program := "ytjibkdglakfjgaa", sum := "650b3b2cfc99ae1d4293b0671fabc26b816835872aaf79acb7a2f37935525646", func := "loop.example/g01308/laws.FnExactBoxSpread", spec := "fnExactBoxSpread", unfollowed := true, recurses := true, apart := false }
def FnExactBoxSpreadSaid : Prop := fnExactBoxSpreadRow.holds Try.pinned (OpenSpec.ofChange fnExactBoxSpreadSpec)

/-- ITS FALSE NEIGHBOUR: 'it returns false'. Refute it at one input. -/
def fnExactBoxSpreadWrong : ChangeSpec := { name := "fnExactBoxSpread", fn := fun _ => fun
  | [d1, d2] => { results := [.lit (.bool false)], args := [d1, d2] }
  | _ => none }
def FnExactBoxSpreadWrongFalsely : Prop := fnExactBoxSpreadRow.holds Try.pinned (OpenSpec.ofChange fnExactBoxSpreadWrong)

/-- 'laws.FnExactExponentCounts': WHATEVER THE INPUT: true; the input reads as it did. -/
def fnExactExponentCountsSpec : ChangeSpec := { name := "fnExactExponentCounts", fn := fun _ => fun
  | [d] => { results := [.lit (.bool true)], args := [d] }
  | _ => none }
def fnExactExponentCountsRow : OpenClaim := { program := "ytjibkdglakfjgaa", sum := "650b3b2cfc99ae1d4293b0671fabc26b816835872aaf79acb7a2f37935525646", func := "loop.example/g01308/laws.FnExactExponentCounts", spec := "fnExactExponentCounts", inPlace := ["math.Float64bits", "math.Float64frombits"], unfollowed := true, recurses := true, apart := false }
def FnExactExponentCountsSaid : Prop := fnExactExponentCountsRow.holds Try.pinned (OpenSpec.ofChange fnExactExponentCountsSpec)

/-- ITS FALSE NEIGHBOUR: 'it returns false'. Refute it at one input. -/
def fnExactExponentCountsWrong : ChangeSpec := { name := "fnExactExponentCounts", fn := fun _ => fun
  | [d] => { results := [.lit (.bool false)], args := [d] }
  | _ => none }
def FnExactExponentCountsWrongFalsely : Prop := fnExactExponentCountsRow.holds Try.pinned (OpenSpec.ofChange fnExactExponentCountsWrong)

/-- 'laws.FnExactLevelPicture': WHATEVER THE INPUT: true; the input reads as it did. -/
def fnExactLevelPictureSpec : ChangeSpec := { name := "fnExactLevelPicture", fn := fun _ => fun
  | [d1, d2] => { results := [.lit (.bool true)], args := [d1, d2] }
  | _ => none }
def fnExactLevelPictureRow : OpenClaim := { program := "ytjibkdglakfjgaa", sum := "650b3b2cfc99ae1d4293b0671fabc26b816835872aaf79acb7a2f37935525646", func := "loop.example/g01308/laws.FnExactLevelPicture", spec := "fnExactLevelPicture", inPlace := ["math.archFloor", "math.Float64bits", "math.Float64frombits", "math.archTrunc"], unfollowed := true, recurses := true, apart := false }
def FnExactLevelPictureSaid : Prop := fnExactLevelPictureRow.holds Try.pinned (OpenSpec.ofChange fnExactLevelPictureSpec)

/-- ITS FALSE NEIGHBOUR: 'it returns false'. Refute it at one input. -/
def fnExactLevelPictureWrong : ChangeSpec := { name := "fnExactLevelPicture", fn := fun _ => fun
  | [d1, d2] => { results := [.lit (.bool false)], args := [d1, d2] }
  | _ => none }
def FnExactLevelPictureWrongFalsely : Prop := fnExactLevelPictureRow.holds Try.pinned (OpenSpec.ofChange fnExactLevelPictureWrong)

/-- 'laws.FnExactFromPlanes': WHATEVER THE INPUT: true; the input reads as it did. -/
def fnExactFromPlanesSpec : ChangeSpec := { name := "fnExactFromPlanes", fn := fun _ => fun
  | [d1, d2, d3] => { results := [.lit (.bool true)], args := [d1, d2, d3] }
  | _ => none }
def fnExactFromPlanesRow : OpenClaim := { program := "ytjibkdglakfjgaa", sum := "650b3b2cfc99ae1d4293b0671fabc26b816835872aaf79acb7a2f37935525646", func := "loop.example/g01308/laws.FnExactFromPlanes", spec := "fnExactFromPlanes", inPlace := ["math.Float64bits", "math.Float64frombits"], unfollowed := true, recurses := true, apart := false }
def FnExactFromPlanesSaid : Prop := fnExactFromPlanesRow.holds Try.pinned (OpenSpec.ofChange fnExactFromPlanesSpec)

/-- ITS FALSE NEIGHBOUR: 'it returns false'. Refute it at one input. -/
def fnExactFromPlanesWrong : ChangeSpec := { name := "fnExactFromPlanes", fn := fun _ => fun
  | [d1, d2, d3] => { results := [.lit (.bool false)], args := [d1, d2, d3] }
  | _ => none }
def FnExactFromPlanesWrongFalsely : Prop := fnExactFromPlanesRow.holds Try.pinned (OpenSpec.ofChange fnExactFromPlanesWrong)

/-- 'laws.FnExactMedianLight': WHATEVER THE INPUT: true; the input reads as it did. -/
def fnExactMedianLightSpec : ChangeSpec := { name := "fnExactMedianLight", fn := fun _ => fun
  | [d] => { results := [.lit (.bool true)], args := [d] }
  | _ => none }
def fnExactMedianLightRow : OpenClaim := { program := "ytjibkdglakfjgaa", sum := "650b3b2cfc99ae1d4293b0671fabc26b816835872aaf79acb7a2f37935525646", func := "loop.example/g01308/laws.FnExactMedianLight", spec := "fnExactMedianLight", unfollowed := true, recurses := true, apart := false }
def FnExactMedianLightSaid : Prop := fnExactMedianLightRow.holds Try.pinned (OpenSpec.ofChange fnExactMedianLightSpec)

/-- ITS FALSE NEIGHBOUR: 'it returns false'. Refute it at one input. -/
def fnExactMedianLightWrong : ChangeSpec := { name := "fnExactMedianLight", fn := fun _ => fun
  | [d] => { results := [.lit (.bool false)], args := [d] }
  | _ => none }
def FnExactMedianLightWrongFalsely : Prop := fnExactMedianLightRow.holds Try.pinned (OpenSpec.ofChange fnExactMedianLightWrong)

/-- 'laws.FnExactBendPicture': WHATEVER THE INPUT: true; the input reads as it did. -/
def fnExactBendPictureSpec : ChangeSpec := { name := "fnExactBendPicture", fn := fun _ => fun
  | [d1, d2] => { results := [.lit (.bool true)], args := [d1, d2] }
  | _ => none }
def fnExactBendPictureRow : OpenClaim := { program := "ytjibkdglakfjgaa", sum := "650b3b2cfc99ae1d4293b0671fabc26b816835872aaf79acb7a2f37935525646", func := "loop.example/g01308/laws.FnExactBendPicture", spec := "fnExactBendPicture", inPlace := ["math.archFloor", "math.Float64bits", "math.Float64frombits", "math.archTrunc"], unfollowed := true, recurses := true, apart := false }
def FnExactBendPictureSaid : Prop := fnExactBendPictureRow.holds Try.pinned (OpenSpec.ofChange fnExactBendPictureSpec)

/-- ITS FALSE NEIGHBOUR: 'it returns false'. Refute it at one input. -/
def fnExactBendPictureWrong : ChangeSpec := { name := "fnExactBendPicture", fn := fun _ => fun
  | [d1, d2] => { results := [.lit (.bool false)], args := [d1, d2] }
  | _ => none }
def FnExactBendPictureWrongFalsely : Prop := fnExactBendPictureRow.holds Try.pinned (OpenSpec.ofChange fnExactBendPictureWrong)

/-- 'laws.FnExactPlanesOf': WHATEVER THE INPUT: true; the input reads as it did. -/
def fnExactPlanesOfSpec : ChangeSpec := { name := "fnExactPlanesOf", fn := fun _ => fun
  | [d] => { results := [.lit (.bool true)], args := [d] }
  | _ => none }
def fnExactPlanesOfRow : OpenClaim := { program := "ytjibkdglakfjgaa", sum := "650b3b2cfc99ae1d4293b0671fabc26b816835872aaf79acb7a2f37935525646", func := "loop.example/g01308/laws.FnExactPlanesOf", spec := "fnExactPlanesOf", inPlace := ["math.Float64bits", "math.Float64frombits", "math.RoundToEven"], unfollowed := true, recurses := true, apart := false }
def FnExactPlanesOfSaid : Prop := fnExactPlanesOfRow.holds Try.pinned (OpenSpec.ofChange fnExactPlanesOfSpec)

/-- ITS FALSE NEIGHBOUR: 'it returns false'. Refute it at one input. -/
def fnExactPlanesOfWrong : ChangeSpec := { name := "fnExactPlanesOf", fn := fun _ => fun
  | [d] => { results := [.lit (.bool false)], args := [d] }
  | _ => none }
def FnExactPlanesOfWrongFalsely : Prop := fnExactPlanesOfRow.holds Try.pinned (OpenSpec.ofChange fnExactPlanesOfWrong)

/-- 'laws.FnLevels': WHATEVER THE INPUT: true; the input reads as it did. -/
def fnLevelsSpec : ChangeSpec := { name := "fnLevels", fn := fun _ => fun
  | [d1, d2] => { results := [.lit (.bool true)], args := [d1, d2] }
  | _ => none }
def fnLevelsRow : OpenClaim := { program := "ytjibkdglakfjgaa", sum := "650b3b2cfc99ae1d4293b0671fabc26b816835872aaf79acb7a2f37935525646", func := "loop.example/g01308/laws.FnLevels", spec := "fnLevels", inPlace := ["math.archFloor", "math.Float64bits", "math.Float64frombits", "math.archTrunc", "math.Float32bits", "math.sqrt"], unfollowed := true, recurses := true, apart := false }
def FnLevelsSaid : Prop := fnLevelsRow.holds Try.pinned (OpenSpec.ofChange fnLevelsSpec)

/-- ITS FALSE NEIGHBOUR: 'it returns false'. Refute it at one input. -/
def fnLevelsWrong : ChangeSpec := { name := "fnLevels", fn := fun _ => fun
  | [d1, d2] => { results := [.lit (.bool false)], args := [d1, d2] }
  | _ => none }
def FnLevelsWrongFalsely : Prop := fnLevelsRow.holds Try.pinned (OpenSpec.ofChange fnLevelsWrong)

/-- 'laws.FnExactHalvedPicture': WHATEVER THE INPUT: true; the input reads as it did. -/
def fnExactHalvedPictureSpec : ChangeSpec := { name := "fnExactHalvedPicture", fn := fun _ => fun
  | [d] => { results := [.lit (.bool true)], args := [d] }
  | _ => none }
def fnExactHalvedPictureRow : OpenClaim := { program := "ytjibkdglakfjgaa", sum := "650b3b2cfc99ae1d4293b0671fabc26b816835872aaf79acb7a2f37935525646", func := "loop.example/g01308/laws.FnExactHalvedPicture", spec := "fnExactHalvedPicture", inPlace := ["math.Float64bits", "math.Float64frombits", "math.RoundToEven"], unfollowed := true, recurses := true, apart := false }
def FnExactHalvedPictureSaid : Prop := fnExactHalvedPictureRow.holds Try.pinned (OpenSpec.ofChange fnExactHalvedPictureSpec)

/-- ITS FALSE NEIGHBOUR: 'it returns false'. Refute it at one input. -/
def fnExactHalvedPictureWrong : ChangeSpec := { name := "fnExactHalvedPicture", fn := fun _ => fun
  | [d] => { results := [.lit (.bool false)], args := [d] }
  | _ => none }
def FnExactHalvedPictureWrongFalsely : Prop := fnExactHalvedPictureRow.holds Try.pinned (OpenSpec.ofChange fnExactHalvedPictureWrong)

/-- 'laws.FnExactWorstHalf': WHATEVER THE INPUT: true; the input reads as it did. -/
def fnExactWorstHalfSpec : ChangeSpec := { name := "fnExactWorstHalf", fn := fun _ => fun
  | [d] => { results := [.lit (.bool true)], args := [d] }
  | _ => none }
def fnExactWorstHalfRow : OpenClaim := { program := "ytjibkdglakfjgaa", sum := "650b3b2cfc99ae1d4293b0671fabc26b816835872aaf79acb7a2f37935525646", func := "loop.example/g01308/laws.FnExactWorstHalf", spec := "fnExactWorstHalf", inPlace := ["math.Float64bits", "math.Float64frombits", "math.RoundToEven"], unfollowed := true, recurses := true, apart := false }
def FnExactWorstHalfSaid : Prop := fnExactWorstHalfRow.holds Try.pinned (OpenSpec.ofChange fnExactWorstHalfSpec)

/-- ITS FALSE NEIGHBOUR: 'it returns false'. Refute it at one input. -/
def fnExactWorstHalfWrong : ChangeSpec := { name := "fnExactWorstHalf", fn := fun _ => fun
  | [d] => { results := [.lit (.bool false)], args := [d] }
  | _ => none }
def FnExactWorstHalfWrongFalsely : Prop := fnExactWorstHalfRow.holds Try.pinned (OpenSpec.ofChange fnExactWorstHalfWrong)

/- THE SECOND FORM. 'bulk': how many values and letters a reading holds, each counted each time it is reached (what is shared counts as often as it is met; a slice's spare places count too). A statement '..UptoSaid' is the law's where the arguments, and the package variables that the reading takes, are together of bulk at most 1048576: NARROWER than '..Said'. Prove '..Said' where nothing that the law and all that it calls make is longer than what came in: it says more and counts as full. Else prove '..UptoSaid'. A law counts once. -/
mutual
def uptoBulk {H : Type} : DataW H → Nat
  | .lit (.string bytes) => bytes.length + 1
  | .lit _ => 1
  | .nil => 1
  | .ptr d => uptoBulk d + 1
  | .slice elems spare => uptoBulkAll elems + uptoBulkAll spare + 1
  | .agg parts => uptoBulkAll parts + 1
  | .iface _ d => uptoBulk d + 1
  | .map entries => uptoBulkEntries entries + 1
  | .held _ => 1
def uptoBulkAll {H : Type} : List (DataW H) → Nat
  | [] => 0
  | d :: r => uptoBulk d + uptoBulkAll r
def uptoBulkEntries {H : Type} : List (Lit × DataW H) → Nat
  | [] => 0
  | x :: r => uptoBulkEntry x + uptoBulkEntries r
def uptoBulkEntry {H : Type} : Lit × DataW H → Nat
  | (.string bytes, d) => bytes.length + uptoBulk d + 1
  | (_, d) => uptoBulk d + 1
 end
def uptoSmall : (H : Type) → List (DataW H) → Bool := fun _ ds => decide (uptoBulkAll ds ≤ 1048576)
def OpenSpec.upto (s : _root_.Go.ChangeSpec) : _root_.Go.OpenSpec := { _root_.Go.OpenSpec.ofChange s with cond := some uptoSmall }

/-- 'laws.FnExactFlipPicture', WHERE WHAT IT READS IS OF BULK AT MOST 1048576: true; the input reads as it did. -/
def fnExactFlipPictureUptoRow : OpenClaim := { program := "ytjibkdglakfjgaa", sum := "650b3b2cfc99ae1d4293b0671fabc26b816835872aaf79acb7a2f37935525646", func := "loop.example/g01308/laws.FnExactFlipPicture", spec := "fnExactFlipPicture", unfollowed := true, recurses := true, apart := false, narrowed := true }
def FnExactFlipPictureUptoSaid : Prop := fnExactFlipPictureUptoRow.holds Try.pinned (OpenSpec.upto fnExactFlipPictureSpec)

/-- 'laws.FnExactTurnPicture', WHERE WHAT IT READS IS OF BULK AT MOST 1048576: true; the input reads as it did. -/
def fnExactTurnPictureUptoRow : OpenClaim := { program := "ytjibkdglakfjgaa", sum := "650b3b2cfc99ae1d4293b0671fabc26b816835872aaf79acb7a2f37935525646", func := "loop.example/g01308/laws.FnExactTurnPicture", spec := "fnExactTurnPicture", unfollowed := true, recurses := true, apart := false, narrowed := true }
def FnExactTurnPictureUptoSaid : Prop := fnExactTurnPictureUptoRow.holds Try.pinned (OpenSpec.upto fnExactTurnPictureSpec)

/-- 'laws.FnExactEvenTone', WHERE WHAT IT READS IS OF BULK AT MOST 1048576: true; the input reads as it did. -/
def fnExactEvenToneUptoRow : OpenClaim := { program := "ytjibkdglakfjgaa", sum := "650b3b2cfc99ae1d4293b0671fabc26b816835872aaf79acb7a2f37935525646", func := "loop.example/g01308/laws.FnExactEvenTone", spec := "fnExactEvenTone", unfollowed := true, recurses := true, apart := false, narrowed := true }
def FnExactEvenToneUptoSaid : Prop := fnExactEvenToneUptoRow.holds Try.pinned (OpenSpec.upto fnExactEvenToneSpec)

/-- 'laws.FnExactCropPicture', WHERE WHAT IT READS IS OF BULK AT MOST 1048576: true; the input reads as it did. -/
def fnExactCropPictureUptoRow : OpenClaim := { program := "ytjibkdglakfjgaa", sum := "650b3b2cfc99ae1d4293b0671fabc26b816835872aaf79acb7a2f37935525646", func := "loop.example/g01308/laws.FnExactCropPicture", spec := "fnExactCropPicture", unfollowed := true, recurses := true, apart := false, narrowed := true }
def FnExactCropPictureUptoSaid : Prop := fnExactCropPictureUptoRow.holds Try.pinned (OpenSpec.upto fnExactCropPictureSpec)

/-- 'laws.FnExactAddPictures', WHERE WHAT IT READS IS OF BULK AT MOST 1048576: true; the input reads as it did. -/
def fnExactAddPicturesUptoRow : OpenClaim := { program := "ytjibkdglakfjgaa", sum := "650b3b2cfc99ae1d4293b0671fabc26b816835872aaf79acb7a2f37935525646", func := "loop.example/g01308/laws.FnExactAddPictures", spec := "fnExactAddPictures", unfollowed := true, recurses := true, apart := false, narrowed := true }
def FnExactAddPicturesUptoSaid : Prop := fnExactAddPicturesUptoRow.holds Try.pinned (OpenSpec.upto fnExactAddPicturesSpec)

/-- 'laws.FnExactExpose', WHERE WHAT IT READS IS OF BULK AT MOST 1048576: true; the input reads as it did. -/
def fnExactExposeUptoRow : OpenClaim := { program := "ytjibkdglakfjgaa", sum := "650b3b2cfc99ae1d4293b0671fabc26b816835872aaf79acb7a2f37935525646", func := "loop.example/g01308/laws.FnExactExpose", spec := "fnExactExpose", unfollowed := true, recurses := true, apart := false, narrowed := true }
def FnExactExposeUptoSaid : Prop := fnExactExposeUptoRow.holds Try.pinned (OpenSpec.upto fnExactExposeSpec)

/-- 'laws.FnExactShiftPicture', WHERE WHAT IT READS IS OF BULK AT MOST 1048576: true; the input reads as it did. -/
def fnExactShiftPictureUptoRow : OpenClaim := { program := "ytjibkdglakfjgaa", sum := "650b3b2cfc99ae1d4293b0671fabc26b816835872aaf79acb7a2f37935525646", func := "loop.example/g01308/laws.FnExactShiftPicture", spec := "fnExactShiftPicture", unfollowed := true, recurses := true, apart := false, narrowed := true }
def FnExactShiftPictureUptoSaid : Prop := fnExactShiftPictureUptoRow.holds Try.pinned (OpenSpec.upto fnExactShiftPictureSpec)

/-- 'laws.FnExactMixPictures', WHERE WHAT IT READS IS OF BULK AT MOST 1048576: true; the input reads as it did. -/
def fnExactMixPicturesUptoRow : OpenClaim := { program := "ytjibkdglakfjgaa", sum := "650b3b2cfc99ae1d4293b0671fabc26b816835872aaf79acb7a2f37935525646", func := "loop.example/g01308/laws.FnExactMixPictures", spec := "fnExactMixPictures", unfollowed := true, recurses := true, apart := false, narrowed := true }
def FnExactMixPicturesUptoSaid : Prop := fnExactMixPicturesUptoRow.holds Try.pinned (OpenSpec.upto fnExactMixPicturesSpec)

/-- 'laws.FnExactDoublePicture', WHERE WHAT IT READS IS OF BULK AT MOST 1048576: true; the input reads as it did. -/
def fnExactDoublePictureUptoRow : OpenClaim := { program := "ytjibkdglakfjgaa", sum := "650b3b2cfc99ae1d4293b0671fabc26b816835872aaf79acb7a2f37935525646", func := "loop.example/g01308/laws.FnExactDoublePicture", spec := "fnExactDoublePicture", unfollowed := true, recurses := true, apart := false, narrowed := true }
def FnExactDoublePictureUptoSaid : Prop := fnExactDoublePictureUptoRow.holds Try.pinned (OpenSpec.upto fnExactDoublePictureSpec)

/-- 'laws.FnExactNoisyPicture', WHERE WHAT IT READS IS OF BULK AT MOST 1048576: true; the input reads as it did. -/
def fnExactNoisyPictureUptoRow : OpenClaim := { program := "ytjibkdglakfjgaa", sum := "650b3b2cfc99ae1d4293b0671fabc26b816835872aaf79acb7a2f37935525646", func := "loop.example/g01308/laws.FnExactNoisyPicture", spec := "fnExactNoisyPicture", unfollowed := true, recurses := true, apart := false, narrowed := true }
def FnExactNoisyPictureUptoSaid : Prop := fnExactNoisyPictureUptoRow.holds Try.pinned (OpenSpec.upto fnExactNoisyPictureSpec)

/-- 'laws.FnExactHaloOf', WHERE WHAT IT READS IS OF BULK AT MOST 1048576: true; the input reads as it did. -/
def fnExactHaloOfUptoRow : OpenClaim := { program := "ytjibkdglakfjgaa", sum := "650b3b2cfc99ae1d4293b0671fabc26b816835872aaf79acb7a2f37935525646", func := "loop.example/g01308/laws.FnExactHaloOf", spec := "fnExactHaloOf", unfollowed := true, recurses := true, apart := false, narrowed := true }
def FnExactHaloOfUptoSaid : Prop := fnExactHaloOfUptoRow.holds Try.pinned (OpenSpec.upto fnExactHaloOfSpec)

/-- 'laws.FnBends', WHERE WHAT IT READS IS OF BULK AT MOST 1048576: true; the input reads as it did. -/
def fnBendsUptoRow : OpenClaim := { program := "ytjibkdglakfjgaa", sum := "650b3b2cfc99ae1d4293b0671fabc26b816835872aaf79acb7a2f37935525646", func := "loop.example/g01308/laws.FnBends", spec := "fnBends", inPlace := ["math.archFloor", "math.Float64bits", "math.Float64frombits", "math.archTrunc"], unfollowed := true, recurses := true, apart := false, narrowed := true }
def FnBendsUptoSaid : Prop := fnBendsUptoRow.holds Try.pinned (OpenSpec.upto fnBendsSpec)

/-- 'laws.FnExactBoxMean', WHERE WHAT IT READS IS OF BULK AT MOST 1048576: true; the input reads as it did. -/
def fnExactBoxMeanUptoRow : OpenClaim := { program := "ytjibkdglakfjgaa", sum := "650b3b2cfc99ae1d4293b0671fabc26b816835872aaf79acb7a2f37935525646", func := "loop.example/g01308/laws.FnExactBoxMean", spec := "fnExactBoxMean", unfollowed := true, recurses := true, apart := false, narrowed := true }
def FnExactBoxMeanUptoSaid : Prop := fnExactBoxMeanUptoRow.holds Try.pinned (OpenSpec.upto fnExactBoxMeanSpec)

/-- 'laws.FnExactHalvePicture', WHERE WHAT IT READS IS OF BULK AT MOST 1048576: true; the input reads as it did. -/
def fnExactHalvePictureUptoRow : OpenClaim := { program := "ytjibkdglakfjgaa", sum := "650b3b2cfc99ae1d4293b0671fabc26b816835872aaf79acb7a2f37935525646", func := "loop.example/g01308/laws.FnExactHalvePicture", spec := "fnExactHalvePicture", unfollowed := true, recurses := true, apart := false, narrowed := true }
def FnExactHalvePictureUptoSaid : Prop := fnExactHalvePictureUptoRow.holds Try.pinned (OpenSpec.upto fnExactHalvePictureSpec)

/-- 'laws.FnExactEdgeFilter', WHERE WHAT IT READS IS OF BULK AT MOST 1048576: true; the input reads as it did. -/
def fnExactEdgeFilterUptoRow : OpenClaim := { program := "ytjibkdglakfjgaa", sum := "650b3b2cfc99ae1d4293b0671fabc26b816835872aaf79acb7a2f37935525646", func := "loop.example/g01308/laws.FnExactEdgeFilter", spec := "fnExactEdgeFilter", unfollowed := true, recurses := true, apart := false, narrowed := true }
def FnExactEdgeFilterUptoSaid : Prop := fnExactEdgeFilterUptoRow.holds Try.pinned (OpenSpec.upto fnExactEdgeFilterSpec)

/-- 'laws.FnExactSharpenPicture', WHERE WHAT IT READS IS OF BULK AT MOST 1048576: true; the input reads as it did. -/
def fnExactSharpenPictureUptoRow : OpenClaim := { program := "ytjibkdglakfjgaa", sum := "650b3b2cfc99ae1d4293b0671fabc26b816835872aaf79acb7a2f37935525646", func := "loop.example/g01308/laws.FnExactSharpenPicture", spec := "fnExactSharpenPicture", unfollowed := true, recurses := true, apart := false, narrowed := true }
def FnExactSharpenPictureUptoSaid : Prop := fnExactSharpenPictureUptoRow.holds Try.pinned (OpenSpec.upto fnExactSharpenPictureSpec)

/-- 'laws.FnExactNoiseBetween', WHERE WHAT IT READS IS OF BULK AT MOST 1048576: true; the input reads as it did. -/
def fnExactNoiseBetweenUptoRow : OpenClaim := { program := "ytjibkdglakfjgaa", sum := "650b3b2cfc99ae1d4293b0671fabc26b816835872aaf79acb7a2f37935525646", func := "loop.example/g01308/laws.FnExactNoiseBetween", spec := "fnExactNoiseBetween", inPlace := ["math.sqrt"], unfollowed := true, recurses := true, apart := false, narrowed := true }
def FnExactNoiseBetweenUptoSaid : Prop := fnExactNoiseBetweenUptoRow.holds Try.pinned (OpenSpec.upto fnExactNoiseBetweenSpec)

/-- 'laws.FnFrames', WHERE WHAT IT READS IS OF BULK AT MOST 1048576: true; the input reads as it did. -/
def fnFramesUptoRow : OpenClaim := { program := "ytjibkdglakfjgaa", sum := "650b3b2cfc99ae1d4293b0671fabc26b816835872aaf79acb7a2f37935525646", func := "loop.example/g01308/laws.FnFrames", spec := "fnFrames", inPlace := ["math.Float64bits"], unfollowed := true, recurses := true, apart := false, narrowed := true }
def FnFramesUptoSaid : Prop := fnFramesUptoRow.holds Try.pinned (OpenSpec.upto fnFramesSpec)

/-- 'laws.FnExactCurvePicture', WHERE WHAT IT READS IS OF BULK AT MOST 1048576: true; the input reads as it did. -/
def fnExactCurvePictureUptoRow : OpenClaim := { program := "ytjibkdglakfjgaa", sum := "650b3b2cfc99ae1d4293b0671fabc26b816835872aaf79acb7a2f37935525646", func := "loop.example/g01308/laws.FnExactCurvePicture", spec := "fnExactCurvePicture", unfollowed := true, recurses := true, apart := false, narrowed := true }
def FnExactCurvePictureUptoSaid : Prop := fnExactCurvePictureUptoRow.holds Try.pinned (OpenSpec.upto fnExactCurvePictureSpec)

/-- 'laws.FnExactBoxSpread', WHERE WHAT IT READS IS OF BULK AT MOST 1048576: true; the input reads as it did. -/
def fnExactBoxSpreadUptoRow : OpenClaim := { program := "ytjibkdglakfjgaa", sum := "650b3b2cfc99ae1d4293b0671fabc26b816835872aaf79acb7a2f37935525646", func := "loop.example/g01308/laws.FnExactBoxSpread", spec := "fnExactBoxSpread", unfollowed := true, recurses := true, apart := false, narrowed := true }
def FnExactBoxSpreadUptoSaid : Prop := fnExactBoxSpreadUptoRow.holds Try.pinned (OpenSpec.upto fnExactBoxSpreadSpec)

/-- 'laws.FnExactExponentCounts', WHERE WHAT IT READS IS OF BULK AT MOST 1048576: true; the input reads as it did. -/
def fnExactExponentCountsUptoRow : OpenClaim := { program := "ytjibkdglakfjgaa", sum := "650b3b2cfc99ae1d4293b0671fabc26b816835872aaf79acb7a2f37935525646", func := "loop.example/g01308/laws.FnExactExponentCounts", spec := "fnExactExponentCounts", inPlace := ["math.Float64bits", "math.Float64frombits"], unfollowed := true, recurses := true, apart := false, narrowed := true }
def FnExactExponentCountsUptoSaid : Prop := fnExactExponentCountsUptoRow.holds Try.pinned (OpenSpec.upto fnExactExponentCountsSpec)

/-- 'laws.FnExactLevelPicture', WHERE WHAT IT READS IS OF BULK AT MOST 1048576: true; the input reads as it did. -/
def fnExactLevelPictureUptoRow : OpenClaim := { program := "ytjibkdglakfjgaa", sum := "650b3b2cfc99ae1d4293b0671fabc26b816835872aaf79acb7a2f37935525646", func := "loop.example/g01308/laws.FnExactLevelPicture", spec := "fnExactLevelPicture", inPlace := ["math.archFloor", "math.Float64bits", "math.Float64frombits", "math.archTrunc"], unfollowed := true, recurses := true, apart := false, narrowed := true }
def FnExactLevelPictureUptoSaid : Prop := fnExactLevelPictureUptoRow.holds Try.pinned (OpenSpec.upto fnExactLevelPictureSpec)

/-- 'laws.FnExactFromPlanes', WHERE WHAT IT READS IS OF BULK AT MOST 1048576: true; the input reads as it did. -/
def fnExactFromPlanesUptoRow : OpenClaim := { program := "ytjibkdglakfjgaa", sum := "650b3b2cfc99ae1d4293b0671fabc26b816835872aaf79acb7a2f37935525646", func := "loop.example/g01308/laws.FnExactFromPlanes", spec := "fnExactFromPlanes", inPlace := ["math.Float64bits", "math.Float64frombits"], unfollowed := true, recurses := true, apart := false, narrowed := true }
def FnExactFromPlanesUptoSaid : Prop := fnExactFromPlanesUptoRow.holds Try.pinned (OpenSpec.upto fnExactFromPlanesSpec)

/-- 'laws.FnExactMedianLight', WHERE WHAT IT READS IS OF BULK AT MOST 1048576: true; the input reads as it did. -/
def fnExactMedianLightUptoRow : OpenClaim := { program := "ytjibkdglakfjgaa", sum := "650b3b2cfc99ae1d4293b0671fabc26b816835872aaf79acb7a2f37935525646", func := "loop.example/g01308/laws.FnExactMedianLight", spec := "fnExactMedianLight", unfollowed := true, recurses := true, apart := false, narrowed := true }
def FnExactMedianLightUptoSaid : Prop := fnExactMedianLightUptoRow.holds Try.pinned (OpenSpec.upto fnExactMedianLightSpec)

/-- 'laws.FnExactBendPicture', WHERE WHAT IT READS IS OF BULK AT MOST 1048576: true; the input reads as it did. -/
def fnExactBendPictureUptoRow : OpenClaim := { program := "ytjibkdglakfjgaa", sum := "650b3b2cfc99ae1d4293b0671fabc26b816835872aaf79acb7a2f37935525646", func := "loop.example/g01308/laws.FnExactBendPicture", spec := "fnExactBendPicture", inPlace := ["math.archFloor", "math.Float64bits", "math.Float64frombits", "math.archTrunc"], unfollowed := true, recurses := true, apart := false, narrowed := true }
def FnExactBendPictureUptoSaid : Prop := fnExactBendPictureUptoRow.holds Try.pinned (OpenSpec.upto fnExactBendPictureSpec)

/-- 'laws.FnExactPlanesOf', WHERE WHAT IT READS IS OF BULK AT MOST 1048576: true; the input reads as it did. -/
def fnExactPlanesOfUptoRow : OpenClaim := { program := "ytjibkdglakfjgaa", sum := "650b3b2cfc99ae1d4293b0671fabc26b816835872aaf79acb7a2f37935525646", func := "loop.example/g01308/laws.FnExactPlanesOf", spec := "fnExactPlanesOf", inPlace := ["math.Float64bits", "math.Float64frombits", "math.RoundToEven"], unfollowed := true, recurses := true, apart := false, narrowed := true }
def FnExactPlanesOfUptoSaid : Prop := fnExactPlanesOfUptoRow.holds Try.pinned (OpenSpec.upto fnExactPlanesOfSpec)

/-- 'laws.FnLevels', WHERE WHAT IT READS IS OF BULK AT MOST 1048576: true; the input reads as it did. -/
def fnLevelsUptoRow : OpenClaim := { program := "ytjibkdglakfjgaa", sum := "650b3b2cfc99ae1d4293b0671fabc26b816835872aaf79acb7a2f37935525646", func := "loop.example/g01308/laws.FnLevels", spec := "fnLevels", inPlace := ["math.archFloor", "math.Float64bits", "math.Float64frombits", "math.archTrunc", "math.Float32bits", "math.sqrt"], unfollowed := true, recurses := true, apart := false, narrowed := true }
def FnLevelsUptoSaid : Prop := fnLevelsUptoRow.holds Try.pinned (OpenSpec.upto fnLevelsSpec)

/-- 'laws.FnExactHalvedPicture', WHERE WHAT IT READS IS OF BULK AT MOST 1048576: true; the input reads as it did. -/
def fnExactHalvedPictureUptoRow : OpenClaim := { program := "ytjibkdglakfjgaa", sum := "650b3b2cfc99ae1d4293b0671fabc26b816835872aaf79acb7a2f37935525646", func := "loop.example/g01308/laws.FnExactHalvedPicture", spec := "fnExactHalvedPicture", inPlace := ["math.Float64bits", "math.Float64frombits", "math.RoundToEven"], unfollowed := true, recurses := true, apart := false, narrowed := true }
def FnExactHalvedPictureUptoSaid : Prop := fnExactHalvedPictureUptoRow.holds Try.pinned (OpenSpec.upto fnExactHalvedPictureSpec)

/-- 'laws.FnExactWorstHalf', WHERE WHAT IT READS IS OF BULK AT MOST 1048576: true; the input reads as it did. -/
def fnExactWorstHalfUptoRow : OpenClaim := { program := "ytjibkdglakfjgaa", sum := "650b3b2cfc99ae1d4293b0671fabc26b816835872aaf79acb7a2f37935525646", func := "loop.example/g01308/laws.FnExactWorstHalf", spec := "fnExactWorstHalf", inPlace := ["math.Float64bits", "math.Float64frombits", "math.RoundToEven"], unfollowed := true, recurses := true, apart := false, narrowed := true }
def FnExactWorstHalfUptoSaid : Prop := fnExactWorstHalfUptoRow.holds Try.pinned (OpenSpec.upto fnExactWorstHalfSpec)

end Rows
end Go.Proofs.Ytjibkdglakfjgaa
